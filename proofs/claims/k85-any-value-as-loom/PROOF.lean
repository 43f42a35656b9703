import PyProof.Rows.All
import Wide.All
import OpenK.AllK
import Wide.FinOn
import HandS.ForMost
import HandS.IsInst
import HandS.TupAny
import HandS.TupMul
import HandS.Style
import HandS.Deep
import HandS.Conv
import HandS.Zip
import HandS.RaiseMore
import KE.GoesEnum
import KE.GoesMore
import HandS.Strs
import HandS.SetFor
import HandS.Ends
import PyProof.P3Eq
import PyProof.ReprLen
import PySem.Challenge.RW_onecloth_k85_any_value_as_loom
set_option Elab.async false
set_option linter.all false
set_option maxRecDepth 100000
set_option maxHeartbeats 4000000
/-! DL, part 1: data trees over the abstract heap, slots, frames. -/
namespace DL
open PySem PySem.Spec PyProof.Rows L2

/-! ### heaps -/
def Ex (H H' : Hp) : Prop := ∀ a o, H a = some o → H' a = some o
theorem Ex.refl (H : Hp) : Ex H H := fun _ _ h => h
theorem Ex.trans {H H1 H2 : Hp} (a : Ex H H1) (b : Ex H1 H2) : Ex H H2 := fun x o h => b x o (a x o h)
theorem Ex.live {H H' : Hp} (e : Ex H H') {b : Addr} (h : H b ≠ none) : H' b ≠ none := by
  cases q : H b with
  | none => exact absurd q h
  | some o => rw [e b o q]; simp
theorem Ex.free {H H' : Hp} (e : Ex H H') {b : Addr} (h : H' b = none) : H b = none := by
  cases q : H b with
  | none => rfl
  | some o => rw [e b o q] at h; cases h
theorem Ex.new {H : Hp} {p : Addr} {o : HO} (h : H p = none) : Ex H (upd H p o) := fun a u e => by
  rw [upd_ne (ne_of_none e h)]; exact e
theorem Ex.rd {H H' : Hp} {a : Addr} {u : HO} (e : Ex H H') (h : Rd H a u) : Rd H' a u := by
  rcases h with h | ⟨o, h⟩
  · exact .inl (e a _ h)
  · exact .inr ⟨o, e a _ h⟩
theorem Ex.sl {K : PySem.W.Frag} {H H' : Hp} {a : Addr} {xs : List V} (e : Ex H H') (h : SqL K H a xs) : SqL K H' a xs := by
  rcases h with h | h
  · exact .inl (e.rd h)
  · exact .inr h
theorem Ex.st {K : PySem.W.Frag} {H H' : Hp} {a : Addr} {xs : List V} (e : Ex H H') (h : SqT K H a xs) : SqT K H' a xs := by
  rcases h with h | h
  · exact .inl (e.rd h)
  · exact .inr h

/-! ### data at values -/
def keyD : Key → PyData
  | .inl i => .int i
  | .inr x => .str x
mutual
inductive Rp (K : PySem.W.Frag) (H : Hp) : V → PyData → Prop
  | non : Rp K H .non .none
  | bl (b : Bool) : Rp K H (.bl b) (.bool b)
  | int (i : Int) : Rp K H (.int i) (.int i)
  | str (x : Str) : Rp K H (.str x) (.str x)
  | lst {a : Addr} {xs : List V} {ds : List PyData} : H a = some (.lst xs) → RpAll K H xs ds → Rp K H (.ref a) (.list ds)
  | tup {a : Addr} {xs : List V} {ds : List PyData} : SqT K H a xs → RpAll K H xs ds → Rp K H (.ref a) (.tuple ds)
  | dic {a : Addr} {kvs : List (Key × V)} {ds : List (PyData × PyData)} : Rd H a (.dK kvs) → RpKV K H kvs ds → Rp K H (.ref a) (.dict ds)
  /-- the law's script: a list that is read alone -/
  | scr {a : Addr} {xs : List V} {ds : List PyData} : SqL K H a xs → RpAll K H xs ds → Rp K H (.ref a) (.dict [(.none, .list ds)])
inductive RpAll (K : PySem.W.Frag) (H : Hp) : List V → List PyData → Prop
  | nil : RpAll K H [] []
  | cons {v : V} {vs : List V} {d : PyData} {ds : List PyData} : Rp K H v d → RpAll K H vs ds → RpAll K H (v :: vs) (d :: ds)
inductive RpKV (K : PySem.W.Frag) (H : Hp) : List (Key × V) → List (PyData × PyData) → Prop
  | nil : RpKV K H [] []
  | cons {k : Key} {v : V} {r : List (Key × V)} {d : PyData} {ds : List (PyData × PyData)} : Rp K H v d → RpKV K H r ds → RpKV K H ((k, v) :: r) ((keyD k, d) :: ds)
end

section
variable {K : PySem.W.Frag} {H H' : Hp}
mutual
theorem Rp.mono (e : Ex H H') : ∀ {v : V} {d : PyData}, Rp K H v d → Rp K H' v d
  | _, _, .non => .non
  | _, _, .bl b => .bl b
  | _, _, .int i => .int i
  | _, _, .str x => .str x
  | _, _, .lst h r => .lst (e _ _ h) (RpAll.mono e r)
  | _, _, .tup h r => .tup (e.st h) (RpAll.mono e r)
  | _, _, .dic h r => .dic (e.rd h) (RpKV.mono e r)
  | _, _, .scr h r => .scr (e.sl h) (RpAll.mono e r)
theorem RpAll.mono (e : Ex H H') : ∀ {vs : List V} {ds : List PyData}, RpAll K H vs ds → RpAll K H' vs ds
  | _, _, .nil => .nil
  | _, _, .cons h r => .cons (Rp.mono e h) (RpAll.mono e r)
theorem RpKV.mono (e : Ex H H') : ∀ {vs : List (Key × V)} {ds : List (PyData × PyData)}, RpKV K H vs ds → RpKV K H' vs ds
  | _, _, .nil => .nil
  | _, _, .cons h r => .cons (Rp.mono e h) (RpKV.mono e r)
end
theorem RpAll.length : ∀ {vs : List V} {ds : List PyData}, RpAll K H vs ds → vs.length = ds.length
  | _, _, .nil => rfl
  | _, _, .cons _ r => by simp [r.length]
theorem RpAll.get : ∀ {vs : List V} {ds : List PyData} {i : Nat} {d : PyData}, RpAll K H vs ds → ds[i]? = some d → ∃ v, vs[i]? = some v ∧ Rp K H v d
  | _, _, _, _, .nil, e => by simp at e
  | _, _, 0, _, .cons r _, e => by simp at e; subst e; exact ⟨_, rfl, r⟩
  | _, _, i + 1, d, .cons _ t, e => by
    obtain ⟨v, h1, h2⟩ := RpAll.get (i := i) (d := d) t (by simpa using e)
    exact ⟨v, by simpa using h1, h2⟩
theorem RpAll.getV : ∀ {vs : List V} {ds : List PyData} {i : Nat} {v : V}, RpAll K H vs ds → vs[i]? = some v → ∃ d, ds[i]? = some d ∧ Rp K H v d
  | _, _, _, _, .nil, e => by simp at e
  | _, _, 0, _, .cons r _, e => by simp at e; subst e; exact ⟨_, rfl, r⟩
  | _, _, i + 1, v, .cons _ t, e => by
    obtain ⟨d, h1, h2⟩ := RpAll.getV (i := i) (v := v) t (by simpa using e)
    exact ⟨d, by simpa using h1, h2⟩
theorem RpAll.append : ∀ {vs ws : List V} {ds es : List PyData}, RpAll K H vs ds → RpAll K H ws es → RpAll K H (vs ++ ws) (ds ++ es)
  | _, _, _, _, .nil, s => s
  | _, _, _, _, .cons r t, s => .cons r (RpAll.append t s)
theorem RpAll.take : ∀ {vs : List V} {ds : List PyData} (n : Nat), RpAll K H vs ds → RpAll K H (vs.take n) (ds.take n)
  | _, _, 0, _ => .nil
  | _, _, _ + 1, .nil => .nil
  | _, _, n + 1, .cons r t => .cons r (RpAll.take n t)
theorem RpAll.drop : ∀ {vs : List V} {ds : List PyData} (n : Nat), RpAll K H vs ds → RpAll K H (vs.drop n) (ds.drop n)
  | _, _, 0, r => r
  | _, _, _ + 1, .nil => .nil
  | _, _, n + 1, .cons _ t => RpAll.drop n t
theorem RpAll.set {v : V} {d : PyData} (r : Rp K H v d) : ∀ {vs : List V} {ds : List PyData} (i : Nat), RpAll K H vs ds → RpAll K H (vs.set i v) (ds.set i d)
  | _, _, _, .nil => .nil
  | _, _, 0, .cons _ t => .cons r t
  | _, _, i + 1, .cons q t => .cons q (RpAll.set r i t)
theorem RpAll.reverse {vs : List V} {ds : List PyData} (h : RpAll K H vs ds) : RpAll K H vs.reverse ds.reverse := by
  induction vs generalizing ds with
  | nil => cases h; exact .nil
  | cons v vs ih =>
    cases h with
    | cons r t =>
      rw [List.reverse_cons, List.reverse_cons]
      exact (ih t).append (.cons r .nil)
theorem RpAll.eraseIdx : ∀ {vs : List V} {ds : List PyData} (i : Nat), RpAll K H vs ds → RpAll K H (vs.eraseIdx i) (ds.eraseIdx i)
  | _, _, _, .nil => .nil
  | _, _, 0, .cons _ t => t
  | _, _, i + 1, .cons q t => .cons q (RpAll.eraseIdx i t)
theorem RpAll.dropLast {vs : List V} {ds : List PyData} (h : RpAll K H vs ds) : RpAll K H vs.dropLast ds.dropLast := by
  rw [List.dropLast_eq_take, List.dropLast_eq_take, h.length]
  exact h.take _
theorem RpAll.flat {vs : List V} {ds : List PyData} (h : RpAll K H vs ds) : ∀ n : Nat, RpAll K H (List.replicate n vs).flatten (List.replicate n ds).flatten
  | 0 => .nil
  | n + 1 => by
    rw [List.replicate_succ, List.replicate_succ, List.flatten_cons, List.flatten_cons]
    exact h.append (h.flat n)
theorem RpAll.bools : ∀ {bs : List Bool} {vs : List V}, RpAll K H vs (bs.map .bool) → vs = bs.map V.bl
  | [], _, .nil => rfl
  | b :: bs, _, .cons r t => by cases r; rw [RpAll.bools t]; rfl
theorem RpAll.ints : ∀ {ns : List Int} {vs : List V}, RpAll K H vs (ns.map .int) → vs = ns.map V.int
  | [], _, .nil => rfl
  | b :: bs, _, .cons r t => by cases r; rw [RpAll.ints t]; rfl
theorem RpAll.strs : ∀ {ns : List Str} {vs : List V}, RpAll K H vs (ns.map .str) → vs = ns.map V.str
  | [], _, .nil => rfl
  | b :: bs, _, .cons r t => by cases r; rw [RpAll.strs t]; rfl
theorem RpAll.of_ints : ∀ (ns : List Int), RpAll K H (ns.map V.int) (ns.map .int)
  | [] => .nil
  | n :: ns => .cons (.int n) (RpAll.of_ints ns)
theorem RpAll.of_strs : ∀ (ns : List Str), RpAll K H (ns.map V.str) (ns.map .str)
  | [] => .nil
  | n :: ns => .cons (.str n) (RpAll.of_strs ns)
end

/-! ### slots -/
/-- what is told of a slot: nothing; it holds these data, that stand still; it holds a list of its own (b: borrowed from the caller) -/
inductive SD where
  | un
  | d (x : PyData)
  | own (b : Bool) (xs : List PyData)

/-- a frame's entry: the heap, what is known of it, the slots -/
structure Fr where
  H0 : Hp
  G0 : Hp
  Dl : List SD
  s0 : L2.St
/-- a is the address of a list that is borrowed -/
def Fr.B (F : Fr) (a : Addr) : Prop := ∃ (i : Nat) (b : Bool) (xs : List PyData), F.Dl[i]? = some (.own b xs) ∧ F.s0[i]? = some (some (.ref a))

/-- the slots S as they are told, the heap H, of which G is known and stands still -/
structure SR (K : PySem.W.Frag) (F : Fr) (S : List SD) (σ : L2.St) (H G : Hp) : Prop where
  len : σ.length = S.length
  g0 : Ex F.G0 G
  gh : Ex G H
  new : ∀ b, G b ≠ none → F.G0 b ≠ none ∨ F.H0 b = none
  keep : ∀ b o, F.H0 b = some o → ¬ F.B b → H b = some o
  live : ∀ b, F.H0 b ≠ none → H b ≠ none
  dat : ∀ (i : Nat) (x : PyData), S[i]? = some (.d x) → ∃ v, σ[i]? = some (some v) ∧ Rp K G v x
  own : ∀ (i : Nat) (b : Bool) (xs : List PyData), S[i]? = some (.own b xs) → ∃ a vs, σ[i]? = some (some (.ref a)) ∧ G a = none ∧ H a = some (.lst vs) ∧ RpAll K G vs xs ∧
    (b = true → F.B a ∧ F.s0[i]? = some (some (.ref a))) ∧ (b = false → F.H0 a = none)
  sep : ∀ (i j : Nat) (a : Addr) (b1 : Bool) (x1 : List PyData) (b2 : Bool) (x2 : List PyData), S[i]? = some (.own b1 x1) → S[j]? = some (.own b2 x2) → σ[i]? = some (some (.ref a)) → σ[j]? = some (some (.ref a)) → i = j

/-- the heap grows by new known objects alone -/
structure PX (G H G' H' : Hp) : Prop where
  gg : Ex G G'
  hh : Ex H H'
  gh : Ex G' H'
  new : ∀ b, G' b ≠ none → G b ≠ none ∨ H b = none
theorem PX.refl {G H : Hp} (e : Ex G H) : PX G H G H := ⟨.refl _, .refl _, e, fun _ h => .inl h⟩
theorem PX.trans {G H G1 H1 G2 H2 : Hp} (a : PX G H G1 H1) (b : PX G1 H1 G2 H2) : PX G H G2 H2 :=
  ⟨a.gg.trans b.gg, a.hh.trans b.hh, b.gh, fun x h => (b.new x h).elim (a.new x) fun q => .inr (a.hh.free q)⟩
/-- a new object, known -/
theorem PX.laid {G H : Hp} {p : Addr} {o : HO} (e : Ex G H) (h : H p = none) : PX G H (upd G p o) (upd H p o) := by
  refine ⟨.new (e.free h), .new h, fun b u q => ?_, fun b q => ?_⟩
  · by_cases hb : b = p
    · subst hb; rw [upd_same] at q ⊢; exact q
    · rw [upd_ne hb] at q ⊢; exact e b u q
  · by_cases hb : b = p
    · subst hb; exact .inr h
    · rw [upd_ne hb] at q; exact .inl q
/-- a new object, unknown -/
theorem PX.side {G H : Hp} {p : Addr} {o : HO} (e : Ex G H) (h : H p = none) : PX G H G (upd H p o) :=
  ⟨.refl _, .new h, e.trans (.new h), fun _ q => .inl q⟩

section
variable {K : PySem.W.Frag} {F : Fr} {S S' : List SD} {σ : L2.St} {H G H' G' : Hp}
theorem SR.ext (r : SR K F S σ H G) (p : PX G H G' H') : SR K F S σ H' G' := by
  refine ⟨r.len, r.g0.trans p.gg, p.gh, fun b h => ?_, fun b o h n => p.hh b o (r.keep b o h n), fun b h => p.hh.live (r.live b h), fun i x h => ?_, fun i b xs h => ?_, r.sep⟩
  · rcases p.new b h with q | q
    · exact r.new b q
    · cases z : F.H0 b with
      | none => exact .inr rfl
      | some o => exact absurd q (r.live b (by rw [z]; simp))
  · obtain ⟨v, h1, h2⟩ := r.dat i x h
    exact ⟨v, h1, h2.mono p.gg⟩
  · obtain ⟨a, vs, h1, h2, h3, h4, h5⟩ := r.own i b xs h
    refine ⟨a, vs, h1, ?_, p.hh a _ h3, h4.mono p.gg, h5⟩
    cases z : G' a with
    | none => rfl
    | some o =>
      rcases p.new a (by rw [z]; simp) with q | q
      · exact absurd h2 q
      · rw [h3] at q; cases q
/-- a slot is given data -/
theorem SR.setD (r : SR K F S σ H G) (i : Nat) {v : V} {x : PyData} (h : Rp K G v x) : SR K F (S.set i (.d x)) (σ.set i (some v)) H G := by
  have L := r.len
  refine ⟨by simp [L], r.g0, r.gh, r.new, r.keep, r.live, fun j y e => ?_, fun j b xs e => ?_, fun j k a b1 x1 b2 x2 e1 e2 e3 e4 => ?_⟩
  · by_cases hj : i = j
    · subst hj
      by_cases hl : i < S.length
      · rw [List.getElem?_set_self hl] at e
        cases e
        exact ⟨v, by rw [List.getElem?_set_self (by omega)], h⟩
      · rw [List.getElem?_eq_none (by simpa using Nat.le_of_not_lt hl)] at e; cases e
    · rw [List.getElem?_set_ne hj] at e ⊢
      exact r.dat j y e
  · by_cases hj : i = j
    · subst hj
      by_cases hl : i < S.length
      · rw [List.getElem?_set_self hl] at e; cases e
      · rw [List.getElem?_eq_none (by simpa using Nat.le_of_not_lt hl)] at e; cases e
    · rw [List.getElem?_set_ne hj] at e ⊢
      exact r.own j b xs e
  · have ne : ∀ m c y, (S.set i (.d x))[m]? = some (.own c y) → i ≠ m := fun m c y e q => by
      subst q
      by_cases hl : i < S.length
      · rw [List.getElem?_set_self hl] at e; cases e
      · rw [List.getElem?_eq_none (by simpa using Nat.le_of_not_lt hl)] at e; cases e
    have n1 := ne _ _ _ e1
    have n2 := ne _ _ _ e2
    rw [List.getElem?_set_ne n1] at e1 e3
    rw [List.getElem?_set_ne n2] at e2 e4
    exact r.sep j k a b1 x1 b2 x2 e1 e2 e3 e4
/-- an address that no slot owns -/
def Apart (S : List SD) (σ : L2.St) (a : Addr) : Prop := ∀ (i : Nat) (b : Bool) (xs : List PyData), S[i]? = some (.own b xs) → σ[i]? ≠ some (some (.ref a))
/-- a slot is given a fresh list -/
theorem SR.setO (r : SR K F S σ H G) (i : Nat) {a : Addr} {vs : List V} {xs : List PyData} (hg : G a = none) (hh : H a = some (.lst vs)) (h : RpAll K G vs xs) (h0 : F.H0 a = none) (ap : Apart S σ a) :
    SR K F (S.set i (.own false xs)) (σ.set i (some (.ref a))) H G := by
  have L := r.len
  refine ⟨by simp [L], r.g0, r.gh, r.new, r.keep, r.live, fun j y e => ?_, fun j b ys e => ?_, fun j k c b1 x1 b2 x2 e1 e2 e3 e4 => ?_⟩
  · by_cases hj : i = j
    · subst hj
      by_cases hl : i < S.length
      · rw [List.getElem?_set_self hl] at e; cases e
      · rw [List.getElem?_eq_none (by simpa using Nat.le_of_not_lt hl)] at e; cases e
    · rw [List.getElem?_set_ne hj] at e ⊢
      exact r.dat j y e
  · by_cases hj : i = j
    · subst hj
      by_cases hl : i < S.length
      · rw [List.getElem?_set_self hl] at e
        cases e
        exact ⟨a, vs, by rw [List.getElem?_set_self (by omega)], hg, hh, h, (fun q => by cases q), fun _ => h0⟩
      · rw [List.getElem?_eq_none (by simpa using Nat.le_of_not_lt hl)] at e; cases e
    · rw [List.getElem?_set_ne hj] at e ⊢
      exact r.own j b ys e
  · by_cases hj : i = j
    · by_cases hk : i = k
      · exact hj.symm.trans hk
      · subst hj
        rw [List.getElem?_set_ne hk] at e2 e4
        by_cases hl : i < S.length
        · rw [List.getElem?_set_self (by omega)] at e3
          cases e3
          exact absurd e4 (ap k _ _ e2)
        · rw [List.getElem?_eq_none (by simpa using Nat.le_of_not_lt hl)] at e1; cases e1
    · rw [List.getElem?_set_ne hj] at e1 e3
      by_cases hk : i = k
      · subst hk
        by_cases hl : i < S.length
        · rw [List.getElem?_set_self (by omega)] at e4
          cases e4
          exact absurd e3 (ap j _ _ e1)
        · rw [List.getElem?_eq_none (by simpa using Nat.le_of_not_lt hl)] at e2; cases e2
      · rw [List.getElem?_set_ne hk] at e2 e4
        exact r.sep j k c b1 x1 b2 x2 e1 e2 e3 e4
/-- a slot's list becomes known -/
theorem SR.freeze (r : SR K F S σ H G) {i : Nat} {xs : List PyData} (e : S[i]? = some (.own false xs)) :
    ∃ v G', Ex G G' ∧ σ[i]? = some (some v) ∧ Rp K G' v (.list xs) ∧ SR K F (S.set i (.d (.list xs))) σ H G' := by
  obtain ⟨a, vs, h1, h2, h3, h4, _, h6⟩ := r.own i _ _ e
  have e0 : F.H0 a = none := h6 rfl
  have eg : Ex G (upd G a (.lst vs)) := .new h2
  have hl : i < S.length := (List.getElem?_eq_some_iff.mp e).1
  have rp : Rp K (upd G a (.lst vs)) (.ref a) (.list xs) := .lst upd_same (h4.mono eg)
  refine ⟨.ref a, upd G a (.lst vs), eg, h1, rp, ⟨by simp [r.len], r.g0.trans eg, fun b o q => ?_, fun b q => ?_, r.keep, r.live, fun j y q => ?_, fun j b ys q => ?_, fun j k c b1 x1 b2 x2 e1 e2 e3 e4 => ?_⟩⟩
  · by_cases hb : b = a
    · subst hb; rw [upd_same] at q; cases q; exact h3
    · rw [upd_ne hb] at q; exact r.gh b o q
  · by_cases hb : b = a
    · subst hb; exact .inr e0
    · rw [upd_ne hb] at q; exact r.new b q
  · by_cases hj : i = j
    · subst hj
      rw [List.getElem?_set_self hl] at q
      cases q
      exact ⟨.ref a, h1, rp⟩
    · rw [List.getElem?_set_ne hj] at q
      obtain ⟨v, q1, q2⟩ := r.dat j y q
      exact ⟨v, q1, q2.mono eg⟩
  · by_cases hj : i = j
    · subst hj
      rw [List.getElem?_set_self hl] at q; cases q
    · rw [List.getElem?_set_ne hj] at q
      obtain ⟨c, ws, q1, q2, q3, q4, q5⟩ := r.own j b ys q
      refine ⟨c, ws, q1, ?_, q3, q4.mono eg, q5⟩
      have nc : c ≠ a := fun z => by
        subst z
        exact hj (r.sep i j c _ _ _ _ e q h1 q1)
      rw [upd_ne nc]; exact q2
  · have ne : ∀ m c y, (S.set i (.d (.list xs)))[m]? = some (.own c y) → i ≠ m := fun m c y e q => by
      subst q
      rw [List.getElem?_set_self hl] at e; cases e
    have n1 := ne _ _ _ e1
    have n2 := ne _ _ _ e2
    rw [List.getElem?_set_ne n1] at e1
    rw [List.getElem?_set_ne n2] at e2
    exact r.sep j k c b1 x1 b2 x2 e1 e2 e3 e4
/-- a slot's list is written -/
theorem SR.write (r : SR K F S σ H G) {i : Nat} {b : Bool} {xs ys : List PyData} {a : Addr} {ws : List V} (e : S[i]? = some (.own b xs)) (ea : σ[i]? = some (some (.ref a))) (hw : RpAll K G ws ys) :
    SR K F (S.set i (.own b ys)) σ (upd H a (.lst ws)) G := by
  obtain ⟨a', vs, h1, h2, h3, h4, h5, h6⟩ := r.own i _ _ e
  have ea' : a = a' := by rw [ea] at h1; exact V.ref.inj (Option.some.inj (Option.some.inj h1))
  subst ea'
  have hl : i < S.length := (List.getElem?_eq_some_iff.mp e).1
  refine ⟨by simp [r.len], r.g0, fun c o q => ?_, r.new, fun c o q n => ?_, fun c q => ?_, fun j y q => ?_, fun j c zs q => ?_, fun j k c b1 x1 b2 x2 e1 e2 e3 e4 => ?_⟩
  · rw [upd_ne (ne_of_none q h2)]; exact r.gh c o q
  · have nc : c ≠ a := fun z => by
      subst z
      cases b with
      | true => exact n (h5 rfl).1
      | false => rw [h6 rfl] at q; cases q
    rw [upd_ne nc]; exact r.keep c o q n
  · by_cases hc : c = a
    · subst hc; rw [upd_same]; simp
    · rw [upd_ne hc]; exact r.live c q
  · by_cases hj : i = j
    · subst hj
      rw [List.getElem?_set_self hl] at q; cases q
    · rw [List.getElem?_set_ne hj] at q
      exact r.dat j y q
  · by_cases hj : i = j
    · subst hj
      rw [List.getElem?_set_self hl] at q
      cases q
      exact ⟨a, ws, ea, h2, upd_same, hw, h5, h6⟩
    · rw [List.getElem?_set_ne hj] at q
      obtain ⟨d, us, q1, q2, q3, q4, q5⟩ := r.own j c zs q
      refine ⟨d, us, q1, q2, ?_, q4, q5⟩
      have nd : d ≠ a := fun z => by
        subst z
        exact hj (r.sep i j d _ _ _ _ e q ea q1)
      rw [upd_ne nd]; exact q3
  · have own : ∀ (m : Nat) (c : Bool) (y : List PyData), (S.set i (.own b ys))[m]? = some (.own c y) → ∃ (c' : Bool) (y' : List PyData), S[m]? = some (.own c' y') := fun m c y e' => by
      by_cases hm : i = m
      · subst hm; exact ⟨_, _, e⟩
      · rw [List.getElem?_set_ne hm] at e'; exact ⟨_, _, e'⟩
    obtain ⟨_, _, z1⟩ := own _ _ _ e1
    obtain ⟨_, _, z2⟩ := own _ _ _ e2
    exact r.sep j k c _ _ _ _ z1 z2 e3 e4
/-- nothing told any more -/
theorem SR.forget (r : SR K F S σ H G) (i : Nat) (o : Option V) : SR K F (S.set i .un) (σ.set i o) H G := by
  have L := r.len
  have nD : ∀ m y, (S.set i .un)[m]? = some (.d y) → i ≠ m := fun m y e q => by
    subst q
    by_cases hl : i < S.length
    · rw [List.getElem?_set_self hl] at e; cases e
    · rw [List.getElem?_eq_none (by simpa using Nat.le_of_not_lt hl)] at e; cases e
  have nO : ∀ m c y, (S.set i .un)[m]? = some (.own c y) → i ≠ m := fun m c y e q => by
    subst q
    by_cases hl : i < S.length
    · rw [List.getElem?_set_self hl] at e; cases e
    · rw [List.getElem?_eq_none (by simpa using Nat.le_of_not_lt hl)] at e; cases e
  refine ⟨by simp [L], r.g0, r.gh, r.new, r.keep, r.live, fun j y e => ?_, fun j b xs e => ?_, fun j k a b1 x1 b2 x2 e1 e2 e3 e4 => ?_⟩
  · have n := nD j y e
    rw [List.getElem?_set_ne n] at e ⊢
    exact r.dat j y e
  · have n := nO j b xs e
    rw [List.getElem?_set_ne n] at e ⊢
    exact r.own j b xs e
  · have n1 := nO _ _ _ e1
    have n2 := nO _ _ _ e2
    rw [List.getElem?_set_ne n1] at e1 e3
    rw [List.getElem?_set_ne n2] at e2 e4
    exact r.sep j k a b1 x1 b2 x2 e1 e2 e3 e4
theorem SR.fresh (r : SR K F S σ H G) {p : Addr} (h : H p = none) : F.H0 p = none ∧ G p = none ∧ Apart S σ p := by
  refine ⟨?_, r.gh.free h, fun i b xs e q => ?_⟩
  · cases z : F.H0 p with
    | none => rfl
    | some o => exact absurd h (r.live p (by rw [z]; simp))
  · obtain ⟨a, vs, h1, _, h3, _⟩ := r.own i b xs e
    rw [h1] at q
    cases q
    rw [h3] at h; cases h
end
end DL

set_option Elab.async false
set_option linter.all false
set_option maxRecDepth 100000
set_option maxHeartbeats 4000000
/-! DL, part 2: what an expression means on slots, and that its reading keeps to it. -/
namespace DL
open PySem PySem.Spec PyProof.Rows L2

/-! ### operands -/
inductive Op where
  | dat (x : PyData)
  | slot (i : Nat)
def sdGet : SD → Option PyData
  | .d x => some x
  | .own _ xs => some (.list xs)
  | .un => none
def Op.get (S : List SD) : Op → Option PyData
  | .dat x => some x
  | .slot i => (S[i]?).bind sdGet
def OpR (K : PySem.W.Frag) (G : Hp) (σ : L2.St) (v : V) : Op → Prop
  | .dat x => Rp K G v x
  | .slot i => σ[i]? = some (some v)
/-- what stands at v: known data, or a list of known items -/
def RV (K : PySem.W.Frag) (G H : Hp) (v : V) (x : PyData) : Prop := Rp K G v x ∨ ∃ a vs xs, x = .list xs ∧ v = .ref a ∧ H a = some (.lst vs) ∧ RpAll K G vs xs
section
variable {K : PySem.W.Frag} {F : Fr} {S S' : List SD} {σ : L2.St} {H G H' G' : Hp} {v : V} {x : PyData} {o : Op}
theorem OpR.mono (e : Ex G G') (h : OpR K G σ v o) : OpR K G' σ v o := by
  cases o with
  | dat x => exact Rp.mono e h
  | slot i => exact h
theorem op_get (r : SR K F S σ H G) (h : OpR K G σ v o) (e : o.get S = some x) : RV K G H v x := by
  cases o with
  | dat y => cases e; exact .inl h
  | slot i =>
    have h : σ[i]? = some (some v) := h
    have e : (S[i]?).bind sdGet = some x := e
    cases q : S[i]? with
    | none => rw [q] at e; cases e
    | some sd =>
      rw [q] at e
      cases sd with
      | un => cases e
      | d y =>
        cases e
        obtain ⟨w, h1, h2⟩ := r.dat i _ q
        rw [h] at h1; cases h1
        exact .inl h2
      | own b xs =>
        cases e
        obtain ⟨a, vs, h1, h2, h3, h4, _⟩ := r.own i _ _ q
        rw [h] at h1; cases h1
        exact .inr ⟨a, vs, xs, rfl, rfl, h3, h4⟩
theorem RV.rp (e : Ex G H) (h : RV K G H v x) : Rp K H v x := by
  rcases h with h | ⟨a, vs, xs, rfl, rfl, h3, h4⟩
  · exact h.mono e
  · exact .lst h3 (h4.mono e)
theorem RV.non (h : RV K G H v .none) : v = .non := by
  rcases h with h | ⟨a, vs, xs, e, _⟩
  · cases h; rfl
  · cases e
theorem RV.bl {b : Bool} (h : RV K G H v (.bool b)) : v = .bl b := by
  rcases h with h | ⟨a, vs, xs, e, _⟩
  · cases h; rfl
  · cases e
theorem RV.int {i : Int} (h : RV K G H v (.int i)) : v = .int i := by
  rcases h with h | ⟨a, vs, xs, e, _⟩
  · cases h; rfl
  · cases e
theorem RV.str {i : Str} (h : RV K G H v (.str i)) : v = .str i := by
  rcases h with h | ⟨a, vs, xs, e, _⟩
  · cases h; rfl
  · cases e
theorem RV.lst {xs : List PyData} (e : Ex G H) (h : RV K G H v (.list xs)) : ∃ a vs, v = .ref a ∧ H a = some (.lst vs) ∧ RpAll K G vs xs := by
  rcases h with h | ⟨a, vs, xs, q, h2, h3, h4⟩
  · cases h with
    | lst h1 h2 => exact ⟨_, _, rfl, e _ _ h1, h2⟩
  · cases q
    exact ⟨a, vs, h2, h3, h4⟩
theorem RV.tup {xs : List PyData} (e : Ex G H) (h : RV K G H v (.tuple xs)) : ∃ a vs, v = .ref a ∧ SqT K H a vs ∧ RpAll K G vs xs := by
  rcases h with h | ⟨a, vs, xs, q, h2, h3, h4⟩
  · cases h with
    | tup h1 h2 => exact ⟨_, _, rfl, e.st h1, h2⟩
  · cases q
theorem RV.dic {xs : List (PyData × PyData)} (e : Ex G H) (hx : ∀ ds, xs ≠ [(.none, .list ds)]) (h : RV K G H v (.dict xs)) : ∃ a vs, v = .ref a ∧ Rd H a (.dK vs) ∧ RpKV K G vs xs := by
  rcases h with h | ⟨a, vs, xs, q, h2, h3, h4⟩
  · cases h with
    | dic h1 h2 => exact ⟨_, _, rfl, e.rd h1, h2⟩
    | scr _ _ => exact absurd rfl (hx _)
  · cases q
theorem RpKV.notNone {ds : List PyData} {kvs : List (Key × V)} (h : RpKV K G kvs [(.none, .list ds)]) : False := by
  cases kvs with
  | nil => cases h
  | cons p r =>
    obtain ⟨k, v⟩ := p
    cases k <;> cases h
theorem RV.scr {ds : List PyData} (e : Ex G H) (h : RV K G H v (.dict [(.none, .list ds)])) : ∃ a vs, v = .ref a ∧ SqL K H a vs ∧ RpAll K G vs ds := by
  rcases h with h | ⟨a, vs, xs, q, h2, h3, h4⟩
  · cases h with
    | dic h1 h2 => exact h2.notNone.elim
    | scr h1 h2 => exact ⟨_, _, rfl, e.sl h1, h2⟩
  · cases q
end

/-! ### values by values -/
/-- a two-place rule on values keeps to g -/
def V2 (K : PySem.W.Frag) (r : R2) (g : PyData → PyData → Option PyData) : Prop :=
  ∀ (G H : Hp) (v w : V) (x y z : PyData), Ex G H → RV K G H v x → RV K G H w y → g x y = some z → ∀ Q : VK, (∀ u H' G', PX G H G' H' → Rp K G' u z → Q u H') → r v w H Q
def V1 (K : PySem.W.Frag) (r : V → Hp → VK → Prop) (g : PyData → Option PyData) : Prop :=
  ∀ (G H : Hp) (v : V) (x z : PyData), Ex G H → RV K G H v x → g x = some z → ∀ Q : VK, (∀ u H' G', PX G H G' H' → Rp K G' u z → Q u H') → r v H Q
inductive RVs (K : PySem.W.Frag) (G H : Hp) : List V → List PyData → Prop
  | nil : RVs K G H [] []
  | cons {v : V} {vs : List V} {x : PyData} {xs : List PyData} : RV K G H v x → RVs K G H vs xs → RVs K G H (v :: vs) (x :: xs)
def VN (K : PySem.W.Frag) (r : List V → Hp → VK → Prop) (g : List PyData → Option PyData) : Prop :=
  ∀ (G H : Hp) (vs : List V) (xs : List PyData) (z : PyData), Ex G H → RVs K G H vs xs → g xs = some z → ∀ Q : VK, (∀ u H' G', PX G H G' H' → Rp K G' u z → Q u H') → r vs H Q
def V2L (K : PySem.W.Frag) (r : R2) (g : PyData → PyData → Option (List PyData)) : Prop :=
  ∀ (G H : Hp) (v w : V) (x y : PyData) (zs : List PyData), Ex G H → RV K G H v x → RV K G H w y → g x y = some zs → ∀ Q : VK, (∀ p ws H' G', PX G H G' H' → H p = none → G' p = none → H' p = some (.lst ws) → RpAll K G' ws zs → Q (.ref p) H') → r v w H Q
/-- .. where a new list comes out -/
def VL (K : PySem.W.Frag) (r : List V → Hp → VK → Prop) (g : List PyData → Option (List PyData)) : Prop :=
  ∀ (G H : Hp) (vs : List V) (xs : List PyData) (zs : List PyData), Ex G H → RVs K G H vs xs → g xs = some zs → ∀ Q : VK, (∀ p ws H' G', PX G H G' H' → H p = none → G' p = none → H' p = some (.lst ws) → RpAll K G' ws zs → Q (.ref p) H') → r vs H Q

/-! ### what readings keep to -/
abbrev ES := List SD → Option (Op × List SD)
abbrev BS := List SD → Option (Bool × List SD)
abbrev AS := List SD → Option (List Op × List SD)
abbrev LS := List SD → Option (List PyData × List SD)
abbrev DS := List SD → Option (PyData × List SD)
inductive OpRs (K : PySem.W.Frag) (G : Hp) (σ : L2.St) : List V → List Op → Prop
  | nil : OpRs K G σ [] []
  | cons {v : V} {vs : List V} {o : Op} {os : List Op} : OpR K G σ v o → OpRs K G σ vs os → OpRs K G σ (v :: vs) (o :: os)
def SemE (K : PySem.W.Frag) (t : TE) (f : ES) : Prop := ∀ F S σ H G o S', SR K F S σ H G → f S = some (o, S') → ∀ Q : VK, (∀ v H' G', SR K F S' σ H' G' → Ex G G' → OpR K G' σ v o → Q v H') → t σ H Q
def SemB (K : PySem.W.Frag) (t : TT) (f : BS) : Prop := ∀ F S σ H G b S', SR K F S σ H G → f S = some (b, S') → ∀ Q : Bool → Hp → Prop, (∀ H' G', SR K F S' σ H' G' → Ex G G' → Q b H') → t σ H Q
def SemA (K : PySem.W.Frag) (t : TA) (f : AS) : Prop := ∀ F S σ H G os S', SR K F S σ H G → f S = some (os, S') → ∀ Q : List V → Hp → Prop, (∀ vs H' G', SR K F S' σ H' G' → Ex G G' → OpRs K G' σ vs os → Q vs H') → t σ H Q
/-- a new list comes out -/
def SemL (K : PySem.W.Frag) (t : TE) (f : LS) : Prop := ∀ F S σ H G xs S', SR K F S σ H G → f S = some (xs, S') → ∀ Q : VK, (∀ p vs H' G', SR K F S' σ H' G' → Ex G G' → F.H0 p = none → G' p = none → Apart S' σ p → H' p = some (.lst vs) → RpAll K G' vs xs → Q (.ref p) H') → t σ H Q
/-- data are wanted: a slot's own list stands still from then on -/
def SemD (K : PySem.W.Frag) (t : TE) (f : DS) : Prop := ∀ F S σ H G x S', SR K F S σ H G → f S = some (x, S') → ∀ Q : VK, (∀ v H' G', SR K F S' σ H' G' → Ex G G' → Rp K G' v x → Q v H') → t σ H Q
structure SE (X : Cx) (K : PySem.W.Frag) (e : Expr) (t : TE) (f : ES) : Prop where
  p : PE X e t
  ok : SemE K t f
structure ST (X : Cx) (K : PySem.W.Frag) (e : Expr) (t : TT) (f : BS) : Prop where
  p : PT X e t
  ok : SemB K t f
structure SW (X : Cx) (K : PySem.W.Frag) (e : Expr) (t : TT) (f : BS) : Prop where
  p : PW X e t
  ok : SemB K t f
structure SA (X : Cx) (K : PySem.W.Frag) (es : List Expr) (t : TA) (f : AS) : Prop where
  p : PA X es t
  ok : SemA K t f
structure SL (X : Cx) (K : PySem.W.Frag) (e : Expr) (t : TE) (f : LS) : Prop where
  p : PE X e t
  ok : SemL K t f
structure SDt (X : Cx) (K : PySem.W.Frag) (e : Expr) (t : TE) (f : DS) : Prop where
  p : PE X e t
  ok : SemD K t f

section
variable {K : PySem.W.Frag} {F : Fr} {S S' : List SD} {σ : L2.St} {H G H' G' : Hp}
theorem OpRs.mono (e : Ex G G') : ∀ {vs : List V} {os : List Op}, OpRs K G σ vs os → OpRs K G' σ vs os
  | _, _, .nil => .nil
  | _, _, .cons h t => .cons (OpR.mono e h) (OpRs.mono e t)
def getAll (S : List SD) : List Op → Option (List PyData)
  | [] => some []
  | o :: os => (o.get S).bind fun x => (getAll S os).map fun xs => x :: xs
theorem ops_get (r : SR K F S σ H G) : ∀ {vs : List V} {os : List Op} {xs : List PyData}, OpRs K G σ vs os → getAll S os = some xs → RVs K G H vs xs
  | _, _, _, .nil, e => by cases e; exact .nil
  | _, o :: os, _, .cons h t, e => by
    unfold getAll at e
    obtain ⟨x, e1, e⟩ := Option.bind_eq_some_iff.mp e
    obtain ⟨xs, e2, rfl⟩ := Option.map_eq_some_iff.mp e
    exact .cons (op_get r h e1) (ops_get r t e2)
/-- a slot's list is frozen, data are taken -/
def takeS (S : List SD) (i : Nat) : Option SD → Option (PyData × List SD)
  | some (.d x) => some (x, S)
  | some (.own false xs) => some (.list xs, S.set i (.d (.list xs)))
  | _ => none
def takeO (S : List SD) : Op → Option (PyData × List SD)
  | .dat x => some (x, S)
  | .slot i => takeS S i (S[i]?)
theorem take_ok {v : V} {o : Op} {x : PyData} (r : SR K F S σ H G) (h : OpR K G σ v o) (e : takeO S o = some (x, S')) : ∃ G', Ex G G' ∧ SR K F S' σ H G' ∧ Rp K G' v x := by
  cases o with
  | dat y => cases e; exact ⟨G, .refl _, r, h⟩
  | slot i =>
    have h : σ[i]? = some (some v) := h
    have e : takeS S i (S[i]?) = some (x, S') := e
    cases q : S[i]? with
    | none => rw [q] at e; cases e
    | some sd =>
      rw [q] at e
      cases sd with
      | un => cases e
      | d y =>
        cases e
        obtain ⟨w, h1, h2⟩ := r.dat i _ q
        rw [h] at h1; cases h1
        exact ⟨G, .refl _, r, h2⟩
      | own b xs =>
        cases b with
        | true => cases e
        | false =>
          cases e
          obtain ⟨w, G', h1, h2, h3, h4⟩ := r.freeze q
          rw [h] at h2; cases h2
          exact ⟨G', h1, h4, h3⟩
def takeAll (S : List SD) : List Op → Option (List PyData × List SD)
  | [] => some ([], S)
  | o :: os => (takeO S o).bind fun p => (takeAll p.2 os).map fun q => (p.1 :: q.1, q.2)
theorem takeAll_ok : ∀ {vs : List V} {os : List Op} {xs : List PyData} {S S' : List SD} {G : Hp}, SR K F S σ H G → OpRs K G σ vs os → takeAll S os = some (xs, S') → ∃ G', Ex G G' ∧ SR K F S' σ H G' ∧ RpAll K G' vs xs
  | _, _, _, _, _, G, r, .nil, e => by cases e; exact ⟨G, .refl _, r, .nil⟩
  | _, o :: os, _, S, S', G, r, .cons h t, e => by
    unfold takeAll at e
    obtain ⟨⟨x, S1⟩, e1, e⟩ := Option.bind_eq_some_iff.mp e
    obtain ⟨⟨xs, S2⟩, e2, e3⟩ := Option.map_eq_some_iff.mp e
    cases e3
    obtain ⟨G1, g1, r1, h1⟩ := take_ok r h e1
    obtain ⟨G2, g2, r2, h2⟩ := takeAll_ok r1 (t.mono g1) e2
    exact ⟨G2, g1.trans g2, r2, .cons (h1.mono g2) h2⟩
end

section
variable {K : PySem.W.Frag} {ta tb tc te : TE} {tt tu : TT} {tA : TA} {fe fa fb fc : ES} {ft fu : BS} {fs : AS} {fl : LS} {fd : DS}
/-! ### names, constants -/
def sdTold : Option SD → Bool
  | some (.d _) => true
  | some (.own _ _) => true
  | _ => false
def sVar (i : Nat) : ES := fun S => if sdTold (S[i]?) = true then some (.slot i, S) else none
theorem sem_var {i : Nat} : SemE K (tVar i) (sVar i) := by
  intro F S σ H G o S' r ef Q k
  have ef : (if sdTold (S[i]?) = true then some (Op.slot i, S) else none) = some (o, S') := ef
  cases q : S[i]? with
  | none => rw [q] at ef; cases ef
  | some sd =>
    rw [q] at ef
    cases sd with
    | un => cases ef
    | d x =>
      cases ef
      obtain ⟨v, h1, _⟩ := r.dat i _ q
      exact ⟨v, h1, k v H G r (.refl _) h1⟩
    | own b' xs =>
      cases ef
      obtain ⟨a', vs, h1, _⟩ := r.own i _ _ q
      exact ⟨_, h1, k _ H G r (.refl _) h1⟩
def sC (x : PyData) : ES := fun S => some (.dat x, S)
theorem sem_c {v : V} {x : PyData} (hr : ∀ G, Rp K G v x) : SemE K (tC v) (sC x) := by
  intro F S σ H G o S' r ef Q k
  cases ef
  exact k v H G r (.refl _) (hr G)
/-! ### data, new lists -/
def sTake (f : ES) : DS := fun S => (f S).bind fun p => takeO p.2 p.1
theorem sem_take (hs : SemE K te fe) : SemD K te (sTake fe) := by
  intro F S σ H G x S' r ef Q k
  obtain ⟨⟨o, S1⟩, e1, e2⟩ := Option.bind_eq_some_iff.mp ef
  refine hs F S σ H G o S1 r e1 Q fun v H' G' r1 g1 h1 => ?_
  obtain ⟨G2, g2, r2, h2⟩ := take_ok r1 h1 e2
  exact k v H' G2 r2 (g1.trans g2) h2
def sDat (f : DS) : ES := fun S => (f S).map fun p => (.dat p.1, p.2)
theorem sem_dat (hs : SemD K te fd) : SemE K te (sDat fd) := by
  intro F S σ H G x S' r ef Q k
  obtain ⟨⟨o, S1⟩, e1, e2⟩ := Option.map_eq_some_iff.mp ef
  cases e2
  exact hs F S σ H G o _ r e1 Q fun v H' G' r1 g1 h1 => k v H' G' r1 g1 h1
def sKeep (f : LS) : ES := fun S => (f S).map fun p => (.dat (.list p.1), p.2)
theorem SR.known {K : PySem.W.Frag} {F : Fr} {S : List SD} {σ : L2.St} {H G : Hp} {p : Addr} {vs : List V} {xs : List PyData} (r : SR K F S σ H G) (h0 : F.H0 p = none) (hg : G p = none) (ap : Apart S σ p) (hh : H p = some (.lst vs)) (h : RpAll K G vs xs) :
    ∃ G', Ex G G' ∧ SR K F S σ H G' ∧ Rp K G' (.ref p) (.list xs) := by
  have eg : Ex G (upd G p (.lst vs)) := .new hg
  refine ⟨_, eg, ⟨r.len, r.g0.trans eg, fun b o q => ?_, fun b q => ?_, r.keep, r.live, fun j y q => ?_, fun j b ys q => ?_, r.sep⟩, .lst upd_same (h.mono eg)⟩
  · by_cases hb : b = p
    · subst hb; rw [upd_same] at q; cases q; exact hh
    · rw [upd_ne hb] at q; exact r.gh b o q
  · by_cases hb : b = p
    · subst hb; exact .inr h0
    · rw [upd_ne hb] at q; exact r.new b q
  · obtain ⟨v, q1, q2⟩ := r.dat j y q
    exact ⟨v, q1, q2.mono eg⟩
  · obtain ⟨c, ws, q1, q2, q3, q4, q5⟩ := r.own j b ys q
    refine ⟨c, ws, q1, ?_, q3, q4.mono eg, q5⟩
    have nc : c ≠ p := fun z => by subst z; exact ap j _ _ q q1
    rw [upd_ne nc]; exact q2
theorem sem_keep (hs : SemL K te fl) : SemE K te (sKeep fl) := by
  intro F S σ H G o S' r ef Q k
  obtain ⟨⟨xs, S1⟩, e1, e2⟩ := Option.map_eq_some_iff.mp ef
  cases e2
  refine hs F S σ H G xs _ r e1 Q fun p vs H' G' r1 g1 h0 hg ap hh h1 => ?_
  obtain ⟨G2, g2, r2, h2⟩ := r1.known h0 hg ap hh h1
  exact k _ H' G2 r2 (g1.trans g2) h2
/-! ### arguments -/
def sNil : AS := fun S => some ([], S)
def sCons (f : ES) (g : AS) : AS := fun S => (f S).bind fun p => (g p.2).map fun q => (p.1 :: q.1, q.2)
theorem sem_nil : SemA K tNil sNil := by
  intro F S σ H G o S' r ef Q k
  cases ef
  exact k _ H G r (.refl _) .nil
theorem sem_cons (hs1 : SemE K te fe) (hs2 : SemA K tA fs) : SemA K (tCons te tA) (sCons fe fs) := by
  intro F S σ H G o S' r ef Q k
  obtain ⟨⟨o1, S1⟩, e1, e2⟩ := Option.bind_eq_some_iff.mp ef
  obtain ⟨⟨o2, S2⟩, e3, e4⟩ := Option.map_eq_some_iff.mp e2
  cases e4
  refine hs1 F S σ H G o1 S1 r e1 _ fun v H1 G1 r1 g1 h1 => ?_
  refine hs2 F S1 σ H1 G1 o2 _ r1 e3 _ fun vs H2 G2 r2 g2 h2 => ?_
  exact k _ H2 G2 r2 (g1.trans g2) (.cons (h1.mono g2) h2)
/-! ### operators -/
def sBin (g : PyData → PyData → Option PyData) (f f' : ES) : ES := fun S => (f S).bind fun p => (f' p.2).bind fun q => (p.1.get q.2).bind fun x => (q.1.get q.2).bind fun y => (g x y).map fun z => (.dat z, q.2)
theorem sem_bin {r2 : R2} {g : PyData → PyData → Option PyData} (hv : V2 K r2 g) (ha : SemE K ta fa) (hb : SemE K tb fb) : SemE K (tOp r2 ta tb) (sBin g fa fb) := by
  intro F S σ H G o S' r ef Q k
  obtain ⟨⟨o1, S1⟩, e1, ef⟩ := Option.bind_eq_some_iff.mp ef
  obtain ⟨⟨o2, S2⟩, e2, ef⟩ := Option.bind_eq_some_iff.mp ef
  obtain ⟨x, e3, ef⟩ := Option.bind_eq_some_iff.mp ef
  obtain ⟨y, e4, ef⟩ := Option.bind_eq_some_iff.mp ef
  obtain ⟨z, e5, ef⟩ := Option.map_eq_some_iff.mp ef
  cases ef
  refine ha F S σ H G o1 S1 r e1 _ fun v H1 G1 r1 g1 h1 => ?_
  refine hb F S1 σ H1 G1 o2 _ r1 e2 _ fun w H2 G2 r2 g2 h2 => ?_
  refine hv G2 H2 v w x y z r2.gh (op_get r2 (h1.mono g2) e3) (op_get r2 h2 e4) e5 Q fun u H3 G3 p h3 => ?_
  exact k u H3 G3 (r2.ext p) ((g1.trans g2).trans p.gg) h3
def sBinL (g : PyData → PyData → Option (List PyData)) (f f' : ES) : LS := fun S => (f S).bind fun p => (f' p.2).bind fun q => (p.1.get q.2).bind fun x => (q.1.get q.2).bind fun y => (g x y).map fun z => (z, q.2)
theorem sem_binL {r2 : R2} {g : PyData → PyData → Option (List PyData)} (hv : V2L K r2 g) (ha : SemE K ta fa) (hb : SemE K tb fb) : SemL K (tOp r2 ta tb) (sBinL g fa fb) := by
  intro F S σ H G o S' r ef Q k
  obtain ⟨⟨o1, S1⟩, e1, ef⟩ := Option.bind_eq_some_iff.mp ef
  obtain ⟨⟨o2, S2⟩, e2, ef⟩ := Option.bind_eq_some_iff.mp ef
  obtain ⟨x, e3, ef⟩ := Option.bind_eq_some_iff.mp ef
  obtain ⟨y, e4, ef⟩ := Option.bind_eq_some_iff.mp ef
  obtain ⟨z, e5, ef⟩ := Option.map_eq_some_iff.mp ef
  cases ef
  refine ha F S σ H G o1 S1 r e1 _ fun v H1 G1 r1 g1 h1 => ?_
  refine hb F S1 σ H1 G1 o2 _ r1 e2 _ fun w H2 G2 r2 g2 h2 => ?_
  refine hv G2 H2 v w x y _ r2.gh (op_get r2 (h1.mono g2) e3) (op_get r2 h2 e4) e5 Q fun p ws H3 G3 px hn hg hh h3 => ?_
  obtain ⟨f0, _, fa⟩ := r2.fresh hn
  exact k p ws H3 G3 (r2.ext px) ((g1.trans g2).trans px.gg) f0 hg fa hh h3
def dBool : PyData → Option Bool
  | .bool b => some b
  | _ => none
/-- a value that is True or False, as a test -/
def sTest (f : ES) : BS := fun S => (f S).bind fun p => (p.1.get p.2).bind fun x => (dBool x).map fun b => (b, p.2)
theorem dBool_some {x : PyData} {b : Bool} (h : dBool x = some b) : x = .bool b := by
  cases x with
  | bool c => cases h; rfl
  | _ => cases h
theorem sem_test (ha : SemE K ta fa) : SemB K (tTest ta) (sTest fa) := by
  intro F S σ H G b S' r ef Q k
  obtain ⟨⟨o1, S1⟩, e1, ef⟩ := Option.bind_eq_some_iff.mp ef
  obtain ⟨x, e3, ef⟩ := Option.bind_eq_some_iff.mp ef
  obtain ⟨z, e5, ef⟩ := Option.map_eq_some_iff.mp ef
  cases ef
  refine ha F S σ H G o1 _ r e1 _ fun v H1 G1 r1 g1 h1 => ?_
  have hx := dBool_some e5
  subst hx
  exact ⟨_, (op_get r1 h1 e3).bl, k H1 G1 r1 g1⟩
/-! ### and, or, not, if else -/
def sAnd (f g : BS) : BS := fun S => (f S).bind fun p => if p.1 = true then g p.2 else some (false, p.2)
def sOr (f g : BS) : BS := fun S => (f S).bind fun p => if p.1 = true then some (true, p.2) else g p.2
def sNot (f : BS) : BS := fun S => (f S).map fun p => (!p.1, p.2)
theorem sem_and (hs : SemB K tt ft) (hs2 : SemB K tu fu) : SemB K (tAnd tt tu) (sAnd ft fu) := by
  intro F S σ H G b S' r ef Q k
  obtain ⟨⟨c, S1⟩, e1, ef⟩ := Option.bind_eq_some_iff.mp ef
  refine hs F S σ H G c S1 r e1 _ fun H1 G1 r1 g1 => ?_
  cases c with
  | true => exact hs2 F S1 σ H1 G1 b S' r1 ef Q fun H2 G2 r2 g2 => k H2 G2 r2 (g1.trans g2)
  | false => cases ef; exact k H1 G1 r1 g1
theorem sem_or (hs : SemB K tt ft) (hs2 : SemB K tu fu) : SemB K (tOr tt tu) (sOr ft fu) := by
  intro F S σ H G b S' r ef Q k
  obtain ⟨⟨c, S1⟩, e1, ef⟩ := Option.bind_eq_some_iff.mp ef
  refine hs F S σ H G c S1 r e1 _ fun H1 G1 r1 g1 => ?_
  cases c with
  | false => exact hs2 F S1 σ H1 G1 b S' r1 ef Q fun H2 G2 r2 g2 => k H2 G2 r2 (g1.trans g2)
  | true => cases ef; exact k H1 G1 r1 g1
theorem sem_not (hs : SemB K tt ft) : SemB K (tNot tt) (sNot ft) := by
  intro F S σ H G b S' r ef Q k
  obtain ⟨⟨c, S1⟩, e1, ef⟩ := Option.map_eq_some_iff.mp ef
  cases ef
  exact hs F S σ H G c _ r e1 _ k
/-- .. as values -/
def sAndV (f g : ES) : ES := fun S => (f S).bind fun p => (p.1.get p.2).bind fun x => (dBool x).bind fun c => if c = true then g p.2 else some (.dat (.bool false), p.2)
def sOrV (f g : ES) : ES := fun S => (f S).bind fun p => (p.1.get p.2).bind fun x => (dBool x).bind fun c => if c = true then some (.dat (.bool true), p.2) else g p.2
def sNotV (f : ES) : ES := fun S => (f S).bind fun p => (p.1.get p.2).bind fun x => (dBool x).map fun c => (.dat (.bool (!c)), p.2)
theorem sem_andV (hs : SemE K ta fa) (hs2 : SemE K tb fb) : SemE K (tAndV ta tb) (sAndV fa fb) := by
  intro F S σ H G b S' r ef Q k
  obtain ⟨⟨o, S1⟩, e1, ef⟩ := Option.bind_eq_some_iff.mp ef
  obtain ⟨x, e2, ef⟩ := Option.bind_eq_some_iff.mp ef
  obtain ⟨c, e3, ef⟩ := Option.bind_eq_some_iff.mp ef
  have hx := dBool_some e3
  subst hx
  refine hs F S σ H G o S1 r e1 _ fun v H1 G1 r1 g1 h1 => ⟨c, (op_get r1 h1 e2).bl, ?_⟩
  cases c with
  | true => exact hs2 F S1 σ H1 G1 b S' r1 ef Q fun v H2 G2 r2 g2 => k v H2 G2 r2 (g1.trans g2)
  | false => cases ef; exact k _ H1 G1 r1 g1 (.bl false)
theorem sem_orV (hs : SemE K ta fa) (hs2 : SemE K tb fb) : SemE K (tOrV ta tb) (sOrV fa fb) := by
  intro F S σ H G b S' r ef Q k
  obtain ⟨⟨o, S1⟩, e1, ef⟩ := Option.bind_eq_some_iff.mp ef
  obtain ⟨x, e2, ef⟩ := Option.bind_eq_some_iff.mp ef
  obtain ⟨c, e3, ef⟩ := Option.bind_eq_some_iff.mp ef
  have hx := dBool_some e3
  subst hx
  refine hs F S σ H G o S1 r e1 _ fun v H1 G1 r1 g1 h1 => ⟨c, (op_get r1 h1 e2).bl, ?_⟩
  cases c with
  | false => exact hs2 F S1 σ H1 G1 b S' r1 ef Q fun v H2 G2 r2 g2 => k v H2 G2 r2 (g1.trans g2)
  | true => cases ef; exact k _ H1 G1 r1 g1 (.bl true)
theorem sem_notV (hs : SemE K ta fa) : SemE K (tNotV ta) (sNotV fa) := by
  intro F S σ H G b S' r ef Q k
  obtain ⟨⟨o, S1⟩, e1, ef⟩ := Option.bind_eq_some_iff.mp ef
  obtain ⟨x, e2, ef⟩ := Option.bind_eq_some_iff.mp ef
  obtain ⟨c, e3, ef⟩ := Option.map_eq_some_iff.mp ef
  have hx := dBool_some e3
  subst hx
  cases ef
  exact hs F S σ H G o _ r e1 _ fun v H1 G1 r1 g1 h1 => ⟨c, (op_get r1 h1 e2).bl, k _ H1 G1 r1 g1 (.bl _)⟩
def sIf {α : Type} (t : BS) (f g : List SD → Option α) : List SD → Option α := fun S => (t S).bind fun p => if p.1 = true then f p.2 else g p.2
theorem sem_if (hsc : SemB K tt ft) (hs : SemE K ta fa) (hs2 : SemE K tb fb) : SemE K (tIf tt ta tb) (sIf ft fa fb) := by
  intro F S σ H G o S' r ef Q k
  obtain ⟨⟨c, S1⟩, e1, ef⟩ := Option.bind_eq_some_iff.mp ef
  refine hsc F S σ H G c S1 r e1 _ fun H1 G1 r1 g1 => ?_
  cases c with
  | true => exact hs F S1 σ H1 G1 o S' r1 ef Q fun v H2 G2 r2 g2 => k v H2 G2 r2 (g1.trans g2)
  | false => exact hs2 F S1 σ H1 G1 o S' r1 ef Q fun v H2 G2 r2 g2 => k v H2 G2 r2 (g1.trans g2)
/-- a chain of two comparisons -/
def sChain (g g' : PyData → PyData → Option PyData) (f f' f'' : ES) : ES := fun S => (f S).bind fun p => (f' p.2).bind fun q => (p.1.get q.2).bind fun x => (q.1.get q.2).bind fun y => (g x y).bind fun z => (dBool z).bind fun k =>
  if k = true then (f'' q.2).bind fun s => (q.1.get s.2).bind fun y' => (s.1.get s.2).bind fun w => (g' y' w).map fun z' => (.dat z', s.2) else some (.dat (.bool false), q.2)
theorem sem_chain {r2 r2' : R2} {g g' : PyData → PyData → Option PyData} (hv : V2 K r2 g) (hv' : V2 K r2' g') (ha : SemE K ta fa) (hb : SemE K tb fb) (hc : SemE K tc fc) : SemE K (tChain r2 r2' ta tb tc) (sChain g g' fa fb fc) := by
  intro F S σ H G o S' r ef Q k
  obtain ⟨⟨o1, S1⟩, e1, ef⟩ := Option.bind_eq_some_iff.mp ef
  obtain ⟨⟨o2, S2⟩, e2, ef⟩ := Option.bind_eq_some_iff.mp ef
  obtain ⟨x, e3, ef⟩ := Option.bind_eq_some_iff.mp ef
  obtain ⟨y, e4, ef⟩ := Option.bind_eq_some_iff.mp ef
  obtain ⟨z, e5, ef⟩ := Option.bind_eq_some_iff.mp ef
  obtain ⟨d, e6, ef⟩ := Option.bind_eq_some_iff.mp ef
  have hz := dBool_some e6
  subst hz
  refine ha F S σ H G o1 S1 r e1 _ fun v H1 G1 r1 g1 h1 => ?_
  refine hb F S1 σ H1 G1 o2 _ r1 e2 _ fun w H2 G2 r2 g2 h2 => ?_
  refine hv G2 H2 v w x y _ r2.gh (op_get r2 (h1.mono g2) e3) (op_get r2 h2 e4) e5 _ fun u H3 G3 p h3 => ?_
  have r3 := r2.ext p
  cases h3
  refine ⟨d, rfl, ?_⟩
  cases d with
  | false => cases ef; exact k _ H3 G3 r3 ((g1.trans g2).trans p.gg) (.bl false)
  | true =>
    have ef : ((fc S2).bind fun s => (o2.get s.2).bind fun y' => (s.1.get s.2).bind fun w => (g' y' w).map fun z' => (Op.dat z', s.2)) = some (o, S') := ef
    obtain ⟨⟨o4, S4⟩, f1, ef⟩ := Option.bind_eq_some_iff.mp ef
    obtain ⟨y', f2, ef⟩ := Option.bind_eq_some_iff.mp ef
    obtain ⟨w4, f3, ef⟩ := Option.bind_eq_some_iff.mp ef
    obtain ⟨z', f4, ef⟩ := Option.map_eq_some_iff.mp ef
    cases ef
    show tc σ H3 _
    refine hc F S2 σ H3 G3 o4 _ r3 f1 _ fun v4 H4 G4 r4 g4 h4 => ?_
    refine hv' G4 H4 w v4 y' w4 z' r4.gh (op_get r4 (h2.mono (p.gg.trans g4)) f2) (op_get r4 h4 f3) f4 Q fun u5 H5 G5 p5 h5 => ?_
    exact k u5 H5 G5 (r4.ext p5) ((((g1.trans g2).trans p.gg).trans g4).trans p5.gg) h5
def sUn (g : PyData → Option PyData) (f : ES) : ES := fun S => (f S).bind fun p => (p.1.get p.2).bind fun x => (g x).map fun z => (.dat z, p.2)
theorem sem_un {r1 : V → Hp → VK → Prop} {g : PyData → Option PyData} (hv : V1 K r1 g) (ka : SemE K ta fa) : SemE K (tUn r1 ta) (sUn g fa) := by
  intro F S σ H G o S' r ef Q k
  obtain ⟨⟨o1, S1⟩, e1, ef⟩ := Option.bind_eq_some_iff.mp ef
  obtain ⟨x, e3, ef⟩ := Option.bind_eq_some_iff.mp ef
  obtain ⟨z, e5, ef⟩ := Option.map_eq_some_iff.mp ef
  cases ef
  refine ka F S σ H G o1 _ r e1 _ fun v H1 G1 r1 g1 h1 => ?_
  exact hv G1 H1 v x z r1.gh (op_get r1 h1 e3) e5 Q fun u H3 G3 p h3 => k u H3 G3 (r1.ext p) (g1.trans p.gg) h3
/-! ### displays, calls of built-ins -/
theorem sz {n : Nat} (h : n ≤ 100000) : n ≤ sizeLine := Nat.le_trans h (by decide)
theorem szl {n : Nat} (h : n < 100000) : n < sizeLine := Nat.lt_of_lt_of_le h (by decide)
def sTup (f : AS) : ES := fun S => (f S).bind fun p => (takeAll p.2 p.1).bind fun q => if q.1.length ≤ 100000 then some (.dat (.tuple q.1), q.2) else none
theorem sem_tup (hs : SemA K tA fs) : SemE K (tTup tA) (sTup fs) := by
  intro F S σ H G o S' r ef Q k
  obtain ⟨⟨os, S1⟩, e1, ef⟩ := Option.bind_eq_some_iff.mp ef
  obtain ⟨⟨xs, S2⟩, e2, ef⟩ := Option.bind_eq_some_iff.mp ef
  split at ef
  · rename_i hl
    cases ef
    refine hs F S σ H G os S1 r e1 _ fun vs H1 G1 r1 g1 h1 => ?_
    obtain ⟨G2, g2, r2, h2⟩ := takeAll_ok r1 h1 e2
    refine ⟨by rw [h2.length]; exact sz hl, fun p hp => ?_⟩
    have px := PX.laid (o := .tup vs) r2.gh hp
    exact k _ _ _ (r2.ext px) ((g1.trans g2).trans px.gg) (.tup (.inl (.inl upd_same)) (h2.mono px.gg))
  · cases ef
def sLst (f : AS) : LS := fun S => (f S).bind fun p => (takeAll p.2 p.1).bind fun q => if q.1.length ≤ 100000 then some (q.1, q.2) else none
theorem sem_lst (hs : SemA K tA fs) : SemL K (tLst tA) (sLst fs) := by
  intro F S σ H G o S' r ef Q k
  obtain ⟨⟨os, S1⟩, e1, ef⟩ := Option.bind_eq_some_iff.mp ef
  obtain ⟨⟨xs, S2⟩, e2, ef⟩ := Option.bind_eq_some_iff.mp ef
  split at ef
  · rename_i hl
    cases ef
    refine hs F S σ H G os S1 r e1 _ fun vs H1 G1 r1 g1 h1 => ?_
    obtain ⟨G2, g2, r2, h2⟩ := takeAll_ok r1 h1 e2
    refine ⟨by rw [h2.length]; exact sz hl, fun p hp => ?_⟩
    obtain ⟨f0, fg, fa⟩ := r2.fresh hp
    have px := PX.side (o := .lst vs) r2.gh hp
    exact k _ _ _ _ (r2.ext px) (g1.trans g2) f0 fg fa upd_same h2
  · cases ef
/-- a built-in's call: the operands as they stand behind the last of them -/
def sCB (g : List PyData → Option PyData) (f : AS) : ES := fun S => (f S).bind fun p => (getAll p.2 p.1).bind fun xs => (g xs).map fun z => (.dat z, p.2)
def sCBL (g : List PyData → Option (List PyData)) (f : AS) : LS := fun S => (f S).bind fun p => (getAll p.2 p.1).bind fun xs => (g xs).map fun z => (z, p.2)
theorem sem_cb {r2 : List V → Hp → VK → Prop} {g : List PyData → Option PyData} (hv : VN K r2 g) (ha : SemA K tA fs) : SemE K (tCB r2 tA) (sCB g fs) := by
  intro F S σ H G o S' r ef Q k
  obtain ⟨⟨os, S1⟩, e1, ef⟩ := Option.bind_eq_some_iff.mp ef
  obtain ⟨xs, e3, ef⟩ := Option.bind_eq_some_iff.mp ef
  obtain ⟨z, e5, ef⟩ := Option.map_eq_some_iff.mp ef
  cases ef
  refine ha F S σ H G os _ r e1 _ fun vs H1 G1 r1 g1 h1 => ?_
  exact hv G1 H1 vs xs z r1.gh (ops_get r1 h1 e3) e5 Q fun u H3 G3 p h3 => k u H3 G3 (r1.ext p) (g1.trans p.gg) h3
theorem sem_cbl {r2 : List V → Hp → VK → Prop} {g : List PyData → Option (List PyData)} (hv : VL K r2 g) (ha : SemA K tA fs) : SemL K (tCB r2 tA) (sCBL g fs) := by
  intro F S σ H G o S' r ef Q k
  obtain ⟨⟨os, S1⟩, e1, ef⟩ := Option.bind_eq_some_iff.mp ef
  obtain ⟨xs, e3, ef⟩ := Option.bind_eq_some_iff.mp ef
  obtain ⟨z, e5, ef⟩ := Option.map_eq_some_iff.mp ef
  cases ef
  refine ha F S σ H G os _ r e1 _ fun vs H1 G1 r1 g1 h1 => ?_
  refine hv G1 H1 vs xs _ r1.gh (ops_get r1 h1 e3) e5 Q fun p ws H3 G3 px hn hg hh h3 => ?_
  obtain ⟨f0, _, fa⟩ := r1.fresh hn
  exact k p ws H3 G3 (r1.ext px) (g1.trans px.gg) f0 hg fa hh h3
end

/-! ### the rules for the text -/
section
variable {X : Cx} {K : PySem.W.Frag} {e a b c : Expr} {es : List Expr} {pos : Pos} {ta tb tc te : TE} {tt tu : TT} {tA : TA} {fe fa fb fc : ES} {ft fu : BS} {fs : AS} {fl : LS} {fd : DS}
theorem se_var {i : Nat} (h : PE X e (tVar i)) : SE X K e (tVar i) (sVar i) := ⟨h, sem_var⟩
theorem se_int {i : Int} {j} : SE X K (.Constant (.int i) j pos) (tC (.int i)) (sC (.int i)) := ⟨pe_int, sem_c fun _ => .int i⟩
theorem se_bl {i : Bool} {j} : SE X K (.Constant (.bool i) j pos) (tC (.bl i)) (sC (.bool i)) := ⟨pe_bl, sem_c fun _ => .bl i⟩
theorem se_non {j} : SE X K (.Constant .none j pos) (tC .non) (sC .none) := ⟨pe_non, sem_c fun _ => .non⟩
theorem se_str {i : Str} {j} : SE X K (.Constant (.str i) j pos) (tC (.str i)) (sC (.str i)) := ⟨pe_str, sem_c fun _ => .str i⟩
/-- a constant of the module -/
structure GK (K : PySem.W.Frag) (mg : Str → Option Value) (x : Str) (v : V) (d : PyData) : Prop where
  to : ∃ u, mg x = some u ∧ RelV v u
  rp : ∀ G, Rp K G v d
theorem se_glob {x : Str} {v : V} {d : PyData} (h : GK K X.mg x v d) (hg : Gl X x := by rfl) (hd : (x == ("__debug__" : Str)) = false := by decide) : SE X K (.Name x pos) (tC v) (sC d) := by
  obtain ⟨⟨u, h1, h2⟩, h3⟩ := h
  exact ⟨pe_glob hg h1 h2 hd, sem_c h3⟩
theorem sd_se (h : SE X K e te fe) : SDt X K e te (sTake fe) := ⟨h.p, sem_take h.ok⟩
theorem se_sd (h : SDt X K e te fd) : SE X K e te (sDat fd) := ⟨h.p, sem_dat h.ok⟩
theorem se_sl (h : SL X K e te fl) : SE X K e te (sKeep fl) := ⟨h.p, sem_keep h.ok⟩
theorem sa_nil : SA X K [] tNil sNil := ⟨pa_nil, sem_nil⟩
theorem sa_cons (h : SE X K e te fe) (h2 : SA X K es tA fs) (hs : starEach (e :: es) X.env = (false, eval e X.env) :: starEach es X.env := by rfl) : SA X K (e :: es) (tCons te tA) (sCons fe fs) := ⟨pa_cons h.p h2.p hs, sem_cons h.ok h2.ok⟩
theorem se_bin {op : Operator} {r : R2} {g : PyData → PyData → Option PyData} (ho : L2.OpR X (binaryOp op) r) (hv : V2 K r g) (ha : SE X K a ta fa) (hb : SE X K b tb fb) : SE X K (.BinOp a op b pos) (tOp r ta tb) (sBin g fa fb) := ⟨pe_op ho ha.p hb.p, sem_bin hv ha.ok hb.ok⟩
theorem sl_bin {op : Operator} {r : R2} {g : PyData → PyData → Option (List PyData)} (ho : L2.OpR X (binaryOp op) r) (hv : V2L K r g) (ha : SE X K a ta fa) (hb : SE X K b tb fb) : SL X K (.BinOp a op b pos) (tOp r ta tb) (sBinL g fa fb) := ⟨pe_op ho ha.p hb.p, sem_binL hv ha.ok hb.ok⟩
theorem se_cmp {op : CmpOp} {r : R2} {g : PyData → PyData → Option PyData} (ho : L2.OpR X (compareOp op) r) (hv : V2 K r g) (ha : SE X K a ta fa) (hb : SE X K b tb fb) (hm : behindInMarks op b = false := by rfl) : SE X K (.Compare a [op] [b] pos) (tOp r ta tb) (sBin g fa fb) := ⟨pe_cmpR ho ha.p hb.p hm, sem_bin hv ha.ok hb.ok⟩
theorem se_ix {r : R2} {g : PyData → PyData → Option PyData} (ho : IxR X r) (hv : V2 K r g) (ha : SE X K a ta fa) (hb : SE X K b tb fb) (hs : PlainIx b := by exact fun _ _ => rfl) : SE X K (.Subscript a b pos) (tOp r ta tb) (sBin g fa fb) := ⟨pe_ix ho ha.p hb.p hs, sem_bin hv ha.ok hb.ok⟩
theorem st_val (h : SE X K e te fe) (he : ∀ whole, isTrue e X.env whole = (do let v ← whole; standAt e.pos; holding [v] (truthy v)) := by intro _; rfl) : ST X K e (tB te) (sTest fe) := ⟨pt_val h.p he, sem_test h.ok⟩
theorem st_cmp {op : CmpOp} {r : R2} {g : PyData → PyData → Option PyData} (ho : L2.OpR X (compareOp op) r) (hv : V2 K r g) (ha : SE X K a ta fa) (hb : SE X K b tb fb) (hm : behindInMarks op b = false := by rfl) : ST X K (.Compare a [op] [b] pos) (tTest (tOp r ta tb)) (sTest (sBin g fa fb)) := ⟨pt_cmpR ho ha.p hb.p hm, sem_test (sem_bin hv ha.ok hb.ok)⟩
theorem sw_and1 (h : ST X K a tt ft) : SW X K (.BoolOp .And [a] pos) tt ft := ⟨pw_and1 h.p, h.ok⟩
theorem sw_or1 (h : ST X K a tt ft) : SW X K (.BoolOp .Or [a] pos) tt ft := ⟨pw_or1 h.p, h.ok⟩
theorem st_sw (h : SW X K a tt ft) : ST X K a tt ft := ⟨h.p.pt, h.ok⟩
theorem sw_and {rest : List Expr} (h : ST X K a tt ft) (h2 : SW X K (.BoolOp .And (b :: rest) pos) tu fu) : SW X K (.BoolOp .And (a :: b :: rest) pos) (tAnd tt tu) (sAnd ft fu) := ⟨pw_and h.p h2.p, sem_and h.ok h2.ok⟩
theorem sw_or {rest : List Expr} (h : ST X K a tt ft) (h2 : SW X K (.BoolOp .Or (b :: rest) pos) tu fu) : SW X K (.BoolOp .Or (a :: b :: rest) pos) (tOr tt tu) (sOr ft fu) := ⟨pw_or h.p h2.p, sem_or h.ok h2.ok⟩
theorem st_not (h : ST X K a tt ft) : ST X K (.UnaryOp .Not a pos) (tNot tt) (sNot ft) := ⟨pt_not h.p, sem_not h.ok⟩
theorem se_one {op} (h : SE X K a ta fa) : SE X K (.BoolOp op [a] pos) ta fa := ⟨pe_one h.p, h.ok⟩
theorem se_and {rest : List Expr} (h : SE X K a ta fa) (h2 : SE X K (.BoolOp .And (b :: rest) pos) tb fb) : SE X K (.BoolOp .And (a :: b :: rest) pos) (tAndV ta tb) (sAndV fa fb) := ⟨pe_and h.p h2.p, sem_andV h.ok h2.ok⟩
theorem se_or {rest : List Expr} (h : SE X K a ta fa) (h2 : SE X K (.BoolOp .Or (b :: rest) pos) tb fb) : SE X K (.BoolOp .Or (a :: b :: rest) pos) (tOrV ta tb) (sOrV fa fb) := ⟨pe_or h.p h2.p, sem_orV h.ok h2.ok⟩
theorem se_not (h : SE X K a ta fa) : SE X K (.UnaryOp .Not a pos) (tNotV ta) (sNotV fa) := ⟨pe_not h.p, sem_notV h.ok⟩
theorem se_if (hc : ST X K c tt ft) (h : SE X K a ta fa) (h2 : SE X K b tb fb) : SE X K (.IfExp c a b pos) (tIf tt ta tb) (sIf ft fa fb) := ⟨pe_ifExp hc.p h.p h2.p, sem_if hc.ok h.ok h2.ok⟩
theorem se_chain {op op' : CmpOp} {r r' : R2} {g g' : PyData → PyData → Option PyData} (ho : L2.OpR X (compareOp op) r) (hv : V2 K r g) (ho' : L2.OpR X (compareOp op') r') (hv' : V2 K r' g') (ha : SE X K a ta fa) (hb : SE X K b tb fb) (hc : SE X K c tc fc) (hm : lastMarks [op, op'] [b, c] = false := by rfl) :
    SE X K (.Compare a [op, op'] [b, c] pos) (tChain r r' ta tb tc) (sChain g g' fa fb fc) := ⟨pe_chain ho ho' ha.p hb.p hc.p hm, sem_chain hv hv' ha.ok hb.ok hc.ok⟩
theorem st_chain {op op' : CmpOp} {r r' : R2} {g g' : PyData → PyData → Option PyData} (ho : L2.OpR X (compareOp op) r) (hv : V2 K r g) (ho' : L2.OpR X (compareOp op') r') (hv' : V2 K r' g') (ha : SE X K a ta fa) (hb : SE X K b tb fb) (hc : SE X K c tc fc) (hm : lastMarks [op, op'] [b, c] = false := by rfl) :
    ST X K (.Compare a [op, op'] [b, c] pos) (tTest (tChain r r' ta tb tc)) (sTest (sChain g g' fa fb fc)) := ⟨pt_chain ho ho' ha.p hb.p hc.p hm, sem_test (sem_chain hv hv' ha.ok hb.ok hc.ok)⟩
theorem se_un {op : UnaryOp} {r : V → Hp → VK → Prop} {g : PyData → Option PyData} (ho : UnR X (unaryOp op) r) (hv : V1 K r g) (ha : SE X K a ta fa) : SE X K (.UnaryOp op a pos) (tUn r ta) (sUn g fa) := ⟨pe_un ho ha.p, sem_un hv ha.ok⟩
theorem se_tup {k} (h : SA X K es tA fs) : SE X K (.Tuple es k pos) (tTup tA) (sTup fs) := ⟨pe_tup h.p, sem_tup h.ok⟩
theorem sl_lst (h : SA X K es tA fs) : SL X K (.List es pos) (tLst tA) (sLst fs) := ⟨pe_lst h.p, sem_lst h.ok⟩
theorem se_cb {x : Str} {p : Pos} {id : String} {r : List V → Hp → VK → Prop} {g : List PyData → Option PyData} (hc : CallR X (.builtin id) r) (hv : VN K r g) (hm : X.mg x = none) (hb : bootBuiltins x = some (.builtin id)) (ha : SA X K (e :: es) tA fs) (hg : Gl X x := by rfl)
    (hn : x ≠ "__name__" := by decide) (hdb : (x == ("__debug__" : Str)) = false := by decide) (he : starEach (e :: es) X.env = (false, eval e X.env) :: starEach es X.env := by rfl) (hpl : (backTo pos (starEach es X.env)).any (·.1) = false := by rfl) : SE X K (.Call (.Name x p) (e :: es) [] pos) (tCB r tA) (sCB g fs) :=
  ⟨pe_callB hc hg hm hb ha.p hn hdb he hpl, sem_cb hv ha.ok⟩
theorem se_ct {x : Str} {p : Pos} {T : String} {r : List V → Hp → VK → Prop} {g : List PyData → Option PyData} (hc : CallR X (.type T) r) (hv : VN K r g) (hm : X.mg x = none) (hb : bootBuiltins x = some (.type T)) (ha : SA X K (e :: es) tA fs) (hg : Gl X x := by rfl)
    (hn : x ≠ "__name__" := by decide) (hdb : (x == ("__debug__" : Str)) = false := by decide) (he : starEach (e :: es) X.env = (false, eval e X.env) :: starEach es X.env := by rfl) (hpl : (backTo pos (starEach es X.env)).any (·.1) = false := by rfl) : SE X K (.Call (.Name x p) (e :: es) [] pos) (tCB r tA) (sCB g fs) :=
  ⟨pe_callTy hc hg hm hb ha.p hn hdb he hpl, sem_cb hv ha.ok⟩
theorem sl_cb {x : Str} {p : Pos} {id : String} {r : List V → Hp → VK → Prop} {g : List PyData → Option (List PyData)} (hc : CallR X (.builtin id) r) (hv : VL K r g) (hm : X.mg x = none) (hb : bootBuiltins x = some (.builtin id)) (ha : SA X K (e :: es) tA fs) (hg : Gl X x := by rfl)
    (hn : x ≠ "__name__" := by decide) (hdb : (x == ("__debug__" : Str)) = false := by decide) (he : starEach (e :: es) X.env = (false, eval e X.env) :: starEach es X.env := by rfl) (hpl : (backTo pos (starEach es X.env)).any (·.1) = false := by rfl) : SL X K (.Call (.Name x p) (e :: es) [] pos) (tCB r tA) (sCBL g fs) :=
  ⟨pe_callB hc hg hm hb ha.p hn hdb he hpl, sem_cbl hv ha.ok⟩
theorem sl_ct {x : Str} {p : Pos} {T : String} {r : List V → Hp → VK → Prop} {g : List PyData → Option (List PyData)} (hc : CallR X (.type T) r) (hv : VL K r g) (hm : X.mg x = none) (hb : bootBuiltins x = some (.type T)) (ha : SA X K (e :: es) tA fs) (hg : Gl X x := by rfl)
    (hn : x ≠ "__name__" := by decide) (hdb : (x == ("__debug__" : Str)) = false := by decide) (he : starEach (e :: es) X.env = (false, eval e X.env) :: starEach es X.env := by rfl) (hpl : (backTo pos (starEach es X.env)).any (·.1) = false := by rfl) : SL X K (.Call (.Name x p) (e :: es) [] pos) (tCB r tA) (sCBL g fs) :=
  ⟨pe_callTy hc hg hm hb ha.p hn hdb he hpl, sem_cbl hv ha.ok⟩
end
end DL

set_option Elab.async false
set_option linter.all false
set_option maxRecDepth 100000
set_option maxHeartbeats 4000000
/-! DL, part 3: frames within frames, targets, walks, comprehensions, statements. -/
namespace DL
open PySem PySem.Spec PyProof.Rows L2

/-! ### frames within frames -/
section
variable {K : PySem.W.Frag} {F F' : Fr} {S S' T : List SD} {σ σ' : L2.St} {H G H' G' : Hp}
theorem SR.back (r : SR K F S σ H G) (r' : SR K F' S' σ' H' G') (h0 : F'.H0 = H) (g0 : F'.G0 = G)
    (hown : ∀ a, F'.B a → ∃ (j : Nat) (c : Bool) (ys : List PyData), S[j]? = some (.own c ys) ∧ σ[j]? = some (some (.ref a)))
    (hT : T.length = S.length) (hTd : ∀ (j : Nat) x, T[j]? = some (.d x) → S[j]? = some (.d x))
    (hTo : ∀ (j : Nat) (b : Bool) (xs : List PyData), T[j]? = some (.own b xs) → (∃ ys, S[j]? = some (.own b ys)) ∧ ∃ a, σ[j]? = some (some (.ref a)) ∧
      ((∃ i : Nat, S'[i]? = some (.own true xs) ∧ F'.s0[i]? = some (some (.ref a))) ∨ (S[j]? = some (.own b xs) ∧ ¬ F'.B a))) : SR K F T σ H' G' := by
  subst h0 g0
  refine ⟨by rw [r.len, hT], r.g0.trans r'.g0, r'.gh, fun b h => ?_, fun b o h n => ?_, fun b h => r'.live b (r.live b h), fun j x e => ?_, fun j b xs e => ?_, fun i j a b1 x1 b2 x2 e1 e2 e3 e4 => ?_⟩
  · rcases r'.new b h with q | q
    · exact r.new b q
    · cases z : F.H0 b with
      | none => exact .inr rfl
      | some o => exact absurd q (r.live b (by rw [z]; simp))
  · refine r'.keep b o (r.keep b o h n) fun hb => ?_
    obtain ⟨j, c, ys, q1, q2⟩ := hown b hb
    obtain ⟨a, vs, p1, _, _, _, p5, p6⟩ := r.own j c ys q1
    rw [q2] at p1
    cases p1
    cases c with
    | true => exact n (p5 rfl).1
    | false => rw [p6 rfl] at h; cases h
  · obtain ⟨v, h1, h2⟩ := r.dat j x (hTd j x e)
    exact ⟨v, h1, h2.mono r'.g0⟩
  · obtain ⟨⟨ys, q1⟩, a, q2, q3⟩ := hTo j b xs e
    obtain ⟨a', vs, p1, p2, p3, p4, p5, p6⟩ := r.own j b ys q1
    rw [q2] at p1
    cases p1
    rcases q3 with ⟨i, z1, z2⟩ | ⟨z1, z2⟩
    · obtain ⟨c, ws, t1, t2, t3, t4, t5, _⟩ := r'.own i _ _ z1
      have t6 := (t5 rfl).2
      rw [z2] at t6
      cases t6
      exact ⟨a, ws, q2, t2, t3, t4, p5, p6⟩
    · rw [q1] at z1
      cases z1
      refine ⟨a, vs, q2, ?_, r'.keep a _ p3 z2, p4.mono r'.g0, p5, p6⟩
      cases z : G' a with
      | none => rfl
      | some o =>
        rcases r'.new a (by rw [z]; simp) with q | q
        · exact absurd p2 q
        · rw [p3] at q; cases q
  · obtain ⟨⟨y1, z1⟩, _⟩ := hTo i b1 x1 e1
    obtain ⟨⟨y2, z2⟩, _⟩ := hTo j b2 x2 e2
    exact r.sep i j a b1 y1 b2 y2 z1 z2 e3 e4
/-- an object of ours that no slot tells is written -/
theorem SR.side (r : SR K F S σ H G) {p : Addr} {o : HO} (h0 : F.H0 p = none) (hg : G p = none) (ap : Apart S σ p) : SR K F S σ (upd H p o) G := by
  refine ⟨r.len, r.g0, fun c u q => ?_, r.new, fun c u q n => ?_, fun c q => ?_, r.dat, fun j b xs e => ?_, r.sep⟩
  · rw [upd_ne (ne_of_none q hg)]; exact r.gh c u q
  · rw [upd_ne (ne_of_none q h0)]; exact r.keep c u q n
  · by_cases hc : c = p
    · subst hc; rw [upd_same]; simp
    · rw [upd_ne hc]; exact r.live c q
  · obtain ⟨a, vs, p1, p2, p3, p4⟩ := r.own j b xs e
    refine ⟨a, vs, p1, p2, ?_, p4⟩
    have na : a ≠ p := fun z => by subst z; exact ap j _ _ e p1
    rw [upd_ne na]; exact p3
end

/-- own lists are lent -/
def bor : SD → SD
  | .own _ xs => .own true xs
  | s => s
/-- .. but for the places vs, of which nothing is told -/
def borGo (vs : List Nat) : Nat → List SD → List SD
  | _, [] => []
  | j, s :: S => (if j ∈ vs then .un else bor s) :: borGo vs (j + 1) S
def unb1 : SD → SD → SD
  | .own b _, .own true xs => .own b xs
  | .own _ _, _ => .un
  | s, _ => s
def unbGo (vs : List Nat) : Nat → List SD → List SD → List SD
  | j, s :: S, s' :: S' => (if j ∈ vs then s else unb1 s s') :: unbGo vs (j + 1) S S'
  | _, S, [] => S.map fun _ => .un
  | _, [], _ => []
theorem borGo_get (vs : List Nat) : ∀ (S : List SD) (k i : Nat), (borGo vs k S)[i]? = (S[i]?).map fun s => if k + i ∈ vs then .un else bor s
  | [], _, _ => by simp [borGo]
  | s :: S, k, 0 => by simp [borGo]
  | s :: S, k, i + 1 => by
    have ih := borGo_get vs S (k + 1) i
    have e : k + 1 + i = k + (i + 1) := by omega
    rw [e] at ih
    simpa [borGo] using ih
theorem unbGo_len (vs : List Nat) : ∀ (S S' : List SD) (k : Nat), (unbGo vs k S S').length = S.length
  | [], [], _ => rfl
  | [], _ :: _, _ => rfl
  | _ :: _, [], _ => by simp [unbGo]
  | s :: S, s' :: S', k => by simp [unbGo, unbGo_len vs S S' (k + 1)]
theorem unbGo_d (vs : List Nat) : ∀ (S S' : List SD) (k i : Nat) (x : PyData), (unbGo vs k S S')[i]? = some (.d x) → S[i]? = some (.d x)
  | [], [], _, _, _, h => by simp [unbGo] at h
  | [], _ :: _, _, _, _, h => by simp [unbGo] at h
  | _ :: _, [], _, i, _, h => by
    simp only [unbGo, List.getElem?_map] at h
    obtain ⟨_, _, h⟩ := Option.map_eq_some_iff.mp h
    cases h
  | s :: S, s' :: S', k, 0, x, h => by
    simp only [unbGo, List.getElem?_cons_zero, Option.some.injEq] at h ⊢
    split at h
    · exact h
    · cases s with
      | own b xs => cases s' with
        | own c ys => cases c <;> cases h
        | _ => cases h
      | _ => exact h
  | s :: S, s' :: S', k, i + 1, x, h => by
    simp only [unbGo, List.getElem?_cons_succ] at h ⊢
    exact unbGo_d vs S S' (k + 1) i x h
theorem unbGo_own (vs : List Nat) : ∀ (S S' : List SD) (k i : Nat) (b : Bool) (xs : List PyData), (unbGo vs k S S')[i]? = some (.own b xs) →
    (k + i ∈ vs ∧ S[i]? = some (.own b xs)) ∨ (k + i ∉ vs ∧ (∃ ys, S[i]? = some (.own b ys)) ∧ S'[i]? = some (.own true xs))
  | [], [], _, _, _, _, h => by simp [unbGo] at h
  | [], _ :: _, _, _, _, _, h => by simp [unbGo] at h
  | _ :: _, [], _, i, _, _, h => by
    simp only [unbGo, List.getElem?_map] at h
    obtain ⟨_, _, h⟩ := Option.map_eq_some_iff.mp h
    cases h
  | s :: S, s' :: S', k, 0, b, xs, h => by
    simp only [unbGo, List.getElem?_cons_zero, Option.some.injEq] at h ⊢
    by_cases hk : k ∈ vs
    · rw [if_pos hk] at h
      exact .inl ⟨hk, h⟩
    · rw [if_neg hk] at h
      cases s with
      | own b' xs' => cases s' with
        | own c ys => cases c with
          | true => cases h; exact .inr ⟨hk, ⟨_, rfl⟩, rfl⟩
          | false => cases h
        | _ => cases h
      | _ => cases h
  | s :: S, s' :: S', k, i + 1, b, xs, h => by
    simp only [unbGo, List.getElem?_cons_succ] at h ⊢
    have ih := unbGo_own vs S S' (k + 1) i b xs h
    have e : k + 1 + i = k + (i + 1) := by omega
    rw [e] at ih
    exact ih
theorem wipe_get (σ : L2.St) (i : Nat) : ∀ vs : List Nat, i ∉ vs → (wipe σ vs)[i]? = σ[i]?
  | [], _ => rfl
  | v :: vs, h => by
    have h1 : v ≠ i := fun e => h (by simp [e])
    unfold wipe
    rw [List.getElem?_set_ne h1]
    exact wipe_get σ i vs fun z => h (List.mem_cons_of_mem _ z)
theorem wipe_get_in (σ : L2.St) (i : Nat) : ∀ vs : List Nat, i ∈ vs → (wipe σ vs)[i]? = (σ[i]?).map fun _ => none
  | [], h => absurd h (by simp)
  | v :: vs, h => by
    unfold wipe
    by_cases e : v = i
    · subst e
      by_cases hl : v < σ.length
      · rw [List.getElem?_set_self (by rw [wipe_length]; exact hl), List.getElem?_eq_getElem hl]; rfl
      · rw [List.getElem?_eq_none (by rw [List.length_set, wipe_length]; omega), List.getElem?_eq_none (by omega)]; rfl
    · rw [List.getElem?_set_ne e]
      rcases List.mem_cons.mp h with q | q
      · exact absurd q.symm e
      · exact wipe_get_in σ i vs q
theorem wipe_ext {σ σ' : L2.St} {vs : List Nat} (h : ∀ i, i ∉ vs → σ[i]? = σ'[i]?) (hl : σ.length = σ'.length) : wipe σ vs = wipe σ' vs := by
  apply List.ext_getElem?
  intro i
  by_cases hi : i ∈ vs
  · rw [wipe_get_in _ _ _ hi, wipe_get_in _ _ _ hi]
    by_cases q : i < σ.length
    · rw [List.getElem?_eq_getElem q, List.getElem?_eq_getElem (by omega)]; rfl
    · rw [List.getElem?_eq_none (by omega), List.getElem?_eq_none (by omega)]
  · rw [wipe_get _ _ _ hi, wipe_get _ _ _ hi]
    exact h i hi
/-- slots that are the same but at places of vs -/
def Bt (vs : List Nat) (σ σ' : L2.St) : Prop := σ.length = σ'.length ∧ ∀ i, i ∉ vs → σ[i]? = σ'[i]?
theorem Bt.refl (vs : List Nat) (σ : L2.St) : Bt vs σ σ := ⟨rfl, fun _ _ => rfl⟩
theorem Bt.trans {vs : List Nat} {a b c : L2.St} (h : Bt vs a b) (g : Bt vs b c) : Bt vs a c := ⟨h.1.trans g.1, fun i hi => (h.2 i hi).trans (g.2 i hi)⟩
theorem Bt.set {vs : List Nat} {σ : L2.St} {i : Nat} {o : Option V} (h : i ∈ vs) : Bt vs σ (σ.set i o) := ⟨by simp, fun j hj => by rw [List.getElem?_set_ne]; intro e; subst e; exact hj h⟩
theorem Bt.wiped {vs : List Nat} {σ : L2.St} : Bt vs σ (wipe σ vs) := ⟨(wipe_length σ vs).symm, fun i hi => (wipe_get σ i vs hi).symm⟩
section
variable {K : PySem.W.Frag} {F F' : Fr} {S S' T : List SD} {σ σ' : L2.St} {H G H' G' : Hp}
/-- the frame of a block (a comprehension's; vs its own names) -/
def Fr.blk (vs : List Nat) (S : List SD) (σ : L2.St) (H G : Hp) : Fr := ⟨H, G, borGo vs 0 S, wipe σ vs⟩
theorem bor_own {s : SD} {b : Bool} {xs : List PyData} (h : bor s = .own b xs) : b = true ∧ ∃ c, s = .own c xs := by
  cases s with
  | own c ys => cases h; exact ⟨rfl, c, rfl⟩
  | _ => cases h
theorem blk_own {vs : List Nat} {i : Nat} {b : Bool} {xs : List PyData} (h : (borGo vs 0 S)[i]? = some (.own b xs)) : i ∉ vs ∧ b = true ∧ ∃ c, S[i]? = some (.own c xs) := by
  rw [borGo_get, Nat.zero_add] at h
  obtain ⟨s, h1, h2⟩ := Option.map_eq_some_iff.mp h
  by_cases hi : i ∈ vs
  · rw [if_pos hi] at h2; cases h2
  · rw [if_neg hi] at h2
    obtain ⟨e, c, q⟩ := bor_own h2
    subst q
    exact ⟨hi, e, c, h1⟩
theorem SR.sub (r : SR K F S σ H G) (vs : List Nat) : SR K (Fr.blk vs S σ H G) (borGo vs 0 S) (wipe σ vs) H G := by
  have own : ∀ (i : Nat) (b : Bool) (xs : List PyData), (borGo vs 0 S)[i]? = some (.own b xs) → ∃ c, i ∉ vs ∧ b = true ∧ S[i]? = some (.own c xs) ∧ (wipe σ vs)[i]? = σ[i]? := fun i b xs e => by
    obtain ⟨h1, h2, c, h3⟩ := blk_own e
    exact ⟨c, h1, h2, h3, wipe_get σ i vs h1⟩
  refine ⟨?_, .refl _, r.gh, fun b h => .inl h, fun b o h _ => h, fun b h => h, fun i x e => ?_, fun i b xs e => ?_, fun i j a b1 x1 b2 x2 e1 e2 e3 e4 => ?_⟩
  · rw [wipe_length, r.len]
    have h : ∀ (S : List SD) (k : Nat), (borGo vs k S).length = S.length := fun S => by
      induction S with
      | nil => intro k; rfl
      | cons s S ih => intro k; simp [borGo, ih]
    exact (h S 0).symm
  · rw [borGo_get, Nat.zero_add] at e
    obtain ⟨s, h1, h2⟩ := Option.map_eq_some_iff.mp e
    by_cases hi : i ∈ vs
    · rw [if_pos hi] at h2; cases h2
    · rw [if_neg hi] at h2
      have hs : s = .d x := by
        cases s with
        | own c ys => cases h2
        | _ => exact h2
      subst hs
      rw [wipe_get σ i vs hi]
      exact r.dat i x h1
  · obtain ⟨c, hi, hb, h3, h4⟩ := own i b xs e
    obtain ⟨a, ws, p1, p2, p3, p4, _⟩ := r.own i c xs h3
    refine ⟨a, ws, h4.trans p1, p2, p3, p4, fun _ => ⟨⟨i, b, xs, e, h4.trans p1⟩, h4.trans p1⟩, fun q => ?_⟩
    rw [hb] at q; cases q
  · obtain ⟨c1, _, _, h3, h4⟩ := own i b1 x1 e1
    obtain ⟨c2, _, _, h5, h6⟩ := own j b2 x2 e2
    rw [h4] at e3
    rw [h6] at e4
    exact r.sep i j a c1 x1 c2 x2 h3 h5 e3 e4
theorem blk_B {vs : List Nat} {a : Addr} (h : (Fr.blk vs S σ H G).B a) : ∃ (j : Nat) (c : Bool) (ys : List PyData), j ∉ vs ∧ S[j]? = some (.own c ys) ∧ σ[j]? = some (some (.ref a)) := by
  obtain ⟨i, b, xs, h1, h2⟩ := h
  obtain ⟨h3, _, c, h5⟩ := blk_own h1
  have h2 : (wipe σ vs)[i]? = some (some (.ref a)) := h2
  rw [wipe_get σ i vs h3] at h2
  exact ⟨i, c, xs, h3, h5, h2⟩
/-- behind the block -/
theorem SR.unsub (r : SR K F S σ H G) {vs : List Nat} (r' : SR K (Fr.blk vs S σ H G) S' σ' H' G') : SR K F (unbGo vs 0 S S') σ H' G' := by
  refine r.back r' rfl rfl (fun a h => ?_) (unbGo_len vs S S' 0) (fun j x h => unbGo_d vs S S' 0 j x h) fun j b xs h => ?_
  · obtain ⟨j, c, ys, _, h1, h2⟩ := blk_B h
    exact ⟨j, c, ys, h1, h2⟩
  · rcases unbGo_own vs S S' 0 j b xs h with ⟨hj, h1⟩ | ⟨hj, ⟨ys, h1⟩, h2⟩
    · rw [Nat.zero_add] at hj
      obtain ⟨a, ws, p1, _⟩ := r.own j b xs h1
      refine ⟨⟨_, h1⟩, a, p1, .inr ⟨h1, fun q => ?_⟩⟩
      obtain ⟨i, c, zs, q1, q2, q3⟩ := blk_B q
      have e := r.sep i j a _ _ _ _ q2 h1 q3 p1
      subst e
      exact q1 hj
    · rw [Nat.zero_add] at hj
      obtain ⟨a, ws, p1, _⟩ := r.own j b ys h1
      exact ⟨⟨_, h1⟩, a, p1, .inl ⟨j, h2, by show (wipe σ vs)[j]? = _; rw [wipe_get σ j vs hj]; exact p1⟩⟩
/-- what a block leaves alone: an object of ours that no slot tells -/
theorem SR.aside (r : SR K F S σ H G) {vs : List Nat} (r' : SR K (Fr.blk vs S σ H G) S' σ' H' G') {p : Addr} {o : HO} (hp : H p = some o) (hg : G p = none) (ap : Apart S σ p) : H' p = some o ∧ G' p = none := by
  constructor
  · refine r'.keep p o hp fun q => ?_
    obtain ⟨j, c, ys, _, h1, h2⟩ := blk_B q
    exact ap j _ _ h1 h2
  · cases z : G' p with
    | none => rfl
    | some u =>
      rcases r'.new p (by rw [z]; simp) with q | q
      · exact absurd hg q
      · have q : H p = none := q
        rw [hp] at q; cases q
theorem apart_unb {vs : List Nat} {p : Addr} (ap : Apart S σ p) : Apart (unbGo vs 0 S S') σ p := fun i b xs h => by
  rcases unbGo_own vs S S' 0 i b xs h with ⟨_, h1⟩ | ⟨_, ⟨ys, h1⟩, _⟩
  · exact ap i b xs h1
  · exact ap i b ys h1
end

/-! ### targets -/
abbrev GS := PyData → List SD → Option (List SD)
def SemG (K : PySem.W.Frag) (t : TG) (ix : List Nat) (g : GS) : Prop := ∀ F S σ H G v x S', SR K F S σ H G → Rp K G v x → g x S = some S' → ∀ Q : L2.St → Hp → Prop, (∀ σ' H' G', SR K F S' σ' H' G' → Ex G G' → Bt ix σ σ' → Q σ' H') → t v σ H Q
def SemGs (K : PySem.W.Frag) (t : TGs) (ix : List Nat) (g : List PyData → List SD → Option (List SD)) : Prop := ∀ F S σ H G vs xs S', SR K F S σ H G → RpAll K G vs xs → g xs S = some S' → ∀ Q : L2.St → Hp → Prop, (∀ σ' H' G', SR K F S' σ' H' G' → Ex G G' → Bt ix σ σ' → Q σ' H') → t vs σ H Q
structure SG (X : Cx) (K : PySem.W.Frag) (e : Expr) (t : TG) (ix : List Nat) (g : GS) : Prop where
  p : PG X e t
  ok : SemG K t ix g
structure SGs (X : Cx) (K : PySem.W.Frag) (es : List Expr) (t : TGs) (ix : List Nat) (g : List PyData → List SD → Option (List SD)) : Prop where
  p : PGs X es t
  ok : SemGs K t ix g
def gsName (i : Nat) : GS := fun x S => some (S.set i (.d x))
theorem Bt.mono {vs ws : List Nat} {σ σ' : L2.St} (h : Bt vs σ σ') (s : ∀ i ∈ vs, i ∈ ws) : Bt ws σ σ' := ⟨h.1, fun i hi => h.2 i fun z => hi (s i z)⟩
theorem sem_gname {K : PySem.W.Frag} {i : Nat} : SemG K (gName i) [i] (gsName i) := fun F S σ H G v x S' r h e Q k => by
  cases e
  exact k _ H G (r.setD i h) (.refl _) (.set (by simp))
def gsNil : List PyData → List SD → Option (List SD)
  | [], S => some S
  | _, _ => none
def gsCons (g : GS) (gs : List PyData → List SD → Option (List SD)) : List PyData → List SD → Option (List SD)
  | x :: xs, S => (g x S).bind fun S1 => gs xs S1
  | [], _ => none
theorem sem_gnil {K : PySem.W.Frag} : SemGs K gNil [] gsNil := fun F S σ H G vs xs S' r h e Q k => by
  cases h with
  | nil => cases e; exact ⟨rfl, k _ H G r (.refl _) (.refl _ _)⟩
  | cons _ _ => cases e
theorem sem_gcons {K : PySem.W.Frag} {t : TG} {u : TGs} {ix iy : List Nat} {g : GS} {gs : List PyData → List SD → Option (List SD)} (h1 : SemG K t ix g) (h2 : SemGs K u iy gs) : SemGs K (gCons t u) (ix ++ iy) (gsCons g gs) := fun F S σ H G vs xs S' r h e Q k => by
  cases h with
  | nil => cases e
  | cons h t' =>
    obtain ⟨S1, e1, e2⟩ := Option.bind_eq_some_iff.mp e
    refine ⟨_, _, rfl, h1 F S σ H G _ _ S1 r h e1 _ fun σ1 H1 G1 r1 g1 b1 => ?_⟩
    refine h2 F S1 σ1 H1 G1 _ _ S' r1 (t'.mono g1) e2 _ fun σ2 H2 G2 r2 g2 b2 => ?_
    exact k σ2 H2 G2 r2 (g1.trans g2) ((b1.mono fun i hi => List.mem_append_left _ hi).trans (b2.mono fun i hi => List.mem_append_right _ hi))
def dTup : PyData → Option (List PyData)
  | .tuple xs => some xs
  | _ => none
theorem dTup_some {x : PyData} {xs : List PyData} (h : dTup x = some xs) : x = .tuple xs := by
  cases x with
  | tuple c => cases h; rfl
  | _ => cases h
def gsTup (n : Nat) (gs : List PyData → List SD → Option (List SD)) : GS := fun x S => (dTup x).bind fun xs => if xs.length = n then gs xs S else none
theorem sem_gtup {K : PySem.W.Frag} {u : TGs} {ix : List Nat} {n : Nat} {gs : List PyData → List SD → Option (List SD)} (h2 : SemGs K u ix gs) : SemG K (gTup K n u) ix (gsTup n gs) := fun F S σ H G v x S' r h e Q k => by
  obtain ⟨xs, e1, e2⟩ := Option.bind_eq_some_iff.mp e
  have hx := dTup_some e1
  subst hx
  split at e2
  · rename_i hn
    cases h with
    | tup ht ha => exact ⟨_, _, rfl, r.gh.st ht, by rw [ha.length]; exact hn, h2 F S σ H G _ _ S' r ha e2 Q k⟩
  · cases e2
section
variable {X : Cx} {K : PySem.W.Frag} {e : Expr} {es : List Expr} {pos : Pos} {t : TG} {u : TGs} {ix iy : List Nat} {g : GS} {gs : List PyData → List SD → Option (List SD)}
theorem sg_name {i : Nat} {x : Str} (hN : X.N.Nodup) (hi : X.N[i]? = some x := by rfl) (hx : Loc X.env.scope x := by first | exact Or.inl rfl | exact Or.inr rfl) (hf : X.fn x = true ∨ X.env.scope.names.lookup x = some .local := by first | exact Or.inl rfl | exact Or.inr rfl) : SG X K (.Name x pos) (gName i) [i] (gsName i) := ⟨pg_name hN hi hx hf, sem_gname⟩
theorem sgs_nil : SGs X K [] gNil [] gsNil := ⟨pgs_nil, sem_gnil⟩
theorem sgs_cons (h1 : SG X K e t ix g) (h2 : SGs X K es u iy gs) (hs : (assignEach (e :: es) X.env).map (·.2) = assign e X.env :: (assignEach es X.env).map (·.2) := by rfl) : SGs X K (e :: es) (gCons t u) (ix ++ iy) (gsCons g gs) := ⟨pgs_cons h1.p h2.p hs, sem_gcons h1.ok h2.ok⟩
theorem sg_tup {k n : Nat} (hK : X.K = K) (hc : X.calm = true) (h : SGs X K es u ix gs) (hn : (assignEach es X.env).length = n := by rfl) (hst : (assignEach es X.env).findIdx? (·.1) = none := by rfl) : SG X K (.Tuple es k pos) (gTup K n u) ix (gsTup n gs) := by
  subst hK
  exact ⟨pg_tup hc h.p hn hst, sem_gtup h.ok⟩
end

/-! ### what is walked -/
/-- J yields the items, one after another, whatever else grows -/
def Wk (K : PySem.W.Frag) (G1 : Hp) (J : It) (items : List PyData) : Prop := ∀ G H, Ex G1 G → Ex G H → ∀ i, (i < items.length → J.go i H ∧ ∀ v H', J.yld i H v H' → ∃ G' x, items[i]? = some x ∧ PX G H G' H' ∧ Rp K G' v x) ∧ (i = items.length → J.stop i H)
def SemI (K : PySem.W.Frag) (wi : TI) (f : LS) : Prop := ∀ F S σ H G xs S', SR K F S σ H G → f S = some (xs, S') → ∀ R : It → Hp → Prop, (∀ J H' G', SR K F S' σ H' G' → Ex G G' → Wk K G' J xs → R J H') → wi σ H R
structure SI (X : Cx) (K : PySem.W.Frag) (tg iter : Expr) (wi : TI) (f : LS) : Prop where
  p : PI X tg iter wi
  ok : SemI K wi f

/-! ### statements -/
inductive Out where
  | nx (S : List SD)
  | bk (S : List SD)
  | ct (S : List SD)
  | rt (r : SD) (S : List SD)
abbrev SSem := List SD → Option Out
def OutR (K : PySem.W.Frag) (F : Fr) (G : Hp) (D : Ends) : Out → Prop
  | .nx S => ∀ σ H G', SR K F S σ H G' → Ex G G' → D.nx σ H
  | .bk S => ∀ σ H G', SR K F S σ H G' → Ex G G' → D.bk σ H
  | .ct S => ∀ σ H G', SR K F S σ H G' → Ex G G' → D.ct σ H
  | .rt r S => ∀ v σ H G', SR K F (S ++ [r]) (σ ++ [some v]) H G' → Ex G G' → D.rt v H
def SemS (K : PySem.W.Frag) (t : TS) (f : SSem) : Prop := ∀ F S σ H G out, SR K F S σ H G → f S = some out → ∀ D : Ends, OutR K F G D out → t D σ H
structure SS (X : Cx) (K : PySem.W.Frag) (st : Stmt) (t : TS) (f : SSem) : Prop where
  p : PS X st t
  ok : SemS K t f
structure SSs (X : Cx) (K : PySem.W.Frag) (st : List Stmt) (t : TS) (f : SSem) : Prop where
  p : PSs X st t
  ok : SemS K t f
section
variable {K : PySem.W.Frag} {F : Fr} {G G' : Hp} {D : Ends} {o : Out}
theorem OutR.mono (h : OutR K F G D o) (e : Ex G G') : OutR K F G' D o := by
  cases o with
  | nx S => exact fun σ H G2 r x => h σ H G2 r (e.trans x)
  | bk S => exact fun σ H G2 r x => h σ H G2 r (e.trans x)
  | ct S => exact fun σ H G2 r x => h σ H G2 r (e.trans x)
  | rt r S => exact fun v σ H G2 r x => h v σ H G2 r (e.trans x)
/-- what follows put in nx's place -/
theorem OutR.nxt {N : L2.St → Hp → Prop} (h : OutR K F G D o) (hn : ∀ S, o = .nx S → ∀ σ H G', SR K F S σ H G' → Ex G G' → N σ H) : OutR K F G { D with nx := N } o := by
  cases o with
  | nx S => exact hn S rfl
  | bk S => exact h
  | ct S => exact h
  | rt r S => exact h
end
def sNext : SSem := fun S => some (.nx S)
def sSeq (f g : SSem) : SSem := fun S => (f S).bind fun o => match o with
  | .nx S1 => g S1
  | o => some o
section
variable {K : PySem.W.Frag} {t u tb : TS} {f f' fb : SSem} {te ta : TE} {tt : TT} {fe : ES} {fl : LS} {fd : DS} {ft : BS} {g : TG} {gs : GS} {ix : List Nat} {wi : TI} {fi : LS}
theorem sem_next : SemS K tNext sNext := fun F S σ H G out r e D h => by
  cases e
  exact h σ H G r (.refl _)
theorem sem_seq (h1 : SemS K t f) (h2 : SemS K u f') : SemS K (tSeq t u) (sSeq f f') := fun F S σ H G out r e D h => by
  obtain ⟨o, e1, e2⟩ := Option.bind_eq_some_iff.mp e
  cases o with
  | nx S1 => exact h1 F S σ H G _ r e1 _ fun σ1 H1 G1 r1 g1 => h2 F S1 σ1 H1 G1 out r1 e2 D (h.mono g1)
  | bk S1 => cases e2; exact h1 F S σ H G _ r e1 _ h
  | ct S1 => cases e2; exact h1 F S σ H G _ r e1 _ h
  | rt v S1 => cases e2; exact h1 F S σ H G _ r e1 _ h
def sBreak : SSem := fun S => some (.bk S)
def sCont : SSem := fun S => some (.ct S)
theorem sem_break : SemS K tBreak sBreak := fun F S σ H G out r e D h => by cases e; exact h σ H G r (.refl _)
theorem sem_cont : SemS K tCont sCont := fun F S σ H G out r e D h => by cases e; exact h σ H G r (.refl _)
def sNever : SSem := fun _ => none
theorem sem_never : SemS K tNever sNever := fun F S σ H G out r e D h => by cases e
def sDrop (fe : ES) : SSem := fun S => (fe S).map fun p => .nx p.2
theorem sem_drop (h1 : SemE K te fe) : SemS K (tDrop te) (sDrop fe) := fun F S σ H G out r e D h => by
  obtain ⟨⟨o, S1⟩, e1, e2⟩ := Option.map_eq_some_iff.mp e
  cases e2
  exact h1 F S σ H G o S1 r e1 _ fun v H1 G1 r1 g1 _ => h σ H1 G1 r1 g1
def sRet (fd : DS) : SSem := fun S => (fd S).map fun p => .rt (.d p.1) p.2
theorem SR.pushD {F : Fr} {S : List SD} {σ : L2.St} {H G : Hp} {v : V} {x : PyData} (r : SR K F S σ H G) (h : Rp K G v x) : SR K F (S ++ [.d x]) (σ ++ [some v]) H G := by
  have L := r.len
  have old : ∀ {i : Nat} {s : SD}, (S ++ [.d x])[i]? = some s → (i < S.length ∧ S[i]? = some s) ∨ (i = S.length ∧ s = .d x) := fun {i s} e => by
    by_cases hi : i < S.length
    · rw [List.getElem?_append_left hi] at e; exact .inl ⟨hi, e⟩
    · rw [List.getElem?_append_right (by omega)] at e
      cases q : i - S.length with
      | zero => rw [q] at e; cases e; exact .inr ⟨by omega, rfl⟩
      | succ n => rw [q] at e; simp at e
  have ow : ∀ {i : Nat} {b : Bool} {xs : List PyData}, (S ++ [.d x])[i]? = some (.own b xs) → S[i]? = some (.own b xs) ∧ (σ ++ [some v])[i]? = σ[i]? := fun {i b xs} e => by
    rcases old e with ⟨h1, h2⟩ | ⟨_, h2⟩
    · exact ⟨h2, List.getElem?_append_left (by omega)⟩
    · cases h2
  refine ⟨by simp [L], r.g0, r.gh, r.new, r.keep, r.live, fun i y e => ?_, fun i b xs e => ?_, fun i j a b1 x1 b2 x2 e1 e2 e3 e4 => ?_⟩
  · rcases old e with ⟨h1, h2⟩ | ⟨h1, h2⟩
    · rw [List.getElem?_append_left (by omega)]; exact r.dat i y h2
    · cases h2
      refine ⟨v, ?_, h⟩
      rw [List.getElem?_append_right (by omega), h1, L]
      simp
  · obtain ⟨h1, h2⟩ := ow e
    rw [h2]; exact r.own i b xs h1
  · obtain ⟨h1, h2⟩ := ow e1
    obtain ⟨h3, h4⟩ := ow e2
    rw [h2] at e3
    rw [h4] at e4
    exact r.sep i j a b1 x1 b2 x2 h1 h3 e3 e4
theorem SR.pushO {F : Fr} {S : List SD} {σ : L2.St} {H G : Hp} {p : Addr} {vs : List V} {xs : List PyData} (r : SR K F S σ H G) (h0 : F.H0 p = none) (hg : G p = none) (ap : Apart S σ p) (hh : H p = some (.lst vs)) (h : RpAll K G vs xs) : SR K F (S ++ [.own false xs]) (σ ++ [some (.ref p)]) H G := by
  have L := r.len
  have old : ∀ {i : Nat} {s : SD}, (S ++ [.own false xs])[i]? = some s → (i < S.length ∧ S[i]? = some s ∧ (σ ++ [some (.ref p)])[i]? = σ[i]?) ∨ (i = S.length ∧ s = .own false xs ∧ (σ ++ [some (.ref p)])[i]? = some (some (.ref p))) := fun {i s} e => by
    by_cases hi : i < S.length
    · rw [List.getElem?_append_left hi] at e; exact .inl ⟨hi, e, List.getElem?_append_left (by omega)⟩
    · rw [List.getElem?_append_right (by omega)] at e
      cases q : i - S.length with
      | zero => rw [q] at e; cases e; exact .inr ⟨by omega, rfl, by rw [List.getElem?_append_right (by omega), L, q]; rfl⟩
      | succ n => rw [q] at e; simp at e
  refine ⟨by simp [L], r.g0, r.gh, r.new, r.keep, r.live, fun i y e => ?_, fun i b ys e => ?_, fun i j a b1 x1 b2 x2 e1 e2 e3 e4 => ?_⟩
  · rcases old e with ⟨h1, h2, h3⟩ | ⟨h1, h2, _⟩
    · rw [h3]; exact r.dat i y h2
    · cases h2
  · rcases old e with ⟨h1, h2, h3⟩ | ⟨h1, h2, h3⟩
    · rw [h3]; exact r.own i b ys h2
    · cases h2
      exact ⟨p, vs, h3, hg, hh, h, (fun q => by cases q), fun _ => h0⟩
  · rcases old e1 with ⟨h1, h2, h3⟩ | ⟨h1, h2, h3⟩ <;> rcases old e2 with ⟨k1, k2, k3⟩ | ⟨k1, k2, k3⟩
    · rw [h3] at e3; rw [k3] at e4
      exact r.sep i j a b1 x1 b2 x2 h2 k2 e3 e4
    · rw [h3] at e3; rw [k3] at e4
      cases e4
      exact absurd e3 (ap i _ _ h2)
    · rw [h3] at e3; rw [k3] at e4
      cases e3
      exact absurd e4 (ap j _ _ k2)
    · omega
theorem sem_ret (h1 : SemD K te fd) : SemS K (tRet te) (sRet fd) := fun F S σ H G out r e D h => by
  obtain ⟨⟨o, S1⟩, e1, e2⟩ := Option.map_eq_some_iff.mp e
  cases e2
  exact h1 F S σ H G o S1 r e1 _ fun v H1 G1 r1 g1 h2 => h v σ H1 G1 (r1.pushD h2) g1
def sRetL (fl : LS) : SSem := fun S => (fl S).map fun p => .rt (.own false p.1) p.2
theorem sem_retL (h1 : SemL K te fl) : SemS K (tRet te) (sRetL fl) := fun F S σ H G out r e D h => by
  obtain ⟨⟨o, S1⟩, e1, e2⟩ := Option.map_eq_some_iff.mp e
  cases e2
  exact h1 F S σ H G o S1 r e1 _ fun p vs H1 G1 r1 g1 h0 hg ap hh h2 => h _ σ H1 G1 (r1.pushO h0 hg ap hh h2) g1
/-- return x, x a slot's own list: it goes to the caller -/
def retS (S : List SD) (i : Nat) : Option SD → Option Out
  | some (.own false xs) => some (.rt (.own false xs) (S.set i .un))
  | some (.d x) => some (.rt (.d x) S)
  | _ => none
def sRetV (i : Nat) : SSem := fun S => retS S i (S[i]?)
theorem sem_retV {i : Nat} : SemS K (tRet (tVar i)) (sRetV i) := fun F S σ H G out r e D h => by
  have e : retS S i (S[i]?) = some out := e
  cases q : S[i]? with
  | none => rw [q] at e; cases e
  | some sd =>
    rw [q] at e
    cases sd with
    | un => cases e
    | d x =>
      cases e
      obtain ⟨v, h1, h2⟩ := r.dat i x q
      exact ⟨v, h1, h v σ H G (r.pushD h2) (.refl _)⟩
    | own b xs =>
      cases b with
      | true => cases e
      | false =>
        cases e
        obtain ⟨a, vs, p1, p2, p3, p4, _, p6⟩ := r.own i _ _ q
        have hi : i < S.length := (List.getElem?_eq_some_iff.mp q).1
        have r2 : SR K F (S.set i .un) σ H G := by
          have := r.forget i (σ[i]'(by rw [r.len]; exact hi))
          rwa [List.set_getElem_self] at this
        have ap : Apart (S.set i .un) σ a := fun j b ys z1 z2 => by
          by_cases hj : i = j
          · subst hj
            rw [List.getElem?_set_self hi] at z1; cases z1
          · rw [List.getElem?_set_ne hj] at z1
            exact hj (r.sep i j a _ _ _ _ q z1 p1 z2)
        exact ⟨_, p1, h _ σ H G (r2.pushO (p6 rfl) p2 ap p3 p4) (.refl _)⟩
def sRetN : SSem := fun S => some (.rt (.d .none) S)
theorem sem_retN : SemS K tRetN sRetN := fun F S σ H G out r e D h => by
  cases e
  exact h .non σ H G (r.pushD .non) (.refl _)
def sAsg (fd : DS) (gs : GS) : SSem := fun S => (fd S).bind fun p => (gs p.1 p.2).map fun S1 => .nx S1
theorem sem_asg (h1 : SemD K te fd) (h2 : SemG K g ix gs) : SemS K (tAsg te g) (sAsg fd gs) := fun F S σ H G out r e D h => by
  obtain ⟨⟨x, S1⟩, e1, e⟩ := Option.bind_eq_some_iff.mp e
  obtain ⟨S2, e2, e3⟩ := Option.map_eq_some_iff.mp e
  cases e3
  exact h1 F S σ H G x S1 r e1 _ fun v H1 G1 r1 g1 hv => h2 F S1 σ H1 G1 v x S2 r1 hv e2 _ fun σ2 H2 G2 r2 g2 _ => h σ2 H2 G2 r2 (g1.trans g2)
def sAsgL (fl : LS) (i : Nat) : SSem := fun S => (fl S).map fun p => .nx (p.2.set i (.own false p.1))
theorem sem_asgL {i : Nat} (h1 : SemL K te fl) : SemS K (tAsg te (gName i)) (sAsgL fl i) := fun F S σ H G out r e D h => by
  obtain ⟨⟨xs, S1⟩, e1, e3⟩ := Option.map_eq_some_iff.mp e
  cases e3
  exact h1 F S σ H G xs S1 r e1 _ fun p vs H1 G1 r1 g1 h0 hg ap hh h2 => h _ H1 G1 (r1.setO i hg hh h2 h0 ap) g1
theorem sem_ifS (hc : SemB K tt ft) (h1 : SemS K t f) (h2 : SemS K u f') : SemS K (tIfS tt t u) (sIf ft f f') := fun F S σ H G out r e D h => by
  obtain ⟨⟨c, S1⟩, e1, e⟩ := Option.bind_eq_some_iff.mp e
  refine hc F S σ H G c S1 r e1 _ fun H1 G1 r1 g1 => ?_
  cases c with
  | true => exact h1 F S1 σ H1 G1 out r1 e D (h.mono g1)
  | false => exact h2 F S1 σ H1 G1 out r1 e D (h.mono g1)
/-! loops -/
def forGo (gs : GS) (fb : SSem) : List PyData → SSem
  | [], S => some (.nx S)
  | x :: xs, S => (gs x S).bind fun S1 => (fb S1).bind fun o => match o with
    | .nx S2 => forGo gs fb xs S2
    | .ct S2 => forGo gs fb xs S2
    | .bk S2 => some (.nx S2)
    | .rt r S2 => some (.rt r S2)
def sFor (fi : LS) (gs : GS) (fb : SSem) : SSem := fun S => (fi S).bind fun p => forGo gs fb p.1 p.2
theorem sem_for (hi : SemI K wi fi) (hg : SemG K g ix gs) (hb : SemS K tb fb) : SemS K (tFor wi g tb) (sFor fi gs fb) := fun F S σ H G out r e D h => by
  obtain ⟨⟨xs, S1⟩, e1, e2⟩ := Option.bind_eq_some_iff.mp e
  refine hi F S σ H G xs S1 r e1 _ fun J H1 G1 r1 g1 wk => ?_
  refine ⟨fun i m σ' H' => i + m = xs.length ∧ ∃ S' G', SR K F S' σ' H' G' ∧ Ex G1 G' ∧ forGo gs fb (xs.drop i) S' = some out, ⟨xs.length, by omega, S1, G1, r1, .refl _, by simpa using e2⟩, fun i m σ' H' ⟨hm, S', G', r', x', ef⟩ => ?_⟩
  obtain ⟨w1, w2⟩ := wk G' H' x' r'.gh i
  by_cases hi : i < xs.length
  · obtain ⟨go, yl⟩ := w1 hi
    have ed : xs.drop i = xs[i] :: xs.drop (i + 1) := List.drop_eq_getElem_cons hi
    rw [ed] at ef
    obtain ⟨S2, q1, ef⟩ := Option.bind_eq_some_iff.mp ef
    obtain ⟨o, q2, ef⟩ := Option.bind_eq_some_iff.mp ef
    refine .inr ⟨go, fun σ2 H2 => ∃ S3 G3, SR K F S3 σ2 H2 G3 ∧ Ex G1 G3 ∧ forGo gs fb (xs.drop (i + 1)) S3 = some out, fun σ2 H2 ⟨S3, G3, r3, x3, e3⟩ => ⟨m - 1, by omega, by omega, S3, G3, r3, x3, e3⟩, fun v H2 hy => ?_⟩
    obtain ⟨G2, x, hx, px, hr⟩ := yl v H2 hy
    rw [List.getElem?_eq_getElem hi] at hx
    cases hx
    refine hg F S' σ' H2 G2 v _ S2 (r'.ext px) hr q1 _ fun σ3 H3 G3 r3 g3 _ => ?_
    have x3 : Ex G1 G3 := (x'.trans px.gg).trans g3
    refine hb F S2 σ3 H3 G3 o r3 q2 _ ?_
    cases o with
    | nx S4 => exact fun σ4 H4 G4 r4 g4 => ⟨S4, G4, r4, x3.trans g4, ef⟩
    | ct S4 => exact fun σ4 H4 G4 r4 g4 => ⟨S4, G4, r4, x3.trans g4, ef⟩
    | bk S4 => cases ef; exact fun σ4 H4 G4 r4 g4 => h σ4 H4 G4 r4 ((g1.trans x3).trans g4)
    | rt rv S4 => cases ef; exact fun v4 σ4 H4 G4 r4 g4 => h v4 σ4 H4 G4 r4 ((g1.trans x3).trans g4)
  · refine .inl ⟨w2 (by omega), ?_⟩
    rw [List.drop_eq_nil_of_le (by omega)] at ef
    cases ef
    exact h σ' H' G' r' (g1.trans x')
def whileGo (ft : BS) (fb : SSem) : Nat → SSem
  | 0, _ => none
  | n + 1, S => (ft S).bind fun p => if p.1 = true then (fb p.2).bind fun o => match o with
    | .nx S2 => whileGo ft fb n S2
    | .ct S2 => whileGo ft fb n S2
    | .bk S2 => some (.nx S2)
    | .rt r S2 => some (.rt r S2) else some (.nx p.2)
def sWhile (n : Nat) (ft : BS) (fb : SSem) : SSem := fun S => whileGo ft fb n S
theorem sem_while {n : Nat} (ht : SemB K tt ft) (hb : SemS K tb fb) : SemS K (tWhile tt tb) (sWhile n ft fb) := fun F S σ H G out r e D h => by
  refine ⟨fun m σ' H' => ∃ S' G', SR K F S' σ' H' G' ∧ Ex G G' ∧ whileGo ft fb m S' = some out, ⟨n, S, G, r, .refl _, e⟩, fun m σ' H' ⟨S', G', r', x', ef⟩ => ?_⟩
  cases m with
  | zero => cases ef
  | succ m =>
    obtain ⟨⟨c, S1⟩, e1, ef⟩ := Option.bind_eq_some_iff.mp ef
    refine ht F S' σ' H' G' c S1 r' e1 _ fun H1 G1 r1 g1 => ?_
    cases c with
    | false => cases ef; exact h σ' H1 G1 r1 (x'.trans g1)
    | true =>
      have ef : ((fb S1).bind fun o => match o with
        | .nx S2 => whileGo ft fb m S2
        | .ct S2 => whileGo ft fb m S2
        | .bk S2 => some (.nx S2)
        | .rt r S2 => some (.rt r S2)) = some out := ef
      obtain ⟨o, q2, ef⟩ := Option.bind_eq_some_iff.mp ef
      refine ⟨fun σ2 H2 => ∃ S3 G3, SR K F S3 σ2 H2 G3 ∧ Ex G G3 ∧ whileGo ft fb m S3 = some out, fun σ2 H2 ⟨S3, G3, r3, x3, e3⟩ => ⟨m, by omega, S3, G3, r3, x3, e3⟩, ?_⟩
      refine hb F S1 σ' H1 G1 o r1 q2 _ ?_
      cases o with
      | nx S4 => exact fun σ4 H4 G4 r4 g4 => ⟨S4, G4, r4, (x'.trans g1).trans g4, ef⟩
      | ct S4 => exact fun σ4 H4 G4 r4 g4 => ⟨S4, G4, r4, (x'.trans g1).trans g4, ef⟩
      | bk S4 => cases ef; exact fun σ4 H4 G4 r4 g4 => h σ4 H4 G4 r4 ((x'.trans g1).trans g4)
      | rt rv S4 => cases ef; exact fun v4 σ4 H4 G4 r4 g4 => h v4 σ4 H4 G4 r4 ((x'.trans g1).trans g4)
end

/-! ### comprehensions -/
def sYes : BS := fun S => some (true, S)
theorem sem_yes {K : PySem.W.Frag} : SemB K tYes sYes := fun F S σ H G b S' r e Q k => by cases e; exact k H G r (.refl _)
def lcGo (vs : List Nat) (gs : GS) (fc : BS) (fd : DS) : List PyData → List SD → Option (List PyData × List SD)
  | [], S => some ([], S)
  | x :: xs, S => (gs x (borGo vs 0 S)).bind fun S1 => (fc S1).bind fun p => if p.1 = true then (fd p.2).bind fun q => (lcGo vs gs fc fd xs (unbGo vs 0 S q.2)).map fun z => (q.1 :: z.1, z.2) else lcGo vs gs fc fd xs (unbGo vs 0 S p.2)
def sLC (vs : List Nat) (fi : LS) (gs : GS) (fc : BS) (fd : DS) : LS := fun S => (fi S).bind fun p => if p.1.length < 100000 then lcGo vs gs fc fd p.1 p.2 else none
theorem sem_lc {K : PySem.W.Frag} {wi : TI} {g : TG} {tt : TT} {te : TE} {vs ix : List Nat} {fi : LS} {gs : GS} {fc : BS} {fd : DS} (hi : SemI K wi fi) (hg : SemG K g ix gs) (hix : ∀ i ∈ ix, i ∈ vs) (ht : SemB K tt fc) (he : SemD K te fd) : SemL K (tLc wi g tt te vs) (sLC vs fi gs fc fd) := by
  intro F S σ H G out S' r e Q k
  obtain ⟨⟨xs, S1⟩, e1, e2⟩ := Option.bind_eq_some_iff.mp e
  have e2 : (if xs.length < 100000 then lcGo vs gs fc fd xs S1 else none) = some (out, S') := e2
  split at e2
  · rename_i hlen
    refine hi F S σ H G xs S1 r e1 _ fun J H1 G1 r1 g1 wk D hD => ?_
    obtain ⟨f0, fg, fa⟩ := r1.fresh hD
    refine ⟨fun i m H' => i + m = xs.length ∧ ∃ T G' accV acc rest, SR K F T σ H' G' ∧ Ex G1 G' ∧ Apart T σ D ∧ G' D = none ∧ H' D = some (.lst accV) ∧ RpAll K G' accV acc ∧ acc.length ≤ i ∧ lcGo vs gs fc fd (xs.drop i) T = some (rest, S') ∧ acc ++ rest = out,
      ⟨xs.length, by omega, S1, G1, [], [], out, r1.ext (PX.side r1.gh hD), .refl _, fa, fg, upd_same, .nil, by simp, by simpa using e2, rfl⟩, fun i m H' ⟨hm, T, G', accV, acc, rest, r', x', ap, gD, hh, ha, hl, ef, eo⟩ => ?_⟩
    obtain ⟨w1, w2⟩ := wk G' H' x' r'.gh i
    by_cases hi : i < xs.length
    · obtain ⟨go, yl⟩ := w1 hi
      have ed : xs.drop i = xs[i] :: xs.drop (i + 1) := List.drop_eq_getElem_cons hi
      rw [ed] at ef
      obtain ⟨S2, q1, ef⟩ := Option.bind_eq_some_iff.mp ef
      obtain ⟨⟨c, S3⟩, q2, ef⟩ := Option.bind_eq_some_iff.mp ef
      refine .inr ⟨go, fun H2 => ∃ T G' accV acc rest, SR K F T σ H2 G' ∧ Ex G1 G' ∧ Apart T σ D ∧ G' D = none ∧ H2 D = some (.lst accV) ∧ RpAll K G' accV acc ∧ acc.length ≤ i + 1 ∧ lcGo vs gs fc fd (xs.drop (i + 1)) T = some (rest, S') ∧ acc ++ rest = out,
        fun H2 hN => ⟨m - 1, by omega, by omega, hN⟩, fun v H2 hy => ?_⟩
      obtain ⟨G2, x, hx, px, hr⟩ := yl v H2 hy
      rw [List.getElem?_eq_getElem hi] at hx
      cases hx
      have r2 : SR K F T σ H2 G2 := r'.ext px
      have gD2 : G2 D = none := by
        cases z : G2 D with
        | none => rfl
        | some u =>
          rcases px.new D (by rw [z]; simp) with q | q
          · exact absurd gD q
          · rw [hh] at q; cases q
      have hh2 : H2 D = some (.lst accV) := px.hh D _ hh
      refine hg (Fr.blk vs T σ H2 G2) (borGo vs 0 T) (wipe σ vs) H2 G2 v _ S2 (r2.sub vs) hr q1 _ fun σ3 H3 G3 r3 g3 b3 => ⟨?_, ?_⟩
      · have b4 := b3.mono hix
        exact (wipe_ext (fun i hi => ((Bt.wiped.trans b4).2 i hi)) (Bt.wiped.trans b4).1).symm
      · refine ht _ S2 σ3 H3 G3 c S3 r3 q2 _ fun H4 G4 r4 g4 => ?_
        cases c with
        | true =>
          have ef : ((fd S3).bind fun q => (lcGo vs gs fc fd (xs.drop (i + 1)) (unbGo vs 0 T q.2)).map fun z => (q.1 :: z.1, z.2)) = some (rest, S') := ef
          obtain ⟨⟨y, S4⟩, q3, ef⟩ := Option.bind_eq_some_iff.mp ef
          obtain ⟨⟨rest', S5⟩, q4, q5⟩ := Option.map_eq_some_iff.mp ef
          cases q5
          show te σ3 H4 _
          refine he _ S3 σ3 H4 G4 y S4 r4 q3 _ fun w H5 G5 r5 g5 hy5 => ?_
          obtain ⟨hD5, gD5⟩ := r2.aside r5 hh2 gD2 ap
          have x5 : Ex G1 G5 := ((x'.trans px.gg).trans g3).trans (g4.trans g5)
          have x25 : Ex G' G5 := (px.gg.trans g3).trans (g4.trans g5)
          refine ⟨accV, hD5, szl (by rw [ha.length]; omega), unbGo vs 0 T S4, G5, accV ++ [w], acc ++ [y], rest', (r2.unsub r5).side f0 gD5 (apart_unb ap), x5, apart_unb ap, gD5, upd_same, (ha.mono x25).append (.cons hy5 .nil), by simp; omega, q4, by rw [← eo]; simp⟩
        | false =>
          have ef : lcGo vs gs fc fd (xs.drop (i + 1)) (unbGo vs 0 T S3) = some (rest, S') := ef
          show ∃ T G' accV acc rest, _
          obtain ⟨hD5, gD5⟩ := r2.aside r4 hh2 gD2 ap
          have x5 : Ex G1 G4 := ((x'.trans px.gg).trans g3).trans g4
          have x25 : Ex G' G4 := (px.gg.trans g3).trans g4
          exact ⟨unbGo vs 0 T S3, G4, accV, acc, rest, r2.unsub r4, x5, apart_unb ap, gD5, hD5, ha.mono x25, by omega, ef, eo⟩
    · refine .inl ⟨w2 (by omega), ?_⟩
      rw [List.drop_eq_nil_of_le (by omega)] at ef
      cases ef
      rw [List.append_nil] at eo
      subst eo
      exact k D accV H' G' r' (g1.trans x') f0 gD ap hh ha
  · cases e2
end DL

set_option Elab.async false
set_option linter.all false
set_option maxRecDepth 100000
set_option maxHeartbeats 4000000
/-! DL, part 4: defs and their calls, the law's end. -/
namespace DL
open PySem PySem.Spec PyProof.Rows L2

/-- a def, as a function on slots: what it hands back, what has become of the lists that were lent -/
abbrev Fn := List SD → Option (SD × List SD)
def spM (K : PySem.W.Frag) (n : Nat) (m : Fn) : Sp := fun vs H Q _ => ∃ (Dl : List SD) (G : Hp) (r : SD) (Dl' : List SD), vs.length = n ∧ SR K ⟨H, G, Dl, vs.map some⟩ Dl (vs.map some) H G ∧ m Dl = some (r, Dl') ∧
  ∀ v H' G', SR K ⟨H, G, Dl, vs.map some⟩ (Dl' ++ [r]) (vs.map some ++ [some v]) H' G' → Q v H'
structure FnG (P : Program) (w : World) (K : PySem.W.Frag) (mg : Str → Option Value) (base : Heap) (k : Nat) (f : Addr) (fd : FuncData) (ps : List Str) (m : Fn) : Prop where
  run : ∀ (A : Around) (outer : List Env) (s : Shared) (H : Hp) (args : Args) (us : List Value) (vs : List V) (Q : VK), Room k A → A.guards = some [] → Env0 P w K mg base A outer s H → BindsTo s fd args (ps.zip us) → Vals vs us →
    spM K ps.length m vs H Q E0 → codeAny (model P w) A (.call (.ref f) args) (CR CX0 outer P w H s Q E0) s
theorem FnG.mono {P : Program} {w : World} {K : PySem.W.Frag} {mg : Str → Option Value} {base : Heap} {j k : Nat} {f : Addr} {fd : FuncData} {ps : List Str} {m : Fn} (F : FnG P w K mg base j f fd ps m) (h : j ≤ k) : FnG P w K mg base k f fd ps m :=
  ⟨fun A outer s H args us vs Q hr => F.run A outer s H args us vs Q (hr.mono h)⟩

/-! ### a def's body -/
/-- what the borrowed lists have become -/
def fin : List SD → List SD → Option (List SD)
  | [], _ => some []
  | .own _ _ :: Dl, .own true xs :: S => (fin Dl S).map fun z => .own true xs :: z
  | .own _ _ :: _, _ => none
  | s :: Dl, _ :: S => (fin Dl S).map fun z => s :: z
  | _ :: _, [] => none
def defOut (Dl : List SD) : Out → Option (SD × List SD)
  | .nx S => (fin Dl S).map fun z => (.d .none, z)
  | .rt r S => (fin Dl S).map fun z => (r, z)
  | _ => none
/-- N: how many slots there are -/
def defn (N : Nat) (f : SSem) : Fn := fun Dl => (f (Dl ++ List.replicate (N - Dl.length) .un)).bind (defOut Dl)
theorem fin_len : ∀ {Dl S T : List SD}, fin Dl S = some T → T.length = Dl.length
  | [], _, _, h => by cases h; rfl
  | .own _ _ :: Dl, .own true xs :: S, _, h => by
    obtain ⟨z, h1, rfl⟩ := Option.map_eq_some_iff.mp h
    simp [fin_len h1]
  | .un :: Dl, _ :: S, _, h => by
    obtain ⟨z, h1, rfl⟩ := Option.map_eq_some_iff.mp h
    simp [fin_len h1]
  | .d _ :: Dl, _ :: S, _, h => by
    obtain ⟨z, h1, rfl⟩ := Option.map_eq_some_iff.mp h
    simp [fin_len h1]
theorem fin_get : ∀ {Dl S T : List SD}, fin Dl S = some T → ∀ (i : Nat) (s : SD), T[i]? = some s → (∃ xs, s = .own true xs ∧ S[i]? = some (.own true xs)) ∨ (Dl[i]? = some s ∧ ∀ b xs, s ≠ .own b xs)
  | [], _, _, h, i, s, e => by cases h; simp at e
  | .own _ _ :: Dl, .own true xs :: S, _, h, i, s, e => by
    obtain ⟨z, h1, rfl⟩ := Option.map_eq_some_iff.mp h
    cases i with
    | zero => cases e; exact .inl ⟨xs, rfl, rfl⟩
    | succ i => exact fin_get h1 i s e
  | .un :: Dl, _ :: S, _, h, i, s, e => by
    obtain ⟨z, h1, rfl⟩ := Option.map_eq_some_iff.mp h
    cases i with
    | zero => cases e; exact .inr ⟨rfl, fun _ _ q => by cases q⟩
    | succ i => exact fin_get h1 i s e
  | .d _ :: Dl, _ :: S, _, h, i, s, e => by
    obtain ⟨z, h1, rfl⟩ := Option.map_eq_some_iff.mp h
    cases i with
    | zero => cases e; exact .inr ⟨rfl, fun _ _ q => by cases q⟩
    | succ i => exact fin_get h1 i s e
theorem fin_le : ∀ {Dl S T : List SD}, fin Dl S = some T → Dl.length ≤ S.length := by
  intro Dl
  induction Dl with
  | nil => intro S T _; simp
  | cons s Dl ih =>
    intro S T h
    cases S with
    | nil => cases s <;> simp [fin] at h
    | cons s' S =>
      cases s with
      | own b xs =>
        cases s' with
        | own c ys =>
          cases c with
          | true =>
            obtain ⟨z, h1, _⟩ := Option.map_eq_some_iff.mp h
            have := ih h1
            simp; omega
          | false => simp [fin] at h
        | _ => simp [fin] at h
      | _ =>
        obtain ⟨z, h1, _⟩ := Option.map_eq_some_iff.mp h
        have := ih h1
        simp; omega
theorem SR.undef {K : PySem.W.Frag} {H G : Hp} {Dl : List SD} {vs : List V} {N : Nat} (r : SR K ⟨H, G, Dl, vs.map some⟩ Dl (vs.map some) H G) :
    SR K ⟨H, G, Dl, vs.map some⟩ (Dl ++ List.replicate (N - Dl.length) .un) (vs.map some ++ List.replicate (N - vs.length) none) H G := by
  have L : vs.length = Dl.length := by simpa using r.len
  have old : ∀ {i : Nat} {s : SD}, (Dl ++ List.replicate (N - Dl.length) .un)[i]? = some s → s = .un ∨ (Dl[i]? = some s ∧ (vs.map some ++ List.replicate (N - vs.length) none)[i]? = (vs.map some)[i]?) := fun {i s} e => by
    by_cases hi : i < Dl.length
    · rw [List.getElem?_append_left hi] at e
      exact .inr ⟨e, List.getElem?_append_left (by simpa [L] using hi)⟩
    · rw [List.getElem?_append_right (by omega), List.getElem?_replicate] at e
      split at e
      · cases e; exact .inl rfl
      · cases e
  refine ⟨by simp [L], r.g0, r.gh, r.new, r.keep, r.live, fun i x e => ?_, fun i b xs e => ?_, fun i j a b1 x1 b2 x2 e1 e2 e3 e4 => ?_⟩
  · rcases old e with q | ⟨h1, h2⟩
    · cases q
    · rw [h2]; exact r.dat i x h1
  · rcases old e with q | ⟨h1, h2⟩
    · cases q
    · rw [h2]; exact r.own i b xs h1
  · rcases old e1 with q | ⟨h1, h2⟩
    · cases q
    · rcases old e2 with q | ⟨h3, h4⟩
      · cases q
      · rw [h2] at e3; rw [h4] at e4
        exact r.sep i j a b1 x1 b2 x2 h1 h3 e3 e4
/-- at a def's end -/
theorem SR.done {K : PySem.W.Frag} {H G H' G' : Hp} {Dl S T : List SD} {vs : List V} {σ : L2.St} {r : SD} {v : V} (r0 : SR K ⟨H, G, Dl, vs.map some⟩ Dl (vs.map some) H G) (r1 : SR K ⟨H, G, Dl, vs.map some⟩ (S ++ [r]) (σ ++ [some v]) H' G') (e : fin Dl S = some T) :
    SR K ⟨H, G, Dl, vs.map some⟩ (T ++ [r]) (vs.map some ++ [some v]) H' G' := by
  have L : vs.length = Dl.length := by simpa using r0.len
  have L1 : σ.length = S.length := by simpa using r1.len
  have LT := fin_len e
  -- each told slot stands in S, or is as it was
  have old : ∀ {i : Nat} {s : SD}, (T ++ [r])[i]? = some s → (i < T.length ∧ (vs.map some ++ [some v])[i]? = (vs.map some)[i]? ∧ ((∃ xs, s = .own true xs ∧ (S ++ [r])[i]? = some (.own true xs) ∧ (σ ++ [some v])[i]? = (vs.map some)[i]?) ∨ (Dl[i]? = some s ∧ ∀ b xs, s ≠ .own b xs))) ∨
      (i = T.length ∧ s = r ∧ (vs.map some ++ [some v])[i]? = some (some v)) := fun {i s} q => by
    by_cases hi : i < T.length
    · rw [List.getElem?_append_left hi] at q
      refine .inl ⟨hi, List.getElem?_append_left (by simp; omega), ?_⟩
      rcases fin_get e i s q with ⟨xs, h1, h2⟩ | h
      · refine .inl ⟨xs, h1, ?_, ?_⟩
        · rw [List.getElem?_append_left (List.getElem?_eq_some_iff.mp h2).1]; exact h2
        · have h3 : (S ++ [r])[i]? = some (.own true xs) := by rw [List.getElem?_append_left (List.getElem?_eq_some_iff.mp h2).1]; exact h2
          obtain ⟨a, ws, p1, _, _, _, p5, _⟩ := r1.own i _ _ h3
          exact p1.trans ((p5 rfl).2).symm
      · exact .inr h
    · rw [List.getElem?_append_right (by omega)] at q
      cases z : i - T.length with
      | zero =>
        rw [z] at q; cases q
        exact .inr ⟨by omega, rfl, by rw [List.getElem?_append_right (by simp; omega)]; simp; rw [show i - vs.length = 0 by omega]; rfl⟩
      | succ n => rw [z] at q; simp at q
  have last : ∀ {s : SD}, s = r → (S ++ [r])[S.length]? = some s ∧ (σ ++ [some v])[S.length]? = some (some v) := fun {s} q => by
    subst q
    exact ⟨by simp, by rw [← L1]; simp⟩
  refine ⟨by simp; omega, r1.g0, r1.gh, r1.new, r1.keep, r1.live, fun i x q => ?_, fun i b xs q => ?_, fun i j a b1 x1 b2 x2 e1 e2 e3 e4 => ?_⟩
  · rcases old q with ⟨hi, h1, h2⟩ | ⟨hi, h1, h2⟩
    · rw [h1]
      rcases h2 with ⟨xs, z, _⟩ | ⟨h3, _⟩
      · cases z
      · obtain ⟨u, q1, q2⟩ := r0.dat i x h3
        exact ⟨u, q1, q2.mono r1.g0⟩
    · rw [h2]
      obtain ⟨h3, h4⟩ := last h1
      obtain ⟨u, q1, q2⟩ := r1.dat _ x h3
      rw [h4] at q1; cases q1
      exact ⟨v, rfl, q2⟩
  · rcases old q with ⟨hi, h1, h2⟩ | ⟨hi, h1, h2⟩
    · rw [h1]
      rcases h2 with ⟨ys, z, h3, h4⟩ | ⟨_, h3⟩
      · cases z
        obtain ⟨a, ws, p1, p2, p3, p4, p5, p6⟩ := r1.own i _ _ h3
        exact ⟨a, ws, h4.symm.trans p1, p2, p3, p4, p5, p6⟩
      · exact absurd rfl (h3 b xs)
    · rw [h2]
      obtain ⟨h3, h4⟩ := last h1
      obtain ⟨a, ws, p1, p2, p3, p4, p5, p6⟩ := r1.own _ _ _ h3
      rw [h4] at p1; cases p1
      cases b with
      | false => exact ⟨a, ws, rfl, p2, p3, p4, (fun z => by cases z), p6⟩
      | true =>
        exfalso
        have h7 := (p5 rfl).2
        have h8 : (vs.map some)[S.length]? = some (some (.ref a)) := h7
        -- the place of the result lies behind the parameters
        have h9 : S.length < vs.length := by
          have := (List.getElem?_eq_some_iff.mp h8).1
          simpa using this
        have h10 : Dl.length ≤ S.length := by
          exact fin_le e
        omega
  · have via : ∀ {i : Nat} {b : Bool} {xs : List PyData}, (T ++ [r])[i]? = some (.own b xs) → ∃ j : Nat, (S ++ [r])[j]? = some (.own b xs) ∧ (σ ++ [some v])[j]? = (vs.map some ++ [some v])[i]? ∧ (i < T.length → j = i) ∧ (i = T.length → j = S.length) := fun {i b xs} q => by
      rcases old q with ⟨hi, h1, h2⟩ | ⟨hi, h1, h2⟩
      · rcases h2 with ⟨ys, z, h3, h4⟩ | ⟨_, h3⟩
        · cases z
          exact ⟨i, h3, h4.trans h1.symm, fun _ => rfl, fun q => by omega⟩
        · exact absurd rfl (h3 b xs)
      · obtain ⟨h3, h4⟩ := last h1
        exact ⟨S.length, h3, h4.trans h2.symm, fun q => by omega, fun _ => rfl⟩
    obtain ⟨i', p1, p2, p3, p4⟩ := via e1
    obtain ⟨j', q1, q2, q3, q4⟩ := via e2
    have ee := r1.sep i' j' a _ _ _ _ p1 q1 (p2.trans e3) (q2.trans e4)
    have li : i < T.length ∨ i = T.length := by
      have := (List.getElem?_eq_some_iff.mp e1).1
      simp at this; omega
    have lj : j < T.length ∨ j = T.length := by
      have := (List.getElem?_eq_some_iff.mp e2).1
      simp at this; omega
    rcases li with a1 | a1 <;> rcases lj with b1 | b1
    · have := p3 a1; have := q3 b1; omega
    · have h1 := p3 a1
      have h2 := q4 b1
      have h3 := fin_le e
      omega
    · have h1 := p4 a1
      have h2 := q3 b1
      have h3 := fin_le e
      omega
    · omega

section
variable {P : Program} {w : World} {K : PySem.W.Frag} {mg : Str → Option Value} {base : Heap}
/-- the context of a def's body -/
abbrev cxG (P : Program) (w : World) (K : PySem.W.Frag) (mg : Str → Option Value) (base : Heap) (N : List Str) (qual : Str) (scope : Scope) (f : Addr) (cd : Value) (A : Around) (outer : List Env) (s : Shared) (H : Hp) : Cx := (cxOf CX0 P w K mg base N qual scope f cd A outer s H E0).nox
theorem fnG_of {x qual : Str} {st : Stmt} {f : Addr} {fd : FuncData} {N ps : List Str} {k n : Nat} {fs : SSem} (F : Fun K x qual st f fd) (S : FnScope N ps (defScope st)) (hn : N.length = n)
    (hbody : ∀ (cdv : Value) (A : Around) (outer : List Env) (s : Shared) (H : Hp), Room k (cxG P w K mg base N qual (defScope st) f cdv A outer s H).A → (cxG P w K mg base N qual (defScope st) f cdv A outer s H).A.guards = some [] →
      ∃ t, SSs (cxG P w K mg base N qual (defScope st) f cdv A outer s H) K (defBody st) t fs) : FnG P w K mg base (k + 1) f fd ps (defn n fs) := by
  subst hn
  obtain ⟨oc, od, kV, doc, pm, an, cdv, ct, osl, rfl, lk, hcd⟩ := F.ex
  constructor
  intro A outer s H args us vs Q hr hgd e0 hb rv hsp
  obtain ⟨Dl, G, r, Dl', hl, r0, em, q⟩ := hsp
  have KX : K.In s.heap := e0.mod.kin.keeps fun b o e => (e0.bs b o e).1
  have lim : s.heap.NoLimit := e0.mod.nolimit.keeps fun b o e => (e0.bs b o e).1
  have par : ∀ y ∈ ps.zip us, (defScope st).names.lookup y.1 = some .local ∨ ((defScope st).names.lookup y.1 = some .cell ∧ ((cellsFrom (s.heap.objs.size + 1) (defScope st).names []).lookup y.1).isSome = true) := by
    intro y hy
    rcases S.par y.1 (List.of_mem_zip (show (y.1, y.2) ∈ ps.zip us from hy)).1 with z | z
    · exact .inl z
    · exact .inr ⟨z, PySem.W.cellsFrom_some _ _ _ (.inl z)⟩
  refine codeAny_call_function hr.depth (KX _ _ lk) rfl S.co S.gen rfl (PySem.W.codeRec_of KX hcd) (hb _ _ _ _ ?_)
  refine wpAny_newFunctionEnv_cells S.kind par fun env he s1 x => ?_
  subst he
  refine ⟨lim.keeps x.toInCall.keep, codeAny_func ?_⟩
  obtain ⟨t, ht⟩ := hbody cdv A outer s H (hr.deeper _) hgd
  have I := inv_start (CX := CX0) (E := E0) S hr.hd e0 hl rv x
  obtain ⟨out, e1, e2⟩ := Option.bind_eq_some_iff.mp em
  have L : vs.length = Dl.length := by simpa using r0.len
  have rr := r0.undef (N := N.length)
  have hN : vs.length ≤ N.length := by
    have h1 := S.pre
    have h2 : (N.take ps.length).length = ps.length := by rw [h1]
    rw [List.length_take] at h2
    omega
  have read : t { nx := fun _ H' => Q .non H', rt := Q } (start N vs) H := by
    refine ht.ok _ _ _ H G out rr e1 _ ?_
    cases out with
    | nx S1 =>
      obtain ⟨T, h1, h2⟩ := Option.map_eq_some_iff.mp e2
      cases h2
      exact fun σ' H' G' r1 _ => q .non H' G' (r0.done (r1.pushD .non) h1)
    | rt r' S1 =>
      obtain ⟨T, h1, h2⟩ := Option.map_eq_some_iff.mp e2
      cases h2
      exact fun v σ' H' G' r1 _ => q v H' G' (r0.done r1 h1)
    | bk S1 => cases e2
    | ct S1 => cases e2
  refine wpAny_mono (ht.p.run [] s1 (start N vs) H _ (I.wish _) read) (fun fl s' hs => ?_) fun e s' hs => hs.elim
  have hs := SP.unwish hs
  have end_ : ∀ {σ' : L2.St} {H' : Hp} {v : V} {u : Value}, Inv (cxOf CX0 P w K mg base N qual (defScope st) f cdv A outer s H E0) [] σ' H' s' → RelV v u → Q v H' → CE outer P w H s Q u s' :=
    fun {σ' H' v u} J ru qv => ⟨v, H', J.os, J.bare, J.base, J.hok, ru, qv⟩
  cases fl with
  | ret u => obtain ⟨v, σ', H', J, ru, qv⟩ := hs; exact end_ J ru qv
  | next => obtain ⟨σ', H', J, qv⟩ := hs; exact end_ (v := V.non) (u := Value.none) J rfl qv
  | brk => obtain ⟨_, _, _, qv⟩ := hs; exact qv.elim
  | cont => obtain ⟨_, _, _, qv⟩ := hs; exact qv.elim
end

/-! ### calls -/
def opSD (S : List SD) : Op → Option SD
  | .dat x => some (.d x)
  | .slot i => (S[i]?).bind fun s => match s with
    | .un => none
    | s => some (bor s)
def opSDs (S : List SD) : List Op → Option (List SD)
  | [] => some []
  | o :: os => (opSD S o).bind fun s => (opSDs S os).map fun ss => s :: ss
def isOwn : Option SD → Bool
  | some (.own _ _) => true
  | _ => false
/-- the slots whose own lists are lent -/
def ownIx (S : List SD) : List Op → List Nat
  | [] => []
  | .slot i :: os => if isOwn (S[i]?) = true then i :: ownIx S os else ownIx S os
  | .dat _ :: os => ownIx S os
def isSlot (j : Nat) : Op → Bool
  | .slot i => i == j
  | .dat _ => false
def findArg (j : Nat) : List Op → List SD → Option SD
  | [], _ => none
  | o :: os, rs => if isSlot j o = true then some (rs.headD .un) else findArg j os rs.tail
def wb1 : Option SD → SD → SD
  | none, s => s
  | some r, s => unb1 s r
def wbGo (os : List Op) (rs : List SD) : Nat → List SD → List SD
  | _, [] => []
  | j, s :: S => wb1 (findArg j os rs) s :: wbGo os rs (j + 1) S
theorem wbGo_get (os : List Op) (rs : List SD) : ∀ (S : List SD) (k i : Nat), (wbGo os rs k S)[i]? = (S[i]?).map (wb1 (findArg (k + i) os rs))
  | [], _, _ => by simp [wbGo]
  | s :: S, k, 0 => by simp [wbGo]
  | s :: S, k, i + 1 => by
    have ih := wbGo_get os rs S (k + 1) i
    have e : k + 1 + i = k + (i + 1) := by omega
    rw [e] at ih
    simpa [wbGo] using ih
theorem wbGo_len (os : List Op) (rs : List SD) : ∀ (S : List SD) (k : Nat), (wbGo os rs k S).length = S.length
  | [], _ => rfl
  | s :: S, k => by simp [wbGo, wbGo_len os rs S (k + 1)]
theorem isSlot_true {j : Nat} {o : Op} (h : isSlot j o = true) : o = .slot j := by
  cases o with
  | dat x => cases h
  | slot i =>
    have h : (i == j) = true := h
    rw [beq_iff_eq] at h; rw [h]
theorem findArg_some : ∀ {os : List Op} {rs : List SD} {j : Nat} {r : SD}, findArg j os rs = some r → ∃ i : Nat, os[i]? = some (.slot j) ∧ (rs[i]? = some r ∨ r = .un)
  | o :: os, rs, j, r, h => by
    unfold findArg at h
    split at h
    · rename_i hs
      cases h
      refine ⟨0, by rw [isSlot_true hs]; rfl, ?_⟩
      cases rs with
      | nil => exact .inr rfl
      | cons r rs => exact .inl rfl
    · obtain ⟨i, h1, h2⟩ := findArg_some h
      refine ⟨i + 1, h1, h2.imp (fun q => ?_) id⟩
      cases rs with
      | nil => simp at q
      | cons r rs => exact q
theorem findArg_none : ∀ {os : List Op} {rs : List SD} {j : Nat}, findArg j os rs = none → ∀ i : Nat, os[i]? ≠ some (.slot j)
  | [], rs, j, h, i => by simp
  | o :: os, rs, j, h, i => by
    unfold findArg at h
    split at h
    · cases h
    · rename_i hs
      cases i with
      | zero =>
        intro q
        cases q
        exact hs (by show (j == j) = true; simp)
      | succ i => exact findArg_none h i
theorem ownIx_mem : ∀ {S : List SD} {os : List Op} {i j : Nat}, os[i]? = some (.slot j) → isOwn (S[j]?) = true → j ∈ ownIx S os
  | S, o :: os, 0, j, h, q => by
    cases h
    unfold ownIx
    rw [if_pos q]; simp
  | S, .slot k :: os, i + 1, j, h, q => by
    have ih := ownIx_mem (S := S) (os := os) (i := i) (j := j) h q
    unfold ownIx
    split
    · exact List.mem_cons_of_mem _ ih
    · exact ih
  | S, .dat _ :: os, i + 1, j, h, q => ownIx_mem (S := S) (os := os) (i := i) (j := j) h q
theorem ownIx_inj : ∀ {S : List SD} {os : List Op} {i i' j : Nat}, (ownIx S os).Nodup → os[i]? = some (.slot j) → os[i']? = some (.slot j) → isOwn (S[j]?) = true → i = i'
  | S, o :: os, 0, 0, j, _, _, _, _ => rfl
  | S, o :: os, 0, i' + 1, j, nd, h, h', q => by
    exfalso
    cases h
    unfold ownIx at nd
    rw [if_pos q] at nd
    exact (List.nodup_cons.mp nd).1 (ownIx_mem h' q)
  | S, o :: os, i + 1, 0, j, nd, h, h', q => by
    exfalso
    cases h'
    unfold ownIx at nd
    rw [if_pos q] at nd
    exact (List.nodup_cons.mp nd).1 (ownIx_mem h q)
  | S, .slot k :: os, i + 1, i' + 1, j, nd, h, h', q => by
    unfold ownIx at nd
    split at nd
    · rw [ownIx_inj (List.nodup_cons.mp nd).2 h h' q]
    · rw [ownIx_inj nd h h' q]
  | S, .dat _ :: os, i + 1, i' + 1, j, nd, h, h', q => by
    rw [ownIx_inj (S := S) (os := os) nd h h' q]
theorem opSDs_get : ∀ {S : List SD} {os : List Op} {Dl : List SD}, opSDs S os = some Dl → ∀ (i : Nat) (s : SD), Dl[i]? = some s → ∃ o, os[i]? = some o ∧ opSD S o = some s
  | S, [], _, h, i, s, e => by cases h; simp at e
  | S, o :: os, _, h, i, s, e => by
    unfold opSDs at h
    obtain ⟨s1, h1, h⟩ := Option.bind_eq_some_iff.mp h
    obtain ⟨ss, h2, rfl⟩ := Option.map_eq_some_iff.mp h
    cases i with
    | zero => cases e; exact ⟨o, rfl, h1⟩
    | succ i => exact opSDs_get h2 i s e
theorem opSDs_len : ∀ {S : List SD} {os : List Op} {Dl : List SD}, opSDs S os = some Dl → Dl.length = os.length
  | S, [], _, h => by cases h; rfl
  | S, o :: os, _, h => by
    unfold opSDs at h
    obtain ⟨s1, h1, h⟩ := Option.bind_eq_some_iff.mp h
    obtain ⟨ss, h2, rfl⟩ := Option.map_eq_some_iff.mp h
    simp [opSDs_len h2]
theorem OpRs.get {K : PySem.W.Frag} {G : Hp} {σ : L2.St} : ∀ {vs : List V} {os : List Op}, OpRs K G σ vs os → ∀ (i : Nat) (o : Op), os[i]? = some o → ∃ v, vs[i]? = some v ∧ OpR K G σ v o
  | _, _, .nil, i, o, e => by simp at e
  | _, _, .cons h t, 0, o, e => by cases e; exact ⟨_, rfl, h⟩
  | _, _, .cons h t, i + 1, o, e => OpRs.get t i o e
theorem OpRs.length {K : PySem.W.Frag} {G : Hp} {σ : L2.St} : ∀ {vs : List V} {os : List Op}, OpRs K G σ vs os → vs.length = os.length
  | _, _, .nil => rfl
  | _, _, .cons h t => by simp [t.length]
theorem opSD_d {S : List SD} {o : Op} {x : PyData} (h : opSD S o = some (.d x)) : o = .dat x ∨ ∃ j : Nat, o = .slot j ∧ S[j]? = some (.d x) := by
  cases o with
  | dat y => cases h; exact .inl rfl
  | slot j =>
    obtain ⟨s, h1, h2⟩ := Option.bind_eq_some_iff.mp h
    cases s with
    | un => cases h2
    | d y => cases h2; exact .inr ⟨j, rfl, h1⟩
    | own b xs => cases h2
theorem opSD_own {S : List SD} {o : Op} {b : Bool} {xs : List PyData} (h : opSD S o = some (.own b xs)) : b = true ∧ ∃ (j : Nat) (c : Bool), o = .slot j ∧ S[j]? = some (.own c xs) := by
  cases o with
  | dat y => cases h
  | slot j =>
    obtain ⟨s, h1, h2⟩ := Option.bind_eq_some_iff.mp h
    cases s with
    | un => cases h2
    | d y => cases h2
    | own c ys => cases h2; exact ⟨rfl, j, c, rfl, h1⟩
section
variable {K : PySem.W.Frag} {F : Fr} {S : List SD} {σ : L2.St} {H G H' G' : Hp} {vs : List V} {os : List Op} {Dl Dl' : List SD}
theorem SR.args (r : SR K F S σ H G) (h : OpRs K G σ vs os) (e : opSDs S os = some Dl) (nd : (ownIx S os).Nodup) : SR K ⟨H, G, Dl, vs.map some⟩ Dl (vs.map some) H G := by
  have own : ∀ (i : Nat) (b : Bool) (xs : List PyData), Dl[i]? = some (.own b xs) → ∃ (j : Nat) (c : Bool) (a : Addr) (ws : List V), b = true ∧ os[i]? = some (.slot j) ∧ S[j]? = some (.own c xs) ∧ (vs.map some)[i]? = some (some (.ref a)) ∧ σ[j]? = some (some (.ref a)) ∧ G a = none ∧ H a = some (.lst ws) ∧ RpAll K G ws xs := fun i b xs q => by
    obtain ⟨o, h1, h2⟩ := opSDs_get e i _ q
    obtain ⟨hb, j, c, rfl, h3⟩ := opSD_own h2
    obtain ⟨a, ws, p1, p2, p3, p4, _⟩ := r.own j c xs h3
    obtain ⟨v, q1, q2⟩ := h.get i _ h1
    have q2 : σ[j]? = some (some v) := q2
    rw [p1] at q2
    cases q2
    exact ⟨j, c, a, ws, hb, h1, h3, by rw [List.getElem?_map, q1]; rfl, p1, p2, p3, p4⟩
  refine ⟨by simp [h.length, opSDs_len e], .refl _, r.gh, fun b q => .inl q, fun b o q _ => q, fun b q => q, fun i x q => ?_, fun i b xs q => ?_, fun i j a b1 x1 b2 x2 e1 e2 e3 e4 => ?_⟩
  · obtain ⟨o, h1, h2⟩ := opSDs_get e i _ q
    obtain ⟨v, q1, q2⟩ := h.get i _ h1
    refine ⟨v, by rw [List.getElem?_map, q1]; rfl, ?_⟩
    rcases opSD_d h2 with rfl | ⟨j, rfl, h3⟩
    · exact q2
    · obtain ⟨u, p1, p2⟩ := r.dat j x h3
      have q2 : σ[j]? = some (some v) := q2
      rw [p1] at q2
      cases q2
      exact p2
  · obtain ⟨j, c, a, ws, hb, h1, h2, h3, h4, h5, h6, h7⟩ := own i b xs q
    refine ⟨a, ws, h3, h5, h6, h7, fun _ => ⟨⟨i, b, xs, q, h3⟩, h3⟩, fun z => ?_⟩
    rw [hb] at z; cases z
  · obtain ⟨k, c, a', ws, hb, h1, h2, h3, h4, _⟩ := own i b1 x1 e1
    obtain ⟨k', c', a2, ws', hb', h1', h2', h3', h4', _⟩ := own j b2 x2 e2
    rw [h3] at e3; cases e3
    rw [h3'] at e4; cases e4
    have ek := r.sep k k' a _ _ _ _ h2 h2' h4 h4'
    subst ek
    exact ownIx_inj nd h1 h1' (by rw [h2]; rfl)
/-- what a call hands back -/
def ResR (K : PySem.W.Frag) (F : Fr) (S : List SD) (σ : L2.St) (H G : Hp) (v : V) : SD → Prop
  | .d x => Rp K G v x
  | .own false xs => ∃ p vs, v = .ref p ∧ F.H0 p = none ∧ G p = none ∧ Apart S σ p ∧ H p = some (.lst vs) ∧ RpAll K G vs xs
  | _ => True
theorem SR.called (r : SR K F S σ H G) (h : OpRs K G σ vs os) (e : opSDs S os = some Dl) {rs : SD} {v : V} (r' : SR K ⟨H, G, Dl, vs.map some⟩ (Dl' ++ [rs]) (vs.map some ++ [some v]) H' G') :
    SR K F (wbGo os Dl' 0 S) σ H' G' ∧ ResR K F (wbGo os Dl' 0 S) σ H' G' v rs := by
  have L : (vs.map some).length = Dl'.length := by simpa using r'.len
  have T : SR K F (wbGo os Dl' 0 S) σ H' G' := by
    refine r.back r' rfl rfl (fun a hb => ?_) (wbGo_len _ _ _ _) (fun j x q => ?_) fun j b xs q => ?_
    · obtain ⟨i, b, xs, h1, h2⟩ := hb
      obtain ⟨o, h3, h4⟩ := opSDs_get e i _ h1
      obtain ⟨_, j, c, rfl, h5⟩ := opSD_own h4
      obtain ⟨u, q1, q2⟩ := h.get i _ h3
      have h2 : (vs.map some)[i]? = some (some (.ref a)) := h2
      rw [List.getElem?_map, q1] at h2
      cases h2
      exact ⟨j, c, xs, h5, q2⟩
    · rw [wbGo_get] at q
      obtain ⟨s, h1, h2⟩ := Option.map_eq_some_iff.mp q
      cases z : findArg (0 + j) os Dl' with
      | none => rw [z] at h2; have h2 : s = .d x := h2; rw [h1, h2]
      | some r0 =>
        rw [z] at h2
        have h2 : unb1 s r0 = .d x := h2
        cases s with
        | own b xs => cases r0 with
          | own c ys => cases c <;> cases h2
          | _ => cases h2
        | _ => rw [h1]; exact congrArg some h2
    · rw [wbGo_get, Nat.zero_add] at q
      obtain ⟨s, h1, h2⟩ := Option.map_eq_some_iff.mp q
      cases z : findArg j os Dl' with
      | none =>
        rw [z] at h2
        have h2 : s = .own b xs := h2
        subst h2
        obtain ⟨a, ws, p1, _⟩ := r.own j b xs h1
        refine ⟨⟨_, h1⟩, a, p1, .inr ⟨h1, fun hb => ?_⟩⟩
        obtain ⟨i, b', xs', q1, q2⟩ := hb
        obtain ⟨o, h3, h4⟩ := opSDs_get e i _ q1
        obtain ⟨_, j', c, rfl, h5⟩ := opSD_own h4
        obtain ⟨u, t1, t2⟩ := h.get i _ h3
        have q2 : (vs.map some)[i]? = some (some (.ref a)) := q2
        rw [List.getElem?_map, t1] at q2
        cases q2
        have ej := r.sep j j' a _ _ _ _ h1 h5 p1 t2
        subst ej
        exact findArg_none z i h3
      | some r0 =>
        rw [z] at h2
        have h2 : unb1 s r0 = .own b xs := h2
        cases s with
        | own b0 ys => cases r0 with
          | own c zs => cases c with
            | true =>
              cases h2
              obtain ⟨a, ws, p1, _⟩ := r.own j _ ys h1
              refine ⟨⟨_, h1⟩, a, p1, .inl ?_⟩
              obtain ⟨i, h3, h4⟩ := findArg_some z
              rcases h4 with h4 | h4
              · have hi : i < Dl'.length := (List.getElem?_eq_some_iff.mp h4).1
                obtain ⟨u, t1, t2⟩ := h.get i _ h3
                have t2 : σ[j]? = some (some u) := t2
                rw [p1] at t2
                cases t2
                exact ⟨i, by rw [List.getElem?_append_left hi]; exact h4, by show (vs.map some)[i]? = _; rw [List.getElem?_map, t1]; rfl⟩
              · cases h4
            | false => cases h2
          | _ => cases h2
        | un => cases h2
        | d x => cases h2
  refine ⟨T, ?_⟩
  have last : (Dl' ++ [rs])[Dl'.length]? = some rs := by simp
  have lastv : (vs.map some ++ [some v])[Dl'.length]? = some (some v) := by rw [← L]; simp
  cases rs with
  | un => trivial
  | d x =>
    obtain ⟨u, p1, p2⟩ := r'.dat _ x last
    rw [lastv] at p1; cases p1
    exact p2
  | own b xs =>
    cases b with
    | true => trivial
    | false =>
      obtain ⟨a, ws, p1, p2, p3, p4, _, p6⟩ := r'.own _ _ xs last
      rw [lastv] at p1; cases p1
      have ha : H a = none := p6 rfl
      obtain ⟨f0, _, fa⟩ := r.fresh ha
      refine ⟨a, ws, rfl, f0, p2, fun i b ys z1 z2 => ?_, p3, p4⟩
      rw [wbGo_get] at z1
      obtain ⟨s, h1, h2⟩ := Option.map_eq_some_iff.mp z1
      have : ∃ (c : Bool) (zs : List PyData), s = .own c zs := by
        cases zz : findArg (0 + i) os Dl' with
        | none => rw [zz] at h2; exact ⟨b, ys, h2⟩
        | some r0 =>
          rw [zz] at h2
          have h2 : unb1 s r0 = .own b ys := h2
          cases s with
          | own c zs => exact ⟨c, zs, rfl⟩
          | un => cases h2
          | d x => cases h2
      obtain ⟨c, zs, rfl⟩ := this
      exact fa i c zs h1 z2
end
/-- the written values in the parameters' order -/
def perm {α : Type} (pm : List Nat) (xs : List α) : List α := pm.filterMap fun i => xs[i]?
theorem perm_rel {K : PySem.W.Frag} {G : Hp} {σ : L2.St} {vs : List V} {os : List Op} (h : OpRs K G σ vs os) : ∀ pm : List Nat, OpRs K G σ (perm pm vs) (perm pm os)
  | [] => .nil
  | i :: pm => by
    unfold perm
    rw [List.filterMap_cons, List.filterMap_cons]
    cases q : os[i]? with
    | none =>
      have : vs[i]? = none := by
        rw [List.getElem?_eq_none_iff] at q ⊢
        rw [h.length]; exact q
      rw [this]
      exact perm_rel h pm
    | some o =>
      obtain ⟨v, h1, h2⟩ := h.get i o q
      rw [h1]
      exact .cons h2 (perm_rel h pm)
theorem perm_vals {vs : List V} {us : List Value} (h : Vals vs us) : ∀ pm : List Nat, Vals (perm pm vs) (perm pm us)
  | [] => .nil
  | i :: pm => by
    unfold perm
    rw [List.filterMap_cons, List.filterMap_cons]
    cases q : vs[i]? with
    | none =>
      rw [Vals.none_of h q]
      exact perm_vals h pm
    | some v =>
      obtain ⟨u, h1, h2⟩ := Vals.get h q
      rw [h1]
      exact .cons h2 (perm_vals h pm)
/-- n operands by place, k by name -/
def sApp (n k : Nat) (f g : AS) : AS := fun S => (f S).bind fun p => (g p.2).bind fun q => if p.1.length = n ∧ q.1.length = k then some (p.1 ++ q.1, q.2) else none
def sCallR (n : Nat) (m : Fn) (fs : AS) : List SD → Option (SD × List SD) := fun S => (fs S).bind fun p => (opSDs p.2 p.1).bind fun Dl => if p.1.length = n ∧ (ownIx p.2 p.1).Nodup then (m Dl).map fun q => (q.1, wbGo p.1 q.2 0 p.2) else none
def sPerm (pm : List Nat) (f : AS) : AS := fun S => (f S).map fun p => (perm pm p.1, p.2)
def resD : SD → Option PyData
  | .d x => some x
  | .own false xs => some (.list xs)
  | _ => none
def resL : SD → Option (List PyData)
  | .own false xs => some xs
  | _ => none
def sCall (n : Nat) (m : Fn) (fs : AS) : ES := fun S => (sCallR n m fs S).bind fun p => (resD p.1).map fun x => (.dat x, p.2)
def sCallL (n : Nat) (m : Fn) (fs : AS) : LS := fun S => (sCallR n m fs S).bind fun p => (resL p.1).map fun x => (x, p.2)
def tCallG (sp : Sp) (t : TA) : TE := fun σ H Q => t σ H fun vs H1 => sp vs H1 Q E0
def tPerm (pm : List Nat) (t : TA) : TA := fun σ H Q => t σ H fun vs H1 => Q (perm pm vs) H1
def tApp (n k : Nat) (t u : TA) : TA := fun σ H Q => t σ H fun vs H1 => u σ H1 fun ws H2 => vs.length = n ∧ ws.length = k ∧ Q (vs ++ ws) H2
section
variable {K : PySem.W.Frag} {tA tB : TA} {fs gs : AS} {n : Nat} {m : Fn}
theorem OpRs.append {G : Hp} {σ : L2.St} : ∀ {vs ws : List V} {os ps : List Op}, OpRs K G σ vs os → OpRs K G σ ws ps → OpRs K G σ (vs ++ ws) (os ++ ps)
  | _, _, _, _, .nil, h => h
  | _, _, _, _, .cons a b, h => .cons a (b.append h)
theorem sem_app {a b : Nat} (h1 : SemA K tA fs) (h2 : SemA K tB gs) : SemA K (tApp a b tA tB) (sApp a b fs gs) := by
  intro F S σ H G o S' r ef Q k
  obtain ⟨⟨o1, S1⟩, e1, e2⟩ := Option.bind_eq_some_iff.mp ef
  obtain ⟨⟨o2, S2⟩, e3, e4⟩ := Option.bind_eq_some_iff.mp e2
  split at e4
  · rename_i hl
    cases e4
    refine h1 F S σ H G o1 S1 r e1 _ fun v H1 G1 r1 g1 q1 => ?_
    refine h2 F S1 σ H1 G1 o2 _ r1 e3 _ fun vs H2 G2 r2 g2 q2 => ?_
    exact ⟨q1.length.trans hl.1, q2.length.trans hl.2, k _ H2 G2 r2 (g1.trans g2) ((q1.mono g2).append q2)⟩
  · cases e4
theorem sem_perm {pm : List Nat} (h1 : SemA K tA fs) : SemA K (tPerm pm tA) (sPerm pm fs) := by
  intro F S σ H G o S' r ef Q k
  obtain ⟨⟨o1, S1⟩, e1, e2⟩ := Option.map_eq_some_iff.mp ef
  cases e2
  exact h1 F S σ H G o1 _ r e1 _ fun v H1 G1 r1 g1 q1 => k _ H1 G1 r1 g1 (perm_rel q1 pm)
theorem sem_callR (h1 : SemA K tA fs) {F : Fr} {S S' : List SD} {σ : L2.St} {H G : Hp} {rs : SD} (r : SR K F S σ H G) (ef : sCallR n m fs S = some (rs, S')) {Q : VK}
    (k : ∀ v H' G', SR K F S' σ H' G' → Ex G G' → ResR K F S' σ H' G' v rs → Q v H') : tCallG (spM K n m) tA σ H Q := by
  obtain ⟨⟨os, S1⟩, e1, ef⟩ := Option.bind_eq_some_iff.mp ef
  obtain ⟨Dl, e2, ef⟩ := Option.bind_eq_some_iff.mp ef
  split at ef
  · rename_i hc
    obtain ⟨⟨rs', Dl'⟩, e3, e4⟩ := Option.map_eq_some_iff.mp ef
    cases e4
    refine h1 F S σ H G os S1 r e1 _ fun vs H1 G1 r1 g1 q1 => ?_
    refine ⟨Dl, G1, _, Dl', by rw [q1.length]; exact hc.1, r1.args q1 e2 hc.2, e3, fun v H' G' r' => ?_⟩
    obtain ⟨t1, t2⟩ := r1.called q1 e2 r'
    exact k v H' G' t1 (g1.trans r'.g0) t2
  · cases ef
theorem sem_call (h1 : SemA K tA fs) : SemE K (tCallG (spM K n m) tA) (sCall n m fs) := by
  intro F S σ H G o S' r ef Q k
  obtain ⟨⟨rs, S1⟩, e1, ef⟩ := Option.bind_eq_some_iff.mp ef
  obtain ⟨x, e2, e3⟩ := Option.map_eq_some_iff.mp ef
  cases e3
  refine sem_callR h1 r e1 fun v H' G' r1 g1 hr => ?_
  cases rs with
  | un => cases e2
  | d y => cases e2; exact k v H' G' r1 g1 hr
  | own b xs =>
    cases b with
    | true => cases e2
    | false =>
      cases e2
      obtain ⟨p, vs, rfl, h0, hg, ap, hh, ha⟩ := hr
      obtain ⟨G2, g2, r2, h2⟩ := r1.known h0 hg ap hh ha
      exact k _ H' G2 r2 (g1.trans g2) h2
theorem sem_callL (h1 : SemA K tA fs) : SemL K (tCallG (spM K n m) tA) (sCallL n m fs) := by
  intro F S σ H G o S' r ef Q k
  obtain ⟨⟨rs, S1⟩, e1, ef⟩ := Option.bind_eq_some_iff.mp ef
  obtain ⟨x, e2, e3⟩ := Option.map_eq_some_iff.mp ef
  cases e3
  refine sem_callR h1 r e1 fun v H' G' r1 g1 hr => ?_
  cases rs with
  | un => cases e2
  | d y => cases e2
  | own b xs =>
    cases b with
    | true => cases e2
    | false =>
      cases e2
      obtain ⟨p, vs, rfl, h0, hg, ap, hh, ha⟩ := hr
      exact k p vs H' G' r1 g1 h0 hg ap hh ha
end
section
variable {X : Cx} {K : PySem.W.Frag} {k : Nat} {f : Addr} {fd : FuncData} {ps ks : List Str} {m : Fn} {x : Str} {p pos : Pos} {e : Expr} {es : List Expr} {kws : List Keyword} {t u : TA} {fs gs : AS} {pm : List Nat}
/-- what a body knows of a def that it calls -/
structure Cal (P : Program) (w : World) (K : PySem.W.Frag) (mg : Str → Option Value) (base : Heap) (k : Nat) (x : Str) (ps : List Str) (m : Fn) (f : Addr) (fd : FuncData) : Prop where
  ok : FnG P w K mg base k f fd ps m
  mg : mg x = some (.ref f)
  kp : PySem.W.keepIn K (.ref f) = true
  bn : Binds K fd ps []
theorem after_call {pins : List (Addr × Obj)} {σ : L2.St} {H : Hp} {s : Shared} {Q : VK} {r : Result} {s' : Shared} (I : Inv X pins σ H s) (hq : CR CX0 X.stack X.prog X.w H s Q E0 r s') : (match r with
    | .ok (.ret u) => EP X pins σ Q u s'
    | _ => False) := by
  cases r with
  | error e => exact hq
  | ok fl =>
    cases fl with
    | ret u => exact I.after hq
    | next => exact hq
    | brk => exact hq
    | cont => exact hq
theorem run_G (F : FnG X.prog X.w X.K X.mg X.base k f fd ps m) (hr : Room k X.A) (hgd : X.A.guards = some []) {pins : List (Addr × Obj)} {σ : L2.St} {H : Hp} {s : Shared} {Q : VK} {us pu : List Value} {kw : List (Str × Value)} {vs : List V}
    (I : Inv X pins σ H s) (hb : BindsTo s fd ⟨us, kw⟩ (ps.zip pu)) (rv : Vals vs pu) (h : spM X.K ps.length m vs H Q E0) : wpAny (model X.prog X.w) X.A (call (.ref f) us kw) (EP X pins σ Q) X.xe s := by
  refine wpAny_call (codeAny_mono (F.run X.A X.stack s H ⟨us, kw⟩ pu vs Q hr hgd I.env0 hb rv h) fun r s' hq => ?_)
  have z := after_call I hq
  cases r with
  | error e => exact z.elim
  | ok fl =>
    cases fl with
    | ret u => exact z
    | next => exact z.elim
    | brk => exact z.elim
    | cont => exact z.elim
theorem pe_callG (hK : X.K = K) (C : Cal X.prog X.w K X.mg X.base k x ps m f fd) (hr : Room k X.A) (hgd : X.A.guards = some []) (ha : PA X (e :: es) t) (hg : Gl X x := by rfl) (hdb : (x == ("__debug__" : Str)) = false := by decide)
    (he : starEach (e :: es) X.env = (false, eval e X.env) :: starEach es X.env := by rfl) (hpl : (backTo pos (starEach es X.env)).any (·.1) = false := by rfl) : PE X (.Call (.Name x p) (e :: es) [] pos) (tCallG (spM K ps.length m) t) := by
  subst hK
  constructor
  intro pins s σ H Q I h
  refine wpAny_Call_Name_kw (ld_glob I hg C.mg ?_ hdb)
  refine PySem.W.callWith_K (h₀ := X.base) I.ok.mod.kin C.kp (thn (ha.run pos pins s σ H _ I h) ?_) he hpl
  rintro us s1 ⟨vs, H1, I1, r, q⟩
  have hl : us.length = ps.length := by
    obtain ⟨_, _, _, _, z, _⟩ := q
    rw [← r.length]; exact z
  have b := C.bn s1 us I1.kIn (by simpa using hl)
  rw [List.append_nil] at b
  exact ⟨I1.kIn, run_G C.ok hr hgd I1 b r q⟩
theorem pe_callG0 (hK : X.K = K) (C : Cal X.prog X.w K X.mg X.base k x ps m f fd) (hr : Room k X.A) (hgd : X.A.guards = some []) (hg : Gl X x := by rfl) (hdb : (x == ("__debug__" : Str)) = false := by decide) : PE X (.Call (.Name x p) [] [] pos) (tCallG (spM K ps.length m) tNil) := by
  subst hK
  constructor
  intro pins s σ H Q I q
  refine wpAny_Call_Name_kw (ld_glob I hg C.mg ?_ hdb)
  have hl : ([] : List Value).length = ps.length := by
    obtain ⟨_, _, _, _, z, _⟩ := q
    exact z
  have b := C.bn s [] I.kIn (by simpa using hl)
  exact PySem.W.callWith_K0 I.kIn C.kp (run_G C.ok hr hgd I (by simpa using b) .nil q)
/-- how the written values, the last ones by name, come to the parameters -/
def KwB (K : PySem.W.Frag) (fd : FuncData) (ps ks : List Str) (pm : List Nat) : Prop := ∀ (s : Shared) (us ws : List Value), K.In s.heap → us.length + ks.length = ps.length → ws.length = ks.length → BindsTo s fd ⟨us, ks.zip ws⟩ (ps.zip (perm pm (us ++ ws)))
theorem pe_callGK {n j : Nat} (hK : X.K = K) (C : Cal X.prog X.w K X.mg X.base k x ps m f fd) (B : KwB K fd ps ks pm) (hr : Room k X.A) (hgd : X.A.guards = some []) (ha : PA X (e :: es) t) (hkw : PK X kws u) (hn : n + ks.length = ps.length) (hj : j = ks.length)
    (hall : (backToKw pos (keywordEach kws X.env)).all (·.1.isSome) = true := by rfl) (hks : (backToKw pos (keywordEach kws X.env)).filterMap (·.1) = ks := by rfl) (hg : Gl X x := by rfl) (hdb : (x == ("__debug__" : Str)) = false := by decide)
    (he : starEach (e :: es) X.env = (false, eval e X.env) :: starEach es X.env := by rfl) (hpl : ((backTo pos (starEach (e :: es) X.env)).any (·.1) || (backToKw pos (keywordEach kws X.env)).any (·.1.isNone)) = false := by rfl) :
    PE X (.Call (.Name x p) (e :: es) kws pos) (tCallG (spM K ps.length m) (tPerm pm (tApp n j t u))) := by
  subst hK
  constructor
  intro pins s σ H Q I h
  refine wpAny_Call_Name_kw (ld_glob I hg C.mg ?_ hdb)
  refine PySem.W.callWith_KW (h₀ := X.base) I.ok.mod.kin C.kp hall (thn (ha.run pos pins s σ H _ I h) ?_) hpl he
  rintro us s1 ⟨vs, H1, I1, r, q⟩
  refine thn (hkw.run pos pins s1 σ H1 _ I1 q) ?_
  rintro ws s2 ⟨zs, H2, I2, rz, l1, l2, q2⟩
  refine ⟨I2.kIn, ?_⟩
  rw [hks]
  exact run_G C.ok hr hgd I2 (B s2 us ws I2.kIn (by rw [← r.length]; omega) (by rw [← rz.length]; omega)) (perm_vals (r.append rz) pm) q2
theorem pe_callGK0 {j : Nat} (hK : X.K = K) (C : Cal X.prog X.w K X.mg X.base k x ps m f fd) (B : KwB K fd ps ks pm) (hr : Room k X.A) (hgd : X.A.guards = some []) (hkw : PK X kws u) (hn : ks.length = ps.length) (hj : j = ks.length)
    (hall : (backToKw pos (keywordEach kws X.env)).all (·.1.isSome) = true := by rfl) (hks : (backToKw pos (keywordEach kws X.env)).filterMap (·.1) = ks := by rfl) (hg : Gl X x := by rfl) (hdb : (x == ("__debug__" : Str)) = false := by decide)
    (hpl : ((backTo pos (starEach [] X.env)).any (·.1) || (backToKw pos (keywordEach kws X.env)).any (·.1.isNone)) = false := by rfl) :
    PE X (.Call (.Name x p) [] kws pos) (tCallG (spM K ps.length m) (tPerm pm (tApp 0 j tNil u))) := by
  subst hK
  constructor
  intro pins s σ H Q I h
  refine wpAny_Call_Name_kw (ld_glob I hg C.mg ?_ hdb)
  refine PySem.W.callWith_KW0 (h₀ := X.base) I.ok.mod.kin C.kp hall (thn (hkw.run pos pins s σ H _ I h) ?_) hpl
  rintro ws s2 ⟨zs, H2, I2, rz, _, l2, q2⟩
  refine ⟨I2.kIn, ?_⟩
  rw [hks]
  exact run_G C.ok hr hgd I2 (B s2 [] ws I2.kIn (by simpa using hn) (by rw [← rz.length]; omega)) (perm_vals rz pm) q2
structure SK (X : Cx) (K : PySem.W.Frag) (kws : List Keyword) (t : TA) (f : AS) : Prop where
  p : PK X kws t
  ok : SemA K t f
theorem sk_nil : SK X K [] tNil sNil := ⟨pk_nil, sem_nil⟩
theorem sk_cons {te : TE} {fe : ES} {nm : Option Str} {kpos : Pos} (h : SE X K e te fe) (h2 : SK X K kws t fs) : SK X K (⟨nm, e, kpos⟩ :: kws) (tCons te t) (sCons fe fs) := ⟨pk_cons h.p h2.p, sem_cons h.ok h2.ok⟩
/-! the four forms of a call, as an operand and as a new list -/
theorem se_call (hK : X.K = K) (C : Cal X.prog X.w K X.mg X.base k x ps m f fd) (hr : Room k X.A) (hgd : X.A.guards = some []) (ha : SA X K (e :: es) t fs) (hg : Gl X x := by rfl) (hdb : (x == ("__debug__" : Str)) = false := by decide)
    (he : starEach (e :: es) X.env = (false, eval e X.env) :: starEach es X.env := by rfl) (hpl : (backTo pos (starEach es X.env)).any (·.1) = false := by rfl) : SE X K (.Call (.Name x p) (e :: es) [] pos) (tCallG (spM K ps.length m) t) (sCall ps.length m fs) := ⟨pe_callG hK C hr hgd ha.p hg hdb he hpl, sem_call ha.ok⟩
theorem sl_call (hK : X.K = K) (C : Cal X.prog X.w K X.mg X.base k x ps m f fd) (hr : Room k X.A) (hgd : X.A.guards = some []) (ha : SA X K (e :: es) t fs) (hg : Gl X x := by rfl) (hdb : (x == ("__debug__" : Str)) = false := by decide)
    (he : starEach (e :: es) X.env = (false, eval e X.env) :: starEach es X.env := by rfl) (hpl : (backTo pos (starEach es X.env)).any (·.1) = false := by rfl) : SL X K (.Call (.Name x p) (e :: es) [] pos) (tCallG (spM K ps.length m) t) (sCallL ps.length m fs) := ⟨pe_callG hK C hr hgd ha.p hg hdb he hpl, sem_callL ha.ok⟩
theorem se_call0 (hK : X.K = K) (C : Cal X.prog X.w K X.mg X.base k x ps m f fd) (hr : Room k X.A) (hgd : X.A.guards = some []) (hg : Gl X x := by rfl) (hdb : (x == ("__debug__" : Str)) = false := by decide) : SE X K (.Call (.Name x p) [] [] pos) (tCallG (spM K ps.length m) tNil) (sCall ps.length m sNil) := ⟨pe_callG0 hK C hr hgd hg hdb, sem_call sem_nil⟩
theorem se_callK {n j : Nat} (hK : X.K = K) (C : Cal X.prog X.w K X.mg X.base k x ps m f fd) (B : KwB K fd ps ks pm) (hr : Room k X.A) (hgd : X.A.guards = some []) (ha : SA X K (e :: es) t fs) (hkw : SK X K kws u gs) (hn : n + ks.length = ps.length := by rfl) (hj : j = ks.length := by rfl)
    (hall : (backToKw pos (keywordEach kws X.env)).all (·.1.isSome) = true := by rfl) (hks : (backToKw pos (keywordEach kws X.env)).filterMap (·.1) = ks := by rfl) (hg : Gl X x := by rfl) (hdb : (x == ("__debug__" : Str)) = false := by decide)
    (he : starEach (e :: es) X.env = (false, eval e X.env) :: starEach es X.env := by rfl) (hpl : ((backTo pos (starEach (e :: es) X.env)).any (·.1) || (backToKw pos (keywordEach kws X.env)).any (·.1.isNone)) = false := by rfl) :
    SE X K (.Call (.Name x p) (e :: es) kws pos) (tCallG (spM K ps.length m) (tPerm pm (tApp n j t u))) (sCall ps.length m (sPerm pm (sApp n j fs gs))) := ⟨pe_callGK hK C B hr hgd ha.p hkw.p hn hj hall hks hg hdb he hpl, sem_call (sem_perm (sem_app ha.ok hkw.ok))⟩
theorem sl_callK {n j : Nat} (hK : X.K = K) (C : Cal X.prog X.w K X.mg X.base k x ps m f fd) (B : KwB K fd ps ks pm) (hr : Room k X.A) (hgd : X.A.guards = some []) (ha : SA X K (e :: es) t fs) (hkw : SK X K kws u gs) (hn : n + ks.length = ps.length := by rfl) (hj : j = ks.length := by rfl)
    (hall : (backToKw pos (keywordEach kws X.env)).all (·.1.isSome) = true := by rfl) (hks : (backToKw pos (keywordEach kws X.env)).filterMap (·.1) = ks := by rfl) (hg : Gl X x := by rfl) (hdb : (x == ("__debug__" : Str)) = false := by decide)
    (he : starEach (e :: es) X.env = (false, eval e X.env) :: starEach es X.env := by rfl) (hpl : ((backTo pos (starEach (e :: es) X.env)).any (·.1) || (backToKw pos (keywordEach kws X.env)).any (·.1.isNone)) = false := by rfl) :
    SL X K (.Call (.Name x p) (e :: es) kws pos) (tCallG (spM K ps.length m) (tPerm pm (tApp n j t u))) (sCallL ps.length m (sPerm pm (sApp n j fs gs))) := ⟨pe_callGK hK C B hr hgd ha.p hkw.p hn hj hall hks hg hdb he hpl, sem_callL (sem_perm (sem_app ha.ok hkw.ok))⟩
theorem se_callK0 {j : Nat} (hK : X.K = K) (C : Cal X.prog X.w K X.mg X.base k x ps m f fd) (B : KwB K fd ps ks pm) (hr : Room k X.A) (hgd : X.A.guards = some []) (hkw : SK X K kws u gs) (hn : ks.length = ps.length := by rfl) (hj : j = ks.length := by rfl)
    (hall : (backToKw pos (keywordEach kws X.env)).all (·.1.isSome) = true := by rfl) (hks : (backToKw pos (keywordEach kws X.env)).filterMap (·.1) = ks := by rfl) (hg : Gl X x := by rfl) (hdb : (x == ("__debug__" : Str)) = false := by decide)
    (hpl : ((backTo pos (starEach [] X.env)).any (·.1) || (backToKw pos (keywordEach kws X.env)).any (·.1.isNone)) = false := by rfl) :
    SE X K (.Call (.Name x p) [] kws pos) (tCallG (spM K ps.length m) (tPerm pm (tApp 0 j tNil u))) (sCall ps.length m (sPerm pm (sApp 0 j sNil gs))) := ⟨pe_callGK0 hK C B hr hgd hkw.p hn hj hall hks hg hdb hpl, sem_call (sem_perm (sem_app sem_nil hkw.ok))⟩
theorem sl_callK0 {j : Nat} (hK : X.K = K) (C : Cal X.prog X.w K X.mg X.base k x ps m f fd) (B : KwB K fd ps ks pm) (hr : Room k X.A) (hgd : X.A.guards = some []) (hkw : SK X K kws u gs) (hn : ks.length = ps.length := by rfl) (hj : j = ks.length := by rfl)
    (hall : (backToKw pos (keywordEach kws X.env)).all (·.1.isSome) = true := by rfl) (hks : (backToKw pos (keywordEach kws X.env)).filterMap (·.1) = ks := by rfl) (hg : Gl X x := by rfl) (hdb : (x == ("__debug__" : Str)) = false := by decide)
    (hpl : ((backTo pos (starEach [] X.env)).any (·.1) || (backToKw pos (keywordEach kws X.env)).any (·.1.isNone)) = false := by rfl) :
    SL X K (.Call (.Name x p) [] kws pos) (tCallG (spM K ps.length m) (tPerm pm (tApp 0 j tNil u))) (sCallL ps.length m (sPerm pm (sApp 0 j sNil gs))) := ⟨pe_callGK0 hK C B hr hgd hkw.p hn hj hall hks hg hdb hpl, sem_callL (sem_perm (sem_app sem_nil hkw.ok))⟩
end
end DL

set_option Elab.async false
set_option linter.all false
set_option maxRecDepth 100000
set_option maxHeartbeats 4000000
/-! DL, part 5: operators and built-ins over data. -/
namespace DL
open PySem PySem.Spec PyProof.Rows L2

/-! ### data that == takes -/
def fitN (n : Nat) (d : PyData) : Bool := d.canLay0 && decide (d.depth ≤ n)
theorem fit_shaped {d : PyData} (h : fitN 60 d = true) : SeqAt.shaped d = true := by
  unfold fitN at h
  unfold SeqAt.shaped
  rw [Bool.and_eq_true, decide_eq_true_eq] at h ⊢
  exact ⟨h.1, by omega⟩
theorem canLayAll_all : ∀ xs : List PyData, PyData.canLayAll0 xs = xs.all fun d => d.canLay0
  | [] => by simp [PyData.canLayAll0]
  | x :: xs => by simp [PyData.canLayAll0, canLayAll_all xs]
theorem depthAll_le (n : Nat) : ∀ xs : List PyData, decide (PyData.depthAll xs ≤ n) = xs.all fun d => decide (d.depth ≤ n)
  | [] => by simp [PyData.depthAll]
  | x :: xs => by
    have ih := depthAll_le n xs
    simp only [PyData.depthAll, List.all_cons, ← ih, ← Bool.decide_and]
    congr 1
    simp only [eq_iff_iff]
    omega
theorem all_and (p q : PyData → Bool) : ∀ xs : List PyData, (xs.all p && xs.all q) = xs.all fun d => p d && q d
  | [] => rfl
  | x :: xs => by
    rw [List.all_cons, List.all_cons, List.all_cons, ← all_and p q xs]
    cases p x <;> cases q x <;> simp
theorem fit_tuple (n : Nat) (xs : List PyData) : fitN (n + 1) (.tuple xs) = xs.all (fitN n) := by
  show (PyData.canLay0 (.tuple xs) && decide (PyData.depth (.tuple xs) ≤ n + 1)) = xs.all fun d => d.canLay0 && decide (d.depth ≤ n)
  rw [← all_and, ← depthAll_le n xs, ← canLayAll_all]
  simp only [PyData.canLay0, PyData.depth, Nat.add_le_add_iff_right]
theorem fit_list (n : Nat) (xs : List PyData) : fitN (n + 1) (.list xs) = xs.all (fitN n) := by
  show (PyData.canLay0 (.list xs) && decide (PyData.depth (.list xs) ≤ n + 1)) = xs.all fun d => d.canLay0 && decide (d.depth ≤ n)
  rw [← all_and, ← depthAll_le n xs, ← canLayAll_all]
  simp only [PyData.canLay0, PyData.depth, Nat.add_le_add_iff_right]
theorem fit_int (n : Nat) (i : Int) : fitN n (.int i) = true := by simp [fitN, PyData.canLay0, PyData.depth]
theorem fit_bool (n : Nat) (i : Bool) : fitN n (.bool i) = true := by simp [fitN, PyData.canLay0, PyData.depth]
theorem fit_none (n : Nat) : fitN n .none = true := by simp [fitN, PyData.canLay0, PyData.depth]
theorem fit_str (n : Nat) (x : Str) : fitN n (.str x) = PyData.strOk x := by simp [fitN, PyData.canLay0, PyData.depth]
theorem fit_mono {n m : Nat} {d : PyData} (h : fitN n d = true) (hm : n ≤ m) : fitN m d = true := by
  unfold fitN at h ⊢
  rw [Bool.and_eq_true, decide_eq_true_eq] at h ⊢
  exact ⟨h.1, by omega⟩

section
variable {K : PySem.W.Frag} {H G : Hp}
mutual
theorem Rp.dp : ∀ {d : PyData} {v : V}, Rp K H v d → d.canLay0 = true → Dp K H v d
  | _, _, .non, _ => .non
  | _, _, .bl b, _ => .bl b
  | _, _, .int b, _ => .int b
  | _, _, .str b, _ => .str b
  | _, _, .lst h r, c => .lst (.inl (.inl h)) (RpAll.dp r (by simpa [PyData.canLay0] using c))
  | _, _, .tup h r, c => .tup h (RpAll.dp r (by simpa [PyData.canLay0] using c))
  | _, _, .dic h r, c => by simp [PyData.canLay0] at c
  | _, _, .scr h r, c => by simp [PyData.canLay0] at c
theorem RpAll.dp : ∀ {ds : List PyData} {vs : List V}, RpAll K H vs ds → PyData.canLayAll0 ds = true → DpAll K H vs ds
  | _, _, .nil, _ => .nil
  | _, _, .cons h r, c => by
    have c' := Bool.and_eq_true_iff.mp (show (_ && _) = true by simpa [PyData.canLayAll0] using c)
    exact .cons (Rp.dp h c'.1) (RpAll.dp r c'.2)
end
theorem fit_lay {n : Nat} {d : PyData} (h : fitN n d = true) : d.canLay0 = true := (Bool.and_eq_true_iff.mp h).1
theorem fit_depth {n : Nat} {d : PyData} (h : fitN n d = true) : d.depth ≤ n := of_decide_eq_true (Bool.and_eq_true_iff.mp h).2
theorem fit_items_l {n : Nat} {ds : List PyData} (h : fitN n (.list ds) = true) : PyData.canLayAll0 ds = true := by simpa [PyData.canLay0] using fit_lay h
theorem fit_items_t {n : Nat} {ds : List PyData} (h : fitN n (.tuple ds) = true) : PyData.canLayAll0 ds = true := by simpa [PyData.canLay0] using fit_lay h
end
section
variable {X : Cx} {K : PySem.W.Frag} {pins : List (Addr × Obj)} {σ : L2.St} {H : Hp} {s : Shared}
theorem Rp.reads {n : Nat} {d : PyData} {v : V} {u : Value} (I : Inv X pins σ H s) (h : Rp X.K H v d) (f : fitN n d = true) (r : RelV v u) : ∃ as, Reads s.heap u d as := Dp.reads I d v u (h.dp (fit_lay f)) r

/-! ### == and != -/
def strEq : PyData → PyData → Option Bool
  | .str a, .str b => some (decide (a = b))
  | _, _ => none
def dEq (x y : PyData) : Option PyData := match strEq x y with
  | some b => some (.bool b)
  | none => if fitN 60 x = true ∧ fitN 60 y = true then some (.bool (PyData.eqv x y)) else none
def dNe (x y : PyData) : Option PyData := match strEq x y with
  | some b => some (.bool (!b))
  | none => if fitN 60 x = true ∧ fitN 60 y = true then some (.bool (!PyData.eqv x y)) else none
theorem strEq_some {x y : PyData} {b : Bool} (h : strEq x y = some b) : ∃ a c, x = .str a ∧ y = .str c ∧ b = decide (a = c) := by
  unfold strEq at h
  split at h
  · cases h; exact ⟨_, _, rfl, rfl, rfl⟩
  · cases h
def rEqX (K : PySem.W.Frag) : R2 := fun x y H Q => rEqD K x y H Q ∨ rEq x y H Q
def rNeX (K : PySem.W.Frag) : R2 := fun x y H Q => rNeD K x y H Q ∨ rNe x y H Q
theorem opEq (hK : X.K = K) {k : Nat} (hr : Room k X.A) : L2.OpR X (compareOp .Eq) (rEqX K) := by subst hK; exact (op_eqD hr.units).or op_eq
theorem opNe (hK : X.K = K) {k : Nat} (hr : Room k X.A) : L2.OpR X (compareOp .NotEq) (rNeX K) := by subst hK; exact (op_neD hr.units).or op_ne
theorem dec_strV {a c : Str} : decide (V.str a = V.str c) = decide (a = c) := by simp
theorem vEq : V2 K (rEqX K) dEq := fun G H v w x y z e rx ry h Q k => by
  unfold dEq at h
  split at h
  · rename_i b hb
    cases h
    obtain ⟨a, c, rfl, rfl, rfl⟩ := strEq_some hb
    have e1 := rx.str
    have e2 := ry.str
    subst e1 e2
    refine .inr ⟨rfl, ?_⟩
    rw [dec_strV]
    exact k _ H G (.refl e) (.bl _)
  · split at h
    · rename_i f
      cases h
      exact .inl ⟨x, y, (rx.rp e).dp (fit_lay f.1), (ry.rp e).dp (fit_lay f.2), fit_shaped f.1, fit_shaped f.2, k _ H G (.refl e) (.bl _)⟩
    · cases h
theorem vNe : V2 K (rNeX K) dNe := fun G H v w x y z e rx ry h Q k => by
  unfold dNe at h
  split at h
  · rename_i b hb
    cases h
    obtain ⟨a, c, rfl, rfl, rfl⟩ := strEq_some hb
    have e1 := rx.str
    have e2 := ry.str
    subst e1 e2
    refine .inr ⟨rfl, ?_⟩
    rw [dec_strV]
    exact k _ H G (.refl e) (.bl _)
  · split at h
    · rename_i f
      cases h
      exact .inl ⟨x, y, (rx.rp e).dp (fit_lay f.1), (ry.rp e).dp (fit_lay f.2), fit_shaped f.1, fit_shaped f.2, k _ H G (.refl e) (.bl _)⟩
    · cases h

/-! ### in, not in -/
def dItems : PyData → Option (List PyData)
  | .list xs => some xs
  | .tuple xs => some xs
  | _ => none
def dIn (x y : PyData) : Option PyData := if fitN 60 x = true ∧ fitN 60 y = true then (dItems y).map fun ds => .bool (ds.any fun z => PyData.eqv z x) else none
def dNotIn (x y : PyData) : Option PyData := if fitN 60 x = true ∧ fitN 60 y = true then (dItems y).map fun ds => .bool (!ds.any fun z => PyData.eqv z x) else none
def rInA (K : PySem.W.Frag) (neg : Bool) : R2 := fun x y H Q => ∃ d ds, Rp K H x d ∧ fitN 60 d = true ∧ ((Rp K H y (.list ds) ∧ fitN 60 (.list ds) = true) ∨ (Rp K H y (.tuple ds) ∧ fitN 60 (.tuple ds) = true)) ∧ Q (.bl (if neg then !ds.any fun z => PyData.eqv z d else ds.any fun z => PyData.eqv z d)) H
theorem opIn (hK : X.K = K) {k : Nat} (hr : Room k X.A) : L2.OpR X (compareOp .In) (rInA K false) := by
  subst hK
  intro pins s σ H x y v u Q I rx ry h
  have hu : X.A.units + 65 < cLine := by have := hr.un; omega
  obtain ⟨d, ds, hd, fd, he, q⟩ := h
  obtain ⟨as, r1⟩ := hd.reads I fd rx
  rcases he with ⟨he, fe⟩ | ⟨he, fe⟩
  · obtain ⟨bs, r2⟩ := he.reads I fe ry
    exact SeqAt.in_list_reads r2 r1 (fit_lay fe) (fit_lay fd) (room_in_shaped (fit_shaped fd) hu) ⟨.bl _, H, I, rfl, q⟩
  · obtain ⟨bs, r2⟩ := he.reads I fe ry
    exact SeqAt.in_tuple_reads r2 r1 (fit_lay fe) (fit_lay fd) (room_in_shaped (fit_shaped fd) hu) ⟨.bl _, H, I, rfl, q⟩
theorem opNotIn (hK : X.K = K) {k : Nat} (hr : Room k X.A) : L2.OpR X (compareOp .NotIn) (rInA K true) := by
  subst hK
  intro pins s σ H x y v u Q I rx ry h
  have hu : X.A.units + 65 < cLine := by have := hr.un; omega
  obtain ⟨d, ds, hd, fd, he, q⟩ := h
  obtain ⟨as, r1⟩ := hd.reads I fd rx
  rcases he with ⟨he, fe⟩ | ⟨he, fe⟩
  · obtain ⟨bs, r2⟩ := he.reads I fe ry
    exact SeqAt.notIn_list_reads r2 r1 (fit_lay fe) (fit_lay fd) (room_in_shaped (fit_shaped fd) hu) ⟨.bl _, H, I, rfl, q⟩
  · obtain ⟨bs, r2⟩ := he.reads I fe ry
    exact SeqAt.notIn_tuple_reads r2 r1 (fit_lay fe) (fit_lay fd) (room_in_shaped (fit_shaped fd) hu) ⟨.bl _, H, I, rfl, q⟩
theorem vIn : V2 K (rInA K false) dIn := fun G H v w x y z e rx ry h Q k => by
  unfold dIn at h
  split at h
  · rename_i f
    obtain ⟨ds, h1, rfl⟩ := Option.map_eq_some_iff.mp h
    refine ⟨x, ds, rx.rp e, f.1, ?_, k _ H G (.refl e) (.bl _)⟩
    cases y with
    | list xs => cases h1; exact .inl ⟨ry.rp e, f.2⟩
    | tuple xs => cases h1; exact .inr ⟨ry.rp e, f.2⟩
    | _ => cases h1
  · cases h
theorem vNotIn : V2 K (rInA K true) dNotIn := fun G H v w x y z e rx ry h Q k => by
  unfold dNotIn at h
  split at h
  · rename_i f
    obtain ⟨ds, h1, rfl⟩ := Option.map_eq_some_iff.mp h
    refine ⟨x, ds, rx.rp e, f.1, ?_, k _ H G (.refl e) (.bl _)⟩
    cases y with
    | list xs => cases h1; exact .inl ⟨ry.rp e, f.2⟩
    | tuple xs => cases h1; exact .inr ⟨ry.rp e, f.2⟩
    | _ => cases h1
  · cases h

/-! ### is, is not: with None, with True and False -/
def isNoneD : PyData → Bool
  | .none => true
  | _ => false
def dIs (x y : PyData) : Option PyData := match y with
  | .none => some (.bool (isNoneD x))
  | .bool b => match x with
    | .bool a => some (.bool (decide (a = b)))
    | _ => none
  | _ => none
def dIsNot (x y : PyData) : Option PyData := match y with
  | .none => some (.bool (!isNoneD x))
  | .bool b => match x with
    | .bool a => some (.bool (!decide (a = b)))
    | _ => none
  | _ => none
def rIs (neg : Bool) : R2 := fun x y H Q => (y = .non ∧ Q (.bl (if neg then !decide (x = .non) else decide (x = .non))) H) ∨ ∃ a b : Bool, x = .bl a ∧ y = .bl b ∧ Q (.bl (if neg then !decide (a = b) else decide (a = b))) H
theorem opIs : L2.OpR X (compareOp .Is) (rIs false) := op_isN.or op_isBl
theorem opIsNot : L2.OpR X (compareOp .IsNot) (rIs true) := op_notN.or op_notBl
theorem RV.isNone {G : Hp} {v : V} {x : PyData} (h : RV K G H v x) : decide (v = .non) = isNoneD x := by
  cases x with
  | none => rw [h.non]; rfl
  | bool b => rw [h.bl]; rfl
  | int b => rw [h.int]; rfl
  | str b => rw [h.str]; rfl
  | list b =>
    rcases h with h | ⟨a, vs, xs, _, h2, _⟩
    · cases h; rfl
    · rw [h2]; rfl
  | tuple b =>
    rcases h with h | ⟨a, vs, xs, q, h2, _⟩
    · cases h; rfl
    · cases q
  | dict b =>
    rcases h with h | ⟨a, vs, xs, q, h2, _⟩
    · cases h <;> rfl
    · cases q
theorem vIs : V2 K (rIs false) dIs := fun G H v w x y z e rx ry h Q k => by
  unfold dIs at h
  cases y with
  | none =>
    cases h
    refine .inl ⟨ry.non, ?_⟩
    have := k _ H G (.refl e) (.bl (isNoneD x))
    rw [← rx.isNone] at this
    exact this
  | bool b =>
    cases x with
    | bool a => cases h; exact .inr ⟨a, b, rx.bl, ry.bl, k _ H G (.refl e) (.bl _)⟩
    | _ => cases h
  | _ => cases h
theorem vIsNot : V2 K (rIs true) dIsNot := fun G H v w x y z e rx ry h Q k => by
  unfold dIsNot at h
  cases y with
  | none =>
    cases h
    refine .inl ⟨ry.non, ?_⟩
    have := k _ H G (.refl e) (.bl (!isNoneD x))
    rw [← rx.isNone] at this
    exact this
  | bool b =>
    cases x with
    | bool a => cases h; exact .inr ⟨a, b, rx.bl, ry.bl, k _ H G (.refl e) (.bl _)⟩
    | _ => cases h
  | _ => cases h

/-! ### ints -/
def dI2 (g : Int → Int → PyData) (x y : PyData) : Option PyData := match x, y with
  | .int i, .int j => some (g i j)
  | _, _ => none
theorem vI2 {g : Int → Int → PyData} {h : Int → Int → V} (hg : ∀ i j G, Rp K G (h i j) (g i j)) : V2 K (rI0 h) (dI2 g) := fun G H v w x y z e rx ry q Q k => by
  cases x with
  | int i => cases y with
    | int j => cases q; exact ⟨i, j, rx.int, ry.int, k _ H G (.refl e) (hg i j G)⟩
    | _ => cases q
  | _ => cases q
def dLt := dI2 fun i j => .bool (decide (i < j))
def dLe := dI2 fun i j => .bool (decide (i ≤ j))
def dGt := dI2 fun i j => .bool (decide (j < i))
def dGe := dI2 fun i j => .bool (decide (j ≤ i))
def dSub := dI2 fun i j => .int (i - j)
theorem vLt : V2 K (rI0 fun i j => .bl (decide (i < j))) dLt := vI2 fun i j G => .bl _
theorem vLe : V2 K (rI0 fun i j => .bl (decide (i ≤ j))) dLe := vI2 fun i j G => .bl _
theorem vGt : V2 K (rI0 fun i j => .bl (decide (j < i))) dGt := vI2 fun i j G => .bl _
theorem vGe : V2 K (rI0 fun i j => .bl (decide (j ≤ i))) dGe := vI2 fun i j G => .bl _
theorem vSub : V2 K (rI0 fun i j => .int (i - j)) dSub := vI2 fun i j G => .int _
def dIC (C : Int → Int → Prop) [∀ i j, Decidable (C i j)] (g : Int → Int → PyData) (x y : PyData) : Option PyData := match x, y with
  | .int i, .int j => if C i j then some (g i j) else none
  | _, _ => none
theorem vIC {C : Int → Int → Prop} [∀ i j, Decidable (C i j)] {g : Int → Int → PyData} {h : Int → Int → V} (hg : ∀ i j G, Rp K G (h i j) (g i j)) : V2 K (rI C h) (dIC C g) := fun G H v w x y z e rx ry q Q k => by
  cases x with
  | int i => cases y with
    | int j =>
      have q : (if C i j then some (g i j) else none) = some z := q
      split at q
      · rename_i hc
        cases q; exact ⟨i, j, rx.int, ry.int, hc, k _ H G (.refl e) (hg i j G)⟩
      · cases q
    | _ => cases q
  | _ => cases q
noncomputable instance (i j : Int) : Decidable (CDiv i j) := Classical.propDecidable _
noncomputable instance (i j : Int) : Decidable (CPow i j) := Classical.propDecidable _
noncomputable instance (i j : Int) : Decidable (CMul i j) := Classical.propDecidable _
def dMod := dIC (fun _ j => 0 < j) fun i j => .int (i % j)
noncomputable def dDiv := dIC CDiv fun i j => .int (i / j)
noncomputable def dPow := dIC CPow fun i j => .int (i ^ j.toNat)
theorem vMod : V2 K (rI (fun _ j => 0 < j) fun i j => .int (i % j)) dMod := vIC fun i j G => .int _
theorem vDiv : V2 K (rI CDiv fun i j => .int (i / j)) dDiv := vIC fun i j G => .int _
theorem vPow : V2 K (rI CPow fun i j => .int (i ^ j.toNat)) dPow := vIC fun i j G => .int _
def dNeg : PyData → Option PyData
  | .int i => some (.int (-i))
  | _ => none
theorem vNeg : V1 K (rU fun i => .int (-i)) dNeg := fun G H v x z e rx q Q k => by
  cases x with
  | int i => cases q; exact ⟨i, rx.int, k _ H G (.refl e) (.int _)⟩
  | _ => cases q

/-! ### +, * -/
def dAdd (x y : PyData) : Option PyData := match x, y with
  | .int i, .int j => some (.int (i + j))
  | .str a, .str b => if a.length + b.length ≤ 100000 then some (.str (a ++ b)) else none
  | .tuple xs, .tuple ys => if xs.length + ys.length ≤ 100000 then some (.tuple (xs ++ ys)) else none
  | .list xs, .list ys => if xs.length + ys.length ≤ 100000 then some (.list (xs ++ ys)) else none
  | _, _ => none
def dAddL (x y : PyData) : Option (List PyData) := match x, y with
  | .list xs, .list ys => if xs.length + ys.length ≤ 100000 then some (xs ++ ys) else none
  | _, _ => none
def rAddA (K : PySem.W.Frag) : R2 := fun x y H Q => rI0 (fun i j => .int (i + j)) x y H Q ∨ (∃ i j, x = .str i ∧ y = .str j ∧ i.length + j.length ≤ sizeLine ∧ Q (.str (i ++ j)) H) ∨ rCatA K x y H Q ∨ rCat x y H Q
theorem opAdd (hK : X.K = K) : L2.OpR X (binaryOp .Add) (rAddA K) := by subst hK; exact op_add.or (op_add_str.or (op_catA.or op_cat))
theorem vAdd : V2 K (rAddA K) dAdd := fun G H v w x y z e rx ry q Q k => by
  unfold dAdd at q
  cases x with
  | int i => cases y with
    | int j => cases q; exact .inl ⟨i, j, rx.int, ry.int, k _ H G (.refl e) (.int _)⟩
    | _ => cases q
  | str i => cases y with
    | str j =>
      have q : (if i.length + j.length ≤ 100000 then some (PyData.str (i ++ j)) else none) = some z := q
      split at q
      · rename_i hl
        cases q; exact .inr (.inl ⟨i, j, rx.str, ry.str, sz hl, k _ H G (.refl e) (.str _)⟩)
      · cases q
    | _ => cases q
  | tuple xs => cases y with
    | tuple ys =>
      have q : (if xs.length + ys.length ≤ 100000 then some (PyData.tuple (xs ++ ys)) else none) = some z := q
      split at q
      · rename_i hl
        cases q
        obtain ⟨a, vs, rfl, h1, h2⟩ := rx.tup e
        obtain ⟨b, ws, rfl, h3, h4⟩ := ry.tup e
        refine .inr (.inr (.inl ⟨a, b, vs, ws, rfl, rfl, h1, h3, by rw [h2.length, h4.length]; exact sz hl, fun hv => ?_, fun hv hw => ?_, fun hv hw p hp => ?_⟩))
        · subst hv
          cases h2
          rcases ry with ry | ⟨_, _, _, z, _⟩
          · exact k _ H G (.refl e) ry
          · cases z
        · subst hw
          cases h4
          rw [List.append_nil] at k
          rcases rx with rx | ⟨_, _, _, z, _⟩
          · exact k _ H G (.refl e) rx
          · cases z
        · have px := PX.laid (o := .tup (vs ++ ws)) e hp
          exact k _ _ _ px (.tup (.inl (.inl upd_same)) ((h2.append h4).mono px.gg))
      · cases q
    | _ => cases q
  | list xs => cases y with
    | list ys =>
      have q : (if xs.length + ys.length ≤ 100000 then some (PyData.list (xs ++ ys)) else none) = some z := q
      split at q
      · rename_i hl
        cases q
        obtain ⟨a, vs, rfl, h1, h2⟩ := rx.lst e
        obtain ⟨b, ws, rfl, h3, h4⟩ := ry.lst e
        refine .inr (.inr (.inr ⟨a, b, vs, ws, rfl, rfl, h1, h3, by rw [h2.length, h4.length]; exact sz hl, fun p hp => ?_⟩))
        have px := PX.laid (o := .lst (vs ++ ws)) e hp
        exact k _ _ _ px (.lst upd_same ((h2.append h4).mono px.gg))
      · cases q
    | _ => cases q
  | _ => cases q
theorem vAddL : V2L K (rAddA K) dAddL := fun G H v w x y z e rx ry q Q k => by
  unfold dAddL at q
  cases x with
  | list xs => cases y with
    | list ys =>
      have q : (if xs.length + ys.length ≤ 100000 then some (xs ++ ys) else none) = some z := q
      split at q
      · rename_i hl
        cases q
        obtain ⟨a, vs, rfl, h1, h2⟩ := rx.lst e
        obtain ⟨b, ws, rfl, h3, h4⟩ := ry.lst e
        refine .inr (.inr (.inr ⟨a, b, vs, ws, rfl, rfl, h1, h3, by rw [h2.length, h4.length]; exact sz hl, fun p hp => ?_⟩))
        exact k p (vs ++ ws) _ G (PX.side e hp) hp (e.free hp) upd_same (h2.append h4)
      · cases q
    | _ => cases q
  | _ => cases q
noncomputable def dMul (x y : PyData) : Option PyData := match x, y with
  | .int i, .int j => if CMul i j then some (.int (i * j)) else none
  | .tuple xs, .int k => if xs ≠ [] ∧ 2 ≤ k ∧ k ≤ 1000 ∧ xs.length ≤ 1000 then some (.tuple (List.replicate k.toNat xs).flatten) else none
  | .list xs, .int k => if 0 ≤ k ∧ k ≤ 1000 ∧ xs.length ≤ 1000 then some (.list (List.replicate k.toNat xs).flatten) else none
  | _, _ => none
def rMulA (K : PySem.W.Frag) : R2 := fun x y H Q => rI CMul (fun i j => .int (i * j)) x y H Q ∨ rRepT K x y H Q ∨ rRep x y H Q
theorem opMul (hK : X.K = K) : L2.OpR X (binaryOp .Mult) (rMulA K) := by subst hK; exact op_mul.or (op_repT.or op_rep)
theorem rep_len (n : Nat) (k : Nat) (xs : List PyData) : ((List.replicate k xs).flatten).length = k * xs.length := by
  induction k with
  | zero => simp
  | succ k ih => rw [List.replicate_succ, List.flatten_cons, List.length_append, ih, Nat.succ_mul]; omega
theorem vMul : V2 K (rMulA K) dMul := fun G H v w x y z e rx ry q Q k => by
  unfold dMul at q
  cases x with
  | int i => cases y with
    | int j =>
      have q : (if CMul i j then some (PyData.int (i * j)) else none) = some z := q
      split at q
      · rename_i hc
        cases q; exact .inl ⟨i, j, rx.int, ry.int, hc, k _ H G (.refl e) (.int _)⟩
      · cases q
    | _ => cases q
  | tuple xs => cases y with
    | int j =>
      have q : (if xs ≠ [] ∧ 2 ≤ j ∧ j ≤ 1000 ∧ xs.length ≤ 1000 then some (PyData.tuple (List.replicate j.toNat xs).flatten) else none) = some z := q
      split at q
      · rename_i hc
        cases q
        obtain ⟨a, vs, rfl, h1, h2⟩ := rx.tup e
        refine .inr (.inl ⟨a, j, vs, rfl, ry.int, h1, fun hv => ?_, hc.2.1, hc.2.2.1, by rw [h2.length]; exact hc.2.2.2, fun p hp => ?_⟩)
        · subst hv; cases h2; exact hc.1 rfl
        · have px := PX.laid (o := .tup (List.replicate j.toNat vs).flatten) e hp
          exact k _ _ _ px (.tup (.inl (.inl upd_same)) ((h2.flat _).mono px.gg))
      · cases q
    | _ => cases q
  | list xs => cases y with
    | int j =>
      have q : (if 0 ≤ j ∧ j ≤ 1000 ∧ xs.length ≤ 1000 then some (PyData.list (List.replicate j.toNat xs).flatten) else none) = some z := q
      split at q
      · rename_i hc
        cases q
        obtain ⟨a, vs, rfl, h1, h2⟩ := rx.lst e
        refine .inr (.inr ⟨a, j, vs, rfl, ry.int, h1, by omega, by omega, ?_, fun p hp => ?_⟩)
        · rw [h2.length]
          have h5 : xs.length * j.toNat ≤ 1000 * 1000 := Nat.mul_le_mul hc.2.2 (by omega)
          exact Nat.le_trans h5 (by decide)
        · have px := PX.laid (o := .lst (List.replicate j.toNat vs).flatten) e hp
          exact k _ _ _ px (.lst upd_same ((h2.flat _).mono px.gg))
      · cases q
    | _ => cases q
  | _ => cases q
def dMulL (x y : PyData) : Option (List PyData) := match x, y with
  | .list xs, .int k => if 0 ≤ k ∧ k ≤ 1000 ∧ xs.length ≤ 1000 then some (List.replicate k.toNat xs).flatten else none
  | _, _ => none
theorem vMulL : V2L K (rMulA K) dMulL := fun G H v w x y z e rx ry q Q k => by
  unfold dMulL at q
  cases x with
  | list xs => cases y with
    | int j =>
      have q : (if 0 ≤ j ∧ j ≤ 1000 ∧ xs.length ≤ 1000 then some (List.replicate j.toNat xs).flatten else none) = some z := q
      split at q
      · rename_i hc
        cases q
        obtain ⟨a, vs, rfl, h1, h2⟩ := rx.lst e
        refine .inr (.inr ⟨a, j, vs, rfl, ry.int, h1, by omega, by omega, ?_, fun p hp => ?_⟩)
        · rw [h2.length]
          have h5 : xs.length * j.toNat ≤ 1000 * 1000 := Nat.mul_le_mul hc.2.2 (by omega)
          exact Nat.le_trans h5 (by decide)
        · exact k p _ _ G (PX.side e hp) hp (e.free hp) upd_same (h2.flat _)
      · cases q
    | _ => cases q
  | _ => cases q

/-! ### subscripts -/
theorem atI_rp {G : Hp} {vs : List V} {xs : List PyData} {i : Int} {d : PyData} (h : RpAll K G vs xs) (e : atI xs i = some d) : ∃ v, atI vs i = some v ∧ Rp K G v d := by
  obtain ⟨j, h1, h2⟩ := Option.bind_eq_some_iff.mp e
  obtain ⟨v, h3, h4⟩ := h.get h2
  exact ⟨v, by unfold atI; rw [h.length, h1]; exact h3, h4⟩
def dIx (x y : PyData) : Option PyData := match x, y with
  | .tuple xs, .int i => atI xs i
  | .list xs, .int i => atI xs i
  | .dict [(.none, .list xs)], .int i => atI xs i
  | .str z, .int i => if z.length ≤ 100000 then (atI z.cps.toList i).map fun c => .str ⟨#[c]⟩ else none
  | _, _ => none
theorem opIx (hK : X.K = K) : IxR X (rIx K) := by subst hK; exact ix_seq
theorem vIx : V2 K (rIx K) dIx := fun G H v w x y z e rx ry q Q k => by
  unfold dIx at q
  split at q
  · rename_i xs i
    obtain ⟨a, vs, rfl, h1, h2⟩ := rx.tup e
    obtain ⟨u, h3, h4⟩ := atI_rp h2 q
    exact .inr (.inl ⟨a, vs, i, u, rfl, ry.int, h1, h3, k _ H G (.refl e) h4⟩)
  · rename_i xs i
    obtain ⟨a, vs, rfl, h1, h2⟩ := rx.lst e
    obtain ⟨u, h3, h4⟩ := atI_rp h2 q
    exact .inl ⟨a, vs, i, u, rfl, ry.int, .inl (.inl h1), h3, k _ H G (.refl e) h4⟩
  · rename_i xs i
    obtain ⟨a, vs, rfl, h1, h2⟩ := rx.scr e
    obtain ⟨u, h3, h4⟩ := atI_rp h2 q
    exact .inl ⟨a, vs, i, u, rfl, ry.int, h1, h3, k _ H G (.refl e) h4⟩
  · rename_i y i
    split at q
    · rename_i hl
      obtain ⟨c, h1, rfl⟩ := Option.map_eq_some_iff.mp q
      exact .inr (.inr ⟨y, i, c, rx.str, ry.int, sz hl, h1, k _ H G (.refl e) (.str _)⟩)
    · cases q
  · cases q

/-! ### len -/
def dLen : List PyData → Option PyData
  | [.tuple xs] => some (.int xs.length)
  | [.list xs] => some (.int xs.length)
  | [.dict [(.none, .list xs)]] => some (.int xs.length)
  | [.str z] => if z.length ≤ 100000 then some (.int z.length) else none
  | _ => none
def rLenA (K : PySem.W.Frag) : List V → Hp → VK → Prop := fun xs H Q => ∃ x n, xs = [x] ∧ LenV K x H n ∧ Q (.int n) H
theorem crLen (hK : X.K = K) : CallR X (.builtin "len") (rLenA K) := by subst hK; exact call_len
theorem vLen : VN K (rLenA K) dLen := fun G H vs xs z e rs q Q k => by
  unfold dLen at q
  split at q
  · cases rs with
    | cons r t =>
      cases t
      cases q
      obtain ⟨a, ws, rfl, h1, h2⟩ := r.tup e
      exact ⟨_, _, rfl, .inr ⟨ws, h1, by rw [h2.length]⟩, k _ H G (.refl e) (.int _)⟩
  · cases rs with
    | cons r t =>
      cases t
      cases q
      obtain ⟨a, ws, rfl, h1, h2⟩ := r.lst e
      exact ⟨_, _, rfl, .inl ⟨ws, .inl (.inl h1), by rw [h2.length]⟩, k _ H G (.refl e) (.int _)⟩
  · cases rs with
    | cons r t =>
      cases t
      cases q
      obtain ⟨a, ws, rfl, h1, h2⟩ := r.scr e
      exact ⟨_, _, rfl, .inl ⟨ws, h1, by rw [h2.length]⟩, k _ H G (.refl e) (.int _)⟩
  · cases rs with
    | cons r t =>
      cases t
      split at q
      · rename_i hl
        cases q
        rw [r.str]
        exact ⟨_, _, rfl, ⟨sz hl, rfl⟩, k _ H G (.refl e) (.int _)⟩
      · cases q
  · cases q
end
end DL

set_option Elab.async false
set_option linter.all false
set_option maxRecDepth 100000
set_option maxHeartbeats 4000000
/-! DL, part 6: calls of built-ins, slices, repr, what is walked. -/
namespace DL
open PySem PySem.Spec PyProof.Rows L2

section
variable {X : Cx} {K : PySem.W.Frag} {pins : List (Addr × Obj)} {σ : L2.St} {H G : Hp} {s : Shared}
/-! ### isinstance -/
inductive Tg where | none | bool | int | str | list | tuple | dict
def Tg.name : Tg → String
  | .none => "NoneType" | .int => "int" | .bool => "bool" | .str => "str" | .list => "list" | .tuple => "tuple" | .dict => "dict"
def isScr : List (PyData × PyData) → Bool
  | [(.none, _)] => true
  | _ => false
def tgD : PyData → Option Tg
  | .none => some .none | .bool _ => some .bool | .int _ => some .int | .str _ => some .str | .list _ => some .list | .tuple _ => some .tuple
  | .dict kvs => if isScr kvs = true then none else some .dict
/-- what stands at such a tag is a T -/
def tgIs : Tg → Tg → Bool
  | .int, .int => true | .int, .bool => true | .bool, .bool => true | .str, .str => true | .list, .list => true | .tuple, .tuple => true | .dict, .dict => true | .none, .none => true
  | _, _ => false
def isTy (T : Tg) (x : PyData) : Option Bool := (tgD x).map (tgIs T)
theorem RpKV.noScr {kvs : List (Key × V)} {ds : List (PyData × PyData)} (h : RpKV K H kvs ds) : isScr ds = false := by
  cases h with
  | nil => rfl
  | @cons k v r d ds h1 h2 => cases k <;> cases ds <;> rfl
theorem rp_ty {v : V} {x : PyData} {t : Tg} (h : Rp K H v x) (e : tgD x = some t) : TyX K H v (.type t.name) := by
  cases h with
  | non => cases e; exact .base .non
  | bl b => cases e; exact .base (.bl b)
  | int b => cases e; exact .base (.int b)
  | str b => cases e; exact .base (.str b)
  | lst h r => cases e; exact .base (.lst h)
  | tup h r =>
    cases e
    rcases h with (h | ⟨o, h⟩) | ⟨o, its, n, h1, h2, _⟩
    · exact .base (.tup h)
    · exact .fTuple h
    · exact .kTuple h1 h2
  | @dic a kvs ds h r =>
    have e : (if isScr ds = true then none else some Tg.dict) = some t := e
    rw [r.noScr] at e
    cases e
    rcases h with h | ⟨o, h⟩
    · exact .base (.dK h)
    · exact .fDict h
  | scr h r => cases e
theorem kitT (T t : Tg) (hT : T ≠ .none) : kitB t.name T.name = some (tgIs T t) := by
  cases T <;> first | exact absurd rfl hT | (cases t <;> decide +kernel)
def tIsi (K : PySem.W.Frag) (te : TE) (T : Tg) : TE := tCB (rIsi K) (tCons te (tCons (tC (.ty T.name)) tNil))
def sIsi (T : Tg) (fe : ES) : ES := fun S => (fe S).bind fun p => (p.1.get p.2).bind fun x => (isTy T x).map fun b => (.dat (.bool b), p.2)
theorem sem_isi {te : TE} {fe : ES} {T : Tg} (hT : T ≠ .none) (h1 : SemE K te fe) : SemE K (tIsi K te T) (sIsi T fe) := by
  intro F S σ H G o S' r ef Q k
  obtain ⟨⟨o1, S1⟩, e1, ef⟩ := Option.bind_eq_some_iff.mp ef
  obtain ⟨x, e3, ef⟩ := Option.bind_eq_some_iff.mp ef
  obtain ⟨b, e5, ef⟩ := Option.map_eq_some_iff.mp ef
  cases ef
  obtain ⟨t, e6, rfl⟩ := Option.map_eq_some_iff.mp e5
  refine h1 F S σ H G o1 _ r e1 _ fun v H1 G1 r1 g1 h2 => ?_
  exact ⟨v, .ty T.name, _, _, tgIs T t, rfl, .ty _, rp_ty ((op_get r1 h2 e3).rp r1.gh) e6, kit_ty (kitT T t hT), k _ H1 G1 r1 g1 (.bl _)⟩
theorem se_isi {tn : Str} {T : Tg} {p p2 pos : Pos} {e : Expr} {te : TE} {fe : ES} (hK : X.K = K) (hT : T ≠ .none) (hm : X.mg "isinstance" = none) (hmT : X.mg tn = none) (hbT : bootBuiltins tn = some (.type T.name)) (he : SE X K e te fe) (hg : Gl X "isinstance" := by rfl) (hgT : Gl X tn := by rfl) (hnT : tn ≠ "__name__" := by decide) (hdT : (tn == ("__debug__" : Str)) = false := by decide)
    (hs1 : starEach [e, .Name tn p2] X.env = (false, eval e X.env) :: starEach [.Name tn p2] X.env := by rfl) (hs2 : starEach [.Name tn p2] X.env = (false, eval (.Name tn p2) X.env) :: starEach [] X.env := by rfl) (hpl : (backTo pos (starEach [.Name tn p2] X.env)).any (·.1) = false := by rfl) :
    SE X K (.Call (.Name "isinstance" p) [e, .Name tn p2] [] pos) (tIsi K te T) (sIsi T fe) := by
  subst hK
  exact ⟨pe_callB call_isi hg hm (by decide +kernel) (pa_cons he.p (pa_cons (pe_bltn hgT hmT hbT (by exact rfl) hnT hdT) pa_nil hs2) hs1) (by decide) (by decide) hs1 hpl, sem_isi hT he.ok⟩
/-- isinstance(x, (T, U)) -/
def sIsi2 (T U : Tg) (fe : ES) : ES := fun S => (fe S).bind fun p => (p.1.get p.2).bind fun x => (isTy T x).bind fun b => (isTy U x).map fun c => (.dat (.bool (b || c)), p.2)
def tIsi2 (K : PySem.W.Frag) (te : TE) (T U : Tg) : TE := tCB (rIsiT K) (tCons te (tCons (tTup (tCons (tC (.ty T.name)) (tCons (tC (.ty U.name)) tNil))) tNil))
theorem sem_isi2 {te : TE} {fe : ES} {T U : Tg} (hT : T ≠ .none) (hU : U ≠ .none) (h1 : SemE K te fe) : SemE K (tIsi2 K te T U) (sIsi2 T U fe) := by
  intro F S σ H G o S' r ef Q k
  obtain ⟨⟨o1, S1⟩, e1, ef⟩ := Option.bind_eq_some_iff.mp ef
  obtain ⟨x, e3, ef⟩ := Option.bind_eq_some_iff.mp ef
  obtain ⟨b, e5, ef⟩ := Option.bind_eq_some_iff.mp ef
  obtain ⟨c, e7, ef⟩ := Option.map_eq_some_iff.mp ef
  cases ef
  obtain ⟨t, e6, rfl⟩ := Option.map_eq_some_iff.mp e5
  obtain ⟨t', e8, rfl⟩ := Option.map_eq_some_iff.mp e7
  rw [e6] at e8; cases e8
  refine h1 F S σ H G o1 _ r e1 _ fun v H1 G1 r1 g1 h2 => ?_
  refine ⟨by show 2 ≤ sizeLine; decide, fun p hp => ?_⟩
  have px := PX.side (o := HO.tup [.ty T.name, .ty U.name]) r1.gh hp
  refine ⟨v, p, [.ty T.name, .ty U.name], _, [_, _], tgIs T t || tgIs U t, rfl, upd_same, .cons (.ty _) (.cons (.ty _) .nil), rp_ty (((op_get r1 h2 e3).rp r1.gh).mono px.hh) e6, ?_, k _ _ G1 (r1.ext px) g1 (.bl _)⟩
  refine kitAny_cons (kit_ty (kitT T t hT)) (fun q => kitAny_cons (kit_ty (kitT U t hU)) (fun q2 => by rw [q, q2]; exact kitAny_nil) (fun q2 => by rw [q2]; simp)) (fun q => by rw [q]; rfl)
theorem se_isi2 {tn un : Str} {T U : Tg} {p p2 p3 p4 pos : Pos} {k0} {e : Expr} {te : TE} {fe : ES} (hK : X.K = K) (hT : T ≠ .none) (hU : U ≠ .none) (hm : X.mg "isinstance" = none) (hmT : X.mg tn = none) (hbT : bootBuiltins tn = some (.type T.name)) (hmU : X.mg un = none) (hbU : bootBuiltins un = some (.type U.name)) (he : SE X K e te fe) (hg : Gl X "isinstance" := by rfl) (hgT : Gl X tn := by rfl) (hgU : Gl X un := by rfl) (hnT : tn ≠ "__name__" := by decide) (hdT : (tn == ("__debug__" : Str)) = false := by decide) (hnU : un ≠ "__name__" := by decide) (hdU : (un == ("__debug__" : Str)) = false := by decide)
    (hs1 : starEach [e, .Tuple [.Name tn p2, .Name un p3] k0 p4] X.env = (false, eval e X.env) :: starEach [.Tuple [.Name tn p2, .Name un p3] k0 p4] X.env := by rfl) (hs2 : starEach [.Tuple [.Name tn p2, .Name un p3] k0 p4] X.env = (false, eval (.Tuple [.Name tn p2, .Name un p3] k0 p4) X.env) :: starEach [] X.env := by rfl) (hs3 : starEach [.Name tn p2, .Name un p3] X.env = (false, eval (.Name tn p2) X.env) :: starEach [.Name un p3] X.env := by rfl) (hs4 : starEach [.Name un p3] X.env = (false, eval (.Name un p3) X.env) :: starEach [] X.env := by rfl) (hpl : (backTo pos (starEach [.Tuple [.Name tn p2, .Name un p3] k0 p4] X.env)).any (·.1) = false := by rfl) :
    SE X K (.Call (.Name "isinstance" p) [e, .Tuple [.Name tn p2, .Name un p3] k0 p4] [] pos) (tIsi2 K te T U) (sIsi2 T U fe) := by
  subst hK
  exact ⟨pe_callB call_isiT hg hm (by decide +kernel) (pa_cons he.p (pa_cons (pe_tup (pa_cons (pe_bltn hgT hmT hbT (by exact rfl) hnT hdT) (pa_cons (pe_bltn hgU hmU hbU (by exact rfl) hnU hdU) pa_nil hs4) hs3)) pa_nil hs2) hs1) (by decide) (by decide) hs1 hpl, sem_isi2 hT hU he.ok⟩

/-! ### tuple(x), list(x) -/
def dTuple : List PyData → Option PyData
  | [.list xs] => some (.tuple xs)
  | [.tuple xs] => some (.tuple xs)
  | _ => none
def rTuple (K : PySem.W.Frag) : List V → Hp → VK → Prop := fun xs H Q => ∃ p ys, xs = [.ref p] ∧ ((SqL K H p ys ∧ ∀ l, H l = none → Q (.ref l) (upd H l (.tup ys))) ∨ (SqT K H p ys ∧ Q (.ref p) H))
theorem crTuple (hK : X.K = K) : CallR X (.type "tuple") (rTuple K) := by subst hK; exact call_tuple_of
theorem vTuple : VN K (rTuple K) dTuple := fun G H vs xs z e rs q Q k => by
  unfold dTuple at q
  split at q
  · cases rs with
    | cons r t =>
      cases t
      cases q
      obtain ⟨a, ws, rfl, h1, h2⟩ := r.lst e
      refine ⟨a, ws, rfl, .inl ⟨.inl (.inl h1), fun l hl => ?_⟩⟩
      have px := PX.laid (o := .tup ws) e hl
      exact k _ _ _ px (.tup (.inl (.inl upd_same)) (h2.mono px.gg))
  · cases rs with
    | cons r t =>
      cases t
      cases q
      obtain ⟨a, ws, rfl, h1, h2⟩ := r.tup e
      rcases r with r | ⟨_, _, _, z, _⟩
      · exact ⟨a, ws, rfl, .inr ⟨h1, k _ H G (.refl e) r⟩⟩
      · cases z
  · cases q
def dListL : List PyData → Option (List PyData)
  | [.list xs] => some xs
  | [.tuple xs] => some xs
  | _ => none
def rList (K : PySem.W.Frag) : List V → Hp → VK → Prop := fun xs H Q => ∃ p ys, xs = [.ref p] ∧ (SqL K H p ys ∨ SqT K H p ys) ∧ ∀ l, H l = none → Q (.ref l) (upd H l (.lst ys))
theorem crList (hK : X.K = K) : CallR X (.type "list") (rList K) := by subst hK; exact call_list_of
theorem vListL : VL K (rList K) dListL := fun G H vs xs z e rs q Q k => by
  unfold dListL at q
  split at q
  · cases rs with
    | cons r t =>
      cases t
      cases q
      obtain ⟨a, ws, rfl, h1, h2⟩ := r.lst e
      exact ⟨a, ws, rfl, .inl (.inl (.inl h1)), fun l hl => k l ws _ G (PX.side e hl) hl (e.free hl) upd_same h2⟩
  · cases rs with
    | cons r t =>
      cases t
      cases q
      obtain ⟨a, ws, rfl, h1, h2⟩ := r.tup e
      exact ⟨a, ws, rfl, .inr h1, fun l hl => k l ws _ G (PX.side e hl) hl (e.free hl) upd_same h2⟩
  · cases q

/-! ### all, any, sum; max, min; abs, int, divmod -/
def dBools : List PyData → Option (List Bool)
  | [] => some []
  | .bool b :: r => (dBools r).map fun bs => b :: bs
  | _ => none
def dInts : List PyData → Option (List Int)
  | [] => some []
  | .int b :: r => (dInts r).map fun bs => b :: bs
  | _ => none
theorem dBools_some : ∀ {xs : List PyData} {bs : List Bool}, dBools xs = some bs → xs = bs.map .bool
  | [], _, h => by cases h; rfl
  | .bool b :: r, _, h => by
    obtain ⟨bs, h1, rfl⟩ := Option.map_eq_some_iff.mp h
    rw [dBools_some h1]; rfl
  | .none :: _, _, h => by cases h
  | .int _ :: _, _, h => by cases h
  | .str _ :: _, _, h => by cases h
  | .list _ :: _, _, h => by cases h
  | .tuple _ :: _, _, h => by cases h
  | .dict _ :: _, _, h => by cases h
theorem dInts_some : ∀ {xs : List PyData} {bs : List Int}, dInts xs = some bs → xs = bs.map .int
  | [], _, h => by cases h; rfl
  | .int b :: r, _, h => by
    obtain ⟨bs, h1, rfl⟩ := Option.map_eq_some_iff.mp h
    rw [dInts_some h1]; rfl
  | .none :: _, _, h => by cases h
  | .bool _ :: _, _, h => by cases h
  | .str _ :: _, _, h => by cases h
  | .list _ :: _, _, h => by cases h
  | .tuple _ :: _, _, h => by cases h
  | .dict _ :: _, _, h => by cases h
theorem dBools_map : ∀ bs : List Bool, dBools (bs.map .bool) = some bs
  | [] => rfl
  | b :: bs => by show (dBools (bs.map .bool)).map _ = _; rw [dBools_map bs]; rfl
theorem dInts_map : ∀ bs : List Int, dInts (bs.map .int) = some bs
  | [] => rfl
  | b :: bs => by show (dInts (bs.map .int)).map _ = _; rw [dInts_map bs]; rfl
def dAll : List PyData → Option PyData
  | [.list xs] => (dBools xs).map fun bs => .bool (bs.all id)
  | _ => none
def dAny : List PyData → Option PyData
  | [.list xs] => (dBools xs).map fun bs => .bool (bs.any id)
  | _ => none
def dSum : List PyData → Option PyData
  | [.list xs] => (dInts xs).map fun bs => .int bs.sum
  | _ => none
theorem crAll (hK : X.K = K) (hc : X.calm = true) : CallR X (.builtin "all") (rAll K) := by subst hK; exact cr_all hc
theorem crAny (hK : X.K = K) (hc : X.calm = true) : CallR X (.builtin "any") (rAny K) := by subst hK; exact cr_any hc
theorem crSum (hK : X.K = K) (hc : X.calm = true) : CallR X (.builtin "sum") (rSum K) := by subst hK; exact cr_sum hc
theorem vAll : VN K (rAll K) dAll := fun G H vs xs z e rs q Q k => by
  unfold dAll at q
  split at q
  · obtain ⟨bs, h1, rfl⟩ := Option.map_eq_some_iff.mp q
    cases rs with
    | cons r t =>
      cases t
      obtain ⟨a, ws, rfl, h2, h3⟩ := r.lst e
      have hx := dBools_some h1
      subst hx
      have hw := h3.bools
      subst hw
      exact ⟨a, bs, rfl, .inl (.inl h2), k _ H G (.refl e) (.bl _)⟩
  · cases q
theorem vAny : VN K (rAny K) dAny := fun G H vs xs z e rs q Q k => by
  unfold dAny at q
  split at q
  · obtain ⟨bs, h1, rfl⟩ := Option.map_eq_some_iff.mp q
    cases rs with
    | cons r t =>
      cases t
      obtain ⟨a, ws, rfl, h2, h3⟩ := r.lst e
      have hx := dBools_some h1
      subst hx
      have hw := h3.bools
      subst hw
      exact ⟨a, bs, rfl, .inl (.inl h2), k _ H G (.refl e) (.bl _)⟩
  · cases q
theorem vSum : VN K (rSum K) dSum := fun G H vs xs z e rs q Q k => by
  unfold dSum at q
  split at q
  · obtain ⟨bs, h1, rfl⟩ := Option.map_eq_some_iff.mp q
    cases rs with
    | cons r t =>
      cases t
      obtain ⟨a, ws, rfl, h2, h3⟩ := r.lst e
      have hx := dInts_some h1
      subst hx
      have hw := h3.ints
      subst hw
      exact ⟨a, bs, rfl, .inl (.inl h2), k _ H G (.refl e) (.int _)⟩
  · cases q
def maxI : Int → List Int → Int
  | m, [] => m
  | m, x :: r => maxI (if x > m then x else m) r
def minI : Int → List Int → Int
  | m, [] => m
  | m, x :: r => minI (if x < m then x else m) r
theorem maxI_ge : ∀ (l : List Int) (m : Int), m ≤ maxI m l ∧ ∀ x ∈ l, x ≤ maxI m l
  | [], m => ⟨Int.le_refl _, fun x h => by cases h⟩
  | y :: r, m => by
    obtain ⟨h1, h2⟩ := maxI_ge r (if y > m then y else m)
    have h3 : m ≤ (if y > m then y else m) ∧ y ≤ (if y > m then y else m) := by split <;> omega
    refine ⟨by show m ≤ maxI _ r; omega, fun x hx => ?_⟩
    show x ≤ maxI _ r
    rcases List.mem_cons.mp hx with rfl | hx
    · omega
    · exact h2 x hx
theorem maxI_mem : ∀ (l : List Int) (m : Int), maxI m l = m ∨ maxI m l ∈ l
  | [], m => .inl rfl
  | y :: r, m => by
    rcases maxI_mem r (if y > m then y else m) with h | h
    · show maxI _ r = m ∨ maxI _ r ∈ y :: r
      rw [h]
      split
      · exact .inr (by simp)
      · exact .inl rfl
    · exact .inr (List.mem_cons_of_mem _ h)
theorem minI_le : ∀ (l : List Int) (m : Int), minI m l ≤ m ∧ ∀ x ∈ l, minI m l ≤ x
  | [], m => ⟨Int.le_refl _, fun x h => by cases h⟩
  | y :: r, m => by
    obtain ⟨h1, h2⟩ := minI_le r (if y < m then y else m)
    have h3 : (if y < m then y else m) ≤ m ∧ (if y < m then y else m) ≤ y := by split <;> omega
    refine ⟨by show minI _ r ≤ m; omega, fun x hx => ?_⟩
    show minI _ r ≤ x
    rcases List.mem_cons.mp hx with rfl | hx
    · omega
    · exact h2 x hx
theorem minI_mem : ∀ (l : List Int) (m : Int), minI m l = m ∨ minI m l ∈ l
  | [], m => .inl rfl
  | y :: r, m => by
    rcases minI_mem r (if y < m then y else m) with h | h
    · show minI _ r = m ∨ minI _ r ∈ y :: r
      rw [h]
      split
      · exact .inr (by simp)
      · exact .inl rfl
    · exact .inr (List.mem_cons_of_mem _ h)
def dMax : List PyData → Option PyData
  | [.int i, .int j] => some (.int (if j > i then j else i))
  | [.list xs] => (dInts xs).bind fun ns => match ns with
    | [] => none
    | n :: r => some (.int (maxI n r))
  | _ => none
def dMin : List PyData → Option PyData
  | [.int i, .int j] => some (.int (if j < i then j else i))
  | [.list xs] => (dInts xs).bind fun ns => match ns with
    | [] => none
    | n :: r => some (.int (minI n r))
  | _ => none
theorem CallR.or {f : Value} {r r' : List V → Hp → VK → Prop} (h : CallR X f r) (h' : CallR X f r') : CallR X f (fun xs H Q => r xs H Q ∨ r' xs H Q) := fun pins s σ H xs us Q I rv q => q.elim (h pins s σ H xs us Q I rv) (h' pins s σ H xs us Q I rv)
def rMaxA (K : PySem.W.Frag) : List V → Hp → VK → Prop := fun xs H Q => (∃ i j, xs = [.int i, .int j] ∧ Q (.int (if j > i then j else i)) H) ∨ rMax K xs H Q
def rMinA (K : PySem.W.Frag) : List V → Hp → VK → Prop := fun xs H Q => (∃ i j, xs = [.int i, .int j] ∧ Q (.int (if j < i then j else i)) H) ∨ rMin K xs H Q
theorem crMax (hK : X.K = K) (hc : X.calm = true) : CallR X (.builtin "max") (rMaxA K) := by subst hK; exact CallR.or (call_max2 hc) (cr_max hc)
theorem crMin (hK : X.K = K) (hc : X.calm = true) : CallR X (.builtin "min") (rMinA K) := by subst hK; exact CallR.or (call_min2 hc) (cr_min hc)
theorem vMax : VN K (rMaxA K) dMax := fun G H vs xs z e rs q Q k => by
  unfold dMax at q
  split at q
  · cases rs with
    | cons r t => cases t with
      | cons r2 t => cases t; cases q; exact .inl ⟨_, _, by rw [r.int, r2.int], k _ H G (.refl e) (.int _)⟩
  · obtain ⟨ns, h1, h2⟩ := Option.bind_eq_some_iff.mp q
    cases ns with
    | nil => cases h2
    | cons n l =>
      cases h2
      cases rs with
      | cons r t =>
        cases t
        obtain ⟨a, ws, rfl, h2, h3⟩ := r.lst e
        have hx := dInts_some h1
        subst hx
        have hw := h3.ints
        subst hw
        refine .inr ⟨a, n :: l, rfl, .inl (.inl h2), by simp, fun m hm hge => ?_⟩
        obtain ⟨g1, g2⟩ := maxI_ge l n
        have e1 : m = maxI n l := by
          have h5 : maxI n l ≤ m := by
            rcases maxI_mem l n with z | z
            · rw [z]; exact hge n (by simp)
            · exact hge _ (List.mem_cons_of_mem _ z)
          have h6 : m ≤ maxI n l := by
            rcases List.mem_cons.mp hm with rfl | z
            · exact g1
            · exact g2 m z
          omega
        subst e1
        exact k _ H G (.refl e) (.int _)
  · cases q
theorem vMin : VN K (rMinA K) dMin := fun G H vs xs z e rs q Q k => by
  unfold dMin at q
  split at q
  · cases rs with
    | cons r t => cases t with
      | cons r2 t => cases t; cases q; exact .inl ⟨_, _, by rw [r.int, r2.int], k _ H G (.refl e) (.int _)⟩
  · obtain ⟨ns, h1, h2⟩ := Option.bind_eq_some_iff.mp q
    cases ns with
    | nil => cases h2
    | cons n l =>
      cases h2
      cases rs with
      | cons r t =>
        cases t
        obtain ⟨a, ws, rfl, h2, h3⟩ := r.lst e
        have hx := dInts_some h1
        subst hx
        have hw := h3.ints
        subst hw
        refine .inr ⟨a, n :: l, rfl, .inl (.inl h2), by simp, fun m hm hge => ?_⟩
        obtain ⟨g1, g2⟩ := minI_le l n
        have e1 : m = minI n l := by
          have h5 : m ≤ minI n l := by
            rcases minI_mem l n with z | z
            · rw [z]; exact hge n (by simp)
            · exact hge _ (List.mem_cons_of_mem _ z)
          have h6 : minI n l ≤ m := by
            rcases List.mem_cons.mp hm with rfl | z
            · exact g1
            · exact g2 m z
          omega
        subst e1
        exact k _ H G (.refl e) (.int _)
  · cases q
def dAbs : List PyData → Option PyData
  | [.int i] => some (.int (if i < 0 then -i else i))
  | _ => none
def rAbs : List V → Hp → VK → Prop := fun xs H Q => ∃ i, xs = [.int i] ∧ Q (.int (if i < 0 then -i else i)) H
theorem crAbs : CallR X (.builtin "abs") rAbs := call_abs
theorem vAbs : VN K rAbs dAbs := fun G H vs xs z e rs q Q k => by
  unfold dAbs at q
  split at q
  · cases rs with
    | cons r t => cases t; cases q; exact ⟨_, by rw [r.int], k _ H G (.refl e) (.int _)⟩
  · cases q
def dInt : List PyData → Option PyData
  | [.int i] => some (.int i)
  | [.bool b] => some (.int (if b then 1 else 0))
  | _ => none
def rInt : List V → Hp → VK → Prop := fun xs H Q => (∃ i, xs = [.int i] ∧ Q (.int i) H) ∨ ∃ k, xs = [.bl k] ∧ Q (.int (if k then 1 else 0)) H
theorem crInt : CallR X (.type "int") rInt := call_int1
theorem vInt : VN K rInt dInt := fun G H vs xs z e rs q Q k => by
  unfold dInt at q
  split at q
  · cases rs with
    | cons r t => cases t; cases q; exact .inl ⟨_, by rw [r.int], k _ H G (.refl e) (.int _)⟩
  · cases rs with
    | cons r t => cases t; cases q; exact .inr ⟨_, by rw [r.bl], k _ H G (.refl e) (.int _)⟩
  · cases q
noncomputable def dDivmod : List PyData → Option PyData
  | [.int i, .int j] => if CDiv i j then some (.tuple [.int (i / j), .int (i % j)]) else none
  | _ => none
def rDivmod : List V → Hp → VK → Prop := fun xs H Q => ∃ i j, xs = [.int i, .int j] ∧ CDiv i j ∧ ∀ p, H p = none → Q (.ref p) (upd H p (.tup [.int (i / j), .int (i % j)]))
theorem crDivmod : CallR X (.builtin "divmod") rDivmod := call_divmod
theorem vDivmod : VN K rDivmod dDivmod := fun G H vs xs z e rs q Q k => by
  unfold dDivmod at q
  split at q
  · split at q
    · rename_i hc
      cases rs with
      | cons r t => cases t with
        | cons r2 t =>
          cases t; cases q
          rename_i i j _ _
          refine ⟨_, _, by rw [r.int, r2.int], hc, fun p hp => ?_⟩
          have px := PX.laid (o := .tup [.int (i / j), .int (i % j)]) e hp
          exact k _ _ _ px (.tup (.inl (.inl upd_same)) (.cons (.int _) (.cons (.int _) .nil)))
    · cases q
  · cases q

/-! ### sorted of ints -/
def insI (x : Int) : List Int → List Int
  | [] => [x]
  | y :: r => if x ≤ y then x :: y :: r else y :: insI x r
def sortI : List Int → List Int
  | [] => []
  | x :: r => insI x (sortI r)
theorem insI_perm (x : Int) : ∀ l : List Int, (insI x l).Perm (x :: l)
  | [] => .refl _
  | y :: r => by
    unfold insI
    split
    · exact .refl _
    · exact ((insI_perm x r).cons y).trans (.swap x y r)
theorem sortI_perm : ∀ l : List Int, (sortI l).Perm l
  | [] => .refl _
  | x :: r => (insI_perm x (sortI r)).trans ((sortI_perm r).cons x)
theorem insI_sorted (x : Int) : ∀ l : List Int, l.Pairwise (· ≤ ·) → (insI x l).Pairwise (· ≤ ·)
  | [], _ => by simp [insI]
  | y :: r, h => by
    have h' := List.pairwise_cons.mp h
    unfold insI
    split
    · rename_i hxy
      refine List.pairwise_cons.mpr ⟨fun z hz => ?_, h⟩
      rcases List.mem_cons.mp hz with rfl | hz
      · exact hxy
      · exact Int.le_trans hxy (h'.1 z hz)
    · rename_i hxy
      refine List.pairwise_cons.mpr ⟨fun z hz => ?_, insI_sorted x r h'.2⟩
      have hz := (insI_perm x r).mem_iff.mp hz
      rcases List.mem_cons.mp hz with rfl | hz
      · omega
      · exact h'.1 z hz
theorem sortI_sorted : ∀ l : List Int, (sortI l).Pairwise (· ≤ ·)
  | [] => .nil
  | x :: r => insI_sorted x _ (sortI_sorted r)
theorem sorted_unique : ∀ {l m : List Int}, l.Perm m → l.Pairwise (· ≤ ·) → m.Pairwise (· ≤ ·) → l = m
  | [], m, p, _, _ => (List.nil_perm.mp p).symm
  | x :: l, [], p, _, _ => by have := p.length_eq; simp at this
  | x :: l, y :: m, p, h1, h2 => by
    have a := List.pairwise_cons.mp h1
    have b := List.pairwise_cons.mp h2
    have e : x = y := by
      have m1 : x ∈ y :: m := p.mem_iff.mp (by simp)
      have m2 : y ∈ x :: l := p.mem_iff.mpr (by simp)
      rcases List.mem_cons.mp m1 with q | q
      · exact q
      · rcases List.mem_cons.mp m2 with q' | q'
        · exact q'.symm
        · have := b.1 x q
          have := a.1 y q'
          omega
    subst e
    rw [sorted_unique (p.cons_inv) a.2 b.2]
def dSortedL : List PyData → Option (List PyData)
  | [.list xs] => (dInts xs).bind fun ns => if ns.length < 64 then some ((sortI ns).map .int) else none
  | _ => none
theorem crSorted (hK : X.K = K) : CallR X (.builtin "sorted") (rSorted K) := by subst hK; exact cr_sorted
theorem vSortedL : VL K (rSorted K) dSortedL := fun G H vs xs z e rs q Q k => by
  unfold dSortedL at q
  split at q
  · obtain ⟨ns, h1, h2⟩ := Option.bind_eq_some_iff.mp q
    split at h2
    · rename_i hl
      cases h2
      cases rs with
      | cons r t =>
        cases t
        obtain ⟨a, ws, rfl, h2, h3⟩ := r.lst e
        have hx := dInts_some h1
        subst hx
        have hw := h3.ints
        subst hw
        refine ⟨a, ns, rfl, .inl (.inl h2), hl, fun ns' p pm so hp => ?_⟩
        have hs : ns' = sortI ns := sorted_unique (pm.trans (sortI_perm ns).symm) so (sortI_sorted ns)
        subst hs
        exact k p _ _ G (PX.side e hp) hp (e.free hp) upd_same (RpAll.of_ints _)
    · cases h2
  · cases q

end
end DL

set_option Elab.async false
set_option linter.all false
set_option maxRecDepth 100000
set_option maxHeartbeats 4000000
/-! DL, part 7: what is walked: lists, tuples, ranges, enumerate, zip. -/
namespace DL
open PySem PySem.Spec PyProof.Rows L2

/-- a list or a tuple -/
def SqA (K : PySem.W.Frag) (H : Hp) (b : Bool) (a : Addr) (xs : List V) : Prop := if b then SqT K H a xs else SqL K H a xs
def Its2 (K : PySem.W.Frag) (b : Bool) (a : Addr) (c : Int) : It :=
  ⟨fun i H => ∃ (xs : List V) (x : V), SqA K H b a xs ∧ xs[i]? = some x, fun i H v H' => ∃ T x, v = .ref T ∧ H T = none ∧ H' = upd H T (.tup [.int (c + (i : Nat)), x]) ∧ ∀ xs, SqA K H b a xs → xs[i]? = some x, fun i H => ∃ xs : List V, SqA K H b a xs ∧ xs.length = i⟩
def IterAt (h : Heap) (b : Bool) (it a : Addr) (i : Nat) : Prop := if b then h.IsTupleIter it a i else h.IsListIter it a i
theorem IterAt.get {h : Heap} {b : Bool} {it a : Addr} {i : Nat} (st : IterAt h b it a i) : ∃ o, h.get? it = some o ∧ ∀ v, o.data ≠ .cell v := by
  cases b with
  | true => obtain ⟨o, ho, hc, hd⟩ := st; exact ⟨o, ho, fun v q => by rw [hd] at q; cases q⟩
  | false => obtain ⟨o, ho, hc, hd⟩ := st; exact ⟨o, ho, fun v q => by rw [hd] at q; cases q⟩
theorem IterAt.at {h h' : Heap} {b : Bool} {it a : Addr} {i : Nat} (st : IterAt h b it a i) (k : ∀ o, h.get? it = some o → h'.get? it = some o) : IterAt h' b it a i := by
  cases b with
  | true => exact Heap.IsTupleIter.at st k
  | false => exact Heap.IsListIter.at st k
def SeqIs (h : Heap) (b : Bool) (a : Addr) (items : Array Value) : Prop := if b then h.IsTuple a items else h.IsList a items
theorem drawsA {prog : Program} {w : World} {A : Around} (hh : A.handled = none) (b : Bool) (it a : Addr) (hne : a ≠ it) (items : Array Value) :
    Draws prog w A it [it, a] items.size (fun i v => items[i]? = some v) (fun i h => IterAt h b it a i ∧ SeqIs h b a items) := by
  cases b with
  | true => exact Draws.tuple hh it a hne items
  | false => exact Draws.list hh it a hne items
theorem sqA_vals {X : Cx} {pins : List (Addr × Obj)} {σ : L2.St} {H : Hp} {s : Shared} {b : Bool} {a : Addr} {xs : List V} (I : Inv X pins σ H s) (h : SqA X.K H b a xs) : ∃ its, Vals xs its ∧ SeqIs s.heap b a its.toArray ∧ a < s.heap.objs.size := by
  cases b with
  | true =>
    obtain ⟨its, rv, p, _⟩ := I.tuple h
    exact ⟨its, rv, p, by obtain ⟨o, e, _⟩ := p; exact Heap.lt_size e⟩
  | false =>
    obtain ⟨its, rv, p, _⟩ := I.list h
    exact ⟨its, rv, p.isList, p.lt⟩
theorem sqA_inj {X : Cx} {pins : List (Addr × Obj)} {σ : L2.St} {H : Hp} {s : Shared} {b : Bool} {a : Addr} {xs ys : List V} (I : Inv X pins σ H s) (h : SqA X.K H b a xs) (h2 : SqA X.K H b a ys) : xs = ys := by
  cases b with
  | true => exact I.tuple_inj h h2
  | false => exact I.list_inj h h2

theorem turn_enumA {P : Program} {w : World} {K : PySem.W.Frag} {elts : List Expr} {kk : Nat} {tpos : Pos} (b : Bool) (c : Int) (a e it : Addr) :
    Turn P w K (.Tuple elts kk tpos) (Its2 K b a c) [e, it] e (fun i h => (∃ old, IsEnum h e it (c + ((i : Nat) : Int)) old) ∧ IterAt h b it a i ∧ e ≠ it ∧ a ≠ it ∧ e ≠ a) where
  mem := by simp
  obj := fun i h st d hd => by
    obtain ⟨⟨old, he⟩, hi, _⟩ := st
    have e' : d = e ∨ d = it := by simpa using hd
    rcases e' with z | z
    · rw [z]; exact ⟨_, he, fun v q => nomatch q⟩
    · rw [z]; exact hi.get
  keep := fun i h h' st k => let ⟨⟨old, he⟩, hi, hne⟩ := st; ⟨⟨old, k e (by simp) _ he⟩, hi.at fun o q => k it (by simp) o q, hne⟩
  item := by
    intro X hP hw hK hc i pins s σ H E I hf st hg
    subst hP hw hK
    obtain ⟨⟨old, he⟩, hit, hne, hna, hea⟩ := st
    obtain ⟨xs, x, hq, hx⟩ := hg
    obtain ⟨its, rv, p, hz⟩ := sqA_vals I hq
    obtain ⟨u, hu, ru⟩ := rv.get hx
    have hel : e < s.heap.objs.size := Heap.lt_size he
    have hil : it < s.heap.objs.size := by obtain ⟨_, q, _⟩ := hit.get; exact Heap.lt_size q
    have hlt : i < its.toArray.size := by
      have := (List.getElem?_eq_some_iff.mp hu).1
      simpa using this
    refine wpAny_pyNext_enum_itemC (drawsA (prog := X.prog) (w := X.w) (A := X.A.in1) (I.ok.hd hc) b it a hna its.toArray) he ⟨hit, p⟩ hlt hne (by simp [hne, hea]) fun y h' tk hy ho hit' hT hsz hk => ?_
    have hyu : y = u := by
      have hy : its.toArray[i]? = some y := hy
      rw [List.getElem?_toArray, hu] at hy; cases hy; rfl
    subst hyu
    refine ⟨_, rfl, wpAny_letOwnedTupleGo_enum (s := { s with heap := h', toks := tk + 1 }) ho fun h'' he' sb => ?_⟩
    have hT2 : h''.get? s.heap.objs.size = some { cls := .type "tuple", data := .seq #[.int (c + (i : Nat)) tk, y] } := (sb.2 _ (Nat.ne_of_gt hel)).trans hT
    have new : ObjOk X.prog X.w (upd H s.heap.objs.size (.tup [.int (c + (i : Nat)), x])) h'' s.heap.objs.size (.tup [.int (c + (i : Nat)), x]) :=
      ⟨by show 2 ≤ sizeLine; decide, [.int (c + (i : Nat)) tk, y], .cons ⟨_, rfl⟩ (.cons ru .nil), ⟨_, hT2, rfl, _, rfl⟩⟩
    have I1 : Inv X pins σ (upd H s.heap.objs.size (.tup [.int (c + (i : Nat)), x])) { s with heap := h'', toks := tk + 1 } :=
      I.turnedNew (ch := [e, it]) (fun d ob hb q => (sb.2 d (fun z => hb (by simp [z]))).trans (hk d ob (fun z => hb (by simp [z])) (fun z => hb (by simp [z])) q)) hf (Nat.le_refl _) new
    refine ⟨.ref s.heap.objs.size, _, I1, rfl, ⟨_, x, rfl, I.hok.fresh (Nat.le_refl _), rfl, fun ys hy => by rw [sqA_inj I hy hq]; exact hx⟩, ⟨⟨y, ?_⟩, hit'.1.at fun o q => (sb.2 it (Ne.symm hne)).trans q, hne, hna, hea⟩, fun d hd => ?_⟩
    · have e1 : c + ((i + 1 : Nat) : Int) = c + (i : Int) + 1 := by omega
      rw [e1]; exact he'
    · have hb' : d < s.heap.objs.size := by
        have e' : d = e ∨ d = it := by simpa using hd
        rcases e' with z | z
        · rw [z]; exact hel
        · rw [z]; exact hil
      rw [upd_ne (Nat.ne_of_lt hb')]
      exact (hf d hd).1
  done := by
    intro X hP hw hK hc i pins s σ H E I hf st hg
    subst hP hw hK
    obtain ⟨⟨old, he⟩, hit, hne, hna, hea⟩ := st
    obtain ⟨xs, hq, hx⟩ := hg
    obtain ⟨its, rv, p, hz⟩ := sqA_vals I hq
    obtain ⟨f0, f1, f2, f3, f4, f5⟩ := hf it (by simp)
    have hl := rv.length
    have hh : X.A.handled = none := I.ok.hd hc
    have hs : its.toArray.size = i := by simp; omega
    subst hs
    exact wpAny_pyNext_enum_endD (drawsA (prog := X.prog) (w := X.w) (A := X.A.in1) hh b it a hna its.toArray) he ⟨hit, p⟩ fun h' eb => ⟨rfl, I.turned (t' := s.toks) (fun d o hb q => eb d o hb q) f0 f1 f3 f4 f5⟩
  self := fun A i s Q E st h => let ⟨⟨_, he⟩, _⟩ := st; wpAny_pyIter_enum he h

/-! ### enumerate begins -/
theorem meets_enumerate_new1 {v : Value} {o : Obj} {H : Heap → Prop} (B : Begins v o H) :
    Meets (Builtin.«enumerate.__new__» ⟨[.type "enumerate", v], []⟩) (fun _ R s => H s.heap ∧
      R (.ok (.ret (.ref (s.heap.push o).objs.size))) { s with heap := (s.heap.push o).push { cls := .type "enumerate", data := .fields #[.none, .bool false, .ref s.heap.objs.size, rawInt 0, .none, .none] } }) :=
  .of_wp fun prog w A R s h => by
    obtain ⟨hp, g, d, tk, os⟩ := s; obtain ⟨h1, h⟩ := h
    have hsub := sub_enumerate
    have q1 : ∀ {A' : Around} {E : Value → Shared → Prop} {Q : Value → Shared → Prop}, Q (.ref hp.objs.size) ⟨hp.push o, g, d, tk, os⟩ → wpAny (model prog w) A' (pyIter v) Q E ⟨hp, g, d, tk, os⟩ :=
      fun q => B.iter prog w _ _ ⟨hp, g, d, tk, os⟩ _ h1 q
    wp_walk using q1
    refine wpAny_stack_any fun st => wpAny_pure ?_
    split
    · rename_i c _ _ _ _ _
      cases (c == Value.type "enumerate")
      · wp_walk using q1
        exact ⟨_, rfl, h⟩
      · wp_walk using q1
        exact ⟨_, rfl, h⟩
    · wp_walk using q1
      exact ⟨_, rfl, h⟩
section
variable {prog : Program} {w : World} {A : Around} {E : Value → Shared → Prop} {s : Shared}
theorem enum_begins1 {v : Value} {o : Obj} {H : Heap → Prop} {Q : Value → Shared → Prop} (B : Begins v o H) (h1 : H s.heap)
    (h : ∀ h', IsEnum h' (s.heap.objs.size + 1) s.heap.objs.size 0 .none → h'.get? s.heap.objs.size = some o → h'.objs.size = s.heap.objs.size + 2 →
      (∀ b o, s.heap.get? b = some o → h'.get? b = some o) → Q (.ref (s.heap.objs.size + 1)) { s with heap := h' }) :
    wpAny (model prog w) A (call (.type "enumerate") [v]) Q E s := by
  refine callType_new F.called_enumerate (by decide) (F.typeCall_enumerate_1 _) (F.newCall_enumerate_1 _) (fun obj => F.args_object_init_2 obj _) F.entry_enumerate_new
    (meets_enumerate_new1 B) ⟨h1, ?_⟩
  have hz : (s.heap.push o).objs.size = s.heap.objs.size + 1 := Heap.size_push ..
  show _ ∧ _
  rw [hz]
  have he : IsEnum ((s.heap.push o).push { cls := .type "enumerate", data := .fields #[.none, .bool false, .ref s.heap.objs.size, rawInt 0, .none, .none] }) (s.heap.objs.size + 1) s.heap.objs.size 0 .none := by
    have := Heap.get?_push_size (s.heap.push o) (o := { cls := .type "enumerate", data := .fields #[.none, .bool false, .ref s.heap.objs.size, rawInt 0, .none, .none] }) rfl
    rw [hz] at this; exact this
  refine ⟨⟨_, he, rfl⟩, h _ he (Heap.get?_push_of_some _ (Heap.get?_push_size _ B.free)) (by rw [Heap.size_push, hz]) fun b o x => Heap.get?_push_of_some _ (Heap.get?_push_of_some _ x)⟩
end
def itObj (b : Bool) (a : Addr) : Obj := if b then { cls := .type "tuple_iterator", data := .fields #[.ref a, .int 0 0] } else { cls := .type "list_iterator", data := .fields #[.ref a, .int 0 0] }
theorem begins_A (b : Bool) (a : Addr) (items : Array Value) : Begins (.ref a) (itObj b a) fun h => SeqIs h b a items := by
  cases b with
  | true => exact begins_tuple a items
  | false => exact begins_list a items
theorem iterAt_0 {h : Heap} {b : Bool} {it a : Addr} (e : h.get? it = some (itObj b a)) : IterAt h b it a 0 := by
  cases b with
  | true => exact ⟨_, e, rfl, rfl⟩
  | false => exact ⟨_, e, rfl, rfl⟩
def iEnumA (K : PySem.W.Frag) (ta : TA) : TI := fun σ H R => ta σ H fun vs H1 => ∃ b a xs, vs = [.ref a] ∧ SqA K H1 b a xs ∧ R (Its2 K b a 0) H1
def iEnumS (K : PySem.W.Frag) (ta : TA) : TI := fun σ H R => ta σ H fun vs H1 => ∃ b a xs c, vs = [.ref a, .int c] ∧ (-(2 ^ 63) ≤ c ∧ c < 2 ^ 63) ∧ SqA K H1 b a xs ∧ R (Its2 K b a c) H1
theorem enum_end {X : Cx} {pins : List (Addr × Obj)} {σ : L2.St} {H : Hp} {s1 : Shared} {b : Bool} {a : Addr} {xs : List V} {c : Int} {R : It → Hp → Prop} {elts : List Expr} {kk : Nat} {tpos : Pos} {h' : Heap}
    (I1 : Inv X pins σ H s1) (hq : SqA X.K H b a xs) (he : IsEnum h' (s1.heap.objs.size + 1) s1.heap.objs.size c .none) (hit : h'.get? s1.heap.objs.size = some (itObj b a)) (hk : ∀ b o, s1.heap.get? b = some o → h'.get? b = some o) (q : R (Its2 X.K b a c) H) :
    wpAny (model X.prog X.w) X.A (pyIter (.ref (s1.heap.objs.size + 1))) (PIE X pins σ (.Tuple elts kk tpos) R) X.xe { s1 with heap := h' } := by
  refine wpAny_pyIter_enum he ?_
  obtain ⟨its, rv, p, hlt⟩ := sqA_vals I1 hq
  have I2 : Inv X pins σ H { s1 with heap := h' } := I1.kept (t' := s1.toks) hk
  have he0 : IsEnum h' (s1.heap.objs.size + 1) s1.heap.objs.size (c + ((0 : Nat) : Int)) .none := by
    rw [show c + ((0 : Nat) : Int) = c by omega]; exact he
  refine ⟨s1.heap.objs.size + 1, [s1.heap.objs.size + 1, s1.heap.objs.size], _, _, H, rfl, I2, turn_enumA b c a (s1.heap.objs.size + 1) s1.heap.objs.size, ⟨⟨.none, he0⟩, iterAt_0 hit, Nat.succ_ne_self _, Nat.ne_of_lt hlt, Ne.symm (Nat.ne_of_lt (Nat.lt_succ_of_lt hlt))⟩, fun d hd => ?_, q⟩
  have e' : d = s1.heap.objs.size + 1 ∨ d = s1.heap.objs.size := by simpa using hd
  have hle : s1.heap.objs.size ≤ d := by
    rcases e' with z | z
    · rw [z]; exact Nat.le_add_right _ _
    · rw [z]; exact Nat.le_refl _
  exact I1.fpOk hle (I1.hok.fresh hle)
theorem pi_enumA {X : Cx} {e : Expr} {ta : TA} {p pos tpos : Pos} {elts : List Expr} {kk : Nat} (hg : Gl X "enumerate") (hm : X.mg "enumerate" = none) (ha : PA X [e] ta) (hs : starEach [e] X.env = [(false, eval e X.env)] := by rfl) :
    PI X (.Tuple elts kk tpos) (.Call (.Name "enumerate" p) [e] [] pos) (iEnumA X.K ta) := by
  refine ⟨fun pins s σ H R I h => ?_⟩
  refine Call_ (ld_blt I hg hm boot_enumerate (PyProof.Rows.callWith_type1 (thn (ha.run pos pins s σ H _ I h) fun us s1 ⟨vs, H1, I1, r1, q1⟩ => ?_) hs rfl))
  obtain ⟨b, a, xs, ex, hq, q⟩ := q1
  subst ex
  cases r1 with
  | cons r rr =>
    cases rr
    cases r
    obtain ⟨its, rv, p', hlt⟩ := sqA_vals I1 hq
    exact enum_begins1 (begins_A b a its.toArray) p' fun h' he hit hsz hk => enum_end I1 hq he hit hk q
theorem pi_enumS {X : Cx} {e e2 : Expr} {ta : TA} {p pos tpos : Pos} {elts : List Expr} {kk : Nat} (hg : Gl X "enumerate") (hm : X.mg "enumerate" = none) (ha : PA X [e, e2] ta) (hs : starEach [e, e2] X.env = (false, eval e X.env) :: starEach [e2] X.env := by rfl) (hpl : (backTo pos (starEach [e2] X.env)).any (·.1) = false := by rfl) :
    PI X (.Tuple elts kk tpos) (.Call (.Name "enumerate" p) [e, e2] [] pos) (iEnumS X.K ta) := by
  refine ⟨fun pins s σ H R I h => ?_⟩
  refine Call_ (ld_blt I hg hm boot_enumerate (PyProof.Rows.callWith_type1 (thn (ha.run pos pins s σ H _ I h) fun us s1 ⟨vs, H1, I1, r1, q1⟩ => ?_) hs hpl))
  obtain ⟨b, a, xs, c, ex, hc, hq, q⟩ := q1
  subst ex
  cases r1 with
  | cons r rr =>
    cases rr with
    | cons r' rr =>
      cases rr
      cases r
      obtain ⟨t, rfl⟩ := r'
      obtain ⟨its, rv, p', hlt⟩ := sqA_vals I1 hq
      exact enum_begins (begins_A b a its.toArray) p' hc.1 hc.2 fun h' he hit hsz hk => enum_end I1 hq he hit hk q

/-! ### the walks as data -/
theorem wk_list {K : PySem.W.Frag} {G : Hp} {a : Addr} {vs : List V} {xs : List PyData} (h : G a = some (.lst vs)) (r : RpAll K G vs xs) : Wk K G (Itl K a) xs := fun G2 H x e i => by
  have hh : SqL K H a vs := .inl (.inl (e _ _ (x _ _ h)))
  refine ⟨fun hi => ⟨?_, fun v H' hy => ?_⟩, fun hi => ⟨vs, hh, by rw [r.length]; omega⟩⟩
  · have hl : i < vs.length := by rw [r.length]; exact hi
    exact ⟨vs, vs[i], hh, List.getElem?_eq_getElem hl⟩
  · obtain ⟨rfl, hv⟩ := hy
    obtain ⟨d, h1, h2⟩ := r.getV (hv vs hh)
    exact ⟨G2, d, h1, .refl e, h2.mono x⟩
theorem wk_tup {K : PySem.W.Frag} {G : Hp} {a : Addr} {vs : List V} {xs : List PyData} (h : SqT K G a vs) (r : RpAll K G vs xs) : Wk K G (Itt K a) xs := fun G2 H x e i => by
  have hh : SqT K H a vs := e.st (x.st h)
  refine ⟨fun hi => ⟨?_, fun v H' hy => ?_⟩, fun hi => ⟨vs, hh, by rw [r.length]; omega⟩⟩
  · have hl : i < vs.length := by rw [r.length]; exact hi
    exact ⟨vs, vs[i], hh, List.getElem?_eq_getElem hl⟩
  · obtain ⟨rfl, hv⟩ := hy
    obtain ⟨d, h1, h2⟩ := r.getV (hv vs hh)
    exact ⟨G2, d, h1, .refl e, h2.mono x⟩
def rngD (lo : Int) (n : Nat) : List PyData := (List.range n).map fun i => .int (lo + (i : Nat))
theorem rngD_len (lo : Int) (n : Nat) : (rngD lo n).length = n := by simp [rngD]
theorem rngD_get (lo : Int) (n i : Nat) (h : i < n) : (rngD lo n)[i]? = some (.int (lo + (i : Nat))) := by simp [rngD, List.getElem?_map, List.getElem?_range h]
theorem wk_rng {K : PySem.W.Frag} {G : Hp} {lo : Int} {n : Nat} : Wk K G (Itr lo n) (rngD lo n) := fun G2 H x e i => by
  refine ⟨fun hi => ⟨by rw [rngD_len] at hi; exact hi, fun v H' hy => ?_⟩, fun hi => ?_⟩
  · obtain ⟨rfl, rfl⟩ := hy
    exact ⟨G2, _, rngD_get lo n i (by simpa [rngD_len] using hi), .refl e, .int _⟩
  · show n ≤ i
    rw [rngD_len] at hi; omega
def enumD : Int → List PyData → List PyData
  | _, [] => []
  | c, x :: xs => .tuple [.int c, x] :: enumD (c + 1) xs
theorem enumD_len : ∀ (c : Int) (xs : List PyData), (enumD c xs).length = xs.length
  | _, [] => rfl
  | c, x :: xs => by simp [enumD, enumD_len (c + 1) xs]
theorem enumD_get : ∀ (c : Int) (xs : List PyData) (i : Nat) (d : PyData), xs[i]? = some d → (enumD c xs)[i]? = some (.tuple [.int (c + (i : Nat)), d])
  | _, [], _, _, h => by simp at h
  | c, x :: xs, 0, d, h => by simp at h; subst h; simp [enumD]
  | c, x :: xs, i + 1, d, h => by
    have := enumD_get (c + 1) xs i d (by simpa using h)
    simp only [enumD, List.getElem?_cons_succ, this]
    have e : c + 1 + (i : Int) = c + ((i + 1 : Nat) : Int) := by omega
    rw [e]
theorem wk_enum {K : PySem.W.Frag} {G : Hp} {b : Bool} {a : Addr} {c : Int} {vs : List V} {xs : List PyData} (h : SqA K G b a vs) (hl : b = false → G a = some (.lst vs)) (r : RpAll K G vs xs) : Wk K G (Its2 K b a c) (enumD c xs) := fun G2 H x e i => by
  have hh : SqA K H b a vs := by
    cases b with
    | true => exact e.st (x.st h)
    | false => exact e.sl (x.sl h)
  refine ⟨fun hi => ⟨?_, fun v H' hy => ?_⟩, fun hi => ⟨vs, hh, by rw [r.length, hi, enumD_len]⟩⟩
  · have hl : i < vs.length := by rw [r.length]; simpa [enumD_len] using hi
    exact ⟨vs, vs[i], hh, List.getElem?_eq_getElem hl⟩
  · obtain ⟨T, y, rfl, hT, rfl, hv⟩ := hy
    obtain ⟨d, h1, h2⟩ := r.getV (hv vs hh)
    have px := PX.laid (o := .tup [.int (c + (i : Nat)), y]) e hT
    exact ⟨_, _, enumD_get c xs i d h1, px, .tup (.inl (.inl upd_same)) (.cons (.int _) (.cons ((h2.mono x).mono px.gg) .nil))⟩
def zipD : List PyData → List PyData → List PyData
  | x :: xs, y :: ys => .tuple [x, y] :: zipD xs ys
  | _, _ => []
theorem zipD_len : ∀ (xs ys : List PyData), (zipD xs ys).length = min xs.length ys.length
  | [], _ => by simp [zipD]
  | _ :: _, [] => by simp [zipD]
  | x :: xs, y :: ys => by simp [zipD, zipD_len xs ys]
theorem zipD_get : ∀ (xs ys : List PyData) (i : Nat) (x y : PyData), xs[i]? = some x → ys[i]? = some y → (zipD xs ys)[i]? = some (.tuple [x, y])
  | [], _, _, _, _, h, _ => by simp at h
  | _ :: _, [], _, _, _, _, h => by simp at h
  | x :: xs, y :: ys, 0, _, _, h, g => by simp at h g; subst h g; rfl
  | x :: xs, y :: ys, i + 1, u, v, h, g => by
    have := zipD_get xs ys i u v (by simpa using h) (by simpa using g)
    simpa [zipD] using this
theorem wk_zipL {K : PySem.W.Frag} {G : Hp} {a b : Addr} {vs ws : List V} {xs ys : List PyData} (h : G a = some (.lst vs)) (r : RpAll K G vs xs) (h2 : G b = some (.lst ws)) (r2 : RpAll K G ws ys) : Wk K G (Itz K a b) (zipD xs ys) := fun G2 H x e i => by
  have hh : SqL K H a vs := .inl (.inl (e _ _ (x _ _ h)))
  have hh2 : SqL K H b ws := .inl (.inl (e _ _ (x _ _ h2)))
  have l1 := r.length
  have l2 := r2.length
  rw [zipD_len]
  refine ⟨fun hi => ⟨?_, fun v H' hy => ?_⟩, fun hi => ⟨vs, ws, hh, hh2, by omega⟩⟩
  · have hl : i < vs.length := by omega
    have hl2 : i < ws.length := by omega
    exact ⟨vs, ws, vs[i], ws[i], hh, hh2, List.getElem?_eq_getElem hl, List.getElem?_eq_getElem hl2⟩
  · obtain ⟨T, y, z, rfl, hT, rfl, hv, hw⟩ := hy
    obtain ⟨d, h1, h2⟩ := r.getV (hv vs hh)
    obtain ⟨d2, h3, h4⟩ := r2.getV (hw ws hh2)
    have px := PX.laid (o := .tup [y, z]) e hT
    exact ⟨_, _, zipD_get xs ys i d d2 h1 h3, px, .tup (.inl (.inl upd_same)) (.cons ((h2.mono x).mono px.gg) (.cons ((h4.mono x).mono px.gg) .nil))⟩
theorem wk_zipT {K : PySem.W.Frag} {G : Hp} {a b : Addr} {vs ws : List V} {xs ys : List PyData} (h : SqT K G a vs) (r : RpAll K G vs xs) (h2 : SqT K G b ws) (r2 : RpAll K G ws ys) : Wk K G (RZ.ItzT K a b) (zipD xs ys) := fun G2 H x e i => by
  have hh : SqT K H a vs := e.st (x.st h)
  have hh2 : SqT K H b ws := e.st (x.st h2)
  have l1 := r.length
  have l2 := r2.length
  rw [zipD_len]
  refine ⟨fun hi => ⟨?_, fun v H' hy => ?_⟩, fun hi => ⟨vs, ws, hh, hh2, by omega⟩⟩
  · have hl : i < vs.length := by omega
    have hl2 : i < ws.length := by omega
    exact ⟨vs, ws, vs[i], ws[i], hh, hh2, List.getElem?_eq_getElem hl, List.getElem?_eq_getElem hl2⟩
  · obtain ⟨T, y, z, rfl, hT, rfl, hv, hw⟩ := hy
    obtain ⟨d, h1, h2⟩ := r.getV (hv vs hh)
    obtain ⟨d2, h3, h4⟩ := r2.getV (hw ws hh2)
    have px := PX.laid (o := .tup [y, z]) e hT
    exact ⟨_, _, zipD_get xs ys i d d2 h1 h3, px, .tup (.inl (.inl upd_same)) (.cons ((h2.mono x).mono px.gg) (.cons ((h4.mono x).mono px.gg) .nil))⟩

/-! ### the walks for the text -/
/-- a list or a tuple, gone through -/
def iSeq (K : PySem.W.Frag) (te : TE) : TI := fun σ H R => te σ H fun x H1 => ∃ b a xs, x = .ref a ∧ SqA K H1 b a xs ∧ R (if b then Itt K a else Itl K a) H1
theorem pi_seqA {X : Cx} {tg l : Expr} {tl : TE} (hl : PE X l tl) : PI X tg l (iSeq X.K tl) := by
  refine ⟨fun pins s σ H R I h => ?_⟩
  refine thn (hl.run pins s σ H _ I h) fun v s1 ⟨x, H1, I1, r1, q1⟩ => ?_
  obtain ⟨b, a, xs, e, hq, q⟩ := q1
  subst e
  cases r1
  have fresh : ∀ c, c ∈ [s1.heap.objs.size] → FpOk X pins H1 c := fun c hb => by
    have e : c = s1.heap.objs.size := by simpa using hb
    subst e
    exact I1.fpOk (Nat.le_refl _) (I1.hok.fresh (Nat.le_refl _))
  cases b with
  | true =>
    obtain ⟨its, rv, p, hz⟩ := I1.tuple hq
    refine wpAny_pyIter_tuple (show s1.heap.IsTuple a its.toArray from p) ?_
    exact ⟨s1.heap.objs.size, [s1.heap.objs.size], _, _, H1, rfl, I1.kept (t' := s1.toks) fun b o e => Heap.get?_push_of_some _ e, turn_tuple a _, ⟨_, Heap.get?_push_size _ rfl, rfl, rfl⟩, fresh, q⟩
  | false =>
    obtain ⟨its, rv, p, hz⟩ := I1.list hq
    refine wpAny_pyIter_list p.isList ?_
    exact ⟨s1.heap.objs.size, [s1.heap.objs.size], _, _, H1, rfl, I1.kept (t' := s1.toks) fun b o e => Heap.get?_push_of_some _ e, turn_list a _, ⟨_, Heap.get?_push_size _ rfl, rfl, rfl⟩, fresh, q⟩
def sSeqI (fd : DS) : LS := fun S => (fd S).bind fun p => (dItems p.1).map fun xs => (xs, p.2)
theorem dItems_some {x : PyData} {xs : List PyData} (h : dItems x = some xs) : x = .list xs ∨ x = .tuple xs := by
  cases x with
  | list c => cases h; exact .inl rfl
  | tuple c => cases h; exact .inr rfl
  | _ => cases h
section
variable {X : Cx} {K : PySem.W.Frag} {e e2 : Expr} {te : TE} {ta : TA} {fd : DS} {fs : AS} {tg : Expr} {p pos tpos : Pos} {elts : List Expr} {kk : Nat}
theorem sem_seqI (h : SemD K te fd) : SemI K (iSeq K te) (sSeqI fd) := fun F S σ H G xs S' r ef R k => by
  obtain ⟨⟨x, S1⟩, e1, e2⟩ := Option.bind_eq_some_iff.mp ef
  obtain ⟨ys, e3, e4⟩ := Option.map_eq_some_iff.mp e2
  cases e4
  refine h F S σ H G x _ r e1 _ fun v H1 G1 r1 g1 hv => ?_
  rcases dItems_some e3 with rfl | rfl
  · cases hv with
    | lst h1 h2 => exact ⟨false, _, _, rfl, .inl (.inl (r1.gh _ _ h1)), k _ H1 G1 r1 g1 (wk_list h1 h2)⟩
  · cases hv with
    | tup h1 h2 => exact ⟨true, _, _, rfl, r1.gh.st h1, k _ H1 G1 r1 g1 (wk_tup h1 h2)⟩
theorem si_seq (hK : X.K = K) (h : SDt X K e te fd) : SI X K tg e (iSeq K te) (sSeqI fd) := by subst hK; exact ⟨pi_seqA h.p, sem_seqI h.ok⟩
/-- the arguments, standing still -/
def sTakeA (f : AS) : List SD → Option (List PyData × List SD) := fun S => (f S).bind fun p => takeAll p.2 p.1
theorem take_A (h : SemA K ta fs) {F : Fr} {S S' : List SD} {σ : L2.St} {H G : Hp} {xs : List PyData} (r : SR K F S σ H G) (ef : sTakeA fs S = some (xs, S')) {Q : List V → Hp → Prop} (k : ∀ vs H' G', SR K F S' σ H' G' → Ex G G' → RpAll K G' vs xs → Q vs H') : ta σ H Q := by
  obtain ⟨⟨os, S1⟩, e1, e2⟩ := Option.bind_eq_some_iff.mp ef
  refine h F S σ H G os S1 r e1 _ fun vs H1 G1 r1 g1 h1 => ?_
  obtain ⟨G2, g2, r2, h2⟩ := takeAll_ok r1 h1 e2
  exact k vs H1 G2 r2 (g1.trans g2) h2
open Classical in
noncomputable def rngI : List PyData → Option (List PyData)
  | [.int j] => if -(2 ^ 62) ≤ j ∧ j < 2 ^ 62 then some (rngD 0 j.toNat) else none
  | [.int i, .int j] => if -(2 ^ 62) ≤ i ∧ i < 2 ^ 62 ∧ -(2 ^ 62) ≤ j ∧ j < 2 ^ 62 then some (rngD i (j - i).toNat) else none
  | _ => none
open Classical in
noncomputable def enumI : List PyData → Option (List PyData)
  | [x] => (dItems x).map (enumD 0)
  | [x, .int c] => if -(2 ^ 63) ≤ c ∧ c < 2 ^ 63 then (dItems x).map (enumD c) else none
  | _ => none
def zipI : List PyData → Option (List PyData)
  | [.list xs, .list ys] => some (zipD xs ys)
  | [.tuple xs, .tuple ys] => some (zipD xs ys)
  | _ => none
def sArgI (g : List PyData → Option (List PyData)) (f : AS) : LS := fun S => (sTakeA f S).bind fun p => (g p.1).map fun xs => (xs, p.2)
theorem sem_rng1 (h : SemA K ta fs) (hn : ∀ S p S', sTakeA fs S = some (p, S') → p.length = 1) : SemI K (iRng1 ta) (sArgI rngI fs) := fun F S σ H G xs S' r ef R k => by
  obtain ⟨⟨x, S1⟩, e1, e2⟩ := Option.bind_eq_some_iff.mp ef
  obtain ⟨ys, e3, e4⟩ := Option.map_eq_some_iff.mp e2
  cases e4
  have hl : x.length = _ := hn _ _ _ e1
  have e3 : rngI x = some _ := e3
  refine take_A h r e1 fun vs H1 G1 r1 g1 hv => ?_
  unfold rngI at e3
  split at e3
  · split at e3
    · rename_i hc
      cases e3
      cases hv with
      | cons hv t => cases t; cases hv; exact ⟨_, rfl, hc.1, hc.2, k _ H1 G1 r1 g1 wk_rng⟩
    · cases e3
  · simp at hl
  · cases e3
theorem sem_rng2 (h : SemA K ta fs) (hn : ∀ S p S', sTakeA fs S = some (p, S') → p.length = 2) : SemI K (iRng2 ta) (sArgI rngI fs) := fun F S σ H G xs S' r ef R k => by
  obtain ⟨⟨x, S1⟩, e1, e2⟩ := Option.bind_eq_some_iff.mp ef
  obtain ⟨ys, e3, e4⟩ := Option.map_eq_some_iff.mp e2
  cases e4
  have hl : x.length = _ := hn _ _ _ e1
  have e3 : rngI x = some _ := e3
  refine take_A h r e1 fun vs H1 G1 r1 g1 hv => ?_
  unfold rngI at e3
  split at e3
  · simp at hl
  · split at e3
    · rename_i hc
      cases e3
      cases hv with
      | cons hv t => cases t with
        | cons hv2 t => cases t; cases hv; cases hv2; exact ⟨_, _, rfl, hc, k _ H1 G1 r1 g1 wk_rng⟩
    · cases e3
  · cases e3
theorem rp_sqA {G H : Hp} {v : V} {x : PyData} {ds : List PyData} (h : Rp K G v x) (e : dItems x = some ds) (eg : Ex G H) : ∃ b a vs, v = .ref a ∧ SqA K G b a vs ∧ SqA K H b a vs ∧ (b = false → G a = some (.lst vs)) ∧ RpAll K G vs ds := by
  rcases dItems_some e with rfl | rfl
  · cases h with
    | lst h1 h2 => exact ⟨false, _, _, rfl, .inl (.inl h1), .inl (.inl (eg _ _ h1)), fun _ => h1, h2⟩
  · cases h with
    | tup h1 h2 => exact ⟨true, _, _, rfl, h1, eg.st h1, fun q => (by cases q), h2⟩
theorem sem_enumA (h : SemA K ta fs) (hn : ∀ S p S', sTakeA fs S = some (p, S') → p.length = 1) : SemI K (iEnumA K ta) (sArgI enumI fs) := fun F S σ H G xs S' r ef R k => by
  obtain ⟨⟨x, S1⟩, e1, e2⟩ := Option.bind_eq_some_iff.mp ef
  obtain ⟨ys, e3, e4⟩ := Option.map_eq_some_iff.mp e2
  cases e4
  have hl : x.length = _ := hn _ _ _ e1
  have e3 : enumI x = some _ := e3
  refine take_A h r e1 fun vs H1 G1 r1 g1 hv => ?_
  unfold enumI at e3
  split at e3
  · obtain ⟨ds, e5, e6⟩ := Option.map_eq_some_iff.mp e3
    cases e6
    cases hv with
    | cons hv t =>
      cases t
      obtain ⟨b, a, ws, rfl, q1, q2, q3, q4⟩ := rp_sqA hv e5 r1.gh
      exact ⟨b, a, ws, rfl, q2, k _ H1 G1 r1 g1 (wk_enum q1 q3 q4)⟩
  · simp at hl
  · cases e3
theorem sem_enumS (h : SemA K ta fs) (hn : ∀ S p S', sTakeA fs S = some (p, S') → p.length = 2) : SemI K (iEnumS K ta) (sArgI enumI fs) := fun F S σ H G xs S' r ef R k => by
  obtain ⟨⟨x, S1⟩, e1, e2⟩ := Option.bind_eq_some_iff.mp ef
  obtain ⟨ys, e3, e4⟩ := Option.map_eq_some_iff.mp e2
  cases e4
  have hl : x.length = _ := hn _ _ _ e1
  have e3 : enumI x = some _ := e3
  refine take_A h r e1 fun vs H1 G1 r1 g1 hv => ?_
  unfold enumI at e3
  split at e3
  · simp at hl
  · split at e3
    · rename_i hc
      obtain ⟨ds, e5, e6⟩ := Option.map_eq_some_iff.mp e3
      cases e6
      cases hv with
      | cons hv t => cases t with
        | cons hv2 t =>
          cases t
          obtain ⟨b, a, ws, rfl, q1, q2, q3, q4⟩ := rp_sqA hv e5 r1.gh
          cases hv2
          exact ⟨b, a, ws, _, rfl, hc, q2, k _ H1 G1 r1 g1 (wk_enum q1 q3 q4)⟩
    · cases e3
  · cases e3
theorem sem_zip (h : SemA K ta fs) : SemI K (RZ.iZipA K ta) (sArgI zipI fs) := fun F S σ H G xs S' r ef R k => by
  obtain ⟨⟨x, S1⟩, e1, e2⟩ := Option.bind_eq_some_iff.mp ef
  obtain ⟨ys, e3, e4⟩ := Option.map_eq_some_iff.mp e2
  cases e4
  have e3 : zipI x = some _ := e3
  refine take_A h r e1 fun vs H1 G1 r1 g1 hv => ?_
  unfold zipI at e3
  split at e3
  · cases e3
    cases hv with
    | cons hv t => cases t with
      | cons hv2 t =>
        cases t
        cases hv with
        | lst p1 p2 => cases hv2 with
          | lst q1 q2 => exact ⟨_, _, _, _, rfl, .inl ⟨.inl (.inl (r1.gh _ _ p1)), .inl (.inl (r1.gh _ _ q1)), k _ H1 G1 r1 g1 (wk_zipL p1 p2 q1 q2)⟩⟩
  · cases e3
    cases hv with
    | cons hv t => cases t with
      | cons hv2 t =>
        cases t
        cases hv with
        | tup p1 p2 => cases hv2 with
          | tup q1 q2 => exact ⟨_, _, _, _, rfl, .inr ⟨r1.gh.st p1, r1.gh.st q1, k _ H1 G1 r1 g1 (wk_zipT p1 p2 q1 q2)⟩⟩
  · cases e3
theorem takeAll_len : ∀ {os : List Op} {S S' : List SD} {xs : List PyData}, takeAll S os = some (xs, S') → xs.length = os.length
  | [], _, _, _, e => by cases e; rfl
  | o :: os, S, S', _, e => by
    unfold takeAll at e
    obtain ⟨⟨x, S1⟩, e1, e⟩ := Option.bind_eq_some_iff.mp e
    obtain ⟨⟨xs, S2⟩, e2, e3⟩ := Option.map_eq_some_iff.mp e
    cases e3
    simp [takeAll_len e2]
theorem len_cons {fe : ES} {n : Nat} (h : ∀ S p S', fs S = some (p, S') → p.length = n) : ∀ S p S', sCons fe fs S = some (p, S') → p.length = n + 1 := fun S p S' e => by
  obtain ⟨⟨o1, S1⟩, e1, e2⟩ := Option.bind_eq_some_iff.mp e
  obtain ⟨⟨o2, S2⟩, e3, e4⟩ := Option.map_eq_some_iff.mp e2
  cases e4
  simp [h _ _ _ e3]
theorem len_nil : ∀ S p S', sNil S = some (p, S') → p.length = 0 := fun S p S' e => by cases e; rfl
theorem len_take {n : Nat} (h : ∀ S p S', fs S = some (p, S') → p.length = n) : ∀ S p S', sTakeA fs S = some (p, S') → p.length = n := fun S p S' e => by
  obtain ⟨⟨os, S1⟩, e1, e2⟩ := Option.bind_eq_some_iff.mp e
  rw [takeAll_len e2, h _ _ _ e1]
theorem si_rng1 {a : Expr} {fe : ES} (hm : X.mg "range" = none) (ha : SA X K [a] ta (sCons fe sNil)) (hg : Gl X "range" := by rfl) (hs : starEach [a] X.env = [(false, eval a X.env)] := by rfl) : SI X K tg (.Call (.Name "range" p) [a] [] pos) (iRng1 ta) (sArgI rngI (sCons fe sNil)) :=
  ⟨pi_range1 hg hm ha.p hs, sem_rng1 ha.ok (len_take (len_cons len_nil))⟩
theorem si_rng2 {a b : Expr} {fe fe2 : ES} (hm : X.mg "range" = none) (ha : SA X K [a, b] ta (sCons fe (sCons fe2 sNil))) (hg : Gl X "range" := by rfl) (hs : starEach [a, b] X.env = [(false, eval a X.env), (false, eval b X.env)] := by rfl) (hs2 : starEach [b] X.env = [(false, eval b X.env)] := by rfl) :
    SI X K tg (.Call (.Name "range" p) [a, b] [] pos) (iRng2 ta) (sArgI rngI (sCons fe (sCons fe2 sNil))) :=
  ⟨pi_range2 hg hm ha.p hs hs2, sem_rng2 ha.ok (len_take (len_cons (len_cons len_nil)))⟩
theorem si_enum {fe : ES} (hK : X.K = K) (hm : X.mg "enumerate" = none) (ha : SA X K [e] ta (sCons fe sNil)) (hg : Gl X "enumerate" := by rfl) (hs : starEach [e] X.env = [(false, eval e X.env)] := by rfl) : SI X K (.Tuple elts kk tpos) (.Call (.Name "enumerate" p) [e] [] pos) (iEnumA K ta) (sArgI enumI (sCons fe sNil)) := by
  subst hK
  exact ⟨pi_enumA hg hm ha.p hs, sem_enumA ha.ok (len_take (len_cons len_nil))⟩
theorem si_enumS {fe fe2 : ES} (hK : X.K = K) (hm : X.mg "enumerate" = none) (ha : SA X K [e, e2] ta (sCons fe (sCons fe2 sNil))) (hg : Gl X "enumerate" := by rfl) (hs : starEach [e, e2] X.env = (false, eval e X.env) :: starEach [e2] X.env := by rfl) (hpl : (backTo pos (starEach [e2] X.env)).any (·.1) = false := by rfl) :
    SI X K (.Tuple elts kk tpos) (.Call (.Name "enumerate" p) [e, e2] [] pos) (iEnumS K ta) (sArgI enumI (sCons fe (sCons fe2 sNil))) := by
  subst hK
  exact ⟨pi_enumS hg hm ha.p hs hpl, sem_enumS ha.ok (len_take (len_cons (len_cons len_nil)))⟩
theorem si_zip (hK : X.K = K) (hm : X.mg "zip" = none) (ha : SA X K [e, e2] ta fs) (hg : Gl X "zip" := by rfl) (hs : starEach [e, e2] X.env = (false, eval e X.env) :: starEach [e2] X.env := by rfl) (hpl : (backTo pos (starEach [e2] X.env)).any (·.1) = false := by rfl) :
    SI X K (.Tuple elts kk tpos) (.Call (.Name "zip" p) [e, e2] [] pos) (RZ.iZipA K ta) (sArgI zipI fs) := by
  subst hK
  exact ⟨RZ.pi_zipA hg hm ha.p hs hpl, sem_zip ha.ok⟩
end
end DL

set_option Elab.async false
set_option linter.all false
set_option maxRecDepth 100000
set_option maxHeartbeats 4000000
/-! DL, part 8: slices. -/
namespace DL
open PySem PySem.Spec PyProof.Rows L2

/-! ### t[::-1] of a tuple -/
theorem adjust_rev (n : Nat) : Builtin.Slice.sliceAdjust none none (-1) (n : Int) = ((n : Int) - 1, -1) := by
  unfold Builtin.Slice.sliceAdjust
  simp
theorem places_rev (n : Nat) : Builtin.Slice.slicePlaces ((n : Int) - 1) (-1) (-1) = n := by
  unfold Builtin.Slice.slicePlaces
  simp
  split <;> omega
theorem pick_rev (xs : Array Value) : ((List.range xs.size).filterMap fun (m : Nat) => xs[(((xs.size : Int) - 1) + (m : Int) * (-1)).toNat]?).toArray = xs.toList.reverse.toArray := by
  congr 1
  apply List.ext_getElem?
  intro i
  have e : ((List.range xs.size).filterMap fun (m : Nat) => xs[(((xs.size : Int) - 1) + (m : Int) * (-1)).toNat]?) = (List.range xs.size).pmap (fun m h => xs[xs.size - 1 - m]'(by have : m < xs.size := h; omega)) (fun m h => List.mem_range.mp h) := by
    rw [List.pmap_eq_map_attach]
    have : ∀ (l : List Nat) (hl : ∀ m ∈ l, m < xs.size), (l.filterMap fun (m : Nat) => xs[(((xs.size : Int) - 1) + (m : Int) * (-1)).toNat]?) = l.attach.map (fun m => xs[xs.size - 1 - m.1]'(by have := hl m.1 m.2; omega)) := by
      intro l
      induction l with
      | nil => intro _; rfl
      | cons m l ih =>
        intro hl
        have hm := hl m (by simp)
        have e1 : (((xs.size : Int) - 1) + (m : Int) * (-1)).toNat = xs.size - 1 - m := by omega
        have e2 : xs[xs.size - 1 - m]? = some (xs[xs.size - 1 - m]'(by omega)) := Array.getElem?_eq_getElem (by omega)
        rw [List.filterMap_cons, e1, e2, List.attach_cons, List.map_cons, List.map_map]
        simp only [List.cons.injEq, true_and]
        rw [ih fun k hk => hl k (List.mem_cons_of_mem _ hk)]
        rfl
    exact this _ fun m h => List.mem_range.mp h
  rw [e, List.getElem?_pmap]
  by_cases hi : i < xs.size
  · rw [List.getElem?_reverse (by simpa using hi)]
    simp [List.getElem?_range hi, hi]
  · rw [List.getElem?_eq_none (l := xs.toList.reverse) (by simpa using Nat.le_of_not_lt hi), ← List.getElem?_pmap, List.getElem?_eq_none (by simpa using Nat.le_of_not_lt hi)]
section
variable {prog : Program} {w : World} {A : Around} {E : Value → Shared → Prop} {s : Shared}
open HT
theorem sliceApplied_rev {sl : Addr} {vl vu vs : Value} {n : Nat} {Q : Int × Int × Nat → Shared → Prop} (hs : s.heap.IsSliceOf sl vl vu vs) (pl : IsPart vl none) (pu : IsPart vu none) (ps : IsPart vs (some (-1)))
    (h : Q ((n : Int) - 1, -1, n) s) : wpAny (model prog w) A (Builtin.Slice.sliceApplied (.ref sl) (pure (n : Int))) Q E s := by
  obtain ⟨os, hos, hcs, hds⟩ := id hs
  unfold Builtin.Slice.sliceApplied Builtin.Slice.sliceFields
  refine wpAny_bind (wpAny_bind (wpAny_field hos hds (x := vl) rfl (wpAny_bind (wpAny_field hos hds (x := vu) rfl (wpAny_bind (wpAny_field hos hds (x := vs) rfl (wpAny_pure ?_)))))))
  refine wpAny_bind (slicePart_ ps ?_)
  show wpAny _ _ (if ((-1 : Int) == 0) = true then _ else _) _ _ s
  rw [if_neg (by decide)]
  refine wpAny_bind (slicePart_ pl (wpAny_bind (slicePart_ pu (wpAny_bind (wpAny_pure ?_)))))
  show wpAny _ _ (match Builtin.Slice.sliceAdjust none none (-1) (n : Int) with | (lo, hi) => pure (lo, (-1 : Int), Builtin.Slice.slicePlaces lo hi (-1))) _ _ s
  rw [adjust_rev n]
  show wpAny _ _ (pure (((n : Int) - 1), (-1 : Int), Builtin.Slice.slicePlaces ((n : Int) - 1) (-1) (-1))) _ _ s
  rw [places_rev]
  exact wpAny_pure h
theorem getItem_tuple_rev {t sl : Addr} {items : Array Value} {vl vu vs : Value} {Q : Value → Shared → Prop} (ht : IsTup s.heap t items) (hs : s.heap.IsSliceOf sl vl vu vs) (pl : IsPart vl none) (pu : IsPart vu none) (ps : IsPart vs (some (-1)))
    (h : Q (.ref s.heap.objs.size) { s with heap := s.heap.push { cls := .type "tuple", data := .seq items.toList.reverse.toArray } })
    (hsz : items.size ≤ sizeLine) : wpAny (model prog w) A (getItem (.ref t) (.ref sl)) Q E s := by
  have htake : sizeOk (.seq items.toList.reverse.toArray) := by
    show items.toList.reverse.toArray.size ≤ sizeLine
    rw [List.size_toArray, List.length_reverse, Array.length_toList]
    omega
  obtain ⟨os, hos, hcs, hds⟩ := id hs
  have hTs : s.TypeIs (.ref sl) "slice" := ⟨os, hos, hcs⟩
  unfold getItem
  try with_reducible refine wpAny_holding ?_
  first | refine wpAny_bind (wpAny_pure ?_) | skip
  refine wpAny_bind (wpAny_sequenceKey ht.typeIs (by decide) ?_)
  refine wpAny_bind (wpAny_callSpecial?_slot (name := Str.ofString "__getitem__") ht.typeIs PyProof.Rows.slot_tuple_getitem
    (wpAny_call_entry PyProof.Rows.slot_tuple_getitem ht.typeIs entry_tuple_getitem ?_ (args_tuple_getitem _ _)))
  show wpAny _ _ (Builtin.Tuple.tupleItemsOf (.ref t) >>= _) _ _ s
  refine wpAny_bind (tupleItemsOf_ ht ?_)
  refine wpAny_bind (wpAny_typeOf hTs ?_)
  rw [if_pos (by decide)]
  refine wpAny_bind (sliceApplied_rev hs pl pu ps ?_)
  have hno : ¬ ((((items.size : Int) - 1) == 0 && (-1 : Int) == 1 && items.size == items.size) = true) := by
    intro q
    rw [Bool.and_eq_true, Bool.and_eq_true] at q
    exact absurd q.1.2 (by decide)
  show wpAny _ _ (if (((items.size : Int) - 1) == 0 && (-1 : Int) == 1 && items.size == items.size) = true then _ else _) _ _ s
  rw [if_neg hno, pick_rev]
  first
    | exact wpAny_bind (m := Builtin.Tuple.tupleExact _) (wpAny_newObj_type (wpAny_pure ⟨_, rfl, wpAny_pure h⟩) htake)
    | exact wpAny_bind (m := Builtin.Tuple.tupleExact _) (wpAny_newObj_type (wpAny_bind (wpAny_pure (wpAny_pure ⟨_, rfl, wpAny_pure h⟩))) htake)
    | exact wpAny_bind (wpAny_bind (m := Builtin.Tuple.tupleExact _) (wpAny_newObj_type (wpAny_pure (wpAny_pure ⟨_, rfl, wpAny_pure h⟩)) htake))
    | exact wpAny_bind (wpAny_bind (m := Builtin.Tuple.tupleExact _) (wpAny_newObj_type (wpAny_pure ⟨_, rfl, wpAny_pure h⟩) htake))
end
/-- xs[::-1], a list or a tuple -/
def tRevA (K : PySem.W.Frag) (te : TE) : TE := fun σ H Q => te σ H fun x H1 => ∃ a xs, x = .ref a ∧ ((SqL K H1 a xs ∧ ∀ p, H1 p = none → Q (.ref p) (upd H1 p (.lst xs.reverse))) ∨ (SqT K H1 a xs ∧ ∀ p, H1 p = none → Q (.ref p) (upd H1 p (.tup xs.reverse))))
theorem pe_revA {X : Cx} {e : Expr} {te : TE} {k : Nat} {p1 p2 p3 pos : Pos} (he : PE X e te) : PE X (.Subscript e (.Slice none none (some (.UnaryOp .USub (.Constant (.int 1) k p1) p2)) p3) pos) (tRevA X.K te) := by
  refine ⟨fun pins s σ H Q I h => ?_⟩
  refine Subscript_ (thn (he.run pins s σ H _ I h) fun v s1 ⟨x, H1, I1, r1, q1⟩ => ?_)
  obtain ⟨a, xs, ex, q⟩ := q1
  subst ex
  cases r1
  have hst : PO X (some (.UnaryOp .USub (.Constant (.int 1) k p1) p2)) (tPart (tUn (rU fun i => .int (-i)) (tC (.int 1)))) := po_some (pe_un un_neg pe_int)
  refine wpAny_Slice (thn (po_none.run pins s1 σ H1 (fun o H2 => o = none ∧ H2 = H1) I1 ⟨rfl, rfl⟩) fun vl s2 ⟨l, H2, I2, pl, el, e2⟩ => ?_)
  subst el e2
  refine thn (po_none.run pins s2 σ H2 (fun o H3 => o = none ∧ H3 = H2) I2 ⟨rfl, rfl⟩) fun vu s3 ⟨u, H3, I3, pu, eu, e3⟩ => ?_
  subst eu e3
  refine thn (hst.run pins s3 σ H3 (fun o H4 => o = some (-1) ∧ H4 = H3) I3 ⟨1, rfl, -1, rfl, rfl, rfl⟩) fun vs s4 ⟨o, H4, I4, ps, eo, e4⟩ => ?_
  subst eo e4
  have I5 : Inv X pins σ H4 { s4 with heap := s4.heap.push { cls := .type "slice", data := .fields #[vl, vu, vs] } } := I4.kept (t' := s4.toks) fun b ob q => Heap.get?_push_of_some _ q
  show wpAny (model X.prog X.w) X.A (subscriptTail e (.Slice none none (some (.UnaryOp .USub (.Constant (.int 1) k p1) p2)) p3) (.ref a) (.ref s4.heap.objs.size)) (EP X pins σ Q) X.xe { s4 with heap := s4.heap.push { cls := .type "slice", data := .fields #[vl, vu, vs] } }
  rcases q with ⟨hx, q⟩ | ⟨hx, q⟩
  · obtain ⟨its, r, ht, hz⟩ := I5.list hx
    have hlen := r.length
    refine tail_any (ops := [.ref a, .ref s4.heap.objs.size]) ht.isList.typeIs (PySem.slot_list_getitem.lookup) ?_ (by with_unfolding_all rfl)
    refine wpAny_getItem_list_slice ht.isList (Heap.IsSliceOf.new _ vl vu vs) pl pu ps (by decide) ?_ (by rw [List.size_toArray]; omega)
    rw [PySem.W.krv_pick]
    refine ⟨.ref _, _, I5.laid (t' := s4.toks) (o := .lst xs.reverse) (fun b ob q => Heap.get?_push_of_some _ q) (Nat.le_refl _) ?_, rfl, q _ (I5.hok.fresh (Nat.le_refl _))⟩
    exact ⟨by rw [List.length_reverse]; exact hz, _, 0, r.reverse, Heap.get?_push_size _ rfl⟩
  · obtain ⟨its, r, ht, hz⟩ := I5.tuple hx
    have hlen := r.length
    refine tail_any (ops := [.ref a, .ref s4.heap.objs.size]) ht.typeIs PyProof.Rows.slot_tuple_getitem.lookup ?_ (by with_unfolding_all rfl)
    refine getItem_tuple_rev ht (Heap.IsSliceOf.new _ vl vu vs) pl pu ps ?_ (by rw [List.size_toArray]; omega)
    rw [show its.toArray.toList = its from rfl]
    refine ⟨.ref _, _, I5.laid (t' := s4.toks) (o := .tup xs.reverse) (fun b ob q => Heap.get?_push_of_some _ q) (Nat.le_refl _) ?_, rfl, q _ (I5.hok.fresh (Nat.le_refl _))⟩
    exact ⟨by rw [List.length_reverse]; exact hz, _, r.reverse, IsTup.new _ _⟩

/-! ### slices over data -/
abbrev OS := List SD → Option (Option Int × List SD)
def SemO (K : PySem.W.Frag) (t : TO) (f : OS) : Prop := ∀ F S σ H G o S', SR K F S σ H G → f S = some (o, S') → ∀ Q : Option Int → Hp → Prop, (∀ H' G', SR K F S' σ H' G' → Ex G G' → Q o H') → t σ H Q
structure SO (X : Cx) (K : PySem.W.Frag) (e : Option Expr) (t : TO) (f : OS) : Prop where
  p : PO X e t
  ok : SemO K t f
def sNoPart : OS := fun S => some (none, S)
def dIntO : PyData → Option Int
  | .int i => some i
  | _ => none
theorem dIntO_some {x : PyData} {i : Int} (h : dIntO x = some i) : x = .int i := by
  cases x with
  | int j => cases h; rfl
  | _ => cases h
def sPart (f : ES) : OS := fun S => (f S).bind fun p => (p.1.get p.2).bind fun x => (dIntO x).map fun i => (some i, p.2)
section
variable {X : Cx} {K : PySem.W.Frag} {e : Expr} {te : TE} {fe : ES} {lo hi : Option Expr} {tl th : TO} {fl fh : OS} {pos p2 : Pos}
theorem sem_noPart : SemO K tNoPart sNoPart := fun F S σ H G o S' r ef Q k => by
  cases ef
  exact k H G r (.refl _)
theorem sem_part (h : SemE K te fe) : SemO K (tPart te) (sPart fe) := fun F S σ H G o S' r ef Q k => by
  obtain ⟨⟨o1, S1⟩, e1, ef⟩ := Option.bind_eq_some_iff.mp ef
  obtain ⟨x, e2, ef⟩ := Option.bind_eq_some_iff.mp ef
  obtain ⟨i, e3, ef⟩ := Option.map_eq_some_iff.mp ef
  cases ef
  have hx := dIntO_some e3
  subst hx
  refine h F S σ H G o1 _ r e1 _ fun v H1 G1 r1 g1 h1 => ?_
  have := op_get r1 h1 e2
  exact ⟨i, this.int, k H1 G1 r1 g1⟩
theorem so_none : SO X K none tNoPart sNoPart := ⟨po_none, sem_noPart⟩
theorem so_some (h : SE X K e te fe) : SO X K (some e) (tPart te) (sPart fe) := ⟨po_some h.p, sem_part h.ok⟩
def cutD (xs : List PyData) (lo hi : Option Int) : List PyData := (xs.drop (HT.sIx xs.length 0 lo)).take (HT.sIx xs.length xs.length hi - HT.sIx xs.length 0 lo)
theorem RpAll.cut {G : Hp} {vs : List V} {xs : List PyData} (h : RpAll K G vs xs) (lo hi : Option Int) : RpAll K G (cutV vs lo hi) (cutD xs lo hi) := by
  unfold cutV cutD
  rw [h.length]
  exact (h.drop _).take _
def dCut (x : PyData) (lo hi : Option Int) : Option PyData := match x with
  | .tuple xs => some (.tuple (cutD xs lo hi))
  | .list xs => some (.list (cutD xs lo hi))
  | _ => none
def dCutL (x : PyData) (lo hi : Option Int) : Option (List PyData) := match x with
  | .list xs => some (cutD xs lo hi)
  | _ => none
def rSl2 (K : PySem.W.Frag) : V → Option Int → Option Int → Hp → VK → Prop := fun x lo hi H Q => rSlA K x lo hi H Q ∨ rSlL K x lo hi H Q
theorem sl_2 (hK : X.K = K) : SlR X (rSl2 K) := by subst hK; exact sl_tupA.or sl_list
def sSlice (fe : ES) (fl fh : OS) : ES := fun S => (fe S).bind fun p => (fl p.2).bind fun q => (fh q.2).bind fun r => (p.1.get r.2).bind fun x => (dCut x q.1 r.1).map fun z => (.dat z, r.2)
def sSliceL (fe : ES) (fl fh : OS) : LS := fun S => (fe S).bind fun p => (fl p.2).bind fun q => (fh q.2).bind fun r => (p.1.get r.2).bind fun x => (dCutL x q.1 r.1).map fun z => (z, r.2)
theorem whole_cut {xs : List V} {lo hi : Option Int} (h : HT.sIx xs.length 0 lo = 0 ∧ HT.sIx xs.length xs.length hi = xs.length) : cutV xs lo hi = xs := by
  unfold cutV
  rw [h.1, h.2]
  simp
theorem sem_slice (ha : SemE K te fe) (h1 : SemO K tl fl) (h2 : SemO K th fh) : SemE K (tSl (rSl2 K) te tl th) (sSlice fe fl fh) := fun F S σ H G o S' r ef Q k => by
  obtain ⟨⟨o1, S1⟩, e1, ef⟩ := Option.bind_eq_some_iff.mp ef
  obtain ⟨⟨l, S2⟩, e2, ef⟩ := Option.bind_eq_some_iff.mp ef
  obtain ⟨⟨u, S3⟩, e3, ef⟩ := Option.bind_eq_some_iff.mp ef
  obtain ⟨x, e4, ef⟩ := Option.bind_eq_some_iff.mp ef
  obtain ⟨z, e5, ef⟩ := Option.map_eq_some_iff.mp ef
  cases ef
  refine ha F S σ H G o1 S1 r e1 _ fun v H1 G1 r1 g1 q1 => ?_
  refine h1 F S1 σ H1 G1 l S2 r1 e2 _ fun H2 G2 r2 g2 => ?_
  refine h2 F S2 σ H2 G2 u _ r2 e3 _ fun H3 G3 r3 g3 => ?_
  have g := (g1.trans g2).trans g3
  have hx := op_get r3 (q1.mono (g2.trans g3)) e4
  cases x with
  | tuple xs =>
    cases e5
    have hR : Rp K G3 v (.tuple xs) := by
      rcases hx with h | ⟨_, _, _, h, _⟩
      · exact h
      · cases h
    cases hR with
    | @tup a vs _ ht ha =>
      refine .inl ⟨_, _, rfl, r3.gh.st ht, fun hw => k _ H3 G3 r3 g ?_, fun hw p hp => ?_⟩
      · have h2 := ha.cut l u
        rw [whole_cut hw] at h2
        exact .tup ht h2
      · have px := PX.laid (o := .tup (cutV vs l u)) r3.gh hp
        exact k _ _ _ (r3.ext px) (g.trans px.gg) (.tup (.inl (.inl upd_same)) ((ha.cut l u).mono px.gg))
  | list xs =>
    cases e5
    obtain ⟨a, vs, rfl, q2, q3⟩ := hx.lst r3.gh
    refine .inr ⟨a, vs, rfl, .inl (.inl q2), fun p hp => ?_⟩
    have px := PX.laid (o := .lst (cutV vs l u)) r3.gh hp
    exact k _ _ _ (r3.ext px) (g.trans px.gg) (.lst upd_same ((q3.cut l u).mono px.gg))
  | _ => cases e5
theorem sem_sliceL (ha : SemE K te fe) (h1 : SemO K tl fl) (h2 : SemO K th fh) : SemL K (tSl (rSl2 K) te tl th) (sSliceL fe fl fh) := fun F S σ H G o S' r ef Q k => by
  obtain ⟨⟨o1, S1⟩, e1, ef⟩ := Option.bind_eq_some_iff.mp ef
  obtain ⟨⟨l, S2⟩, e2, ef⟩ := Option.bind_eq_some_iff.mp ef
  obtain ⟨⟨u, S3⟩, e3, ef⟩ := Option.bind_eq_some_iff.mp ef
  obtain ⟨x, e4, ef⟩ := Option.bind_eq_some_iff.mp ef
  obtain ⟨z, e5, ef⟩ := Option.map_eq_some_iff.mp ef
  cases ef
  refine ha F S σ H G o1 S1 r e1 _ fun v H1 G1 r1 g1 q1 => ?_
  refine h1 F S1 σ H1 G1 l S2 r1 e2 _ fun H2 G2 r2 g2 => ?_
  refine h2 F S2 σ H2 G2 u _ r2 e3 _ fun H3 G3 r3 g3 => ?_
  have g := (g1.trans g2).trans g3
  have hx := op_get r3 (q1.mono (g2.trans g3)) e4
  cases x with
  | list xs =>
    cases e5
    obtain ⟨a, vs, rfl, q2, q3⟩ := hx.lst r3.gh
    refine .inr ⟨a, vs, rfl, .inl (.inl q2), fun p hp => ?_⟩
    obtain ⟨f0, fg, fa⟩ := r3.fresh hp
    have px := PX.side (o := .lst (cutV vs l u)) r3.gh hp
    exact k _ _ _ _ (r3.ext px) g f0 fg fa upd_same (q3.cut l u)
  | _ => cases e5
theorem se_slice (hK : X.K = K) (he : SE X K e te fe) (h1 : SO X K lo tl fl) (h2 : SO X K hi th fh) : SE X K (.Subscript e (.Slice lo hi none p2) pos) (tSl (rSl2 K) te tl th) (sSlice fe fl fh) := ⟨pe_slice (sl_2 hK) he.p h1.p h2.p, sem_slice he.ok h1.ok h2.ok⟩
theorem sl_slice (hK : X.K = K) (he : SE X K e te fe) (h1 : SO X K lo tl fl) (h2 : SO X K hi th fh) : SL X K (.Subscript e (.Slice lo hi none p2) pos) (tSl (rSl2 K) te tl th) (sSliceL fe fl fh) := ⟨pe_slice (sl_2 hK) he.p h1.p h2.p, sem_sliceL he.ok h1.ok h2.ok⟩
def dRev : PyData → Option PyData
  | .tuple xs => some (.tuple xs.reverse)
  | .list xs => some (.list xs.reverse)
  | _ => none
theorem sem_rev (ha : SemE K te fe) : SemE K (tRevA K te) (sUn dRev fe) := fun F S σ H G o S' r ef Q k => by
  obtain ⟨⟨o1, S1⟩, e1, ef⟩ := Option.bind_eq_some_iff.mp ef
  obtain ⟨x, e4, ef⟩ := Option.bind_eq_some_iff.mp ef
  obtain ⟨z, e5, ef⟩ := Option.map_eq_some_iff.mp ef
  cases ef
  refine ha F S σ H G o1 _ r e1 _ fun v H3 G3 r3 g q1 => ?_
  have hx := op_get r3 q1 e4
  cases x with
  | tuple xs =>
    cases e5
    obtain ⟨a, vs, rfl, q2, q3⟩ := hx.tup r3.gh
    refine ⟨a, vs, rfl, .inr ⟨q2, fun p hp => ?_⟩⟩
    have px := PX.laid (o := .tup vs.reverse) r3.gh hp
    exact k _ _ _ (r3.ext px) (g.trans px.gg) (.tup (.inl (.inl upd_same)) (q3.reverse.mono px.gg))
  | list xs =>
    cases e5
    obtain ⟨a, vs, rfl, q2, q3⟩ := hx.lst r3.gh
    refine ⟨a, vs, rfl, .inl ⟨.inl (.inl q2), fun p hp => ?_⟩⟩
    have px := PX.laid (o := .lst vs.reverse) r3.gh hp
    exact k _ _ _ (r3.ext px) (g.trans px.gg) (.lst upd_same (q3.reverse.mono px.gg))
  | _ => cases e5
theorem se_rev {kk : Nat} {p1 p3 p4 : Pos} (hK : X.K = K) (he : SE X K e te fe) : SE X K (.Subscript e (.Slice none none (some (.UnaryOp .USub (.Constant (.int 1) kk p1) p3)) p4) pos) (tRevA K te) (sUn dRev fe) := by
  subst hK
  exact ⟨pe_revA he.p, sem_rev he.ok⟩
end
end DL

set_option Elab.async false
set_option linter.all false
set_option maxRecDepth 100000
set_option maxHeartbeats 4000000
/-! DL, part 9: t * k of any kind, sorted(set(t)), repr. -/
namespace DL
open PySem PySem.Spec PyProof.Rows L2

theorem tuple_mulS (l : Addr) (items : Array Value) (n : Nat) (dd : Option Addr) (sl : Array (Option Value)) (x : Int) (u : Tok) (c0 : (decide (x < -(2 ^ 63)) || decide (x ≥ 2 ^ 63)) = false) (c1 : (items.isEmpty || x == 1) = true) :
    Meets (Builtin.«tuple.__mul__» ⟨[.ref l, .int x u], []⟩) (fun _ R s => s.heap.get? l = some { cls := .type "tuple", dict := dd, data := .seq items n, slots := sl } ∧
      R (.ok (.ret (Value.ref l))) s) :=
  .of_wp fun prog w A R s h => by
    obtain ⟨hp, g, d, tk, os⟩ := s
    obtain ⟨hl, h⟩ := h
    have f1 := AutoSeq1.idx_int
    wp_walk using wpAny_loadPart' hl
    repeat (first
      | (refine wpAny_ite_false (decide_eq_false (by rw [c0]; exact Bool.false_ne_true)) ?_; wp_walk using wpAny_loadPart' hl)
      | (refine wpAny_ite_true (decide_eq_true c1) ?_; wp_walk using wpAny_loadPart' hl))
    exact ⟨_, rfl, h⟩
theorem tuple_mulE (l : Addr) (items : Array Value) (n : Nat) (dd : Option Addr) (sl : Array (Option Value)) (x : Int) (u : Tok) (c0 : (decide (x < -(2 ^ 63)) || decide (x ≥ 2 ^ 63)) = false) (c1 : (items.isEmpty || x == 1) = false) (c2 : (decide (x ≤ 0) || items.isEmpty) = true) :
    Meets (Builtin.«tuple.__mul__» ⟨[.ref l, .int x u], []⟩) (fun _ R s => s.heap.get? l = some { cls := .type "tuple", dict := dd, data := .seq items n, slots := sl } ∧
      R (.ok (.ret (Value.ref s.heap.objs.size))) { s with heap := s.heap.push { cls := Value.type "tuple", data := Data.seq #[] }, toks := s.toks }) :=
  .of_wp fun prog w A R s h => by
    obtain ⟨hp, g, d, tk, os⟩ := s
    obtain ⟨hl, h⟩ := h
    have f1 := AutoSeq1.idx_int
    wp_walk using wpAny_loadPart' hl
    repeat (first
      | (refine wpAny_ite_false (decide_eq_false (by rw [c0]; exact Bool.false_ne_true)) ?_; wp_walk using wpAny_loadPart' hl)
      | (refine wpAny_ite_false (decide_eq_false (by rw [c1]; exact Bool.false_ne_true)) ?_; wp_walk using wpAny_loadPart' hl)
      | (refine wpAny_ite_true (decide_eq_true c2) ?_; wp_walk using wpAny_loadPart' hl))
    exact ⟨_, rfl, h⟩

def rRepS (K : PySem.W.Frag) : R2 := fun x y H Q => ∃ l k xs, x = .ref l ∧ y = .int k ∧ SqT K H l xs ∧ -(2 ^ 62) ≤ k ∧ k < 2 ^ 62 ∧ (xs = [] ∨ k = 1) ∧ Q (.ref l) H
def rRepE (K : PySem.W.Frag) : R2 := fun x y H Q => ∃ l k xs, x = .ref l ∧ y = .int k ∧ SqT K H l xs ∧ -(2 ^ 62) ≤ k ∧ k ≤ 0 ∧ xs ≠ [] ∧ ∀ p, H p = none → Q (.ref p) (upd H p (.tup []))
section
variable {X : Cx} {K : PySem.W.Frag}
theorem op_repS : L2.OpR X (binaryOp .Mult) (rRepS X.K) := by
  intro pins s σ H x y v u Q I rx ry h
  obtain ⟨l, k, xs, rfl, rfl, hT, h1, h2, h3, q⟩ := h
  cases rx
  obtain ⟨t, rfl⟩ := ry
  obtain ⟨its, r, ⟨⟨cls, dd, data, sl⟩, ho, hc, n, hd⟩, hs⟩ := I.tuple hT
  simp only at hc hd
  subst hc hd
  have hle : its.length = xs.length := r.length.symm
  have c0 : (decide (k < -(2 ^ 63)) || decide (k ≥ 2 ^ 63)) = false := by
    rw [decide_eq_false (by omega), decide_eq_false (by omega)] <;> rfl
  have c1 : (its.toArray.isEmpty || k == 1) = true := by
    rcases h3 with h3 | h3
    · subst h3
      have : its = [] := List.eq_nil_of_length_eq_zero (by simpa using hle)
      subst this; rfl
    · subst h3; simp
  exact wpAny_binaryOp_repeat_ref (T := "tuple") (U := "int") (by decide) ⟨_, ho, rfl⟩ (fun s' => typeIs_int s' k t) noFill_tuple_mul F.fills_int_mul F.slot_int_rmul repeat_tuple F.slot_int_index.lookup
    (call_meets F.slot_int_rmul (typeIs_int s k t) F.entry_int_rmul (F.args_int_rmul_2 _ _) (int_rmul_tuple k t l its.toArray n dd sl)
      ⟨ho, rfl, ⟨_, ho, rfl⟩, call_meets F.slot_tuple_mul ⟨_, ho, rfl⟩ F.entry_tuple_mul (F.args_tuple_mul_2 _ _) (tuple_mulS l its.toArray n dd sl k t c0 c1) ⟨ho, .ref l, H, I, rfl, q⟩⟩)
theorem op_repE : L2.OpR X (binaryOp .Mult) (rRepE X.K) := by
  intro pins s σ H x y v u Q I rx ry h
  obtain ⟨l, k, xs, rfl, rfl, hT, h1, h2, h3, q⟩ := h
  cases rx
  obtain ⟨t, rfl⟩ := ry
  obtain ⟨its, r, ⟨⟨cls, dd, data, sl⟩, ho, hc, n, hd⟩, hs⟩ := I.tuple hT
  simp only at hc hd
  subst hc hd
  have hle : its.length = xs.length := r.length.symm
  have hi : its.toArray.isEmpty = false := by
    cases its with
    | nil => exact absurd (List.eq_nil_of_length_eq_zero hle.symm) h3
    | cons a b => rfl
  have c0 : (decide (k < -(2 ^ 63)) || decide (k ≥ 2 ^ 63)) = false := by
    rw [decide_eq_false (by omega), decide_eq_false (by omega)] <;> rfl
  have c1 : (its.toArray.isEmpty || k == 1) = false := by
    rw [hi, Bool.false_or]
    exact beq_eq_false_iff_ne.mpr (by omega)
  have c2 : (decide (k ≤ 0) || its.toArray.isEmpty) = true := by
    rw [hi, Bool.or_false]
    exact decide_eq_true h2
  refine wpAny_binaryOp_repeat_ref (T := "tuple") (U := "int") (by decide) ⟨_, ho, rfl⟩ (fun s' => typeIs_int s' k t) noFill_tuple_mul F.fills_int_mul F.slot_int_rmul repeat_tuple F.slot_int_index.lookup
    (call_meets F.slot_int_rmul (typeIs_int s k t) F.entry_int_rmul (F.args_int_rmul_2 _ _) (int_rmul_tuple k t l its.toArray n dd sl)
      ⟨ho, rfl, ⟨_, ho, rfl⟩, call_meets F.slot_tuple_mul ⟨_, ho, rfl⟩ F.entry_tuple_mul (F.args_tuple_mul_2 _ _) (tuple_mulE l its.toArray n dd sl k t c0 c1 c2) ⟨ho, ?_⟩⟩)
  refine ⟨.ref s.heap.objs.size, _, I.laid (t' := s.toks) (o := .tup []) (fun b ob q => Heap.get?_push_of_some _ q) (Nat.le_refl _) ?_, rfl, q _ (I.hok.fresh (Nat.le_refl _))⟩
  exact ⟨by show 0 ≤ sizeLine; decide, [], .nil, IsTup.new _ _⟩
/-- x * k: ints, a tuple or a list by an int -/
noncomputable def dMulX (x y : PyData) : Option PyData := match x, y with
  | .int i, .int j => if CMul i j then some (.int (i * j)) else none
  | .tuple xs, .int k => if -1000 ≤ k ∧ k ≤ 1000 ∧ xs.length ≤ 1000 then some (.tuple (List.replicate k.toNat xs).flatten) else none
  | .list xs, .int k => if 0 ≤ k ∧ k ≤ 1000 ∧ xs.length ≤ 1000 then some (.list (List.replicate k.toNat xs).flatten) else none
  | _, _ => none
def rMulX (K : PySem.W.Frag) : R2 := fun x y H Q => rMulA K x y H Q ∨ rRepS K x y H Q ∨ rRepE K x y H Q
theorem opMulX (hK : X.K = K) : L2.OpR X (binaryOp .Mult) (rMulX K) := by subst hK; exact (opMul rfl).or (op_repS.or op_repE)
theorem vMulX : V2 K (rMulX K) dMulX := fun G H v w x y z e rx ry q Q k => by
  have old : ∀ z', dMul x y = some z' → (z' = z) → rMulX K v w H Q := fun z' h1 h2 => .inl (vMul G H v w x y z' e rx ry h1 Q (by rw [h2]; exact k))
  unfold dMulX at q
  split at q
  · exact old _ q rfl
  · rename_i xs j
    split at q
    · rename_i hc
      cases q
      have hR : Rp K G v (.tuple xs) := by
        rcases rx with h | ⟨_, _, _, h, _⟩
        · exact h
        · cases h
      cases hR with
      | tup ht ha =>
        have hj : w = .int j := ry.int
        subst hj
        by_cases h0 : xs = []
        · subst h0
          cases ha
          refine .inr (.inl ⟨_, j, [], rfl, rfl, e.st ht, by omega, by omega, .inl rfl, k _ H G (.refl e) (.tup ht ?_)⟩)
          have : ∀ n : Nat, (List.replicate n ([] : List PyData)).flatten = [] := fun n => by induction n with
            | zero => rfl
            | succ n ih => rw [List.replicate_succ, List.flatten_cons, ih]; rfl
          rw [this]; exact .nil
        · by_cases h1 : j = 1
          · subst h1
            refine .inr (.inl ⟨_, 1, _, rfl, rfl, e.st ht, by omega, by omega, .inr rfl, k _ H G (.refl e) (.tup ht ?_)⟩)
            have : (List.replicate (1 : Int).toNat xs).flatten = xs := by simp
            rw [this]; exact ha
          · by_cases h2 : 2 ≤ j
            · exact old _ (by unfold dMul; simp only; rw [if_pos ⟨h0, h2, hc.2.1, hc.2.2⟩]) rfl
            · refine .inr (.inr ⟨_, j, _, rfl, rfl, e.st ht, by omega, by omega, fun q => h0 ?_, fun p hp => ?_⟩)
              · have := ha.length; rw [q] at this; exact List.eq_nil_of_length_eq_zero this.symm
              · have px := PX.laid (o := .tup []) e hp
                refine k _ _ _ px (.tup (.inl (.inl upd_same)) ?_)
                have : j.toNat = 0 := by omega
                rw [this]; exact .nil
    · cases q
  · exact old _ q rfl
  · cases q

def insU (x : Int) : List Int → List Int
  | [] => [x]
  | y :: r => if x < y then x :: y :: r else if x = y then y :: r else y :: insU x r
def setI : List Int → List Int
  | [] => []
  | x :: r => insU x (setI r)
theorem insU_mem (x k : Int) : ∀ l : List Int, k ∈ insU x l ↔ k = x ∨ k ∈ l
  | [] => by simp [insU]
  | y :: r => by
    unfold insU
    split
    · simp
    · split
      · rename_i h; subst h
        simp
      · simp only [List.mem_cons, insU_mem x k r]
        constructor
        · rintro (h | h | h)
          · exact .inr (.inl h)
          · exact .inl h
          · exact .inr (.inr h)
        · rintro (h | h | h)
          · exact .inr (.inl h)
          · exact .inl h
          · exact .inr (.inr h)
theorem setI_mem (k : Int) : ∀ l : List Int, k ∈ setI l ↔ k ∈ l
  | [] => by simp [setI]
  | x :: r => by
    show k ∈ insU x (setI r) ↔ _
    rw [insU_mem, setI_mem k r, List.mem_cons]
theorem insU_sorted (x : Int) : ∀ l : List Int, l.Pairwise (· < ·) → (insU x l).Pairwise (· < ·)
  | [], _ => by simp [insU]
  | y :: r, h => by
    have h' := List.pairwise_cons.mp h
    unfold insU
    split
    · rename_i hxy
      refine List.pairwise_cons.mpr ⟨fun z hz => ?_, h⟩
      rcases List.mem_cons.mp hz with rfl | hz
      · exact hxy
      · exact Int.lt_trans hxy (h'.1 z hz)
    · split
      · exact h
      · rename_i hxy hne
        refine List.pairwise_cons.mpr ⟨fun z hz => ?_, insU_sorted x r h'.2⟩
        rcases (insU_mem x z r).mp hz with rfl | hz
        · omega
        · exact h'.1 z hz
theorem setI_sorted : ∀ l : List Int, (setI l).Pairwise (· < ·)
  | [] => .nil
  | x :: r => insU_sorted x _ (setI_sorted r)
theorem strict_unique : ∀ {l m : List Int}, l.Pairwise (· < ·) → m.Pairwise (· < ·) → (∀ k, k ∈ l ↔ k ∈ m) → l = m
  | [], [], _, _, _ => rfl
  | [], y :: m, _, _, h => by have := (h y).mpr (by simp); simp at this
  | x :: l, [], _, _, h => by have := (h x).mp (by simp); simp at this
  | x :: l, y :: m, h1, h2, h => by
    have a := List.pairwise_cons.mp h1
    have b := List.pairwise_cons.mp h2
    have e : x = y := by
      have m1 : x ∈ y :: m := (h x).mp (by simp)
      have m2 : y ∈ x :: l := (h y).mpr (by simp)
      rcases List.mem_cons.mp m1 with q | q
      · exact q
      · rcases List.mem_cons.mp m2 with q' | q'
        · exact q'.symm
        · have := b.1 x q
          have := a.1 y q'
          omega
    subst e
    rw [strict_unique a.2 b.2 fun k => ?_]
    constructor
    · intro hk
      rcases List.mem_cons.mp ((h k).mp (List.mem_cons_of_mem _ hk)) with rfl | q
      · have := a.1 k hk; omega
      · exact q
    · intro hk
      rcases List.mem_cons.mp ((h k).mpr (List.mem_cons_of_mem _ hk)) with rfl | q
      · have := b.1 k hk; omega
      · exact q

theorem insU_len (x : Int) : ∀ l : List Int, x ∉ l → (insU x l).length = l.length + 1
  | [], _ => rfl
  | y :: r, h => by
    have hy : x ≠ y := fun e => h (by simp [e])
    have hr : x ∉ r := fun e => h (List.mem_cons_of_mem _ e)
    unfold insU
    by_cases h1 : x < y
    · rw [if_pos h1]; rfl
    · rw [if_neg h1, if_neg hy]
      simp [insU_len x r hr]
theorem setI_len : ∀ l : List Int, l.Nodup → (setI l).length = l.length
  | [], _ => rfl
  | x :: r, h => by
    have h' := List.nodup_cons.mp h
    show (insU x (setI r)).length = _
    rw [insU_len x (setI r) fun e => h'.1 ((setI_mem x r).mp e), setI_len r h'.2]
    rfl
theorem setI_count {l ns : List Int} (h : l.Nodup) (hm : ∀ k, k ∈ l ↔ k ∈ ns) : l.length = (setI ns).length := by
  rw [← setI_len l h, strict_unique (setI_sorted l) (setI_sorted ns) fun k => by rw [setI_mem, setI_mem, hm k]]
/-! ### sorted(set(x)) -/
def rSetI (w : World) (K : PySem.W.Frag) : List V → Hp → VK → Prop := fun vs H Q => ∃ (a : Addr) (ns : List Int), vs = [V.ref a] ∧ SqT K H a (ns.map V.int) ∧ ns.length ≤ 1000 ∧
  ∀ p : Addr, H p = none → Q (.ref p) (upd H p (SetO w p (fun j => decide (j ∈ ns)) (setI ns).length))
theorem cr_setI (hc : X.calm = true) : CallR X (.type "set") (rSetI X.w X.K) := by
  intro pins s σ H vs us Q I r h
  obtain ⟨a, ns, rfl, ha, hl, q⟩ := h
  rw [Vals.ref1 r]
  obtain ⟨its, rv, p, hz⟩ := I.tuple ha
  refine call_set_tupI ns (I.ok.hd hc) p (intsAre_of rv) (Nat.lt_of_le_of_lt (Nat.succ_le_succ hl) (by unfold scanBound; omega)) fun h' tk c hR hcn hk => ?_
  have hc2 : c = (setI ns).length := by
    obtain ⟨o, es, ep, t, _, _, _, _, nd, mem, _, _, hn, _⟩ := id hR
    have e := setI_count (ns := ns) nd fun k => by rw [← mem k]; simp
    rw [← e]; simp [hn]
  subst hc2
  exact ⟨.ref s.heap.objs.size, upd H s.heap.objs.size (SetO X.w s.heap.objs.size (fun j => decide (j ∈ ns)) (setI ns).length), I.laid (t' := tk) hk (Nat.le_refl _) (setO_new hR), rfl, q _ (I.hok.fresh (Nat.le_refl _))⟩
end
def dSetL : List PyData → Option (List PyData)
  | [.tuple xs] => (dInts xs).bind fun ns => if ns.length ≤ 1000 ∧ (setI ns).length < 64 then some ((setI ns).map .int) else none
  | _ => none
section
variable {X : Cx} {K : PySem.W.Frag} {e : Expr} {tA : TA} {fs : AS}
theorem sem_sortSet {w : World} (ha : SemA K tA fs) : SemL K (tCB (rSortedSet w) (tCons (tCB (rSetI w K) tA) tNil)) (sCBL dSetL fs) := by
  intro F S σ H G o S' r ef Q k
  obtain ⟨⟨os, S1⟩, e1, ef⟩ := Option.bind_eq_some_iff.mp ef
  obtain ⟨xs, e3, ef⟩ := Option.bind_eq_some_iff.mp ef
  obtain ⟨z, e5, ef⟩ := Option.map_eq_some_iff.mp ef
  cases ef
  refine ha F S σ H G os _ r e1 _ fun vs H1 G1 r1 g1 h1 => ?_
  have hv := ops_get r1 h1 e3
  unfold dSetL at e5
  split at e5
  · obtain ⟨ns, e6, e7⟩ := Option.bind_eq_some_iff.mp e5
    split at e7
    · rename_i hl
      cases e7
      cases hv with
      | cons rv t =>
        cases t
        obtain ⟨a, ws, rfl, q2, q3⟩ := rv.tup r1.gh
        have hx := dInts_some e6
        subst hx
        have hw := q3.ints
        subst hw
        refine ⟨a, ns, rfl, q2, hl.1, fun p hp => ?_⟩
        show rSortedSet w [V.ref p] _ Q
        refine ⟨p, _, (setI ns).length, rfl, upd_same, hl.2, fun ms q hs hm hlm hq => ?_⟩
        have hms : ms = setI ns := strict_unique hs (setI_sorted ns) fun k => by rw [hm k, setI_mem]; simp
        subst hms
        have p1 := PX.side (o := SetO w p (fun j => decide (j ∈ ns)) (setI ns).length) r1.gh hp
        have r2 := r1.ext p1
        obtain ⟨f0, fg, fa⟩ := r2.fresh hq
        have p2 := PX.side (o := .lst ((setI ns).map V.int)) r2.gh hq
        exact k q _ _ _ (r2.ext p2) g1 f0 fg fa upd_same (RpAll.of_ints _)
    · cases e7
  · cases e5
theorem sl_sortSet {p1 p2 q1 q2 : Pos} (hK : X.K = K) (hc : X.calm = true) (hm1 : X.mg "sorted" = none) (hm2 : X.mg "set" = none) (hb1 : bootBuiltins "sorted" = some (.builtin "sorted")) (hb2 : bootBuiltins "set" = some (.type "set")) (ha : SA X K [e] tA fs) (hg1 : Gl X "sorted" := by rfl) (hg2 : Gl X "set" := by rfl)
    (he : starEach [e] X.env = (false, eval e X.env) :: starEach [] X.env := by rfl) (hpl : (backTo q2 (starEach [] X.env)).any (·.1) = false := by rfl)
    (he2 : starEach [.Call (.Name "set" p2) [e] [] q2] X.env = (false, eval (.Call (.Name "set" p2) [e] [] q2) X.env) :: starEach [] X.env := by rfl) (hpl2 : (backTo q1 (starEach [] X.env)).any (·.1) = false := by rfl) :
    SL X K (.Call (.Name "sorted" p1) [.Call (.Name "set" p2) [e] [] q2] [] q1) (tCB (rSortedSet X.w) (tCons (tCB (rSetI X.w K) tA) tNil)) (sCBL dSetL fs) := by
  subst hK
  refine ⟨?_, sem_sortSet ha.ok⟩
  exact pe_callB (cr_sortedSet hc) hg1 hm1 hb1 (pa_cons (pe_callTy (cr_setI hc) hg2 hm2 hb2 ha.p (by decide) (by decide) he hpl) pa_nil he2) (by decide) (by decide) he2 hpl2
end

/-! ### repr -/
section
variable {X : Cx} {K : PySem.W.Frag} {pins : List (Addr × Obj)} {σ : L2.St} {H : Hp} {s : Shared}
mutual
theorem readsN (I : Inv X pins σ H s) : ∀ {d : PyData} {v : V} {u : Value}, Rp X.K H v d → d.hasDict = false → RelV v u → ∃ as, Reads s.heap u d as
  | _, _, _, .non, _, r => by cases r; exact ⟨_, Reads.none⟩
  | _, _, _, .bl b, _, r => by cases r; exact ⟨_, Reads.bool b⟩
  | _, _, _, .int i, _, r => by obtain ⟨t, rfl⟩ := r; exact ⟨_, Reads.int i t⟩
  | _, _, _, .str x, _, r => by obtain ⟨t, rfl⟩ := r; exact ⟨_, Reads.str x t⟩
  | _, _, _, .lst h1 ha, c, r => by
    cases r
    obtain ⟨its, rv, ⟨o, n, ho, hc, _, hd⟩, _⟩ := I.list (.inl (.inl h1))
    obtain ⟨as, hr⟩ := readsNA I ha (by simpa [PyData.hasDict] using c) rv
    exact ⟨_, Reads.list ho hc hd hr⟩
  | _, _, _, .tup h1 ha, c, r => by
    cases r
    obtain ⟨its, rv, ⟨o, ho, hc, n, hd⟩, _⟩ := I.tuple h1
    obtain ⟨as, hr⟩ := readsNA I ha (by simpa [PyData.hasDict] using c) rv
    exact ⟨_, Reads.tuple ho hc hd hr⟩
  | _, _, _, .dic _ _, c, r => by simp [PyData.hasDict] at c
  | _, _, _, .scr _ _, c, r => by simp [PyData.hasDict] at c
theorem readsNA (I : Inv X pins σ H s) : ∀ {ds : List PyData} {vs : List V} {us : List Value}, RpAll X.K H vs ds → PyData.hasDictAll ds = false → Vals vs us → ∃ as, ReadsAll s.heap us ds as
  | _, _, _, .nil, _, r => by cases r; exact ⟨_, ReadsAll.nil⟩
  | _, _, _, .cons h1 h2, c, r => by
    have c' := Bool.or_eq_false_iff.mp (show (_ || _) = false by simpa [PyData.hasDictAll] using c)
    cases r with
    | cons r1 r2 =>
      obtain ⟨as, q1⟩ := readsN I h1 c'.1 r1
      obtain ⟨bs, q2⟩ := readsNA I h2 c'.2 r2
      exact ⟨_, ReadsAll.cons q1 q2⟩
end
mutual
/-- empty dicts within tuples -/
def eDict : PyData → Bool
  | .none => true
  | .bool _ => true
  | .int _ => true
  | .str _ => true
  | .tuple xs => eDictAll xs
  | .dict kvs => kvs.isEmpty
  | .list _ => false
def eDictAll : List PyData → Bool
  | [] => true
  | x :: xs => eDict x && eDictAll xs
end
mutual
theorem readsE (I : Inv X pins σ H s) : ∀ {d : PyData} {v : V} {u : Value}, Rp X.K H v d → eDict d = true → RelV v u → ∃ as, Reads s.heap u d as ∧ sysModules ∉ as
  | _, _, _, .non, _, r => by cases r; exact ⟨_, Reads.none, by simp⟩
  | _, _, _, .bl b, _, r => by cases r; exact ⟨_, Reads.bool b, by simp⟩
  | _, _, _, .int i, _, r => by obtain ⟨t, rfl⟩ := r; exact ⟨_, Reads.int i t, by simp⟩
  | _, _, _, .str x, _, r => by obtain ⟨t, rfl⟩ := r; exact ⟨_, Reads.str x t, by simp⟩
  | _, _, _, .lst h1 ha, c, r => by simp [eDict] at c
  | _, _, _, .tup h1 ha, c, r => by
    cases r
    obtain ⟨its, rv, ⟨o, ho, hc, n, hd⟩, _⟩ := I.tuple h1
    obtain ⟨as, hr, hs⟩ := readsEA I ha (by simpa [eDict] using c) rv
    exact ⟨_, Reads.tuple ho hc hd hr, hs⟩
  | _, _, _, .dic h1 h2, c, r => by
    cases r
    cases h2 with
    | nil =>
      obtain ⟨z, hn, vs, rel, dd⟩ := dk_rd I.hok h1
      cases rel
      obtain ⟨o, es, ep, ho, hex, hd, hl⟩ := dd
      have he : es.toList = [] := by cases q : es.toList with
        | nil => rfl
        | cons e r => have := hl.2.1; rw [q] at this; cases this
      have hc : o.cls = .type "dict" := hex.1
      refine ⟨_, Reads.dict ho hc hd (as := []) (bs := []) (by rw [he]; exact .nil) (by rw [he]; exact .nil), ?_⟩
      intro q
      simp only [List.append_nil, List.mem_singleton] at q
      rw [← q] at hn
      simp at hn
    | cons _ _ => simp [eDict] at c
  | _, _, _, .scr _ _, c, r => by simp [eDict] at c
theorem readsEA (I : Inv X pins σ H s) : ∀ {ds : List PyData} {vs : List V} {us : List Value}, RpAll X.K H vs ds → eDictAll ds = true → Vals vs us → ∃ as, ReadsAll s.heap us ds as ∧ sysModules ∉ as
  | _, _, _, .nil, _, r => by cases r; exact ⟨_, ReadsAll.nil, by simp⟩
  | _, _, _, .cons h1 h2, c, r => by
    have c' := Bool.and_eq_true_iff.mp (show (_ && _) = true by simpa [eDictAll] using c)
    cases r with
    | cons r1 r2 =>
      obtain ⟨as, q1, z1⟩ := readsE I h1 c'.1 r1
      obtain ⟨bs, q2, z2⟩ := readsEA I h2 c'.2 r2
      exact ⟨_, ReadsAll.cons q1 q2, by simp [z1, z2]⟩
end
def reprOk (d : PyData) : Bool := (!d.hasDict || eDict d) && d.showable && decide (d.shown.length ≤ 1000000) && decide (d.depth ≤ 60)
def dRepr : List PyData → Option PyData
  | [x] => if reprOk x = true then some (.str x.shown) else none
  | _ => none
def rRepr (K : PySem.W.Frag) : List V → Hp → VK → Prop := fun xs H Q => ∃ v d, xs = [v] ∧ Rp K H v d ∧ reprOk d = true ∧ Q (.str d.shown) H
theorem crRepr (hK : X.K = K) (hg : X.A.guards = some []) {k : Nat} (hr : Room k X.A) : CallR X (.builtin "repr") (rRepr K) := by
  subst hK
  intro pins s σ H xs us Q I r h
  obtain ⟨v, d, rfl, hd, ok, q⟩ := h
  have ok : (((!d.hasDict || eDict d) && d.showable) && decide (d.shown.length ≤ 1000000) && decide (d.depth ≤ 60)) = true := ok
  rw [Bool.and_eq_true, Bool.and_eq_true, Bool.and_eq_true, decide_eq_true_eq, decide_eq_true_eq] at ok
  obtain ⟨⟨⟨o1, o2⟩, o3⟩, o4⟩ := ok
  have hu : X.A.units + (d.depth + 1) < cLine := by have := hr.units; omega
  have hsz : d.shown.length ≤ sizeLine := Nat.le_trans o3 (by decide)
  have hrd : ∀ u, RelV v u → ∃ as, Reads s.heap u d as ∧ (d.hasDict = true → sysModules ∉ as) := fun u ru => by
    by_cases hdc : d.hasDict = true
    · rw [hdc] at o1
      obtain ⟨as, h1, h2⟩ := readsE I hd (by simpa using o1) ru
      exact ⟨as, h1, fun _ => h2⟩
    · obtain ⟨as, h1⟩ := readsN I hd (by simpa using hdc) ru
      exact ⟨as, h1, fun z => absurd z hdc⟩
  cases r with
  | cons r t =>
    cases t
    obtain ⟨as, h1, h2⟩ := hrd _ r
    cases h1 with
    | none => exact PySem.P.repr_of_none ⟨.str _, H, I.tok _, ⟨_, rfl⟩, by simpa [PyData.shown] using q⟩
    | bool b => exact PySem.P.repr_of_bool ⟨.str _, H, I.tok _, ⟨_, rfl⟩, by simpa [PyData.shown] using q⟩
    | int i t => exact PySem.P.repr_of_int (by simpa [PyData.showable] using o2) ⟨.str _, H, I.tok _, ⟨_, rfl⟩, by simpa [PyData.shown] using q⟩
    | str x t => exact PySem.P.repr_of_str ⟨.str _, H, I.tok _, ⟨_, rfl⟩, by simpa [PyData.shown] using q⟩ (by simpa [PyData.shown] using hsz)
    | list a b c e => exact repr_of_reads' (.list a b c e) o2 h2 hg hu (fun _ _ z => z) (fun h' u tk hk => ⟨.str _, H, I.kept hk, ⟨_, rfl⟩, q⟩) hsz
    | tuple a b c e => exact repr_of_reads' (.tuple a b c e) o2 h2 hg hu (fun _ _ z => z) (fun h' u tk hk => ⟨.str _, H, I.kept hk, ⟨_, rfl⟩, q⟩) hsz
    | dict a b c e f => exact repr_of_reads' (.dict a b c e f) o2 h2 hg hu (fun _ _ z => z) (fun h' u tk hk => ⟨.str _, H, I.kept hk, ⟨_, rfl⟩, q⟩) hsz
theorem vRepr : VN K (rRepr K) dRepr := fun G H vs xs z e rs q Q k => by
  unfold dRepr at q
  split at q
  · split at q
    · rename_i hc
      cases q
      cases rs with
      | cons r t => cases t; exact ⟨_, _, rfl, r.rp e, hc, k _ H G (.refl e) (.str _)⟩
    · cases q
  · cases q
end
end DL

set_option Elab.async false
set_option linter.all false
set_option maxRecDepth 100000
set_option maxHeartbeats 4000000
/-! DL, part 10: methods of lists, stores, statements, comprehensions for the text. -/
namespace DL
open PySem PySem.Spec PyProof.Rows L2

/-! ### values of any kind -/
abbrev VS := List SD → Option (SD × List SD)
def SemV (K : PySem.W.Frag) (t : TE) (f : VS) : Prop := ∀ F S σ H G s S', SR K F S σ H G → f S = some (s, S') → ∀ Q : VK, (∀ v H' G', SR K F S' σ H' G' → Ex G G' → s ≠ .un → (∀ xs, s ≠ .own true xs) → ResR K F S' σ H' G' v s → Q v H') → t σ H Q
structure SV (X : Cx) (K : PySem.W.Frag) (e : Expr) (t : TE) (f : VS) : Prop where
  p : PE X e t
  ok : SemV K t f
def vD (fd : DS) : VS := fun S => (fd S).map fun p => (.d p.1, p.2)
def vL (fl : LS) : VS := fun S => (fl S).map fun p => (.own false p.1, p.2)
section
variable {K : PySem.W.Frag} {te ta : TE} {fd : DS} {fl : LS} {fv fw : VS} {F : Fr} {S S' : List SD} {σ σ' : L2.St} {H G H' G' : Hp} {X : Cx} {e : Expr}
theorem sem_vD (h : SemD K te fd) : SemV K te (vD fd) := fun F S σ H G s S' r ef Q k => by
  obtain ⟨⟨x, S1⟩, e1, e2⟩ := Option.map_eq_some_iff.mp ef
  cases e2
  exact h F S σ H G x _ r e1 Q fun v H1 G1 r1 g1 h1 => k v H1 G1 r1 g1 (by simp) (by simp) h1
theorem sem_vL (h : SemL K te fl) : SemV K te (vL fl) := fun F S σ H G s S' r ef Q k => by
  obtain ⟨⟨x, S1⟩, e1, e2⟩ := Option.map_eq_some_iff.mp ef
  cases e2
  exact h F S σ H G x _ r e1 Q fun p vs H1 G1 r1 g1 f0 fg fa hh ha => k (.ref p) H1 G1 r1 g1 (by simp) (by simp) ⟨p, vs, rfl, f0, fg, fa, hh, ha⟩
theorem sv_d (h : SDt X K e te fd) : SV X K e te (vD fd) := ⟨h.p, sem_vD h.ok⟩
theorem sv_l (h : SL X K e te fl) : SV X K e te (vL fl) := ⟨h.p, sem_vL h.ok⟩
theorem SR.setR (r : SR K F S σ H G) (i : Nat) {v : V} {s : SD} (n1 : s ≠ .un) (n2 : ∀ xs, s ≠ .own true xs) (h : ResR K F S σ H G v s) : SR K F (S.set i s) (σ.set i (some v)) H G := by
  cases s with
  | un => exact absurd rfl n1
  | d x => exact r.setD i h
  | own b xs =>
    cases b with
    | true => exact absurd rfl (n2 xs)
    | false =>
      obtain ⟨p, vs, rfl, f0, fg, fa, hh, ha⟩ := h
      exact r.setO i fg hh ha f0 fa
def sSetV (fv : VS) (i : Nat) : SSem := fun S => (fv S).map fun p => .nx (p.2.set i p.1)
theorem sem_setV {i : Nat} (h : SemV K te fv) : SemS K (tAsg te (gName i)) (sSetV fv i) := fun F S σ H G out r e D hD => by
  obtain ⟨⟨s, S1⟩, e1, e2⟩ := Option.map_eq_some_iff.mp e
  cases e2
  exact h F S σ H G s _ r e1 _ fun v H1 G1 r1 g1 n1 n2 hr => hD _ H1 G1 (r1.setR i n1 n2 hr) g1
def sRetVS (fv : VS) : SSem := fun S => (fv S).map fun p => .rt p.1 p.2
theorem sem_retVS (h : SemV K te fv) : SemS K (tRet te) (sRetVS fv) := fun F S σ H G out r e D hD => by
  obtain ⟨⟨s, S1⟩, e1, e2⟩ := Option.map_eq_some_iff.mp e
  cases e2
  refine h F S σ H G s _ r e1 _ fun v H1 G1 r1 g1 n1 n2 hr => hD v σ H1 G1 ?_ g1
  cases s with
  | un => exact absurd rfl n1
  | d x => exact r1.pushD hr
  | own b xs =>
    cases b with
    | true => exact absurd rfl (n2 xs)
    | false =>
      obtain ⟨p, vs, rfl, f0, fg, fa, hh, ha⟩ := hr
      exact r1.pushO f0 fg fa hh ha
/-! ### a, b = x, y -/
theorem wipe_nil (σ : L2.St) : wipe σ [] = σ := rfl
/-- the second value while the first one, new, lies aside -/
def asideV : SD → VS → VS
  | .own _ _, f => fun S => (f (borGo [] 0 S)).map fun p => (p.1, unbGo [] 0 S p.2)
  | _, f => f
theorem aside_ok {s1 : SD} {v : V} (n1 : s1 ≠ .un) (n2 : ∀ xs, s1 ≠ .own true xs) (h : SemV K ta fw) (r : SR K F S σ H G) (h1 : ResR K F S σ H G v s1) {s2 : SD} (ef : asideV s1 fw S = some (s2, S')) {Q : VK}
    (k : ∀ w H' G', SR K F S' σ H' G' → Ex G G' → s2 ≠ .un → (∀ xs, s2 ≠ .own true xs) → ResR K F S' σ H' G' v s1 → ResR K F S' σ H' G' w s2 → (∀ i j, i ≠ j → SR K F ((S'.set i s1).set j s2) ((σ.set i (some v)).set j (some w)) H' G') → Q w H') : ta σ H Q := by
  cases s1 with
  | un => exact absurd rfl n1
  | d x =>
    refine h F S σ H G s2 S' r ef Q fun w H1 G1 r1 g1 m1 m2 hr => ?_
    have hx : Rp K G1 v x := Rp.mono g1 h1
    refine k w H1 G1 r1 g1 m1 m2 hx hr fun i j hij => ?_
    have r2 := r1.setD i hx
    refine r2.setR j m1 m2 ?_
    cases s2 with
    | un => exact absurd rfl m1
    | d y => exact hr
    | own b ys =>
      cases b with
      | true => exact absurd rfl (m2 ys)
      | false =>
        obtain ⟨p, vs, rfl, f0, fg, fa, hh, ha⟩ := hr
        refine ⟨p, vs, rfl, f0, fg, fun m c zs q1 q2 => ?_, hh, ha⟩
        by_cases hm : i = m
        · subst hm
          by_cases hl : i < S'.length
          · rw [List.getElem?_set_self hl] at q1; cases q1
          · rw [List.getElem?_eq_none (by simpa using Nat.le_of_not_lt hl)] at q1; cases q1
        · rw [List.getElem?_set_ne hm] at q1 q2
          exact fa m c zs q1 q2
  | own b xs =>
    cases b with
    | true => exact absurd rfl (n2 xs)
    | false =>
      obtain ⟨p, vs, rfl, f0, fg, fa, hh, ha⟩ := h1
      obtain ⟨⟨s2', S2⟩, e1, e2⟩ := Option.map_eq_some_iff.mp ef
      have es2 : s2' = s2 := congrArg Prod.fst (Option.some.inj (congrArg some e2))
      have eS' : unbGo [] 0 S S2 = S' := congrArg Prod.snd e2
      subst es2 eS'
      have r' := r.sub []
      rw [wipe_nil] at r'
      refine h (Fr.blk [] S σ H G) _ σ H G s2' S2 r' e1 Q fun w H1 G1 r1 g1 m1 m2 hr => ?_
      obtain ⟨hD, gD⟩ := r.aside r1 hh fg fa
      have r2 := r.unsub r1
      have ap2 : Apart (unbGo [] 0 S S2) σ p := apart_unb fa
      have hr1 : ResR K F (unbGo [] 0 S S2) σ H1 G1 (.ref p) (.own false xs) := ⟨p, vs, rfl, f0, gD, ap2, hD, ha.mono g1⟩
      have r3 : ∀ i, SR K F ((unbGo [] 0 S S2).set i (.own false xs)) (σ.set i (some (.ref p))) H1 G1 := fun i => r2.setO i gD hD (ha.mono g1) f0 ap2
      cases s2' with
      | un => exact absurd rfl m1
      | d y => exact k w H1 G1 r2 g1 m1 m2 hr1 hr fun i j hij => (r3 i).setD j hr
      | own c ys =>
        cases c with
        | true => exact absurd rfl (m2 ys)
        | false =>
          obtain ⟨q, ws, rfl, z0, zg, za, zh, zz⟩ := hr
          have z0 : H q = none := z0
          have y0 : F.H0 q = none := by
            cases z : F.H0 q with
            | none => rfl
            | some o => exact absurd z0 (r.live q (by rw [z]; simp))
          have ya : Apart (unbGo [] 0 S S2) σ q := fun m c zs q1 q2 => by
            rcases unbGo_own [] S S2 0 m c zs q1 with ⟨hm, _⟩ | ⟨_, ⟨us, h1⟩, _⟩
            · simp at hm
            · obtain ⟨a, _, t1, _, t3, _⟩ := r.own m c us h1
              rw [q2] at t1; cases t1
              rw [z0] at t3; cases t3
          refine k (.ref q) H1 G1 r2 g1 m1 m2 hr1 ⟨q, ws, rfl, y0, zg, ya, zh, zz⟩ fun i j hij => ?_
          refine (r3 i).setO j zg zh zz y0 fun m c zs q1 q2 => ?_
          by_cases hm : i = m
          · subst hm
            by_cases hl : i < σ.length
            · rw [List.getElem?_set_self hl] at q2
              cases q2
              rw [hh] at z0; cases z0
            · rw [List.getElem?_eq_none (by simpa using Nat.le_of_not_lt hl)] at q2; cases q2
          · rw [List.getElem?_set_ne hm] at q1 q2
            exact ya m c zs q1 q2
def sPar (i j : Nat) (fv fw : VS) : SSem := fun S => (fv S).bind fun p => (asideV p.1 fw p.2).map fun q => .nx ((q.2.set i p.1).set j q.1)
theorem sem_par {i j : Nat} (hij : i ≠ j) (h1 : SemV K te fv) (h2 : SemV K ta fw) : SemS K (tPar i j (tCons te (tCons ta tNil))) (sPar i j fv fw) := fun F S σ H G out r e D hD => by
  obtain ⟨⟨s1, S1⟩, e1, e⟩ := Option.bind_eq_some_iff.mp e
  obtain ⟨⟨s2, S2⟩, e2, e3⟩ := Option.map_eq_some_iff.mp e
  cases e3
  refine h1 F S σ H G s1 S1 r e1 _ fun v H1 G1 r1 g1 n1 n2 hr => ?_
  refine aside_ok n1 n2 h2 r1 hr e2 fun w H2 G2 r2 g2 m1 m2 q1 q2 fin => ?_
  exact ⟨v, w, rfl, hD _ H2 G2 (fin i j hij) (g1.trans g2)⟩
/-- three data at once -/
def set3 (i j l : Nat) (S : List SD) : List PyData → Option Out
  | [x, y, z] => some (.nx (((S.set i (.d x)).set j (.d y)).set l (.d z)))
  | _ => none
def sPar3 (i j l : Nat) (fs : AS) : SSem := fun S => (sTakeA fs S).bind fun p => set3 i j l p.2 p.1
theorem sem_par3 {i j l : Nat} {tA : TA} {fs : AS} (h : SemA K tA fs) : SemS K (tPar3 i j l tA) (sPar3 i j l fs) := fun F S σ H G out r e D hD => by
  obtain ⟨⟨xs, S1⟩, e1, e⟩ := Option.bind_eq_some_iff.mp e
  refine take_A h r e1 fun vs H1 G1 r1 g1 hv => ?_
  have e : set3 i j l S1 xs = some out := e
  unfold set3 at e
  split at e
  · cases e
    cases hv with
    | cons a t => cases t with
      | cons b t => cases t with
        | cons c t =>
          cases t
          exact ⟨_, _, _, rfl, hD _ H1 G1 (((r1.setD i a).setD j b).setD l c) g1⟩
  · cases e
end

/-! ### methods of lists -/
/-- m(own list of slot i, the arguments): what comes out, what the list has become -/
def sMeth (i : Nat) (g : List PyData → List PyData → Option (PyData × List PyData)) (fs : AS) : ES := fun S => match S[i]? with
  | some (.own _ _) => (sTakeA fs S).bind fun p => match p.2[i]? with
    | some (.own b xs) => (g xs p.1).map fun z => (.dat z.1, p.2.set i (.own b z.2))
    | _ => none
  | _ => none
/-- a method's rule on values keeps to g -/
def VM (K : PySem.W.Frag) (r : V → List V → Hp → VK → Prop) (g : List PyData → List PyData → Option (PyData × List PyData)) : Prop :=
  ∀ (G H : Hp) (a : Addr) (us vs : List V) (xs ys zs : List PyData) (z : PyData), Ex G H → H a = some (.lst us) → G a = none → RpAll K G us xs → RpAll K G vs ys → g xs ys = some (z, zs) →
    ∀ Q : VK, (∀ u ws, RpAll K G ws zs → Rp K G u z → Q u (upd H a (.lst ws))) → r (.ref a) vs H Q
section
variable {K : PySem.W.Frag} {F : Fr} {S S' : List SD} {σ : L2.St} {H G : Hp} {r : V → List V → Hp → VK → Prop} {g : List PyData → List PyData → Option (PyData × List PyData)} {tA : TA} {fs : AS} {i : Nat}
theorem sem_meth (hr : VM K r g) (h : SemA K tA fs) : SemE K (tBM K "list" r (tVar i) tA) (sMeth i g fs) := fun F S σ H G o S' r0 ef Q k => by
  unfold sMeth at ef
  split at ef
  · rename_i b0 x0 e0
    obtain ⟨⟨ys, S1⟩, e1, ef⟩ := Option.bind_eq_some_iff.mp ef
    have ef : (match S1[i]? with
      | some (.own b xs) => (g xs ys).map fun z => (Op.dat z.1, S1.set i (.own b z.2))
      | _ => none) = some (o, S') := ef
    split at ef
    · rename_i b1 x1 e2
      obtain ⟨⟨z, zs⟩, e3, e4⟩ := Option.map_eq_some_iff.mp ef
      cases e4
      obtain ⟨a, us, q1, q2, q3, q4, _⟩ := r0.own i _ _ e0
      refine ⟨_, q1, .inl ⟨rfl, us, .inl (.inl q3)⟩, ?_⟩
      refine take_A h r0 e1 fun vs H1 G1 r1 g1 hv => ?_
      obtain ⟨a', us', p1, p2, p3, p4, _⟩ := r1.own i _ _ e2
      rw [q1] at p1
      cases p1
      refine hr G1 H1 a us' vs x1 ys zs z r1.gh p3 p2 p4 hv e3 Q fun u ws hw hu => ?_
      exact k u _ G1 (r1.write e2 q1 hw) g1 hu
    · cases ef
  · cases ef
theorem sem_meth0 (hr : VM K r g) : SemE K (tBM0 K "list" r (tVar i)) (sMeth i g sNil) := fun F S σ H G o S' r0 ef Q k => by
  unfold sMeth at ef
  split at ef
  · rename_i b0 x0 e0
    obtain ⟨⟨ys, S1⟩, e1, ef⟩ := Option.bind_eq_some_iff.mp ef
    have e1' : (([] : List PyData), S) = (ys, S1) := by
      have : some (([] : List PyData), S) = some (ys, S1) := e1
      exact Option.some.inj this
    cases e1'
    have ef : (match S[i]? with
      | some (.own b xs) => (g xs []).map fun z => (Op.dat z.1, S.set i (.own b z.2))
      | _ => none) = some (o, S') := ef
    rw [e0] at ef
    obtain ⟨⟨z, zs⟩, e3, e4⟩ := Option.map_eq_some_iff.mp ef
    cases e4
    obtain ⟨a, us, q1, q2, q3, q4, _⟩ := r0.own i _ _ e0
    refine ⟨_, q1, .inl ⟨rfl, us, .inl (.inl q3)⟩, ?_⟩
    exact hr G H a us [] x0 [] zs z r0.gh q3 q2 q4 .nil e3 Q fun u ws hw hu => k u _ G (r0.write e0 q1 hw) (.refl _) hu
  · cases ef
def mAppend : List PyData → List PyData → Option (PyData × List PyData)
  | xs, [y] => if xs.length < 100000 then some (.none, xs ++ [y]) else none
  | _, _ => none
theorem vAppend : VM K rAppend mAppend := fun G H a us vs xs ys zs z e h hg h1 h2 q Q k => by
  unfold mAppend at q
  split at q
  · split at q
    · rename_i hl
      cases q
      cases h2 with
      | cons r t => cases t; exact ⟨a, us, _, rfl, rfl, h, szl (by rw [h1.length]; exact hl), k _ _ (h1.append (.cons r .nil)) .non⟩
    · cases q
  · cases q
def mExtend : List PyData → List PyData → Option (PyData × List PyData)
  | xs, [.list ys] => if xs.length + ys.length ≤ 100000 then some (.none, xs ++ ys) else none
  | _, _ => none
theorem vExtend : VM K rExtend mExtend := fun G H a us vs xs ys zs z e h hg h1 h2 q Q k => by
  unfold mExtend at q
  split at q
  · split at q
    · rename_i hl
      cases q
      cases h2 with
      | cons r t =>
        cases t
        cases r with
        | lst p1 p2 => exact ⟨a, _, us, _, rfl, rfl, h, e _ _ p1, sz (by rw [h1.length, p2.length]; exact hl), k _ _ (h1.append p2) .non⟩
    · cases q
  · cases q
def mPop : List PyData → List PyData → Option (PyData × List PyData)
  | xs, [] => (xs[xs.length - 1]?).map fun y => (y, xs.dropLast)
  | xs, [.int i] => (ixN xs.length i).bind fun j => (xs[j]?).map fun y => (y, xs.eraseIdx j)
  | _, _ => none
theorem vPop0 : VM K rPop (fun xs ys => if ys.length = 0 then mPop xs ys else none) := fun G H a us vs xs ys zs z e h hg h1 h2 q Q k => by
  have q : (if ys.length = 0 then mPop xs ys else none) = some (z, zs) := q
  split at q
  · rename_i hl
    have : ys = [] := List.eq_nil_of_length_eq_zero hl
    subst this
    cases h2
    obtain ⟨y, q1, q2⟩ := Option.map_eq_some_iff.mp (show (xs[xs.length - 1]?).map (fun y => (y, xs.dropLast)) = some (z, zs) from q)
    cases q2
    obtain ⟨v, w1, w2⟩ := h1.get q1
    exact ⟨a, us, v, rfl, rfl, h, by rw [h1.length]; exact w1, k _ _ h1.dropLast w2⟩
  · cases q
theorem ixN_small {n : Nat} {i : Int} {j : Nat} (h : ixN n i = some j) (hn : n ≤ sizeLine) : seqIndex? i n = some j ∧ -(2 ^ 63) ≤ i ∧ i < 2 ^ 63 := by
  obtain ⟨h1, h2, h3, h4⟩ := ixN_seq h
  have h5 : (n : Int) < 2 ^ 63 := by
    have : sizeLine < 2 ^ 63 := by decide
    omega
  exact ⟨h1, by omega, by omega⟩
theorem vPopAt : VM K (fun x vs H Q => rPopAt x vs H Q) (fun xs ys => if xs.length ≤ 100000 ∧ ys.length = 1 then mPop xs ys else none) := fun G H a us vs xs ys zs z e h hg h1 h2 q Q k => by
  have q : (if xs.length ≤ 100000 ∧ ys.length = 1 then mPop xs ys else none) = some (z, zs) := q
  split at q
  · rename_i hl
    unfold mPop at q
    split at q
    · exact absurd hl.2 (by simp)
    · obtain ⟨j, q1, q2⟩ := Option.bind_eq_some_iff.mp q
      obtain ⟨y, q3, q4⟩ := Option.map_eq_some_iff.mp q2
      cases q4
      cases h2 with
      | cons r t =>
        cases t
        cases r
        obtain ⟨v, w1, w2⟩ := h1.get q3
        obtain ⟨s1, s2, s3⟩ := ixN_small q1 (sz hl.1)
        exact ⟨a, us, _, j, v, rfl, rfl, h, s2, s3, by rw [h1.length]; exact s1, w1, k _ _ (h1.eraseIdx j) w2⟩
    · cases q
  · cases q
end
/-- l.index(x) -/
def firstIx (d : PyData) : List PyData → Option Nat
  | [] => none
  | z :: r => if PyData.eqv z d = true then some 0 else (firstIx d r).map (· + 1)
theorem firstIx_ok {d : PyData} : ∀ {xs : List PyData} {j : Nat}, firstIx d xs = some j → (∃ z, xs[j]? = some z ∧ PyData.eqv z d = true) ∧ ∀ (m : Nat) (z : PyData), m < j → xs[m]? = some z → PyData.eqv z d = false
  | [], _, h => by cases h
  | z :: r, j, h => by
    unfold firstIx at h
    split at h
    · rename_i hz
      cases h
      exact ⟨⟨z, rfl, hz⟩, fun m _ hm => absurd hm (by omega)⟩
    · rename_i hz
      obtain ⟨k, h1, rfl⟩ := Option.map_eq_some_iff.mp h
      obtain ⟨⟨y, q1, q2⟩, q3⟩ := firstIx_ok h1
      refine ⟨⟨y, by simpa using q1, q2⟩, fun m z' hm hz' => ?_⟩
      cases m with
      | zero => simp at hz'; subst hz'; simpa using hz
      | succ m => exact q3 m z' (by omega) (by simpa using hz')
def dIndex (x y : PyData) : Option PyData := match x with
  | .list xs => if fitN 60 (.list xs) = true ∧ fitN 60 y = true then (firstIx y xs).map fun j => .int (j : Nat) else none
  | _ => none
def isList : PyData → Bool
  | .list _ => true
  | _ => false
def sIndex (fo fa : ES) : ES := fun S => (fo S).bind fun p => (p.1.get p.2).bind fun l => if isList l = true then (fa p.2).bind fun q => (p.1.get q.2).bind fun x => (q.1.get q.2).bind fun y => (dIndex x y).map fun z => (.dat z, q.2) else none
section
variable {K : PySem.W.Frag} {to ta : TE} {fo fa : ES}
theorem isList_some {x : PyData} (h : isList x = true) : ∃ xs, x = .list xs := by
  cases x with
  | list xs => exact ⟨xs, rfl⟩
  | _ => cases h
theorem sem_index (h1 : SemE K to fo) (h2 : SemE K ta fa) : SemE K (tBM K "list" (rIndexD K) to (tCons ta tNil)) (sIndex fo fa) := fun F S σ H G o S' r ef Q k => by
  obtain ⟨⟨o1, S1⟩, e1, ef⟩ := Option.bind_eq_some_iff.mp ef
  obtain ⟨l, e2, ef⟩ := Option.bind_eq_some_iff.mp ef
  have ef : (if isList l = true then (fa S1).bind fun q => (o1.get q.2).bind fun x => (q.1.get q.2).bind fun y => (dIndex x y).map fun z => (Op.dat z, q.2) else none) = some (o, S') := ef
  split at ef
  · rename_i hl
    obtain ⟨xs, rfl⟩ := isList_some hl
    obtain ⟨⟨o2, S2⟩, e3, ef⟩ := Option.bind_eq_some_iff.mp ef
    obtain ⟨x, e4, ef⟩ := Option.bind_eq_some_iff.mp ef
    obtain ⟨y, e5, ef⟩ := Option.bind_eq_some_iff.mp ef
    obtain ⟨z, e6, ef⟩ := Option.map_eq_some_iff.mp ef
    cases ef
    refine h1 F S σ H G o1 S1 r e1 _ fun v H1 G1 r1 g1 q1 => ?_
    obtain ⟨a, vs, rfl, p1, p2⟩ := (op_get r1 q1 e2).lst r1.gh
    refine ⟨.inl ⟨rfl, vs, .inl (.inl p1)⟩, ?_⟩
    refine h2 F S1 σ H1 G1 o2 _ r1 e3 _ fun w H2 G2 r2 g2 q2 => ?_
    show rIndexD K _ [w] H2 Q
    have hx := op_get r2 (q1.mono g2) e4
    have hy := op_get r2 q2 e5
    unfold dIndex at e6
    split at e6
    · split at e6
      · rename_i f
        obtain ⟨j, f1, f2⟩ := Option.map_eq_some_iff.mp e6
        cases f2
        obtain ⟨⟨z, z1, z2⟩, z3⟩ := firstIx_ok f1
        refine ⟨a, w, y, _, j, z, rfl, rfl, (hx.rp r2.gh).dp (fit_lay f.1), (hy.rp r2.gh).dp (fit_lay f.2), fit_shaped f.1, fit_shaped f.2, z1, z2, z3, k _ H2 G2 r2 (g1.trans g2) (.int _)⟩
      · cases e6
    · cases e6
  · cases ef
end
/-! ### a store -/
def setAt (i : Nat) (x : PyData) (k : Int) (S : List SD) : Option SD → Option (List SD)
  | some (.own b xs) => (ixN xs.length k).map fun j => S.set i (.own b (xs.set j x))
  | _ => none
def isOwnS : Option SD → Bool
  | some (.own _ _) => true
  | _ => false
theorem isOwnS_some {s : Option SD} (h : isOwnS s = true) : ∃ b xs, s = some (.own b xs) := by
  cases s with
  | none => cases h
  | some s => cases s with
    | own b xs => exact ⟨b, xs, rfl⟩
    | _ => cases h
def gsSub (i : Nat) (fi : ES) : GS := fun x S => if isOwnS (S[i]?) = true then (fi S).bind fun p => (p.1.get p.2).bind fun y => (dIntO y).bind fun k => setAt i x k p.2 (p.2[i]?) else none
theorem sem_gsub {K : PySem.W.Frag} {ti : TE} {fi : ES} {i : Nat} (h : SemE K ti fi) : SemG K (gSub (tVar i) ti rSetL) [] (gsSub i fi) := fun F S σ H G v x S' r hx e Q k => by
  have e : (if isOwnS (S[i]?) = true then (fi S).bind fun p => (p.1.get p.2).bind fun y => (dIntO y).bind fun k => setAt i x k p.2 (p.2[i]?) else none) = some S' := e
  split at e
  · rename_i ho
    obtain ⟨b0, x0, e0⟩ := isOwnS_some ho
    obtain ⟨a, us, t1, _⟩ := r.own i _ _ e0
    obtain ⟨⟨o1, S1⟩, e1, e⟩ := Option.bind_eq_some_iff.mp e
    obtain ⟨y, e2, e⟩ := Option.bind_eq_some_iff.mp e
    obtain ⟨n, e3, e⟩ := Option.bind_eq_some_iff.mp e
    have hy := dIntO_some e3
    subst hy
    have e : setAt i x n S1 (S1[i]?) = some S' := e
    cases e4 : S1[i]? with
    | none => rw [e4] at e; cases e
    | some sd =>
      rw [e4] at e
      cases sd with
      | own b xs =>
        obtain ⟨j, e5, e6⟩ := Option.map_eq_some_iff.mp e
        cases e6
        refine ⟨_, t1, ?_⟩
        refine h F S σ H G o1 S1 r e1 _ fun w H1 G1 r1 g1 q1 => ?_
        obtain ⟨a', us', p1, p2, p3, p4, _⟩ := r1.own i _ _ e4
        rw [t1] at p1
        cases p1
        refine ⟨a, us', n, j, rfl, (op_get r1 q1 e2).int, p3, by rw [p4.length]; exact e5, ?_⟩
        exact k σ _ G1 (r1.write e4 t1 (p4.set (hx.mono g1) j)) g1 (.refl _ _)
      | _ => cases e
  · cases e
end DL

set_option Elab.async false
set_option linter.all false
set_option maxRecDepth 100000
set_option maxHeartbeats 4000000
/-! DL, part 11: the rules for the text: methods, stores, statements, comprehensions. -/
namespace DL
open PySem PySem.Spec PyProof.Rows L2

section
variable {X : Cx} {K : PySem.W.Frag} {e o c : Expr} {es : List Expr} {pos apos cpos pos' : Pos} {te ta to ti : TE} {tt : TT} {tA : TA} {fe fa fo fi : ES} {fs : AS} {fl : LS} {fd : DS} {fv fw : VS} {fb : BS} {i j : Nat} {x y : Str}
theorem se_pv (i : Nat) {x : Str} {pos : Pos} (hN : X.N[i]? = some x := by rfl) (hv : Vis X.env.scope x := by first | exact .inl rfl | exact .inr (.inl rfl) | exact .inr (.inr rfl)) (hd : (x == ("__debug__" : Str)) = false := by decide) (hcd : (x == ("__classdict__" : Str)) = false := by decide) : SE X K (.Name x pos) (tVar i) (sVar i) := se_var (pe_var hN hv hd hcd)
/-! ### methods -/
theorem se_append (hK : X.K = K) (ho : SE X K o (tVar i) (sVar i)) (ha : SA X K [e] tA fs) (hbase : attributeBase o "append" X.env (eval o X.env) = eval o X.env := by rfl)
    (hfew : ((backTo cpos (starEach [e] X.env)).all (fun x => !x.1) && (backToKw cpos (keywordEach [] X.env)).all (fun x => x.1.isSome)
      && decide ([e].length + ([] : List Keyword).length + (if ([] : List Keyword).isEmpty then 0 else 1) < 30)) = true := by rfl)
    (hline : (apos.endLine == cpos.line) = true := by rfl) (hs : starEach [e] X.env = (false, eval e X.env) :: starEach [] X.env := by rfl) (hplain : (backTo cpos (starEach [] X.env)).any (·.1) = false := by rfl) :
    SE X K (.Call (.Attribute o "append" apos) [e] [] cpos) (tBM K "list" rAppend (tVar i) tA) (sMeth i mAppend fs) := by
  subst hK
  exact ⟨pe_bm PySem.F.plainAttrs_list PySem.F.slot_list_append PySem.F.type_list_append mt_append ho.p ha.p hbase hfew hline hs hplain, sem_meth vAppend ha.ok⟩
theorem se_extend (hK : X.K = K) (ho : SE X K o (tVar i) (sVar i)) (ha : SA X K [e] tA fs) (hbase : attributeBase o "extend" X.env (eval o X.env) = eval o X.env := by rfl)
    (hfew : ((backTo cpos (starEach [e] X.env)).all (fun x => !x.1) && (backToKw cpos (keywordEach [] X.env)).all (fun x => x.1.isSome)
      && decide ([e].length + ([] : List Keyword).length + (if ([] : List Keyword).isEmpty then 0 else 1) < 30)) = true := by rfl)
    (hline : (apos.endLine == cpos.line) = true := by rfl) (hs : starEach [e] X.env = (false, eval e X.env) :: starEach [] X.env := by rfl) (hplain : (backTo cpos (starEach [] X.env)).any (·.1) = false := by rfl) :
    SE X K (.Call (.Attribute o "extend" apos) [e] [] cpos) (tBM K "list" rExtend (tVar i) tA) (sMeth i mExtend fs) := by
  subst hK
  exact ⟨pe_bm PySem.F.plainAttrs_list PySem.F.slot_list_extend PySem.F.type_list_extend mt_extend ho.p ha.p hbase hfew hline hs hplain, sem_meth vExtend ha.ok⟩
def mPopAt : List PyData → List PyData → Option (PyData × List PyData) := fun xs ys => if xs.length ≤ 100000 ∧ ys.length = 1 then mPop xs ys else none
def mPop0 : List PyData → List PyData → Option (PyData × List PyData) := fun xs ys => if ys.length = 0 then mPop xs ys else none
theorem se_popAt (hK : X.K = K) (ho : SE X K o (tVar i) (sVar i)) (ha : SA X K [e] tA fs) (hbase : attributeBase o "pop" X.env (eval o X.env) = eval o X.env := by rfl)
    (hfew : ((backTo cpos (starEach [e] X.env)).all (fun x => !x.1) && (backToKw cpos (keywordEach [] X.env)).all (fun x => x.1.isSome)
      && decide ([e].length + ([] : List Keyword).length + (if ([] : List Keyword).isEmpty then 0 else 1) < 30)) = true := by rfl)
    (hline : (apos.endLine == cpos.line) = true := by rfl) (hs : starEach [e] X.env = (false, eval e X.env) :: starEach [] X.env := by rfl) (hplain : (backTo cpos (starEach [] X.env)).any (·.1) = false := by rfl) :
    SE X K (.Call (.Attribute o "pop" apos) [e] [] cpos) (tBM K "list" rPopAt (tVar i) tA) (sMeth i mPopAt fs) := by
  subst hK
  exact ⟨pe_bm PySem.F.plainAttrs_list PySem.F.slot_list_pop PySem.F.type_list_pop mt_popAt ho.p ha.p hbase hfew hline hs hplain, sem_meth vPopAt ha.ok⟩
theorem se_pop (hK : X.K = K) (ho : SE X K o (tVar i) (sVar i)) (hbase : attributeBase o "pop" X.env (eval o X.env) = eval o X.env := by rfl) (hline : (apos.endLine == cpos.line) = true := by rfl) :
    SE X K (.Call (.Attribute o "pop" apos) [] [] cpos) (tBM0 K "list" rPop (tVar i)) (sMeth i mPop0 sNil) := by
  subst hK
  exact ⟨pe_bm0 PySem.F.plainAttrs_list PySem.F.slot_list_pop PySem.F.type_list_pop mt_pop ho.p hbase hline, sem_meth0 vPop0⟩
theorem se_index (hK : X.K = K) {k : Nat} (hr : Room k X.A) (ho : SE X K o to fo) (ha : SE X K e ta fa) (hbase : attributeBase o "index" X.env (eval o X.env) = eval o X.env := by rfl)
    (hfew : ((backTo cpos (starEach [e] X.env)).all (fun x => !x.1) && (backToKw cpos (keywordEach [] X.env)).all (fun x => x.1.isSome)
      && decide ([e].length + ([] : List Keyword).length + (if ([] : List Keyword).isEmpty then 0 else 1) < 30)) = true := by rfl)
    (hline : (apos.endLine == cpos.line) = true := by rfl) (hs : starEach [e] X.env = (false, eval e X.env) :: starEach [] X.env := by rfl) (hplain : (backTo cpos (starEach [] X.env)).any (·.1) = false := by rfl) :
    SE X K (.Call (.Attribute o "index" apos) [e] [] cpos) (tBM K "list" (rIndexD K) to (tCons ta tNil)) (sIndex fo fa) := by
  subst hK
  exact ⟨pe_bm PySem.F.plainAttrs_list PySem.F.slot_list_index PySem.F.type_list_index (mt_indexD (by have := hr.un; omega)) ho.p (pa_cons ha.p pa_nil hs) hbase hfew hline hs hplain, sem_index ho.ok ha.ok⟩
/-! ### list(range), tuple(range) -/
abbrev RS := List SD → Option ((Int × Int) × List SD)
def SemR (K : PySem.W.Frag) (t : L2.St → Hp → (Int → Int → Hp → Prop) → Prop) (f : RS) : Prop := ∀ F S σ H G a b S', SR K F S σ H G → f S = some ((a, b), S') → ∀ Q : Int → Int → Hp → Prop, (∀ H' G', SR K F S' σ H' G' → Ex G G' → Q a b H') → t σ H Q
structure SRg (X : Cx) (K : PySem.W.Frag) (e : Expr) (t : L2.St → Hp → (Int → Int → Hp → Prop) → Prop) (f : RS) : Prop where
  p : PRg X e t
  ok : SemR K t f
def sRg1 (fe : ES) : RS := fun S => (fe S).bind fun p => (p.1.get p.2).bind fun x => (dIntO x).map fun n => ((0, n), p.2)
def sRg2 (fe fa : ES) : RS := fun S => (fe S).bind fun p => (fa p.2).bind fun q => (p.1.get q.2).bind fun x => (q.1.get q.2).bind fun y => (dIntO x).bind fun n => (dIntO y).map fun m => ((n, m), q.2)
theorem sem_rg1 (h : SemE K te fe) : SemR K (tRg1 te) (sRg1 fe) := fun F S σ H G a b S' r ef Q k => by
  obtain ⟨⟨o1, S1⟩, e1, ef⟩ := Option.bind_eq_some_iff.mp ef
  obtain ⟨x, e2, ef⟩ := Option.bind_eq_some_iff.mp ef
  obtain ⟨n, e3, ef⟩ := Option.map_eq_some_iff.mp ef
  cases ef
  have hx := dIntO_some e3
  subst hx
  refine h F S σ H G o1 _ r e1 _ fun v H1 G1 r1 g1 h1 => ?_
  exact ⟨_, (op_get r1 h1 e2).int, k H1 G1 r1 g1⟩
theorem sem_rg2 (h : SemE K te fe) (h2 : SemE K ta fa) : SemR K (tRg2 te ta) (sRg2 fe fa) := fun F S σ H G a b S' r ef Q k => by
  obtain ⟨⟨o1, S1⟩, e1, ef⟩ := Option.bind_eq_some_iff.mp ef
  obtain ⟨⟨o2, S2⟩, e2, ef⟩ := Option.bind_eq_some_iff.mp ef
  obtain ⟨x, e3, ef⟩ := Option.bind_eq_some_iff.mp ef
  obtain ⟨y, e4, ef⟩ := Option.bind_eq_some_iff.mp ef
  obtain ⟨n, e5, ef⟩ := Option.bind_eq_some_iff.mp ef
  obtain ⟨m, e6, ef⟩ := Option.map_eq_some_iff.mp ef
  cases ef
  have hx := dIntO_some e5
  subst hx
  have hy := dIntO_some e6
  subst hy
  refine h F S σ H G o1 S1 r e1 _ fun v H1 G1 r1 g1 h1 => ?_
  refine h2 F S1 σ H1 G1 o2 _ r1 e2 _ fun w H2 G2 r2 g2 q2 => ?_
  exact ⟨_, _, (op_get r2 (h1.mono g2) e3).int, (op_get r2 q2 e4).int, k H2 G2 r2 (g1.trans g2)⟩
theorem srg_1 {p : Pos} (hm : X.mg "range" = none) (ha : SE X K e te fe) (hg : Gl X "range" := by rfl) (na : starEach [e] X.env = (false, eval e X.env) :: starEach [] X.env := by rfl) : SRg X K (.Call (.Name "range" p) [e] [] pos) (tRg1 te) (sRg1 fe) := ⟨prg_1 hg hm ha.p na, sem_rg1 ha.ok⟩
theorem srg_2 {p : Pos} (hm : X.mg "range" = none) (ha : SE X K e te fe) (hb : SE X K c ta fa) (hg : Gl X "range" := by rfl) (na : starEach [e, c] X.env = (false, eval e X.env) :: starEach [c] X.env := by rfl) (nb : starEach [c] X.env = (false, eval c X.env) :: starEach [] X.env := by rfl) (hp : (backTo pos (starEach [c] X.env)).any (·.1) = false := by rfl) : SRg X K (.Call (.Name "range" p) [e, c] [] pos) (tRg2 te ta) (sRg2 fe fa) := ⟨prg_2 hg hm ha.p hb.p na nb hp, sem_rg2 ha.ok hb.ok⟩
def rgB (a b : Int) : Bool := decide (-(2 ^ 62) ≤ a) && decide (a < 2 ^ 62) && decide (-(2 ^ 62) ≤ b) && decide (b < 2 ^ 62) && decide ((b - a).toNat ≤ 2 ^ 24)
theorem rgB_ok {a b : Int} (h : rgB a b = true) : RgOk a b := by
  simp only [rgB, Bool.and_eq_true, decide_eq_true_eq] at h
  exact ⟨h.1.1.1.1, h.1.1.1.2, h.1.1.2, h.1.2, h.2⟩
theorem RpAll.rg {G : Hp} (a b : Int) : RpAll K G (rgV a b) (rngD a (b - a).toNat) := by
  unfold rgV rngD
  generalize List.range (b - a).toNat = l
  induction l with
  | nil => exact .nil
  | cons n l ih => exact .cons (.int _) ih
def sLstRg (f : RS) : LS := fun S => (f S).bind fun p => if rgB p.1.1 p.1.2 = true then some (rngD p.1.1 (p.1.2 - p.1.1).toNat, p.2) else none
def sTupRg (f : RS) : ES := fun S => (f S).bind fun p => if rgB p.1.1 p.1.2 = true then some (.dat (.tuple (rngD p.1.1 (p.1.2 - p.1.1).toNat)), p.2) else none
variable {tr : L2.St → Hp → (Int → Int → Hp → Prop) → Prop} {fr : RS}
theorem sem_lstRg (h : SemR K tr fr) : SemL K (tLstRg tr) (sLstRg fr) := fun F S σ H G xs S' r ef Q k => by
  obtain ⟨⟨⟨a, b⟩, S1⟩, e1, ef⟩ := Option.bind_eq_some_iff.mp ef
  have ef : (if rgB a b = true then some (rngD a (b - a).toNat, S1) else none) = some (xs, S') := ef
  split at ef
  · rename_i hc
    cases ef
    refine h F S σ H G a b _ r e1 _ fun H1 G1 r1 g1 => ⟨rgB_ok hc, fun p hp => ?_⟩
    obtain ⟨f0, fg, fa⟩ := r1.fresh hp
    have px := PX.side (o := .lst (rgV a b)) r1.gh hp
    exact k _ _ _ _ (r1.ext px) g1 f0 fg fa upd_same (RpAll.rg a b)
  · cases ef
theorem sem_tupRg (h : SemR K tr fr) : SemE K (tTupRg tr) (sTupRg fr) := fun F S σ H G xs S' r ef Q k => by
  obtain ⟨⟨⟨a, b⟩, S1⟩, e1, ef⟩ := Option.bind_eq_some_iff.mp ef
  have ef : (if rgB a b = true then some (Op.dat (.tuple (rngD a (b - a).toNat)), S1) else none) = some (xs, S') := ef
  split at ef
  · rename_i hc
    cases ef
    refine h F S σ H G a b _ r e1 _ fun H1 G1 r1 g1 => ⟨rgB_ok hc, fun p hp => ?_⟩
    have px := PX.laid (o := .tup (rgV a b)) r1.gh hp
    exact k _ _ _ (r1.ext px) (g1.trans px.gg) (.tup (.inl (.inl upd_same)) (RpAll.rg a b))
  · cases ef
theorem sl_listRg {p : Pos} (hc : X.calm = true) (hm : X.mg "list" = none) (h : SRg X K e tr fr) (hg : Gl X "list" := by rfl) (na : starEach [e] X.env = (false, eval e X.env) :: starEach [] X.env := by rfl) : SL X K (.Call (.Name "list" p) [e] [] pos) (tLstRg tr) (sLstRg fr) := ⟨pe_listRg hc hg hm h.p na, sem_lstRg h.ok⟩
theorem se_tupRg {p : Pos} (hc : X.calm = true) (hm : X.mg "tuple" = none) (h : SRg X K e tr fr) (hg : Gl X "tuple" := by rfl) (na : starEach [e] X.env = (false, eval e X.env) :: starEach [] X.env := by rfl) : SE X K (.Call (.Name "tuple" p) [e] [] pos) (tTupRg tr) (sTupRg fr) := ⟨pe_tupRg hc hg hm h.p na, sem_tupRg h.ok⟩
/-! ### a target o[i] -/
theorem sg_sub (ho : SE X K o (tVar i) (sVar i)) (hi : SE X K e ti fi) (ha : ∀ v, assign (.Subscript o e pos) X.env v = (do
      let ov ← holding [v] (eval o X.env)
      let iv ← holding [v, ov] (eval e X.env)
      standAt pos
      holding [v, ov, iv] (setItem ov iv v)
      release [v, ov, iv] []) := by intro _; rfl) : SG X K (.Subscript o e pos) (gSub (tVar i) ti rSetL) [] (gsSub i fi) := ⟨pg_sub ho.p hi.p set_list ha, sem_gsub hi.ok⟩
/-! ### statements -/
theorem sss_nil : SSs X K [] tNext sNext := ⟨pss_nil, sem_next⟩
theorem sss_cons {st : Stmt} {rest : List Stmt} {t u : TS} {f g : SSem} (h1 : SS X K st t f) (h2 : SSs X K rest u g) : SSs X K (st :: rest) (tSeq t u) (sSeq f g) := ⟨pss_cons h1.p h2.p, sem_seq h1.ok h2.ok⟩
theorem sss_one {st : Stmt} {t : TS} {f : SSem} (h1 : SS X K st t f) : SSs X K [st] t f := ⟨pss_one h1.p, h1.ok⟩
theorem ss_pass : SS X K (.Pass pos) tNext sNext := ⟨ps_pass, sem_next⟩
theorem ss_break : SS X K (.Break pos) tBreak sBreak := ⟨ps_break, sem_break⟩
theorem ss_cont : SS X K (.Continue pos) tCont sCont := ⟨ps_continue, sem_cont⟩
theorem ss_never {st : Stmt} : SS X K st tNever sNever := ⟨ps_never, sem_never⟩
theorem sss_never {sts : List Stmt} : SSs X K sts tNever sNever := ⟨pss_never, sem_never⟩
theorem ss_doc {x : Str} {j} : SS X K (.Expr (.Constant (.str x) j pos) pos') tNext sNext := ⟨ps_doc, sem_next⟩
theorem ss_expr (he : SE X K e te fe) (hs : swapsWith e none pos.line X.env = pure false := by rfl) : SS X K (.Expr e pos) (tDrop te) (sDrop fe) := ⟨ps_expr he.p hs, sem_drop he.ok⟩
theorem ss_ret (he : SV X K e te fv) : SS X K (.Return (some e) pos) (tRet te) (sRetVS fv) := ⟨ps_ret he.p, sem_retVS he.ok⟩
theorem ss_retV (he : SE X K e (tVar i) (sVar i)) : SS X K (.Return (some e) pos) (tRet (tVar i)) (sRetV i) := ⟨ps_ret he.p, sem_retV⟩
theorem ss_retN : SS X K (.Return none pos) tRetN sRetN := ⟨ps_retN, sem_retN⟩
theorem ss_if {a b : List Stmt} {t u : TS} {f g : SSem} (hc : ST X K c tt fb) (ha : SSs X K a t f) (hb : SSs X K b u g) : SS X K (.If c a b pos) (tIfS tt t u) (sIf fb f g) := ⟨ps_if hc.p ha.p hb.p, sem_ifS hc.ok ha.ok hb.ok⟩
theorem ss_set (hN : X.N.Nodup) (he : SV X K e te fv) (hi : X.N[i]? = some x := by rfl) (hx : Loc X.env.scope x := by first | exact Or.inl rfl | exact Or.inr rfl) (hs : swapsWith e (some (.Name x pos')) pos.line X.env = pure false := by rfl)
    (hf : X.fn x = true ∨ X.env.scope.names.lookup x = some .local := by first | exact Or.inl rfl | exact Or.inr rfl) : SS X K (.Assign [.Name x pos'] e pos) (tAsg te (gName i)) (sSetV fv i) := ⟨ps_set hN hi hx he.p hs hf, sem_setV he.ok⟩
theorem ss_asg {tg : Expr} {g : TG} {ix : List Nat} {gs : GS} (he : SDt X K e te fd) (hg : SG X K tg g ix gs) (hs : swapsWithSole [tg] e pos.line X.env = pure false := by rfl) (hw : swappedStores [tg] e X.env = pure none := by rfl)
    (h1 : (assignEach [tg] X.env).map (·.2) = [assign tg X.env] := by rfl) : SS X K (.Assign [tg] e pos) (tAsg te g) (sAsg fd gs) := ⟨ps_asg he.p hg.p hs hw h1, sem_asg he.ok hg.ok⟩
theorem ss_par {a b : Expr} {px py pt : Pos} {kt k2 pt2} (hc : X.calm = true) (hN : X.N.Nodup) (hij : i ≠ j) (h1 : SV X K a te fv) (h2 : SV X K b ta fw) (hi : X.N[i]? = some x := by rfl) (hj : X.N[j]? = some y := by rfl)
    (hx : X.env.scope.names.lookup x = some .local := by rfl) (hy : X.env.scope.names.lookup y = some .local := by rfl) (hsa : starEach [a, b] X.env = (false, eval a X.env) :: starEach [b] X.env := by rfl) (hsb : starEach [b] X.env = (false, eval b X.env) :: starEach [] X.env := by rfl)
    (hw : swappedStores [.Tuple [.Name x px, .Name y py] kt pt] (.Tuple [a, b] k2 pt2) X.env = pure (some [x, y]) := by rfl)
    (hs : swapsWithSole [.Tuple [.Name x px, .Name y py] kt pt] (.Tuple [a, b] k2 pt2) pos.line X.env = pure false := by rfl) :
    SS X K (.Assign [.Tuple [.Name x px, .Name y py] kt pt] (.Tuple [a, b] k2 pt2) pos) (tPar i j (tCons te (tCons ta tNil))) (sPar i j fv fw) := ⟨ps_par hc hN hi hj hij hx hy (pa_cons h1.p (pa_cons h2.p pa_nil hsb) hsa) hw hs, sem_par hij h1.ok h2.ok⟩
theorem ss_for {tg iter : Expr} {body : List Stmt} {wi : TI} {g : TG} {ix : List Nat} {gs : GS} {tb : TS} {fB : SSem} (hp : PassesOwn (model X.prog X.w) X.A X.env X.xe) (hc : X.calm = true) (hi : SI X K tg iter wi fl) (hg : SG X K tg g ix gs) (hb : SSs X K body tb fB)
    (hs : ∀ x, foldedSetIterable iter X.env x = pure x := by intro _; rfl) : SS X K (.For tg iter body [] pos) (tFor wi g tb) (sFor fl gs fB) := ⟨ps_for hp hc hi.p hg.p hb.p hs, sem_for hi.ok hg.ok hb.ok⟩
theorem ss_while (n : Nat) {body : List Stmt} {tb : TS} {fB : SSem} (hp : PassesOwn (model X.prog X.w) X.A X.env X.xe) (hc : ST X K c tt fb) (hb : SSs X K body tb fB) : SS X K (.While c body [] pos) (tWhile tt tb) (sWhile n fb fB) := ⟨ps_while hp hc.p hb.p, sem_while hc.ok hb.ok⟩
/-! ### comprehensions -/
structure STs (X : Cx) (K : PySem.W.Frag) (ifs : List Expr) (t : TT) (f : BS) : Prop where
  p : PTs X ifs t
  ok : SemB K t f
theorem sts_nil : STs X K [] tYes sYes := ⟨pts_nil, sem_yes⟩
theorem sts_one (h : ST X K c tt fb) : STs X K [c] tt fb := ⟨pts_one h.p, h.ok⟩
variable {elt tg iter : Expr} {ifs : List Expr} {scope : Scope} {spos : Pos} {wi : TI} {g : TG} {ix : List Nat} {gs : GS} {py : Pos}
theorem sl_lc (own : List (Str × Nat)) (vs : List Nat) (hc : X.calm = true) (hN : X.N.Nodup) (hi : SI X K tg iter wi fl) (ok : blkC X.N X.env.scope scope own = true)
    (hg : ∀ (s : Shared) (H : Hp) (C : Addr) (cl : List (Str × Addr)) (fp : List Addr), SG (X.blk s H scope (compEnvC scope cl C X.env) fp) K tg g ix gs) (ht : ∀ (s : Shared) (H : Hp) (C : Addr) (cl : List (Str × Addr)) (fp : List Addr), STs (X.blk s H scope (compEnvC scope cl C X.env) fp) K ifs tt fb)
    (he : ∀ (s : Shared) (H : Hp) (C : Addr) (cl : List (Str × Addr)) (fp : List Addr), SDt (X.blk s H scope (compEnvC scope cl C X.env) fp) K elt te fd) (hv : own.map (·.2) = vs := by rfl) (hix : ∀ i ∈ ix, i ∈ vs := by decide) (hs : ∀ x, foldedSetIterable iter X.env x = pure x := by intro _; rfl) :
    SL X K (.ListComp elt [⟨tg, iter, ifs, 0⟩] scope pos) (tLc wi g tt te vs) (sLC vs fl gs fb fd) := by
  subst hv
  have s0 : Shared := X.s_0
  exact ⟨pe_lc hc hN hi.p (blkOk_by ok) (fun s H C cl fp => (hg s H C cl fp).p) (fun s H C cl fp => (ht s H C cl fp).p) (fun s H C cl fp => (he s H C cl fp).p) hs,
    sem_lc hi.ok (hg s0 X.H_0 0 [] []).ok hix (ht s0 X.H_0 0 [] []).ok (he s0 X.H_0 0 [] []).ok⟩
/-- name = [..]: the slot is given the new list, as its own or standing still (b) -/
def vLC (b : Bool) (fl : LS) : VS := if b then vD (sTake (sKeep fl)) else vL fl
theorem sem_vLC {b : Bool} (h : SemL K te fl) : SemV K te (vLC b fl) := by
  cases b with
  | true => exact sem_vD (sem_take (sem_keep h))
  | false => exact sem_vL h
theorem ss_setLc (b : Bool) (own : List (Str × Nat)) (vs : List Nat) (hc : X.calm = true) (hN : X.N.Nodup) (hi : SI X K tg iter wi fl) (ok : blkC X.N X.env.scope scope own = true)
    (hg : ∀ (s : Shared) (H : Hp) (C : Addr) (cl : List (Str × Addr)) (fp : List Addr), SG (X.blk s H scope (compEnvC scope cl C X.env) fp) K tg g ix gs) (ht : ∀ (s : Shared) (H : Hp) (C : Addr) (cl : List (Str × Addr)) (fp : List Addr), STs (X.blk s H scope (compEnvC scope cl C X.env) fp) K ifs tt fb)
    (he : ∀ (s : Shared) (H : Hp) (C : Addr) (cl : List (Str × Addr)) (fp : List Addr), SDt (X.blk s H scope (compEnvC scope cl C X.env) fp) K elt te fd) (hsw : swapsWith (.ListComp elt [⟨tg, iter, ifs, 0⟩] scope pos) (some (.Name y py)) spos.line X.env = pure true) (hy : X.N[i]? = some y := by rfl) (hyl : X.env.scope.names.lookup y = some .local := by rfl)
    (hv : own.map (·.2) = vs := by rfl) (hix : ∀ i ∈ ix, i ∈ vs := by decide) (hs : ∀ x, foldedSetIterable iter X.env x = pure x := by intro _; rfl) :
    SS X K (.Assign [.Name y py] (.ListComp elt [⟨tg, iter, ifs, 0⟩] scope pos) spos) (tAsg (tLc wi g tt te vs) (gName i)) (sSetV (vLC b (sLC vs fl gs fb fd)) i) := by
  subst hv
  have s0 : Shared := X.s_0
  exact ⟨ps_setLc hc hN hy hyl hsw hi.p (blkOk_by ok) (fun s H C cl fp => (hg s H C cl fp).p) (fun s H C cl fp => (ht s H C cl fp).p) (fun s H C cl fp => (he s H C cl fp).p) hs,
    sem_setV (sem_vLC (sem_lc hi.ok (hg s0 X.H_0 0 [] []).ok hix (ht s0 X.H_0 0 [] []).ok (he s0 X.H_0 0 [] []).ok))⟩
end
end DL

set_option Elab.async false
set_option linter.all false
set_option maxRecDepth 100000
set_option maxHeartbeats 4000000
/-! DL, part 12: the law's end; facts of built-ins. -/
namespace DL
open PySem PySem.Spec PyProof.Rows L2

theorem bt_isinstance : bootBuiltins "isinstance" = some (.builtin "isinstance") := by decide +kernel
theorem bt_all : bootBuiltins "all" = some (.builtin "all") := by decide +kernel
theorem bt_any : bootBuiltins "any" = some (.builtin "any") := by decide +kernel
theorem bt_sum : bootBuiltins "sum" = some (.builtin "sum") := by decide +kernel
theorem bt_max : bootBuiltins "max" = some (.builtin "max") := by decide +kernel
theorem bt_min : bootBuiltins "min" = some (.builtin "min") := by decide +kernel
theorem bt_abs : bootBuiltins "abs" = some (.builtin "abs") := by decide +kernel
theorem bt_len : bootBuiltins "len" = some (.builtin "len") := by decide +kernel
theorem bt_repr : bootBuiltins "repr" = some (.builtin "repr") := by decide +kernel
theorem bt_sorted : bootBuiltins "sorted" = some (.builtin "sorted") := by decide +kernel
theorem bt_divmod : bootBuiltins "divmod" = some (.builtin "divmod") := by decide +kernel
theorem bt_tuple : bootBuiltins "tuple" = some (.type "tuple") := by decide +kernel
theorem bt_list : bootBuiltins "list" = some (.type "list") := by decide +kernel
theorem bt_int : bootBuiltins "int" = some (.type "int") := by decide +kernel
theorem bt_set : bootBuiltins "set" = some (.type "set") := by decide +kernel
theorem bt_str : bootBuiltins "str" = some (.type "str") := by decide +kernel
theorem bt_bool : bootBuiltins "bool" = some (.type "bool") := by decide +kernel
theorem bt_dict : bootBuiltins "dict" = some (.type "dict") := by decide +kernel
theorem bt_range : bootBuiltins "range" = some (.type "range") := by decide +kernel

/-- the script as data -/
def scrD (ns : List Int) : PyData := .dict [(.none, .list (ns.map .int))]
/-- what the law's def is to hand back -/
def LawM (n : Nat) (m : Fn) : Prop := ∀ ns : List Int, ns.length ≤ n → m [.d (scrD ns)] = some (.d (.bool true), [.d (scrD ns)])

section
variable {P : Program} {w : World} {K : PySem.W.Frag} {mg mb : Str → Option Value} {k : Nat} {fa a : Addr} {fd : FuncData} {x : Str} {m : Fn} {s1 : Shared} {vs : List Value} {ns : List Int} {n : Nat}
theorem sr_script {H : Hp} (hS : SqL K H a (ns.map V.int)) : SR K ⟨H, H, [.d (scrD ns)], [V.ref a].map some⟩ [.d (scrD ns)] ([V.ref a].map some) H H := by
  refine ⟨rfl, .refl _, .refl _, fun b h => .inl h, fun b o h _ => h, fun b h => h, fun i y e => ?_, fun i b xs e => ?_, fun i j c b1 x1 b2 x2 e1 _ _ _ => ?_⟩
  · cases i with
    | zero => cases e; exact ⟨.ref a, rfl, .scr hS (RpAll.of_ints ns)⟩
    | succ i => simp at e
  · cases i with
    | zero => cases e
    | succ i => simp at e
  · cases i with
    | zero => cases e1
    | succ i => simp at e1
theorem law_callG (KX : K.In s1.heap) (hns : s1.heap.Ns mainGlobals mg) (hb : s1.heap.Ns builtinsNs mb) (hbb : ∀ x : Str, x ≠ "__name__" → mb x = bootBuiltins x) (hlim : s1.heap.NoLimit) (hg : s1.gens = #[])
    (ha : s1.heap.get? a = some { cls := .type "list", data := .seq vs.toArray }) (hi : IntsAre vs ns) (hl : ns.length ≤ sizeLine) (hn : ns.length ≤ n) (hr : Room k callerA)
    (F : ∀ base : Heap, K.In base → base.Ns mainGlobals mg → FnG P w K mg base k fa fd [x] m) (hbind : ∀ (s : Shared) (u : Value), BindsTo s fd ⟨[u], []⟩ [(x, u)]) (hm : LawM n m) :
    codeAny (model P w) callerA (.call (.ref fa) ⟨[.ref a], []⟩) (fun r s' => r = .ok (.ret (.bool true)) ∧ OldK s1.heap s'.heap ∧ s'.os = s1.os ∧ AllBare s'.gens) s1 := by
  have rv := vals_ints hi
  have lenV := hi.length
  have key : ∀ H : Hp, Only H → SqL K H a (ns.map V.int) → HOk P w H s1.heap → (∀ b, H b ≠ none → b = a ∧ K.lookup a = none) →
      codeAny (model P w) callerA (.call (.ref fa) ⟨[.ref a], []⟩) (fun r s' => r = .ok (.ret (.bool true)) ∧ OldK s1.heap s'.heap ∧ s'.os = s1.os ∧ AllBare s'.gens) s1 := by
    intro H hO hS hok hA
    have away : ∀ {b : Addr}, (b = a → False) → H b = none := fun {b} nb => by
      cases q : H b with
      | none => rfl
      | some u => exact (nb (hA b (by rw [q]; simp)).1).elim
    have nsK : ∀ {b : Addr} {f : Str → Option Value}, s1.heap.Ns b f → (hidT s1.heap H).Ns b f := fun {b f} ⟨o, es, ep, e, d, r⟩ => ⟨o, es, ep, hidT_get e (away fun z => by
      subst z
      rw [ha] at e; cases e
      have d' : Data.seq vs.toArray _ = Data.dict es ep := d
      cases d'), d, r⟩
    have hKb : K.In (hidT s1.heap H) := fun b o e => by
      refine hidT_get (KX b o e) ?_
      cases q : H b with
      | none => rfl
      | some u =>
        obtain ⟨z1, z2⟩ := hA b (by rw [q]; simp)
        rw [z1, z2] at e; cases e
    obtain ⟨mc, h1, h2⟩ := hlim
    have e0 : Env0 P w K mg (hidT s1.heap H) callerA [] s1 H :=
      ⟨rfl, ⟨hKb, nsK hns, ⟨mb, nsK hb, hbb⟩, ⟨mc, nsK h1, h2⟩⟩, fun b o e => of_hidT e, Nat.le_of_eq (hidT_size _ _), trivial, fun b hb => absurd (show b ∈ ([] : List Addr) from hb) (by simp), hok, .of_eq hg⟩
    have sp : spM K [x].length m [.ref a] H (fun v _ => v = .bl true) E0 := by
      refine ⟨_, H, _, _, rfl, sr_script hS, hm ns hn, fun v H' G' r => ?_⟩
      obtain ⟨u, q1, q2⟩ := r.dat 1 (.bool true) rfl
      cases q1
      cases q2
      rfl
    refine codeAny_mono ((F _ hKb (nsK hns)).run callerA [] s1 H ⟨[.ref a], []⟩ [.ref a] [.ref a] _ hr rfl e0 (hbind s1 (.ref a)) (.cons rfl .nil) sp) fun r s' h => ?_
    cases r with
    | error e => exact False.elim h
    | ok fl =>
      cases fl with
      | ret u =>
        obtain ⟨v, H', os, bare, un, hok', r', q⟩ := h
        subst q
        obtain rfl : u = Value.bool true := r'
        refine ⟨rfl, OldK.of_keep fun b o e => ?_, os, bare⟩
        cases q : H b with
        | none => exact un.keep b o e q (fun z => absurd (show b ∈ ([] : List Addr) from z) (by simp)) (by simp)
        | some u =>
          rcases hO b with z | ⟨ob, xs, z⟩
          · rw [q] at z; cases z
          · obtain ⟨e1, _⟩ := hok b _ z
            obtain ⟨e2, _⟩ := hok' b _ (un.frzs b ob _ z)
            rw [e] at e1; cases e1
            exact e2
      | next => exact False.elim h
      | brk => exact False.elim h
      | cont => exact False.elim h
  cases hk : K.lookup a with
  | some o =>
    have e := KX a o hk
    rw [ha] at e
    cases e
    exact key (fun _ => none) (fun _ => .inl rfl) (.inr ⟨_, vs.toArray, _, hk, rfl, rfl, rfl, by rw [List.size_toArray, lenV]; exact hl, by simpa using rv⟩) (fun b u z => by cases z) fun b z => absurd rfl z
  | none =>
    have hit : ∀ {b : Addr} {u : HO}, (if b = a then some (HO.frz { cls := .type "list", data := .seq vs.toArray } (.lst (ns.map V.int))) else none) = some u → b = a ∧ u = HO.frz { cls := .type "list", data := .seq vs.toArray } (.lst (ns.map V.int)) := fun {b u} z => by
      by_cases q : b = a
      · rw [if_pos q] at z; cases z; exact ⟨q, rfl⟩
      · rw [if_neg q] at z; cases z
    refine key (fun b => if b = a then some (.frz { cls := .type "list", data := .seq vs.toArray } (.lst (ns.map V.int))) else none) (fun b => ?_) (.inl (.inr ⟨_, if_pos rfl⟩)) (fun b u z => ?_) fun b z => ⟨?_, hk⟩
    · by_cases q : b = a
      · exact .inr ⟨_, _, if_pos q⟩
      · exact .inl (if_neg q)
    · obtain ⟨rfl, rfl⟩ := hit z
      exact ⟨ha, by rw [List.length_map]; exact hl, vs, _, rv, ha⟩
    · by_cases q : b = a
      · exact q
      · exact absurd (if_neg q) z
end
/-- the end: the law's def over every base -/
theorem walkG {l : PySem.W.OpenLaw} {n k : Nat} {q : Program} {loose : List Str} {XP : (Str → Option Value) → Heap → Prop} {YP : World → Heap → Prop} {d : DefRec} {K : Params → PySem.W.Frag} {m : Fn} {x : Str}
    (hn : l.most = some n) (hn2 : n ≤ sizeLine) (hdf : d.params.defaults = []) (hr : Room k callerA) (hY : ∀ (w : World) (h : Heap), YP w h → (K w.params).In h)
    (F : ∀ (w : World) (mg : Str → Option Value) (fa : Addr) (h : Heap), (K w.params).In h → h.Ns mainGlobals mg → mg d.name = some (.ref fa) →
      ∃ fd : FuncData, (∀ (s : Shared) (u : Value), BindsTo s fd ⟨[u], []⟩ [(x, u)]) ∧ ∀ base : Heap, (K w.params).In base → base.Ns mainGlobals mg → FnG l.prog w (K w.params) mg base k fa fd [x] m)
    (hm : LawM n m) : PySem.W.WalkO q loose XP YP l.row.toRowW d [] (fun f vs => PySem.call f vs) := by
  refine Att.attach_call hn hdf fun w s0 s1 mg mb fa o pm cd doc a vs ns G Y ho hd hcd hmg hobj hints hlen hg => ?_
  obtain ⟨fd, hb, hF⟩ := F w mg fa _ (hY w _ Y) G.T.g hmg
  exact law_callG (hY w _ Y) G.T.g G.T.b G.T.builtins G.T.nolimit hg hobj hints (Nat.le_trans hlen hn2) hlen hr hF hb hm
end DL

set_option Elab.async false
set_option linter.all false
set_option maxRecDepth 100000
set_option maxHeartbeats 4000000
/-! DL, part 13: empty dicts; calls by name. -/
namespace DL
open PySem PySem.Spec PyProof.Rows L2

def sDict0 : ES := fun S => some (.dat (.dict []), S)
section
variable {X : Cx} {K : PySem.W.Frag} {pos : Pos}
theorem sem_dict0 : SemE K tDNewK sDict0 := fun F S σ H G o S' r ef Q k => by
  cases ef
  intro p hp
  have px := PX.laid (o := .dK []) r.gh hp
  exact k _ _ _ (r.ext px) px.gg (.dic (.inl upd_same) .nil)
theorem se_dict0 : SE X K (.Dict [] [] pos) tDNewK sDict0 := ⟨pe_dnewK, sem_dict0⟩
theorem kwb {x qual : Str} {st : Stmt} {f : Addr} {fd : FuncData} {ps ks : List Str} {pm : List Nat} (F : Fun K x qual st f fd)
    (h : ∀ (kV doc pm' : Value) (an : Option Addr) (cdv ct : Value) (us ws : List Value), us.length + ks.length = ps.length → ws.length = ks.length → bindArgs (PySem.W.fnOf x qual (defArgs st) (defBody st) (defScope st) .none kV doc pm' an cdv ct) ⟨us, ks.zip ws⟩ = pure (ps.zip (perm pm (us ++ ws)))) : KwB K fd ps ks pm := by
  obtain ⟨oc, od, kV, doc, pm', an, cdv, ct, osl, rfl, lk, hcd⟩ := F.ex
  exact fun s us ws _ h1 h2 => .of_eq (h kV doc pm' an cdv ct us ws h1 h2)
end

/-! ### a call whose one argument is a new list that the def may change -/
theorem SR.pop {K : PySem.W.Frag} {F : Fr} {S : List SD} {σ : L2.St} {H G : Hp} {t : SD} {o : Option V} (r : SR K F (S ++ [t]) (σ ++ [o]) H G) : SR K F S σ H G := by
  have L : σ.length = S.length := by simpa using r.len
  have inS : ∀ {i : Nat} {s : SD}, S[i]? = some s → (S ++ [t])[i]? = some s ∧ (σ ++ [o])[i]? = σ[i]? := fun {i s} h => by
    have hi := (List.getElem?_eq_some_iff.mp h).1
    exact ⟨by rw [List.getElem?_append_left hi]; exact h, List.getElem?_append_left (by omega)⟩
  refine ⟨L, r.g0, r.gh, r.new, r.keep, r.live, fun i x e => ?_, fun i b xs e => ?_, fun i j a b1 x1 b2 x2 e1 e2 e3 e4 => ?_⟩
  · obtain ⟨h1, h2⟩ := inS e
    rw [← h2]; exact r.dat i x h1
  · obtain ⟨h1, h2⟩ := inS e
    rw [← h2]; exact r.own i b xs h1
  · obtain ⟨h1, h2⟩ := inS e1
    obtain ⟨h3, h4⟩ := inS e2
    rw [← h2] at e3
    rw [← h4] at e4
    exact r.sep i j a b1 x1 b2 x2 h1 h3 e3 e4
def onlyD : SD → Option PyData
  | .d x => some x
  | _ => none
def sCallF (m : Fn) (fl : LS) : ES := fun S => (fl S).bind fun p => (m [.own true p.1]).bind fun q => (onlyD q.1).map fun x => (.dat x, p.2)
theorem sem_callF {K : PySem.W.Frag} {te : TE} {fl : LS} {m : Fn} (h : SemL K te fl) : SemE K (tCallG (spM K 1 m) (tCons te tNil)) (sCallF m fl) := by
  intro F S σ H G o S' r ef Q k
  obtain ⟨⟨xs, S1⟩, e1, ef⟩ := Option.bind_eq_some_iff.mp ef
  obtain ⟨⟨rs, Dl'⟩, e2, ef⟩ := Option.bind_eq_some_iff.mp ef
  obtain ⟨x, e3, e4⟩ := Option.map_eq_some_iff.mp ef
  cases e4
  have hrs : rs = .d x := by
    cases rs with
    | d y => cases e3; rfl
    | _ => cases e3
  subst hrs
  refine h F S σ H G xs _ r e1 _ fun p vs H1 G1 r1 g1 f0 fg fa hh ha => ?_
  have L1 : σ.length = S1.length := r1.len
  have rp := r1.pushO f0 fg fa hh ha
  refine ⟨[.own true xs], G1, .d x, Dl', rfl, ?_, e2, fun v H' G' r' => ?_⟩
  · refine ⟨rfl, .refl _, r1.gh, fun b h => .inl h, fun b o h _ => h, fun b h => h, fun i y e => ?_, fun i b ys e => ?_, fun i j c b1 x1 b2 x2 q1 q2 _ _ => ?_⟩
    · cases i with
      | zero => cases e
      | succ i => simp at e
    · cases i with
      | zero => cases e; exact ⟨p, vs, rfl, fg, hh, ha, fun _ => ⟨⟨0, true, xs, rfl, rfl⟩, rfl⟩, fun q => by cases q⟩
      | succ i => simp at e
    · cases i with
      | zero => cases j with
        | zero => rfl
        | succ j => simp at q2
      | succ i => simp at q1
  · have hB : ∀ a, (Fr.B ⟨H1, G1, [.own true xs], [V.ref p].map some⟩ a) → a = p := fun a ⟨i, b, ys, q1, q2⟩ => by
      cases i with
      | zero => cases q2; rfl
      | succ i => simp at q1
    have atP : (S1 ++ [SD.own false xs])[S1.length]? = some (.own false xs) := by simp
    have atV : (σ ++ [some (V.ref p)])[S1.length]? = some (some (.ref p)) := by rw [← L1]; simp
    have rb : SR K F (S1 ++ [.un]) (σ ++ [some (.ref p)]) H' G' := by
      refine rp.back r' rfl rfl (fun a hb => ?_) (by simp) (fun j y e => ?_) fun j b ys e => ?_
      · rw [hB a hb]; exact ⟨S1.length, false, xs, atP, atV⟩
      · by_cases hj : j < S1.length
        · rw [List.getElem?_append_left hj] at e ⊢; exact e
        · rw [List.getElem?_append_right (by omega)] at e
          cases z : j - S1.length with
          | zero => rw [z] at e; cases e
          | succ n => rw [z] at e; simp at e
      · by_cases hj : j < S1.length
        · rw [List.getElem?_append_left hj] at e
          obtain ⟨a, ws, q1, _⟩ := r1.own j b ys e
          have e' : (S1 ++ [SD.own false xs])[j]? = some (.own b ys) := by rw [List.getElem?_append_left hj]; exact e
          refine ⟨⟨ys, e'⟩, a, by rw [List.getElem?_append_left (by omega)]; exact q1, .inr ⟨e', fun hb => ?_⟩⟩
          rw [hB a hb] at q1
          exact fa j b ys e q1
        · rw [List.getElem?_append_right (by omega)] at e
          cases z : j - S1.length with
          | zero => rw [z] at e; cases e
          | succ n => rw [z] at e; simp at e
    have hv : Rp K G' v x := by
      have hl : Dl'.length = 1 := by simpa using r'.len.symm
      obtain ⟨u, q1, q2⟩ := r'.dat 1 x (by rw [← hl]; simp)
      cases q1
      exact q2
    exact k v H' G' rb.pop (g1.trans r'.g0) hv
section
variable {X : Cx} {K : PySem.W.Frag} {k : Nat} {f : Addr} {fd : FuncData} {ps : List Str} {m : Fn} {x : Str} {p pos : Pos} {e : Expr} {te : TE} {fl : LS}
theorem se_callF (hK : X.K = K) (C : Cal X.prog X.w K X.mg X.base k x ps m f fd) (hr : Room k X.A) (hgd : X.A.guards = some []) (ha : SL X K e te fl) (hp : ps.length = 1 := by rfl) (hg : Gl X x := by rfl) (hdb : (x == ("__debug__" : Str)) = false := by decide)
    (he : starEach [e] X.env = (false, eval e X.env) :: starEach [] X.env := by rfl) (hpl : (backTo pos (starEach [] X.env)).any (·.1) = false := by rfl) : SE X K (.Call (.Name x p) [e] [] pos) (tCallG (spM K 1 m) (tCons te tNil)) (sCallF m fl) := by
  have h := pe_callG hK C hr hgd (pa_cons ha.p pa_nil he) hg hdb he hpl (pos := pos) (p := p)
  rw [hp] at h
  exact ⟨h, sem_callF ha.ok⟩
end
end DL

set_option Elab.async false
set_option linter.all false
set_option maxRecDepth 100000
set_option maxHeartbeats 4000000
/-! DM, part 1: the mirrors, evaluated step by step (for simp). -/
namespace DL
open PySem PySem.Spec PyProof.Rows L2

@[simp] theorem e_sVar (i : Nat) (S : List SD) : sVar i S = (if sdTold (S[i]?) = true then some (.slot i, S) else none) := rfl
@[simp] theorem e_sC (x : PyData) (S : List SD) : sC x S = (some (.dat x, S)) := rfl
@[simp] theorem e_sTake (f : ES) (S : List SD) : sTake f S = ((f S).bind fun p => takeO p.2 p.1) := rfl
@[simp] theorem e_sDat (f : DS) (S : List SD) : sDat f S = ((f S).map fun p => (.dat p.1, p.2)) := rfl
@[simp] theorem e_sKeep (f : LS) (S : List SD) : sKeep f S = ((f S).map fun p => (.dat (.list p.1), p.2)) := rfl
@[simp] theorem e_sNil (S : List SD) : sNil  S = (some ([], S)) := rfl
@[simp] theorem e_sCons (f : ES) (g : AS) (S : List SD) : sCons f g S = ((f S).bind fun p => (g p.2).map fun q => (p.1 :: q.1, q.2)) := rfl
@[simp] theorem e_sBin (g : PyData → PyData → Option PyData) (f f' : ES) (S : List SD) : sBin g f f' S = ((f S).bind fun p => (f' p.2).bind fun q => (p.1.get q.2).bind fun x => (q.1.get q.2).bind fun y => (g x y).map fun z => (.dat z, q.2)) := rfl
@[simp] theorem e_sBinL (g : PyData → PyData → Option (List PyData)) (f f' : ES) (S : List SD) : sBinL g f f' S = ((f S).bind fun p => (f' p.2).bind fun q => (p.1.get q.2).bind fun x => (q.1.get q.2).bind fun y => (g x y).map fun z => (z, q.2)) := rfl
@[simp] theorem e_sTest (f : ES) (S : List SD) : sTest f S = ((f S).bind fun p => (p.1.get p.2).bind fun x => (dBool x).map fun b => (b, p.2)) := rfl
@[simp] theorem e_sAnd (f g : BS) (S : List SD) : sAnd f g S = ((f S).bind fun p => if p.1 = true then g p.2 else some (false, p.2)) := rfl
@[simp] theorem e_sOr (f g : BS) (S : List SD) : sOr f g S = ((f S).bind fun p => if p.1 = true then some (true, p.2) else g p.2) := rfl
@[simp] theorem e_sNot (f : BS) (S : List SD) : sNot f S = ((f S).map fun p => (!p.1, p.2)) := rfl
@[simp] theorem e_sAndV (f g : ES) (S : List SD) : sAndV f g S = ((f S).bind fun p => (p.1.get p.2).bind fun x => (dBool x).bind fun c => if c = true then g p.2 else some (.dat (.bool false), p.2)) := rfl
@[simp] theorem e_sOrV (f g : ES) (S : List SD) : sOrV f g S = ((f S).bind fun p => (p.1.get p.2).bind fun x => (dBool x).bind fun c => if c = true then some (.dat (.bool true), p.2) else g p.2) := rfl
@[simp] theorem e_sNotV (f : ES) (S : List SD) : sNotV f S = ((f S).bind fun p => (p.1.get p.2).bind fun x => (dBool x).map fun c => (.dat (.bool (!c)), p.2)) := rfl
@[simp] theorem e_sIf {α : Type} (t : BS) (f g : List SD → Option α) (S : List SD) : sIf t f g S = ((t S).bind fun p => if p.1 = true then f p.2 else g p.2) := rfl
@[simp] theorem e_sUn (g : PyData → Option PyData) (f : ES) (S : List SD) : sUn g f S = ((f S).bind fun p => (p.1.get p.2).bind fun x => (g x).map fun z => (.dat z, p.2)) := rfl
@[simp] theorem e_sTup (f : AS) (S : List SD) : sTup f S = ((f S).bind fun p => (takeAll p.2 p.1).bind fun q => if q.1.length ≤ 100000 then some (.dat (.tuple q.1), q.2) else none) := rfl
@[simp] theorem e_sLst (f : AS) (S : List SD) : sLst f S = ((f S).bind fun p => (takeAll p.2 p.1).bind fun q => if q.1.length ≤ 100000 then some (q.1, q.2) else none) := rfl
@[simp] theorem e_sCB (g : List PyData → Option PyData) (f : AS) (S : List SD) : sCB g f S = ((f S).bind fun p => (getAll p.2 p.1).bind fun xs => (g xs).map fun z => (.dat z, p.2)) := rfl
@[simp] theorem e_sCBL (g : List PyData → Option (List PyData)) (f : AS) (S : List SD) : sCBL g f S = ((f S).bind fun p => (getAll p.2 p.1).bind fun xs => (g xs).map fun z => (z, p.2)) := rfl
@[simp] theorem e_sNext (S : List SD) : sNext  S = (some (.nx S)) := rfl
@[simp] theorem e_sBreak (S : List SD) : sBreak  S = (some (.bk S)) := rfl
@[simp] theorem e_sCont (S : List SD) : sCont  S = (some (.ct S)) := rfl
@[simp] theorem e_sNever (S : List SD) : sNever  S = (none) := rfl
@[simp] theorem e_sDrop (fe : ES) (S : List SD) : sDrop fe S = ((fe S).map fun p => .nx p.2) := rfl
@[simp] theorem e_sRet (fd : DS) (S : List SD) : sRet fd S = ((fd S).map fun p => .rt (.d p.1) p.2) := rfl
@[simp] theorem e_sRetL (fl : LS) (S : List SD) : sRetL fl S = ((fl S).map fun p => .rt (.own false p.1) p.2) := rfl
@[simp] theorem e_sRetV (i : Nat) (S : List SD) : sRetV i S = (retS S i (S[i]?)) := rfl
@[simp] theorem e_sRetN (S : List SD) : sRetN  S = (some (.rt (.d .none) S)) := rfl
@[simp] theorem e_sAsg (fd : DS) (gs : GS) (S : List SD) : sAsg fd gs S = ((fd S).bind fun p => (gs p.1 p.2).map fun S1 => .nx S1) := rfl
@[simp] theorem e_sAsgL (fl : LS) (i : Nat) (S : List SD) : sAsgL fl i S = ((fl S).map fun p => .nx (p.2.set i (.own false p.1))) := rfl
@[simp] theorem e_sFor (fi : LS) (gs : GS) (fb : SSem) (S : List SD) : sFor fi gs fb S = ((fi S).bind fun p => forGo gs fb p.1 p.2) := rfl
@[simp] theorem e_sWhile (n : Nat) (ft : BS) (fb : SSem) (S : List SD) : sWhile n ft fb S = (whileGo ft fb n S) := rfl
@[simp] theorem e_sYes (S : List SD) : sYes  S = (some (true, S)) := rfl
@[simp] theorem e_sLC (vs : List Nat) (fi : LS) (gs : GS) (fc : BS) (fd : DS) (S : List SD) : sLC vs fi gs fc fd S = ((fi S).bind fun p => if p.1.length < 100000 then lcGo vs gs fc fd p.1 p.2 else none) := rfl
@[simp] theorem e_sApp (n k : Nat) (f g : AS) (S : List SD) : sApp n k f g S = ((f S).bind fun p => (g p.2).bind fun q => if p.1.length = n ∧ q.1.length = k then some (p.1 ++ q.1, q.2) else none) := rfl
@[simp] theorem e_sCallR (n : Nat) (m : Fn) (fs : AS) (S : List SD) : sCallR n m fs S = ((fs S).bind fun p => (opSDs p.2 p.1).bind fun Dl => if p.1.length = n ∧ (ownIx p.2 p.1).Nodup then (m Dl).map fun q => (q.1, wbGo p.1 q.2 0 p.2) else none) := rfl
@[simp] theorem e_sPerm (pm : List Nat) (f : AS) (S : List SD) : sPerm pm f S = ((f S).map fun p => (perm pm p.1, p.2)) := rfl
@[simp] theorem e_sCall (n : Nat) (m : Fn) (fs : AS) (S : List SD) : sCall n m fs S = ((sCallR n m fs S).bind fun p => (resD p.1).map fun x => (.dat x, p.2)) := rfl
@[simp] theorem e_sCallL (n : Nat) (m : Fn) (fs : AS) (S : List SD) : sCallL n m fs S = ((sCallR n m fs S).bind fun p => (resL p.1).map fun x => (x, p.2)) := rfl
@[simp] theorem e_sIsi (T : Tg) (fe : ES) (S : List SD) : sIsi T fe S = ((fe S).bind fun p => (p.1.get p.2).bind fun x => (isTy T x).map fun b => (.dat (.bool b), p.2)) := rfl
@[simp] theorem e_sIsi2 (T U : Tg) (fe : ES) (S : List SD) : sIsi2 T U fe S = ((fe S).bind fun p => (p.1.get p.2).bind fun x => (isTy T x).bind fun b => (isTy U x).map fun c => (.dat (.bool (b || c)), p.2)) := rfl
@[simp] theorem e_sSeqI (fd : DS) (S : List SD) : sSeqI fd S = ((fd S).bind fun p => (dItems p.1).map fun xs => (xs, p.2)) := rfl
@[simp] theorem e_sTakeA (f : AS) (S : List SD) : sTakeA f S = ((f S).bind fun p => takeAll p.2 p.1) := rfl
@[simp] theorem e_sArgI (g : List PyData → Option (List PyData)) (f : AS) (S : List SD) : sArgI g f S = ((sTakeA f S).bind fun p => (g p.1).map fun xs => (xs, p.2)) := rfl
@[simp] theorem e_sNoPart (S : List SD) : sNoPart  S = (some (none, S)) := rfl
@[simp] theorem e_sPart (f : ES) (S : List SD) : sPart f S = ((f S).bind fun p => (p.1.get p.2).bind fun x => (dIntO x).map fun i => (some i, p.2)) := rfl
@[simp] theorem e_sSlice (fe : ES) (fl fh : OS) (S : List SD) : sSlice fe fl fh S = ((fe S).bind fun p => (fl p.2).bind fun q => (fh q.2).bind fun r => (p.1.get r.2).bind fun x => (dCut x q.1 r.1).map fun z => (.dat z, r.2)) := rfl
@[simp] theorem e_sSliceL (fe : ES) (fl fh : OS) (S : List SD) : sSliceL fe fl fh S = ((fe S).bind fun p => (fl p.2).bind fun q => (fh q.2).bind fun r => (p.1.get r.2).bind fun x => (dCutL x q.1 r.1).map fun z => (z, r.2)) := rfl
@[simp] theorem e_vD (fd : DS) (S : List SD) : vD fd S = ((fd S).map fun p => (.d p.1, p.2)) := rfl
@[simp] theorem e_vL (fl : LS) (S : List SD) : vL fl S = ((fl S).map fun p => (.own false p.1, p.2)) := rfl
@[simp] theorem e_sSetV (fv : VS) (i : Nat) (S : List SD) : sSetV fv i S = ((fv S).map fun p => .nx (p.2.set i p.1)) := rfl
@[simp] theorem e_sRetVS (fv : VS) (S : List SD) : sRetVS fv S = ((fv S).map fun p => .rt p.1 p.2) := rfl
@[simp] theorem e_sPar (i j : Nat) (fv fw : VS) (S : List SD) : sPar i j fv fw S = ((fv S).bind fun p => (asideV p.1 fw p.2).map fun q => .nx ((q.2.set i p.1).set j q.1)) := rfl
@[simp] theorem e_sPar3 (i j l : Nat) (fs : AS) (S : List SD) : sPar3 i j l fs S = ((sTakeA fs S).bind fun p => set3 i j l p.2 p.1) := rfl
@[simp] theorem e_sIndex (fo fa : ES) (S : List SD) : sIndex fo fa S = ((fo S).bind fun p => (p.1.get p.2).bind fun l => if isList l = true then (fa p.2).bind fun q => (p.1.get q.2).bind fun x => (q.1.get q.2).bind fun y => (dIndex x y).map fun z => (.dat z, q.2) else none) := rfl
@[simp] theorem e_sRg1 (fe : ES) (S : List SD) : sRg1 fe S = ((fe S).bind fun p => (p.1.get p.2).bind fun x => (dIntO x).map fun n => ((0, n), p.2)) := rfl
@[simp] theorem e_sRg2 (fe fa : ES) (S : List SD) : sRg2 fe fa S = ((fe S).bind fun p => (fa p.2).bind fun q => (p.1.get q.2).bind fun x => (q.1.get q.2).bind fun y => (dIntO x).bind fun n => (dIntO y).map fun m => ((n, m), q.2)) := rfl
@[simp] theorem e_sLstRg (f : RS) (S : List SD) : sLstRg f S = ((f S).bind fun p => if rgB p.1.1 p.1.2 = true then some (rngD p.1.1 (p.1.2 - p.1.1).toNat, p.2) else none) := rfl
@[simp] theorem e_sTupRg (f : RS) (S : List SD) : sTupRg f S = ((f S).bind fun p => if rgB p.1.1 p.1.2 = true then some (.dat (.tuple (rngD p.1.1 (p.1.2 - p.1.1).toNat)), p.2) else none) := rfl
@[simp] theorem e_sDict0 (S : List SD) : sDict0  S = (some (.dat (.dict []), S)) := rfl

@[simp] theorem e_sSeq (f g : SSem) (S : List SD) : sSeq f g S = ((f S).bind fun o => match o with
  | .nx S1 => g S1
  | o => some o) := rfl
@[simp] theorem told_d (x : PyData) : sdTold (some (.d x)) = true := rfl
@[simp] theorem told_o (b : Bool) (x : List PyData) : sdTold (some (.own b x)) = true := rfl
@[simp] theorem told_u : sdTold (some .un) = false := rfl
@[simp] theorem get_d (x : PyData) : sdGet (.d x) = some x := rfl
@[simp] theorem get_o (b : Bool) (x : List PyData) : sdGet (.own b x) = some (.list x) := rfl
@[simp] theorem op_dat (S : List SD) (x : PyData) : Op.get S (.dat x) = some x := rfl
@[simp] theorem op_slot (S : List SD) (i : Nat) : Op.get S (.slot i) = (S[i]?).bind sdGet := rfl
@[simp] theorem takeO_dat (S : List SD) (x : PyData) : takeO S (.dat x) = some (x, S) := rfl
@[simp] theorem takeO_slot (S : List SD) (i : Nat) : takeO S (.slot i) = takeS S i (S[i]?) := rfl
@[simp] theorem takeS_d (S : List SD) (i : Nat) (x : PyData) : takeS S i (some (.d x)) = some (x, S) := rfl
@[simp] theorem takeS_o (S : List SD) (i : Nat) (x : List PyData) : takeS S i (some (.own false x)) = some (.list x, S.set i (.d (.list x))) := rfl
@[simp] theorem takeAll_nil (S : List SD) : takeAll S [] = some ([], S) := rfl
@[simp] theorem takeAll_cons (S : List SD) (o : Op) (os : List Op) : takeAll S (o :: os) = ((takeO S o).bind fun p => (takeAll p.2 os).map fun q => (p.1 :: q.1, q.2)) := rfl
@[simp] theorem getAll_nil (S : List SD) : getAll S [] = some [] := rfl
@[simp] theorem getAll_cons (S : List SD) (o : Op) (os : List Op) : getAll S (o :: os) = ((o.get S).bind fun x => (getAll S os).map fun xs => x :: xs) := rfl
@[simp] theorem bor_o (b : Bool) (x : List PyData) : bor (.own b x) = .own true x := rfl
@[simp] theorem bor_d (x : PyData) : bor (.d x) = .d x := rfl
@[simp] theorem bor_u : bor .un = .un := rfl
@[simp] theorem borGo_nil (vs : List Nat) (k : Nat) : borGo vs k [] = [] := rfl
@[simp] theorem borGo_cons (vs : List Nat) (k : Nat) (s : SD) (S : List SD) : borGo vs k (s :: S) = (if k ∈ vs then .un else bor s) :: borGo vs (k + 1) S := rfl
@[simp] theorem unb1_oo (b : Bool) (x y : List PyData) : unb1 (.own b x) (.own true y) = .own b y := rfl
@[simp] theorem unb1_d (x : PyData) (s : SD) : unb1 (.d x) s = .d x := by cases s <;> rfl
@[simp] theorem unb1_u (s : SD) : unb1 .un s = .un := by cases s <;> rfl
@[simp] theorem unbGo_cons (vs : List Nat) (k : Nat) (s s' : SD) (S S' : List SD) : unbGo vs k (s :: S) (s' :: S') = (if k ∈ vs then s else unb1 s s') :: unbGo vs (k + 1) S S' := by cases S <;> rfl
@[simp] theorem unbGo_nil (vs : List Nat) (k : Nat) : unbGo vs k [] [] = [] := rfl
@[simp] theorem fin_nil (S : List SD) : fin [] S = some [] := by cases S <;> rfl
@[simp] theorem fin_d (x : PyData) (Dl : List SD) (s : SD) (S : List SD) : fin (.d x :: Dl) (s :: S) = (fin Dl S).map fun z => .d x :: z := rfl
@[simp] theorem fin_o (b : Bool) (x y : List PyData) (Dl S : List SD) : fin (.own b x :: Dl) (.own true y :: S) = (fin Dl S).map fun z => .own true y :: z := rfl
@[simp] theorem defOut_nx (Dl S : List SD) : defOut Dl (.nx S) = (fin Dl S).map fun z => (.d .none, z) := rfl
@[simp] theorem defOut_rt (Dl S : List SD) (r : SD) : defOut Dl (.rt r S) = (fin Dl S).map fun z => (r, z) := rfl
@[simp] theorem opSD_dat (S : List SD) (x : PyData) : opSD S (.dat x) = some (.d x) := rfl
@[simp] theorem opSD_slot (S : List SD) (i : Nat) : opSD S (.slot i) = ((S[i]?).bind fun s => match s with
    | .un => none
    | s => some (bor s)) := rfl
@[simp] theorem opSDs_nil (S : List SD) : opSDs S [] = some [] := rfl
@[simp] theorem opSDs_cons (S : List SD) (o : Op) (os : List Op) : opSDs S (o :: os) = ((opSD S o).bind fun s => (opSDs S os).map fun ss => s :: ss) := rfl
@[simp] theorem isOwn_d (x : PyData) : isOwn (some (.d x)) = false := rfl
@[simp] theorem isOwn_o (b : Bool) (x : List PyData) : isOwn (some (.own b x)) = true := rfl
@[simp] theorem isOwnS_o (b : Bool) (x : List PyData) : isOwnS (some (.own b x)) = true := rfl
@[simp] theorem ownIx_nil (S : List SD) : ownIx S [] = [] := rfl
@[simp] theorem ownIx_slot (S : List SD) (i : Nat) (os : List Op) : ownIx S (.slot i :: os) = if isOwn (S[i]?) = true then i :: ownIx S os else ownIx S os := rfl
@[simp] theorem ownIx_dat (S : List SD) (x : PyData) (os : List Op) : ownIx S (.dat x :: os) = ownIx S os := rfl
@[simp] theorem isSlot_s (i j : Nat) : isSlot j (.slot i) = (i == j) := rfl
@[simp] theorem isSlot_d (x : PyData) (j : Nat) : isSlot j (.dat x) = false := rfl
@[simp] theorem findArg_nil (j : Nat) (rs : List SD) : findArg j [] rs = none := rfl
@[simp] theorem findArg_cons (j : Nat) (o : Op) (os : List Op) (rs : List SD) : findArg j (o :: os) rs = if isSlot j o = true then some (rs.headD .un) else findArg j os rs.tail := rfl
@[simp] theorem wb1_n (s : SD) : wb1 none s = s := rfl
@[simp] theorem wb1_s (r s : SD) : wb1 (some r) s = unb1 s r := rfl
@[simp] theorem wbGo_nil (os : List Op) (rs : List SD) (j : Nat) : wbGo os rs j [] = [] := rfl
@[simp] theorem wbGo_cons (os : List Op) (rs : List SD) (j : Nat) (s : SD) (S : List SD) : wbGo os rs j (s :: S) = wb1 (findArg j os rs) s :: wbGo os rs (j + 1) S := rfl
@[simp] theorem resD_d (x : PyData) : resD (.d x) = some x := rfl
@[simp] theorem resD_o (x : List PyData) : resD (.own false x) = some (.list x) := rfl
@[simp] theorem resL_o (x : List PyData) : resL (.own false x) = some x := rfl
@[simp] theorem retS_o (S : List SD) (i : Nat) (x : List PyData) : retS S i (some (.own false x)) = some (.rt (.own false x) (S.set i .un)) := rfl
@[simp] theorem retS_d (S : List SD) (i : Nat) (x : PyData) : retS S i (some (.d x)) = some (.rt (.d x) S) := rfl
@[simp] theorem e_gsName (i : Nat) (x : PyData) (S : List SD) : gsName i x S = some (S.set i (.d x)) := rfl
@[simp] theorem e_gsNil (S : List SD) : gsNil [] S = some S := rfl
@[simp] theorem e_gsCons (g : GS) (gs : List PyData → List SD → Option (List SD)) (x : PyData) (xs : List PyData) (S : List SD) : gsCons g gs (x :: xs) S = (g x S).bind fun S1 => gs xs S1 := rfl
@[simp] theorem e_gsTup (n : Nat) (gs : List PyData → List SD → Option (List SD)) (xs : List PyData) (S : List SD) : gsTup n gs (.tuple xs) S = if xs.length = n then gs xs S else none := rfl
@[simp] theorem e_gsSub (i : Nat) (fi : ES) (x : PyData) (S : List SD) : gsSub i fi x S = if isOwnS (S[i]?) = true then (fi S).bind fun p => (p.1.get p.2).bind fun y => (dIntO y).bind fun k => setAt i x k p.2 (p.2[i]?) else none := rfl
@[simp] theorem e_setAt (i : Nat) (x : PyData) (k : Int) (S : List SD) (b : Bool) (xs : List PyData) : setAt i x k S (some (.own b xs)) = (ixN xs.length k).map fun j => S.set i (.own b (xs.set j x)) := rfl
@[simp] theorem dIntO_i (i : Int) : dIntO (.int i) = some i := rfl
@[simp] theorem dItems_t (xs : List PyData) : dItems (.tuple xs) = some xs := rfl
@[simp] theorem dItems_l (xs : List PyData) : dItems (.list xs) = some xs := rfl
@[simp] theorem isList_l (xs : List PyData) : isList (.list xs) = true := rfl
@[simp] theorem asideV_d (x : PyData) (f : VS) : asideV (.d x) f = f := rfl
@[simp] theorem asideV_o (b : Bool) (x : List PyData) (f : VS) (S : List SD) : asideV (.own b x) f S = (f (borGo [] 0 S)).map fun p => (p.1, unbGo [] 0 S p.2) := rfl
@[simp] theorem e_vLCt (fl : LS) : vLC true fl = vD (sTake (sKeep fl)) := rfl
@[simp] theorem e_vLCf (fl : LS) : vLC false fl = vL fl := rfl
@[simp] theorem e_sChain (g g' : PyData → PyData → Option PyData) (f f' f'' : ES) (S : List SD) : sChain g g' f f' f'' S = ((f S).bind fun p => (f' p.2).bind fun q => (p.1.get q.2).bind fun x => (q.1.get q.2).bind fun y => (g x y).bind fun z => (dBool z).bind fun k =>
  if k = true then (f'' q.2).bind fun s => (q.1.get s.2).bind fun y' => (s.1.get s.2).bind fun w => (g' y' w).map fun z' => (.dat z', s.2) else some (.dat (.bool false), q.2)) := rfl
def methS (i : Nat) (g : List PyData → List PyData → Option (PyData × List PyData)) (ys : List PyData) (S : List SD) : Option SD → Option (Op × List SD)
  | some (.own b xs) => (g xs ys).map fun z => (.dat z.1, S.set i (.own b z.2))
  | _ => none
@[simp] theorem e_methS (i : Nat) (g : List PyData → List PyData → Option (PyData × List PyData)) (ys : List PyData) (S : List SD) (b : Bool) (xs : List PyData) : methS i g ys S (some (.own b xs)) = (g xs ys).map fun z => (.dat z.1, S.set i (.own b z.2)) := rfl
@[simp] theorem e_sMeth (i : Nat) (g : List PyData → List PyData → Option (PyData × List PyData)) (fs : AS) (S : List SD) : sMeth i g fs S = if isOwnS (S[i]?) = true then (sTakeA fs S).bind fun p => methS i g p.1 p.2 (p.2[i]?) else none := by
  unfold sMeth
  split
  · rename_i h
    rw [h]
    simp only [isOwnS, if_true]
    rfl
  · rename_i h
    cases q : S[i]? with
    | none => rfl
    | some sd =>
      cases sd with
      | own b x => exact absurd q (h b x)
      | _ => rfl
/-! data -/
@[simp] theorem dLt_i (i j : Int) : dLt (.int i) (.int j) = some (.bool (decide (i < j))) := rfl
@[simp] theorem dLe_i (i j : Int) : dLe (.int i) (.int j) = some (.bool (decide (i ≤ j))) := rfl
@[simp] theorem dGt_i (i j : Int) : dGt (.int i) (.int j) = some (.bool (decide (j < i))) := rfl
@[simp] theorem dGe_i (i j : Int) : dGe (.int i) (.int j) = some (.bool (decide (j ≤ i))) := rfl
@[simp] theorem dSub_i (i j : Int) : dSub (.int i) (.int j) = some (.int (i - j)) := rfl
@[simp] theorem dAdd_i (i j : Int) : dAdd (.int i) (.int j) = some (.int (i + j)) := rfl
@[simp] theorem dAdd_t (x y : List PyData) : dAdd (.tuple x) (.tuple y) = if x.length + y.length ≤ 100000 then some (.tuple (x ++ y)) else none := rfl
@[simp] theorem dAdd_l (x y : List PyData) : dAdd (.list x) (.list y) = if x.length + y.length ≤ 100000 then some (.list (x ++ y)) else none := rfl
@[simp] theorem dNeg_i (i : Int) : dNeg (.int i) = some (.int (-i)) := rfl
@[simp] theorem dMod_i (i j : Int) : dMod (.int i) (.int j) = if 0 < j then some (.int (i % j)) else none := rfl
@[simp] theorem dDiv_i (i j : Int) : dDiv (.int i) (.int j) = if CDiv i j then some (.int (i / j)) else none := rfl
@[simp] theorem dPow_i (i j : Int) : dPow (.int i) (.int j) = if CPow i j then some (.int (i ^ j.toNat)) else none := rfl
@[simp] theorem dMulX_i (i j : Int) : dMulX (.int i) (.int j) = if CMul i j then some (.int (i * j)) else none := rfl
@[simp] theorem dMulX_t (x : List PyData) (k : Int) : dMulX (.tuple x) (.int k) = if -1000 ≤ k ∧ k ≤ 1000 ∧ x.length ≤ 1000 then some (.tuple (List.replicate k.toNat x).flatten) else none := rfl
@[simp] theorem dIx_t (x : List PyData) (i : Int) : dIx (.tuple x) (.int i) = atI x i := rfl
@[simp] theorem dIx_l (x : List PyData) (i : Int) : dIx (.list x) (.int i) = atI x i := rfl
@[simp] theorem dLen_t (x : List PyData) : dLen [.tuple x] = some (.int x.length) := rfl
@[simp] theorem dLen_l (x : List PyData) : dLen [.list x] = some (.int x.length) := rfl
@[simp] theorem dLen_s (x : List PyData) : dLen [.dict [(.none, .list x)]] = some (.int x.length) := rfl
@[simp] theorem dIx_s (x : List PyData) (i : Int) : dIx (.dict [(.none, .list x)]) (.int i) = atI x i := rfl
@[simp] theorem dBool_b (b : Bool) : dBool (.bool b) = some b := rfl
@[simp] theorem dEq_ii (i j : Int) : dEq (.int i) (.int j) = some (.bool (decide (i = j))) := by
  have : dEq (.int i) (.int j) = if fitN 60 (.int i) = true ∧ fitN 60 (.int j) = true then some (.bool (PyData.eqv (.int i) (.int j))) else none := rfl
  rw [this, if_pos ⟨fit_int _ _, fit_int _ _⟩]
  have : PyData.eqv (.int i) (.int j) = decide (i = j) := by simp only [PyData.eqv]; rw [Bool.eq_iff_iff]; simp
  rw [this]
@[simp] theorem dNe_ii (i j : Int) : dNe (.int i) (.int j) = some (.bool (!decide (i = j))) := by
  have : dNe (.int i) (.int j) = if fitN 60 (.int i) = true ∧ fitN 60 (.int j) = true then some (.bool (!PyData.eqv (.int i) (.int j))) else none := rfl
  rw [this, if_pos ⟨fit_int _ _, fit_int _ _⟩]
  have : PyData.eqv (.int i) (.int j) = decide (i = j) := by simp only [PyData.eqv]; rw [Bool.eq_iff_iff]; simp
  rw [this]
@[simp] theorem dEq_ss (i j : Str) : dEq (.str i) (.str j) = some (.bool (decide (i = j))) := rfl
@[simp] theorem dNe_ss (i j : Str) : dNe (.str i) (.str j) = some (.bool (!decide (i = j))) := rfl
@[simp] theorem dIs_bb (i j : Bool) : dIs (.bool i) (.bool j) = some (.bool (decide (i = j))) := rfl
@[simp] theorem dIs_n (x : PyData) : dIs x .none = some (.bool (isNoneD x)) := rfl
@[simp] theorem dIsNot_n (x : PyData) : dIsNot x .none = some (.bool (!isNoneD x)) := rfl
@[simp] theorem dInt_i (i : Int) : dInt [.int i] = some (.int i) := rfl
@[simp] theorem dTuple_l (x : List PyData) : dTuple [.list x] = some (.tuple x) := rfl
@[simp] theorem dTuple_t (x : List PyData) : dTuple [.tuple x] = some (.tuple x) := rfl
@[simp] theorem dListL_l (x : List PyData) : dListL [.list x] = some x := rfl
@[simp] theorem dListL_t (x : List PyData) : dListL [.tuple x] = some x := rfl
@[simp] theorem dAll_m (bs : List Bool) : dAll [.list (bs.map .bool)] = some (.bool (bs.all id)) := by simp [dAll, dBools_map]
@[simp] theorem dAny_m (bs : List Bool) : dAny [.list (bs.map .bool)] = some (.bool (bs.any id)) := by simp [dAny, dBools_map]
theorem dAll_f {α : Type} (f : α → Bool) (xs : List α) : dAll [.list (xs.map fun x => .bool (f x))] = some (.bool (xs.all f)) := by
  have h : (xs.map fun x => PyData.bool (f x)) = (xs.map f).map .bool := by simp
  rw [h, dAll_m]; simp
@[simp] theorem dAll_c {α : Type} (f : α → Bool) (xs : List α) : dAll [.list (xs.map (PyData.bool ∘ f))] = some (.bool (xs.all f)) := dAll_f f xs
theorem dAny_f {α : Type} (f : α → Bool) (xs : List α) : dAny [.list (xs.map fun x => .bool (f x))] = some (.bool (xs.any f)) := by
  have h : (xs.map fun x => PyData.bool (f x)) = (xs.map f).map .bool := by simp
  rw [h, dAny_m]; simp
@[simp] theorem dAny_c {α : Type} (f : α → Bool) (xs : List α) : dAny [.list (xs.map (PyData.bool ∘ f))] = some (.bool (xs.any f)) := dAny_f f xs
@[simp] theorem dMax_ii (i j : Int) : dMax [.int i, .int j] = some (.int (if j > i then j else i)) := rfl
@[simp] theorem dMin_ii (i j : Int) : dMin [.int i, .int j] = some (.int (if j < i then j else i)) := rfl
@[simp] theorem dAbs_i (i : Int) : dAbs [.int i] = some (.int (if i < 0 then -i else i)) := rfl
@[simp] theorem dDivmod_ii (i j : Int) : dDivmod [.int i, .int j] = if CDiv i j then some (.tuple [.int (i / j), .int (i % j)]) else none := rfl
theorem rngI_ok {j : Int} (h1 : 0 ≤ j) (h2 : j ≤ 100000) : rngI [.int j] = some (rngD 0 j.toNat) := by
  unfold rngI
  exact if_pos (by omega)
theorem rngI_n (n : Nat) (h : n ≤ 100000) : rngI [.int n] = some (rngD 0 n) := by
  have e : ((n : Int)).toNat = n := Int.toNat_natCast n
  have := rngI_ok (j := (n : Int)) (Int.natCast_nonneg n) (by omega)
  rw [e] at this
  exact this
@[simp] theorem enumI_t (x : List PyData) : enumI [.tuple x] = some (enumD 0 x) := rfl
@[simp] theorem enumI_l (x : List PyData) : enumI [.list x] = some (enumD 0 x) := rfl
@[simp] theorem zipI_t (x y : List PyData) : zipI [.tuple x, .tuple y] = some (zipD x y) := rfl
@[simp] theorem zipI_l (x y : List PyData) : zipI [.list x, .list y] = some (zipD x y) := rfl
@[simp] theorem dCut_t (x : List PyData) (lo hi : Option Int) : dCut (.tuple x) lo hi = some (.tuple (cutD x lo hi)) := rfl
@[simp] theorem dCut_l (x : List PyData) (lo hi : Option Int) : dCut (.list x) lo hi = some (.list (cutD x lo hi)) := rfl
@[simp] theorem dRev_t (x : List PyData) : dRev (.tuple x) = some (.tuple x.reverse) := rfl
@[simp] theorem dRev_l (x : List PyData) : dRev (.list x) = some (.list x.reverse) := rfl
@[simp] theorem mAppend_1 (x : List PyData) (y : PyData) : mAppend x [y] = if x.length < 100000 then some (.none, x ++ [y]) else none := rfl
@[simp] theorem isTy_i (T : Tg) (i : Int) : isTy T (.int i) = some (tgIs T .int) := rfl
@[simp] theorem isTy_b (T : Tg) (i : Bool) : isTy T (.bool i) = some (tgIs T .bool) := rfl
@[simp] theorem isTy_n (T : Tg) : isTy T .none = some (tgIs T .none) := rfl
@[simp] theorem isTy_s (T : Tg) (i : Str) : isTy T (.str i) = some (tgIs T .str) := rfl
@[simp] theorem isTy_t (T : Tg) (i : List PyData) : isTy T (.tuple i) = some (tgIs T .tuple) := rfl
@[simp] theorem isTy_l (T : Tg) (i : List PyData) : isTy T (.list i) = some (tgIs T .list) := rfl
@[simp] theorem isTy_d (T : Tg) : isTy T (.dict []) = some (tgIs T .dict) := rfl
@[simp] theorem isNoneD_n : isNoneD .none = true := rfl
@[simp] theorem isNoneD_t (x : List PyData) : isNoneD (.tuple x) = false := rfl
@[simp] theorem isNoneD_l (x : List PyData) : isNoneD (.list x) = false := rfl
@[simp] theorem isNoneD_i (x : Int) : isNoneD (.int x) = false := rfl
@[simp] theorem isNoneD_s (x : Str) : isNoneD (.str x) = false := rfl

/-! ### comprehensions and loops -/
/-- one turn of a comprehension -/
def lcStep (vs : List Nat) (gs : GS) (fc : BS) (fd : DS) (x : PyData) (S : List SD) : Option (Option PyData × List SD) :=
  (gs x (borGo vs 0 S)).bind fun S1 => (fc S1).bind fun p => if p.1 = true then (fd p.2).map fun q => (some q.1, unbGo vs 0 S q.2) else some (none, unbGo vs 0 S p.2)
theorem lcGo_nil (vs : List Nat) (gs : GS) (fc : BS) (fd : DS) (S : List SD) : lcGo vs gs fc fd [] S = some ([], S) := rfl
theorem lcGo_cons (vs : List Nat) (gs : GS) (fc : BS) (fd : DS) (x : PyData) (xs : List PyData) (S : List SD) :
    lcGo vs gs fc fd (x :: xs) S = (lcStep vs gs fc fd x S).bind fun p => (lcGo vs gs fc fd xs p.2).map fun z => (p.1.toList ++ z.1, z.2) := by
  show ((gs x (borGo vs 0 S)).bind fun S1 => (fc S1).bind fun p => if p.1 = true then (fd p.2).bind fun q => (lcGo vs gs fc fd xs (unbGo vs 0 S q.2)).map fun z => (q.1 :: z.1, z.2) else lcGo vs gs fc fd xs (unbGo vs 0 S p.2)) = _
  unfold lcStep
  cases gs x (borGo vs 0 S) with
  | none => rfl
  | some S1 =>
    simp only [Option.bind_some]
    cases fc S1 with
    | none => rfl
    | some p =>
      simp only [Option.bind_some]
      cases hp : p.1 with
      | true =>
        simp only [if_true]
        cases fd p.2 with
        | none => rfl
        | some q => simp
      | false => simp
/-- the slots stay as they are -/
theorem lc_stable {vs : List Nat} {gs : GS} {fc : BS} {fd : DS} {S : List SD} (F : PyData → Option PyData) : ∀ (xs : List PyData), (∀ x ∈ xs, lcStep vs gs fc fd x S = some (F x, S)) → lcGo vs gs fc fd xs S = some (xs.filterMap F, S)
  | [], _ => rfl
  | x :: xs, h => by
    rw [lcGo_cons, h x (by simp)]
    simp only [Option.bind_some]
    rw [lc_stable F xs fun y hy => h y (List.mem_cons_of_mem _ hy)]
    cases hF : F x <;> simp [hF]
theorem lc_map {vs : List Nat} {gs : GS} {fc : BS} {fd : DS} {S : List SD} (F : PyData → PyData) (xs : List PyData) (h : ∀ x ∈ xs, lcStep vs gs fc fd x S = some (some (F x), S)) : lcGo vs gs fc fd xs S = some (xs.map F, S) := by
  rw [lc_stable (fun x => some (F x)) xs h]
  have : List.filterMap (fun x => some (F x)) xs = xs.map F := by induction xs with
    | nil => rfl
    | cons x xs ih => simp [ih fun y hy => h y (List.mem_cons_of_mem _ hy)]
  rw [this]
/-- the slots keep to I, each new item to R -/
theorem lc_inv {vs : List Nat} {gs : GS} {fc : BS} {fd : DS} (I : List SD → Prop) (R : PyData → Prop) : ∀ (xs : List PyData), (∀ x ∈ xs, ∀ S, I S → ∃ y S', lcStep vs gs fc fd x S = some (some y, S') ∧ I S' ∧ R y) → ∀ S, I S →
    ∃ ys S', lcGo vs gs fc fd xs S = some (ys, S') ∧ I S' ∧ ys.length = xs.length ∧ ∀ y ∈ ys, R y
  | [], _, S, hS => ⟨[], S, rfl, hS, rfl, by simp⟩
  | x :: xs, h, S, hS => by
    obtain ⟨y, S1, h1, h2, h3⟩ := h x (by simp) S hS
    obtain ⟨ys, S2, h4, h5, h6, h7⟩ := lc_inv I R xs (fun z hz => h z (List.mem_cons_of_mem _ hz)) S1 h2
    refine ⟨y :: ys, S2, ?_, h5, by simp [h6], fun z hz => ?_⟩
    · rw [lcGo_cons, h1]
      simp [h4]
    · rcases List.mem_cons.mp hz with rfl | hz
      · exact h3
      · exact h7 z hz
/-- .. with a filter -/
theorem lc_invF {vs : List Nat} {gs : GS} {fc : BS} {fd : DS} (I : List SD → Prop) : ∀ (xs : List PyData) (F : PyData → PyData), (∀ x ∈ xs, ∀ S, I S → ∃ (b : Bool) (S' : List SD), lcStep vs gs fc fd x S = some (if b then some (F x) else none, S') ∧ I S') → ∀ S, I S →
    ∃ (ys : List PyData) (S' : List SD), lcGo vs gs fc fd xs S = some (ys.map F, S') ∧ I S' ∧ ys.Sublist xs
  | [], _, _, S, hS => ⟨[], S, rfl, hS, .refl _⟩
  | x :: xs, F, h, S, hS => by
    obtain ⟨b, S1, h1, h2⟩ := h x (by simp) S hS
    obtain ⟨ys, S2, h4, h5, h6⟩ := lc_invF I xs F (fun z hz => h z (List.mem_cons_of_mem _ hz)) S1 h2
    cases b with
    | true => exact ⟨x :: ys, S2, by rw [lcGo_cons, h1]; simp [h4], h5, h6.cons₂ x⟩
    | false => exact ⟨ys, S2, by rw [lcGo_cons, h1]; simp [h4], h5, h6.cons x⟩
theorem forGo_nil (gs : GS) (fb : SSem) (S : List SD) : forGo gs fb [] S = some (.nx S) := rfl
theorem forGo_cons (gs : GS) (fb : SSem) (x : PyData) (xs : List PyData) (S : List SD) : forGo gs fb (x :: xs) S = ((gs x S).bind fun S1 => (fb S1).bind fun o => match o with
    | .nx S2 => forGo gs fb xs S2
    | .ct S2 => forGo gs fb xs S2
    | .bk S2 => some (.nx S2)
    | .rt r S2 => some (.rt r S2)) := rfl
/-- one turn of a loop that goes on -/
def forStep (gs : GS) (fb : SSem) (x : PyData) (S : List SD) : Option Out := (gs x S).bind fb
theorem for_one {gs : GS} {fb : SSem} {x : PyData} {xs : List PyData} {S S' : List SD} (h : forStep gs fb x S = some (.nx S')) : forGo gs fb (x :: xs) S = forGo gs fb xs S' := by
  unfold forStep at h
  rw [forGo_cons]
  cases q : gs x S with
  | none => rw [q] at h; cases h
  | some S1 =>
    rw [q] at h
    have h : fb S1 = some (.nx S') := h
    simp [h]
theorem for_ret {gs : GS} {fb : SSem} {x : PyData} {xs : List PyData} {S S' : List SD} {r : SD} (h : forStep gs fb x S = some (.rt r S')) : forGo gs fb (x :: xs) S = some (.rt r S') := by
  unfold forStep at h
  rw [forGo_cons]
  cases q : gs x S with
  | none => rw [q] at h; cases h
  | some S1 =>
    rw [q] at h
    have h : fb S1 = some (.rt r S') := h
    simp [h]
/-- the loop keeps to I (told by what has been gone through and what is to come) -/
theorem for_inv {gs : GS} {fb : SSem} (I : List PyData → List SD → Prop) (all : List PyData) : ∀ (xs pre : List PyData), pre ++ xs = all → (∀ pre x post S, pre ++ x :: post = all → I pre S → ∃ S', forStep gs fb x S = some (.nx S') ∧ I (pre ++ [x]) S') → ∀ S, I pre S →
    ∃ S', forGo gs fb xs S = some (.nx S') ∧ I all S'
  | [], pre, e, _, S, hS => ⟨S, rfl, by rw [← e]; simpa using hS⟩
  | x :: xs, pre, e, h, S, hS => by
    obtain ⟨S1, h1, h2⟩ := h pre x xs S e hS
    obtain ⟨S2, h3, h4⟩ := for_inv I all xs (pre ++ [x]) (by simpa using e) h S1 h2
    exact ⟨S2, by rw [for_one h1, h3], h4⟩
end DL

set_option Elab.async false
set_option linter.all false
set_option maxRecDepth 100000
set_option maxHeartbeats 4000000
/-! DM, part 2: plain facts of data. -/
namespace DL
open PySem L2

/-- what isinstance tells of -/
def okT : PyData → Bool
  | .dict kvs => kvs.isEmpty
  | _ => true
@[simp] theorem okT_n : okT .none = true := by simp only [okT]
@[simp] theorem okT_b (b : Bool) : okT (.bool b) = true := by simp only [okT]
@[simp] theorem okT_i (b : Int) : okT (.int b) = true := by simp only [okT]
@[simp] theorem okT_s (b : Str) : okT (.str b) = true := by simp only [okT]
@[simp] theorem okT_t (b : List PyData) : okT (.tuple b) = true := by simp only [okT]
@[simp] theorem okT_l (b : List PyData) : okT (.list b) = true := by simp only [okT]
@[simp] theorem okT_d : okT (.dict []) = true := by simp [okT]
theorem okT_dict {kvs : List (PyData × PyData)} (h : okT (.dict kvs) = true) : kvs = [] := by
  cases kvs with
  | nil => rfl
  | cons a b => cases h
def isInt : PyData → Bool
  | .int _ => true
  | _ => false
def isIn (a b : Int) : PyData → Bool
  | .int i => decide (a ≤ i) && decide (i ≤ b)
  | _ => false
theorem isIn_some {a b : Int} {v : PyData} (h : isIn a b v = true) : ∃ i, v = .int i ∧ a ≤ i ∧ i ≤ b := by
  cases v with
  | int i => simp [isIn] at h; exact ⟨i, rfl, h.1, h.2⟩
  | _ => cases h
theorem ints_of {a b : Int} : ∀ {xs : List PyData}, xs.all (isIn a b) = true → ∃ ns : List Int, xs = ns.map .int ∧ ∀ n ∈ ns, a ≤ n ∧ n ≤ b
  | [], _ => ⟨[], rfl, by simp⟩
  | x :: xs, h => by
    rw [List.all_cons, Bool.and_eq_true] at h
    obtain ⟨i, rfl, h1, h2⟩ := isIn_some h.1
    obtain ⟨ns, rfl, hn⟩ := ints_of h.2
    refine ⟨i :: ns, rfl, fun n hm => ?_⟩
    rcases List.mem_cons.mp hm with rfl | hm
    · exact ⟨h1, h2⟩
    · exact hn n hm
theorem all_ints {a b : Int} {ns : List Int} : (ns.map PyData.int).all (isIn a b) = ns.all fun n => decide (a ≤ n) && decide (n ≤ b) := by
  induction ns with
  | nil => rfl
  | cons n ns ih => rw [List.map_cons, List.all_cons, List.all_cons, ih]; rfl
@[simp] theorem at_0 (a : PyData) (r : List PyData) : atI (a :: r) 0 = some a := by simp [atI, ixN]
theorem atI_nat' (xs : List PyData) (k : Nat) : atI xs (k : Int) = xs[k]? := by
  unfold atI ixN
  simp only [Int.natCast_nonneg, if_true]
  by_cases h : k < xs.length
  · rw [if_pos (by omega)]; simp
  · rw [if_neg (by omega), List.getElem?_eq_none (by omega)]; rfl
@[simp] theorem at_1 (a b : PyData) (r : List PyData) : atI (a :: b :: r) 1 = some b := atI_nat' _ 1
@[simp] theorem at_2 (a b c : PyData) (r : List PyData) : atI (a :: b :: c :: r) 2 = some c := atI_nat' _ 2
@[simp] theorem at_3 (a b c d : PyData) (r : List PyData) : atI (a :: b :: c :: d :: r) 3 = some d := atI_nat' _ 3
@[simp] theorem at_4 (a b c d e : PyData) (r : List PyData) : atI (a :: b :: c :: d :: e :: r) 4 = some e := atI_nat' _ 4
theorem cut_to (xs : List PyData) (k : Nat) : cutD xs none (some (k : Int)) = xs.take k := by
  unfold cutD
  rw [HT.sIx_none, HT.sIx_nat]
  simp [List.take_eq_take_iff]
theorem cut_from (xs : List PyData) (k : Nat) : cutD xs (some (k : Int)) none = xs.drop k := by
  unfold cutD
  rw [HT.sIx_none, HT.sIx_nat]
  by_cases h : k ≤ xs.length
  · rw [Nat.min_eq_left h, List.take_of_length_le (by simp)]
  · rw [Nat.min_eq_right (by omega), List.drop_eq_nil_of_le (by omega), List.drop_eq_nil_of_le (by omega)]; simp
theorem cut_to' (xs : List PyData) (k : Int) (n : Nat) (h : k = n) : cutD xs none (some k) = xs.take n := by rw [h]; exact cut_to xs n
theorem cut_from' (xs : List PyData) (k : Int) (n : Nat) (h : k = n) : cutD xs (some k) none = xs.drop n := by rw [h]; exact cut_from xs n
/-! rising -/
def rising : List Int → Bool
  | [] => true
  | [_] => true
  | x :: y :: r => decide (x < y) && rising (y :: r)
theorem rising_pw : ∀ ns : List Int, rising ns = true ↔ ns.Pairwise (· < ·)
  | [] => by simp [rising]
  | [x] => by simp [rising]
  | x :: y :: r => by
    have ih := rising_pw (y :: r)
    simp only [rising, Bool.and_eq_true, decide_eq_true_eq, ih]
    constructor
    · rintro ⟨h1, h2⟩
      refine List.pairwise_cons.mpr ⟨fun z hz => ?_, h2⟩
      rcases List.mem_cons.mp hz with rfl | hz
      · exact h1
      · exact Int.lt_trans h1 ((List.pairwise_cons.mp h2).1 z hz)
    · intro h
      have h' := List.pairwise_cons.mp h
      exact ⟨h'.1 y (by simp), h'.2⟩
theorem setI_self : ∀ {ns : List Int}, ns.Pairwise (· < ·) → setI ns = ns := fun {ns} h => strict_unique (setI_sorted ns) h fun k => setI_mem k ns
theorem rising_set (ns : List Int) : (decide (ns = setI ns)) = rising ns := by
  rw [Bool.eq_iff_iff, decide_eq_true_eq, rising_pw]
  exact ⟨fun h => by rw [h]; exact setI_sorted ns, fun h => (setI_self h).symm⟩
theorem eqvAll_ints : ∀ ns ms : List Int, PyData.eqvAll (ns.map .int) (ms.map .int) = decide (ns = ms)
  | [], [] => by simp [PyData.eqvAll]
  | [], _ :: _ => by simp [PyData.eqvAll]
  | _ :: _, [] => by simp [PyData.eqvAll]
  | n :: ns, m :: ms => by
    simp only [List.map_cons, PyData.eqvAll, PyData.eqv, eqvAll_ints ns ms]
    rw [Bool.eq_iff_iff]
    simp
theorem fit_ints (n : Nat) (ns : List Int) : fitN (n + 1) (.list (ns.map .int)) = true := by
  rw [fit_list, List.all_eq_true]
  intro x hx
  obtain ⟨i, _, rfl⟩ := List.mem_map.mp hx
  exact fit_int n i
theorem fit_intsT (n : Nat) (ns : List Int) : fitN (n + 1) (.tuple (ns.map .int)) = true := by
  rw [fit_tuple, List.all_eq_true]
  intro x hx
  obtain ⟨i, _, rfl⟩ := List.mem_map.mp hx
  exact fit_int n i
theorem dEq_ints (ns ms : List Int) : dEq (.list (ns.map .int)) (.list (ms.map .int)) = some (.bool (decide (ns = ms))) := by
  have : dEq (.list (ns.map .int)) (.list (ms.map .int)) = if fitN 60 (.list (ns.map .int)) = true ∧ fitN 60 (.list (ms.map .int)) = true then some (.bool (PyData.eqv (.list (ns.map .int)) (.list (ms.map .int)))) else none := rfl
  rw [this, if_pos ⟨fit_ints 59 ns, fit_ints 59 ms⟩]
  simp only [PyData.eqv, eqvAll_ints]
theorem dSetL_ints {ns : List Int} (h1 : ns.length ≤ 1000) (h2 : (setI ns).length < 64) : dSetL [.tuple (ns.map .int)] = some ((setI ns).map .int) := by
  simp only [dSetL, dInts_map, Option.bind_some]
  rw [if_pos ⟨h1, h2⟩]
/-- few members: within a .. b -/
theorem setI_few {ns : List Int} {m : Nat} (h : ∀ n ∈ ns, 0 ≤ n ∧ n < m) : (setI ns).length ≤ m := by
  have hs := setI_sorted ns
  have hm : ∀ k ∈ setI ns, 0 ≤ k ∧ k < m := fun k hk => h k ((setI_mem k ns).mp hk)
  generalize setI ns = l at hs hm
  have key : ∀ (l : List Int) (a : Int), l.Pairwise (· < ·) → (∀ k ∈ l, a ≤ k ∧ k < m) → 0 ≤ a → (l.length : Int) ≤ if a ≤ m then m - a else 0 := by
    intro l
    induction l with
    | nil => intro a _ _ ha; simp; split <;> omega
    | cons x l ih =>
      intro a hp hk ha
      have hp' := List.pairwise_cons.mp hp
      have hx := hk x (by simp)
      have := ih (x + 1) hp'.2 (fun k hk' => ⟨by have := hp'.1 k hk'; omega, (hk k (List.mem_cons_of_mem _ hk')).2⟩) (by omega)
      simp only [List.length_cons]
      split at this <;> split <;> omega
  have := key l 0 hs hm (Int.le_refl 0)
  split at this <;> omega
end DL

set_option Elab.async false
set_option linter.all false
set_option maxRecDepth 100000
set_option maxHeartbeats 4000000
/-! DM, part 3: first ones, indices, filtered counts. -/
namespace DL
open PySem L2

theorem fit_self {n : Nat} {d : PyData} (h : fitN n d = true) : PyData.eqv d d = true := SeqAt.eqv_refl d (fit_lay h)
def addF (acc : List PyData) (x : PyData) : List PyData := if (acc.any fun z => PyData.eqv z x) = true then acc else acc ++ [x]
def byF (xs : List PyData) : List PyData := xs.foldl addF []
theorem byF_snoc (xs : List PyData) (x : PyData) : byF (xs ++ [x]) = addF (byF xs) x := by simp [byF, List.foldl_append]
@[simp] theorem byF_nil : byF [] = [] := rfl
theorem snoc_ind {α : Type} {P : List α → Prop} (h0 : P []) (h1 : ∀ xs x, P xs → P (xs ++ [x])) : ∀ xs, P xs := fun xs => by
  have : ∀ n, ∀ xs : List α, xs.length = n → P xs := by
    intro n
    induction n with
    | zero => intro xs h; rw [List.eq_nil_of_length_eq_zero h]; exact h0
    | succ n ih =>
      intro xs h
      have hne : xs ≠ [] := fun e => by rw [e] at h; cases h
      rw [← List.dropLast_concat_getLast hne]
      exact h1 _ _ (ih _ (by rw [List.length_dropLast, h]; rfl))
  exact this _ xs rfl
theorem byF_sub : ∀ (xs : List PyData), ∀ y ∈ byF xs, y ∈ xs := snoc_ind (by simp) fun xs x ih y hy => by
  rw [byF_snoc] at hy
  unfold addF at hy
  split at hy
  · exact List.mem_append_left _ (ih y hy)
  · rcases List.mem_append.mp hy with h | h
    · exact List.mem_append_left _ (ih y h)
    · exact List.mem_append_right _ h
theorem byF_len : ∀ (xs : List PyData), (byF xs).length ≤ xs.length := snoc_ind (by simp) fun xs x ih => by
  rw [byF_snoc]
  unfold addF
  split <;> simp <;> omega
theorem byF_has {n : Nat} : ∀ (xs : List PyData), (∀ x ∈ xs, fitN n x = true) → ∀ x ∈ xs, (byF xs).any (fun z => PyData.eqv z x) = true := snoc_ind (by simp) fun xs x ih hf y hy => by
  rw [byF_snoc]
  unfold addF
  rcases List.mem_append.mp hy with h | h
  · have := ih (fun z hz => hf z (List.mem_append_left _ hz)) y h
    split
    · exact this
    · rw [List.any_append, this]; rfl
  · have hx : y = x := by simpa using h
    subst hx
    split
    · assumption
    · rw [List.any_append]
      simp [fit_self (hf y hy)]
theorem byF_ne {n : Nat} {xs : List PyData} (h : xs ≠ []) (hf : ∀ x ∈ xs, fitN n x = true) : 1 ≤ (byF xs).length := by
  cases xs with
  | nil => exact absurd rfl h
  | cons x r =>
    have := byF_has (x :: r) hf x (by simp)
    cases q : byF (x :: r) with
    | nil => rw [q] at this; simp at this
    | cons a b => simp
theorem firstIx_any {d : PyData} : ∀ {xs : List PyData}, xs.any (fun z => PyData.eqv z d) = true → ∃ j, firstIx d xs = some j ∧ j < xs.length
  | [], h => by simp at h
  | z :: r, h => by
    unfold firstIx
    by_cases hz : PyData.eqv z d = true
    · exact ⟨0, by rw [if_pos hz], by simp⟩
    · rw [if_neg hz]
      have : r.any (fun z => PyData.eqv z d) = true := by simpa [hz] using h
      obtain ⟨j, h1, h2⟩ := firstIx_any this
      exact ⟨j + 1, by rw [h1]; rfl, by simp; omega⟩
/-- where each item's like stands among the first ones -/
def numb (xs : List PyData) : List Int := xs.map fun x => (((firstIx x (byF xs)).getD 0 : Nat) : Int)
theorem numb_len (xs : List PyData) : (numb xs).length = xs.length := by simp [numb]
theorem numb_rng {n : Nat} {xs : List PyData} (hf : ∀ x ∈ xs, fitN n x = true) : ∀ k ∈ numb xs, 0 ≤ k ∧ k < (byF xs).length := fun k hk => by
  obtain ⟨x, hx, rfl⟩ := List.mem_map.mp hk
  obtain ⟨j, h1, h2⟩ := firstIx_any (byF_has xs hf x hx)
  rw [h1]
  simp; omega
theorem fit_byF {n : Nat} {xs : List PyData} (hf : ∀ x ∈ xs, fitN n x = true) : fitN (n + 1) (.list (byF xs)) = true := by
  rw [fit_list, List.all_eq_true]
  exact fun x hx => hf x (byF_sub xs x hx)
/-- rising, within 0 .. m - 1 -/
def LotI (m : Int) (ns : List Int) : Prop := ns.Pairwise (· < ·) ∧ ∀ n ∈ ns, 0 ≤ n ∧ n < m
def selE (p : PyData → Bool) : PyData → Option PyData
  | .tuple [.int a, y] => if p y = true then some (.int a) else none
  | _ => none
def selR (p : Int → Bool) : PyData → Option PyData
  | .int a => if p a = true then some (.int a) else none
  | _ => none
theorem enumF (p : PyData → Bool) : ∀ (c : Int) (xs : List PyData), ∃ ns : List Int, (enumD c xs).filterMap (selE p) = ns.map PyData.int ∧ ns.Pairwise (· < ·) ∧ ∀ n ∈ ns, c ≤ n ∧ n < c + xs.length
  | c, [] => ⟨[], rfl, .nil, by simp⟩
  | c, x :: xs => by
    obtain ⟨ns, h1, h2, h3⟩ := enumF p (c + 1) xs
    by_cases hp : p x = true
    · refine ⟨c :: ns, ?_, List.pairwise_cons.mpr ⟨fun n hn => by have := h3 n hn; omega, h2⟩, fun n hn => ?_⟩
      · simp [enumD, selE, hp, h1]
      · rcases List.mem_cons.mp hn with rfl | hn
        · simp; omega
        · have := h3 n hn; simp; omega
    · refine ⟨ns, ?_, h2, fun n hn => ?_⟩
      · simp [enumD, selE, hp, h1]
      · have := h3 n hn; simp; omega
theorem enumD_mem {y : PyData} : ∀ {c : Int} {xs : List PyData}, y ∈ enumD c xs → ∃ a x, y = .tuple [.int a, x] ∧ x ∈ xs ∧ c ≤ a ∧ a < c + xs.length
  | c, [], h => by simp [enumD] at h
  | c, x :: xs, h => by
    simp only [enumD, List.mem_cons] at h
    rcases h with h | h
    · exact ⟨c, x, h, by simp, by omega, by simp; omega⟩
    · obtain ⟨a, z, h1, h2, h3, h4⟩ := enumD_mem h
      exact ⟨a, z, h1, by simp [h2], by omega, by simp; omega⟩
theorem rngF (p : Int → Bool) (n : Nat) : ∃ ns : List Int, (rngD 0 n).filterMap (selR p) = ns.map PyData.int ∧ LotI n ns := by
  refine ⟨((List.range n).map fun (i : Nat) => (i : Int)).filter p, ?_, ?_, fun k hk => ?_⟩
  · unfold rngD
    rw [List.filterMap_map]
    have key : ∀ l : List Nat, List.filterMap (fun i : Nat => selR p (.int (0 + (i : Int)))) l = List.map PyData.int (List.filter p (l.map fun (i : Nat) => (i : Int))) := by
      intro l
      induction l with
      | nil => rfl
      | cons i l ih =>
        rw [List.filterMap_cons, ih]
        by_cases hp : p (i : Int) = true <;> simp [selR, hp]
    exact key _
  · refine List.Pairwise.filter _ ?_
    rw [List.pairwise_map]
    exact List.pairwise_lt_range.imp fun h => by omega
  · have := (List.mem_filter.mp hk).1
    obtain ⟨i, hi, rfl⟩ := List.mem_map.mp this
    have := List.mem_range.mp hi
    omega
theorem rngD_mem {y : PyData} {n : Nat} (h : y ∈ rngD 0 n) : ∃ i : Nat, y = .int (i : Int) ∧ i < n := by
  unfold rngD at h
  obtain ⟨i, hi, rfl⟩ := List.mem_map.mp h
  exact ⟨i, by simp, List.mem_range.mp hi⟩
end DL

set_option Elab.async false
set_option linter.all false
set_option maxRecDepth 100000
set_option maxHeartbeats 4000000
/-! DM, part 4: how long a repr is. -/
namespace DL
open PySem L2
mutual
def wt : PyData → Nat
  | .none => 4
  | .bool _ => 5
  | .int _ => 21
  | .str x => (reprText x).length
  | .list xs => wtL xs + 3
  | .tuple xs => wtL xs + 3
  | .dict _ => 0
def wtL : List PyData → Nat
  | [] => 0
  | x :: xs => wt x + 2 + wtL xs
end
mutual
def okR : PyData → Bool
  | .none => true
  | .bool _ => true
  | .int i => decide (i.natAbs < 100000000000000000000)
  | .str _ => true
  | .list xs => okRL xs
  | .tuple xs => okRL xs
  | .dict _ => false
def okRL : List PyData → Bool
  | [] => true
  | x :: xs => okR x && okRL xs
end
mutual
theorem shown_le : ∀ d : PyData, okR d = true → d.shown.length ≤ wt d ∧ d.showable = true ∧ d.hasDict = false
  | .none, _ => ⟨by simp only [PyData.shown, wt]; decide, by simp only [PyData.showable], by simp only [PyData.hasDict]⟩
  | .bool b, _ => ⟨by cases b <;> simp only [PyData.shown, wt] <;> decide, by simp only [PyData.showable], by simp only [PyData.hasDict]⟩
  | .int i, h => by
    have h : i.natAbs < 10 ^ 20 := by simpa [okR] using h
    refine ⟨?_, ?_, by simp only [PyData.hasDict]⟩
    · simp only [PyData.shown, wt]
      exact Nat.le_trans (Nat.le_of_eq (ofString_length _)) (int_text_length_le10 (k := 20) (by decide) h)
    · simp only [PyData.showable, decide_eq_true_eq]
      by_cases h0 : i.natAbs = 0
      · rw [h0]; decide
      · exact (Nat.log2_lt h0).mpr (Nat.lt_of_lt_of_le h (Nat.le_trans (by decide : 10 ^ 20 ≤ 2 ^ 67) (Nat.pow_le_pow_right (by decide) (by decide))))
  | .str x, _ => ⟨by simp only [PyData.shown, wt]; exact Nat.le_refl _, by simp only [PyData.showable], by simp only [PyData.hasDict]⟩
  | .list xs, h => by
    obtain ⟨h1, h2, h3, h4⟩ := shownAll_le xs (by simpa [okR] using h)
    refine ⟨?_, by simpa only [PyData.showable] using h2, by simpa only [PyData.hasDict] using h3⟩
    simp only [PyData.shown, wt]
    have := listText_len_le (PyData.shownAll xs)
    omega
  | .tuple xs, h => by
    obtain ⟨h1, h2, h3, h4⟩ := shownAll_le xs (by simpa [okR] using h)
    refine ⟨?_, by simpa only [PyData.showable] using h2, by simpa only [PyData.hasDict] using h3⟩
    simp only [PyData.shown, wt]
    have := tupleText_len_le (PyData.shownAll xs)
    omega
  | .dict _, h => by simp [okR] at h
theorem shownAll_le : ∀ xs : List PyData, okRL xs = true → ((PyData.shownAll xs).map (·.length)).sum + 2 * (PyData.shownAll xs).length ≤ wtL xs ∧ PyData.showableAll xs = true ∧ PyData.hasDictAll xs = false ∧ (PyData.shownAll xs).length = xs.length
  | [], _ => ⟨by simp [PyData.shownAll, wtL], by simp only [PyData.showableAll], by simp only [PyData.hasDictAll], by simp [PyData.shownAll]⟩
  | x :: xs, h => by
    have h' := Bool.and_eq_true_iff.mp (show (okR x && okRL xs) = true by simpa [okRL] using h)
    obtain ⟨a1, a2, a3⟩ := shown_le x h'.1
    obtain ⟨b1, b2, b3, b4⟩ := shownAll_le xs h'.2
    refine ⟨?_, by simp only [PyData.showableAll, a2, b2, Bool.and_self], by simp only [PyData.hasDictAll, a3, b3, Bool.or_self], by simp [PyData.shownAll, b4]⟩
    simp only [PyData.shownAll, wtL, List.map_cons, List.sum_cons, List.length_cons]
    omega
end
theorem reprOk_of {d : PyData} (h1 : okR d = true) (h2 : wt d ≤ 1000000) (h3 : d.depth ≤ 60) : reprOk d = true := by
  obtain ⟨a1, a2, a3⟩ := shown_le d h1
  have a4 : d.shown.length ≤ 1000000 := by omega
  simp only [reprOk, a2, a3, a4, h3, Bool.not_false, Bool.true_or, Bool.and_self, decide_true]
/-- items of depth n at most, w signs in all -/
structure G (n w : Nat) (xs : List PyData) : Prop where
  ok : okRL xs = true
  wt : wtL xs ≤ w
  dp : ∀ x ∈ xs, x.depth ≤ n
theorem okRL_all : ∀ xs : List PyData, okRL xs = true ↔ ∀ x ∈ xs, okR x = true
  | [] => by simp [okRL]
  | x :: xs => by simp [okRL, okRL_all xs]
theorem wtL_append : ∀ xs ys : List PyData, wtL (xs ++ ys) = wtL xs + wtL ys
  | [], ys => by simp [wtL]
  | x :: xs, ys => by simp only [List.cons_append, wtL, wtL_append xs ys]; omega
theorem wtL_reverse (xs : List PyData) : wtL xs.reverse = wtL xs := by
  induction xs with
  | nil => rfl
  | cons x xs ih => rw [List.reverse_cons, wtL_append, ih]; simp only [wtL]; omega
variable {n m w v : Nat} {xs ys : List PyData}
theorem G.append (a : G n w xs) (b : G n v ys) : G n (w + v) (xs ++ ys) := by
  refine ⟨(okRL_all _).mpr fun x hx => ?_, by rw [wtL_append]; have := a.wt; have := b.wt; omega, fun x hx => ?_⟩
  · rcases List.mem_append.mp hx with h | h
    · exact (okRL_all _).mp a.ok x h
    · exact (okRL_all _).mp b.ok x h
  · rcases List.mem_append.mp hx with h | h
    · exact a.dp x h
    · exact b.dp x h
theorem G.take (a : G n w xs) (k : Nat) : G n w (xs.take k) := by
  have e := wtL_append (xs.take k) (xs.drop k)
  rw [List.take_append_drop] at e
  exact ⟨(okRL_all _).mpr fun x hx => (okRL_all _).mp a.ok x (List.mem_of_mem_take hx), by have := a.wt; omega, fun x hx => a.dp x (List.mem_of_mem_take hx)⟩
theorem G.drop (a : G n w xs) (k : Nat) : G n w (xs.drop k) := by
  have e := wtL_append (xs.take k) (xs.drop k)
  rw [List.take_append_drop] at e
  exact ⟨(okRL_all _).mpr fun x hx => (okRL_all _).mp a.ok x (List.mem_of_mem_drop hx), by have := a.wt; omega, fun x hx => a.dp x (List.mem_of_mem_drop hx)⟩
theorem G.reverse (a : G n w xs) : G n w xs.reverse :=
  ⟨(okRL_all _).mpr fun x hx => (okRL_all _).mp a.ok x (by simpa using hx), by rw [wtL_reverse]; exact a.wt, fun x hx => a.dp x (by simpa using hx)⟩
theorem G.mono (a : G n w xs) (h1 : n ≤ m) (h2 : w ≤ v) : G m v xs := ⟨a.ok, by have := a.wt; omega, fun x hx => by have := a.dp x hx; omega⟩
theorem G.nil : G n w [] := ⟨by simp [okRL], by simp [wtL], by simp⟩
theorem G.rep (a : G n w xs) : ∀ k : Nat, G n (k * w) (List.replicate k xs).flatten
  | 0 => .nil
  | k + 1 => by
    rw [List.replicate_succ, List.flatten_cons]
    exact (a.append (G.rep a k)).mono (Nat.le_refl _) (by rw [Nat.succ_mul]; omega)
theorem G.one {x : PyData} (h1 : okR x = true) (h2 : DL.wt x + 2 ≤ w) (h3 : x.depth ≤ n) : G n w [x] := ⟨by simp [okRL, h1], by simp only [wtL]; omega, by simpa using h3⟩
theorem depth_tuple (h : ∀ x ∈ xs, x.depth ≤ n) : (PyData.tuple xs).depth ≤ n + 1 := by
  simp only [PyData.depth]
  have : PyData.depthAll xs ≤ n := by
    have e := depthAll_le n xs
    rw [← decide_eq_true_eq (p := PyData.depthAll xs ≤ n), e, List.all_eq_true]
    intro x hx
    simpa using h x hx
  omega
theorem depth_list (h : ∀ x ∈ xs, x.depth ≤ n) : (PyData.list xs).depth ≤ n + 1 := by
  have := depth_tuple h
  simpa only [PyData.depth] using this
theorem G.tuple (a : G n w xs) : okR (.tuple xs) = true ∧ DL.wt (.tuple xs) ≤ w + 3 ∧ (PyData.tuple xs).depth ≤ n + 1 := ⟨by simpa only [okR] using a.ok, by simp only [DL.wt]; have := a.wt; omega, depth_tuple a.dp⟩
theorem G.list (a : G n w xs) : okR (.list xs) = true ∧ DL.wt (.list xs) ≤ w + 3 ∧ (PyData.list xs).depth ≤ n + 1 := ⟨by simpa only [okR] using a.ok, by simp only [DL.wt]; have := a.wt; omega, depth_list a.dp⟩
theorem G.ints {ns : List Int} (h : ∀ k ∈ ns, -1000 ≤ k ∧ k ≤ 1000) : G 0 (23 * ns.length) (ns.map .int) := by
  induction ns with
  | nil => exact .nil
  | cons k ns ih =>
    have hk := h k (by simp)
    have := (G.one (n := 0) (w := 23) (x := .int k) (by simp only [okR, decide_eq_true_eq]; omega) (by simp only [DL.wt]; omega) (by simp only [PyData.depth]; omega)).append (ih fun j hj => h j (List.mem_cons_of_mem _ hj))
    simp only [List.map_cons, List.length_cons]
    exact this.mono (Nat.le_refl _) (by omega)
end DL

set_option linter.all false
/-! ### the text -/
namespace PK85
open PySem PySem.Spec PyProof.Rows L2 DL
def topS (i : Nat) : Stmt := PySem.Challenge.pw_onecloth_k85_any_value_as_loom.main.body.getD i (.Pass ⟨0, 0, 0, 0⟩)
abbrev s__law_draw : Stmt := topS 42
theorem sc__law_draw : FnScope ["pot", "many", "digit"] ["pot", "many"] (defScope s__law_draw) := ⟨rfl, rfl, rfl, by decide +kernel, rfl, by decide +kernel, by decide +kernel⟩
abbrev s__law_loom : Stmt := topS 45
theorem sc__law_loom : FnScope ["pot", "most", "shafts", "treadles", "threading", "ties", "treadling", "warp", "treadle", "weft", "shaft"] ["pot", "most"] (defScope s__law_loom) := ⟨rfl, rfl, rfl, by decide +kernel, rfl, by decide +kernel, by decide +kernel⟩
abbrev s__law_woven : Stmt := topS 46
theorem sc__law_woven : FnScope ["loom", "rows", "treadle", "shaft"] ["loom"] (defScope s__law_woven) := ⟨rfl, rfl, rfl, by decide +kernel, rfl, by decide +kernel, by decide +kernel⟩
abbrev s_is_integer : Stmt := topS 1
theorem sc_is_integer : FnScope ["value"] ["value"] (defScope s_is_integer) := ⟨rfl, rfl, rfl, by decide +kernel, rfl, by decide +kernel, by decide +kernel⟩
abbrev s_is_within : Stmt := topS 2
theorem sc_is_within : FnScope ["value", "least", "most"] ["value", "least", "most"] (defScope s_is_within) := ⟨rfl, rfl, rfl, by decide +kernel, rfl, by decide +kernel, by decide +kernel⟩
abbrev s_are_numbers : Stmt := topS 21
theorem sc_are_numbers : FnScope ["value", "many", "one"] ["value", "many"] (defScope s_are_numbers) := ⟨rfl, rfl, rfl, by decide +kernel, rfl, by decide +kernel, by decide +kernel⟩
abbrev s_is_tuple : Stmt := topS 3
theorem sc_is_tuple : FnScope ["value", "many"] ["value", "many"] (defScope s_is_tuple) := ⟨rfl, rfl, rfl, by decide +kernel, rfl, by decide +kernel, by decide +kernel⟩
abbrev s_are_rising : Stmt := topS 4
theorem sc_are_rising : FnScope ["values", "near", "far"] ["values"] (defScope s_are_rising) := ⟨rfl, rfl, rfl, by decide +kernel, rfl, by decide +kernel, by decide +kernel⟩
abbrev s_is_lot_of : Stmt := topS 5
theorem sc_is_lot_of : FnScope ["value", "many", "one"] ["value", "many"] (defScope s_is_lot_of) := ⟨rfl, rfl, rfl, by decide +kernel, rfl, by decide +kernel, by decide +kernel⟩
abbrev s_are_lifts : Stmt := topS 22
theorem sc_are_lifts : FnScope ["value", "shafts", "one"] ["value", "shafts"] (defScope s_are_lifts) := ⟨rfl, rfl, rfl, by decide +kernel, rfl, by decide +kernel, by decide +kernel⟩
abbrev s_is_loom_value : Stmt := topS 23
theorem sc_is_loom_value : FnScope ["value"] ["value"] (defScope s_is_loom_value) := ⟨rfl, rfl, rfl, by decide +kernel, rfl, by decide +kernel, by decide +kernel⟩
abbrev s_want_loom : Stmt := topS 24
theorem sc_want_loom : FnScope ["loom"] ["loom"] (defScope s_want_loom) := ⟨rfl, rfl, rfl, by decide +kernel, rfl, by decide +kernel, by decide +kernel⟩
abbrev s_by_first : Stmt := topS 27
theorem sc_by_first : FnScope ["values", "found", "one"] ["values"] (defScope s_by_first) := ⟨rfl, rfl, rfl, by decide +kernel, rfl, by decide +kernel, by decide +kernel⟩
abbrev s_numbered : Stmt := topS 28
theorem sc_numbered : FnScope ["values", "some", "one"] ["values"] (defScope s_numbered) := ⟨rfl, rfl, rfl, by decide +kernel, rfl, by decide +kernel, by decide +kernel⟩
abbrev s_tidy : Stmt := topS 31
theorem sc_tidy : FnScope ["loom", "shafts", "treadles", "ties", "treadle", "at", "shaft"] ["loom"] (defScope s_tidy) := ⟨rfl, rfl, rfl, by decide +kernel, rfl, by decide +kernel, by decide +kernel⟩
abbrev s_tidied : Stmt := topS 35
theorem sc_tidied : FnScope ["loom"] ["loom"] (defScope s_tidied) := ⟨rfl, rfl, rfl, by decide +kernel, rfl, by decide +kernel, by decide +kernel⟩
abbrev s_others : Stmt := topS 32
theorem sc_others : FnScope ["shafts", "lift", "shaft"] ["shafts", "lift"] (defScope s_others) := ⟨rfl, rfl, rfl, by decide +kernel, rfl, by decide +kernel, by decide +kernel⟩
abbrev s_loom_contrary : Stmt := topS 36
theorem sc_loom_contrary : FnScope ["loom", "lift"] ["loom"] (defScope s_loom_contrary) := ⟨rfl, rfl, rfl, by decide +kernel, rfl, by decide +kernel, by decide +kernel⟩
abbrev s_loom_quartered : Stmt := topS 37
theorem sc_loom_quartered : FnScope ["loom", "ties", "shaft", "treadle", "lift"] ["loom"] (defScope s_loom_quartered) := ⟨rfl, rfl, rfl, by decide +kernel, rfl, by decide +kernel, by decide +kernel⟩
abbrev s_is_headed : Stmt := topS 15
theorem sc_is_headed : FnScope ["value", "word"] ["value", "word"] (defScope s_is_headed) := ⟨rfl, rfl, rfl, by decide +kernel, rfl, by decide +kernel, by decide +kernel⟩
abbrev s_are_rows_of : Stmt := topS 14
theorem sc_are_rows_of : FnScope ["value", "signs", "row", "one"] ["value", "signs"] (defScope s_are_rows_of) := ⟨rfl, rfl, rfl, by decide +kernel, rfl, by decide +kernel, by decide +kernel⟩
abbrev s_is_draft_value : Stmt := topS 16
theorem sc_is_draft_value : FnScope ["value"] ["value"] (defScope s_is_draft_value) := ⟨rfl, rfl, rfl, by decide +kernel, rfl, by decide +kernel, by decide +kernel⟩
abbrev s_want_draft : Stmt := topS 17
theorem sc_want_draft : FnScope ["draft"] ["draft"] (defScope s_want_draft) := ⟨rfl, rfl, rfl, by decide +kernel, rfl, by decide +kernel, by decide +kernel⟩
abbrev s_many_warps : Stmt := topS 18
theorem sc_many_warps : FnScope ["draft"] ["draft"] (defScope s_many_warps) := ⟨rfl, rfl, rfl, by decide +kernel, rfl, by decide +kernel, by decide +kernel⟩
abbrev s_columns_of : Stmt := topS 29
theorem sc_columns_of : FnScope ["draft", "warp", "row"] ["draft"] (defScope s_columns_of) := ⟨rfl, rfl, rfl, by decide +kernel, rfl, by decide +kernel, by decide +kernel⟩
abbrev s_told_loom : Stmt := topS 30
theorem sc_told_loom : FnScope ["draft", "columns", "rows", "firsts", "ties", "row", "one", "shaft", "warp"] ["draft"] (defScope s_told_loom) := ⟨rfl, rfl, rfl, by decide +kernel, rfl, by decide +kernel, by decide +kernel⟩
abbrev s_loom_of : Stmt := topS 34
theorem sc_loom_of : FnScope ["draft"] ["draft"] (defScope s_loom_of) := ⟨rfl, rfl, rfl, by decide +kernel, rfl, by decide +kernel, by decide +kernel⟩
abbrev s_want_most : Stmt := topS 25
theorem sc_want_most : FnScope ["value"] ["value"] (defScope s_want_most) := ⟨rfl, rfl, rfl, by decide +kernel, rfl, by decide +kernel, by decide +kernel⟩
abbrev s_by_lift_plan : Stmt := topS 39
theorem sc_by_lift_plan : FnScope ["shafts", "threading", "plan"] ["shafts", "threading", "plan"] (defScope s_by_lift_plan) := ⟨rfl, rfl, rfl, by decide +kernel, rfl, by decide +kernel, by decide +kernel⟩
abbrev s_plan_of : Stmt := topS 26
theorem sc_plan_of : FnScope ["loom", "treadle"] ["loom"] (defScope s_plan_of) := ⟨rfl, rfl, rfl, by decide +kernel, rfl, by decide +kernel, by decide +kernel⟩
abbrev s_lift_plan : Stmt := topS 38
theorem sc_lift_plan : FnScope ["loom"] ["loom"] (defScope s_lift_plan) := ⟨rfl, rfl, rfl, by decide +kernel, rfl, by decide +kernel, by decide +kernel⟩
abbrev s__law_pick : Stmt := topS 43
theorem sc__law_pick : FnScope ["pot", "some"] ["pot", "some"] (defScope s__law_pick) := ⟨rfl, rfl, rfl, by decide +kernel, rfl, by decide +kernel, by decide +kernel⟩
abbrev s__law_bent_row : Stmt := topS 51
theorem sc__law_bent_row : FnScope ["pot", "row", "at", "odd", "some"] ["pot", "row"] (defScope s__law_bent_row) := ⟨rfl, rfl, rfl, by decide +kernel, rfl, by decide +kernel, by decide +kernel⟩
abbrev s__law_bent : Stmt := topS 52
theorem sc__law_bent : FnScope ["pot", "loom", "at", "odd", "place", "found"] ["pot", "loom"] (defScope s__law_bent) := ⟨rfl, rfl, rfl, by decide +kernel, rfl, by decide +kernel, by decide +kernel⟩
abbrev s__law_is_whole : Stmt := topS 47
theorem sc__law_is_whole : FnScope ["value", "least", "most"] ["value", "least", "most"] (defScope s__law_is_whole) := ⟨rfl, rfl, rfl, by decide +kernel, rfl, by decide +kernel, by decide +kernel⟩
abbrev s__law_are : Stmt := topS 48
theorem sc__law_are : FnScope ["value", "most", "one"] ["value", "most"] (defScope s__law_are) := ⟨rfl, rfl, rfl, by decide +kernel, rfl, by decide +kernel, by decide +kernel⟩
abbrev s__law_is_lift : Stmt := topS 49
theorem sc__law_is_lift : FnScope ["value", "shafts", "one"] ["value", "shafts"] (defScope s__law_is_lift) := ⟨rfl, rfl, rfl, by decide +kernel, rfl, by decide +kernel, by decide +kernel⟩
abbrev s__law_is_loom : Stmt := topS 50
theorem sc__law_is_loom : FnScope ["value", "one"] ["value"] (defScope s__law_is_loom) := ⟨rfl, rfl, rfl, by decide +kernel, rfl, by decide +kernel, by decide +kernel⟩
abbrev s_is_loom : Stmt := topS 33
theorem sc_is_loom : FnScope ["value"] ["value"] (defScope s_is_loom) := ⟨rfl, rfl, rfl, by decide +kernel, rfl, by decide +kernel, by decide +kernel⟩
abbrev s__law_right : Stmt := topS 53
theorem sc__law_right : FnScope ["pot", "loom", "draft", "told", "great", "values", "value", "due", "shown", "turn", "one"] ["pot"] (defScope s__law_right) := ⟨rfl, rfl, rfl, by decide +kernel, rfl, by decide +kernel, by decide +kernel⟩
abbrev s__law_pot : Stmt := topS 41
theorem sc__law_pot : FnScope ["script", "k", "cell"] ["script", "k"] (defScope s__law_pot) := ⟨rfl, rfl, rfl, by decide +kernel, rfl, by decide +kernel, by decide +kernel⟩
abbrev s_law : Stmt := topS 54
theorem sc_law : FnScope ["script", "k"] ["script"] (defScope s_law) := ⟨rfl, rfl, rfl, by decide +kernel, rfl, by decide +kernel, by decide +kernel⟩
abbrev k_LOOM : PyData := (.str "loom")
abbrev k_MOST : PyData := (.int 12)
/-- what the module's names are -/
structure Md (K : PySem.W.Frag) (mg : Str → Option Value) : Prop where
  z_abs : mg "abs" = none
  z_all : mg "all" = none
  z_any : mg "any" = none
  z_bool : mg "bool" = none
  z_divmod : mg "divmod" = none
  z_enumerate : mg "enumerate" = none
  z_int : mg "int" = none
  z_isinstance : mg "isinstance" = none
  z_len : mg "len" = none
  z_list : mg "list" = none
  z_max : mg "max" = none
  z_min : mg "min" = none
  z_range : mg "range" = none
  z_repr : mg "repr" = none
  z_set : mg "set" = none
  z_sorted : mg "sorted" = none
  z_str : mg "str" = none
  z_tuple : mg "tuple" = none
  z_zip : mg "zip" = none
  c_LOOM : GK K mg "LOOM" (.str "loom") k_LOOM
  c_MOST : GK K mg "MOST" (.int 12) k_MOST
/-! ### the mirrors -/
noncomputable def m__law_draw : Fn := defn 3 (sSeq (sIf (sTest (sBin dGt (sBin dIx (sVar 0) (sC (.int 0))) (sC (.int 0)))) (sSeq (sAsg (sTake (sCB dDivmod (sCons (sBin dIx (sVar 0) (sC (.int 0))) (sCons (sVar 1) sNil)))) (gsTup 2 (gsCons (gsSub 0 (sC (.int 0))) (gsCons (gsName 2) gsNil)))) (sRetVS (vD (sTake (sVar 2))))) sNext) (sSeq (sAsg (sTake (sBin dMod (sCB dInt (sCons (sBin dAdd (sBin dMulX (sBin dIx (sVar 0) (sC (.int 1))) (sC (.int 39373))) (sC (.int 1103))) sNil)) (sC (.int 2147483587)))) (gsSub 0 (sC (.int 1)))) (sRetVS (vD (sTake (sBin dMod (sCB dInt (sCons (sBin dDiv (sBin dMod (sCB dInt (sCons (sBin dMulX (sBin dIx (sVar 0) (sC (.int 1))) (sBin dIx (sVar 0) (sC (.int 1)))) sNil)) (sC (.int 2147483563))) (sC (.int 19))) sNil)) (sVar 1)))))))
noncomputable def m__law_loom : Fn := defn 11 (sSeq (sAsg (sTake (sTup (sCons (sBin dAdd (sC (.int 1)) (sCall 2 m__law_draw (sCons (sVar 0) (sCons (sVar 1) sNil)))) (sCons (sBin dAdd (sC (.int 1)) (sCall 2 m__law_draw (sCons (sVar 0) (sCons (sVar 1) sNil)))) sNil)))) (gsTup 2 (gsCons (gsName 2) (gsCons (gsName 3) gsNil)))) (sSeq (sSetV (vD (sTake (sCB dTuple (sCons (sKeep (sLC [7] (sArgI rngI (sCons (sBin dAdd (sC (.int 1)) (sCall 2 m__law_draw (sCons (sVar 0) (sCons (sBin dAdd (sVar 1) (sC (.int 2))) sNil)))) sNil)) (gsName 7) sYes (sTake (sCall 2 m__law_draw (sCons (sVar 0) (sCons (sVar 2) sNil)))))) sNil)))) 4) (sSeq (sSetV (vD (sTake (sCB dTuple (sCons (sKeep (sLC [8] (sArgI rngI (sCons (sVar 3) sNil)) (gsName 8) sYes (sTake (sCB dTuple (sCons (sKeep (sLC [10] (sArgI rngI (sCons (sVar 2) sNil)) (gsName 10) (sTest (sBin dEq (sCall 2 m__law_draw (sCons (sVar 0) (sCons (sC (.int 2)) sNil))) (sC (.int 0)))) (sTake (sVar 10)))) sNil))))) sNil)))) 5) (sSeq (sSetV (vD (sTake (sCB dTuple (sCons (sKeep (sLC [9] (sArgI rngI (sCons (sBin dAdd (sC (.int 1)) (sCall 2 m__law_draw (sCons (sVar 0) (sCons (sBin dAdd (sVar 1) (sC (.int 2))) sNil)))) sNil)) (gsName 9) sYes (sTake (sCall 2 m__law_draw (sCons (sVar 0) (sCons (sVar 3) sNil)))))) sNil)))) 6) (sRetVS (vD (sTake (sTup (sCons (sC (.str "loom")) (sCons (sVar 2) (sCons (sVar 4) (sCons (sVar 5) (sCons (sVar 6) sNil)))))))))))))
noncomputable def m__law_woven : Fn := defn 4 (sSeq (sSetV (vL (sLst sNil)) 1) (sSeq (sFor (sSeqI (sTake (sBin dIx (sVar 0) (sC (.int 4))))) (gsName 2) (sDrop (sMeth 1 mAppend (sCons (sCB dTuple (sCons (sKeep (sLC [3] (sSeqI (sTake (sBin dIx (sVar 0) (sC (.int 2))))) (gsName 3) sYes (sTake (sIf (sTest (sBin dIn (sVar 3) (sBin dIx (sBin dIx (sVar 0) (sC (.int 3))) (sVar 2)))) (sC (.int 1)) (sC (.int 0)))))) sNil)) sNil)))) (sRetVS (vD (sTake (sTup (sCons (sC (.str "draft")) (sCons (sCB dTuple (sCons (sVar 1) sNil)) sNil))))))))
noncomputable def m_is_integer : Fn := defn 1 (sRetVS (vD (sTake (sAndV (sIsi .int (sVar 0)) (sNotV (sIsi .bool (sVar 0)))))))
noncomputable def m_is_within : Fn := defn 3 (sRetVS (vD (sTake (sAndV (sCall 1 m_is_integer (sCons (sVar 0) sNil)) (sChain dLe dLe (sVar 1) (sVar 0) (sVar 2))))))
noncomputable def m_are_numbers : Fn := defn 3 (sSeq (sIf (sOr (sNot (sTest (sIsi .tuple (sVar 0)))) (sNot (sTest (sChain dLe dLe (sC (.int 1)) (sCB dLen (sCons (sVar 0) sNil)) (sC (.int 12)))))) (sRetVS (vD (sTake (sC (.bool false))))) sNext) (sRetVS (vD (sTake (sCB dAll (sCons (sKeep (sLC [2] (sSeqI (sTake (sVar 0))) (gsName 2) sYes (sTake (sCall 3 m_is_within (sCons (sVar 2) (sCons (sC (.int 0)) (sCons (sBin dSub (sVar 1) (sC (.int 1))) sNil))))))) sNil))))))
noncomputable def m_is_tuple : Fn := defn 2 (sRetVS (vD (sTake (sAndV (sIsi .tuple (sVar 0)) (sBin dEq (sCB dLen (sCons (sVar 0) sNil)) (sVar 1))))))
noncomputable def m_are_rising : Fn := defn 3 (sRetVS (vD (sTake (sCB dAll (sCons (sKeep (sLC [1, 2] (sArgI zipI (sCons (sVar 0) (sCons (sSlice (sVar 0) (sPart (sC (.int 1))) sNoPart) sNil))) (gsTup 2 (gsCons (gsName 1) (gsCons (gsName 2) gsNil))) sYes (sTake (sBin dLt (sVar 1) (sVar 2))))) sNil)))))
noncomputable def m_is_lot_of : Fn := defn 3 (sRetVS (vD (sTake (sAndV (sIsi .tuple (sVar 0)) (sAndV (sCB dAll (sCons (sKeep (sLC [2] (sSeqI (sTake (sVar 0))) (gsName 2) sYes (sTake (sCall 3 m_is_within (sCons (sVar 2) (sCons (sC (.int 0)) (sCons (sBin dSub (sVar 1) (sC (.int 1))) sNil))))))) sNil)) (sCall 1 m_are_rising (sCons (sVar 0) sNil)))))))
noncomputable def m_are_lifts : Fn := defn 3 (sRetVS (vD (sTake (sAndV (sIsi .tuple (sVar 0)) (sAndV (sChain dLe dLe (sC (.int 1)) (sCB dLen (sCons (sVar 0) sNil)) (sC (.int 12))) (sCB dAll (sCons (sKeep (sLC [2] (sSeqI (sTake (sVar 0))) (gsName 2) sYes (sTake (sCall 2 m_is_lot_of (sCons (sVar 2) (sCons (sVar 1) sNil)))))) sNil)))))))
noncomputable def m_is_loom_value : Fn := defn 1 (sSeq (sIf (sOr (sNot (sTest (sCall 2 m_is_tuple (sCons (sVar 0) (sCons (sC (.int 5)) sNil))))) (sOr (sNot (sTest (sIsi .str (sBin dIx (sVar 0) (sC (.int 0)))))) (sTest (sBin dNe (sBin dIx (sVar 0) (sC (.int 0))) (sC (.str "loom")))))) (sRetVS (vD (sTake (sC (.bool false))))) sNext) (sSeq (sIf (sNot (sTest (sCall 3 m_is_within (sCons (sBin dIx (sVar 0) (sC (.int 1))) (sCons (sC (.int 1)) (sCons (sC (.int 12)) sNil)))))) (sRetVS (vD (sTake (sC (.bool false))))) sNext) (sSeq (sIf (sOr (sNot (sTest (sCall 2 m_are_numbers (sCons (sBin dIx (sVar 0) (sC (.int 2))) (sCons (sBin dIx (sVar 0) (sC (.int 1))) sNil))))) (sNot (sTest (sCall 2 m_are_lifts (sCons (sBin dIx (sVar 0) (sC (.int 3))) (sCons (sBin dIx (sVar 0) (sC (.int 1))) sNil)))))) (sRetVS (vD (sTake (sC (.bool false))))) sNext) (sRetVS (vD (sTake (sCall 2 m_are_numbers (sCons (sBin dIx (sVar 0) (sC (.int 4))) (sCons (sCB dLen (sCons (sBin dIx (sVar 0) (sC (.int 3))) sNil)) sNil)))))))))
noncomputable def m_want_loom : Fn := defn 1 (sIf (sNot (sTest (sCall 1 m_is_loom_value (sCons (sVar 0) sNil)))) sNever sNext)
noncomputable def m_by_first : Fn := defn 3 (sSeq (sSetV (vL (sLst sNil)) 1) (sSeq (sFor (sSeqI (sTake (sVar 0))) (gsName 2) (sIf (sTest (sBin dNotIn (sVar 2) (sVar 1))) (sDrop (sMeth 1 mAppend (sCons (sVar 2) sNil))) sNext)) (sRetV 1)))
noncomputable def m_numbered : Fn := defn 3 (sSeq (sSetV (vD (sTake (sCall 1 m_by_first (sCons (sVar 0) sNil)))) 1) (sRetVS (vD (sTake (sCB dTuple (sCons (sKeep (sLC [2] (sSeqI (sTake (sVar 0))) (gsName 2) sYes (sTake (sIndex (sVar 1) (sVar 2))))) sNil))))))
noncomputable def m_tidy : Fn := defn 7 (sSeq (sPar 1 2 (vD (sTake (sCall 1 m_by_first (sCons (sBin dIx (sVar 0) (sC (.int 2))) sNil)))) (vD (sTake (sCall 1 m_by_first (sCons (sBin dIx (sVar 0) (sC (.int 4))) sNil))))) (sSeq (sSetV (vL (sLst sNil)) 3) (sSeq (sFor (sSeqI (sTake (sVar 2))) (gsName 4) (sDrop (sMeth 3 mAppend (sCons (sCB dTuple (sCons (sKeep (sLC [5, 6] (sArgI enumI (sCons (sVar 1) sNil)) (gsTup 2 (gsCons (gsName 5) (gsCons (gsName 6) gsNil))) (sTest (sBin dIn (sVar 6) (sBin dIx (sBin dIx (sVar 0) (sC (.int 3))) (sVar 4)))) (sTake (sVar 5)))) sNil)) sNil)))) (sRetVS (vD (sTake (sTup (sCons (sC (.str "loom")) (sCons (sCB dLen (sCons (sVar 1) sNil)) (sCons (sCall 1 m_numbered (sCons (sBin dIx (sVar 0) (sC (.int 2))) sNil)) (sCons (sCB dTuple (sCons (sVar 3) sNil)) (sCons (sCall 1 m_numbered (sCons (sBin dIx (sVar 0) (sC (.int 4))) sNil)) sNil))))))))))))
noncomputable def m_tidied : Fn := defn 1 (sSeq (sDrop (sCall 1 m_want_loom (sCons (sVar 0) sNil))) (sRetVS (vD (sTake (sCall 1 m_tidy (sCons (sVar 0) sNil))))))
noncomputable def m_others : Fn := defn 3 (sRetVS (vD (sTake (sCB dTuple (sCons (sKeep (sLC [2] (sArgI rngI (sCons (sVar 0) sNil)) (gsName 2) (sTest (sBin dNotIn (sVar 2) (sVar 1))) (sTake (sVar 2)))) sNil)))))
noncomputable def m_loom_contrary : Fn := defn 2 (sSeq (sDrop (sCall 1 m_want_loom (sCons (sVar 0) sNil))) (sRetVS (vD (sTake (sBin dAdd (sSlice (sVar 0) sNoPart (sPart (sC (.int 3)))) (sTup (sCons (sCB dTuple (sCons (sKeep (sLC [1] (sSeqI (sTake (sBin dIx (sVar 0) (sC (.int 3))))) (gsName 1) sYes (sTake (sCall 2 m_others (sCons (sBin dIx (sVar 0) (sC (.int 1))) (sCons (sVar 1) sNil)))))) sNil)) (sCons (sBin dIx (sVar 0) (sC (.int 4))) sNil))))))))
noncomputable def m_loom_quartered : Fn := defn 5 (sSeq (sDrop (sCall 1 m_want_loom (sCons (sVar 0) sNil))) (sSeq (sSetV (vL (sLst sNil)) 1) (sSeq (sFor (sArgI rngI (sCons (sBin dIx (sVar 0) (sC (.int 1))) sNil)) (gsName 2) (sDrop (sMeth 1 mAppend (sCons (sCB dTuple (sCons (sKeep (sLC [3, 4] (sArgI enumI (sCons (sBin dIx (sVar 0) (sC (.int 3))) sNil)) (gsTup 2 (gsCons (gsName 3) (gsCons (gsName 4) gsNil))) (sTest (sBin dNotIn (sVar 2) (sVar 4))) (sTake (sVar 3)))) sNil)) sNil)))) (sRetVS (vD (sTake (sTup (sCons (sC (.str "loom")) (sCons (sCB dLen (sCons (sBin dIx (sVar 0) (sC (.int 3))) sNil)) (sCons (sUn dRev (sBin dIx (sVar 0) (sC (.int 4)))) (sCons (sCB dTuple (sCons (sVar 1) sNil)) (sCons (sBin dIx (sVar 0) (sC (.int 2))) sNil))))))))))))
noncomputable def m_is_headed : Fn := defn 2 (sRetVS (vD (sTake (sAndV (sCall 2 m_is_tuple (sCons (sVar 0) (sCons (sC (.int 2)) sNil))) (sAndV (sIsi .str (sBin dIx (sVar 0) (sC (.int 0)))) (sBin dEq (sBin dIx (sVar 0) (sC (.int 0))) (sVar 1)))))))
noncomputable def m_are_rows_of : Fn := defn 4 (sSeq (sIf (sOr (sNot (sTest (sIsi .tuple (sVar 0)))) (sNot (sTest (sChain dLe dLe (sC (.int 1)) (sCB dLen (sCons (sVar 0) sNil)) (sC (.int 12)))))) (sRetVS (vD (sTake (sC (.bool false))))) sNext) (sSeq (sIf (sNot (sTest (sCB dAll (sCons (sKeep (sLC [2] (sSeqI (sTake (sVar 0))) (gsName 2) sYes (sTake (sIsi .tuple (sVar 2))))) sNil)))) (sRetVS (vD (sTake (sC (.bool false))))) sNext) (sSeq (sIf (sOr (sNot (sTest (sChain dLe dLe (sC (.int 1)) (sCB dLen (sCons (sBin dIx (sVar 0) (sC (.int 0))) sNil)) (sC (.int 12))))) (sTest (sCB dAny (sCons (sKeep (sLC [2] (sSeqI (sTake (sVar 0))) (gsName 2) sYes (sTake (sBin dNe (sCB dLen (sCons (sVar 2) sNil)) (sCB dLen (sCons (sBin dIx (sVar 0) (sC (.int 0))) sNil)))))) sNil)))) (sRetVS (vD (sTake (sC (.bool false))))) sNext) (sRetVS (vD (sTake (sCB dAll (sCons (sKeep (sLC [2] (sSeqI (sTake (sVar 0))) (gsName 2) sYes (sTake (sCB dAll (sCons (sKeep (sLC [3] (sSeqI (sTake (sVar 2))) (gsName 3) sYes (sTake (sCall 3 m_is_within (sCons (sVar 3) (sCons (sC (.int 0)) (sCons (sBin dSub (sVar 1) (sC (.int 1))) sNil))))))) sNil))))) sNil))))))))
noncomputable def m_is_draft_value : Fn := defn 1 (sRetVS (vD (sTake (sAndV (sCall 2 m_is_headed (sCons (sVar 0) (sCons (sC (.str "draft")) sNil))) (sCall 2 m_are_rows_of (sCons (sBin dIx (sVar 0) (sC (.int 1))) (sCons (sC (.int 2)) sNil)))))))
noncomputable def m_want_draft : Fn := defn 1 (sIf (sNot (sTest (sCall 1 m_is_draft_value (sCons (sVar 0) sNil)))) sNever sNext)
noncomputable def m_many_warps : Fn := defn 1 (sRetVS (vD (sTake (sCB dLen (sCons (sBin dIx (sBin dIx (sVar 0) (sC (.int 1))) (sC (.int 0))) sNil)))))
noncomputable def m_columns_of : Fn := defn 3 (sRetVS (vL (sLC [1] (sArgI rngI (sCons (sCall 1 m_many_warps (sCons (sVar 0) sNil)) sNil)) (gsName 1) sYes (sTake (sCB dTuple (sCons (sKeep (sLC [2] (sSeqI (sTake (sBin dIx (sVar 0) (sC (.int 1))))) (gsName 2) sYes (sTake (sBin dIx (sVar 2) (sVar 1))))) sNil))))))
noncomputable def m_told_loom : Fn := defn 9 (sSeq (sAsg (sTake (sTup (sCons (sCall 1 m_columns_of (sCons (sVar 0) sNil)) (sCons (sKeep (sCBL dListL (sCons (sBin dIx (sVar 0) (sC (.int 1))) sNil))) sNil)))) (gsTup 2 (gsCons (gsName 1) (gsCons (gsName 2) gsNil)))) (sSeq (sSetV (vLC true (sLC [6] (sSeqI (sTake (sCall 1 m_by_first (sCons (sVar 1) sNil)))) (gsName 6) sYes (sTake (sIndex (sVar 1) (sVar 6))))) 3) (sSeq (sSetV (vL (sLst sNil)) 4) (sSeq (sFor (sSeqI (sTake (sCall 1 m_by_first (sCons (sVar 2) sNil)))) (gsName 5) (sDrop (sMeth 4 mAppend (sCons (sCB dTuple (sCons (sKeep (sLC [7, 8] (sArgI enumI (sCons (sVar 3) sNil)) (gsTup 2 (gsCons (gsName 7) (gsCons (gsName 8) gsNil))) (sTest (sBin dEq (sBin dIx (sVar 5) (sVar 8)) (sC (.int 1)))) (sTake (sVar 7)))) sNil)) sNil)))) (sRetVS (vD (sTake (sTup (sCons (sC (.str "loom")) (sCons (sCB dLen (sCons (sVar 3) sNil)) (sCons (sCall 1 m_numbered (sCons (sVar 1) sNil)) (sCons (sCB dTuple (sCons (sVar 4) sNil)) (sCons (sCall 1 m_numbered (sCons (sVar 2) sNil)) sNil)))))))))))))
noncomputable def m_loom_of : Fn := defn 1 (sSeq (sDrop (sCall 1 m_want_draft (sCons (sVar 0) sNil))) (sRetVS (vD (sTake (sCall 1 m_told_loom (sCons (sVar 0) sNil))))))
noncomputable def m_want_most : Fn := defn 1 (sIf (sNot (sTest (sCall 3 m_is_within (sCons (sVar 0) (sCons (sC (.int 1)) (sCons (sC (.int 12)) sNil)))))) sNever sNext)
noncomputable def m_by_lift_plan : Fn := defn 3 (sSeq (sDrop (sCall 1 m_want_most (sCons (sVar 0) sNil))) (sSeq (sIf (sNot (sTest (sCall 2 m_are_numbers (sCons (sVar 1) (sCons (sVar 0) sNil))))) sNever sNext) (sSeq (sIf (sNot (sTest (sCall 2 m_are_lifts (sCons (sVar 2) (sCons (sVar 0) sNil))))) sNever sNext) (sRetVS (vD (sTake (sTup (sCons (sC (.str "loom")) (sCons (sVar 0) (sCons (sVar 1) (sCons (sCB dTuple (sCons (sCall 1 m_by_first (sCons (sVar 2) sNil)) sNil)) (sCons (sCall 1 m_numbered (sCons (sVar 2) sNil)) sNil))))))))))))
noncomputable def m_plan_of : Fn := defn 2 (sRetVS (vD (sTake (sCB dTuple (sCons (sKeep (sLC [1] (sSeqI (sTake (sBin dIx (sVar 0) (sC (.int 4))))) (gsName 1) sYes (sTake (sBin dIx (sBin dIx (sVar 0) (sC (.int 3))) (sVar 1))))) sNil)))))
noncomputable def m_lift_plan : Fn := defn 1 (sSeq (sDrop (sCall 1 m_want_loom (sCons (sVar 0) sNil))) (sRetVS (vD (sTake (sCall 1 m_plan_of (sCons (sVar 0) sNil))))))
noncomputable def m__law_pick : Fn := defn 2 (sRetVS (vD (sTake (sBin dIx (sVar 1) (sCall 2 m__law_draw (sCons (sVar 0) (sCons (sCB dLen (sCons (sVar 1) sNil)) sNil)))))))
noncomputable def m__law_bent_row : Fn := defn 5 (sSeq (sSetV (vD (sTake (sCall 2 m__law_draw (sCons (sVar 0) (sCons (sBin dAdd (sCB dLen (sCons (sVar 1) sNil)) (sC (.int 1))) sNil))))) 2) (sSeq (sSetV (vD (sTake (sCall 2 m__law_pick (sCons (sVar 0) (sCons (sKeep (sLst (sCons (sC .none) (sCons (sC (.bool true)) (sCons (sUn dNeg (sC (.int 1))) (sCons (sC (.int 0)) (sCons (sC (.int 1)) (sCons (sC (.int 11)) (sCons (sC (.int 12)) (sCons (sC (.str "0")) (sCons (sTup sNil) (sCons (sTup (sCons (sC (.int 0)) sNil)) (sCons (sKeep (sLst (sCons (sC (.int 0)) sNil))) sNil))))))))))))) sNil))))) 3) (sSeq (sSetV (vD (sTake (sKeep (sLst (sCons (sBin dAdd (sBin dAdd (sSlice (sVar 1) sNoPart (sPart (sVar 2))) (sTup (sCons (sVar 3) sNil))) (sSlice (sVar 1) (sPart (sVar 2)) sNoPart)) (sCons (sBin dAdd (sBin dAdd (sSlice (sVar 1) sNoPart (sPart (sVar 2))) (sTup (sCons (sVar 3) sNil))) (sSlice (sVar 1) (sPart (sBin dAdd (sVar 2) (sC (.int 1)))) sNoPart)) (sCons (sBin dAdd (sSlice (sVar 1) sNoPart (sPart (sVar 2))) (sSlice (sVar 1) (sPart (sBin dAdd (sVar 2) (sC (.int 1)))) sNoPart)) (sCons (sKeep (sCBL dListL (sCons (sVar 1) sNil))) sNil)))))))) 4) (sRetVS (vD (sTake (sCall 2 m__law_pick (sCons (sVar 0) (sCons (sBin dAdd (sVar 4) (sKeep (sLst (sCons (sBin dAdd (sVar 1) (sVar 1)) (sCons (sBin dMulX (sVar 1) (sC (.int 13))) (sCons (sTup sNil) (sCons (sC .none) (sCons (sUn dRev (sVar 1)) sNil)))))))) sNil)))))))))
noncomputable def m__law_bent : Fn := defn 6 (sSeq (sSetV (vD (sTake (sCall 2 m__law_draw (sCons (sVar 0) (sCons (sC (.int 5)) sNil))))) 2) (sSeq (sIf (sTest (sBin dEq (sVar 2) (sC (.int 0)))) (sSetV (vD (sTake (sCall 2 m__law_pick (sCons (sVar 0) (sCons (sKeep (sLst (sCons (sC (.str "Loom")) (sCons (sC (.str "")) (sCons (sC .none) (sCons (sC (.str "draft")) (sCons (sTup (sCons (sC (.str "loom")) sNil)) sNil))))))) sNil))))) 3) (sIf (sTest (sBin dEq (sVar 2) (sC (.int 1)))) (sSetV (vD (sTake (sCall 2 m__law_pick (sCons (sVar 0) (sCons (sKeep (sLst (sCons (sC (.int 0)) (sCons (sC (.int 1)) (sCons (sC (.int 2)) (sCons (sC (.int 3)) (sCons (sC (.int 12)) (sCons (sC (.int 13)) (sCons (sC (.bool true)) (sCons (sC .none) (sCons (sC (.str "2")) (sCons (sUn dNeg (sC (.int 1))) sNil)))))))))))) sNil))))) 3) (sIf (sAnd (sTest (sBin dEq (sVar 2) (sC (.int 3)))) (sTest (sBin dGt (sCall 2 m__law_draw (sCons (sVar 0) (sCons (sC (.int 3)) sNil))) (sC (.int 0))))) (sSeq (sSetV (vD (sTake (sCall 2 m__law_draw (sCons (sVar 0) (sCons (sCB dLen (sCons (sBin dIx (sVar 1) (sC (.int 3))) sNil)) sNil))))) 4) (sSetV (vD (sTake (sBin dAdd (sBin dAdd (sSlice (sBin dIx (sVar 1) (sC (.int 3))) sNoPart (sPart (sVar 4))) (sTup (sCons (sCall 2 m__law_bent_row (sCons (sVar 0) (sCons (sBin dIx (sBin dIx (sVar 1) (sC (.int 3))) (sVar 4)) sNil))) sNil))) (sSlice (sBin dIx (sVar 1) (sC (.int 3))) (sPart (sBin dAdd (sVar 4) (sC (.int 1)))) sNoPart)))) 3)) (sSetV (vD (sTake (sCall 2 m__law_bent_row (sCons (sVar 0) (sCons (sBin dIx (sVar 1) (sVar 2)) sNil))))) 3)))) (sSeq (sSetV (vD (sTake (sBin dAdd (sBin dAdd (sSlice (sVar 1) sNoPart (sPart (sVar 2))) (sTup (sCons (sVar 3) sNil))) (sSlice (sVar 1) (sPart (sBin dAdd (sVar 2) (sC (.int 1)))) sNoPart)))) 5) (sRetVS (vD (sTake (sCall 2 m__law_pick (sCons (sVar 0) (sCons (sKeep (sLst (sCons (sVar 5) (sCons (sVar 5) (sCons (sVar 5) (sCons (sVar 5) (sCons (sVar 5) (sCons (sBin dAdd (sSlice (sVar 1) sNoPart (sPart (sVar 2))) (sSlice (sVar 1) (sPart (sBin dAdd (sVar 2) (sC (.int 1)))) sNoPart)) (sCons (sBin dAdd (sVar 1) (sSlice (sVar 1) sNoPart (sPart (sC (.int 1))))) (sCons (sKeep (sCBL dListL (sCons (sVar 1) sNil))) sNil)))))))))) sNil)))))))))
noncomputable def m__law_is_whole : Fn := defn 3 (sRetVS (vD (sTake (sAndV (sIsi .int (sVar 0)) (sAndV (sNotV (sIsi .bool (sVar 0))) (sChain dLe dLe (sVar 1) (sVar 0) (sVar 2)))))))
noncomputable def m__law_are : Fn := defn 3 (sSeq (sIf (sOr (sNot (sTest (sIsi .tuple (sVar 0)))) (sNot (sTest (sChain dLe dLe (sC (.int 1)) (sCB dLen (sCons (sVar 0) sNil)) (sC (.int 12)))))) (sRetVS (vD (sTake (sC (.bool false))))) sNext) (sRetVS (vD (sTake (sCB dAll (sCons (sKeep (sLC [2] (sSeqI (sTake (sVar 0))) (gsName 2) sYes (sTake (sCall 3 m__law_is_whole (sCons (sVar 2) (sCons (sC (.int 0)) (sCons (sBin dSub (sVar 1) (sC (.int 1))) sNil))))))) sNil))))))
noncomputable def m__law_is_lift : Fn := defn 3 (sSeq (sIf (sOr (sNot (sTest (sIsi .tuple (sVar 0)))) (sNot (sTest (sCB dAll (sCons (sKeep (sLC [2] (sSeqI (sTake (sVar 0))) (gsName 2) sYes (sTake (sCall 3 m__law_is_whole (sCons (sVar 2) (sCons (sC (.int 0)) (sCons (sBin dSub (sVar 1) (sC (.int 1))) sNil))))))) sNil))))) (sRetVS (vD (sTake (sC (.bool false))))) sNext) (sRetVS (vD (sTake (sBin dEq (sKeep (sCBL dListL (sCons (sVar 0) sNil))) (sKeep (sCBL dSetL (sCons (sVar 0) sNil))))))))
noncomputable def m__law_is_loom : Fn := defn 2 (sSeq (sIf (sOr (sNot (sTest (sIsi .tuple (sVar 0)))) (sOr (sTest (sBin dNe (sCB dLen (sCons (sVar 0) sNil)) (sC (.int 5)))) (sTest (sBin dNe (sCB dRepr (sCons (sBin dIx (sVar 0) (sC (.int 0))) sNil)) (sC (.str "'loom'")))))) (sRetVS (vD (sTake (sC (.bool false))))) sNext) (sSeq (sIf (sNot (sTest (sCall 3 m__law_is_whole (sCons (sBin dIx (sVar 0) (sC (.int 1))) (sCons (sC (.int 1)) (sCons (sC (.int 12)) sNil)))))) (sRetVS (vD (sTake (sC (.bool false))))) sNext) (sSeq (sIf (sOr (sNot (sTest (sCall 2 m__law_are (sCons (sBin dIx (sVar 0) (sC (.int 2))) (sCons (sBin dIx (sVar 0) (sC (.int 1))) sNil))))) (sOr (sNot (sTest (sIsi .tuple (sBin dIx (sVar 0) (sC (.int 3)))))) (sNot (sTest (sChain dLe dLe (sC (.int 1)) (sCB dLen (sCons (sBin dIx (sVar 0) (sC (.int 3))) sNil)) (sC (.int 12))))))) (sRetVS (vD (sTake (sC (.bool false))))) sNext) (sRetVS (vD (sTake (sAndV (sCB dAll (sCons (sKeep (sLC [1] (sSeqI (sTake (sBin dIx (sVar 0) (sC (.int 3))))) (gsName 1) sYes (sTake (sCall 2 m__law_is_lift (sCons (sVar 1) (sCons (sBin dIx (sVar 0) (sC (.int 1))) sNil)))))) sNil)) (sCall 2 m__law_are (sCons (sBin dIx (sVar 0) (sC (.int 4))) (sCons (sCB dLen (sCons (sBin dIx (sVar 0) (sC (.int 3))) sNil)) sNil))))))))))
noncomputable def m_is_loom : Fn := defn 1 (sRetVS (vD (sTake (sCall 1 m_is_loom_value (sCons (sVar 0) sNil)))))
noncomputable def m__law_right : Fn := defn 11 (sSeq (sSetV (vD (sTake (sCall 2 m__law_loom (sCons (sVar 0) (sCons (sC (.int 5)) sNil))))) 1) (sSeq (sSetV (vD (sTake (sCall 1 m__law_woven (sCons (sVar 1) sNil)))) 2) (sSeq (sSetV (vL (sLst (sCons (sVar 1) (sCons (sCall 1 m_tidied (sCons (sVar 1) sNil)) (sCons (sCall 1 m_loom_contrary (sCons (sVar 1) sNil)) (sCons (sCall 1 m_loom_quartered (sCons (sVar 1) sNil)) (sCons (sCall 1 m_loom_of (sCons (sVar 2) sNil)) sNil))))))) 3) (sSeq (sDrop (sMeth 3 mAppend (sCons (sCall 3 m_by_lift_plan (sCons (sBin dIx (sVar 1) (sC (.int 1))) (sCons (sBin dIx (sVar 1) (sC (.int 2))) (sCons (sCall 1 m_lift_plan (sCons (sVar 1) sNil)) sNil)))) sNil))) (sSeq (sIf (sNot (sTest (sCB dAll (sCons (sKeep (sLC [10] (sSeqI (sTake (sVar 3))) (gsName 10) sYes (sTake (sAndV (sCall 1 m__law_is_loom (sCons (sVar 10) sNil)) (sBin dIs (sCall 1 m_is_loom (sCons (sVar 10) sNil)) (sC (.bool true))))))) sNil)))) (sRetVS (vD (sTake (sC (.bool false))))) sNext) (sSeq (sSetV (vD (sTake (sTup (sCons (sC (.str "loom")) (sCons (sC (.int 12)) (sCons (sTupRg (sRg1 (sC (.int 12)))) (sCons (sBin dMulX (sTup (sCons (sTup sNil) (sCons (sTupRg (sRg1 (sC (.int 12)))) sNil))) (sC (.int 6))) (sCons (sTupRg (sRg1 (sC (.int 12)))) sNil)))))))) 4) (sSeq (sSetV (vD (sTake (sBin dAdd (sVar 3) (sKeep (sLst (sCons (sVar 4) (sCons (sBin dAdd (sBin dAdd (sSlice (sVar 4) sNoPart (sPart (sC (.int 1)))) (sTup (sCons (sC (.int 11)) sNil))) (sSlice (sVar 4) (sPart (sC (.int 2))) sNoPart)) (sCons (sBin dAdd (sBin dAdd (sSlice (sVar 4) sNoPart (sPart (sC (.int 3)))) (sTup (sCons (sBin dAdd (sBin dIx (sVar 4) (sC (.int 3))) (sTup (sCons (sTup sNil) sNil))) sNil))) (sSlice (sVar 4) (sPart (sC (.int 4))) sNoPart)) (sCons (sC .none) (sCons (sC (.int 0)) sNil)))))))))) 5) (sSeq (sSetV (vD (sTake (sBin dAdd (sBin dAdd (sVar 5) (sKeep (sLst (sCons (sTup sNil) (sCons (sC (.str "loom")) (sCons sDict0 sNil)))))) (sKeep (sLC [9] (sArgI rngI (sCons (sC (.int 24)) sNil)) (gsName 9) sYes (sTake (sCall 2 m__law_bent (sCons (sVar 0) (sCons (sVar 1) sNil))))))))) 5) (sSeq (sSetV (vD (sTake (sBin dAdd (sVar 5) (sKeep (sLC [9] (sArgI rngI (sCons (sC (.int 6)) sNil)) (gsName 9) sYes (sTake (sCall 2 m__law_bent (sCons (sVar 0) (sCons (sVar 4) sNil))))))))) 5) (sSeq (sFor (sSeqI (sTake (sVar 5))) (gsName 6) (sSeq (sPar 7 8 (vD (sTake (sCall 1 m__law_is_loom (sCons (sVar 6) sNil)))) (vD (sTake (sCB dRepr (sCons (sVar 6) sNil))))) (sIf (sOr (sTest (sBin dNe (sCB dRepr (sCons (sKeep (sLst (sCons (sCall 1 m_is_loom (sCons (sVar 6) sNil)) (sCons (sCall 1 m_is_loom (sPerm [0] (sApp 0 1 sNil (sCons (sVar 6) sNil)))) sNil)))) sNil)) (sCB dRepr (sCons (sKeep (sLst (sCons (sVar 7) (sCons (sVar 7) sNil)))) sNil)))) (sTest (sBin dNe (sCB dRepr (sCons (sVar 6) sNil)) (sVar 8)))) (sRetVS (vD (sTake (sC (.bool false))))) sNext))) (sRetVS (vD (sTake (sC (.bool true)))))))))))))))
noncomputable def m__law_pot : Fn := defn 3 (sSeq (sSetV (vD (sTake (sBin dAdd (sBin dMulX (sC (.int 1097)) (sVar 1)) (sC (.int 9343))))) 2) (sSeq (sIf (sTest (sBin dLt (sVar 1) (sCB dLen (sCons (sVar 0) sNil)))) (sSetV (vD (sTake (sCB dAbs (sCons (sBin dIx (sVar 0) (sVar 1)) sNil)))) 2) sNext) (sRetVS (vL (sLst (sCons (sCB dMax (sCons (sC (.int 0)) (sCons (sBin dSub (sVar 2) (sBin dPow (sC (.int 10)) (sC (.int 18)))) sNil))) (sCons (sBin dAdd (sBin dMod (sCB dInt (sCons (sBin dAdd (sBin dAdd (sBin dMulX (sBin dMod (sCB dInt (sCons (sVar 2) sNil)) (sC (.int 2147483549))) (sC (.int 40014))) (sBin dMulX (sC (.int 9343)) (sVar 1))) (sC (.int 61))) sNil)) (sC (.int 2147483563))) (sC (.int 1))) sNil)))))))
noncomputable def m_law : Fn := defn 2 (sRetVS (vD (sTake (sCB dAll (sCons (sKeep (sLC [1] (sArgI rngI (sCons (sCB dMax (sCons (sC (.int 1)) (sCons (sCB dMin (sCons (sC (.int 2)) (sCons (sCB dLen (sCons (sVar 0) sNil)) sNil))) sNil))) sNil)) (gsName 1) sYes (sTake (sCallF m__law_right (sCallL 2 m__law_pot (sCons (sVar 0) (sCons (sVar 1) sNil))))))) sNil)))))
/-! ### the walks -/
section
variable {P : Program} {w : World} {K : PySem.W.Frag} {mg : Str → Option Value} {base : Heap}
theorem g__law_draw {k : Nat} {f : Addr} {fd : FuncData} (F : Fun K "_law_draw" "_law_draw" s__law_draw f fd) (M : Md K mg) : FnG P w K mg base (k + 1) f fd ["pot", "many"] m__law_draw :=
  fnG_of F sc__law_draw rfl fun cdv A outer s H hr hgd => ⟨_, (sss_cons (ss_if (st_cmp op_gt vGt (se_ix (opIx rfl) vIx (se_pv 0) se_int) se_int) (sss_cons (ss_asg (sd_se (se_cb crDivmod vDivmod M.z_divmod bt_divmod (sa_cons (se_ix (opIx rfl) vIx (se_pv 0) se_int) (sa_cons (se_pv 1) sa_nil)))) (sg_tup rfl rfl (sgs_cons (sg_sub (se_pv 0) se_int) (sgs_cons (sg_name (i := 2) sc__law_draw.nd) sgs_nil)))) (sss_one (ss_ret (sv_d (sd_se (se_pv 2)))))) sss_nil) (sss_cons (ss_asg (sd_se (se_bin op_mod vMod (se_ct crInt vInt M.z_int bt_int (sa_cons (se_bin (opAdd rfl) vAdd (se_bin (opMulX rfl) vMulX (se_ix (opIx rfl) vIx (se_pv 0) se_int) se_int) se_int) sa_nil)) se_int)) (sg_sub (se_pv 0) se_int)) (sss_one (ss_ret (sv_d (sd_se (se_bin op_mod vMod (se_ct crInt vInt M.z_int bt_int (sa_cons (se_bin op_fdiv vDiv (se_bin op_mod vMod (se_ct crInt vInt M.z_int bt_int (sa_cons (se_bin (opMulX rfl) vMulX (se_ix (opIx rfl) vIx (se_pv 0) se_int) (se_ix (opIx rfl) vIx (se_pv 0) se_int)) sa_nil)) se_int) se_int) sa_nil)) (se_pv 1))))))))⟩
theorem g__law_loom {k : Nat} {f : Addr} {fd : FuncData} (F : Fun K "_law_loom" "_law_loom" s__law_loom f fd) (M : Md K mg) {f__law_draw : Addr} {fd__law_draw : FuncData} (c__law_draw : DL.Cal P w K mg base k "_law_draw" ["pot", "many"] m__law_draw f__law_draw fd__law_draw) : FnG P w K mg base (k + 1) f fd ["pot", "most"] m__law_loom :=
  fnG_of F sc__law_loom rfl fun cdv A outer s H hr hgd => ⟨_, (sss_cons (ss_asg (sd_se (se_tup (sa_cons (se_bin (opAdd rfl) vAdd se_int (se_call (K := K) (ps := ["pot", "many"]) (m := m__law_draw) rfl c__law_draw hr hgd (sa_cons (se_pv 0) (sa_cons (se_pv 1) sa_nil)))) (sa_cons (se_bin (opAdd rfl) vAdd se_int (se_call (K := K) (ps := ["pot", "many"]) (m := m__law_draw) rfl c__law_draw hr hgd (sa_cons (se_pv 0) (sa_cons (se_pv 1) sa_nil)))) sa_nil)))) (sg_tup rfl rfl (sgs_cons (sg_name (i := 2) sc__law_loom.nd) (sgs_cons (sg_name (i := 3) sc__law_loom.nd) sgs_nil)))) (sss_cons (ss_set (i := 4) sc__law_loom.nd (sv_d (sd_se (se_ct (crTuple rfl) vTuple M.z_tuple bt_tuple (sa_cons (se_sl (sl_lc [("warp", 7)] [7] rfl sc__law_loom.nd (si_rng1 M.z_range (sa_cons (se_bin (opAdd rfl) vAdd se_int (se_call (K := K) (ps := ["pot", "many"]) (m := m__law_draw) rfl c__law_draw hr hgd (sa_cons (se_pv 0) (sa_cons (se_bin (opAdd rfl) vAdd (se_pv 1) se_int) sa_nil)))) sa_nil)) (by kernel_rfl) (fun _ _ _ _ _ => (sg_name (i := 7) sc__law_loom.nd)) (fun _ _ _ _ _ => sts_nil) (fun _ _ _ _ _ => (sd_se (se_call (K := K) (ps := ["pot", "many"]) (m := m__law_draw) rfl c__law_draw hr hgd (sa_cons (se_pv 0) (sa_cons (se_pv 2) sa_nil))))))) sa_nil))))) (sss_cons (ss_set (i := 5) sc__law_loom.nd (sv_d (sd_se (se_ct (crTuple rfl) vTuple M.z_tuple bt_tuple (sa_cons (se_sl (sl_lc [("treadle", 8)] [8] rfl sc__law_loom.nd (si_rng1 M.z_range (sa_cons (se_pv 3) sa_nil)) (by kernel_rfl) (fun _ _ _ _ _ => (sg_name (i := 8) sc__law_loom.nd)) (fun _ _ _ _ _ => sts_nil) (fun _ _ _ _ _ => (sd_se (se_ct (crTuple rfl) vTuple M.z_tuple bt_tuple (sa_cons (se_sl (sl_lc [("shaft", 10)] [10] rfl sc__law_loom.nd (si_rng1 M.z_range (sa_cons (se_pv 2) sa_nil)) (by kernel_rfl) (fun _ _ _ _ _ => (sg_name (i := 10) sc__law_loom.nd)) (fun _ _ _ _ _ => (sts_one (st_cmp (opEq rfl hr) vEq (se_call (K := K) (ps := ["pot", "many"]) (m := m__law_draw) rfl c__law_draw hr hgd (sa_cons (se_pv 0) (sa_cons se_int sa_nil))) se_int))) (fun _ _ _ _ _ => (sd_se (se_pv 10))))) sa_nil)))))) sa_nil))))) (sss_cons (ss_set (i := 6) sc__law_loom.nd (sv_d (sd_se (se_ct (crTuple rfl) vTuple M.z_tuple bt_tuple (sa_cons (se_sl (sl_lc [("weft", 9)] [9] rfl sc__law_loom.nd (si_rng1 M.z_range (sa_cons (se_bin (opAdd rfl) vAdd se_int (se_call (K := K) (ps := ["pot", "many"]) (m := m__law_draw) rfl c__law_draw hr hgd (sa_cons (se_pv 0) (sa_cons (se_bin (opAdd rfl) vAdd (se_pv 1) se_int) sa_nil)))) sa_nil)) (by kernel_rfl) (fun _ _ _ _ _ => (sg_name (i := 9) sc__law_loom.nd)) (fun _ _ _ _ _ => sts_nil) (fun _ _ _ _ _ => (sd_se (se_call (K := K) (ps := ["pot", "many"]) (m := m__law_draw) rfl c__law_draw hr hgd (sa_cons (se_pv 0) (sa_cons (se_pv 3) sa_nil))))))) sa_nil))))) (sss_one (ss_ret (sv_d (sd_se (se_tup (sa_cons se_str (sa_cons (se_pv 2) (sa_cons (se_pv 4) (sa_cons (se_pv 5) (sa_cons (se_pv 6) sa_nil))))))))))))))⟩
theorem g__law_woven {k : Nat} {f : Addr} {fd : FuncData} (F : Fun K "_law_woven" "_law_woven" s__law_woven f fd) (M : Md K mg) : FnG P w K mg base (k + 1) f fd ["loom"] m__law_woven :=
  fnG_of F sc__law_woven rfl fun cdv A outer s H hr hgd => ⟨_, (sss_cons (ss_set (i := 1) sc__law_woven.nd (sv_l (sl_lst sa_nil))) (sss_cons (ss_for PassesOwn.never rfl (si_seq rfl (sd_se (se_ix (opIx rfl) vIx (se_pv 0) se_int))) (sg_name (i := 2) sc__law_woven.nd) (sss_one (ss_expr (se_append rfl (se_pv 1) (sa_cons (se_ct (crTuple rfl) vTuple M.z_tuple bt_tuple (sa_cons (se_sl (sl_lc [("shaft", 3)] [3] rfl sc__law_woven.nd (si_seq rfl (sd_se (se_ix (opIx rfl) vIx (se_pv 0) se_int))) (by kernel_rfl) (fun _ _ _ _ _ => (sg_name (i := 3) sc__law_woven.nd)) (fun _ _ _ _ _ => sts_nil) (fun _ _ _ _ _ => (sd_se (se_if (st_cmp (opIn rfl hr) vIn (se_pv 3) (se_ix (opIx rfl) vIx (se_ix (opIx rfl) vIx (se_pv 0) se_int) (se_pv 2))) se_int se_int))))) sa_nil)) sa_nil))))) (sss_one (ss_ret (sv_d (sd_se (se_tup (sa_cons se_str (sa_cons (se_ct (crTuple rfl) vTuple M.z_tuple bt_tuple (sa_cons (se_pv 1) sa_nil)) sa_nil)))))))))⟩
theorem g_is_integer {k : Nat} {f : Addr} {fd : FuncData} (F : Fun K "is_integer" "is_integer" s_is_integer f fd) (M : Md K mg) : FnG P w K mg base (k + 1) f fd ["value"] m_is_integer :=
  fnG_of F sc_is_integer rfl fun cdv A outer s H hr hgd => ⟨_, (sss_one (ss_ret (sv_d (sd_se (se_and (se_isi (T := .int) rfl nofun M.z_isinstance M.z_int bt_int (se_pv 0)) (se_one (se_not (se_isi (T := .bool) rfl nofun M.z_isinstance M.z_bool bt_bool (se_pv 0)))))))))⟩
theorem g_is_within {k : Nat} {f : Addr} {fd : FuncData} (F : Fun K "is_within" "is_within" s_is_within f fd) (M : Md K mg) {f_is_integer : Addr} {fd_is_integer : FuncData} (c_is_integer : DL.Cal P w K mg base k "is_integer" ["value"] m_is_integer f_is_integer fd_is_integer) : FnG P w K mg base (k + 1) f fd ["value", "least", "most"] m_is_within :=
  fnG_of F sc_is_within rfl fun cdv A outer s H hr hgd => ⟨_, (sss_one (ss_ret (sv_d (sd_se (se_and (se_call (K := K) (ps := ["value"]) (m := m_is_integer) rfl c_is_integer hr hgd (sa_cons (se_pv 0) sa_nil)) (se_one (se_chain op_le vLe op_le vLe (se_pv 1) (se_pv 0) (se_pv 2))))))))⟩
theorem g_are_numbers {k : Nat} {f : Addr} {fd : FuncData} (F : Fun K "are_numbers" "are_numbers" s_are_numbers f fd) (M : Md K mg) {f_is_within : Addr} {fd_is_within : FuncData} (c_is_within : DL.Cal P w K mg base k "is_within" ["value", "least", "most"] m_is_within f_is_within fd_is_within) : FnG P w K mg base (k + 1) f fd ["value", "many"] m_are_numbers :=
  fnG_of F sc_are_numbers rfl fun cdv A outer s H hr hgd => ⟨_, (sss_cons (ss_if (st_sw (sw_or (st_not (st_val (se_isi (T := .tuple) rfl nofun M.z_isinstance M.z_tuple bt_tuple (se_pv 0)))) (sw_or1 (st_not (st_chain op_le vLe op_le vLe se_int (se_cb (crLen rfl) vLen M.z_len bt_len (sa_cons (se_pv 0) sa_nil)) (se_glob M.c_MOST)))))) (sss_one (ss_ret (sv_d (sd_se se_bl)))) sss_nil) (sss_one (ss_ret (sv_d (sd_se (se_cb (crAll rfl rfl) vAll M.z_all bt_all (sa_cons (se_sl (sl_lc [("one", 2)] [2] rfl sc_are_numbers.nd (si_seq rfl (sd_se (se_pv 0))) (by kernel_rfl) (fun _ _ _ _ _ => (sg_name (i := 2) sc_are_numbers.nd)) (fun _ _ _ _ _ => sts_nil) (fun _ _ _ _ _ => (sd_se (se_call (K := K) (ps := ["value", "least", "most"]) (m := m_is_within) rfl c_is_within hr hgd (sa_cons (se_pv 2) (sa_cons se_int (sa_cons (se_bin op_sub vSub (se_pv 1) se_int) sa_nil)))))))) sa_nil)))))))⟩
theorem g_is_tuple {k : Nat} {f : Addr} {fd : FuncData} (F : Fun K "is_tuple" "is_tuple" s_is_tuple f fd) (M : Md K mg) : FnG P w K mg base (k + 1) f fd ["value", "many"] m_is_tuple :=
  fnG_of F sc_is_tuple rfl fun cdv A outer s H hr hgd => ⟨_, (sss_one (ss_ret (sv_d (sd_se (se_and (se_isi (T := .tuple) rfl nofun M.z_isinstance M.z_tuple bt_tuple (se_pv 0)) (se_one (se_cmp (opEq rfl hr) vEq (se_cb (crLen rfl) vLen M.z_len bt_len (sa_cons (se_pv 0) sa_nil)) (se_pv 1))))))))⟩
theorem g_are_rising {k : Nat} {f : Addr} {fd : FuncData} (F : Fun K "are_rising" "are_rising" s_are_rising f fd) (M : Md K mg) : FnG P w K mg base (k + 1) f fd ["values"] m_are_rising :=
  fnG_of F sc_are_rising rfl fun cdv A outer s H hr hgd => ⟨_, (sss_one (ss_ret (sv_d (sd_se (se_cb (crAll rfl rfl) vAll M.z_all bt_all (sa_cons (se_sl (sl_lc [("near", 1), ("far", 2)] [1, 2] rfl sc_are_rising.nd (si_zip rfl M.z_zip (sa_cons (se_pv 0) (sa_cons (se_slice rfl (se_pv 0) (so_some se_int) so_none) sa_nil))) (by kernel_rfl) (fun _ _ _ _ _ => (sg_tup rfl rfl (sgs_cons (sg_name (i := 1) sc_are_rising.nd) (sgs_cons (sg_name (i := 2) sc_are_rising.nd) sgs_nil)))) (fun _ _ _ _ _ => sts_nil) (fun _ _ _ _ _ => (sd_se (se_cmp op_lt vLt (se_pv 1) (se_pv 2)))))) sa_nil))))))⟩
theorem g_is_lot_of {k : Nat} {f : Addr} {fd : FuncData} (F : Fun K "is_lot_of" "is_lot_of" s_is_lot_of f fd) (M : Md K mg) {f_are_rising : Addr} {fd_are_rising : FuncData} (c_are_rising : DL.Cal P w K mg base k "are_rising" ["values"] m_are_rising f_are_rising fd_are_rising) {f_is_within : Addr} {fd_is_within : FuncData} (c_is_within : DL.Cal P w K mg base k "is_within" ["value", "least", "most"] m_is_within f_is_within fd_is_within) : FnG P w K mg base (k + 1) f fd ["value", "many"] m_is_lot_of :=
  fnG_of F sc_is_lot_of rfl fun cdv A outer s H hr hgd => ⟨_, (sss_one (ss_ret (sv_d (sd_se (se_and (se_isi (T := .tuple) rfl nofun M.z_isinstance M.z_tuple bt_tuple (se_pv 0)) (se_and (se_cb (crAll rfl rfl) vAll M.z_all bt_all (sa_cons (se_sl (sl_lc [("one", 2)] [2] rfl sc_is_lot_of.nd (si_seq rfl (sd_se (se_pv 0))) (by kernel_rfl) (fun _ _ _ _ _ => (sg_name (i := 2) sc_is_lot_of.nd)) (fun _ _ _ _ _ => sts_nil) (fun _ _ _ _ _ => (sd_se (se_call (K := K) (ps := ["value", "least", "most"]) (m := m_is_within) rfl c_is_within hr hgd (sa_cons (se_pv 2) (sa_cons se_int (sa_cons (se_bin op_sub vSub (se_pv 1) se_int) sa_nil)))))))) sa_nil)) (se_one (se_call (K := K) (ps := ["values"]) (m := m_are_rising) rfl c_are_rising hr hgd (sa_cons (se_pv 0) sa_nil)))))))))⟩
theorem g_are_lifts {k : Nat} {f : Addr} {fd : FuncData} (F : Fun K "are_lifts" "are_lifts" s_are_lifts f fd) (M : Md K mg) {f_is_lot_of : Addr} {fd_is_lot_of : FuncData} (c_is_lot_of : DL.Cal P w K mg base k "is_lot_of" ["value", "many"] m_is_lot_of f_is_lot_of fd_is_lot_of) : FnG P w K mg base (k + 1) f fd ["value", "shafts"] m_are_lifts :=
  fnG_of F sc_are_lifts rfl fun cdv A outer s H hr hgd => ⟨_, (sss_one (ss_ret (sv_d (sd_se (se_and (se_isi (T := .tuple) rfl nofun M.z_isinstance M.z_tuple bt_tuple (se_pv 0)) (se_and (se_chain op_le vLe op_le vLe se_int (se_cb (crLen rfl) vLen M.z_len bt_len (sa_cons (se_pv 0) sa_nil)) (se_glob M.c_MOST)) (se_one (se_cb (crAll rfl rfl) vAll M.z_all bt_all (sa_cons (se_sl (sl_lc [("one", 2)] [2] rfl sc_are_lifts.nd (si_seq rfl (sd_se (se_pv 0))) (by kernel_rfl) (fun _ _ _ _ _ => (sg_name (i := 2) sc_are_lifts.nd)) (fun _ _ _ _ _ => sts_nil) (fun _ _ _ _ _ => (sd_se (se_call (K := K) (ps := ["value", "many"]) (m := m_is_lot_of) rfl c_is_lot_of hr hgd (sa_cons (se_pv 2) (sa_cons (se_pv 1) sa_nil))))))) sa_nil)))))))))⟩
theorem g_is_loom_value {k : Nat} {f : Addr} {fd : FuncData} (F : Fun K "is_loom_value" "is_loom_value" s_is_loom_value f fd) (M : Md K mg) {f_are_numbers : Addr} {fd_are_numbers : FuncData} (c_are_numbers : DL.Cal P w K mg base k "are_numbers" ["value", "many"] m_are_numbers f_are_numbers fd_are_numbers) {f_are_lifts : Addr} {fd_are_lifts : FuncData} (c_are_lifts : DL.Cal P w K mg base k "are_lifts" ["value", "shafts"] m_are_lifts f_are_lifts fd_are_lifts) {f_is_within : Addr} {fd_is_within : FuncData} (c_is_within : DL.Cal P w K mg base k "is_within" ["value", "least", "most"] m_is_within f_is_within fd_is_within) {f_is_tuple : Addr} {fd_is_tuple : FuncData} (c_is_tuple : DL.Cal P w K mg base k "is_tuple" ["value", "many"] m_is_tuple f_is_tuple fd_is_tuple) : FnG P w K mg base (k + 1) f fd ["value"] m_is_loom_value :=
  fnG_of F sc_is_loom_value rfl fun cdv A outer s H hr hgd => ⟨_, (sss_cons (ss_if (st_sw (sw_or (st_not (st_val (se_call (K := K) (ps := ["value", "many"]) (m := m_is_tuple) rfl c_is_tuple hr hgd (sa_cons (se_pv 0) (sa_cons se_int sa_nil))))) (sw_or (st_not (st_val (se_isi (T := .str) rfl nofun M.z_isinstance M.z_str bt_str (se_ix (opIx rfl) vIx (se_pv 0) se_int)))) (sw_or1 (st_cmp (opNe rfl hr) vNe (se_ix (opIx rfl) vIx (se_pv 0) se_int) (se_glob M.c_LOOM)))))) (sss_one (ss_ret (sv_d (sd_se se_bl)))) sss_nil) (sss_cons (ss_if (st_not (st_val (se_call (K := K) (ps := ["value", "least", "most"]) (m := m_is_within) rfl c_is_within hr hgd (sa_cons (se_ix (opIx rfl) vIx (se_pv 0) se_int) (sa_cons se_int (sa_cons (se_glob M.c_MOST) sa_nil)))))) (sss_one (ss_ret (sv_d (sd_se se_bl)))) sss_nil) (sss_cons (ss_if (st_sw (sw_or (st_not (st_val (se_call (K := K) (ps := ["value", "many"]) (m := m_are_numbers) rfl c_are_numbers hr hgd (sa_cons (se_ix (opIx rfl) vIx (se_pv 0) se_int) (sa_cons (se_ix (opIx rfl) vIx (se_pv 0) se_int) sa_nil))))) (sw_or1 (st_not (st_val (se_call (K := K) (ps := ["value", "shafts"]) (m := m_are_lifts) rfl c_are_lifts hr hgd (sa_cons (se_ix (opIx rfl) vIx (se_pv 0) se_int) (sa_cons (se_ix (opIx rfl) vIx (se_pv 0) se_int) sa_nil)))))))) (sss_one (ss_ret (sv_d (sd_se se_bl)))) sss_nil) (sss_one (ss_ret (sv_d (sd_se (se_call (K := K) (ps := ["value", "many"]) (m := m_are_numbers) rfl c_are_numbers hr hgd (sa_cons (se_ix (opIx rfl) vIx (se_pv 0) se_int) (sa_cons (se_cb (crLen rfl) vLen M.z_len bt_len (sa_cons (se_ix (opIx rfl) vIx (se_pv 0) se_int) sa_nil)) sa_nil))))))))))⟩
theorem g_want_loom {k : Nat} {f : Addr} {fd : FuncData} (F : Fun K "want_loom" "want_loom" s_want_loom f fd) (M : Md K mg) {f_is_loom_value : Addr} {fd_is_loom_value : FuncData} (c_is_loom_value : DL.Cal P w K mg base k "is_loom_value" ["value"] m_is_loom_value f_is_loom_value fd_is_loom_value) : FnG P w K mg base (k + 1) f fd ["loom"] m_want_loom :=
  fnG_of F sc_want_loom rfl fun cdv A outer s H hr hgd => ⟨_, (sss_one (ss_if (st_not (st_val (se_call (K := K) (ps := ["value"]) (m := m_is_loom_value) rfl c_is_loom_value hr hgd (sa_cons (se_pv 0) sa_nil)))) (sss_one ss_never) sss_nil))⟩
theorem g_by_first {k : Nat} {f : Addr} {fd : FuncData} (F : Fun K "by_first" "by_first" s_by_first f fd) (M : Md K mg) : FnG P w K mg base (k + 1) f fd ["values"] m_by_first :=
  fnG_of F sc_by_first rfl fun cdv A outer s H hr hgd => ⟨_, (sss_cons (ss_set (i := 1) sc_by_first.nd (sv_l (sl_lst sa_nil))) (sss_cons (ss_for PassesOwn.never rfl (si_seq rfl (sd_se (se_pv 0))) (sg_name (i := 2) sc_by_first.nd) (sss_one (ss_if (st_cmp (opNotIn rfl hr) vNotIn (se_pv 2) (se_pv 1)) (sss_one (ss_expr (se_append rfl (se_pv 1) (sa_cons (se_pv 2) sa_nil)))) sss_nil))) (sss_one (ss_retV (se_pv 1)))))⟩
theorem g_numbered {k : Nat} {f : Addr} {fd : FuncData} (F : Fun K "numbered" "numbered" s_numbered f fd) (M : Md K mg) {f_by_first : Addr} {fd_by_first : FuncData} (c_by_first : DL.Cal P w K mg base k "by_first" ["values"] m_by_first f_by_first fd_by_first) : FnG P w K mg base (k + 1) f fd ["values"] m_numbered :=
  fnG_of F sc_numbered rfl fun cdv A outer s H hr hgd => ⟨_, (sss_cons (ss_set (i := 1) sc_numbered.nd (sv_d (sd_se (se_call (K := K) (ps := ["values"]) (m := m_by_first) rfl c_by_first hr hgd (sa_cons (se_pv 0) sa_nil))))) (sss_one (ss_ret (sv_d (sd_se (se_ct (crTuple rfl) vTuple M.z_tuple bt_tuple (sa_cons (se_sl (sl_lc [("one", 2)] [2] rfl sc_numbered.nd (si_seq rfl (sd_se (se_pv 0))) (by kernel_rfl) (fun _ _ _ _ _ => (sg_name (i := 2) sc_numbered.nd)) (fun _ _ _ _ _ => sts_nil) (fun _ _ _ _ _ => (sd_se (se_index rfl hr (se_pv 1) (se_pv 2)))))) sa_nil)))))))⟩
theorem g_tidy {k : Nat} {f : Addr} {fd : FuncData} (F : Fun K "tidy" "tidy" s_tidy f fd) (M : Md K mg) {f_numbered : Addr} {fd_numbered : FuncData} (c_numbered : DL.Cal P w K mg base k "numbered" ["values"] m_numbered f_numbered fd_numbered) {f_by_first : Addr} {fd_by_first : FuncData} (c_by_first : DL.Cal P w K mg base k "by_first" ["values"] m_by_first f_by_first fd_by_first) : FnG P w K mg base (k + 1) f fd ["loom"] m_tidy :=
  fnG_of F sc_tidy rfl fun cdv A outer s H hr hgd => ⟨_, (sss_cons (ss_par (i := 1) (j := 2) rfl sc_tidy.nd (by decide) (sv_d (sd_se (se_call (K := K) (ps := ["values"]) (m := m_by_first) rfl c_by_first hr hgd (sa_cons (se_ix (opIx rfl) vIx (se_pv 0) se_int) sa_nil)))) (sv_d (sd_se (se_call (K := K) (ps := ["values"]) (m := m_by_first) rfl c_by_first hr hgd (sa_cons (se_ix (opIx rfl) vIx (se_pv 0) se_int) sa_nil))))) (sss_cons (ss_set (i := 3) sc_tidy.nd (sv_l (sl_lst sa_nil))) (sss_cons (ss_for PassesOwn.never rfl (si_seq rfl (sd_se (se_pv 2))) (sg_name (i := 4) sc_tidy.nd) (sss_one (ss_expr (se_append rfl (se_pv 3) (sa_cons (se_ct (crTuple rfl) vTuple M.z_tuple bt_tuple (sa_cons (se_sl (sl_lc [("at", 5), ("shaft", 6)] [5, 6] rfl sc_tidy.nd (si_enum rfl M.z_enumerate (sa_cons (se_pv 1) sa_nil)) (by kernel_rfl) (fun _ _ _ _ _ => (sg_tup rfl rfl (sgs_cons (sg_name (i := 5) sc_tidy.nd) (sgs_cons (sg_name (i := 6) sc_tidy.nd) sgs_nil)))) (fun _ _ _ _ _ => (sts_one (st_cmp (opIn rfl hr) vIn (se_pv 6) (se_ix (opIx rfl) vIx (se_ix (opIx rfl) vIx (se_pv 0) se_int) (se_pv 4))))) (fun _ _ _ _ _ => (sd_se (se_pv 5))))) sa_nil)) sa_nil))))) (sss_one (ss_ret (sv_d (sd_se (se_tup (sa_cons (se_glob M.c_LOOM) (sa_cons (se_cb (crLen rfl) vLen M.z_len bt_len (sa_cons (se_pv 1) sa_nil)) (sa_cons (se_call (K := K) (ps := ["values"]) (m := m_numbered) rfl c_numbered hr hgd (sa_cons (se_ix (opIx rfl) vIx (se_pv 0) se_int) sa_nil)) (sa_cons (se_ct (crTuple rfl) vTuple M.z_tuple bt_tuple (sa_cons (se_pv 3) sa_nil)) (sa_cons (se_call (K := K) (ps := ["values"]) (m := m_numbered) rfl c_numbered hr hgd (sa_cons (se_ix (opIx rfl) vIx (se_pv 0) se_int) sa_nil)) sa_nil)))))))))))))⟩
theorem g_tidied {k : Nat} {f : Addr} {fd : FuncData} (F : Fun K "tidied" "tidied" s_tidied f fd) (M : Md K mg) {f_tidy : Addr} {fd_tidy : FuncData} (c_tidy : DL.Cal P w K mg base k "tidy" ["loom"] m_tidy f_tidy fd_tidy) {f_want_loom : Addr} {fd_want_loom : FuncData} (c_want_loom : DL.Cal P w K mg base k "want_loom" ["loom"] m_want_loom f_want_loom fd_want_loom) : FnG P w K mg base (k + 1) f fd ["loom"] m_tidied :=
  fnG_of F sc_tidied rfl fun cdv A outer s H hr hgd => ⟨_, (sss_cons (ss_expr (se_call (K := K) (ps := ["loom"]) (m := m_want_loom) rfl c_want_loom hr hgd (sa_cons (se_pv 0) sa_nil))) (sss_one (ss_ret (sv_d (sd_se (se_call (K := K) (ps := ["loom"]) (m := m_tidy) rfl c_tidy hr hgd (sa_cons (se_pv 0) sa_nil)))))))⟩
theorem g_others {k : Nat} {f : Addr} {fd : FuncData} (F : Fun K "others" "others" s_others f fd) (M : Md K mg) : FnG P w K mg base (k + 1) f fd ["shafts", "lift"] m_others :=
  fnG_of F sc_others rfl fun cdv A outer s H hr hgd => ⟨_, (sss_one (ss_ret (sv_d (sd_se (se_ct (crTuple rfl) vTuple M.z_tuple bt_tuple (sa_cons (se_sl (sl_lc [("shaft", 2)] [2] rfl sc_others.nd (si_rng1 M.z_range (sa_cons (se_pv 0) sa_nil)) (by kernel_rfl) (fun _ _ _ _ _ => (sg_name (i := 2) sc_others.nd)) (fun _ _ _ _ _ => (sts_one (st_cmp (opNotIn rfl hr) vNotIn (se_pv 2) (se_pv 1)))) (fun _ _ _ _ _ => (sd_se (se_pv 2))))) sa_nil))))))⟩
theorem g_loom_contrary {k : Nat} {f : Addr} {fd : FuncData} (F : Fun K "loom_contrary" "loom_contrary" s_loom_contrary f fd) (M : Md K mg) {f_others : Addr} {fd_others : FuncData} (c_others : DL.Cal P w K mg base k "others" ["shafts", "lift"] m_others f_others fd_others) {f_want_loom : Addr} {fd_want_loom : FuncData} (c_want_loom : DL.Cal P w K mg base k "want_loom" ["loom"] m_want_loom f_want_loom fd_want_loom) : FnG P w K mg base (k + 1) f fd ["loom"] m_loom_contrary :=
  fnG_of F sc_loom_contrary rfl fun cdv A outer s H hr hgd => ⟨_, (sss_cons (ss_expr (se_call (K := K) (ps := ["loom"]) (m := m_want_loom) rfl c_want_loom hr hgd (sa_cons (se_pv 0) sa_nil))) (sss_one (ss_ret (sv_d (sd_se (se_bin (opAdd rfl) vAdd (se_slice rfl (se_pv 0) so_none (so_some se_int)) (se_tup (sa_cons (se_ct (crTuple rfl) vTuple M.z_tuple bt_tuple (sa_cons (se_sl (sl_lc [("lift", 1)] [1] rfl sc_loom_contrary.nd (si_seq rfl (sd_se (se_ix (opIx rfl) vIx (se_pv 0) se_int))) (by kernel_rfl) (fun _ _ _ _ _ => (sg_name (i := 1) sc_loom_contrary.nd)) (fun _ _ _ _ _ => sts_nil) (fun _ _ _ _ _ => (sd_se (se_call (K := K) (ps := ["shafts", "lift"]) (m := m_others) rfl c_others hr hgd (sa_cons (se_ix (opIx rfl) vIx (se_pv 0) se_int) (sa_cons (se_pv 1) sa_nil))))))) sa_nil)) (sa_cons (se_ix (opIx rfl) vIx (se_pv 0) se_int) sa_nil)))))))))⟩
theorem g_loom_quartered {k : Nat} {f : Addr} {fd : FuncData} (F : Fun K "loom_quartered" "loom_quartered" s_loom_quartered f fd) (M : Md K mg) {f_want_loom : Addr} {fd_want_loom : FuncData} (c_want_loom : DL.Cal P w K mg base k "want_loom" ["loom"] m_want_loom f_want_loom fd_want_loom) : FnG P w K mg base (k + 1) f fd ["loom"] m_loom_quartered :=
  fnG_of F sc_loom_quartered rfl fun cdv A outer s H hr hgd => ⟨_, (sss_cons (ss_expr (se_call (K := K) (ps := ["loom"]) (m := m_want_loom) rfl c_want_loom hr hgd (sa_cons (se_pv 0) sa_nil))) (sss_cons (ss_set (i := 1) sc_loom_quartered.nd (sv_l (sl_lst sa_nil))) (sss_cons (ss_for PassesOwn.never rfl (si_rng1 M.z_range (sa_cons (se_ix (opIx rfl) vIx (se_pv 0) se_int) sa_nil)) (sg_name (i := 2) sc_loom_quartered.nd) (sss_one (ss_expr (se_append rfl (se_pv 1) (sa_cons (se_ct (crTuple rfl) vTuple M.z_tuple bt_tuple (sa_cons (se_sl (sl_lc [("treadle", 3), ("lift", 4)] [3, 4] rfl sc_loom_quartered.nd (si_enum rfl M.z_enumerate (sa_cons (se_ix (opIx rfl) vIx (se_pv 0) se_int) sa_nil)) (by kernel_rfl) (fun _ _ _ _ _ => (sg_tup rfl rfl (sgs_cons (sg_name (i := 3) sc_loom_quartered.nd) (sgs_cons (sg_name (i := 4) sc_loom_quartered.nd) sgs_nil)))) (fun _ _ _ _ _ => (sts_one (st_cmp (opNotIn rfl hr) vNotIn (se_pv 2) (se_pv 4)))) (fun _ _ _ _ _ => (sd_se (se_pv 3))))) sa_nil)) sa_nil))))) (sss_one (ss_ret (sv_d (sd_se (se_tup (sa_cons (se_glob M.c_LOOM) (sa_cons (se_cb (crLen rfl) vLen M.z_len bt_len (sa_cons (se_ix (opIx rfl) vIx (se_pv 0) se_int) sa_nil)) (sa_cons (se_rev rfl (se_ix (opIx rfl) vIx (se_pv 0) se_int)) (sa_cons (se_ct (crTuple rfl) vTuple M.z_tuple bt_tuple (sa_cons (se_pv 1) sa_nil)) (sa_cons (se_ix (opIx rfl) vIx (se_pv 0) se_int) sa_nil)))))))))))))⟩
theorem g_is_headed {k : Nat} {f : Addr} {fd : FuncData} (F : Fun K "is_headed" "is_headed" s_is_headed f fd) (M : Md K mg) {f_is_tuple : Addr} {fd_is_tuple : FuncData} (c_is_tuple : DL.Cal P w K mg base k "is_tuple" ["value", "many"] m_is_tuple f_is_tuple fd_is_tuple) : FnG P w K mg base (k + 1) f fd ["value", "word"] m_is_headed :=
  fnG_of F sc_is_headed rfl fun cdv A outer s H hr hgd => ⟨_, (sss_one (ss_ret (sv_d (sd_se (se_and (se_call (K := K) (ps := ["value", "many"]) (m := m_is_tuple) rfl c_is_tuple hr hgd (sa_cons (se_pv 0) (sa_cons se_int sa_nil))) (se_and (se_isi (T := .str) rfl nofun M.z_isinstance M.z_str bt_str (se_ix (opIx rfl) vIx (se_pv 0) se_int)) (se_one (se_cmp (opEq rfl hr) vEq (se_ix (opIx rfl) vIx (se_pv 0) se_int) (se_pv 1)))))))))⟩
theorem g_are_rows_of {k : Nat} {f : Addr} {fd : FuncData} (F : Fun K "are_rows_of" "are_rows_of" s_are_rows_of f fd) (M : Md K mg) {f_is_within : Addr} {fd_is_within : FuncData} (c_is_within : DL.Cal P w K mg base k "is_within" ["value", "least", "most"] m_is_within f_is_within fd_is_within) : FnG P w K mg base (k + 1) f fd ["value", "signs"] m_are_rows_of :=
  fnG_of F sc_are_rows_of rfl fun cdv A outer s H hr hgd => ⟨_, (sss_cons (ss_if (st_sw (sw_or (st_not (st_val (se_isi (T := .tuple) rfl nofun M.z_isinstance M.z_tuple bt_tuple (se_pv 0)))) (sw_or1 (st_not (st_chain op_le vLe op_le vLe se_int (se_cb (crLen rfl) vLen M.z_len bt_len (sa_cons (se_pv 0) sa_nil)) (se_glob M.c_MOST)))))) (sss_one (ss_ret (sv_d (sd_se se_bl)))) sss_nil) (sss_cons (ss_if (st_not (st_val (se_cb (crAll rfl rfl) vAll M.z_all bt_all (sa_cons (se_sl (sl_lc [("row", 2)] [2] rfl sc_are_rows_of.nd (si_seq rfl (sd_se (se_pv 0))) (by kernel_rfl) (fun _ _ _ _ _ => (sg_name (i := 2) sc_are_rows_of.nd)) (fun _ _ _ _ _ => sts_nil) (fun _ _ _ _ _ => (sd_se (se_isi (T := .tuple) rfl nofun M.z_isinstance M.z_tuple bt_tuple (se_pv 2)))))) sa_nil)))) (sss_one (ss_ret (sv_d (sd_se se_bl)))) sss_nil) (sss_cons (ss_if (st_sw (sw_or (st_not (st_chain op_le vLe op_le vLe se_int (se_cb (crLen rfl) vLen M.z_len bt_len (sa_cons (se_ix (opIx rfl) vIx (se_pv 0) se_int) sa_nil)) (se_glob M.c_MOST))) (sw_or1 (st_val (se_cb (crAny rfl rfl) vAny M.z_any bt_any (sa_cons (se_sl (sl_lc [("row", 2)] [2] rfl sc_are_rows_of.nd (si_seq rfl (sd_se (se_pv 0))) (by kernel_rfl) (fun _ _ _ _ _ => (sg_name (i := 2) sc_are_rows_of.nd)) (fun _ _ _ _ _ => sts_nil) (fun _ _ _ _ _ => (sd_se (se_cmp (opNe rfl hr) vNe (se_cb (crLen rfl) vLen M.z_len bt_len (sa_cons (se_pv 2) sa_nil)) (se_cb (crLen rfl) vLen M.z_len bt_len (sa_cons (se_ix (opIx rfl) vIx (se_pv 0) se_int) sa_nil))))))) sa_nil)))))) (sss_one (ss_ret (sv_d (sd_se se_bl)))) sss_nil) (sss_one (ss_ret (sv_d (sd_se (se_cb (crAll rfl rfl) vAll M.z_all bt_all (sa_cons (se_sl (sl_lc [("row", 2)] [2] rfl sc_are_rows_of.nd (si_seq rfl (sd_se (se_pv 0))) (by kernel_rfl) (fun _ _ _ _ _ => (sg_name (i := 2) sc_are_rows_of.nd)) (fun _ _ _ _ _ => sts_nil) (fun _ _ _ _ _ => (sd_se (se_cb (crAll rfl rfl) vAll M.z_all bt_all (sa_cons (se_sl (sl_lc [("one", 3)] [3] rfl sc_are_rows_of.nd (si_seq rfl (sd_se (se_pv 2))) (by kernel_rfl) (fun _ _ _ _ _ => (sg_name (i := 3) sc_are_rows_of.nd)) (fun _ _ _ _ _ => sts_nil) (fun _ _ _ _ _ => (sd_se (se_call (K := K) (ps := ["value", "least", "most"]) (m := m_is_within) rfl c_is_within hr hgd (sa_cons (se_pv 3) (sa_cons se_int (sa_cons (se_bin op_sub vSub (se_pv 1) se_int) sa_nil)))))))) sa_nil)))))) sa_nil)))))))))⟩
theorem g_is_draft_value {k : Nat} {f : Addr} {fd : FuncData} (F : Fun K "is_draft_value" "is_draft_value" s_is_draft_value f fd) (M : Md K mg) {f_are_rows_of : Addr} {fd_are_rows_of : FuncData} (c_are_rows_of : DL.Cal P w K mg base k "are_rows_of" ["value", "signs"] m_are_rows_of f_are_rows_of fd_are_rows_of) {f_is_headed : Addr} {fd_is_headed : FuncData} (c_is_headed : DL.Cal P w K mg base k "is_headed" ["value", "word"] m_is_headed f_is_headed fd_is_headed) : FnG P w K mg base (k + 1) f fd ["value"] m_is_draft_value :=
  fnG_of F sc_is_draft_value rfl fun cdv A outer s H hr hgd => ⟨_, (sss_one (ss_ret (sv_d (sd_se (se_and (se_call (K := K) (ps := ["value", "word"]) (m := m_is_headed) rfl c_is_headed hr hgd (sa_cons (se_pv 0) (sa_cons se_str sa_nil))) (se_one (se_call (K := K) (ps := ["value", "signs"]) (m := m_are_rows_of) rfl c_are_rows_of hr hgd (sa_cons (se_ix (opIx rfl) vIx (se_pv 0) se_int) (sa_cons se_int sa_nil)))))))))⟩
theorem g_want_draft {k : Nat} {f : Addr} {fd : FuncData} (F : Fun K "want_draft" "want_draft" s_want_draft f fd) (M : Md K mg) {f_is_draft_value : Addr} {fd_is_draft_value : FuncData} (c_is_draft_value : DL.Cal P w K mg base k "is_draft_value" ["value"] m_is_draft_value f_is_draft_value fd_is_draft_value) : FnG P w K mg base (k + 1) f fd ["draft"] m_want_draft :=
  fnG_of F sc_want_draft rfl fun cdv A outer s H hr hgd => ⟨_, (sss_one (ss_if (st_not (st_val (se_call (K := K) (ps := ["value"]) (m := m_is_draft_value) rfl c_is_draft_value hr hgd (sa_cons (se_pv 0) sa_nil)))) (sss_one ss_never) sss_nil))⟩
theorem g_many_warps {k : Nat} {f : Addr} {fd : FuncData} (F : Fun K "many_warps" "many_warps" s_many_warps f fd) (M : Md K mg) : FnG P w K mg base (k + 1) f fd ["draft"] m_many_warps :=
  fnG_of F sc_many_warps rfl fun cdv A outer s H hr hgd => ⟨_, (sss_one (ss_ret (sv_d (sd_se (se_cb (crLen rfl) vLen M.z_len bt_len (sa_cons (se_ix (opIx rfl) vIx (se_ix (opIx rfl) vIx (se_pv 0) se_int) se_int) sa_nil))))))⟩
theorem g_columns_of {k : Nat} {f : Addr} {fd : FuncData} (F : Fun K "columns_of" "columns_of" s_columns_of f fd) (M : Md K mg) {f_many_warps : Addr} {fd_many_warps : FuncData} (c_many_warps : DL.Cal P w K mg base k "many_warps" ["draft"] m_many_warps f_many_warps fd_many_warps) : FnG P w K mg base (k + 1) f fd ["draft"] m_columns_of :=
  fnG_of F sc_columns_of rfl fun cdv A outer s H hr hgd => ⟨_, (sss_one (ss_ret (sv_l (sl_lc [("warp", 1)] [1] rfl sc_columns_of.nd (si_rng1 M.z_range (sa_cons (se_call (K := K) (ps := ["draft"]) (m := m_many_warps) rfl c_many_warps hr hgd (sa_cons (se_pv 0) sa_nil)) sa_nil)) (by kernel_rfl) (fun _ _ _ _ _ => (sg_name (i := 1) sc_columns_of.nd)) (fun _ _ _ _ _ => sts_nil) (fun _ _ _ _ _ => (sd_se (se_ct (crTuple rfl) vTuple M.z_tuple bt_tuple (sa_cons (se_sl (sl_lc [("row", 2)] [2] rfl sc_columns_of.nd (si_seq rfl (sd_se (se_ix (opIx rfl) vIx (se_pv 0) se_int))) (by kernel_rfl) (fun _ _ _ _ _ => (sg_name (i := 2) sc_columns_of.nd)) (fun _ _ _ _ _ => sts_nil) (fun _ _ _ _ _ => (sd_se (se_ix (opIx rfl) vIx (se_pv 2) (se_pv 1)))))) sa_nil))))))))⟩
theorem g_told_loom {k : Nat} {f : Addr} {fd : FuncData} (F : Fun K "told_loom" "told_loom" s_told_loom f fd) (M : Md K mg) {f_numbered : Addr} {fd_numbered : FuncData} (c_numbered : DL.Cal P w K mg base k "numbered" ["values"] m_numbered f_numbered fd_numbered) {f_by_first : Addr} {fd_by_first : FuncData} (c_by_first : DL.Cal P w K mg base k "by_first" ["values"] m_by_first f_by_first fd_by_first) {f_columns_of : Addr} {fd_columns_of : FuncData} (c_columns_of : DL.Cal P w K mg base k "columns_of" ["draft"] m_columns_of f_columns_of fd_columns_of) : FnG P w K mg base (k + 1) f fd ["draft"] m_told_loom :=
  fnG_of F sc_told_loom rfl fun cdv A outer s H hr hgd => ⟨_, (sss_cons (ss_asg (sd_se (se_tup (sa_cons (se_call (K := K) (ps := ["draft"]) (m := m_columns_of) rfl c_columns_of hr hgd (sa_cons (se_pv 0) sa_nil)) (sa_cons (se_sl (sl_ct (crList rfl) vListL M.z_list bt_list (sa_cons (se_ix (opIx rfl) vIx (se_pv 0) se_int) sa_nil))) sa_nil)))) (sg_tup rfl rfl (sgs_cons (sg_name (i := 1) sc_told_loom.nd) (sgs_cons (sg_name (i := 2) sc_told_loom.nd) sgs_nil)))) (sss_cons (ss_setLc (i := 3) true [("one", 6)] [6] rfl sc_told_loom.nd (si_seq rfl (sd_se (se_call (K := K) (ps := ["values"]) (m := m_by_first) rfl c_by_first hr hgd (sa_cons (se_pv 1) sa_nil)))) (by kernel_rfl) (fun _ _ _ _ _ => (sg_name (i := 6) sc_told_loom.nd)) (fun _ _ _ _ _ => sts_nil) (fun _ _ _ _ _ => (sd_se (se_index rfl hr (se_pv 1) (se_pv 6)))) (sw_true rfl rfl rfl rfl)) (sss_cons (ss_set (i := 4) sc_told_loom.nd (sv_l (sl_lst sa_nil))) (sss_cons (ss_for PassesOwn.never rfl (si_seq rfl (sd_se (se_call (K := K) (ps := ["values"]) (m := m_by_first) rfl c_by_first hr hgd (sa_cons (se_pv 2) sa_nil)))) (sg_name (i := 5) sc_told_loom.nd) (sss_one (ss_expr (se_append rfl (se_pv 4) (sa_cons (se_ct (crTuple rfl) vTuple M.z_tuple bt_tuple (sa_cons (se_sl (sl_lc [("shaft", 7), ("warp", 8)] [7, 8] rfl sc_told_loom.nd (si_enum rfl M.z_enumerate (sa_cons (se_pv 3) sa_nil)) (by kernel_rfl) (fun _ _ _ _ _ => (sg_tup rfl rfl (sgs_cons (sg_name (i := 7) sc_told_loom.nd) (sgs_cons (sg_name (i := 8) sc_told_loom.nd) sgs_nil)))) (fun _ _ _ _ _ => (sts_one (st_cmp (opEq rfl hr) vEq (se_ix (opIx rfl) vIx (se_pv 5) (se_pv 8)) se_int))) (fun _ _ _ _ _ => (sd_se (se_pv 7))))) sa_nil)) sa_nil))))) (sss_one (ss_ret (sv_d (sd_se (se_tup (sa_cons (se_glob M.c_LOOM) (sa_cons (se_cb (crLen rfl) vLen M.z_len bt_len (sa_cons (se_pv 3) sa_nil)) (sa_cons (se_call (K := K) (ps := ["values"]) (m := m_numbered) rfl c_numbered hr hgd (sa_cons (se_pv 1) sa_nil)) (sa_cons (se_ct (crTuple rfl) vTuple M.z_tuple bt_tuple (sa_cons (se_pv 4) sa_nil)) (sa_cons (se_call (K := K) (ps := ["values"]) (m := m_numbered) rfl c_numbered hr hgd (sa_cons (se_pv 2) sa_nil)) sa_nil))))))))))))))⟩
theorem g_loom_of {k : Nat} {f : Addr} {fd : FuncData} (F : Fun K "loom_of" "loom_of" s_loom_of f fd) (M : Md K mg) {f_told_loom : Addr} {fd_told_loom : FuncData} (c_told_loom : DL.Cal P w K mg base k "told_loom" ["draft"] m_told_loom f_told_loom fd_told_loom) {f_want_draft : Addr} {fd_want_draft : FuncData} (c_want_draft : DL.Cal P w K mg base k "want_draft" ["draft"] m_want_draft f_want_draft fd_want_draft) : FnG P w K mg base (k + 1) f fd ["draft"] m_loom_of :=
  fnG_of F sc_loom_of rfl fun cdv A outer s H hr hgd => ⟨_, (sss_cons (ss_expr (se_call (K := K) (ps := ["draft"]) (m := m_want_draft) rfl c_want_draft hr hgd (sa_cons (se_pv 0) sa_nil))) (sss_one (ss_ret (sv_d (sd_se (se_call (K := K) (ps := ["draft"]) (m := m_told_loom) rfl c_told_loom hr hgd (sa_cons (se_pv 0) sa_nil)))))))⟩
theorem g_want_most {k : Nat} {f : Addr} {fd : FuncData} (F : Fun K "want_most" "want_most" s_want_most f fd) (M : Md K mg) {f_is_within : Addr} {fd_is_within : FuncData} (c_is_within : DL.Cal P w K mg base k "is_within" ["value", "least", "most"] m_is_within f_is_within fd_is_within) : FnG P w K mg base (k + 1) f fd ["value"] m_want_most :=
  fnG_of F sc_want_most rfl fun cdv A outer s H hr hgd => ⟨_, (sss_one (ss_if (st_not (st_val (se_call (K := K) (ps := ["value", "least", "most"]) (m := m_is_within) rfl c_is_within hr hgd (sa_cons (se_pv 0) (sa_cons se_int (sa_cons (se_glob M.c_MOST) sa_nil)))))) (sss_one ss_never) sss_nil))⟩
theorem g_by_lift_plan {k : Nat} {f : Addr} {fd : FuncData} (F : Fun K "by_lift_plan" "by_lift_plan" s_by_lift_plan f fd) (M : Md K mg) {f_numbered : Addr} {fd_numbered : FuncData} (c_numbered : DL.Cal P w K mg base k "numbered" ["values"] m_numbered f_numbered fd_numbered) {f_by_first : Addr} {fd_by_first : FuncData} (c_by_first : DL.Cal P w K mg base k "by_first" ["values"] m_by_first f_by_first fd_by_first) {f_are_lifts : Addr} {fd_are_lifts : FuncData} (c_are_lifts : DL.Cal P w K mg base k "are_lifts" ["value", "shafts"] m_are_lifts f_are_lifts fd_are_lifts) {f_are_numbers : Addr} {fd_are_numbers : FuncData} (c_are_numbers : DL.Cal P w K mg base k "are_numbers" ["value", "many"] m_are_numbers f_are_numbers fd_are_numbers) {f_want_most : Addr} {fd_want_most : FuncData} (c_want_most : DL.Cal P w K mg base k "want_most" ["value"] m_want_most f_want_most fd_want_most) : FnG P w K mg base (k + 1) f fd ["shafts", "threading", "plan"] m_by_lift_plan :=
  fnG_of F sc_by_lift_plan rfl fun cdv A outer s H hr hgd => ⟨_, (sss_cons (ss_expr (se_call (K := K) (ps := ["value"]) (m := m_want_most) rfl c_want_most hr hgd (sa_cons (se_pv 0) sa_nil))) (sss_cons (ss_if (st_not (st_val (se_call (K := K) (ps := ["value", "many"]) (m := m_are_numbers) rfl c_are_numbers hr hgd (sa_cons (se_pv 1) (sa_cons (se_pv 0) sa_nil))))) (sss_one ss_never) sss_nil) (sss_cons (ss_if (st_not (st_val (se_call (K := K) (ps := ["value", "shafts"]) (m := m_are_lifts) rfl c_are_lifts hr hgd (sa_cons (se_pv 2) (sa_cons (se_pv 0) sa_nil))))) (sss_one ss_never) sss_nil) (sss_one (ss_ret (sv_d (sd_se (se_tup (sa_cons (se_glob M.c_LOOM) (sa_cons (se_pv 0) (sa_cons (se_pv 1) (sa_cons (se_ct (crTuple rfl) vTuple M.z_tuple bt_tuple (sa_cons (se_call (K := K) (ps := ["values"]) (m := m_by_first) rfl c_by_first hr hgd (sa_cons (se_pv 2) sa_nil)) sa_nil)) (sa_cons (se_call (K := K) (ps := ["values"]) (m := m_numbered) rfl c_numbered hr hgd (sa_cons (se_pv 2) sa_nil)) sa_nil)))))))))))))⟩
theorem g_plan_of {k : Nat} {f : Addr} {fd : FuncData} (F : Fun K "plan_of" "plan_of" s_plan_of f fd) (M : Md K mg) : FnG P w K mg base (k + 1) f fd ["loom"] m_plan_of :=
  fnG_of F sc_plan_of rfl fun cdv A outer s H hr hgd => ⟨_, (sss_one (ss_ret (sv_d (sd_se (se_ct (crTuple rfl) vTuple M.z_tuple bt_tuple (sa_cons (se_sl (sl_lc [("treadle", 1)] [1] rfl sc_plan_of.nd (si_seq rfl (sd_se (se_ix (opIx rfl) vIx (se_pv 0) se_int))) (by kernel_rfl) (fun _ _ _ _ _ => (sg_name (i := 1) sc_plan_of.nd)) (fun _ _ _ _ _ => sts_nil) (fun _ _ _ _ _ => (sd_se (se_ix (opIx rfl) vIx (se_ix (opIx rfl) vIx (se_pv 0) se_int) (se_pv 1)))))) sa_nil))))))⟩
theorem g_lift_plan {k : Nat} {f : Addr} {fd : FuncData} (F : Fun K "lift_plan" "lift_plan" s_lift_plan f fd) (M : Md K mg) {f_plan_of : Addr} {fd_plan_of : FuncData} (c_plan_of : DL.Cal P w K mg base k "plan_of" ["loom"] m_plan_of f_plan_of fd_plan_of) {f_want_loom : Addr} {fd_want_loom : FuncData} (c_want_loom : DL.Cal P w K mg base k "want_loom" ["loom"] m_want_loom f_want_loom fd_want_loom) : FnG P w K mg base (k + 1) f fd ["loom"] m_lift_plan :=
  fnG_of F sc_lift_plan rfl fun cdv A outer s H hr hgd => ⟨_, (sss_cons (ss_expr (se_call (K := K) (ps := ["loom"]) (m := m_want_loom) rfl c_want_loom hr hgd (sa_cons (se_pv 0) sa_nil))) (sss_one (ss_ret (sv_d (sd_se (se_call (K := K) (ps := ["loom"]) (m := m_plan_of) rfl c_plan_of hr hgd (sa_cons (se_pv 0) sa_nil)))))))⟩
theorem g__law_pick {k : Nat} {f : Addr} {fd : FuncData} (F : Fun K "_law_pick" "_law_pick" s__law_pick f fd) (M : Md K mg) {f__law_draw : Addr} {fd__law_draw : FuncData} (c__law_draw : DL.Cal P w K mg base k "_law_draw" ["pot", "many"] m__law_draw f__law_draw fd__law_draw) : FnG P w K mg base (k + 1) f fd ["pot", "some"] m__law_pick :=
  fnG_of F sc__law_pick rfl fun cdv A outer s H hr hgd => ⟨_, (sss_one (ss_ret (sv_d (sd_se (se_ix (opIx rfl) vIx (se_pv 1) (se_call (K := K) (ps := ["pot", "many"]) (m := m__law_draw) rfl c__law_draw hr hgd (sa_cons (se_pv 0) (sa_cons (se_cb (crLen rfl) vLen M.z_len bt_len (sa_cons (se_pv 1) sa_nil)) sa_nil))))))))⟩
theorem g__law_bent_row {k : Nat} {f : Addr} {fd : FuncData} (F : Fun K "_law_bent_row" "_law_bent_row" s__law_bent_row f fd) (M : Md K mg) {f__law_pick : Addr} {fd__law_pick : FuncData} (c__law_pick : DL.Cal P w K mg base k "_law_pick" ["pot", "some"] m__law_pick f__law_pick fd__law_pick) {f__law_draw : Addr} {fd__law_draw : FuncData} (c__law_draw : DL.Cal P w K mg base k "_law_draw" ["pot", "many"] m__law_draw f__law_draw fd__law_draw) : FnG P w K mg base (k + 1) f fd ["pot", "row"] m__law_bent_row :=
  fnG_of F sc__law_bent_row rfl fun cdv A outer s H hr hgd => ⟨_, (sss_cons (ss_set (i := 2) sc__law_bent_row.nd (sv_d (sd_se (se_call (K := K) (ps := ["pot", "many"]) (m := m__law_draw) rfl c__law_draw hr hgd (sa_cons (se_pv 0) (sa_cons (se_bin (opAdd rfl) vAdd (se_cb (crLen rfl) vLen M.z_len bt_len (sa_cons (se_pv 1) sa_nil)) se_int) sa_nil)))))) (sss_cons (ss_set (i := 3) sc__law_bent_row.nd (sv_d (sd_se (se_call (K := K) (ps := ["pot", "some"]) (m := m__law_pick) rfl c__law_pick hr hgd (sa_cons (se_pv 0) (sa_cons (se_sl (sl_lst (sa_cons se_non (sa_cons se_bl (sa_cons (se_un un_neg vNeg se_int) (sa_cons se_int (sa_cons se_int (sa_cons se_int (sa_cons se_int (sa_cons se_str (sa_cons (se_tup sa_nil) (sa_cons (se_tup (sa_cons se_int sa_nil)) (sa_cons (se_sl (sl_lst (sa_cons se_int sa_nil))) sa_nil))))))))))))) sa_nil)))))) (sss_cons (ss_set (i := 4) sc__law_bent_row.nd (sv_d (sd_se (se_sl (sl_lst (sa_cons (se_bin (opAdd rfl) vAdd (se_bin (opAdd rfl) vAdd (se_slice rfl (se_pv 1) so_none (so_some (se_pv 2))) (se_tup (sa_cons (se_pv 3) sa_nil))) (se_slice rfl (se_pv 1) (so_some (se_pv 2)) so_none)) (sa_cons (se_bin (opAdd rfl) vAdd (se_bin (opAdd rfl) vAdd (se_slice rfl (se_pv 1) so_none (so_some (se_pv 2))) (se_tup (sa_cons (se_pv 3) sa_nil))) (se_slice rfl (se_pv 1) (so_some (se_bin (opAdd rfl) vAdd (se_pv 2) se_int)) so_none)) (sa_cons (se_bin (opAdd rfl) vAdd (se_slice rfl (se_pv 1) so_none (so_some (se_pv 2))) (se_slice rfl (se_pv 1) (so_some (se_bin (opAdd rfl) vAdd (se_pv 2) se_int)) so_none)) (sa_cons (se_sl (sl_ct (crList rfl) vListL M.z_list bt_list (sa_cons (se_pv 1) sa_nil))) sa_nil))))))))) (sss_one (ss_ret (sv_d (sd_se (se_call (K := K) (ps := ["pot", "some"]) (m := m__law_pick) rfl c__law_pick hr hgd (sa_cons (se_pv 0) (sa_cons (se_bin (opAdd rfl) vAdd (se_pv 4) (se_sl (sl_lst (sa_cons (se_bin (opAdd rfl) vAdd (se_pv 1) (se_pv 1)) (sa_cons (se_bin (opMulX rfl) vMulX (se_pv 1) se_int) (sa_cons (se_tup sa_nil) (sa_cons se_non (sa_cons (se_rev rfl (se_pv 1)) sa_nil)))))))) sa_nil))))))))))⟩
theorem g__law_bent {k : Nat} {f : Addr} {fd : FuncData} (F : Fun K "_law_bent" "_law_bent" s__law_bent f fd) (M : Md K mg) {f__law_pick : Addr} {fd__law_pick : FuncData} (c__law_pick : DL.Cal P w K mg base k "_law_pick" ["pot", "some"] m__law_pick f__law_pick fd__law_pick) {f__law_draw : Addr} {fd__law_draw : FuncData} (c__law_draw : DL.Cal P w K mg base k "_law_draw" ["pot", "many"] m__law_draw f__law_draw fd__law_draw) {f__law_bent_row : Addr} {fd__law_bent_row : FuncData} (c__law_bent_row : DL.Cal P w K mg base k "_law_bent_row" ["pot", "row"] m__law_bent_row f__law_bent_row fd__law_bent_row) : FnG P w K mg base (k + 1) f fd ["pot", "loom"] m__law_bent :=
  fnG_of F sc__law_bent rfl fun cdv A outer s H hr hgd => ⟨_, (sss_cons (ss_set (i := 2) sc__law_bent.nd (sv_d (sd_se (se_call (K := K) (ps := ["pot", "many"]) (m := m__law_draw) rfl c__law_draw hr hgd (sa_cons (se_pv 0) (sa_cons se_int sa_nil)))))) (sss_cons (ss_if (st_cmp (opEq rfl hr) vEq (se_pv 2) se_int) (sss_one (ss_set (i := 3) sc__law_bent.nd (sv_d (sd_se (se_call (K := K) (ps := ["pot", "some"]) (m := m__law_pick) rfl c__law_pick hr hgd (sa_cons (se_pv 0) (sa_cons (se_sl (sl_lst (sa_cons se_str (sa_cons se_str (sa_cons se_non (sa_cons se_str (sa_cons (se_tup (sa_cons se_str sa_nil)) sa_nil))))))) sa_nil))))))) (sss_one (ss_if (st_cmp (opEq rfl hr) vEq (se_pv 2) se_int) (sss_one (ss_set (i := 3) sc__law_bent.nd (sv_d (sd_se (se_call (K := K) (ps := ["pot", "some"]) (m := m__law_pick) rfl c__law_pick hr hgd (sa_cons (se_pv 0) (sa_cons (se_sl (sl_lst (sa_cons se_int (sa_cons se_int (sa_cons se_int (sa_cons se_int (sa_cons se_int (sa_cons se_int (sa_cons se_bl (sa_cons se_non (sa_cons se_str (sa_cons (se_un un_neg vNeg se_int) sa_nil)))))))))))) sa_nil))))))) (sss_one (ss_if (st_sw (sw_and (st_cmp (opEq rfl hr) vEq (se_pv 2) se_int) (sw_and1 (st_cmp op_gt vGt (se_call (K := K) (ps := ["pot", "many"]) (m := m__law_draw) rfl c__law_draw hr hgd (sa_cons (se_pv 0) (sa_cons se_int sa_nil))) se_int)))) (sss_cons (ss_set (i := 4) sc__law_bent.nd (sv_d (sd_se (se_call (K := K) (ps := ["pot", "many"]) (m := m__law_draw) rfl c__law_draw hr hgd (sa_cons (se_pv 0) (sa_cons (se_cb (crLen rfl) vLen M.z_len bt_len (sa_cons (se_ix (opIx rfl) vIx (se_pv 1) se_int) sa_nil)) sa_nil)))))) (sss_one (ss_set (i := 3) sc__law_bent.nd (sv_d (sd_se (se_bin (opAdd rfl) vAdd (se_bin (opAdd rfl) vAdd (se_slice rfl (se_ix (opIx rfl) vIx (se_pv 1) se_int) so_none (so_some (se_pv 4))) (se_tup (sa_cons (se_call (K := K) (ps := ["pot", "row"]) (m := m__law_bent_row) rfl c__law_bent_row hr hgd (sa_cons (se_pv 0) (sa_cons (se_ix (opIx rfl) vIx (se_ix (opIx rfl) vIx (se_pv 1) se_int) (se_pv 4)) sa_nil))) sa_nil))) (se_slice rfl (se_ix (opIx rfl) vIx (se_pv 1) se_int) (so_some (se_bin (opAdd rfl) vAdd (se_pv 4) se_int)) so_none))))))) (sss_one (ss_set (i := 3) sc__law_bent.nd (sv_d (sd_se (se_call (K := K) (ps := ["pot", "row"]) (m := m__law_bent_row) rfl c__law_bent_row hr hgd (sa_cons (se_pv 0) (sa_cons (se_ix (opIx rfl) vIx (se_pv 1) (se_pv 2)) sa_nil)))))))))))) (sss_cons (ss_set (i := 5) sc__law_bent.nd (sv_d (sd_se (se_bin (opAdd rfl) vAdd (se_bin (opAdd rfl) vAdd (se_slice rfl (se_pv 1) so_none (so_some (se_pv 2))) (se_tup (sa_cons (se_pv 3) sa_nil))) (se_slice rfl (se_pv 1) (so_some (se_bin (opAdd rfl) vAdd (se_pv 2) se_int)) so_none))))) (sss_one (ss_ret (sv_d (sd_se (se_call (K := K) (ps := ["pot", "some"]) (m := m__law_pick) rfl c__law_pick hr hgd (sa_cons (se_pv 0) (sa_cons (se_sl (sl_lst (sa_cons (se_pv 5) (sa_cons (se_pv 5) (sa_cons (se_pv 5) (sa_cons (se_pv 5) (sa_cons (se_pv 5) (sa_cons (se_bin (opAdd rfl) vAdd (se_slice rfl (se_pv 1) so_none (so_some (se_pv 2))) (se_slice rfl (se_pv 1) (so_some (se_bin (opAdd rfl) vAdd (se_pv 2) se_int)) so_none)) (sa_cons (se_bin (opAdd rfl) vAdd (se_pv 1) (se_slice rfl (se_pv 1) so_none (so_some se_int))) (sa_cons (se_sl (sl_ct (crList rfl) vListL M.z_list bt_list (sa_cons (se_pv 1) sa_nil))) sa_nil)))))))))) sa_nil))))))))))⟩
theorem g__law_is_whole {k : Nat} {f : Addr} {fd : FuncData} (F : Fun K "_law_is_whole" "_law_is_whole" s__law_is_whole f fd) (M : Md K mg) : FnG P w K mg base (k + 1) f fd ["value", "least", "most"] m__law_is_whole :=
  fnG_of F sc__law_is_whole rfl fun cdv A outer s H hr hgd => ⟨_, (sss_one (ss_ret (sv_d (sd_se (se_and (se_isi (T := .int) rfl nofun M.z_isinstance M.z_int bt_int (se_pv 0)) (se_and (se_not (se_isi (T := .bool) rfl nofun M.z_isinstance M.z_bool bt_bool (se_pv 0))) (se_one (se_chain op_le vLe op_le vLe (se_pv 1) (se_pv 0) (se_pv 2)))))))))⟩
theorem g__law_are {k : Nat} {f : Addr} {fd : FuncData} (F : Fun K "_law_are" "_law_are" s__law_are f fd) (M : Md K mg) {f__law_is_whole : Addr} {fd__law_is_whole : FuncData} (c__law_is_whole : DL.Cal P w K mg base k "_law_is_whole" ["value", "least", "most"] m__law_is_whole f__law_is_whole fd__law_is_whole) : FnG P w K mg base (k + 1) f fd ["value", "most"] m__law_are :=
  fnG_of F sc__law_are rfl fun cdv A outer s H hr hgd => ⟨_, (sss_cons (ss_if (st_sw (sw_or (st_not (st_val (se_isi (T := .tuple) rfl nofun M.z_isinstance M.z_tuple bt_tuple (se_pv 0)))) (sw_or1 (st_not (st_chain op_le vLe op_le vLe se_int (se_cb (crLen rfl) vLen M.z_len bt_len (sa_cons (se_pv 0) sa_nil)) se_int))))) (sss_one (ss_ret (sv_d (sd_se se_bl)))) sss_nil) (sss_one (ss_ret (sv_d (sd_se (se_cb (crAll rfl rfl) vAll M.z_all bt_all (sa_cons (se_sl (sl_lc [("one", 2)] [2] rfl sc__law_are.nd (si_seq rfl (sd_se (se_pv 0))) (by kernel_rfl) (fun _ _ _ _ _ => (sg_name (i := 2) sc__law_are.nd)) (fun _ _ _ _ _ => sts_nil) (fun _ _ _ _ _ => (sd_se (se_call (K := K) (ps := ["value", "least", "most"]) (m := m__law_is_whole) rfl c__law_is_whole hr hgd (sa_cons (se_pv 2) (sa_cons se_int (sa_cons (se_bin op_sub vSub (se_pv 1) se_int) sa_nil)))))))) sa_nil)))))))⟩
theorem g__law_is_lift {k : Nat} {f : Addr} {fd : FuncData} (F : Fun K "_law_is_lift" "_law_is_lift" s__law_is_lift f fd) (M : Md K mg) {f__law_is_whole : Addr} {fd__law_is_whole : FuncData} (c__law_is_whole : DL.Cal P w K mg base k "_law_is_whole" ["value", "least", "most"] m__law_is_whole f__law_is_whole fd__law_is_whole) : FnG P w K mg base (k + 1) f fd ["value", "shafts"] m__law_is_lift :=
  fnG_of F sc__law_is_lift rfl fun cdv A outer s H hr hgd => ⟨_, (sss_cons (ss_if (st_sw (sw_or (st_not (st_val (se_isi (T := .tuple) rfl nofun M.z_isinstance M.z_tuple bt_tuple (se_pv 0)))) (sw_or1 (st_not (st_val (se_cb (crAll rfl rfl) vAll M.z_all bt_all (sa_cons (se_sl (sl_lc [("one", 2)] [2] rfl sc__law_is_lift.nd (si_seq rfl (sd_se (se_pv 0))) (by kernel_rfl) (fun _ _ _ _ _ => (sg_name (i := 2) sc__law_is_lift.nd)) (fun _ _ _ _ _ => sts_nil) (fun _ _ _ _ _ => (sd_se (se_call (K := K) (ps := ["value", "least", "most"]) (m := m__law_is_whole) rfl c__law_is_whole hr hgd (sa_cons (se_pv 2) (sa_cons se_int (sa_cons (se_bin op_sub vSub (se_pv 1) se_int) sa_nil)))))))) sa_nil))))))) (sss_one (ss_ret (sv_d (sd_se se_bl)))) sss_nil) (sss_one (ss_ret (sv_d (sd_se (se_cmp (opEq rfl hr) vEq (se_sl (sl_ct (crList rfl) vListL M.z_list bt_list (sa_cons (se_pv 0) sa_nil))) (se_sl (sl_sortSet rfl rfl M.z_sorted M.z_set bt_sorted bt_set (sa_cons (se_pv 0) sa_nil)))))))))⟩
theorem g__law_is_loom {k : Nat} {f : Addr} {fd : FuncData} (F : Fun K "_law_is_loom" "_law_is_loom" s__law_is_loom f fd) (M : Md K mg) {f__law_are : Addr} {fd__law_are : FuncData} (c__law_are : DL.Cal P w K mg base k "_law_are" ["value", "most"] m__law_are f__law_are fd__law_are) {f__law_is_lift : Addr} {fd__law_is_lift : FuncData} (c__law_is_lift : DL.Cal P w K mg base k "_law_is_lift" ["value", "shafts"] m__law_is_lift f__law_is_lift fd__law_is_lift) {f__law_is_whole : Addr} {fd__law_is_whole : FuncData} (c__law_is_whole : DL.Cal P w K mg base k "_law_is_whole" ["value", "least", "most"] m__law_is_whole f__law_is_whole fd__law_is_whole) : FnG P w K mg base (k + 1) f fd ["value"] m__law_is_loom :=
  fnG_of F sc__law_is_loom rfl fun cdv A outer s H hr hgd => ⟨_, (sss_cons (ss_if (st_sw (sw_or (st_not (st_val (se_isi (T := .tuple) rfl nofun M.z_isinstance M.z_tuple bt_tuple (se_pv 0)))) (sw_or (st_cmp (opNe rfl hr) vNe (se_cb (crLen rfl) vLen M.z_len bt_len (sa_cons (se_pv 0) sa_nil)) se_int) (sw_or1 (st_cmp (opNe rfl hr) vNe (se_cb (crRepr rfl hgd hr) vRepr M.z_repr bt_repr (sa_cons (se_ix (opIx rfl) vIx (se_pv 0) se_int) sa_nil)) se_str))))) (sss_one (ss_ret (sv_d (sd_se se_bl)))) sss_nil) (sss_cons (ss_if (st_not (st_val (se_call (K := K) (ps := ["value", "least", "most"]) (m := m__law_is_whole) rfl c__law_is_whole hr hgd (sa_cons (se_ix (opIx rfl) vIx (se_pv 0) se_int) (sa_cons se_int (sa_cons se_int sa_nil)))))) (sss_one (ss_ret (sv_d (sd_se se_bl)))) sss_nil) (sss_cons (ss_if (st_sw (sw_or (st_not (st_val (se_call (K := K) (ps := ["value", "most"]) (m := m__law_are) rfl c__law_are hr hgd (sa_cons (se_ix (opIx rfl) vIx (se_pv 0) se_int) (sa_cons (se_ix (opIx rfl) vIx (se_pv 0) se_int) sa_nil))))) (sw_or (st_not (st_val (se_isi (T := .tuple) rfl nofun M.z_isinstance M.z_tuple bt_tuple (se_ix (opIx rfl) vIx (se_pv 0) se_int)))) (sw_or1 (st_not (st_chain op_le vLe op_le vLe se_int (se_cb (crLen rfl) vLen M.z_len bt_len (sa_cons (se_ix (opIx rfl) vIx (se_pv 0) se_int) sa_nil)) se_int)))))) (sss_one (ss_ret (sv_d (sd_se se_bl)))) sss_nil) (sss_one (ss_ret (sv_d (sd_se (se_and (se_cb (crAll rfl rfl) vAll M.z_all bt_all (sa_cons (se_sl (sl_lc [("one", 1)] [1] rfl sc__law_is_loom.nd (si_seq rfl (sd_se (se_ix (opIx rfl) vIx (se_pv 0) se_int))) (by kernel_rfl) (fun _ _ _ _ _ => (sg_name (i := 1) sc__law_is_loom.nd)) (fun _ _ _ _ _ => sts_nil) (fun _ _ _ _ _ => (sd_se (se_call (K := K) (ps := ["value", "shafts"]) (m := m__law_is_lift) rfl c__law_is_lift hr hgd (sa_cons (se_pv 1) (sa_cons (se_ix (opIx rfl) vIx (se_pv 0) se_int) sa_nil))))))) sa_nil)) (se_one (se_call (K := K) (ps := ["value", "most"]) (m := m__law_are) rfl c__law_are hr hgd (sa_cons (se_ix (opIx rfl) vIx (se_pv 0) se_int) (sa_cons (se_cb (crLen rfl) vLen M.z_len bt_len (sa_cons (se_ix (opIx rfl) vIx (se_pv 0) se_int) sa_nil)) sa_nil))))))))))))⟩
theorem g_is_loom {k : Nat} {f : Addr} {fd : FuncData} (F : Fun K "is_loom" "is_loom" s_is_loom f fd) (M : Md K mg) {f_is_loom_value : Addr} {fd_is_loom_value : FuncData} (c_is_loom_value : DL.Cal P w K mg base k "is_loom_value" ["value"] m_is_loom_value f_is_loom_value fd_is_loom_value) : FnG P w K mg base (k + 1) f fd ["value"] m_is_loom :=
  fnG_of F sc_is_loom rfl fun cdv A outer s H hr hgd => ⟨_, (sss_one (ss_ret (sv_d (sd_se (se_call (K := K) (ps := ["value"]) (m := m_is_loom_value) rfl c_is_loom_value hr hgd (sa_cons (se_pv 0) sa_nil))))))⟩
theorem g__law_right {k : Nat} {f : Addr} {fd : FuncData} (F : Fun K "_law_right" "_law_right" s__law_right f fd) (M : Md K mg) {f_is_loom : Addr} {fd_is_loom : FuncData} (c_is_loom : DL.Cal P w K mg base k "is_loom" ["value"] m_is_loom f_is_loom fd_is_loom) {f__law_is_loom : Addr} {fd__law_is_loom : FuncData} (c__law_is_loom : DL.Cal P w K mg base k "_law_is_loom" ["value"] m__law_is_loom f__law_is_loom fd__law_is_loom) {f__law_bent : Addr} {fd__law_bent : FuncData} (c__law_bent : DL.Cal P w K mg base k "_law_bent" ["pot", "loom"] m__law_bent f__law_bent fd__law_bent) {f_by_lift_plan : Addr} {fd_by_lift_plan : FuncData} (c_by_lift_plan : DL.Cal P w K mg base k "by_lift_plan" ["shafts", "threading", "plan"] m_by_lift_plan f_by_lift_plan fd_by_lift_plan) {f_lift_plan : Addr} {fd_lift_plan : FuncData} (c_lift_plan : DL.Cal P w K mg base k "lift_plan" ["loom"] m_lift_plan f_lift_plan fd_lift_plan) {f_loom_of : Addr} {fd_loom_of : FuncData} (c_loom_of : DL.Cal P w K mg base k "loom_of" ["draft"] m_loom_of f_loom_of fd_loom_of) {f_loom_quartered : Addr} {fd_loom_quartered : FuncData} (c_loom_quartered : DL.Cal P w K mg base k "loom_quartered" ["loom"] m_loom_quartered f_loom_quartered fd_loom_quartered) {f_loom_contrary : Addr} {fd_loom_contrary : FuncData} (c_loom_contrary : DL.Cal P w K mg base k "loom_contrary" ["loom"] m_loom_contrary f_loom_contrary fd_loom_contrary) {f_tidied : Addr} {fd_tidied : FuncData} (c_tidied : DL.Cal P w K mg base k "tidied" ["loom"] m_tidied f_tidied fd_tidied) {f__law_woven : Addr} {fd__law_woven : FuncData} (c__law_woven : DL.Cal P w K mg base k "_law_woven" ["loom"] m__law_woven f__law_woven fd__law_woven) {f__law_loom : Addr} {fd__law_loom : FuncData} (c__law_loom : DL.Cal P w K mg base k "_law_loom" ["pot", "most"] m__law_loom f__law_loom fd__law_loom) (kb_is_loom_0_value : KwB K fd_is_loom ["value"] ["value"] [0]) : FnG P w K mg base (k + 1) f fd ["pot"] m__law_right :=
  fnG_of F sc__law_right rfl fun cdv A outer s H hr hgd => ⟨_, (sss_cons (ss_set (i := 1) sc__law_right.nd (sv_d (sd_se (se_call (K := K) (ps := ["pot", "most"]) (m := m__law_loom) rfl c__law_loom hr hgd (sa_cons (se_pv 0) (sa_cons se_int sa_nil)))))) (sss_cons (ss_set (i := 2) sc__law_right.nd (sv_d (sd_se (se_call (K := K) (ps := ["loom"]) (m := m__law_woven) rfl c__law_woven hr hgd (sa_cons (se_pv 1) sa_nil))))) (sss_cons (ss_set (i := 3) sc__law_right.nd (sv_l (sl_lst (sa_cons (se_pv 1) (sa_cons (se_call (K := K) (ps := ["loom"]) (m := m_tidied) rfl c_tidied hr hgd (sa_cons (se_pv 1) sa_nil)) (sa_cons (se_call (K := K) (ps := ["loom"]) (m := m_loom_contrary) rfl c_loom_contrary hr hgd (sa_cons (se_pv 1) sa_nil)) (sa_cons (se_call (K := K) (ps := ["loom"]) (m := m_loom_quartered) rfl c_loom_quartered hr hgd (sa_cons (se_pv 1) sa_nil)) (sa_cons (se_call (K := K) (ps := ["draft"]) (m := m_loom_of) rfl c_loom_of hr hgd (sa_cons (se_pv 2) sa_nil)) sa_nil)))))))) (sss_cons (ss_expr (se_append rfl (se_pv 3) (sa_cons (se_call (K := K) (ps := ["shafts", "threading", "plan"]) (m := m_by_lift_plan) rfl c_by_lift_plan hr hgd (sa_cons (se_ix (opIx rfl) vIx (se_pv 1) se_int) (sa_cons (se_ix (opIx rfl) vIx (se_pv 1) se_int) (sa_cons (se_call (K := K) (ps := ["loom"]) (m := m_lift_plan) rfl c_lift_plan hr hgd (sa_cons (se_pv 1) sa_nil)) sa_nil)))) sa_nil))) (sss_cons (ss_if (st_not (st_val (se_cb (crAll rfl rfl) vAll M.z_all bt_all (sa_cons (se_sl (sl_lc [("one", 10)] [10] rfl sc__law_right.nd (si_seq rfl (sd_se (se_pv 3))) (by kernel_rfl) (fun _ _ _ _ _ => (sg_name (i := 10) sc__law_right.nd)) (fun _ _ _ _ _ => sts_nil) (fun _ _ _ _ _ => (sd_se (se_and (se_call (K := K) (ps := ["value"]) (m := m__law_is_loom) rfl c__law_is_loom hr hgd (sa_cons (se_pv 10) sa_nil)) (se_one (se_cmp opIs vIs (se_call (K := K) (ps := ["value"]) (m := m_is_loom) rfl c_is_loom hr hgd (sa_cons (se_pv 10) sa_nil)) se_bl))))))) sa_nil)))) (sss_one (ss_ret (sv_d (sd_se se_bl)))) sss_nil) (sss_cons (ss_set (i := 4) sc__law_right.nd (sv_d (sd_se (se_tup (sa_cons se_str (sa_cons se_int (sa_cons (se_tupRg rfl M.z_tuple (srg_1 M.z_range se_int)) (sa_cons (se_bin (opMulX rfl) vMulX (se_tup (sa_cons (se_tup sa_nil) (sa_cons (se_tupRg rfl M.z_tuple (srg_1 M.z_range se_int)) sa_nil))) se_int) (sa_cons (se_tupRg rfl M.z_tuple (srg_1 M.z_range se_int)) sa_nil))))))))) (sss_cons (ss_set (i := 5) sc__law_right.nd (sv_d (sd_se (se_bin (opAdd rfl) vAdd (se_pv 3) (se_sl (sl_lst (sa_cons (se_pv 4) (sa_cons (se_bin (opAdd rfl) vAdd (se_bin (opAdd rfl) vAdd (se_slice rfl (se_pv 4) so_none (so_some se_int)) (se_tup (sa_cons se_int sa_nil))) (se_slice rfl (se_pv 4) (so_some se_int) so_none)) (sa_cons (se_bin (opAdd rfl) vAdd (se_bin (opAdd rfl) vAdd (se_slice rfl (se_pv 4) so_none (so_some se_int)) (se_tup (sa_cons (se_bin (opAdd rfl) vAdd (se_ix (opIx rfl) vIx (se_pv 4) se_int) (se_tup (sa_cons (se_tup sa_nil) sa_nil))) sa_nil))) (se_slice rfl (se_pv 4) (so_some se_int) so_none)) (sa_cons se_non (sa_cons se_int sa_nil))))))))))) (sss_cons (ss_set (i := 5) sc__law_right.nd (sv_d (sd_se (se_bin (opAdd rfl) vAdd (se_bin (opAdd rfl) vAdd (se_pv 5) (se_sl (sl_lst (sa_cons (se_tup sa_nil) (sa_cons se_str (sa_cons se_dict0 sa_nil)))))) (se_sl (sl_lc [("turn", 9)] [9] rfl sc__law_right.nd (si_rng1 M.z_range (sa_cons se_int sa_nil)) (by kernel_rfl) (fun _ _ _ _ _ => (sg_name (i := 9) sc__law_right.nd)) (fun _ _ _ _ _ => sts_nil) (fun _ _ _ _ _ => (sd_se (se_call (K := K) (ps := ["pot", "loom"]) (m := m__law_bent) rfl c__law_bent hr hgd (sa_cons (se_pv 0) (sa_cons (se_pv 1) sa_nil))))))))))) (sss_cons (ss_set (i := 5) sc__law_right.nd (sv_d (sd_se (se_bin (opAdd rfl) vAdd (se_pv 5) (se_sl (sl_lc [("turn", 9)] [9] rfl sc__law_right.nd (si_rng1 M.z_range (sa_cons se_int sa_nil)) (by kernel_rfl) (fun _ _ _ _ _ => (sg_name (i := 9) sc__law_right.nd)) (fun _ _ _ _ _ => sts_nil) (fun _ _ _ _ _ => (sd_se (se_call (K := K) (ps := ["pot", "loom"]) (m := m__law_bent) rfl c__law_bent hr hgd (sa_cons (se_pv 0) (sa_cons (se_pv 4) sa_nil))))))))))) (sss_cons (ss_for PassesOwn.never rfl (si_seq rfl (sd_se (se_pv 5))) (sg_name (i := 6) sc__law_right.nd) (sss_cons (ss_par (i := 7) (j := 8) rfl sc__law_right.nd (by decide) (sv_d (sd_se (se_call (K := K) (ps := ["value"]) (m := m__law_is_loom) rfl c__law_is_loom hr hgd (sa_cons (se_pv 6) sa_nil)))) (sv_d (sd_se (se_cb (crRepr rfl hgd hr) vRepr M.z_repr bt_repr (sa_cons (se_pv 6) sa_nil))))) (sss_one (ss_if (st_sw (sw_or (st_cmp (opNe rfl hr) vNe (se_cb (crRepr rfl hgd hr) vRepr M.z_repr bt_repr (sa_cons (se_sl (sl_lst (sa_cons (se_call (K := K) (ps := ["value"]) (m := m_is_loom) rfl c_is_loom hr hgd (sa_cons (se_pv 6) sa_nil)) (sa_cons (se_callK0 (K := K) (ps := ["value"]) (m := m_is_loom) (ks := ["value"]) (pm := [0]) rfl c_is_loom kb_is_loom_0_value hr hgd (sk_cons (se_pv 6) sk_nil)) sa_nil)))) sa_nil)) (se_cb (crRepr rfl hgd hr) vRepr M.z_repr bt_repr (sa_cons (se_sl (sl_lst (sa_cons (se_pv 7) (sa_cons (se_pv 7) sa_nil)))) sa_nil))) (sw_or1 (st_cmp (opNe rfl hr) vNe (se_cb (crRepr rfl hgd hr) vRepr M.z_repr bt_repr (sa_cons (se_pv 6) sa_nil)) (se_pv 8))))) (sss_one (ss_ret (sv_d (sd_se se_bl)))) sss_nil)))) (sss_one (ss_ret (sv_d (sd_se se_bl))))))))))))))⟩
theorem g__law_pot {k : Nat} {f : Addr} {fd : FuncData} (F : Fun K "_law_pot" "_law_pot" s__law_pot f fd) (M : Md K mg) : FnG P w K mg base (k + 1) f fd ["script", "k"] m__law_pot :=
  fnG_of F sc__law_pot rfl fun cdv A outer s H hr hgd => ⟨_, (sss_cons (ss_set (i := 2) sc__law_pot.nd (sv_d (sd_se (se_bin (opAdd rfl) vAdd (se_bin (opMulX rfl) vMulX se_int (se_pv 1)) se_int)))) (sss_cons (ss_if (st_cmp op_lt vLt (se_pv 1) (se_cb (crLen rfl) vLen M.z_len bt_len (sa_cons (se_pv 0) sa_nil))) (sss_one (ss_set (i := 2) sc__law_pot.nd (sv_d (sd_se (se_cb crAbs vAbs M.z_abs bt_abs (sa_cons (se_ix (opIx rfl) vIx (se_pv 0) (se_pv 1)) sa_nil)))))) sss_nil) (sss_one (ss_ret (sv_l (sl_lst (sa_cons (se_cb (crMax rfl rfl) vMax M.z_max bt_max (sa_cons se_int (sa_cons (se_bin op_sub vSub (se_pv 2) (se_bin op_pow vPow se_int se_int)) sa_nil))) (sa_cons (se_bin (opAdd rfl) vAdd (se_bin op_mod vMod (se_ct crInt vInt M.z_int bt_int (sa_cons (se_bin (opAdd rfl) vAdd (se_bin (opAdd rfl) vAdd (se_bin (opMulX rfl) vMulX (se_bin op_mod vMod (se_ct crInt vInt M.z_int bt_int (sa_cons (se_pv 2) sa_nil)) se_int) se_int) (se_bin (opMulX rfl) vMulX se_int (se_pv 1))) se_int) sa_nil)) se_int) se_int) sa_nil))))))))⟩
theorem g_law {k : Nat} {f : Addr} {fd : FuncData} (F : Fun K "law" "law" s_law f fd) (M : Md K mg) {f__law_right : Addr} {fd__law_right : FuncData} (c__law_right : DL.Cal P w K mg base k "_law_right" ["pot"] m__law_right f__law_right fd__law_right) {f__law_pot : Addr} {fd__law_pot : FuncData} (c__law_pot : DL.Cal P w K mg base k "_law_pot" ["script", "k"] m__law_pot f__law_pot fd__law_pot) : FnG P w K mg base (k + 1) f fd ["script"] m_law :=
  fnG_of F sc_law rfl fun cdv A outer s H hr hgd => ⟨_, (sss_one (ss_ret (sv_d (sd_se (se_cb (crAll rfl rfl) vAll M.z_all bt_all (sa_cons (se_sl (sl_lc [("k", 1)] [1] rfl sc_law.nd (si_rng1 M.z_range (sa_cons (se_cb (crMax rfl rfl) vMax M.z_max bt_max (sa_cons se_int (sa_cons (se_cb (crMin rfl rfl) vMin M.z_min bt_min (sa_cons se_int (sa_cons (se_cb (crLen rfl) vLen M.z_len bt_len (sa_cons (se_pv 0) sa_nil)) sa_nil))) sa_nil))) sa_nil)) (by kernel_rfl) (fun _ _ _ _ _ => (sg_name (i := 1) sc_law.nd)) (fun _ _ _ _ _ => sts_nil) (fun _ _ _ _ _ => (sd_se (se_callF (K := K) (ps := ["pot"]) (m := m__law_right) rfl c__law_right hr hgd (sl_call (K := K) (ps := ["script", "k"]) (m := m__law_pot) rfl c__law_pot hr hgd (sa_cons (se_pv 0) (sa_cons (se_pv 1) sa_nil)))))))) sa_nil))))))⟩
end
/-! ### the end -/
theorem all_mk {l : PySem.W.OpenLaw} {w : World} {K : PySem.W.Frag} {h : Heap} {mg : Str → Option Value} {fa f__law_draw f__law_loom f__law_woven f_is_integer f_is_within f_are_numbers f_is_tuple f_are_rising f_is_lot_of f_are_lifts f_is_loom_value f_want_loom f_by_first f_numbered f_tidy f_tidied f_others f_loom_contrary f_loom_quartered f_is_headed f_are_rows_of f_is_draft_value f_want_draft f_many_warps f_columns_of f_told_loom f_loom_of f_want_most f_by_lift_plan f_plan_of f_lift_plan f__law_pick f__law_bent_row f__law_bent f__law_is_whole f__law_are f__law_is_lift f__law_is_loom f_is_loom f__law_right f__law_pot f_law : Addr} (X : K.In h) (G : h.Ns mainGlobals mg) (hfa : mg "law" = some (.ref fa))
    {od__law_draw an__law_draw od__law_loom an__law_loom od__law_woven an__law_woven od_is_integer an_is_integer od_is_within an_is_within od_are_numbers an_are_numbers od_is_tuple an_is_tuple od_are_rising an_are_rising od_is_lot_of an_is_lot_of od_are_lifts an_are_lifts od_is_loom_value an_is_loom_value od_want_loom an_want_loom od_by_first an_by_first od_numbered an_numbered od_tidy an_tidy od_tidied an_tidied od_others an_others od_loom_contrary an_loom_contrary od_loom_quartered an_loom_quartered od_is_headed an_is_headed od_are_rows_of an_are_rows_of od_is_draft_value an_is_draft_value od_want_draft an_want_draft od_many_warps an_many_warps od_columns_of an_columns_of od_told_loom an_told_loom od_loom_of an_loom_of od_want_most an_want_most od_by_lift_plan an_by_lift_plan od_plan_of an_plan_of od_lift_plan an_lift_plan od__law_pick an__law_pick od__law_bent_row an__law_bent_row od__law_bent an__law_bent od__law_is_whole an__law_is_whole od__law_are an__law_are od__law_is_lift an__law_is_lift od__law_is_loom an__law_is_loom od_is_loom an_is_loom od__law_right an__law_right od__law_pot an__law_pot od_law an_law : Option Addr} {sl__law_draw sl__law_loom sl__law_woven sl_is_integer sl_is_within sl_are_numbers sl_is_tuple sl_are_rising sl_is_lot_of sl_are_lifts sl_is_loom_value sl_want_loom sl_by_first sl_numbered sl_tidy sl_tidied sl_others sl_loom_contrary sl_loom_quartered sl_is_headed sl_are_rows_of sl_is_draft_value sl_want_draft sl_many_warps sl_columns_of sl_told_loom sl_loom_of sl_want_most sl_by_lift_plan sl_plan_of sl_lift_plan sl__law_pick sl__law_bent_row sl__law_bent sl__law_is_whole sl__law_are sl__law_is_lift sl__law_is_loom sl_is_loom sl__law_right sl__law_pot sl_law : Array (Option Value)} {oc__law_draw kV__law_draw dc__law_draw pm__law_draw cd__law_draw ct__law_draw oc__law_loom kV__law_loom dc__law_loom pm__law_loom cd__law_loom ct__law_loom oc__law_woven kV__law_woven dc__law_woven pm__law_woven cd__law_woven ct__law_woven oc_is_integer kV_is_integer dc_is_integer pm_is_integer cd_is_integer ct_is_integer oc_is_within kV_is_within dc_is_within pm_is_within cd_is_within ct_is_within oc_are_numbers kV_are_numbers dc_are_numbers pm_are_numbers cd_are_numbers ct_are_numbers oc_is_tuple kV_is_tuple dc_is_tuple pm_is_tuple cd_is_tuple ct_is_tuple oc_are_rising kV_are_rising dc_are_rising pm_are_rising cd_are_rising ct_are_rising oc_is_lot_of kV_is_lot_of dc_is_lot_of pm_is_lot_of cd_is_lot_of ct_is_lot_of oc_are_lifts kV_are_lifts dc_are_lifts pm_are_lifts cd_are_lifts ct_are_lifts oc_is_loom_value kV_is_loom_value dc_is_loom_value pm_is_loom_value cd_is_loom_value ct_is_loom_value oc_want_loom kV_want_loom dc_want_loom pm_want_loom cd_want_loom ct_want_loom oc_by_first kV_by_first dc_by_first pm_by_first cd_by_first ct_by_first oc_numbered kV_numbered dc_numbered pm_numbered cd_numbered ct_numbered oc_tidy kV_tidy dc_tidy pm_tidy cd_tidy ct_tidy oc_tidied kV_tidied dc_tidied pm_tidied cd_tidied ct_tidied oc_others kV_others dc_others pm_others cd_others ct_others oc_loom_contrary kV_loom_contrary dc_loom_contrary pm_loom_contrary cd_loom_contrary ct_loom_contrary oc_loom_quartered kV_loom_quartered dc_loom_quartered pm_loom_quartered cd_loom_quartered ct_loom_quartered oc_is_headed kV_is_headed dc_is_headed pm_is_headed cd_is_headed ct_is_headed oc_are_rows_of kV_are_rows_of dc_are_rows_of pm_are_rows_of cd_are_rows_of ct_are_rows_of oc_is_draft_value kV_is_draft_value dc_is_draft_value pm_is_draft_value cd_is_draft_value ct_is_draft_value oc_want_draft kV_want_draft dc_want_draft pm_want_draft cd_want_draft ct_want_draft oc_many_warps kV_many_warps dc_many_warps pm_many_warps cd_many_warps ct_many_warps oc_columns_of kV_columns_of dc_columns_of pm_columns_of cd_columns_of ct_columns_of oc_told_loom kV_told_loom dc_told_loom pm_told_loom cd_told_loom ct_told_loom oc_loom_of kV_loom_of dc_loom_of pm_loom_of cd_loom_of ct_loom_of oc_want_most kV_want_most dc_want_most pm_want_most cd_want_most ct_want_most oc_by_lift_plan kV_by_lift_plan dc_by_lift_plan pm_by_lift_plan cd_by_lift_plan ct_by_lift_plan oc_plan_of kV_plan_of dc_plan_of pm_plan_of cd_plan_of ct_plan_of oc_lift_plan kV_lift_plan dc_lift_plan pm_lift_plan cd_lift_plan ct_lift_plan oc__law_pick kV__law_pick dc__law_pick pm__law_pick cd__law_pick ct__law_pick oc__law_bent_row kV__law_bent_row dc__law_bent_row pm__law_bent_row cd__law_bent_row ct__law_bent_row oc__law_bent kV__law_bent dc__law_bent pm__law_bent cd__law_bent ct__law_bent oc__law_is_whole kV__law_is_whole dc__law_is_whole pm__law_is_whole cd__law_is_whole ct__law_is_whole oc__law_are kV__law_are dc__law_are pm__law_are cd__law_are ct__law_are oc__law_is_lift kV__law_is_lift dc__law_is_lift pm__law_is_lift cd__law_is_lift ct__law_is_lift oc__law_is_loom kV__law_is_loom dc__law_is_loom pm__law_is_loom cd__law_is_loom ct__law_is_loom oc_is_loom kV_is_loom dc_is_loom pm_is_loom cd_is_loom ct_is_loom oc__law_right kV__law_right dc__law_right pm__law_right cd__law_right ct__law_right oc__law_pot kV__law_pot dc__law_pot pm__law_pot cd__law_pot ct__law_pot oc_law kV_law dc_law pm_law cd_law ct_law : Value} {t_LOOM t_MOST : Tok}
    (a__law_draw : PySem.W.nsIn K mainGlobals "_law_draw" = some (some (.ref f__law_draw))) (l__law_draw : K.lookup f__law_draw = some ⟨oc__law_draw, od__law_draw, .func (PySem.W.fnOf "_law_draw" "_law_draw" (defArgs s__law_draw) (defBody s__law_draw) (defScope s__law_draw) .none kV__law_draw dc__law_draw pm__law_draw an__law_draw cd__law_draw ct__law_draw), sl__law_draw⟩) (d__law_draw : PySem.W.codeIn K cd__law_draw "_law_draw" = true) (k__law_draw : PySem.W.keepIn K (.ref f__law_draw) = true)
    (a__law_loom : PySem.W.nsIn K mainGlobals "_law_loom" = some (some (.ref f__law_loom))) (l__law_loom : K.lookup f__law_loom = some ⟨oc__law_loom, od__law_loom, .func (PySem.W.fnOf "_law_loom" "_law_loom" (defArgs s__law_loom) (defBody s__law_loom) (defScope s__law_loom) .none kV__law_loom dc__law_loom pm__law_loom an__law_loom cd__law_loom ct__law_loom), sl__law_loom⟩) (d__law_loom : PySem.W.codeIn K cd__law_loom "_law_loom" = true) (k__law_loom : PySem.W.keepIn K (.ref f__law_loom) = true)
    (a__law_woven : PySem.W.nsIn K mainGlobals "_law_woven" = some (some (.ref f__law_woven))) (l__law_woven : K.lookup f__law_woven = some ⟨oc__law_woven, od__law_woven, .func (PySem.W.fnOf "_law_woven" "_law_woven" (defArgs s__law_woven) (defBody s__law_woven) (defScope s__law_woven) .none kV__law_woven dc__law_woven pm__law_woven an__law_woven cd__law_woven ct__law_woven), sl__law_woven⟩) (d__law_woven : PySem.W.codeIn K cd__law_woven "_law_woven" = true) (k__law_woven : PySem.W.keepIn K (.ref f__law_woven) = true)
    (a_is_integer : PySem.W.nsIn K mainGlobals "is_integer" = some (some (.ref f_is_integer))) (l_is_integer : K.lookup f_is_integer = some ⟨oc_is_integer, od_is_integer, .func (PySem.W.fnOf "is_integer" "is_integer" (defArgs s_is_integer) (defBody s_is_integer) (defScope s_is_integer) .none kV_is_integer dc_is_integer pm_is_integer an_is_integer cd_is_integer ct_is_integer), sl_is_integer⟩) (d_is_integer : PySem.W.codeIn K cd_is_integer "is_integer" = true) (k_is_integer : PySem.W.keepIn K (.ref f_is_integer) = true)
    (a_is_within : PySem.W.nsIn K mainGlobals "is_within" = some (some (.ref f_is_within))) (l_is_within : K.lookup f_is_within = some ⟨oc_is_within, od_is_within, .func (PySem.W.fnOf "is_within" "is_within" (defArgs s_is_within) (defBody s_is_within) (defScope s_is_within) .none kV_is_within dc_is_within pm_is_within an_is_within cd_is_within ct_is_within), sl_is_within⟩) (d_is_within : PySem.W.codeIn K cd_is_within "is_within" = true) (k_is_within : PySem.W.keepIn K (.ref f_is_within) = true)
    (a_are_numbers : PySem.W.nsIn K mainGlobals "are_numbers" = some (some (.ref f_are_numbers))) (l_are_numbers : K.lookup f_are_numbers = some ⟨oc_are_numbers, od_are_numbers, .func (PySem.W.fnOf "are_numbers" "are_numbers" (defArgs s_are_numbers) (defBody s_are_numbers) (defScope s_are_numbers) .none kV_are_numbers dc_are_numbers pm_are_numbers an_are_numbers cd_are_numbers ct_are_numbers), sl_are_numbers⟩) (d_are_numbers : PySem.W.codeIn K cd_are_numbers "are_numbers" = true) (k_are_numbers : PySem.W.keepIn K (.ref f_are_numbers) = true)
    (a_is_tuple : PySem.W.nsIn K mainGlobals "is_tuple" = some (some (.ref f_is_tuple))) (l_is_tuple : K.lookup f_is_tuple = some ⟨oc_is_tuple, od_is_tuple, .func (PySem.W.fnOf "is_tuple" "is_tuple" (defArgs s_is_tuple) (defBody s_is_tuple) (defScope s_is_tuple) .none kV_is_tuple dc_is_tuple pm_is_tuple an_is_tuple cd_is_tuple ct_is_tuple), sl_is_tuple⟩) (d_is_tuple : PySem.W.codeIn K cd_is_tuple "is_tuple" = true) (k_is_tuple : PySem.W.keepIn K (.ref f_is_tuple) = true)
    (a_are_rising : PySem.W.nsIn K mainGlobals "are_rising" = some (some (.ref f_are_rising))) (l_are_rising : K.lookup f_are_rising = some ⟨oc_are_rising, od_are_rising, .func (PySem.W.fnOf "are_rising" "are_rising" (defArgs s_are_rising) (defBody s_are_rising) (defScope s_are_rising) .none kV_are_rising dc_are_rising pm_are_rising an_are_rising cd_are_rising ct_are_rising), sl_are_rising⟩) (d_are_rising : PySem.W.codeIn K cd_are_rising "are_rising" = true) (k_are_rising : PySem.W.keepIn K (.ref f_are_rising) = true)
    (a_is_lot_of : PySem.W.nsIn K mainGlobals "is_lot_of" = some (some (.ref f_is_lot_of))) (l_is_lot_of : K.lookup f_is_lot_of = some ⟨oc_is_lot_of, od_is_lot_of, .func (PySem.W.fnOf "is_lot_of" "is_lot_of" (defArgs s_is_lot_of) (defBody s_is_lot_of) (defScope s_is_lot_of) .none kV_is_lot_of dc_is_lot_of pm_is_lot_of an_is_lot_of cd_is_lot_of ct_is_lot_of), sl_is_lot_of⟩) (d_is_lot_of : PySem.W.codeIn K cd_is_lot_of "is_lot_of" = true) (k_is_lot_of : PySem.W.keepIn K (.ref f_is_lot_of) = true)
    (a_are_lifts : PySem.W.nsIn K mainGlobals "are_lifts" = some (some (.ref f_are_lifts))) (l_are_lifts : K.lookup f_are_lifts = some ⟨oc_are_lifts, od_are_lifts, .func (PySem.W.fnOf "are_lifts" "are_lifts" (defArgs s_are_lifts) (defBody s_are_lifts) (defScope s_are_lifts) .none kV_are_lifts dc_are_lifts pm_are_lifts an_are_lifts cd_are_lifts ct_are_lifts), sl_are_lifts⟩) (d_are_lifts : PySem.W.codeIn K cd_are_lifts "are_lifts" = true) (k_are_lifts : PySem.W.keepIn K (.ref f_are_lifts) = true)
    (a_is_loom_value : PySem.W.nsIn K mainGlobals "is_loom_value" = some (some (.ref f_is_loom_value))) (l_is_loom_value : K.lookup f_is_loom_value = some ⟨oc_is_loom_value, od_is_loom_value, .func (PySem.W.fnOf "is_loom_value" "is_loom_value" (defArgs s_is_loom_value) (defBody s_is_loom_value) (defScope s_is_loom_value) .none kV_is_loom_value dc_is_loom_value pm_is_loom_value an_is_loom_value cd_is_loom_value ct_is_loom_value), sl_is_loom_value⟩) (d_is_loom_value : PySem.W.codeIn K cd_is_loom_value "is_loom_value" = true) (k_is_loom_value : PySem.W.keepIn K (.ref f_is_loom_value) = true)
    (a_want_loom : PySem.W.nsIn K mainGlobals "want_loom" = some (some (.ref f_want_loom))) (l_want_loom : K.lookup f_want_loom = some ⟨oc_want_loom, od_want_loom, .func (PySem.W.fnOf "want_loom" "want_loom" (defArgs s_want_loom) (defBody s_want_loom) (defScope s_want_loom) .none kV_want_loom dc_want_loom pm_want_loom an_want_loom cd_want_loom ct_want_loom), sl_want_loom⟩) (d_want_loom : PySem.W.codeIn K cd_want_loom "want_loom" = true) (k_want_loom : PySem.W.keepIn K (.ref f_want_loom) = true)
    (a_by_first : PySem.W.nsIn K mainGlobals "by_first" = some (some (.ref f_by_first))) (l_by_first : K.lookup f_by_first = some ⟨oc_by_first, od_by_first, .func (PySem.W.fnOf "by_first" "by_first" (defArgs s_by_first) (defBody s_by_first) (defScope s_by_first) .none kV_by_first dc_by_first pm_by_first an_by_first cd_by_first ct_by_first), sl_by_first⟩) (d_by_first : PySem.W.codeIn K cd_by_first "by_first" = true) (k_by_first : PySem.W.keepIn K (.ref f_by_first) = true)
    (a_numbered : PySem.W.nsIn K mainGlobals "numbered" = some (some (.ref f_numbered))) (l_numbered : K.lookup f_numbered = some ⟨oc_numbered, od_numbered, .func (PySem.W.fnOf "numbered" "numbered" (defArgs s_numbered) (defBody s_numbered) (defScope s_numbered) .none kV_numbered dc_numbered pm_numbered an_numbered cd_numbered ct_numbered), sl_numbered⟩) (d_numbered : PySem.W.codeIn K cd_numbered "numbered" = true) (k_numbered : PySem.W.keepIn K (.ref f_numbered) = true)
    (a_tidy : PySem.W.nsIn K mainGlobals "tidy" = some (some (.ref f_tidy))) (l_tidy : K.lookup f_tidy = some ⟨oc_tidy, od_tidy, .func (PySem.W.fnOf "tidy" "tidy" (defArgs s_tidy) (defBody s_tidy) (defScope s_tidy) .none kV_tidy dc_tidy pm_tidy an_tidy cd_tidy ct_tidy), sl_tidy⟩) (d_tidy : PySem.W.codeIn K cd_tidy "tidy" = true) (k_tidy : PySem.W.keepIn K (.ref f_tidy) = true)
    (a_tidied : PySem.W.nsIn K mainGlobals "tidied" = some (some (.ref f_tidied))) (l_tidied : K.lookup f_tidied = some ⟨oc_tidied, od_tidied, .func (PySem.W.fnOf "tidied" "tidied" (defArgs s_tidied) (defBody s_tidied) (defScope s_tidied) .none kV_tidied dc_tidied pm_tidied an_tidied cd_tidied ct_tidied), sl_tidied⟩) (d_tidied : PySem.W.codeIn K cd_tidied "tidied" = true) (k_tidied : PySem.W.keepIn K (.ref f_tidied) = true)
    (a_others : PySem.W.nsIn K mainGlobals "others" = some (some (.ref f_others))) (l_others : K.lookup f_others = some ⟨oc_others, od_others, .func (PySem.W.fnOf "others" "others" (defArgs s_others) (defBody s_others) (defScope s_others) .none kV_others dc_others pm_others an_others cd_others ct_others), sl_others⟩) (d_others : PySem.W.codeIn K cd_others "others" = true) (k_others : PySem.W.keepIn K (.ref f_others) = true)
    (a_loom_contrary : PySem.W.nsIn K mainGlobals "loom_contrary" = some (some (.ref f_loom_contrary))) (l_loom_contrary : K.lookup f_loom_contrary = some ⟨oc_loom_contrary, od_loom_contrary, .func (PySem.W.fnOf "loom_contrary" "loom_contrary" (defArgs s_loom_contrary) (defBody s_loom_contrary) (defScope s_loom_contrary) .none kV_loom_contrary dc_loom_contrary pm_loom_contrary an_loom_contrary cd_loom_contrary ct_loom_contrary), sl_loom_contrary⟩) (d_loom_contrary : PySem.W.codeIn K cd_loom_contrary "loom_contrary" = true) (k_loom_contrary : PySem.W.keepIn K (.ref f_loom_contrary) = true)
    (a_loom_quartered : PySem.W.nsIn K mainGlobals "loom_quartered" = some (some (.ref f_loom_quartered))) (l_loom_quartered : K.lookup f_loom_quartered = some ⟨oc_loom_quartered, od_loom_quartered, .func (PySem.W.fnOf "loom_quartered" "loom_quartered" (defArgs s_loom_quartered) (defBody s_loom_quartered) (defScope s_loom_quartered) .none kV_loom_quartered dc_loom_quartered pm_loom_quartered an_loom_quartered cd_loom_quartered ct_loom_quartered), sl_loom_quartered⟩) (d_loom_quartered : PySem.W.codeIn K cd_loom_quartered "loom_quartered" = true) (k_loom_quartered : PySem.W.keepIn K (.ref f_loom_quartered) = true)
    (a_is_headed : PySem.W.nsIn K mainGlobals "is_headed" = some (some (.ref f_is_headed))) (l_is_headed : K.lookup f_is_headed = some ⟨oc_is_headed, od_is_headed, .func (PySem.W.fnOf "is_headed" "is_headed" (defArgs s_is_headed) (defBody s_is_headed) (defScope s_is_headed) .none kV_is_headed dc_is_headed pm_is_headed an_is_headed cd_is_headed ct_is_headed), sl_is_headed⟩) (d_is_headed : PySem.W.codeIn K cd_is_headed "is_headed" = true) (k_is_headed : PySem.W.keepIn K (.ref f_is_headed) = true)
    (a_are_rows_of : PySem.W.nsIn K mainGlobals "are_rows_of" = some (some (.ref f_are_rows_of))) (l_are_rows_of : K.lookup f_are_rows_of = some ⟨oc_are_rows_of, od_are_rows_of, .func (PySem.W.fnOf "are_rows_of" "are_rows_of" (defArgs s_are_rows_of) (defBody s_are_rows_of) (defScope s_are_rows_of) .none kV_are_rows_of dc_are_rows_of pm_are_rows_of an_are_rows_of cd_are_rows_of ct_are_rows_of), sl_are_rows_of⟩) (d_are_rows_of : PySem.W.codeIn K cd_are_rows_of "are_rows_of" = true) (k_are_rows_of : PySem.W.keepIn K (.ref f_are_rows_of) = true)
    (a_is_draft_value : PySem.W.nsIn K mainGlobals "is_draft_value" = some (some (.ref f_is_draft_value))) (l_is_draft_value : K.lookup f_is_draft_value = some ⟨oc_is_draft_value, od_is_draft_value, .func (PySem.W.fnOf "is_draft_value" "is_draft_value" (defArgs s_is_draft_value) (defBody s_is_draft_value) (defScope s_is_draft_value) .none kV_is_draft_value dc_is_draft_value pm_is_draft_value an_is_draft_value cd_is_draft_value ct_is_draft_value), sl_is_draft_value⟩) (d_is_draft_value : PySem.W.codeIn K cd_is_draft_value "is_draft_value" = true) (k_is_draft_value : PySem.W.keepIn K (.ref f_is_draft_value) = true)
    (a_want_draft : PySem.W.nsIn K mainGlobals "want_draft" = some (some (.ref f_want_draft))) (l_want_draft : K.lookup f_want_draft = some ⟨oc_want_draft, od_want_draft, .func (PySem.W.fnOf "want_draft" "want_draft" (defArgs s_want_draft) (defBody s_want_draft) (defScope s_want_draft) .none kV_want_draft dc_want_draft pm_want_draft an_want_draft cd_want_draft ct_want_draft), sl_want_draft⟩) (d_want_draft : PySem.W.codeIn K cd_want_draft "want_draft" = true) (k_want_draft : PySem.W.keepIn K (.ref f_want_draft) = true)
    (a_many_warps : PySem.W.nsIn K mainGlobals "many_warps" = some (some (.ref f_many_warps))) (l_many_warps : K.lookup f_many_warps = some ⟨oc_many_warps, od_many_warps, .func (PySem.W.fnOf "many_warps" "many_warps" (defArgs s_many_warps) (defBody s_many_warps) (defScope s_many_warps) .none kV_many_warps dc_many_warps pm_many_warps an_many_warps cd_many_warps ct_many_warps), sl_many_warps⟩) (d_many_warps : PySem.W.codeIn K cd_many_warps "many_warps" = true) (k_many_warps : PySem.W.keepIn K (.ref f_many_warps) = true)
    (a_columns_of : PySem.W.nsIn K mainGlobals "columns_of" = some (some (.ref f_columns_of))) (l_columns_of : K.lookup f_columns_of = some ⟨oc_columns_of, od_columns_of, .func (PySem.W.fnOf "columns_of" "columns_of" (defArgs s_columns_of) (defBody s_columns_of) (defScope s_columns_of) .none kV_columns_of dc_columns_of pm_columns_of an_columns_of cd_columns_of ct_columns_of), sl_columns_of⟩) (d_columns_of : PySem.W.codeIn K cd_columns_of "columns_of" = true) (k_columns_of : PySem.W.keepIn K (.ref f_columns_of) = true)
    (a_told_loom : PySem.W.nsIn K mainGlobals "told_loom" = some (some (.ref f_told_loom))) (l_told_loom : K.lookup f_told_loom = some ⟨oc_told_loom, od_told_loom, .func (PySem.W.fnOf "told_loom" "told_loom" (defArgs s_told_loom) (defBody s_told_loom) (defScope s_told_loom) .none kV_told_loom dc_told_loom pm_told_loom an_told_loom cd_told_loom ct_told_loom), sl_told_loom⟩) (d_told_loom : PySem.W.codeIn K cd_told_loom "told_loom" = true) (k_told_loom : PySem.W.keepIn K (.ref f_told_loom) = true)
    (a_loom_of : PySem.W.nsIn K mainGlobals "loom_of" = some (some (.ref f_loom_of))) (l_loom_of : K.lookup f_loom_of = some ⟨oc_loom_of, od_loom_of, .func (PySem.W.fnOf "loom_of" "loom_of" (defArgs s_loom_of) (defBody s_loom_of) (defScope s_loom_of) .none kV_loom_of dc_loom_of pm_loom_of an_loom_of cd_loom_of ct_loom_of), sl_loom_of⟩) (d_loom_of : PySem.W.codeIn K cd_loom_of "loom_of" = true) (k_loom_of : PySem.W.keepIn K (.ref f_loom_of) = true)
    (a_want_most : PySem.W.nsIn K mainGlobals "want_most" = some (some (.ref f_want_most))) (l_want_most : K.lookup f_want_most = some ⟨oc_want_most, od_want_most, .func (PySem.W.fnOf "want_most" "want_most" (defArgs s_want_most) (defBody s_want_most) (defScope s_want_most) .none kV_want_most dc_want_most pm_want_most an_want_most cd_want_most ct_want_most), sl_want_most⟩) (d_want_most : PySem.W.codeIn K cd_want_most "want_most" = true) (k_want_most : PySem.W.keepIn K (.ref f_want_most) = true)
    (a_by_lift_plan : PySem.W.nsIn K mainGlobals "by_lift_plan" = some (some (.ref f_by_lift_plan))) (l_by_lift_plan : K.lookup f_by_lift_plan = some ⟨oc_by_lift_plan, od_by_lift_plan, .func (PySem.W.fnOf "by_lift_plan" "by_lift_plan" (defArgs s_by_lift_plan) (defBody s_by_lift_plan) (defScope s_by_lift_plan) .none kV_by_lift_plan dc_by_lift_plan pm_by_lift_plan an_by_lift_plan cd_by_lift_plan ct_by_lift_plan), sl_by_lift_plan⟩) (d_by_lift_plan : PySem.W.codeIn K cd_by_lift_plan "by_lift_plan" = true) (k_by_lift_plan : PySem.W.keepIn K (.ref f_by_lift_plan) = true)
    (a_plan_of : PySem.W.nsIn K mainGlobals "plan_of" = some (some (.ref f_plan_of))) (l_plan_of : K.lookup f_plan_of = some ⟨oc_plan_of, od_plan_of, .func (PySem.W.fnOf "plan_of" "plan_of" (defArgs s_plan_of) (defBody s_plan_of) (defScope s_plan_of) .none kV_plan_of dc_plan_of pm_plan_of an_plan_of cd_plan_of ct_plan_of), sl_plan_of⟩) (d_plan_of : PySem.W.codeIn K cd_plan_of "plan_of" = true) (k_plan_of : PySem.W.keepIn K (.ref f_plan_of) = true)
    (a_lift_plan : PySem.W.nsIn K mainGlobals "lift_plan" = some (some (.ref f_lift_plan))) (l_lift_plan : K.lookup f_lift_plan = some ⟨oc_lift_plan, od_lift_plan, .func (PySem.W.fnOf "lift_plan" "lift_plan" (defArgs s_lift_plan) (defBody s_lift_plan) (defScope s_lift_plan) .none kV_lift_plan dc_lift_plan pm_lift_plan an_lift_plan cd_lift_plan ct_lift_plan), sl_lift_plan⟩) (d_lift_plan : PySem.W.codeIn K cd_lift_plan "lift_plan" = true) (k_lift_plan : PySem.W.keepIn K (.ref f_lift_plan) = true)
    (a__law_pick : PySem.W.nsIn K mainGlobals "_law_pick" = some (some (.ref f__law_pick))) (l__law_pick : K.lookup f__law_pick = some ⟨oc__law_pick, od__law_pick, .func (PySem.W.fnOf "_law_pick" "_law_pick" (defArgs s__law_pick) (defBody s__law_pick) (defScope s__law_pick) .none kV__law_pick dc__law_pick pm__law_pick an__law_pick cd__law_pick ct__law_pick), sl__law_pick⟩) (d__law_pick : PySem.W.codeIn K cd__law_pick "_law_pick" = true) (k__law_pick : PySem.W.keepIn K (.ref f__law_pick) = true)
    (a__law_bent_row : PySem.W.nsIn K mainGlobals "_law_bent_row" = some (some (.ref f__law_bent_row))) (l__law_bent_row : K.lookup f__law_bent_row = some ⟨oc__law_bent_row, od__law_bent_row, .func (PySem.W.fnOf "_law_bent_row" "_law_bent_row" (defArgs s__law_bent_row) (defBody s__law_bent_row) (defScope s__law_bent_row) .none kV__law_bent_row dc__law_bent_row pm__law_bent_row an__law_bent_row cd__law_bent_row ct__law_bent_row), sl__law_bent_row⟩) (d__law_bent_row : PySem.W.codeIn K cd__law_bent_row "_law_bent_row" = true) (k__law_bent_row : PySem.W.keepIn K (.ref f__law_bent_row) = true)
    (a__law_bent : PySem.W.nsIn K mainGlobals "_law_bent" = some (some (.ref f__law_bent))) (l__law_bent : K.lookup f__law_bent = some ⟨oc__law_bent, od__law_bent, .func (PySem.W.fnOf "_law_bent" "_law_bent" (defArgs s__law_bent) (defBody s__law_bent) (defScope s__law_bent) .none kV__law_bent dc__law_bent pm__law_bent an__law_bent cd__law_bent ct__law_bent), sl__law_bent⟩) (d__law_bent : PySem.W.codeIn K cd__law_bent "_law_bent" = true) (k__law_bent : PySem.W.keepIn K (.ref f__law_bent) = true)
    (a__law_is_whole : PySem.W.nsIn K mainGlobals "_law_is_whole" = some (some (.ref f__law_is_whole))) (l__law_is_whole : K.lookup f__law_is_whole = some ⟨oc__law_is_whole, od__law_is_whole, .func (PySem.W.fnOf "_law_is_whole" "_law_is_whole" (defArgs s__law_is_whole) (defBody s__law_is_whole) (defScope s__law_is_whole) .none kV__law_is_whole dc__law_is_whole pm__law_is_whole an__law_is_whole cd__law_is_whole ct__law_is_whole), sl__law_is_whole⟩) (d__law_is_whole : PySem.W.codeIn K cd__law_is_whole "_law_is_whole" = true) (k__law_is_whole : PySem.W.keepIn K (.ref f__law_is_whole) = true)
    (a__law_are : PySem.W.nsIn K mainGlobals "_law_are" = some (some (.ref f__law_are))) (l__law_are : K.lookup f__law_are = some ⟨oc__law_are, od__law_are, .func (PySem.W.fnOf "_law_are" "_law_are" (defArgs s__law_are) (defBody s__law_are) (defScope s__law_are) .none kV__law_are dc__law_are pm__law_are an__law_are cd__law_are ct__law_are), sl__law_are⟩) (d__law_are : PySem.W.codeIn K cd__law_are "_law_are" = true) (k__law_are : PySem.W.keepIn K (.ref f__law_are) = true)
    (a__law_is_lift : PySem.W.nsIn K mainGlobals "_law_is_lift" = some (some (.ref f__law_is_lift))) (l__law_is_lift : K.lookup f__law_is_lift = some ⟨oc__law_is_lift, od__law_is_lift, .func (PySem.W.fnOf "_law_is_lift" "_law_is_lift" (defArgs s__law_is_lift) (defBody s__law_is_lift) (defScope s__law_is_lift) .none kV__law_is_lift dc__law_is_lift pm__law_is_lift an__law_is_lift cd__law_is_lift ct__law_is_lift), sl__law_is_lift⟩) (d__law_is_lift : PySem.W.codeIn K cd__law_is_lift "_law_is_lift" = true) (k__law_is_lift : PySem.W.keepIn K (.ref f__law_is_lift) = true)
    (a__law_is_loom : PySem.W.nsIn K mainGlobals "_law_is_loom" = some (some (.ref f__law_is_loom))) (l__law_is_loom : K.lookup f__law_is_loom = some ⟨oc__law_is_loom, od__law_is_loom, .func (PySem.W.fnOf "_law_is_loom" "_law_is_loom" (defArgs s__law_is_loom) (defBody s__law_is_loom) (defScope s__law_is_loom) .none kV__law_is_loom dc__law_is_loom pm__law_is_loom an__law_is_loom cd__law_is_loom ct__law_is_loom), sl__law_is_loom⟩) (d__law_is_loom : PySem.W.codeIn K cd__law_is_loom "_law_is_loom" = true) (k__law_is_loom : PySem.W.keepIn K (.ref f__law_is_loom) = true)
    (a_is_loom : PySem.W.nsIn K mainGlobals "is_loom" = some (some (.ref f_is_loom))) (l_is_loom : K.lookup f_is_loom = some ⟨oc_is_loom, od_is_loom, .func (PySem.W.fnOf "is_loom" "is_loom" (defArgs s_is_loom) (defBody s_is_loom) (defScope s_is_loom) .none kV_is_loom dc_is_loom pm_is_loom an_is_loom cd_is_loom ct_is_loom), sl_is_loom⟩) (d_is_loom : PySem.W.codeIn K cd_is_loom "is_loom" = true) (k_is_loom : PySem.W.keepIn K (.ref f_is_loom) = true)
    (a__law_right : PySem.W.nsIn K mainGlobals "_law_right" = some (some (.ref f__law_right))) (l__law_right : K.lookup f__law_right = some ⟨oc__law_right, od__law_right, .func (PySem.W.fnOf "_law_right" "_law_right" (defArgs s__law_right) (defBody s__law_right) (defScope s__law_right) .none kV__law_right dc__law_right pm__law_right an__law_right cd__law_right ct__law_right), sl__law_right⟩) (d__law_right : PySem.W.codeIn K cd__law_right "_law_right" = true) (k__law_right : PySem.W.keepIn K (.ref f__law_right) = true)
    (a__law_pot : PySem.W.nsIn K mainGlobals "_law_pot" = some (some (.ref f__law_pot))) (l__law_pot : K.lookup f__law_pot = some ⟨oc__law_pot, od__law_pot, .func (PySem.W.fnOf "_law_pot" "_law_pot" (defArgs s__law_pot) (defBody s__law_pot) (defScope s__law_pot) .none kV__law_pot dc__law_pot pm__law_pot an__law_pot cd__law_pot ct__law_pot), sl__law_pot⟩) (d__law_pot : PySem.W.codeIn K cd__law_pot "_law_pot" = true) (k__law_pot : PySem.W.keepIn K (.ref f__law_pot) = true)
    (a_law : PySem.W.nsIn K mainGlobals "law" = some (some (.ref f_law))) (l_law : K.lookup f_law = some ⟨oc_law, od_law, .func (PySem.W.fnOf "law" "law" (defArgs s_law) (defBody s_law) (defScope s_law) .none kV_law dc_law pm_law an_law cd_law ct_law), sl_law⟩) (d_law : PySem.W.codeIn K cd_law "law" = true) (k_law : PySem.W.keepIn K (.ref f_law) = true)
    (z_abs : PySem.W.nsIn K mainGlobals "abs" = some none)
    (z_all : PySem.W.nsIn K mainGlobals "all" = some none)
    (z_any : PySem.W.nsIn K mainGlobals "any" = some none)
    (z_bool : PySem.W.nsIn K mainGlobals "bool" = some none)
    (z_divmod : PySem.W.nsIn K mainGlobals "divmod" = some none)
    (z_enumerate : PySem.W.nsIn K mainGlobals "enumerate" = some none)
    (z_int : PySem.W.nsIn K mainGlobals "int" = some none)
    (z_isinstance : PySem.W.nsIn K mainGlobals "isinstance" = some none)
    (z_len : PySem.W.nsIn K mainGlobals "len" = some none)
    (z_list : PySem.W.nsIn K mainGlobals "list" = some none)
    (z_max : PySem.W.nsIn K mainGlobals "max" = some none)
    (z_min : PySem.W.nsIn K mainGlobals "min" = some none)
    (z_range : PySem.W.nsIn K mainGlobals "range" = some none)
    (z_repr : PySem.W.nsIn K mainGlobals "repr" = some none)
    (z_set : PySem.W.nsIn K mainGlobals "set" = some none)
    (z_sorted : PySem.W.nsIn K mainGlobals "sorted" = some none)
    (z_str : PySem.W.nsIn K mainGlobals "str" = some none)
    (z_tuple : PySem.W.nsIn K mainGlobals "tuple" = some none)
    (z_zip : PySem.W.nsIn K mainGlobals "zip" = some none)
    (q_LOOM : PySem.W.nsIn K mainGlobals "LOOM" = some (some (.str "loom" t_LOOM)))
    (q_MOST : PySem.W.nsIn K mainGlobals "MOST" = some (some (.int 12 t_MOST)))
    : ∃ fd : FuncData, (∀ (s : Shared) (v : Value), BindsTo s fd ⟨[v], []⟩ [("script", v)]) ∧ ∀ base : Heap, K.In base → base.Ns mainGlobals mg → FnG l.prog w K mg base 9 fa fd ["script"] m_law := by
  have e := hfa.symm.trans (PySem.W.mg_of X G a_law)
  cases e
  have M : Md K mg := ⟨PySem.W.mg_none_of X G z_abs, PySem.W.mg_none_of X G z_all, PySem.W.mg_none_of X G z_any, PySem.W.mg_none_of X G z_bool, PySem.W.mg_none_of X G z_divmod, PySem.W.mg_none_of X G z_enumerate, PySem.W.mg_none_of X G z_int, PySem.W.mg_none_of X G z_isinstance, PySem.W.mg_none_of X G z_len, PySem.W.mg_none_of X G z_list, PySem.W.mg_none_of X G z_max, PySem.W.mg_none_of X G z_min, PySem.W.mg_none_of X G z_range, PySem.W.mg_none_of X G z_repr, PySem.W.mg_none_of X G z_set, PySem.W.mg_none_of X G z_sorted, PySem.W.mg_none_of X G z_str, PySem.W.mg_none_of X G z_tuple, PySem.W.mg_none_of X G z_zip, ⟨⟨_, PySem.W.mg_of X G q_LOOM, ⟨_, rfl⟩⟩, fun _ => .str _⟩, ⟨⟨_, PySem.W.mg_of X G q_MOST, ⟨_, rfl⟩⟩, fun _ => .int _⟩⟩
  have F__law_draw := fun_mk (st := s__law_draw) l__law_draw d__law_draw k__law_draw
  have b__law_draw := F__law_draw.binds (ps := ["pot", "many"]) fun _ _ _ _ _ _ us hl => match us, hl with | [_, _], _ => rfl
  have F__law_loom := fun_mk (st := s__law_loom) l__law_loom d__law_loom k__law_loom
  have b__law_loom := F__law_loom.binds (ps := ["pot", "most"]) fun _ _ _ _ _ _ us hl => match us, hl with | [_, _], _ => rfl
  have F__law_woven := fun_mk (st := s__law_woven) l__law_woven d__law_woven k__law_woven
  have b__law_woven := F__law_woven.binds (ps := ["loom"]) fun _ _ _ _ _ _ us hl => match us, hl with | [_], _ => rfl
  have F_is_integer := fun_mk (st := s_is_integer) l_is_integer d_is_integer k_is_integer
  have b_is_integer := F_is_integer.binds (ps := ["value"]) fun _ _ _ _ _ _ us hl => match us, hl with | [_], _ => rfl
  have F_is_within := fun_mk (st := s_is_within) l_is_within d_is_within k_is_within
  have b_is_within := F_is_within.binds (ps := ["value", "least", "most"]) fun _ _ _ _ _ _ us hl => match us, hl with | [_, _, _], _ => rfl
  have F_are_numbers := fun_mk (st := s_are_numbers) l_are_numbers d_are_numbers k_are_numbers
  have b_are_numbers := F_are_numbers.binds (ps := ["value", "many"]) fun _ _ _ _ _ _ us hl => match us, hl with | [_, _], _ => rfl
  have F_is_tuple := fun_mk (st := s_is_tuple) l_is_tuple d_is_tuple k_is_tuple
  have b_is_tuple := F_is_tuple.binds (ps := ["value", "many"]) fun _ _ _ _ _ _ us hl => match us, hl with | [_, _], _ => rfl
  have F_are_rising := fun_mk (st := s_are_rising) l_are_rising d_are_rising k_are_rising
  have b_are_rising := F_are_rising.binds (ps := ["values"]) fun _ _ _ _ _ _ us hl => match us, hl with | [_], _ => rfl
  have F_is_lot_of := fun_mk (st := s_is_lot_of) l_is_lot_of d_is_lot_of k_is_lot_of
  have b_is_lot_of := F_is_lot_of.binds (ps := ["value", "many"]) fun _ _ _ _ _ _ us hl => match us, hl with | [_, _], _ => rfl
  have F_are_lifts := fun_mk (st := s_are_lifts) l_are_lifts d_are_lifts k_are_lifts
  have b_are_lifts := F_are_lifts.binds (ps := ["value", "shafts"]) fun _ _ _ _ _ _ us hl => match us, hl with | [_, _], _ => rfl
  have F_is_loom_value := fun_mk (st := s_is_loom_value) l_is_loom_value d_is_loom_value k_is_loom_value
  have b_is_loom_value := F_is_loom_value.binds (ps := ["value"]) fun _ _ _ _ _ _ us hl => match us, hl with | [_], _ => rfl
  have F_want_loom := fun_mk (st := s_want_loom) l_want_loom d_want_loom k_want_loom
  have b_want_loom := F_want_loom.binds (ps := ["loom"]) fun _ _ _ _ _ _ us hl => match us, hl with | [_], _ => rfl
  have F_by_first := fun_mk (st := s_by_first) l_by_first d_by_first k_by_first
  have b_by_first := F_by_first.binds (ps := ["values"]) fun _ _ _ _ _ _ us hl => match us, hl with | [_], _ => rfl
  have F_numbered := fun_mk (st := s_numbered) l_numbered d_numbered k_numbered
  have b_numbered := F_numbered.binds (ps := ["values"]) fun _ _ _ _ _ _ us hl => match us, hl with | [_], _ => rfl
  have F_tidy := fun_mk (st := s_tidy) l_tidy d_tidy k_tidy
  have b_tidy := F_tidy.binds (ps := ["loom"]) fun _ _ _ _ _ _ us hl => match us, hl with | [_], _ => rfl
  have F_tidied := fun_mk (st := s_tidied) l_tidied d_tidied k_tidied
  have b_tidied := F_tidied.binds (ps := ["loom"]) fun _ _ _ _ _ _ us hl => match us, hl with | [_], _ => rfl
  have F_others := fun_mk (st := s_others) l_others d_others k_others
  have b_others := F_others.binds (ps := ["shafts", "lift"]) fun _ _ _ _ _ _ us hl => match us, hl with | [_, _], _ => rfl
  have F_loom_contrary := fun_mk (st := s_loom_contrary) l_loom_contrary d_loom_contrary k_loom_contrary
  have b_loom_contrary := F_loom_contrary.binds (ps := ["loom"]) fun _ _ _ _ _ _ us hl => match us, hl with | [_], _ => rfl
  have F_loom_quartered := fun_mk (st := s_loom_quartered) l_loom_quartered d_loom_quartered k_loom_quartered
  have b_loom_quartered := F_loom_quartered.binds (ps := ["loom"]) fun _ _ _ _ _ _ us hl => match us, hl with | [_], _ => rfl
  have F_is_headed := fun_mk (st := s_is_headed) l_is_headed d_is_headed k_is_headed
  have b_is_headed := F_is_headed.binds (ps := ["value", "word"]) fun _ _ _ _ _ _ us hl => match us, hl with | [_, _], _ => rfl
  have F_are_rows_of := fun_mk (st := s_are_rows_of) l_are_rows_of d_are_rows_of k_are_rows_of
  have b_are_rows_of := F_are_rows_of.binds (ps := ["value", "signs"]) fun _ _ _ _ _ _ us hl => match us, hl with | [_, _], _ => rfl
  have F_is_draft_value := fun_mk (st := s_is_draft_value) l_is_draft_value d_is_draft_value k_is_draft_value
  have b_is_draft_value := F_is_draft_value.binds (ps := ["value"]) fun _ _ _ _ _ _ us hl => match us, hl with | [_], _ => rfl
  have F_want_draft := fun_mk (st := s_want_draft) l_want_draft d_want_draft k_want_draft
  have b_want_draft := F_want_draft.binds (ps := ["draft"]) fun _ _ _ _ _ _ us hl => match us, hl with | [_], _ => rfl
  have F_many_warps := fun_mk (st := s_many_warps) l_many_warps d_many_warps k_many_warps
  have b_many_warps := F_many_warps.binds (ps := ["draft"]) fun _ _ _ _ _ _ us hl => match us, hl with | [_], _ => rfl
  have F_columns_of := fun_mk (st := s_columns_of) l_columns_of d_columns_of k_columns_of
  have b_columns_of := F_columns_of.binds (ps := ["draft"]) fun _ _ _ _ _ _ us hl => match us, hl with | [_], _ => rfl
  have F_told_loom := fun_mk (st := s_told_loom) l_told_loom d_told_loom k_told_loom
  have b_told_loom := F_told_loom.binds (ps := ["draft"]) fun _ _ _ _ _ _ us hl => match us, hl with | [_], _ => rfl
  have F_loom_of := fun_mk (st := s_loom_of) l_loom_of d_loom_of k_loom_of
  have b_loom_of := F_loom_of.binds (ps := ["draft"]) fun _ _ _ _ _ _ us hl => match us, hl with | [_], _ => rfl
  have F_want_most := fun_mk (st := s_want_most) l_want_most d_want_most k_want_most
  have b_want_most := F_want_most.binds (ps := ["value"]) fun _ _ _ _ _ _ us hl => match us, hl with | [_], _ => rfl
  have F_by_lift_plan := fun_mk (st := s_by_lift_plan) l_by_lift_plan d_by_lift_plan k_by_lift_plan
  have b_by_lift_plan := F_by_lift_plan.binds (ps := ["shafts", "threading", "plan"]) fun _ _ _ _ _ _ us hl => match us, hl with | [_, _, _], _ => rfl
  have F_plan_of := fun_mk (st := s_plan_of) l_plan_of d_plan_of k_plan_of
  have b_plan_of := F_plan_of.binds (ps := ["loom"]) fun _ _ _ _ _ _ us hl => match us, hl with | [_], _ => rfl
  have F_lift_plan := fun_mk (st := s_lift_plan) l_lift_plan d_lift_plan k_lift_plan
  have b_lift_plan := F_lift_plan.binds (ps := ["loom"]) fun _ _ _ _ _ _ us hl => match us, hl with | [_], _ => rfl
  have F__law_pick := fun_mk (st := s__law_pick) l__law_pick d__law_pick k__law_pick
  have b__law_pick := F__law_pick.binds (ps := ["pot", "some"]) fun _ _ _ _ _ _ us hl => match us, hl with | [_, _], _ => rfl
  have F__law_bent_row := fun_mk (st := s__law_bent_row) l__law_bent_row d__law_bent_row k__law_bent_row
  have b__law_bent_row := F__law_bent_row.binds (ps := ["pot", "row"]) fun _ _ _ _ _ _ us hl => match us, hl with | [_, _], _ => rfl
  have F__law_bent := fun_mk (st := s__law_bent) l__law_bent d__law_bent k__law_bent
  have b__law_bent := F__law_bent.binds (ps := ["pot", "loom"]) fun _ _ _ _ _ _ us hl => match us, hl with | [_, _], _ => rfl
  have F__law_is_whole := fun_mk (st := s__law_is_whole) l__law_is_whole d__law_is_whole k__law_is_whole
  have b__law_is_whole := F__law_is_whole.binds (ps := ["value", "least", "most"]) fun _ _ _ _ _ _ us hl => match us, hl with | [_, _, _], _ => rfl
  have F__law_are := fun_mk (st := s__law_are) l__law_are d__law_are k__law_are
  have b__law_are := F__law_are.binds (ps := ["value", "most"]) fun _ _ _ _ _ _ us hl => match us, hl with | [_, _], _ => rfl
  have F__law_is_lift := fun_mk (st := s__law_is_lift) l__law_is_lift d__law_is_lift k__law_is_lift
  have b__law_is_lift := F__law_is_lift.binds (ps := ["value", "shafts"]) fun _ _ _ _ _ _ us hl => match us, hl with | [_, _], _ => rfl
  have F__law_is_loom := fun_mk (st := s__law_is_loom) l__law_is_loom d__law_is_loom k__law_is_loom
  have b__law_is_loom := F__law_is_loom.binds (ps := ["value"]) fun _ _ _ _ _ _ us hl => match us, hl with | [_], _ => rfl
  have F_is_loom := fun_mk (st := s_is_loom) l_is_loom d_is_loom k_is_loom
  have b_is_loom := F_is_loom.binds (ps := ["value"]) fun _ _ _ _ _ _ us hl => match us, hl with | [_], _ => rfl
  have F__law_right := fun_mk (st := s__law_right) l__law_right d__law_right k__law_right
  have b__law_right := F__law_right.binds (ps := ["pot"]) fun _ _ _ _ _ _ us hl => match us, hl with | [_], _ => rfl
  have F__law_pot := fun_mk (st := s__law_pot) l__law_pot d__law_pot k__law_pot
  have b__law_pot := F__law_pot.binds (ps := ["script", "k"]) fun _ _ _ _ _ _ us hl => match us, hl with | [_, _], _ => rfl
  have F_law := fun_mk (st := s_law) l_law d_law k_law
  have kb_is_loom_0_value : KwB K _ ["value"] ["value"] [0] := kwb F_is_loom fun _ _ _ _ _ _ us ws h1 h2 => match us, ws, h1, h2 with | [], [_], _, _ => rfl
  refine ⟨PySem.W.fnOf "law" "law" (defArgs s_law) (defBody s_law) (defScope s_law) .none kV_law dc_law pm_law an_law cd_law ct_law, fun s v => .of_eq rfl, fun base _ _ => ?_⟩
  have G__law_draw : FnG l.prog w K mg base 1 f__law_draw _ ["pot", "many"] m__law_draw := g__law_draw (k := 0) F__law_draw M
  have G__law_loom : FnG l.prog w K mg base 2 f__law_loom _ ["pot", "most"] m__law_loom := g__law_loom (k := 1) F__law_loom M ⟨G__law_draw.mono (by decide), PySem.W.mg_of X G a__law_draw, F__law_draw.kp, b__law_draw⟩
  have G__law_woven : FnG l.prog w K mg base 1 f__law_woven _ ["loom"] m__law_woven := g__law_woven (k := 0) F__law_woven M
  have G_is_integer : FnG l.prog w K mg base 1 f_is_integer _ ["value"] m_is_integer := g_is_integer (k := 0) F_is_integer M
  have G_is_within : FnG l.prog w K mg base 2 f_is_within _ ["value", "least", "most"] m_is_within := g_is_within (k := 1) F_is_within M ⟨G_is_integer.mono (by decide), PySem.W.mg_of X G a_is_integer, F_is_integer.kp, b_is_integer⟩
  have G_are_numbers : FnG l.prog w K mg base 3 f_are_numbers _ ["value", "many"] m_are_numbers := g_are_numbers (k := 2) F_are_numbers M ⟨G_is_within.mono (by decide), PySem.W.mg_of X G a_is_within, F_is_within.kp, b_is_within⟩
  have G_is_tuple : FnG l.prog w K mg base 1 f_is_tuple _ ["value", "many"] m_is_tuple := g_is_tuple (k := 0) F_is_tuple M
  have G_are_rising : FnG l.prog w K mg base 1 f_are_rising _ ["values"] m_are_rising := g_are_rising (k := 0) F_are_rising M
  have G_is_lot_of : FnG l.prog w K mg base 3 f_is_lot_of _ ["value", "many"] m_is_lot_of := g_is_lot_of (k := 2) F_is_lot_of M ⟨G_are_rising.mono (by decide), PySem.W.mg_of X G a_are_rising, F_are_rising.kp, b_are_rising⟩ ⟨G_is_within.mono (by decide), PySem.W.mg_of X G a_is_within, F_is_within.kp, b_is_within⟩
  have G_are_lifts : FnG l.prog w K mg base 4 f_are_lifts _ ["value", "shafts"] m_are_lifts := g_are_lifts (k := 3) F_are_lifts M ⟨G_is_lot_of.mono (by decide), PySem.W.mg_of X G a_is_lot_of, F_is_lot_of.kp, b_is_lot_of⟩
  have G_is_loom_value : FnG l.prog w K mg base 5 f_is_loom_value _ ["value"] m_is_loom_value := g_is_loom_value (k := 4) F_is_loom_value M ⟨G_are_numbers.mono (by decide), PySem.W.mg_of X G a_are_numbers, F_are_numbers.kp, b_are_numbers⟩ ⟨G_are_lifts.mono (by decide), PySem.W.mg_of X G a_are_lifts, F_are_lifts.kp, b_are_lifts⟩ ⟨G_is_within.mono (by decide), PySem.W.mg_of X G a_is_within, F_is_within.kp, b_is_within⟩ ⟨G_is_tuple.mono (by decide), PySem.W.mg_of X G a_is_tuple, F_is_tuple.kp, b_is_tuple⟩
  have G_want_loom : FnG l.prog w K mg base 6 f_want_loom _ ["loom"] m_want_loom := g_want_loom (k := 5) F_want_loom M ⟨G_is_loom_value.mono (by decide), PySem.W.mg_of X G a_is_loom_value, F_is_loom_value.kp, b_is_loom_value⟩
  have G_by_first : FnG l.prog w K mg base 1 f_by_first _ ["values"] m_by_first := g_by_first (k := 0) F_by_first M
  have G_numbered : FnG l.prog w K mg base 2 f_numbered _ ["values"] m_numbered := g_numbered (k := 1) F_numbered M ⟨G_by_first.mono (by decide), PySem.W.mg_of X G a_by_first, F_by_first.kp, b_by_first⟩
  have G_tidy : FnG l.prog w K mg base 3 f_tidy _ ["loom"] m_tidy := g_tidy (k := 2) F_tidy M ⟨G_numbered.mono (by decide), PySem.W.mg_of X G a_numbered, F_numbered.kp, b_numbered⟩ ⟨G_by_first.mono (by decide), PySem.W.mg_of X G a_by_first, F_by_first.kp, b_by_first⟩
  have G_tidied : FnG l.prog w K mg base 7 f_tidied _ ["loom"] m_tidied := g_tidied (k := 6) F_tidied M ⟨G_tidy.mono (by decide), PySem.W.mg_of X G a_tidy, F_tidy.kp, b_tidy⟩ ⟨G_want_loom.mono (by decide), PySem.W.mg_of X G a_want_loom, F_want_loom.kp, b_want_loom⟩
  have G_others : FnG l.prog w K mg base 1 f_others _ ["shafts", "lift"] m_others := g_others (k := 0) F_others M
  have G_loom_contrary : FnG l.prog w K mg base 7 f_loom_contrary _ ["loom"] m_loom_contrary := g_loom_contrary (k := 6) F_loom_contrary M ⟨G_others.mono (by decide), PySem.W.mg_of X G a_others, F_others.kp, b_others⟩ ⟨G_want_loom.mono (by decide), PySem.W.mg_of X G a_want_loom, F_want_loom.kp, b_want_loom⟩
  have G_loom_quartered : FnG l.prog w K mg base 7 f_loom_quartered _ ["loom"] m_loom_quartered := g_loom_quartered (k := 6) F_loom_quartered M ⟨G_want_loom.mono (by decide), PySem.W.mg_of X G a_want_loom, F_want_loom.kp, b_want_loom⟩
  have G_is_headed : FnG l.prog w K mg base 2 f_is_headed _ ["value", "word"] m_is_headed := g_is_headed (k := 1) F_is_headed M ⟨G_is_tuple.mono (by decide), PySem.W.mg_of X G a_is_tuple, F_is_tuple.kp, b_is_tuple⟩
  have G_are_rows_of : FnG l.prog w K mg base 3 f_are_rows_of _ ["value", "signs"] m_are_rows_of := g_are_rows_of (k := 2) F_are_rows_of M ⟨G_is_within.mono (by decide), PySem.W.mg_of X G a_is_within, F_is_within.kp, b_is_within⟩
  have G_is_draft_value : FnG l.prog w K mg base 4 f_is_draft_value _ ["value"] m_is_draft_value := g_is_draft_value (k := 3) F_is_draft_value M ⟨G_are_rows_of.mono (by decide), PySem.W.mg_of X G a_are_rows_of, F_are_rows_of.kp, b_are_rows_of⟩ ⟨G_is_headed.mono (by decide), PySem.W.mg_of X G a_is_headed, F_is_headed.kp, b_is_headed⟩
  have G_want_draft : FnG l.prog w K mg base 5 f_want_draft _ ["draft"] m_want_draft := g_want_draft (k := 4) F_want_draft M ⟨G_is_draft_value.mono (by decide), PySem.W.mg_of X G a_is_draft_value, F_is_draft_value.kp, b_is_draft_value⟩
  have G_many_warps : FnG l.prog w K mg base 1 f_many_warps _ ["draft"] m_many_warps := g_many_warps (k := 0) F_many_warps M
  have G_columns_of : FnG l.prog w K mg base 2 f_columns_of _ ["draft"] m_columns_of := g_columns_of (k := 1) F_columns_of M ⟨G_many_warps.mono (by decide), PySem.W.mg_of X G a_many_warps, F_many_warps.kp, b_many_warps⟩
  have G_told_loom : FnG l.prog w K mg base 3 f_told_loom _ ["draft"] m_told_loom := g_told_loom (k := 2) F_told_loom M ⟨G_numbered.mono (by decide), PySem.W.mg_of X G a_numbered, F_numbered.kp, b_numbered⟩ ⟨G_by_first.mono (by decide), PySem.W.mg_of X G a_by_first, F_by_first.kp, b_by_first⟩ ⟨G_columns_of.mono (by decide), PySem.W.mg_of X G a_columns_of, F_columns_of.kp, b_columns_of⟩
  have G_loom_of : FnG l.prog w K mg base 6 f_loom_of _ ["draft"] m_loom_of := g_loom_of (k := 5) F_loom_of M ⟨G_told_loom.mono (by decide), PySem.W.mg_of X G a_told_loom, F_told_loom.kp, b_told_loom⟩ ⟨G_want_draft.mono (by decide), PySem.W.mg_of X G a_want_draft, F_want_draft.kp, b_want_draft⟩
  have G_want_most : FnG l.prog w K mg base 3 f_want_most _ ["value"] m_want_most := g_want_most (k := 2) F_want_most M ⟨G_is_within.mono (by decide), PySem.W.mg_of X G a_is_within, F_is_within.kp, b_is_within⟩
  have G_by_lift_plan : FnG l.prog w K mg base 5 f_by_lift_plan _ ["shafts", "threading", "plan"] m_by_lift_plan := g_by_lift_plan (k := 4) F_by_lift_plan M ⟨G_numbered.mono (by decide), PySem.W.mg_of X G a_numbered, F_numbered.kp, b_numbered⟩ ⟨G_by_first.mono (by decide), PySem.W.mg_of X G a_by_first, F_by_first.kp, b_by_first⟩ ⟨G_are_lifts.mono (by decide), PySem.W.mg_of X G a_are_lifts, F_are_lifts.kp, b_are_lifts⟩ ⟨G_are_numbers.mono (by decide), PySem.W.mg_of X G a_are_numbers, F_are_numbers.kp, b_are_numbers⟩ ⟨G_want_most.mono (by decide), PySem.W.mg_of X G a_want_most, F_want_most.kp, b_want_most⟩
  have G_plan_of : FnG l.prog w K mg base 1 f_plan_of _ ["loom"] m_plan_of := g_plan_of (k := 0) F_plan_of M
  have G_lift_plan : FnG l.prog w K mg base 7 f_lift_plan _ ["loom"] m_lift_plan := g_lift_plan (k := 6) F_lift_plan M ⟨G_plan_of.mono (by decide), PySem.W.mg_of X G a_plan_of, F_plan_of.kp, b_plan_of⟩ ⟨G_want_loom.mono (by decide), PySem.W.mg_of X G a_want_loom, F_want_loom.kp, b_want_loom⟩
  have G__law_pick : FnG l.prog w K mg base 2 f__law_pick _ ["pot", "some"] m__law_pick := g__law_pick (k := 1) F__law_pick M ⟨G__law_draw.mono (by decide), PySem.W.mg_of X G a__law_draw, F__law_draw.kp, b__law_draw⟩
  have G__law_bent_row : FnG l.prog w K mg base 3 f__law_bent_row _ ["pot", "row"] m__law_bent_row := g__law_bent_row (k := 2) F__law_bent_row M ⟨G__law_pick.mono (by decide), PySem.W.mg_of X G a__law_pick, F__law_pick.kp, b__law_pick⟩ ⟨G__law_draw.mono (by decide), PySem.W.mg_of X G a__law_draw, F__law_draw.kp, b__law_draw⟩
  have G__law_bent : FnG l.prog w K mg base 4 f__law_bent _ ["pot", "loom"] m__law_bent := g__law_bent (k := 3) F__law_bent M ⟨G__law_pick.mono (by decide), PySem.W.mg_of X G a__law_pick, F__law_pick.kp, b__law_pick⟩ ⟨G__law_draw.mono (by decide), PySem.W.mg_of X G a__law_draw, F__law_draw.kp, b__law_draw⟩ ⟨G__law_bent_row.mono (by decide), PySem.W.mg_of X G a__law_bent_row, F__law_bent_row.kp, b__law_bent_row⟩
  have G__law_is_whole : FnG l.prog w K mg base 1 f__law_is_whole _ ["value", "least", "most"] m__law_is_whole := g__law_is_whole (k := 0) F__law_is_whole M
  have G__law_are : FnG l.prog w K mg base 2 f__law_are _ ["value", "most"] m__law_are := g__law_are (k := 1) F__law_are M ⟨G__law_is_whole.mono (by decide), PySem.W.mg_of X G a__law_is_whole, F__law_is_whole.kp, b__law_is_whole⟩
  have G__law_is_lift : FnG l.prog w K mg base 2 f__law_is_lift _ ["value", "shafts"] m__law_is_lift := g__law_is_lift (k := 1) F__law_is_lift M ⟨G__law_is_whole.mono (by decide), PySem.W.mg_of X G a__law_is_whole, F__law_is_whole.kp, b__law_is_whole⟩
  have G__law_is_loom : FnG l.prog w K mg base 3 f__law_is_loom _ ["value"] m__law_is_loom := g__law_is_loom (k := 2) F__law_is_loom M ⟨G__law_are.mono (by decide), PySem.W.mg_of X G a__law_are, F__law_are.kp, b__law_are⟩ ⟨G__law_is_lift.mono (by decide), PySem.W.mg_of X G a__law_is_lift, F__law_is_lift.kp, b__law_is_lift⟩ ⟨G__law_is_whole.mono (by decide), PySem.W.mg_of X G a__law_is_whole, F__law_is_whole.kp, b__law_is_whole⟩
  have G_is_loom : FnG l.prog w K mg base 6 f_is_loom _ ["value"] m_is_loom := g_is_loom (k := 5) F_is_loom M ⟨G_is_loom_value.mono (by decide), PySem.W.mg_of X G a_is_loom_value, F_is_loom_value.kp, b_is_loom_value⟩
  have G__law_right : FnG l.prog w K mg base 8 f__law_right _ ["pot"] m__law_right := g__law_right (k := 7) F__law_right M ⟨G_is_loom.mono (by decide), PySem.W.mg_of X G a_is_loom, F_is_loom.kp, b_is_loom⟩ ⟨G__law_is_loom.mono (by decide), PySem.W.mg_of X G a__law_is_loom, F__law_is_loom.kp, b__law_is_loom⟩ ⟨G__law_bent.mono (by decide), PySem.W.mg_of X G a__law_bent, F__law_bent.kp, b__law_bent⟩ ⟨G_by_lift_plan.mono (by decide), PySem.W.mg_of X G a_by_lift_plan, F_by_lift_plan.kp, b_by_lift_plan⟩ ⟨G_lift_plan.mono (by decide), PySem.W.mg_of X G a_lift_plan, F_lift_plan.kp, b_lift_plan⟩ ⟨G_loom_of.mono (by decide), PySem.W.mg_of X G a_loom_of, F_loom_of.kp, b_loom_of⟩ ⟨G_loom_quartered.mono (by decide), PySem.W.mg_of X G a_loom_quartered, F_loom_quartered.kp, b_loom_quartered⟩ ⟨G_loom_contrary.mono (by decide), PySem.W.mg_of X G a_loom_contrary, F_loom_contrary.kp, b_loom_contrary⟩ ⟨G_tidied.mono (by decide), PySem.W.mg_of X G a_tidied, F_tidied.kp, b_tidied⟩ ⟨G__law_woven.mono (by decide), PySem.W.mg_of X G a__law_woven, F__law_woven.kp, b__law_woven⟩ ⟨G__law_loom.mono (by decide), PySem.W.mg_of X G a__law_loom, F__law_loom.kp, b__law_loom⟩ kb_is_loom_0_value
  have G__law_pot : FnG l.prog w K mg base 1 f__law_pot _ ["script", "k"] m__law_pot := g__law_pot (k := 0) F__law_pot M
  have G_law : FnG l.prog w K mg base 9 fa _ ["script"] m_law := g_law (k := 8) F_law M ⟨G__law_right.mono (by decide), PySem.W.mg_of X G a__law_right, F__law_right.kp, b__law_right⟩ ⟨G__law_pot.mono (by decide), PySem.W.mg_of X G a__law_pot, F__law_pot.kp, b__law_pot⟩
  exact G_law
end PK85

set_option Elab.async false
set_option linter.all false
set_option maxRecDepth 100000
set_option maxHeartbeats 4000000
namespace PK85
open PySem DL
@[simp] theorem e_is_integer {v : PyData} (h : okT v = true) : m_is_integer [.d v] = some (.d (.bool (isInt v)), [.d v]) := by
  cases v with
  | dict kvs => rw [okT_dict h]; simp [m_is_integer, defn, isInt, tgIs]
  | _ => simp [m_is_integer, defn, isInt, tgIs]
@[simp] theorem e_is_within {v : PyData} {a b : Int} (h : okT v = true) : m_is_within [.d v, .d (.int a), .d (.int b)] = some (.d (.bool (isIn a b v)), [.d v, .d (.int a), .d (.int b)]) := by
  simp [m_is_within, defn, e_is_integer h]
  cases v with
  | int i =>
    simp [isInt, isIn]
    by_cases h1 : a ≤ i
    · simp [h1]
    · simp [h1, Int.not_le.mp h1]
  | _ => simp [isInt, isIn]
/-- every item of xs within 0 .. n - 1 -/
def inAll (n : Int) (xs : List PyData) : Bool := xs.all (isIn 0 (n - 1))
def areNum (n : Int) : PyData → Bool
  | .tuple xs => decide (1 ≤ xs.length ∧ xs.length ≤ 12) && inAll n xs
  | _ => false
def okTs (xs : List PyData) : Bool := xs.all okT
def okTT : PyData → Bool
  | .tuple xs => okTs xs
  | v => okT v
theorem okTT_ok {v : PyData} (h : okTT v = true) : okT v = true := by
  cases v with
  | tuple xs => rfl
  | _ => exact h
@[simp] theorem e_are_numbers {v : PyData} {n : Int} (h : okTT v = true) : m_are_numbers [.d v, .d (.int n)] = some (.d (.bool (areNum n v)), [.d v, .d (.int n)]) := by
  cases v with
  | tuple xs =>
    have h : ∀ x ∈ xs, okT x = true := fun x hx => List.all_eq_true.mp (show xs.all okT = true from h) x hx
    simp [m_are_numbers, defn, tgIs, areNum]
    by_cases h1 : 1 ≤ xs.length
    · by_cases h2 : xs.length ≤ 12
      · have a1 : (1 : Int) ≤ xs.length := by omega
        have a2 : (xs.length : Int) ≤ 12 := by omega
        have a3 : xs.length < 100000 := by omega
        simp [a1, a2, a3, h1, h2]
        rw [lc_map (fun x => .bool (isIn 0 (n - 1) x)) xs fun x hx => by simp [lcStep, e_is_within (h x hx)]]
        simp [dAll_f, inAll]
      · have a2 : ¬ (xs.length : Int) ≤ 12 := by omega
        have a1 : (1 : Int) ≤ xs.length := by omega
        simp [a1, a2, h2]
    · have a1 : ¬ (1 : Int) ≤ xs.length := by omega
      simp [a1, h1]
  | dict kvs => rw [okT_dict h]; simp [m_are_numbers, defn, tgIs, areNum]
  | _ => simp [m_are_numbers, defn, tgIs, areNum]
/-! rising -/
theorem zip_rising : ∀ ns : List Int, (zipD (ns.map .int) ((ns.map PyData.int).drop 1)).all (fun x => match x with
    | .tuple [.int a, .int b] => decide (a < b)
    | _ => false) = rising ns
  | [] => rfl
  | [x] => rfl
  | x :: y :: r => by
    have ih := zip_rising (y :: r)
    simp only [List.map_cons, List.drop_succ_cons, List.drop_zero] at ih ⊢
    simp only [zipD, List.all_cons, rising, ih]
theorem zip_mem {x : PyData} : ∀ ns ms : List Int, x ∈ zipD (ns.map .int) (ms.map .int) → ∃ a b, x = .tuple [.int a, .int b]
  | [], _, h => by simp [zipD] at h
  | _ :: _, [], h => by simp [zipD] at h
  | n :: ns, m :: ms, h => by
    simp only [List.map_cons, zipD, List.mem_cons] at h
    rcases h with h | h
    · exact ⟨n, m, h⟩
    · exact zip_mem ns ms h
@[simp] theorem e_are_rising (ns : List Int) (hl : ns.length < 100000) : m_are_rising [.d (.tuple (ns.map .int))] = some (.d (.bool (rising ns)), [.d (.tuple (ns.map .int))]) := by
  have hz : (zipD (ns.map .int) ((ns.map PyData.int).drop 1)).length < 100000 := by rw [zipD_len]; simp; omega
  simp [m_are_rising, defn]
  rw [cut_from' _ 1 1 rfl, if_pos hz]
  rw [lc_map (fun x => .bool (match x with
    | .tuple [.int a, .int b] => decide (a < b)
    | _ => false)) _ fun x hx => ?_]
  · have e := dAll_f (fun x => match x with
      | .tuple [.int a, .int b] => decide (a < b)
      | _ => false) (zipD (ns.map .int) ((ns.map PyData.int).drop 1))
    rw [zip_rising, List.drop_one] at e
    simp [e]
  · rw [← List.map_drop] at hx
    obtain ⟨a, b, rfl⟩ := zip_mem _ _ hx
    simp [lcStep]
/-- a lift of n shafts -/
def isLot (n : Int) : PyData → Bool
  | .tuple xs => inAll n xs && rising (xs.filterMap fun x => match x with
    | .int i => some i
    | _ => none)
  | _ => false
theorem lot_ints {n : Int} {xs : List PyData} (h : inAll n xs = true) : ∃ ns : List Int, xs = ns.map .int ∧ (∀ k ∈ ns, 0 ≤ k ∧ k ≤ n - 1) := ints_of h
theorem un_ints (ns : List Int) : ((ns.map PyData.int).filterMap fun x => match x with
    | .int i => some i
    | _ => none) = ns := by
  induction ns with
  | nil => rfl
  | cons n ns ih => simp [ih]
def short (m : Nat) : PyData → Bool
  | .tuple xs => decide (xs.length ≤ m)
  | _ => true
@[simp] theorem e_is_lot_of {v : PyData} {n : Int} (h : okTT v = true) (hs : short 1000 v = true) : m_is_lot_of [.d v, .d (.int n)] = some (.d (.bool (isLot n v)), [.d v, .d (.int n)]) := by
  cases v with
  | tuple xs =>
    have h : ∀ x ∈ xs, okT x = true := fun x hx => List.all_eq_true.mp (show xs.all okT = true from h) x hx
    have hs : xs.length ≤ 1000 := by simpa [short] using hs
    have h3 : xs.length < 100000 := by omega
    simp [m_is_lot_of, defn, tgIs, isLot, h3]
    rw [lc_map (fun x => .bool (isIn 0 (n - 1) x)) xs fun x hx => by simp [lcStep, e_is_within (h x hx)]]
    have e : xs.all (isIn 0 (n - 1)) = inAll n xs := rfl
    simp [dAll_f, e]
    cases hc : inAll n xs with
    | false => simp
    | true =>
      obtain ⟨ns, rfl, hn⟩ := lot_ints hc
      rw [un_ints]
      simp [e_are_rising ns (by simpa using h3)]
  | dict kvs => rw [okT_dict h]; simp [m_is_lot_of, defn, tgIs, isLot]
  | _ => simp [m_is_lot_of, defn, tgIs, isLot]
def areLifts (n : Int) : PyData → Bool
  | .tuple xs => decide (1 ≤ xs.length ∧ xs.length ≤ 12) && xs.all (isLot n)
  | _ => false
def okL : PyData → Bool
  | .tuple xs => xs.all fun x => okTT x && short 1000 x
  | v => okT v
@[simp] theorem e_are_lifts {v : PyData} {n : Int} (h : okL v = true) : m_are_lifts [.d v, .d (.int n)] = some (.d (.bool (areLifts n v)), [.d v, .d (.int n)]) := by
  cases v with
  | tuple xs =>
    have h : ∀ x ∈ xs, okTT x = true ∧ short 1000 x = true := fun x hx => by
      have := List.all_eq_true.mp (show (xs.all fun x => okTT x && short 1000 x) = true from h) x hx
      simpa using this
    simp [m_are_lifts, defn, tgIs, areLifts]
    by_cases h1 : 1 ≤ xs.length
    · by_cases h2 : xs.length ≤ 12
      · have a1 : (1 : Int) ≤ xs.length := by omega
        have a2 : (xs.length : Int) ≤ 12 := by omega
        have a3 : xs.length < 100000 := by omega
        simp [a1, a2, a3, h1, h2]
        rw [lc_map (fun x => .bool (isLot n x)) xs fun x hx => by simp [lcStep, e_is_lot_of (h x hx).1 (h x hx).2]]
        simp [dAll_f]
      · have a2 : ¬ (xs.length : Int) ≤ 12 := by omega
        have a1 : (1 : Int) ≤ xs.length := by omega
        simp [a1, a2, h2]
    · have a1 : ¬ (1 : Int) ≤ xs.length := by omega
      simp [a1, h1]
  | dict kvs => rw [okT_dict h]; simp [m_are_lifts, defn, tgIs, areLifts]
  | _ => simp [m_are_lifts, defn, tgIs, areLifts]
def isTup (n : Int) : PyData → Bool
  | .tuple xs => decide ((xs.length : Int) = n)
  | _ => false
@[simp] theorem e_is_tuple {v : PyData} {n : Int} (h : okT v = true) : m_is_tuple [.d v, .d (.int n)] = some (.d (.bool (isTup n v)), [.d v, .d (.int n)]) := by
  cases v with
  | dict kvs => rw [okT_dict h]; simp [m_is_tuple, defn, tgIs, isTup]
  | _ => simp [m_is_tuple, defn, tgIs, isTup]
/-- the law's own predicates -/
@[simp] theorem e_law_is_whole {v : PyData} {a b : Int} (h : okT v = true) : m__law_is_whole [.d v, .d (.int a), .d (.int b)] = some (.d (.bool (isIn a b v)), [.d v, .d (.int a), .d (.int b)]) := by
  cases v with
  | int i =>
    simp [m__law_is_whole, defn, tgIs, isIn]
    by_cases h1 : a ≤ i
    · simp [h1]
    · simp [h1, Int.not_le.mp h1]
  | dict kvs => rw [okT_dict h]; simp [m__law_is_whole, defn, tgIs, isIn]
  | _ => simp [m__law_is_whole, defn, tgIs, isIn]
@[simp] theorem e_law_are {v : PyData} {n : Int} (h : okTT v = true) : m__law_are [.d v, .d (.int n)] = some (.d (.bool (areNum n v)), [.d v, .d (.int n)]) := by
  cases v with
  | tuple xs =>
    have h : ∀ x ∈ xs, okT x = true := fun x hx => List.all_eq_true.mp (show xs.all okT = true from h) x hx
    simp [m__law_are, defn, tgIs, areNum]
    by_cases h1 : 1 ≤ xs.length
    · by_cases h2 : xs.length ≤ 12
      · have a1 : (1 : Int) ≤ xs.length := by omega
        have a2 : (xs.length : Int) ≤ 12 := by omega
        have a3 : xs.length < 100000 := by omega
        simp [a1, a2, a3, h1, h2]
        rw [lc_map (fun x => .bool (isIn 0 (n - 1) x)) xs fun x hx => by simp [lcStep, e_law_is_whole (h x hx)]]
        simp [dAll_f, inAll]
      · have a2 : ¬ (xs.length : Int) ≤ 12 := by omega
        have a1 : (1 : Int) ≤ xs.length := by omega
        simp [a1, a2, h2]
    · have a1 : ¬ (1 : Int) ≤ xs.length := by omega
      simp [a1, h1]
  | dict kvs => rw [okT_dict h]; simp [m__law_are, defn, tgIs, areNum]
  | _ => simp [m__law_are, defn, tgIs, areNum]
@[simp] theorem e_law_is_lift {v : PyData} {n : Int} (h : okTT v = true) (hs : short 1000 v = true) (hn : n ≤ 12) : m__law_is_lift [.d v, .d (.int n)] = some (.d (.bool (isLot n v)), [.d v, .d (.int n)]) := by
  cases v with
  | tuple xs =>
    have h : ∀ x ∈ xs, okT x = true := fun x hx => List.all_eq_true.mp (show xs.all okT = true from h) x hx
    have hs : xs.length ≤ 1000 := by simpa [short] using hs
    have h3 : xs.length < 100000 := by omega
    simp [m__law_is_lift, defn, tgIs, isLot, h3]
    rw [lc_map (fun x => .bool (isIn 0 (n - 1) x)) xs fun x hx => by simp [lcStep, e_law_is_whole (h x hx)]]
    have e : xs.all (isIn 0 (n - 1)) = inAll n xs := rfl
    simp [dAll_f, e]
    cases hc : inAll n xs with
    | false => simp
    | true =>
      obtain ⟨ns, rfl, hns⟩ := lot_ints hc
      rw [un_ints]
      have few : (setI ns).length ≤ 12 := setI_few (m := 12) fun k hk => by have := hns k hk; omega
      have l1 : ns.length ≤ 1000 := by simpa using hs
      simp [dSetL_ints l1 (show (setI ns).length < 64 by omega), dEq_ints, rising_set]
  | dict kvs => rw [okT_dict h]; simp [m__law_is_lift, defn, tgIs, isLot]
  | _ => simp [m__law_is_lift, defn, tgIs, isLot]
/-- a loom told by its five parts -/
def loomOk (b c d e : PyData) : Bool := match b with
  | .int s => decide (1 ≤ s ∧ s ≤ 12) && areNum s c && areLifts s d && areNum (match d with
    | .tuple ds => (ds.length : Int)
    | _ => 0) e
  | _ => false
def isLoom : PyData → Bool
  | .tuple [.str a, b, c, d, e] => decide (a = "loom") && loomOk b c d e
  | _ => false
/-- what the predicates are asked of -/
structure Fit5 (a b c d e : PyData) : Prop where
  fb : okT b = true
  fc : okTT c = true
  fd : okL d = true
  fe : okTT e = true
  fa : okT a = true
  fr : ∃ t : Str, dRepr [a] = some (.str t) ∧ (t = "'loom'" ↔ a = .str "loom")
theorem okL_ok {v : PyData} (h : okL v = true) : okT v = true := by
  cases v with
  | tuple xs => rfl
  | _ => exact h
theorem lifts_tuple {n : Int} {d : PyData} (h : areLifts n d = true) : ∃ ds, d = .tuple ds ∧ 1 ≤ ds.length ∧ ds.length ≤ 12 ∧ ds.all (isLot n) = true := by
  cases d with
  | tuple ds => simp [areLifts] at h; exact ⟨ds, rfl, h.1.1, h.1.2, by simpa using h.2⟩
  | _ => cases h
theorem loomOk_no {b c d e : PyData} (h : isIn 1 12 b = false) : loomOk b c d e = false := by
  cases b with
  | int s =>
    simp only [isIn, Bool.and_eq_false_iff, decide_eq_false_iff_not] at h
    simp only [loomOk]
    have : ¬ (1 ≤ s ∧ s ≤ 12) := by omega
    simp [this]
  | _ => rfl
theorem loomOk_yes {s : Int} {c d e : PyData} (h1 : 1 ≤ s) (h2 : s ≤ 12) : loomOk (.int s) c d e = (areNum s c && (areLifts s d && areNum (match d with
    | .tuple ds => (ds.length : Int)
    | _ => 0) e)) := by
  simp [loomOk, h1, h2, Bool.and_assoc]
theorem e_is_loom_value5 {a b c d e : PyData} (f : Fit5 a b c d e) : m_is_loom_value [.d (.tuple [a, b, c, d, e])] = some (.d (.bool (isLoom (.tuple [a, b, c, d, e]))), [.d (.tuple [a, b, c, d, e])]) := by
  obtain ⟨fb, fc, fd, fe, fa, fr⟩ := f
  have ht : isTup 5 (.tuple [a, b, c, d, e]) = true := rfl
  cases a with
  | str x =>
    by_cases hx : x = "loom"
    · subst hx
      cases hi : isIn 1 12 b with
      | false => simp [m_is_loom_value, defn, ht, tgIs, isLoom, fb, hi, loomOk_no hi]
      | true =>
        obtain ⟨s, rfl, h1, h2⟩ := isIn_some hi
        cases h3 : areNum s c with
        | false => simp [m_is_loom_value, defn, ht, tgIs, isLoom, hi, loomOk_yes h1 h2, fc, fd, fe, h3]
        | true =>
          cases h4 : areLifts s d with
          | false => simp [m_is_loom_value, defn, ht, tgIs, isLoom, hi, loomOk_yes h1 h2, fc, fd, fe, h3, h4]
          | true =>
            obtain ⟨ds, rfl, _⟩ := lifts_tuple h4
            simp [m_is_loom_value, defn, ht, tgIs, isLoom, hi, loomOk_yes h1 h2, fc, fd, fe, h3, h4]
    · simp [m_is_loom_value, defn, ht, tgIs, isLoom, hx]
  | dict kvs => rw [okT_dict fa] at ht ⊢; simp [m_is_loom_value, defn, ht, tgIs, isLoom]
  | _ => simp [m_is_loom_value, defn, ht, tgIs, isLoom]
theorem e_law_is_loom5 {a b c d e : PyData} (f : Fit5 a b c d e) : m__law_is_loom [.d (.tuple [a, b, c, d, e])] = some (.d (.bool (isLoom (.tuple [a, b, c, d, e]))), [.d (.tuple [a, b, c, d, e])]) := by
  obtain ⟨fb, fc, fd, fe, fa, t, ht, hi⟩ := f
  by_cases hx : t = "'loom'"
  · have ha := hi.mp hx
    subst ha hx
    cases hi : isIn 1 12 b with
    | false => simp [m__law_is_loom, defn, tgIs, ht, isLoom, fb, hi, loomOk_no hi]
    | true =>
      obtain ⟨s, rfl, h1, h2⟩ := isIn_some hi
      cases h3 : areNum s c with
      | false => simp [m__law_is_loom, defn, ht, tgIs, isLoom, hi, loomOk_yes h1 h2, fc, h3]
      | true =>
        cases d with
        | tuple ds =>
          have fd : ∀ x ∈ ds, okTT x = true ∧ short 1000 x = true := fun x hx => by
            have := List.all_eq_true.mp (show (ds.all fun x => okTT x && short 1000 x) = true from fd) x hx
            simpa using this
          by_cases h4 : 1 ≤ ds.length ∧ ds.length ≤ 12
          · have a1 : (1 : Int) ≤ ds.length := by omega
            have a2 : (ds.length : Int) ≤ 12 := by omega
            have a3 : ds.length < 100000 := by omega
            have hc : lcGo [1] (gsName 1) sYes (sTake (sCall 2 m__law_is_lift (sCons (sVar 1) (sCons (sBin dIx (sVar 0) (sC (.int 1))) sNil)))) ds [.d (.tuple [.str "loom", .int s, c, .tuple ds, e]), .un] =
                some (ds.map fun x => .bool (isLot s x), [.d (.tuple [.str "loom", .int s, c, .tuple ds, e]), .un]) :=
              lc_map (fun x => .bool (isLot s x)) ds fun x hx => by simp [lcStep, (fd x hx).1, (fd x hx).2, h2]
            cases h6 : ds.all (isLot s) with
            | false => simp [m__law_is_loom, defn, ht, tgIs, isLoom, hi, loomOk_yes h1 h2, fc, h3, areLifts, a1, a2, a3, h4, hc, dAll_f, h6]
            | true => simp [m__law_is_loom, defn, ht, tgIs, isLoom, hi, loomOk_yes h1 h2, fc, h3, areLifts, a1, a2, a3, h4, hc, dAll_f, h6, fe]
          · by_cases h5 : 1 ≤ ds.length
            · have a1 : (1 : Int) ≤ ds.length := by omega
              have a2 : ¬ (ds.length : Int) ≤ 12 := by omega
              simp [m__law_is_loom, defn, ht, tgIs, isLoom, hi, loomOk_yes h1 h2, fc, h3, areLifts, a1, a2, h4]
            · have a1 : ¬ (1 : Int) ≤ ds.length := by omega
              simp [m__law_is_loom, defn, ht, tgIs, isLoom, hi, loomOk_yes h1 h2, fc, h3, areLifts, a1, h4]
        | dict kvs => rw [okT_dict (okL_ok fd)]; simp [m__law_is_loom, defn, ht, tgIs, isLoom, hi, loomOk_yes h1 h2, fc, h3, areLifts]
        | _ => simp [m__law_is_loom, defn, ht, tgIs, isLoom, hi, loomOk_yes h1 h2, fc, h3, areLifts]
  · have ha : a ≠ .str "loom" := fun e => hx (hi.mpr e)
    have hno : isLoom (.tuple [a, b, c, d, e]) = false := by
      cases a with
      | str x =>
        have : x ≠ "loom" := fun h => ha (by rw [h])
        simp [isLoom, this]
      | _ => rfl
    simp [m__law_is_loom, defn, tgIs, ht, hx, hno]
end PK85

set_option Elab.async false
set_option linter.all false
set_option maxRecDepth 100000
set_option maxHeartbeats 4000000
namespace PK85
open PySem DL
abbrev tI (ns : List Int) : PyData := .tuple (ns.map .int)
abbrev tT (ts : List (List Int)) : PyData := .tuple (ts.map tI)
abbrev loomD (s : Int) (th : List Int) (ti : List (List Int)) (tr : List Int) : PyData := .tuple [.str "loom", .int s, tI th, tT ti, tI tr]
structure VL (s : Int) (th : List Int) (ti : List (List Int)) (tr : List Int) : Prop where
  s1 : 1 ≤ s
  s2 : s ≤ 12
  th1 : 1 ≤ th.length
  th2 : th.length ≤ 12
  thr : ∀ x ∈ th, 0 ≤ x ∧ x < s
  ti1 : 1 ≤ ti.length
  ti2 : ti.length ≤ 12
  tir : ∀ t ∈ ti, LotI s t
  tr1 : 1 ≤ tr.length
  tr2 : tr.length ≤ 12
  trr : ∀ x ∈ tr, 0 ≤ x ∧ x < ti.length
theorem inAll_ints {n : Int} {ns : List Int} (h : ∀ x ∈ ns, 0 ≤ x ∧ x < n) : inAll n (ns.map .int) = true := by
  unfold inAll
  rw [all_ints, List.all_eq_true]
  intro x hx
  have := h x hx
  simp; omega
theorem areNum_ints {n : Int} {ns : List Int} (h1 : 1 ≤ ns.length) (h2 : ns.length ≤ 12) (h : ∀ x ∈ ns, 0 ≤ x ∧ x < n) : areNum n (tI ns) = true := by
  simp [areNum, inAll_ints h]; omega
theorem isLot_ints {n : Int} {ns : List Int} (h : LotI n ns) : isLot n (tI ns) = true := by
  simp only [isLot, inAll_ints h.2, Bool.true_and]
  rw [un_ints]
  exact (rising_pw ns).mpr h.1
theorem areLifts_lots {n : Int} {ts : List (List Int)} (h1 : 1 ≤ ts.length) (h2 : ts.length ≤ 12) (h : ∀ t ∈ ts, LotI n t) : areLifts n (tT ts) = true := by
  simp only [areLifts, List.length_map, Bool.and_eq_true, decide_eq_true_eq, List.all_eq_true]
  refine ⟨⟨h1, h2⟩, fun x hx => ?_⟩
  obtain ⟨t, ht, rfl⟩ := List.mem_map.mp hx
  exact isLot_ints (h t ht)
variable {s : Int} {th : List Int} {ti : List (List Int)} {tr : List Int}
theorem VL.loomOk (v : VL s th ti tr) : loomOk (.int s) (tI th) (tT ti) (tI tr) = true := by
  rw [loomOk_yes v.s1 v.s2, areNum_ints v.th1 v.th2 v.thr, areLifts_lots v.ti1 v.ti2 v.tir]
  simp only [List.length_map, Bool.true_and]
  exact areNum_ints v.tr1 v.tr2 v.trr
theorem VL.isLoom (v : VL s th ti tr) : isLoom (loomD s th ti tr) = true := by
  simp only [PK85.isLoom, v.loomOk, Bool.and_true, decide_true]
theorem okTs_ints (ns : List Int) : okTs (ns.map .int) = true := by
  unfold okTs
  rw [List.all_eq_true]
  intro x hx
  obtain ⟨i, _, rfl⟩ := List.mem_map.mp hx
  rfl
@[simp] theorem okTT_ints (ns : List Int) : okTT (tI ns) = true := by
  have := okTs_ints ns
  simp only [okTT, this]
theorem okL_lots {ts : List (List Int)} (h : ∀ t ∈ ts, t.length ≤ 1000) : okL (tT ts) = true := by
  simp only [okL, List.all_eq_true]
  intro x hx
  obtain ⟨t, ht, rfl⟩ := List.mem_map.mp hx
  rw [okTT_ints]
  simpa [short] using h t ht
theorem lot_len {m : Nat} {ns : List Int} (h : LotI m ns) : ns.length ≤ m := by
  have := setI_few (m := m) h.2
  rwa [setI_self h.1] at this
theorem lot_len12 {ns : List Int} (h : LotI s ns) (hs : s ≤ 12) : ns.length ≤ 12 := by
  have h' : LotI (12 : Nat) ns := ⟨h.1, fun n hn => by have := h.2 n hn; omega⟩
  exact lot_len h'
theorem repr_loom : dRepr [.str "loom"] = some (.str "'loom'") := by
  show (if reprOk (.str "loom") = true then some (PyData.str (PyData.str "loom").shown) else none) = _
  rw [if_pos (by decide +kernel)]
  exact congrArg (fun x => some (PyData.str x)) (by decide +kernel)
theorem VL.fit5 (v : VL s th ti tr) : Fit5 (.str "loom") (.int s) (tI th) (tT ti) (tI tr) :=
  ⟨rfl, okTT_ints th, okL_lots fun t ht => by have := lot_len12 (v.tir t ht) v.s2; omega, okTT_ints tr, rfl, _, repr_loom, by simp⟩
theorem VL.value (v : VL s th ti tr) : m_is_loom_value [.d (loomD s th ti tr)] = some (.d (.bool true), [.d (loomD s th ti tr)]) := by
  rw [e_is_loom_value5 v.fit5, v.isLoom]
theorem VL.want (v : VL s th ti tr) : m_want_loom [.d (loomD s th ti tr)] = some (.d .none, [.d (loomD s th ti tr)]) := by
  have := v.value
  simp [m_want_loom, defn, this]
/-! ### first ones -/
@[simp] theorem e_by_first_t {xs : List PyData} (hf : ∀ x ∈ xs, fitN 59 x = true) (hl : xs.length < 100000) : m_by_first [.d (.tuple xs)] = some (.own false (byF xs), [.d (.tuple xs)]) := by
  obtain ⟨S', h1, t, h2⟩ := for_inv (gs := gsName 2) (fb := sIf (sTest (sBin dNotIn (sVar 2) (sVar 1))) (sDrop (sMeth 1 mAppend (sCons (sVar 2) sNil))) sNext)
    (fun pre S => ∃ t, S = [.d (.tuple xs), .own false (byF pre), t]) xs xs [] rfl (fun pre x post S he ⟨t, hS⟩ => by
      subst hS
      have hx : fitN 59 x = true := hf x (by rw [← he]; simp)
      have hp : fitN 60 (.list (byF pre)) = true := fit_byF fun y hy => hf y (by rw [← he]; simp [hy])
      have hn : dNotIn x (.list (byF pre)) = some (.bool (!(byF pre).any fun z => PyData.eqv z x)) := by
        unfold dNotIn
        rw [if_pos ⟨fit_mono hx (by omega), hp⟩]; rfl
      have hlen : (byF pre).length < 100000 := by
        have := byF_len pre
        have : pre.length ≤ xs.length := by rw [← he]; simp
        omega
      rw [byF_snoc]
      unfold addF
      cases hc : (byF pre).any fun z => PyData.eqv z x with
      | true => exact ⟨[.d (.tuple xs), .own false (byF pre), .d x], by simp [forStep, hn, hc], .d x, by simp⟩
      | false => exact ⟨[.d (.tuple xs), .own false (byF pre ++ [x]), .d x], by simp [forStep, hn, hc, hlen], .d x, by simp⟩) [.d (.tuple xs), .own false [], .un] ⟨.un, by simp⟩
  subst h2
  simp [m_by_first, defn, h1]
@[simp] theorem e_by_first_l {xs : List PyData} (hf : ∀ x ∈ xs, fitN 59 x = true) (hl : xs.length < 100000) : m_by_first [.d (.list xs)] = some (.own false (byF xs), [.d (.list xs)]) := by
  obtain ⟨S', h1, t, h2⟩ := for_inv (gs := gsName 2) (fb := sIf (sTest (sBin dNotIn (sVar 2) (sVar 1))) (sDrop (sMeth 1 mAppend (sCons (sVar 2) sNil))) sNext)
    (fun pre S => ∃ t, S = [.d (.list xs), .own false (byF pre), t]) xs xs [] rfl (fun pre x post S he ⟨t, hS⟩ => by
      subst hS
      have hx : fitN 59 x = true := hf x (by rw [← he]; simp)
      have hp : fitN 60 (.list (byF pre)) = true := fit_byF fun y hy => hf y (by rw [← he]; simp [hy])
      have hn : dNotIn x (.list (byF pre)) = some (.bool (!(byF pre).any fun z => PyData.eqv z x)) := by
        unfold dNotIn
        rw [if_pos ⟨fit_mono hx (by omega), hp⟩]; rfl
      have hlen : (byF pre).length < 100000 := by
        have := byF_len pre
        have : pre.length ≤ xs.length := by rw [← he]; simp
        omega
      rw [byF_snoc]
      unfold addF
      cases hc : (byF pre).any fun z => PyData.eqv z x with
      | true => exact ⟨[.d (.list xs), .own false (byF pre), .d x], by simp [forStep, hn, hc], .d x, by simp⟩
      | false => exact ⟨[.d (.list xs), .own false (byF pre ++ [x]), .d x], by simp [forStep, hn, hc, hlen], .d x, by simp⟩) [.d (.list xs), .own false [], .un] ⟨.un, by simp⟩
  subst h2
  simp [m_by_first, defn, h1]
theorem e_numbered_aux {v : PyData} {xs : List PyData} (hf : ∀ x ∈ xs, fitN 59 x = true) (x : PyData) (hx : x ∈ xs) : dIndex (.list (byF xs)) x = some (.int ((firstIx x (byF xs)).getD 0 : Nat)) := by
  obtain ⟨j, h1, h2⟩ := firstIx_any (byF_has xs hf x hx)
  have : dIndex (.list (byF xs)) x = if fitN 60 (.list (byF xs)) = true ∧ fitN 60 x = true then (firstIx x (byF xs)).map fun j => .int (j : Nat) else none := rfl
  rw [this, if_pos ⟨fit_byF hf, fit_mono (hf x hx) (by omega)⟩, h1]
  rfl
@[simp] theorem e_numbered_t {xs : List PyData} (hf : ∀ x ∈ xs, fitN 59 x = true) (hl : xs.length < 100000) : m_numbered [.d (.tuple xs)] = some (.d (tI (numb xs)), [.d (.tuple xs)]) := by
  have hc : lcGo [2] (gsName 2) sYes (sTake (sIndex (sVar 1) (sVar 2))) xs [.d (.tuple xs), .d (.list (byF xs)), .un] = some (xs.map fun x => .int ((firstIx x (byF xs)).getD 0 : Nat), [.d (.tuple xs), .d (.list (byF xs)), .un]) :=
    lc_map (fun x => .int ((firstIx x (byF xs)).getD 0 : Nat)) xs fun x hx => by simp [lcStep, e_numbered_aux (v := .none) hf x hx]
  simp [m_numbered, defn, e_by_first_t hf hl, hl, hc, numb]
@[simp] theorem e_numbered_l {xs : List PyData} (hf : ∀ x ∈ xs, fitN 59 x = true) (hl : xs.length < 100000) : m_numbered [.d (.list xs)] = some (.d (tI (numb xs)), [.d (.list xs)]) := by
  have hc : lcGo [2] (gsName 2) sYes (sTake (sIndex (sVar 1) (sVar 2))) xs [.d (.list xs), .d (.list (byF xs)), .un] = some (xs.map fun x => .int ((firstIx x (byF xs)).getD 0 : Nat), [.d (.list xs), .d (.list (byF xs)), .un]) :=
    lc_map (fun x => .int ((firstIx x (byF xs)).getD 0 : Nat)) xs fun x hx => by simp [lcStep, e_numbered_aux (v := .none) hf x hx]
  simp [m_numbered, defn, e_by_first_l hf hl, hl, hc, numb]
theorem fit_int_mem {ns : List Int} : ∀ x ∈ ns.map PyData.int, fitN 59 x = true := fun x hx => by
  obtain ⟨i, _, rfl⟩ := List.mem_map.mp hx
  exact fit_int 59 i
theorem fit_tI_mem {ts : List (List Int)} : ∀ x ∈ ts.map tI, fitN 59 x = true := fun x hx => by
  obtain ⟨i, _, rfl⟩ := List.mem_map.mp hx
  exact fit_intsT 58 i
theorem dIn_ints {x : PyData} (hx : fitN 60 x = true) (ns : List Int) : dIn x (tI ns) = some (.bool ((ns.map PyData.int).any fun z => PyData.eqv z x)) := by
  unfold dIn
  rw [if_pos ⟨hx, fit_intsT 59 ns⟩]; rfl
theorem dNotIn_ints {x : PyData} (hx : fitN 60 x = true) (ns : List Int) : dNotIn x (tI ns) = some (.bool (!(ns.map PyData.int).any fun z => PyData.eqv z x)) := by
  unfold dNotIn
  rw [if_pos ⟨hx, fit_intsT 59 ns⟩]; rfl
/-- a lift by its number -/
theorem lift_at {ti : List (List Int)} {k : Int} (h : 0 ≤ k ∧ k < ti.length) : ∃ t ∈ ti, L2.atI (ti.map tI) k = some (tI t) := by
  obtain ⟨n, rfl⟩ : ∃ n : Nat, k = n := ⟨k.toNat, by omega⟩
  have hn : n < ti.length := by omega
  exact ⟨ti[n], List.getElem_mem hn, by rw [atI_nat']; simp [hn]⟩
variable {s : Int} {th : List Int} {ti : List (List Int)} {tr : List Int}
/-! ### tidied -/
theorem byF_ints (ns : List Int) : ∃ ms : List Int, byF (ns.map PyData.int) = ms.map PyData.int ∧ (∀ m ∈ ms, m ∈ ns) ∧ ms.length ≤ ns.length ∧ (1 ≤ ns.length → 1 ≤ ms.length) := by
  have key : ∀ l : List PyData, (∀ y ∈ l, y ∈ ns.map PyData.int) → ∃ ms : List Int, l = ms.map PyData.int ∧ ∀ m ∈ ms, m ∈ ns := by
    intro l
    induction l with
    | nil => intro _; exact ⟨[], rfl, by simp⟩
    | cons y l ih =>
      intro h
      obtain ⟨i, hi, rfl⟩ := List.mem_map.mp (h y (by simp))
      obtain ⟨ms, rfl, hm⟩ := ih fun z hz => h z (List.mem_cons_of_mem _ hz)
      refine ⟨i :: ms, rfl, fun m hm' => ?_⟩
      rcases List.mem_cons.mp hm' with rfl | hm'
      · exact hi
      · exact hm m hm'
  obtain ⟨ms, h1, h2⟩ := key _ (byF_sub (ns.map PyData.int))
  have h3 := byF_len (ns.map PyData.int)
  rw [h1] at h3
  refine ⟨ms, h1, h2, by simpa using h3, fun h => ?_⟩
  have := byF_ne (n := 59) (xs := ns.map PyData.int) (by cases ns <;> simp at h ⊢) fit_int_mem
  rw [h1] at this
  simpa using this
theorem byF_tI (ns : List (List Int)) : ∃ ms : List (List Int), byF (ns.map tI) = ms.map tI ∧ (∀ m ∈ ms, m ∈ ns) ∧ ms.length ≤ ns.length ∧ (1 ≤ ns.length → 1 ≤ ms.length) := by
  have key : ∀ l : List PyData, (∀ y ∈ l, y ∈ ns.map tI) → ∃ ms : List (List Int), l = ms.map tI ∧ ∀ m ∈ ms, m ∈ ns := by
    intro l
    induction l with
    | nil => intro _; exact ⟨[], rfl, by simp⟩
    | cons y l ih =>
      intro h
      obtain ⟨i, hi, rfl⟩ := List.mem_map.mp (h y (by simp))
      obtain ⟨ms, rfl, hm⟩ := ih fun z hz => h z (List.mem_cons_of_mem _ hz)
      refine ⟨i :: ms, rfl, fun m hm' => ?_⟩
      rcases List.mem_cons.mp hm' with rfl | hm'
      · exact hi
      · exact hm m hm'
  obtain ⟨ms, h1, h2⟩ := key _ (byF_sub (ns.map tI))
  have h3 := byF_len (ns.map tI)
  rw [h1] at h3
  refine ⟨ms, h1, h2, by simpa using h3, fun h => ?_⟩
  have := byF_ne (n := 59) (xs := ns.map tI) (by cases ns <;> simp at h ⊢) fit_tI_mem
  rw [h1] at this
  simpa using this
theorem e_tidied (v : VL s th ti tr) : ∃ s' th' ti' tr', VL s' th' ti' tr' ∧ m_tidied [.d (loomD s th ti tr)] = some (.d (loomD s' th' ti' tr'), [.d (loomD s th ti tr)]) := by
  obtain ⟨sh, hs1, hs2, hs3, hs4⟩ := byF_ints th
  obtain ⟨td, ht1, ht2, ht3, ht4⟩ := byF_ints tr
  have lth : th.length < 100000 := by have := v.th2; omega
  have ltr : tr.length < 100000 := by have := v.tr2; omega
  have lsh : sh.length < 100000 := by have := v.th2; omega
  obtain ⟨S', h1, L, t, h2, h3, h4⟩ := for_inv (gs := gsName 4) (fb := sDrop (sMeth 3 mAppend (sCons (sCB dTuple (sCons (sKeep (sLC [5, 6] (sArgI enumI (sCons (sVar 1) sNil)) (gsTup 2 (gsCons (gsName 5) (gsCons (gsName 6) gsNil))) (sTest (sBin dIn (sVar 6) (sBin dIx (sBin dIx (sVar 0) (sC (.int 3))) (sVar 4)))) (sTake (sVar 5)))) sNil)) sNil)))
    (fun pre S => ∃ (L : List (List Int)) (t : SD), S = [.d (loomD s th ti tr), .d (.list (sh.map .int)), .d (.list (td.map .int)), .own false (L.map tI), t, .un, .un] ∧ L.length = pre.length ∧ ∀ l ∈ L, LotI sh.length l)
    (td.map .int) (td.map .int) [] rfl (fun pre x post S he ⟨L, t, hS, hL, hl⟩ => by
      subst hS
      have hx : x ∈ td.map PyData.int := by rw [← he]; simp
      obtain ⟨k, hk, rfl⟩ := List.mem_map.mp hx
      obtain ⟨lf, hlf, hat⟩ := lift_at (v.trr k (ht2 k hk))
      obtain ⟨ns, n1, n2, n3⟩ := enumF (fun y => (lf.map PyData.int).any fun z => PyData.eqv z y) 0 (sh.map PyData.int)
      have hc : lcGo [5, 6] (gsTup 2 (gsCons (gsName 5) (gsCons (gsName 6) gsNil))) (sTest (sBin dIn (sVar 6) (sBin dIx (sBin dIx (sVar 0) (sC (.int 3))) (sVar 4)))) (sTake (sVar 5)) (enumD 0 (sh.map .int))
          [.d (loomD s th ti tr), .d (.list (sh.map .int)), .d (.list (td.map .int)), .own false (L.map tI), .d (.int k), .un, .un] = some (ns.map .int, [.d (loomD s th ti tr), .d (.list (sh.map .int)), .d (.list (td.map .int)), .own false (L.map tI), .d (.int k), .un, .un]) := by
        rw [← n1]
        refine lc_stable _ _ fun y hy => ?_
        obtain ⟨a, z, rfl, hz, _⟩ := enumD_mem hy
        obtain ⟨j, _, rfl⟩ := List.mem_map.mp hz
        cases hp : (lf.map PyData.int).any fun z => PyData.eqv z (.int j) <;> simp [lcStep, selE, hat, dIn_ints (fit_int 60 j), hp]
      have hle : (enumD 0 (sh.map PyData.int)).length < 100000 := by rw [enumD_len]; simpa using lsh
      have hLl : L.length < 100000 := by
        have : pre.length ≤ (td.map PyData.int).length := by rw [← he]; simp
        simp at this
        have := v.tr2
        omega
      refine ⟨[.d (loomD s th ti tr), .d (.list (sh.map .int)), .d (.list (td.map .int)), .own false ((L ++ [ns]).map tI), .d (.int k), .un, .un], by simp [forStep, hle, hc, hLl], L ++ [ns], _, rfl, by simp [hL], fun l hl' => ?_⟩
      rcases List.mem_append.mp hl' with h | h
      · exact hl l h
      · have : l = ns := by simpa using h
        subst this
        exact ⟨n2, fun n hn => by have := n3 n hn; simp at this; omega⟩) [.d (loomD s th ti tr), .d (.list (sh.map .int)), .d (.list (td.map .int)), .own false [], .un, .un, .un] ⟨[], .un, rfl, rfl, by simp⟩
  subst h2
  refine ⟨sh.length, numb (th.map .int), L, numb (tr.map .int), ⟨?_, ?_, ?_, ?_, ?_, ?_, ?_, ?_, ?_, ?_, ?_⟩, ?_⟩
  · have := hs4 v.th1; omega
  · have := v.th2; omega
  · rw [numb_len]; simpa using v.th1
  · rw [numb_len]; simpa using v.th2
  · intro x hx
    have := numb_rng (n := 59) fit_int_mem x hx
    rw [hs1] at this
    simpa using this
  · rw [h3]; have := ht4 v.tr1; simpa using this
  · rw [h3]; have := v.tr2; simp; omega
  · exact h4
  · rw [numb_len]; simpa using v.tr1
  · rw [numb_len]; simpa using v.tr2
  · intro x hx
    have := numb_rng (n := 59) fit_int_mem x hx
    rw [ht1] at this
    rw [h3]
    simpa using this
  · have w := v.want
    have b1 := e_by_first_t (xs := th.map PyData.int) fit_int_mem (by simpa using lth)
    have b2 := e_by_first_t (xs := tr.map PyData.int) fit_int_mem (by simpa using ltr)
    have b3 := e_numbered_t (xs := th.map PyData.int) fit_int_mem (by simpa using lth)
    have b4 := e_numbered_t (xs := tr.map PyData.int) fit_int_mem (by simpa using ltr)
    rw [hs1] at b1
    rw [ht1] at b2
    simp [m_tidied, m_tidy, defn, w, b1, b2, b3, b4, h1]
/-! ### contrary -/
theorem map_ex {α : Type} {P : α → PyData → Prop} {Q : List Int → Prop} {xs : List α} (f : α → PyData) (h : ∀ x ∈ xs, ∃ ns : List Int, f x = tI ns ∧ Q ns) : ∃ L : List (List Int), xs.map f = L.map tI ∧ ∀ l ∈ L, Q l := by
  induction xs with
  | nil => exact ⟨[], rfl, by simp⟩
  | cons x xs ih =>
    obtain ⟨ns, h1, h2⟩ := h x (by simp)
    obtain ⟨L, h3, h4⟩ := ih fun y hy => h y (List.mem_cons_of_mem _ hy)
    refine ⟨ns :: L, by simp [h1, h3], fun l hl => ?_⟩
    rcases List.mem_cons.mp hl with rfl | hl
    · exact h2
    · exact h4 l hl
theorem e_others0 {s : Int} {xs : List PyData} {lf ns : List Int} (r1 : rngI [.int s] = some xs) (r2 : xs.length < 100000) (hc : lcGo [2] (gsName 2) (sTest (sBin dNotIn (sVar 2) (sVar 1))) (sTake (sVar 2)) xs [.d (.int s), .d (tI lf), .un] = some (ns.map .int, [.d (.int s), .d (tI lf), .un])) : m_others [.d (.int s), .d (tI lf)] = some (.d (tI ns), [.d (.int s), .d (tI lf)]) := by
  simp [m_others, defn, r1, r2, hc]
theorem e_others {s : Int} {lf : List Int} (h1 : 0 ≤ s) (h2 : s ≤ 1000) : ∃ ns, LotI s ns ∧ m_others [.d (.int s), .d (tI lf)] = some (.d (tI ns), [.d (.int s), .d (tI lf)]) := by
  obtain ⟨n, hn⟩ : ∃ n : Nat, s = n := ⟨s.toNat, by omega⟩
  obtain ⟨ns, n1, n2⟩ := rngF (fun k => !(lf.map PyData.int).any fun z => PyData.eqv z (.int k)) n
  have r1 : rngI [.int s] = some (rngD 0 n) := by
    rw [hn]
    exact rngI_n n (by omega)
  have r2 : (rngD 0 n).length < 100000 := by rw [rngD_len]; omega
  rw [← hn] at n2
  refine ⟨ns, n2, e_others0 r1 r2 ?_⟩
  rw [← n1]
  refine lc_stable _ _ fun y hy => ?_
  obtain ⟨i, rfl, _⟩ := rngD_mem hy
  cases hp : (lf.map PyData.int).any fun z => PyData.eqv z (.int i) <;> simp [lcStep, selR, dNotIn_ints (fit_int 60 _), hp]
def othD : Option (SD × List SD) → PyData
  | some (.d y, _) => y
  | _ => .none
theorem e_contrary (v : VL s th ti tr) : ∃ ti', VL s th ti' tr ∧ m_loom_contrary [.d (loomD s th ti tr)] = some (.d (loomD s th ti' tr), [.d (loomD s th ti tr)]) := by
  have ho : ∀ lf : List Int, ∃ ns, LotI s ns ∧ m_others [.d (.int s), .d (tI lf)] = some (.d (tI ns), [.d (.int s), .d (tI lf)]) := fun lf => e_others (by have := v.s1; omega) (by have := v.s2; omega)
  let F : PyData → PyData := fun x => othD (m_others [.d (.int s), .d x])
  have hF : ∀ lf : List Int, ∃ ns, F (tI lf) = tI ns ∧ LotI s ns ∧ m_others [.d (.int s), .d (tI lf)] = some (.d (F (tI lf)), [.d (.int s), .d (tI lf)]) := fun lf => by
    obtain ⟨ns, h1, h2⟩ := ho lf
    have : F (tI lf) = tI ns := by
      show othD (m_others [.d (.int s), .d (tI lf)]) = _
      rw [h2]; rfl
    exact ⟨ns, this, h1, by rw [h2, this]⟩
  obtain ⟨L, hL, hl⟩ := map_ex (P := fun _ _ => True) (Q := LotI s) (xs := ti.map tI) F (fun x hx => by
    obtain ⟨lf, _, rfl⟩ := List.mem_map.mp hx
    obtain ⟨ns, h1, h2, _⟩ := hF lf
    exact ⟨ns, h1, h2⟩)
  have hlen : L.length = ti.length := by have := congrArg List.length hL; simpa using this.symm
  refine ⟨L, ⟨v.s1, v.s2, v.th1, v.th2, v.thr, by rw [hlen]; exact v.ti1, by rw [hlen]; exact v.ti2, hl, v.tr1, v.tr2, by rw [hlen]; exact v.trr⟩, ?_⟩
  have hc : lcGo [1] (gsName 1) sYes (sTake (sCall 2 m_others (sCons (sBin dIx (sVar 0) (sC (.int 1))) (sCons (sVar 1) sNil)))) (ti.map tI) [.d (loomD s th ti tr), .un] = some (L.map tI, [.d (loomD s th ti tr), .un]) := by
    rw [← hL]
    refine lc_map F _ fun x hx => ?_
    obtain ⟨lf, _, rfl⟩ := List.mem_map.mp hx
    obtain ⟨ns, h1, h2, h3⟩ := hF lf
    simp [lcStep, h3]
  have lti : (ti.map tI).length < 100000 := by have := v.ti2; simp; omega
  have ct : cutD [PyData.str "loom", .int s, tI th, tT ti, tI tr] none (some 3) = [.str "loom", .int s, tI th] := cut_to' _ 3 3 rfl
  simp [m_loom_contrary, defn, v.want, ct, hc]
  simp at lti
  simp [lti, hc]
/-! ### quartered -/
theorem e_quartered (v : VL s th ti tr) : ∃ ti', VL ti.length tr.reverse ti' th ∧ m_loom_quartered [.d (loomD s th ti tr)] = some (.d (loomD ti.length tr.reverse ti' th), [.d (loomD s th ti tr)]) := by
  obtain ⟨n, hn⟩ : ∃ n : Nat, s = n := ⟨s.toNat, by have := v.s1; omega⟩
  have n1 := v.s1
  have n2 := v.s2
  obtain ⟨S', h1, L, t, h2, h3, h4⟩ := for_inv (gs := gsName 2) (fb := sDrop (sMeth 1 mAppend (sCons (sCB dTuple (sCons (sKeep (sLC [3, 4] (sArgI enumI (sCons (sBin dIx (sVar 0) (sC (.int 3))) sNil)) (gsTup 2 (gsCons (gsName 3) (gsCons (gsName 4) gsNil))) (sTest (sBin dNotIn (sVar 2) (sVar 4))) (sTake (sVar 3)))) sNil)) sNil)))
    (fun pre S => ∃ (L : List (List Int)) (t : SD), S = [.d (loomD s th ti tr), .own false (L.map tI), t, .un, .un] ∧ L.length = pre.length ∧ ∀ l ∈ L, LotI ti.length l)
    (rngD 0 n) (rngD 0 n) [] rfl (fun pre x post S he ⟨L, t, hS, hL, hl⟩ => by
      subst hS
      have hx : x ∈ rngD 0 n := by rw [← he]; simp
      obtain ⟨k, rfl, hk⟩ := rngD_mem hx
      obtain ⟨ns, q1, q2, q3⟩ := enumF (fun y => match y with
        | .tuple zs => !zs.any fun z => PyData.eqv z (.int k)
        | _ => false) 0 (ti.map tI)
      have hc : lcGo [3, 4] (gsTup 2 (gsCons (gsName 3) (gsCons (gsName 4) gsNil))) (sTest (sBin dNotIn (sVar 2) (sVar 4))) (sTake (sVar 3)) (enumD 0 (ti.map tI))
          [.d (loomD s th ti tr), .own false (L.map tI), .d (.int k), .un, .un] = some (ns.map .int, [.d (loomD s th ti tr), .own false (L.map tI), .d (.int k), .un, .un]) := by
        rw [← q1]
        refine lc_stable _ _ fun y hy => ?_
        obtain ⟨a, z, rfl, hz, _⟩ := enumD_mem hy
        obtain ⟨lf, _, rfl⟩ := List.mem_map.mp hz
        cases hp : (lf.map PyData.int).any fun z => PyData.eqv z (.int k) <;> simp [lcStep, selE, dNotIn_ints (fit_int 60 _), hp]
      have hle : (enumD 0 (ti.map tI)).length < 100000 := by rw [enumD_len]; have := v.ti2; simp; omega
      have hLl : L.length < 100000 := by
        have : pre.length ≤ (rngD 0 n).length := by rw [← he]; simp
        rw [rngD_len] at this
        omega
      refine ⟨[.d (loomD s th ti tr), .own false ((L ++ [ns]).map tI), .d (.int k), .un, .un], by simp [forStep, hle, hc, hLl], L ++ [ns], _, rfl, by simp [hL], fun l hl' => ?_⟩
      rcases List.mem_append.mp hl' with h | h
      · exact hl l h
      · have : l = ns := by simpa using h
        subst this
        exact ⟨q2, fun n hn => by have := q3 n hn; simp at this; omega⟩) [.d (loomD s th ti tr), .own false [], .un, .un, .un] ⟨[], .un, rfl, rfl, by simp⟩
  subst h2
  rw [rngD_len] at h3
  refine ⟨L, ⟨?_, ?_, ?_, ?_, ?_, ?_, ?_, h4, v.th1, v.th2, ?_⟩, ?_⟩
  · have := v.ti1; omega
  · have := v.ti2; omega
  · simpa using v.tr1
  · simpa using v.tr2
  · intro x hx; exact v.trr x (by simpa using hx)
  · rw [h3]; omega
  · rw [h3]; omega
  · intro x hx; have := v.thr x hx; rw [h3]; omega
  · have r1 : rngI [.int s] = some (rngD 0 n) := by
      rw [hn]
      exact rngI_n n (by omega)
    simp [m_loom_quartered, defn, v.want, r1, h1]
/-! ### the lift plan -/
theorem e_lift_plan (v : VL s th ti tr) : ∃ pl : List (List Int), 1 ≤ pl.length ∧ pl.length ≤ 12 ∧ (∀ l ∈ pl, LotI s l) ∧ m_lift_plan [.d (loomD s th ti tr)] = some (.d (tT pl), [.d (loomD s th ti tr)]) := by
  have hat : ∀ k ∈ tr, ∃ t ∈ ti, L2.atI (ti.map tI) k = some (tI t) := fun k hk => lift_at (v.trr k hk)
  let F : PyData → PyData := fun x => match x with
    | .int k => (L2.atI (ti.map tI) k).getD .none
    | _ => .none
  obtain ⟨L, hL, hl⟩ := map_ex (P := fun _ _ => True) (Q := LotI s) (xs := tr.map PyData.int) F (fun x hx => by
    obtain ⟨k, hk, rfl⟩ := List.mem_map.mp hx
    obtain ⟨t, h1, h2⟩ := hat k hk
    exact ⟨t, by simp [F, h2], v.tir t h1⟩)
  have hlen : L.length = tr.length := by have := congrArg List.length hL; simpa using this.symm
  refine ⟨L, by rw [hlen]; exact v.tr1, by rw [hlen]; exact v.tr2, hl, ?_⟩
  have hc : lcGo [1] (gsName 1) sYes (sTake (sBin dIx (sBin dIx (sVar 0) (sC (.int 3))) (sVar 1))) (tr.map .int) [.d (loomD s th ti tr), .un] = some (L.map tI, [.d (loomD s th ti tr), .un]) := by
    rw [← hL]
    refine lc_map F _ fun x hx => ?_
    obtain ⟨k, hk, rfl⟩ := List.mem_map.mp hx
    obtain ⟨t, h1, h2⟩ := hat k hk
    simp [lcStep, F, h2]
  have ltr : tr.length < 100000 := by have := v.tr2; omega
  simp [m_lift_plan, m_plan_of, defn, v.want, ltr, hc]
theorem e_by_lift_plan {pl : List (List Int)} (s1 : 1 ≤ s) (s2 : s ≤ 12) (th1 : 1 ≤ th.length) (th2 : th.length ≤ 12) (thr : ∀ x ∈ th, 0 ≤ x ∧ x < s) (p1 : 1 ≤ pl.length) (p2 : pl.length ≤ 12) (pr : ∀ l ∈ pl, LotI s l) :
    ∃ ti' tr', VL s th ti' tr' ∧ m_by_lift_plan [.d (.int s), .d (tI th), .d (tT pl)] = some (.d (loomD s th ti' tr'), [.d (.int s), .d (tI th), .d (tT pl)]) := by
  obtain ⟨ms, b1, b2, b3, b4⟩ := byF_tI pl
  refine ⟨ms, numb (pl.map tI), ⟨s1, s2, th1, th2, thr, b4 p1, by omega, fun t ht => pr t (b2 t ht), by rw [numb_len]; simpa using p1, by rw [numb_len]; simpa using p2, fun x hx => ?_⟩, ?_⟩
  · have := numb_rng (n := 59) fit_tI_mem x hx
    rw [b1] at this
    simpa using this
  · have lpl : (pl.map tI).length < 100000 := by simp; omega
    have c1 := e_by_first_t (xs := pl.map tI) fit_tI_mem lpl
    have c2 := e_numbered_t (xs := pl.map tI) fit_tI_mem lpl
    rw [b1] at c1
    have hi : isIn 1 12 (.int s) = true := by simp [isIn, s1, s2]
    have a1 := areNum_ints th1 th2 thr
    have a2 := areLifts_lots p1 p2 pr
    have okl : okL (tT pl) = true := okL_lots fun t ht => by have := lot_len12 (pr t ht) s2; omega
    simp [m_by_lift_plan, m_want_most, defn, hi, a1, a2, okl, c1, c2]
end PK85

set_option Elab.async false
set_option linter.all false
set_option maxRecDepth 100000
set_option maxHeartbeats 4000000
namespace PK85
open PySem DL
theorem ixN_0 : L2.ixN 2 0 = some 0 := by decide
theorem ixN_1 : L2.ixN 2 1 = some 1 := by decide
theorem cdiv {i n : Int} (h1 : 0 < n) (h2 : n < 1000000) : L2.CDiv i n := ⟨h1, by omega⟩
abbrev P (a b : Int) : SD := .own true [.int a, .int b]
theorem e_draw (a b n : Int) (h1 : 0 < n) (h2 : n < 1000) : ∃ r a' b', m__law_draw [P a b, .d (.int n)] = some (.d (.int r), [P a' b', .d (.int n)]) ∧ 0 ≤ r ∧ r < n := by
  have c1 : L2.CDiv a n := cdiv h1 (by omega)
  have c2 : L2.CMul b 39373 := .inr ⟨by decide, by decide⟩
  generalize hb : (b * 39373 + 1103) % 2147483587 = b'
  have hb1 : 0 ≤ b' ∧ b' < 2147483587 := by
    rw [← hb]
    exact ⟨Int.emod_nonneg _ (by decide), Int.emod_lt_of_pos _ (by decide)⟩
  have c3 : L2.CMul b' b' := .inl ⟨by omega, by omega⟩
  have c4 : L2.CDiv (b' * b' % 2147483563) 19 := cdiv (by decide) (by decide)
  by_cases ha : 0 < a
  · refine ⟨a % n, a / n, b, ?_, Int.emod_nonneg _ (by omega), Int.emod_lt_of_pos _ h1⟩
    simp [m__law_draw, defn, ha, c1, ixN_0]
  · refine ⟨_, a, b', ?_, Int.emod_nonneg (b' * b' % 2147483563 / 19) (by omega), Int.emod_lt_of_pos (b' * b' % 2147483563 / 19) h1⟩
    simp [m__law_draw, defn, ha, c2, hb, ixN_1, c3, c4, h1]
/-- ints out of data -/
theorem ints_R {lo hi : Int} {ys : List PyData} (h : ∀ y ∈ ys, ∃ k, y = .int k ∧ lo ≤ k ∧ k < hi) : ∃ ns : List Int, ys = ns.map .int ∧ ∀ k ∈ ns, lo ≤ k ∧ k < hi := by
  induction ys with
  | nil => exact ⟨[], rfl, by simp⟩
  | cons y ys ih =>
    obtain ⟨k, rfl, hk⟩ := h y (by simp)
    obtain ⟨ns, rfl, hn⟩ := ih fun z hz => h z (List.mem_cons_of_mem _ hz)
    refine ⟨k :: ns, rfl, fun m hm => ?_⟩
    rcases List.mem_cons.mp hm with rfl | hm
    · exact hk
    · exact hn m hm
theorem lots_R {s : Int} {ys : List PyData} (h : ∀ y ∈ ys, ∃ ns, y = tI ns ∧ LotI s ns) : ∃ L : List (List Int), ys = L.map tI ∧ ∀ l ∈ L, LotI s l := by
  induction ys with
  | nil => exact ⟨[], rfl, by simp⟩
  | cons y ys ih =>
    obtain ⟨k, rfl, hk⟩ := h y (by simp)
    obtain ⟨ns, rfl, hn⟩ := ih fun z hz => h z (List.mem_cons_of_mem _ hz)
    refine ⟨k :: ns, rfl, fun m hm => ?_⟩
    rcases List.mem_cons.mp hm with rfl | hm
    · exact hk
    · exact hn m hm
theorem sub_lot {s : Int} {n : Nat} (hs : s = n) {ys : List PyData} (h : ys.Sublist (rngD 0 n)) : ∃ ns, ys = ns.map PyData.int ∧ LotI s ns := by
  have e : rngD 0 n = ((List.range n).map fun (i : Nat) => (i : Int)).map PyData.int := by simp [rngD]
  rw [e] at h
  obtain ⟨ns, h1, h2⟩ := List.sublist_map_iff.mp h
  refine ⟨ns, h2, ?_, fun k hk => ?_⟩
  · refine List.Pairwise.sublist h1 ?_
    rw [List.pairwise_map]
    exact List.pairwise_lt_range.imp fun h => by omega
  · obtain ⟨i, hi, rfl⟩ := List.mem_map.mp (h1.subset hk)
    have := List.mem_range.mp hi
    omega
section
variable {s t : Int}
theorem c_threading (hs : 0 < s) (hs2 : s < 1000) (r : List SD) (xs : List PyData) (a b : Int) (hr : r = [.un, .un, .un]) : ∃ ns a' b', lcGo [7] (gsName 7) sYes (sTake (sCall 2 m__law_draw (sCons (sVar 0) (sCons (sVar 2) sNil)))) xs [P a b, .d (.int 5), .d (.int s), .d (.int t), .un, .un, .un, .un, .un, .un, .un] =
    some (List.map PyData.int ns, [P a' b', .d (.int 5), .d (.int s), .d (.int t), .un, .un, .un, .un, .un, .un, .un]) ∧ ns.length = xs.length ∧ ∀ k ∈ ns, 0 ≤ k ∧ k < s := by
  obtain ⟨ys, S', h1, ⟨a', b', rfl⟩, h3, h4⟩ := lc_inv (vs := [7]) (gs := gsName 7) (fc := sYes) (fd := sTake (sCall 2 m__law_draw (sCons (sVar 0) (sCons (sVar 2) sNil)))) (fun S => ∃ a b, S = [P a b, .d (.int 5), .d (.int s), .d (.int t), .un, .un, .un, .un, .un, .un, .un]) (fun y => ∃ k, y = .int k ∧ 0 ≤ k ∧ k < s) xs
    (fun x _ S ⟨a, b, hS⟩ => by
      subst hS
      obtain ⟨r, a', b', d1, d2, d3⟩ := e_draw a b s hs hs2
      exact ⟨.int r, [P a' b', .d (.int 5), .d (.int s), .d (.int t), .un, .un, .un, .un, .un, .un, .un], by simp [lcStep, d1], ⟨a', b', rfl⟩, r, rfl, d2, d3⟩) [P a b, .d (.int 5), .d (.int s), .d (.int t), .un, .un, .un, .un, .un, .un, .un] ⟨a, b, rfl⟩
  obtain ⟨ns, rfl, hn⟩ := ints_R h4
  exact ⟨ns, a', b', h1, by simpa using h3, hn⟩
theorem c_treadling (ht : 0 < t) (ht2 : t < 1000) (th ti : PyData) (xs : List PyData) (a b : Int) : ∃ ns a' b', lcGo [9] (gsName 9) sYes (sTake (sCall 2 m__law_draw (sCons (sVar 0) (sCons (sVar 3) sNil)))) xs [P a b, .d (.int 5), .d (.int s), .d (.int t), .d th, .d ti, .un, .un, .un, .un, .un] =
    some (List.map PyData.int ns, [P a' b', .d (.int 5), .d (.int s), .d (.int t), .d th, .d ti, .un, .un, .un, .un, .un]) ∧ ns.length = xs.length ∧ ∀ k ∈ ns, 0 ≤ k ∧ k < t := by
  obtain ⟨ys, S', h1, ⟨a', b', rfl⟩, h3, h4⟩ := lc_inv (vs := [9]) (gs := gsName 9) (fc := sYes) (fd := sTake (sCall 2 m__law_draw (sCons (sVar 0) (sCons (sVar 3) sNil)))) (fun S => ∃ a b, S = [P a b, .d (.int 5), .d (.int s), .d (.int t), .d th, .d ti, .un, .un, .un, .un, .un]) (fun y => ∃ k, y = .int k ∧ 0 ≤ k ∧ k < t) xs
    (fun x _ S ⟨a, b, hS⟩ => by
      subst hS
      obtain ⟨r, a', b', d1, d2, d3⟩ := e_draw a b t ht ht2
      exact ⟨.int r, [P a' b', .d (.int 5), .d (.int s), .d (.int t), .d th, .d ti, .un, .un, .un, .un, .un], by simp [lcStep, d1], ⟨a', b', rfl⟩, r, rfl, d2, d3⟩) [P a b, .d (.int 5), .d (.int s), .d (.int t), .d th, .d ti, .un, .un, .un, .un, .un] ⟨a, b, rfl⟩
  obtain ⟨ns, rfl, hn⟩ := ints_R h4
  exact ⟨ns, a', b', h1, by simpa using h3, hn⟩
theorem c_tie (th d : PyData) (xs : List PyData) (a b : Int) : ∃ ys a' b', lcGo [10] (gsName 10) (sTest (sBin dEq (sCall 2 m__law_draw (sCons (sVar 0) (sCons (sC (.int 2)) sNil))) (sC (.int 0)))) (sTake (sVar 10)) xs [P a b, .d (.int 5), .d (.int s), .d (.int t), .d th, .un, .un, .un, .d d, .un, .un] =
    some (ys, [P a' b', .d (.int 5), .d (.int s), .d (.int t), .d th, .un, .un, .un, .d d, .un, .un]) ∧ ys.Sublist xs := by
  obtain ⟨ys, S', h1, ⟨a', b', rfl⟩, h3⟩ := lc_invF (vs := [10]) (gs := gsName 10) (fc := sTest (sBin dEq (sCall 2 m__law_draw (sCons (sVar 0) (sCons (sC (.int 2)) sNil))) (sC (.int 0)))) (fd := sTake (sVar 10)) (fun S => ∃ a b, S = [P a b, .d (.int 5), .d (.int s), .d (.int t), .d th, .un, .un, .un, .d d, .un, .un]) xs id
    (fun x _ S ⟨a, b, hS⟩ => by
      subst hS
      obtain ⟨r, a', b', d1, d2, d3⟩ := e_draw a b 2 (by decide) (by decide)
      refine ⟨decide (r = 0), [P a' b', .d (.int 5), .d (.int s), .d (.int t), .d th, .un, .un, .un, .d d, .un, .un], ?_, a', b', rfl⟩
      by_cases hr : r = 0 <;> simp [lcStep, d1, hr]) [P a b, .d (.int 5), .d (.int s), .d (.int t), .d th, .un, .un, .un, .d d, .un, .un] ⟨a, b, rfl⟩
  exact ⟨ys, a', b', by simpa using h1, h3⟩
theorem c_ties {n : Nat} (hs : s = n) (hn : n ≤ 100) (th : PyData) (xs : List PyData) (a b : Int) : ∃ L a' b', lcGo [8] (gsName 8) sYes (sTake (sCB dTuple (sCons (sKeep (sLC [10] (sArgI rngI (sCons (sVar 2) sNil)) (gsName 10) (sTest (sBin dEq (sCall 2 m__law_draw (sCons (sVar 0) (sCons (sC (.int 2)) sNil))) (sC (.int 0)))) (sTake (sVar 10)))) sNil))) xs [P a b, .d (.int 5), .d (.int s), .d (.int t), .d th, .un, .un, .un, .un, .un, .un] =
    some (List.map tI L, [P a' b', .d (.int 5), .d (.int s), .d (.int t), .d th, .un, .un, .un, .un, .un, .un]) ∧ L.length = xs.length ∧ ∀ l ∈ L, LotI s l := by
  have r1 : rngI [.int s] = some (rngD 0 n) := by rw [hs]; exact rngI_n n (by omega)
  have r2 : (rngD 0 n).length < 100000 := by rw [rngD_len]; omega
  obtain ⟨zs, hz⟩ : ∃ zs, zs = rngD 0 n := ⟨_, rfl⟩
  rw [← hz] at r1 r2
  obtain ⟨ys, S', h1, ⟨a', b', rfl⟩, h3, h4⟩ := lc_inv (vs := [8]) (gs := gsName 8) (fc := sYes) (fd := sTake (sCB dTuple (sCons (sKeep (sLC [10] (sArgI rngI (sCons (sVar 2) sNil)) (gsName 10) (sTest (sBin dEq (sCall 2 m__law_draw (sCons (sVar 0) (sCons (sC (.int 2)) sNil))) (sC (.int 0)))) (sTake (sVar 10)))) sNil)))
    (fun S => ∃ a b, S = [P a b, .d (.int 5), .d (.int s), .d (.int t), .d th, .un, .un, .un, .un, .un, .un]) (fun y => ∃ ns, y = tI ns ∧ LotI s ns) xs
    (fun x _ S ⟨a, b, hS⟩ => by
      subst hS
      obtain ⟨ys, a', b', q1, q2⟩ := c_tie (s := s) (t := t) th x zs a b
      rw [hz] at q2
      obtain ⟨ns, q3, q4⟩ := sub_lot hs q2
      subst q3
      exact ⟨tI ns, [P a' b', .d (.int 5), .d (.int s), .d (.int t), .d th, .un, .un, .un, .un, .un, .un], by simp [lcStep, r1, r2, q1], ⟨a', b', rfl⟩, ns, rfl, q4⟩) [P a b, .d (.int 5), .d (.int s), .d (.int t), .d th, .un, .un, .un, .un, .un, .un] ⟨a, b, rfl⟩
  obtain ⟨L, rfl, hL⟩ := lots_R h4
  exact ⟨L, a', b', h1, by simpa using h3, hL⟩
end
theorem e_law_loom (a b : Int) : ∃ s th ti tr a' b', VL s th ti tr ∧ m__law_loom [P a b, .d (.int 5)] = some (.d (loomD s th ti tr), [P a' b', .d (.int 5)]) := by
  obtain ⟨r1, a1, b1, d1, x1, y1⟩ := e_draw a b 5 (by decide) (by decide)
  obtain ⟨r2, a2, b2, d2, x2, y2⟩ := e_draw a1 b1 5 (by decide) (by decide)
  obtain ⟨r3, a3, b3, d3, x3, y3⟩ := e_draw a2 b2 7 (by decide) (by decide)
  obtain ⟨s, hs⟩ : ∃ s, s = 1 + r1 := ⟨_, rfl⟩
  obtain ⟨t, ht⟩ : ∃ t, t = 1 + r2 := ⟨_, rfl⟩
  obtain ⟨w, hw⟩ : ∃ w, w = 1 + r3 := ⟨_, rfl⟩
  obtain ⟨ws, hws⟩ : ∃ ws, ws = rngD 0 w.toNat := ⟨_, rfl⟩
  obtain ⟨ts, hts⟩ : ∃ ts, ts = rngD 0 t.toNat := ⟨_, rfl⟩
  have g1 : rngI [.int w] = some ws := by rw [hws]; exact rngI_ok (by omega) (by omega)
  have g2 : rngI [.int t] = some ts := by rw [hts]; exact rngI_ok (by omega) (by omega)
  have l1 : ws.length = w.toNat := by rw [hws, rngD_len]
  have l2 : ts.length = t.toNat := by rw [hts, rngD_len]
  have l1' : ws.length < 100000 := by omega
  have l2' : ts.length < 100000 := by omega
  obtain ⟨th, a4, b4, c1, c2, c3⟩ := c_threading (s := s) (t := t) (by omega) (by omega) [.un, .un, .un] ws a3 b3 rfl
  obtain ⟨ti, a5, b5, c4, c5, c6⟩ := c_ties (s := s) (t := t) (n := s.toNat) (by omega) (by omega) (tI th) ts a4 b4
  obtain ⟨r4, a6, b6, d4, x4, y4⟩ := e_draw a5 b5 7 (by decide) (by decide)
  obtain ⟨v, hv⟩ : ∃ v, v = 1 + r4 := ⟨_, rfl⟩
  obtain ⟨vs, hvs⟩ : ∃ vs, vs = rngD 0 v.toNat := ⟨_, rfl⟩
  have g3 : rngI [.int v] = some vs := by rw [hvs]; exact rngI_ok (by omega) (by omega)
  have l3 : vs.length = v.toNat := by rw [hvs, rngD_len]
  have l3' : vs.length < 100000 := by omega
  obtain ⟨tr, a7, b7, c7, c8, c9⟩ := c_treadling (s := s) (t := t) (by omega) (by omega) (tI th) (tT ti) vs a6 b6
  refine ⟨s, th, ti, tr, a7, b7, ⟨by omega, by omega, by omega, by omega, c3, by omega, by omega, c6, by omega, by omega, fun x hx => by have := c9 x hx; omega⟩, ?_⟩
  simp [m__law_loom, defn, d1, d2, d3, d4, ← hs, ← ht, ← hw, ← hv, g1, g2, g3, l1', l2', l3', c1, c4, c7]
end PK85

set_option Elab.async false
set_option linter.all false
set_option maxRecDepth 100000
set_option maxHeartbeats 4000000
namespace PK85
open PySem DL
variable {s : Int} {th : List Int} {ti : List (List Int)} {tr : List Int} {rows : List (List Int)} {n : Nat}
abbrev draftD (rows : List (List Int)) : PyData := .tuple [.str "draft", tT rows]
structure VD (rows : List (List Int)) (n : Nat) : Prop where
  r1 : 1 ≤ rows.length
  r2 : rows.length ≤ 12
  n1 : 1 ≤ n
  n2 : n ≤ 12
  len : ∀ r ∈ rows, r.length = n
  bit : ∀ r ∈ rows, ∀ x ∈ r, 0 ≤ x ∧ x < 2
theorem e_woven (v : VL s th ti tr) : ∃ rows, VD rows th.length ∧ m__law_woven [.d (loomD s th ti tr)] = some (.d (draftD rows), [.d (loomD s th ti tr)]) := by
  obtain ⟨S', h1, L, t, h2, h3, h4⟩ := for_inv (gs := gsName 2) (fb := sDrop (sMeth 1 mAppend (sCons (sCB dTuple (sCons (sKeep (sLC [3] (sSeqI (sTake (sBin dIx (sVar 0) (sC (.int 2))))) (gsName 3) sYes (sTake (sIf (sTest (sBin dIn (sVar 3) (sBin dIx (sBin dIx (sVar 0) (sC (.int 3))) (sVar 2)))) (sC (.int 1)) (sC (.int 0)))))) sNil)) sNil)))
    (fun pre S => ∃ (L : List (List Int)) (t : SD), S = [.d (loomD s th ti tr), .own false (L.map tI), t, .un] ∧ L.length = pre.length ∧ ∀ l ∈ L, l.length = th.length ∧ ∀ x ∈ l, 0 ≤ x ∧ x < 2)
    (tr.map .int) (tr.map .int) [] rfl (fun pre x post S he ⟨L, t, hS, hL, hl⟩ => by
      subst hS
      have hx : x ∈ tr.map PyData.int := by rw [← he]; simp
      obtain ⟨k, hk, rfl⟩ := List.mem_map.mp hx
      obtain ⟨lf, hlf, hat⟩ := lift_at (v.trr k hk)
      have hc : lcGo [3] (gsName 3) sYes (sTake (sIf (sTest (sBin dIn (sVar 3) (sBin dIx (sBin dIx (sVar 0) (sC (.int 3))) (sVar 2)))) (sC (.int 1)) (sC (.int 0)))) (th.map .int)
          [.d (loomD s th ti tr), .own false (L.map tI), .d (.int k), .un] = some ((th.map fun j => if ((lf.map PyData.int).any fun z => PyData.eqv z (.int j)) = true then (1 : Int) else 0).map .int, [.d (loomD s th ti tr), .own false (L.map tI), .d (.int k), .un]) := by
        rw [List.map_map]
        have e := lc_map (vs := [3]) (gs := gsName 3) (fc := sYes) (fd := sTake (sIf (sTest (sBin dIn (sVar 3) (sBin dIx (sBin dIx (sVar 0) (sC (.int 3))) (sVar 2)))) (sC (.int 1)) (sC (.int 0)))) (S := [.d (loomD s th ti tr), .own false (L.map tI), .d (.int k), .un])
          (fun y => if ((lf.map PyData.int).any fun z => PyData.eqv z y) = true then .int 1 else .int 0) (th.map .int) (fun y hy => by
            obtain ⟨j, _, rfl⟩ := List.mem_map.mp hy
            cases hp : (lf.map PyData.int).any fun z => PyData.eqv z (.int j) <;> simp [lcStep, hat, dIn_ints (fit_int 60 j), hp])
        rw [e, List.map_map]
        congr 2
        apply List.map_congr_left
        intro j _
        simp only [Function.comp]
        split <;> rfl
      have lth : th.length < 100000 := by have := v.th2; omega
      have hLl : L.length < 100000 := by
        have : pre.length ≤ (tr.map PyData.int).length := by rw [← he]; simp
        simp at this
        have := v.tr2
        omega
      generalize hR : (th.map fun j => if ((lf.map PyData.int).any fun z => PyData.eqv z (.int j)) = true then (1 : Int) else 0) = R at hc
      refine ⟨[.d (loomD s th ti tr), .own false ((L ++ [R]).map tI), .d (.int k), .un], by simp [forStep, lth, hc, hLl], L ++ [R], _, rfl, by simp [hL], fun l hl' => ?_⟩
      rcases List.mem_append.mp hl' with h | h
      · exact hl l h
      · have : l = R := by simpa using h
        subst this
        subst hR
        refine ⟨by simp, fun x hx => ?_⟩
        obtain ⟨j, _, rfl⟩ := List.mem_map.mp hx
        split <;> omega) [.d (loomD s th ti tr), .own false [], .un, .un] ⟨[], .un, rfl, rfl, by simp⟩
  subst h2
  have lt : L.length = tr.length := by rw [h3]; simp
  refine ⟨L, ⟨by rw [lt]; exact v.tr1, by rw [lt]; exact v.tr2, v.th1, v.th2, fun r hr => (h4 r hr).1, fun r hr => (h4 r hr).2⟩, ?_⟩
  simp [m__law_woven, defn, h1]
/-! ### a draft's loom -/
theorem e_is_headed {a c : PyData} {w : Str} : m_is_headed [.d (.tuple [.str w, c]), .d (.str w)] = some (.d (.bool true), [.d (.tuple [.str w, c]), .d (.str w)]) := by
  have ht : isTup 2 (.tuple [.str w, c]) = true := rfl
  simp [m_is_headed, defn, ht, tgIs]
theorem VD.rows_of (v : VD rows n) : m_are_rows_of [.d (tT rows), .d (.int 2)] = some (.d (.bool true), [.d (tT rows), .d (.int 2)]) := by
  obtain ⟨r0, rs, rfl⟩ : ∃ r0 rs, rows = r0 :: rs := by
    cases rows with
    | nil => have := v.r1; simp at this
    | cons r0 rs => exact ⟨r0, rs, rfl⟩
  have a1 : (1 : Int) ≤ ((r0 :: rs).map tI).length := by simp; omega
  have a2 : (((r0 :: rs).map tI).length : Int) ≤ 12 := by have := v.r2; simp at this ⊢; omega
  have a3 : ((r0 :: rs).map tI).length < 100000 := by have := v.r2; simp at this ⊢; omega
  have hn : r0.length = n := v.len r0 (by simp)
  have b1 : (1 : Int) ≤ r0.length := by have := v.n1; omega
  have b2 : (r0.length : Int) ≤ 12 := by have := v.n2; omega
  have at0 : L2.atI ((r0 :: rs).map tI) 0 = some (tI r0) := by simp
  generalize hX : (r0 :: rs).map tI = X at a1 a2 a3 at0
  have hX' : ∀ x ∈ X, ∃ Y, x = .tuple Y ∧ Y.length = n ∧ Y.all (isIn 0 1) = true ∧ ∀ y ∈ Y, okT y = true := fun x hx => by
    rw [← hX] at hx
    obtain ⟨r, hr, rfl⟩ := List.mem_map.mp hx
    refine ⟨r.map .int, rfl, by simpa using v.len r hr, ?_, fun y hy => ?_⟩
    · rw [all_ints, List.all_eq_true]
      intro y hy
      have := v.bit r hr y hy
      simp; omega
    · obtain ⟨k, _, rfl⟩ := List.mem_map.mp hy
      simp
  have c1 : lcGo [2] (gsName 2) sYes (sTake (sIsi .tuple (sVar 2))) X [.d (.tuple X), .d (.int 2), .un, .un] = some (X.map fun x => .bool (isTup n x), [.d (.tuple X), .d (.int 2), .un, .un]) :=
    lc_map _ X fun x hx => by
      obtain ⟨Y, rfl, h1, _⟩ := hX' x hx
      simp [lcStep, tgIs, isTup, h1]
  have c2 : lcGo [2] (gsName 2) sYes (sTake (sBin dNe (sCB dLen (sCons (sVar 2) sNil)) (sCB dLen (sCons (sBin dIx (sVar 0) (sC (.int 0))) sNil)))) X [.d (.tuple X), .d (.int 2), .un, .un] = some (X.map fun x => .bool (!isTup n x), [.d (.tuple X), .d (.int 2), .un, .un]) :=
    lc_map _ X fun x hx => by
      obtain ⟨Y, rfl, h1, _⟩ := hX' x hx
      simp [lcStep, isTup, h1, at0, hn]
  have c3 : lcGo [2] (gsName 2) sYes (sTake (sCB dAll (sCons (sKeep (sLC [3] (sSeqI (sTake (sVar 2))) (gsName 3) sYes (sTake (sCall 3 m_is_within (sCons (sVar 3) (sCons (sC (.int 0)) (sCons (sBin dSub (sVar 1) (sC (.int 1))) sNil))))))) sNil))) X [.d (.tuple X), .d (.int 2), .un, .un] = some (X.map fun x => .bool (isTup n x), [.d (.tuple X), .d (.int 2), .un, .un]) :=
    lc_map _ X fun x hx => by
      obtain ⟨Y, rfl, h1, h2, h3⟩ := hX' x hx
      have l1 : Y.length < 100000 := by have := v.n2; omega
      have d1 : lcGo [3] (gsName 3) sYes (sTake (sCall 3 m_is_within (sCons (sVar 3) (sCons (sC (.int 0)) (sCons (sBin dSub (sVar 1) (sC (.int 1))) sNil))))) Y [.d (.tuple X), .d (.int 2), .d (.tuple Y), .un] = some (Y.map fun x => .bool (isIn 0 1 x), [.d (.tuple X), .d (.int 2), .d (.tuple Y), .un]) :=
        lc_map _ _ fun y hy => by simp [lcStep, h3 y hy]
      have d3 := dAll_f (isIn 0 1) Y
      rw [h2] at d3
      have d4 : isTup n (.tuple Y) = true := by simp [isTup, h1]
      simp [lcStep, l1, d1, d3, d4]
  have e1 : X.all (isTup n) = true := by
    rw [List.all_eq_true]
    intro x hx
    obtain ⟨Y, rfl, h1, _⟩ := hX' x hx
    simp [isTup, h1]
  have e2 : X.any (fun x => !isTup n x) = false := by
    rw [List.any_eq_false]
    intro x hx
    obtain ⟨Y, rfl, h1, _⟩ := hX' x hx
    simp [isTup, h1]
  have f1 := dAll_f (isTup n) X
  have f2 := dAny_f (fun x => !isTup n x) X
  rw [e1] at f1
  rw [e2] at f2
  show m_are_rows_of [.d (.tuple ((r0 :: rs).map tI)), .d (.int 2)] = some (.d (.bool true), [.d (.tuple ((r0 :: rs).map tI)), .d (.int 2)])
  rw [hX]
  simp [m_are_rows_of, defn, tgIs, a1, a2, a3, c1, c2, c3, f1, f2, at0, b1, b2]
theorem VD.want (v : VD rows n) : m_want_draft [.d (draftD rows)] = some (.d .none, [.d (draftD rows)]) := by
  have h1 := v.rows_of
  have h2 := e_is_headed (a := .none) (c := tT rows) (w := "draft")
  show m_want_draft [.d (.tuple [.str "draft", tT rows])] = some (.d .none, [.d (.tuple [.str "draft", tT rows])])
  generalize tT rows = T at h1 h2 ⊢
  simp [m_want_draft, m_is_draft_value, defn, h1, h2]
theorem e_columns_of (v : VD rows n) : ∃ cols : List (List Int), cols.length = n ∧ m_columns_of [.d (draftD rows)] = some (.own false (cols.map tI), [.d (draftD rows)]) := by
  obtain ⟨r0, rs, rfl⟩ : ∃ r0 rs, rows = r0 :: rs := by
    cases rows with
    | nil => have := v.r1; simp at this
    | cons r0 rs => exact ⟨r0, rs, rfl⟩
  have hn : r0.length = n := v.len r0 (by simp)
  have n2 := v.n2
  have r2 := v.r2
  have at0 : L2.atI ((r0 :: rs).map tI) 0 = some (tI r0) := by simp
  have hW : m_many_warps [.d (draftD (r0 :: rs))] = some (.d (.int n), [.d (draftD (r0 :: rs))]) := by
    simp [m_many_warps, defn, hn]
  have hb : ∀ r ∈ r0 :: rs, ∀ k : Nat, k < n → ∃ z : Int, L2.atI (r.map PyData.int) (k : Int) = some (.int z) := fun r hr k hk => by
    have hl := v.len r hr
    rw [atI_nat']
    refine ⟨r[k]'(by omega), ?_⟩
    simp [show k < r.length by omega]
  obtain ⟨w, hw⟩ : ∃ w : Int, w = n := ⟨_, rfl⟩
  obtain ⟨ws, hws⟩ : ∃ ws, ws = rngD 0 n := ⟨_, rfl⟩
  have g1 : rngI [.int w] = some ws := by rw [hw, hws]; exact rngI_n n (by omega)
  have l1 : ws.length = n := by rw [hws, rngD_len]
  have l1' : ws.length < 100000 := by omega
  rw [← hw] at hW
  have lX : ((r0 :: rs).map tI).length < 100000 := by simp at r2 ⊢; omega
  generalize hX : (r0 :: rs).map tI = X at lX
  have hX' : ∀ x ∈ X, ∃ Y, x = .tuple Y ∧ ∀ k : Nat, k < n → ∃ z : Int, L2.atI Y (k : Int) = some (.int z) := fun x hx => by
    rw [← hX] at hx
    obtain ⟨r, hr, rfl⟩ := List.mem_map.mp hx
    exact ⟨r.map .int, rfl, hb r hr⟩
  have hD : (draftD (r0 :: rs)) = .tuple [.str "draft", .tuple X] := by rw [← hX]
  rw [hD] at hW ⊢
  let F : PyData → PyData := fun k => .tuple (X.map fun x => ((dIx x k).getD .none))
  have hF : ∀ k : Nat, k < n → ∃ ns : List Int, F (.int k) = tI ns := fun k hk => by
    have : ∀ l : List PyData, (∀ x ∈ l, x ∈ X) → ∃ ns : List Int, (l.map fun x => ((dIx x (.int k)).getD .none)) = ns.map PyData.int := by
      intro l
      induction l with
      | nil => intro _; exact ⟨[], rfl⟩
      | cons x l ih =>
        intro h
        obtain ⟨ns, h1⟩ := ih fun y hy => h y (List.mem_cons_of_mem _ hy)
        obtain ⟨Y, rfl, h2⟩ := hX' x (h x (by simp))
        obtain ⟨z, h3⟩ := h2 k hk
        exact ⟨z :: ns, by simp [h1, h3]⟩
    obtain ⟨ns, h1⟩ := this X fun x hx => hx
    exact ⟨ns, by simp only [F, h1]⟩
  obtain ⟨L, hL, _⟩ := map_ex (P := fun _ _ => True) (Q := fun _ => True) (xs := ws) F (fun x hx => by
    rw [hws] at hx
    obtain ⟨k, rfl, hk⟩ := rngD_mem hx
    obtain ⟨ns, h1⟩ := hF k hk
    exact ⟨ns, h1, trivial⟩)
  have c1 : lcGo [1] (gsName 1) sYes (sTake (sCB dTuple (sCons (sKeep (sLC [2] (sSeqI (sTake (sBin dIx (sVar 0) (sC (.int 1))))) (gsName 2) sYes (sTake (sBin dIx (sVar 2) (sVar 1))))) sNil))) ws [.d (.tuple [.str "draft", .tuple X]), .un, .un] = some (L.map tI, [.d (.tuple [.str "draft", .tuple X]), .un, .un]) := by
    rw [← hL]
    refine lc_map F _ fun y hy => ?_
    rw [hws] at hy
    obtain ⟨k, rfl, hk⟩ := rngD_mem hy
    have c2 : lcGo [2] (gsName 2) sYes (sTake (sBin dIx (sVar 2) (sVar 1))) X [.d (.tuple [.str "draft", .tuple X]), .d (.int k), .un] = some (X.map fun x => ((dIx x (.int k)).getD .none), [.d (.tuple [.str "draft", .tuple X]), .d (.int k), .un]) :=
      lc_map _ X fun x hx => by
        obtain ⟨Y, rfl, h2⟩ := hX' x hx
        obtain ⟨z, h3⟩ := h2 k hk
        simp [lcStep, h3]
    simp [lcStep, lX, c2, F]
  refine ⟨L, by have := congrArg List.length hL; simp at this; omega, ?_⟩
  simp [m_columns_of, defn, hW, g1, l1', c1]
def pOne (Y : List PyData) (y : PyData) : Bool := match dIx (.tuple Y) y with
  | some (.int z) => decide (z = 1)
  | _ => false
theorem e_loom_of (v : VD rows n) : ∃ s' th' ti' tr', VL s' th' ti' tr' ∧ m_loom_of [.d (draftD rows)] = some (.d (loomD s' th' ti' tr'), [.d (draftD rows)]) := by
  obtain ⟨cols, k1, k2⟩ := e_columns_of v
  obtain ⟨cs, a1, a2, a3, a4⟩ := byF_tI cols
  obtain ⟨rs, b1, b2, b3, b4⟩ := byF_tI rows
  have n1 := v.n1
  have n2 := v.n2
  have r1 := v.r1
  have r2 := v.r2
  have lc : (cols.map tI).length < 100000 := by simp; omega
  have lr : (rows.map tI).length < 100000 := by simp; omega
  have lcs : (cs.map tI).length < 100000 := by simp; omega
  have w := v.want
  have c1 := e_by_first_l (xs := cols.map tI) fit_tI_mem lc
  have c2 := e_numbered_l (xs := cols.map tI) fit_tI_mem lc
  have c3 := e_by_first_l (xs := rows.map tI) fit_tI_mem lr
  have c4 := e_numbered_l (xs := rows.map tI) fit_tI_mem lr
  rw [a1] at c1
  rw [b1] at c3
  have rc := numb_rng (n := 59) (xs := cols.map tI) fit_tI_mem
  have rr := numb_rng (n := 59) (xs := rows.map tI) fit_tI_mem
  rw [a1] at rc
  rw [b1] at rr
  -- the places of the first columns
  have fx : ∀ x ∈ cs.map tI, ∃ j : Nat, dIndex (.list (cols.map tI)) x = some (.int j) ∧ j < cols.length := fun x hx => by
    obtain ⟨c, hc, rfl⟩ := List.mem_map.mp hx
    have hm : tI c ∈ cols.map tI := List.mem_map.mpr ⟨c, a2 c hc, rfl⟩
    have hany : (cols.map tI).any (fun z => PyData.eqv z (tI c)) = true := List.any_eq_true.mpr ⟨tI c, hm, fit_self (fit_tI_mem (ts := cols) _ hm)⟩
    obtain ⟨j, h1, h2⟩ := firstIx_any hany
    refine ⟨j, ?_, by simpa using h2⟩
    have e : dIndex (.list (cols.map tI)) (tI c) = if fitN 60 (.list (cols.map tI)) = true ∧ fitN 60 (tI c) = true then (firstIx (tI c) (cols.map tI)).map fun j => .int (j : Nat) else none := rfl
    have hfit : fitN 60 (.list (cols.map tI)) = true := by
      rw [fit_list, List.all_eq_true]
      exact fun x hx => fit_tI_mem x hx
    rw [e, if_pos ⟨hfit, fit_intsT 59 c⟩, h1]
    rfl
  obtain ⟨fs, hfs⟩ : ∃ fs, fs = (cs.map tI).map fun x => (dIndex (.list (cols.map tI)) x).getD .none := ⟨_, rfl⟩
  have hfl : fs.length = cs.length := by rw [hfs]; simp
  have hfm : ∀ y ∈ fs, ∃ j : Nat, y = .int j ∧ j < n := fun y hy => by
    rw [hfs] at hy
    obtain ⟨x, hx, rfl⟩ := List.mem_map.mp hy
    obtain ⟨j, h1, h2⟩ := fx x hx
    exact ⟨j, by rw [h1]; rfl, by omega⟩
  have lf : fs.length < 100000 := by omega
  have hat : ∀ r ∈ rows, ∀ k : Nat, k < n → ∃ z : Int, L2.atI (r.map PyData.int) (k : Int) = some (.int z) := fun r hr k hk => by
    have hl := v.len r hr
    rw [atI_nat']
    refine ⟨r[k]'(by omega), ?_⟩
    simp [show k < r.length by omega]
  have cF : lcGo [6] (gsName 6) sYes (sTake (sIndex (sVar 1) (sVar 6))) (cs.map tI) [.d (draftD rows), .d (.list (cols.map tI)), .d (.list (rows.map tI)), .un, .un, .un, .un, .un, .un] = some (fs, [.d (draftD rows), .d (.list (cols.map tI)), .d (.list (rows.map tI)), .un, .un, .un, .un, .un, .un]) := by
    rw [hfs]
    refine lc_map (fun x => (dIndex (.list (cols.map tI)) x).getD .none) _ fun x hx => ?_
    obtain ⟨j, h1, _⟩ := fx x hx
    simp [lcStep, h1]
  obtain ⟨S', h1, L, t, h2, h3, h4⟩ := for_inv (gs := gsName 5) (fb := sDrop (sMeth 4 mAppend (sCons (sCB dTuple (sCons (sKeep (sLC [7, 8] (sArgI enumI (sCons (sVar 3) sNil)) (gsTup 2 (gsCons (gsName 7) (gsCons (gsName 8) gsNil))) (sTest (sBin dEq (sBin dIx (sVar 5) (sVar 8)) (sC (.int 1)))) (sTake (sVar 7)))) sNil)) sNil)))
    (fun pre S => ∃ (L : List (List Int)) (t : SD), S = [.d (draftD rows), .d (.list (cols.map tI)), .d (.list (rows.map tI)), .d (.list fs), .own false (L.map tI), t, .un, .un, .un] ∧ L.length = pre.length ∧ ∀ l ∈ L, LotI fs.length l)
    (rs.map tI) (rs.map tI) [] rfl (fun pre x post S he ⟨L, t, hS, hL, hl⟩ => by
      subst hS
      have hx : x ∈ rs.map tI := by rw [← he]; simp
      obtain ⟨r, hr, rfl⟩ := List.mem_map.mp hx
      have hr' := hat r (b2 r hr)
      obtain ⟨ns, q1, q2, q3⟩ := enumF (pOne (r.map .int)) 0 fs
      have hc : lcGo [7, 8] (gsTup 2 (gsCons (gsName 7) (gsCons (gsName 8) gsNil))) (sTest (sBin dEq (sBin dIx (sVar 5) (sVar 8)) (sC (.int 1)))) (sTake (sVar 7)) (enumD 0 fs)
          [.d (draftD rows), .d (.list (cols.map tI)), .d (.list (rows.map tI)), .d (.list fs), .own false (L.map tI), .d (tI r), .un, .un, .un] = some (ns.map .int, [.d (draftD rows), .d (.list (cols.map tI)), .d (.list (rows.map tI)), .d (.list fs), .own false (L.map tI), .d (tI r), .un, .un, .un]) := by
        rw [← q1]
        refine lc_stable _ _ fun y hy => ?_
        obtain ⟨a, z, rfl, hz, _⟩ := enumD_mem hy
        obtain ⟨j, rfl, hj⟩ := hfm z hz
        obtain ⟨u, hu⟩ := hr' j hj
        by_cases h1 : u = 1 <;> simp [lcStep, selE, pOne, hu, h1]
      have hle : (enumD 0 fs).length < 100000 := by rw [enumD_len]; exact lf
      have hLl : L.length < 100000 := by
        have : pre.length ≤ (rs.map tI).length := by rw [← he]; simp
        simp at this
        omega
      refine ⟨[.d (draftD rows), .d (.list (cols.map tI)), .d (.list (rows.map tI)), .d (.list fs), .own false ((L ++ [ns]).map tI), .d (tI r), .un, .un, .un], by simp [forStep, hle, hc, hLl], L ++ [ns], _, rfl, by simp [hL], fun l hl' => ?_⟩
      rcases List.mem_append.mp hl' with h | h
      · exact hl l h
      · have : l = ns := by simpa using h
        subst this
        exact ⟨q2, fun n hn => by have := q3 n hn; omega⟩) [.d (draftD rows), .d (.list (cols.map tI)), .d (.list (rows.map tI)), .d (.list fs), .own false [], .un, .un, .un, .un] ⟨[], .un, rfl, rfl, by simp⟩
  subst h2
  have hLr : L.length = rs.length := by rw [h3]; simp
  refine ⟨fs.length, numb (cols.map tI), L, numb (rows.map tI), ⟨?_, ?_, ?_, ?_, ?_, ?_, ?_, h4, ?_, ?_, ?_⟩, ?_⟩
  · have := a4 (by omega); omega
  · omega
  · rw [numb_len]; simp; omega
  · rw [numb_len]; simp; omega
  · intro x hx
    have := rc x hx
    rw [hfl]
    simpa using this
  · have := b4 r1; omega
  · omega
  · rw [numb_len]; simpa using r1
  · rw [numb_len]; simpa using r2
  · intro x hx
    have := rr x hx
    rw [hLr]
    simpa using this
  · simp [m_loom_of, m_told_loom, defn, w, k2, c1, c2, c3, c4, show cs.length < 100000 by omega, cF, h1]
end PK85

set_option Elab.async false
set_option linter.all false
set_option maxRecDepth 100000
set_option maxHeartbeats 4000000
namespace PK85
open PySem DL
variable {s : Int} {th : List Int} {ti : List (List Int)} {tr : List Int}
structure Val (v : PyData) : Prop where
  rep : reprOk v = true
  a : m_is_loom [.d v] = some (.d (.bool (isLoom v)), [.d v])
  b : m__law_is_loom [.d v] = some (.d (.bool (isLoom v)), [.d v])
theorem val5 {a b c d e : PyData} (f : Fit5 a b c d e) (h : reprOk (.tuple [a, b, c, d, e]) = true) : Val (.tuple [a, b, c, d, e]) :=
  ⟨h, by simp [m_is_loom, defn, e_is_loom_value5 f], e_law_is_loom5 f⟩
def notFive : PyData → Bool
  | .tuple xs => xs.length != 5
  | _ => true
theorem notFive_no {v : PyData} (h : notFive v = true) : isLoom v = false := by
  unfold isLoom
  split
  · simp [notFive] at h
  · rfl
theorem val_not {v : PyData} (h0 : okT v = true) (h : notFive v = true) (hr : reprOk v = true) : Val v := by
  have hn := notFive_no h
  refine ⟨hr, ?_, ?_⟩
  · have ht : isTup 5 v = false := by
      cases v with
      | tuple xs => simp [notFive] at h; simp [isTup]; omega
      | _ => rfl
    simp [m_is_loom, m_is_loom_value, defn, h0, ht, hn]
  · cases v with
    | tuple xs =>
      have hl : ¬ ((xs.length : Int) = 5) := by simp [notFive] at h; omega
      simp [m__law_is_loom, defn, tgIs, hl, hn]
    | dict kvs => rw [okT_dict h0]; simp [m__law_is_loom, defn, tgIs, isLoom]
    | _ => simp [m__law_is_loom, defn, tgIs, isLoom]
theorem e_pick (a b : Int) {xs : List PyData} (h1 : 1 ≤ xs.length) (h2 : xs.length < 1000) : ∃ x a' b', m__law_pick [P a b, .d (.list xs)] = some (.d x, [P a' b', .d (.list xs)]) ∧ x ∈ xs := by
  obtain ⟨r, a', b', d1, d2, d3⟩ := e_draw a b xs.length (by omega) (by omega)
  obtain ⟨n, rfl⟩ : ∃ n : Nat, r = n := ⟨r.toNat, by omega⟩
  have hn : n < xs.length := by omega
  have hat : L2.atI xs (n : Int) = some xs[n] := by rw [atI_nat']; simp [hn]
  refine ⟨xs[n], a', b', ?_, List.getElem_mem hn⟩
  simp [m__law_pick, defn, d1, hat]
/-- what a bent row is -/
def Bent (n w : Nat) (ys : List PyData) (x : PyData) : Prop := x = .none ∨ ∃ zs, (x = .list zs ∨ x = .tuple zs) ∧ zs.length ≤ 200 ∧ (∀ z ∈ zs, z ∈ ys ∨ (okTT z = true ∧ short 1000 z = true)) ∧ G n (13 * w + 40) zs
theorem cut_toN (xs : List PyData) {k : Int} {n : Nat} (h : k = n) : cutD xs none (some k) = xs.take n := by rw [h]; exact cut_to xs n
theorem cut_fromN (xs : List PyData) {k : Int} {n : Nat} (h : k = n) : cutD xs (some k) none = xs.drop n := by rw [h]; exact cut_from xs n
theorem e_bent_row {n w : Nat} (a b : Int) {ys : List PyData} (hl : ys.length ≤ 12) (hG : G n w ys) (hn : 1 ≤ n) : ∃ x a' b', m__law_bent_row [P a b, .d (.tuple ys)] = some (.d x, [P a' b', .d (.tuple ys)]) ∧ Bent n w ys x := by
  obtain ⟨r, a1, b1, d1, d2, d3⟩ := e_draw a b (ys.length + 1) (by omega) (by omega)
  obtain ⟨k, hk⟩ : ∃ k : Nat, r = k := ⟨r.toNat, by omega⟩
  have ct := cut_toN ys hk
  have cf := cut_fromN ys hk
  have cf1 : cutD ys (some (r + 1)) none = ys.drop (k + 1) := cut_fromN ys (by omega)
  obtain ⟨odd, a2, b2, p1, p2⟩ := e_pick a1 b1 (xs := [.none, .bool true, .int (-1), .int 0, .int 1, .int 11, .int 12, .str "0", .tuple [], .tuple [.int 0], .list [.int 0]]) (by simp) (by simp)
  have hodd : okTT odd = true ∧ short 1000 odd = true ∧ G n 40 [odd] := by
    have key : okTT odd = true ∧ short 1000 odd = true ∧ okR odd = true ∧ DL.wt odd ≤ 38 ∧ odd.depth ≤ 1 := by
      simp only [List.mem_cons, List.not_mem_nil, or_false] at p2
      rcases p2 with h | h | h | h | h | h | h | h | h | h | h <;> subst h <;> refine ⟨by decide +kernel, by decide +kernel, by decide +kernel, by decide +kernel, by decide +kernel⟩
    exact ⟨key.1, key.2.1, .one key.2.2.1 (by omega) (by omega)⟩
  have lt : (ys.take k).length ≤ 12 := by rw [List.length_take]; omega
  have ld : (ys.drop k).length ≤ 12 := by rw [List.length_drop]; omega
  have ld1 : (ys.drop (k + 1)).length ≤ 12 := by rw [List.length_drop]; omega
  obtain ⟨A, hA⟩ : ∃ A, A = ys.take k := ⟨_, rfl⟩
  obtain ⟨B, hB⟩ : ∃ B, B = ys.drop k := ⟨_, rfl⟩
  obtain ⟨C, hC⟩ : ∃ C, C = ys.drop (k + 1) := ⟨_, rfl⟩
  rw [← hA] at ct lt
  rw [← hB] at cf ld
  rw [← hC] at cf1 ld1
  have sA : ∀ z ∈ A, z ∈ ys := fun z hz => by rw [hA] at hz; exact List.mem_of_mem_take hz
  have sB : ∀ z ∈ B, z ∈ ys := fun z hz => by rw [hB] at hz; exact List.mem_of_mem_drop hz
  have sC : ∀ z ∈ C, z ∈ ys := fun z hz => by rw [hC] at hz; exact List.mem_of_mem_drop hz
  have gA : G n w A := hA ▸ hG.take k
  have gB : G n w B := hB ▸ hG.drop k
  have gC : G n w C := hC ▸ hG.drop (k + 1)
  have rl : ((List.replicate 13 ys).flatten).length ≤ 156 := by rw [rep_len 0 13 ys]; omega
  obtain ⟨D, hD⟩ : ∃ D, D = (List.replicate 13 ys).flatten := ⟨_, rfl⟩
  have hM : dMulX (.tuple ys) (.int 13) = some (.tuple D) := by
    rw [dMulX_t, if_pos ⟨by decide, by decide, by omega⟩, hD]; rfl
  have sD : ∀ z ∈ D, z ∈ ys := fun z hz => by
    rw [hD] at hz
    obtain ⟨l, h1, h2⟩ := List.mem_flatten.mp hz
    rw [List.eq_of_mem_replicate h1] at h2
    exact h2
  have gD : G n (13 * w) D := hD ▸ hG.rep 13
  obtain ⟨x, a3, b3, q1, q2⟩ := e_pick a2 b2 (xs := [.tuple (A ++ [odd] ++ B), .tuple (A ++ [odd] ++ C), .tuple (A ++ C), .list ys, .tuple (ys ++ ys), .tuple D, .tuple [], .none, .tuple ys.reverse]) (by simp) (by simp)
  refine ⟨x, a3, b3, ?_, ?_⟩
  · have l1 : A.length + 1 ≤ 100000 := by omega
    have l2 : A.length + 1 + B.length ≤ 100000 := by omega
    have l3 : A.length + 1 + C.length ≤ 100000 := by omega
    have l4 : A.length + C.length ≤ 100000 := by omega
    have l5 : ys.length + ys.length ≤ 100000 := by omega
    simp at p1 q1
    simp [m__law_bent_row, defn, d1, p1, ct, cf, cf1, l1, l2, l3, l4, l5, hM, q1]
  · have tup : ∀ zs : List PyData, zs.length ≤ 200 → (∀ z ∈ zs, z ∈ ys ∨ z = odd) → G n (13 * w + 40) zs → Bent n w ys (.tuple zs) := fun zs h1 h2 h3 => .inr ⟨zs, .inr rfl, h1, fun z hz => (h2 z hz).imp id fun e => by rw [e]; exact ⟨hodd.1, hodd.2.1⟩, h3⟩
    have gO := hodd.2.2
    simp only [List.mem_cons, List.not_mem_nil, or_false] at q2
    rcases q2 with h | h | h | h | h | h | h | h | h <;> subst h
    · refine tup _ (by simp; omega) (fun z hz => ?_) (((gA.append gO).append gB).mono (Nat.le_refl _) (by omega))
      rcases List.mem_append.mp hz with hz | hz
      · rcases List.mem_append.mp hz with hz | hz
        · exact .inl (sA z hz)
        · exact .inr (by simpa using hz)
      · exact .inl (sB z hz)
    · refine tup _ (by simp; omega) (fun z hz => ?_) (((gA.append gO).append gC).mono (Nat.le_refl _) (by omega))
      rcases List.mem_append.mp hz with hz | hz
      · rcases List.mem_append.mp hz with hz | hz
        · exact .inl (sA z hz)
        · exact .inr (by simpa using hz)
      · exact .inl (sC z hz)
    · refine tup _ (by simp; omega) (fun z hz => ?_) ((gA.append gC).mono (Nat.le_refl _) (by omega))
      rcases List.mem_append.mp hz with hz | hz
      · exact .inl (sA z hz)
      · exact .inl (sC z hz)
    · exact .inr ⟨ys, .inl rfl, by omega, fun z hz => .inl hz, hG.mono (Nat.le_refl _) (by omega)⟩
    · refine tup _ (by simp; omega) (fun z hz => ?_) ((hG.append hG).mono (Nat.le_refl _) (by omega))
      rcases List.mem_append.mp hz with hz | hz
      · exact .inl hz
      · exact .inl hz
    · exact tup _ (by rw [hD]; omega) (fun z hz => .inl (sD z hz)) (gD.mono (Nat.le_refl _) (by omega))
    · exact tup _ (by simp) (by simp) .nil
    · exact .inl rfl
    · exact tup _ (by simp; omega) (fun z hz => .inl (by simpa using hz)) (hG.reverse.mono (Nat.le_refl _) (by omega))
/-! ### a bent loom -/
theorem bent_ok {n w : Nat} {ys : List PyData} {x : PyData} (h : Bent n w ys x) (hn : 1 ≤ n) : okR x = true ∧ DL.wt x ≤ 13 * w + 50 ∧ x.depth ≤ n + 1 ∧ okT x = true ∧ short 1000 x = true := by
  rcases h with h | ⟨zs, h1, h2, h3, h4⟩
  · subst h; refine ⟨by decide, ?_, ?_, by decide, by decide⟩
    · have : DL.wt .none = 4 := by decide
      omega
    · have : PyData.depth .none = 0 := by decide
      omega
  · rcases h1 with h | h <;> subst h
    · exact ⟨h4.list.1, by have := h4.list.2.1; omega, h4.list.2.2, okT_l zs, rfl⟩
    · exact ⟨h4.tuple.1, by have := h4.tuple.2.1; omega, h4.tuple.2.2, okT_t zs, by simp [short]; omega⟩
theorem okTT_okT {z : PyData} (h : okTT z = true) : okT z = true := okTT_ok h
theorem bent_TT {n w : Nat} {ys : List PyData} {x : PyData} (h : Bent n w ys x) (hy : ∀ y ∈ ys, okT y = true) : okTT x = true := by
  rcases h with h | ⟨zs, h1, h2, h3, h4⟩
  · subst h; rfl
  · rcases h1 with h | h <;> subst h
    · exact okT_l zs
    · show zs.all okT = true
      rw [List.all_eq_true]
      intro z hz
      rcases h3 z hz with h | h
      · exact hy z h
      · exact okTT_ok h.1
theorem bent_L {n w : Nat} {ys : List PyData} {x : PyData} (h : Bent n w ys x) (hy : ∀ y ∈ ys, okTT y = true ∧ short 1000 y = true) : okL x = true := by
  rcases h with h | ⟨zs, h1, h2, h3, h4⟩
  · subst h; rfl
  · rcases h1 with h | h <;> subst h
    · exact okT_l zs
    · show (zs.all fun x => okTT x && short 1000 x) = true
      rw [List.all_eq_true]
      intro z hz
      rcases h3 z hz with h | h
      · have := hy z h; rw [this.1, this.2]; rfl
      · rw [h.1, h.2]; rfl
theorem gI {ns : List Int} {m : Int} (h : ∀ x ∈ ns, 0 ≤ x ∧ x < m) (hm : m ≤ 12) (hl : ns.length ≤ 12) : G 0 276 (ns.map .int) := (G.ints fun k hk => by have := h k hk; omega).mono (Nat.le_refl _) (by omega)
theorem gT {ts : List (List Int)} (h : ∀ t ∈ ts, LotI s t) (hs : s ≤ 12) (hl : ts.length ≤ 12) : G 1 3372 (ts.map tI) := by
  have key : ∀ l : List (List Int), (∀ t ∈ l, LotI s t) → G 1 (281 * l.length) (l.map tI) := by
    intro l
    induction l with
    | nil => intro _; exact .nil
    | cons t l ih =>
      intro h
      have ht := h t (by simp)
      have g := (gI ht.2 hs (lot_len12 ht hs)).tuple
      have := (G.one (n := 1) (w := 281) g.1 (by omega) (by omega)).append (ih fun z hz => h z (List.mem_cons_of_mem _ hz))
      simp only [List.map_cons, List.length_cons]
      exact this.mono (Nat.le_refl _) (by omega)
  exact (key ts h).mono (Nat.le_refl _) (by omega)
/-- five parts, each in bounds -/
theorem g5 {a b c d e : PyData} (ha : okR a = true ∧ DL.wt a ≤ 50000 ∧ a.depth ≤ 3) (hb : okR b = true ∧ DL.wt b ≤ 50000 ∧ b.depth ≤ 3) (hc : okR c = true ∧ DL.wt c ≤ 50000 ∧ c.depth ≤ 3) (hd : okR d = true ∧ DL.wt d ≤ 50000 ∧ d.depth ≤ 3) (he : okR e = true ∧ DL.wt e ≤ 50000 ∧ e.depth ≤ 3) :
    G 3 250010 [a, b, c, d, e] := by
  refine ⟨by simp only [okRL, ha.1, hb.1, hc.1, hd.1, he.1, Bool.and_self], by simp only [wtL]; omega, fun x hx => ?_⟩
  simp only [List.mem_cons, List.not_mem_nil, or_false] at hx
  rcases hx with h | h | h | h | h <;> subst h
  · exact ha.2.2
  · exact hb.2.2
  · exact hc.2.2
  · exact hd.2.2
  · exact he.2.2
abbrev In3 (x : PyData) : Prop := okR x = true ∧ DL.wt x ≤ 50000 ∧ x.depth ≤ 3
theorem reprT {n w : Nat} {xs : List PyData} (g : G n w xs) (hn : n ≤ 50) (hw : w ≤ 900000) : reprOk (.tuple xs) = true := reprOk_of g.tuple.1 (by have := g.tuple.2.1; omega) (by have := g.tuple.2.2; omega)
theorem reprL {n w : Nat} {xs : List PyData} (g : G n w xs) (hn : n ≤ 50) (hw : w ≤ 900000) : reprOk (.list xs) = true := reprOk_of g.list.1 (by have := g.list.2.1; omega) (by have := g.list.2.2; omega)
/-- what a bent loom is good for -/
theorem in_bent {n w : Nat} {ys : List PyData} {x : PyData} (h : Bent n w ys x) (hn : 1 ≤ n) (hn2 : n ≤ 2) (hw : w ≤ 3800) : In3 x := by
  have := bent_ok h hn
  exact ⟨this.1, by omega, by omega⟩
theorem VL.in3 (v : VL s th ti tr) : In3 (.str "loom") ∧ In3 (.int s) ∧ In3 (tI th) ∧ In3 (tT ti) ∧ In3 (tI tr) := by
  have g1 := (gI v.thr v.s2 v.th2).tuple
  have g2 := (gT v.tir v.s2 v.ti2).tuple
  have g3 := (gI (m := ti.length) v.trr (by have := v.ti2; omega) v.tr2).tuple
  refine ⟨⟨by decide, by decide +kernel, by decide⟩, ⟨?_, ?_, ?_⟩, ⟨g1.1, Nat.le_trans g1.2.1 (by decide), Nat.le_trans g1.2.2 (by decide)⟩, ⟨g2.1, Nat.le_trans g2.2.1 (by decide), Nat.le_trans g2.2.2 (by decide)⟩, ⟨g3.1, Nat.le_trans g3.2.1 (by decide), Nat.le_trans g3.2.2 (by decide)⟩⟩
  · have := v.s1; have := v.s2; simp only [okR, decide_eq_true_eq]; omega
  · simp only [DL.wt]; omega
  · simp only [PyData.depth]; omega
end PK85

set_option Elab.async false
set_option linter.all false
set_option maxRecDepth 100000
set_option maxHeartbeats 4000000
namespace PK85
open PySem DL
variable {s : Int} {th : List Int} {ti : List (List Int)} {tr : List Int}
theorem tail_val {a b c d e odd : PyData} (k : Nat) (hk : k < 5) (hL : G 3 250010 [a, b, c, d, e])
    (hv : Val (.tuple ([a, b, c, d, e].take k ++ [odd] ++ [a, b, c, d, e].drop (k + 1)))) :
    ∀ x ∈ [PyData.tuple ([a, b, c, d, e].take k ++ [odd] ++ [a, b, c, d, e].drop (k + 1)), .tuple ([a, b, c, d, e].take k ++ [odd] ++ [a, b, c, d, e].drop (k + 1)), .tuple ([a, b, c, d, e].take k ++ [odd] ++ [a, b, c, d, e].drop (k + 1)), .tuple ([a, b, c, d, e].take k ++ [odd] ++ [a, b, c, d, e].drop (k + 1)), .tuple ([a, b, c, d, e].take k ++ [odd] ++ [a, b, c, d, e].drop (k + 1)),
      .tuple ([a, b, c, d, e].take k ++ [a, b, c, d, e].drop (k + 1)), .tuple ([a, b, c, d, e] ++ [a, b, c, d, e].take 1), .list [a, b, c, d, e]], Val x := fun x hx => by
  have m4 : Val (.tuple ([a, b, c, d, e].take k ++ [a, b, c, d, e].drop (k + 1))) := by
    refine val_not (okT_t _) ?_ (reprT ((hL.take k).append (hL.drop (k + 1))) (by decide) (by decide))
    have : k = 0 ∨ k = 1 ∨ k = 2 ∨ k = 3 ∨ k = 4 := by omega
    rcases this with h | h | h | h | h <;> subst h <;> rfl
  have m6 : Val (.tuple ([a, b, c, d, e] ++ [a, b, c, d, e].take 1)) := val_not (okT_t _) rfl (reprT (hL.append (hL.take 1)) (by decide) (by decide))
  have ml : Val (.list [a, b, c, d, e]) := val_not (okT_l _) rfl (reprL hL (by decide) (by decide))
  simp only [List.mem_cons, List.not_mem_nil, or_false] at hx
  rcases hx with h | h | h | h | h | h | h | h <;> subst h
  · exact hv
  · exact hv
  · exact hv
  · exact hv
  · exact hv
  · exact m4
  · exact m6
  · exact ml
theorem VL.g (v : VL s th ti tr) : G 3 250010 [.str "loom", .int s, tI th, tT ti, tI tr] := by
  obtain ⟨h1, h2, h3, h4, h5⟩ := v.in3
  exact g5 h1 h2 h3 h4 h5
/-- other heads -/
theorem head_odd {odd : PyData} (h : odd ∈ [PyData.str "Loom", .str "", .none, .str "draft", .tuple [.str "loom"]]) : In3 odd ∧ okT odd = true ∧ ∃ t : Str, dRepr [odd] = some (.str t) ∧ (t = "'loom'" ↔ odd = .str "loom") := by
  have key : ∀ (x : PyData) (t : Str), reprOk x = true → x.shown = t → dRepr [x] = some (.str t) := fun x t h1 h2 => by
    show (if reprOk x = true then some (PyData.str x.shown) else none) = _
    rw [if_pos h1, h2]
  simp only [List.mem_cons, List.not_mem_nil, or_false] at h
  rcases h with h | h | h | h | h <;> subst h
  · exact ⟨⟨by decide, by decide +kernel, by decide⟩, by decide, "'Loom'", key _ _ (by decide +kernel) (by decide +kernel), ⟨fun e => absurd e (by decide +kernel), fun e => by simp at e; exact absurd e (by decide +kernel)⟩⟩
  · exact ⟨⟨by decide, by decide +kernel, by decide⟩, by decide, "''", key _ _ (by decide +kernel) (by decide +kernel), ⟨fun e => absurd e (by decide +kernel), fun e => by simp at e; exact absurd e (by decide +kernel)⟩⟩
  · exact ⟨⟨by decide, by decide +kernel, by decide⟩, by decide, "None", key _ _ (by decide +kernel) (by decide +kernel), ⟨fun e => absurd e (by decide +kernel), fun e => by cases e⟩⟩
  · exact ⟨⟨by decide, by decide +kernel, by decide⟩, by decide, "'draft'", key _ _ (by decide +kernel) (by decide +kernel), ⟨fun e => absurd e (by decide +kernel), fun e => by simp at e; exact absurd e (by decide +kernel)⟩⟩
  · exact ⟨⟨by decide, by decide +kernel, by decide⟩, by decide, "('loom',)", key _ _ (by decide +kernel) (by decide +kernel), ⟨fun e => absurd e (by decide +kernel), fun e => by cases e⟩⟩
theorem val_of5 {a b c d e : PyData} (f : Fit5 a b c d e) (ha : In3 a) (hb : In3 b) (hc : In3 c) (hd : In3 d) (he : In3 e) : Val (.tuple [a, b, c, d, e]) := val5 f (reprT (g5 ha hb hc hd he) (by decide) (by decide))
theorem second_odd {odd : PyData} (h : odd ∈ [PyData.int 0, .int 1, .int 2, .int 3, .int 12, .int 13, .bool true, .none, .str "2", .int (-1)]) : In3 odd ∧ okT odd = true := by
  simp only [List.mem_cons, List.not_mem_nil, or_false] at h
  rcases h with h | h | h | h | h | h | h | h | h | h <;> subst h <;> exact ⟨⟨by decide +kernel, by decide +kernel, by decide +kernel⟩, by decide⟩
theorem e_bent (v : VL s th ti tr) (a b : Int) : ∃ x a' b', m__law_bent [P a b, .d (loomD s th ti tr)] = some (.d x, [P a' b', .d (loomD s th ti tr)]) ∧ Val x := by
  obtain ⟨r, a1, b1, d1, d2, d3⟩ := e_draw a b 5 (by decide) (by decide)
  obtain ⟨fb, fc, fd, fe, fa, fr⟩ := v.fit5
  obtain ⟨i1, i2, i3, i4, i5⟩ := v.in3
  have gL := v.g
  have w2 := e_bent_row (n := 1) (w := 276) a1 b1 (ys := th.map .int) (by simpa using v.th2) ((gI v.thr v.s2 v.th2).mono (by decide) (Nat.le_refl _)) (by decide)
  have w3 := fun a b => e_bent_row (n := 1) (w := 3372) a b (ys := ti.map tI) (by simpa using v.ti2) (gT v.tir v.s2 v.ti2) (by decide)
  have w4 := e_bent_row (n := 1) (w := 276) a1 b1 (ys := tr.map .int) (by simpa using v.tr2) ((gI (m := ti.length) v.trr (by have := v.ti2; omega) v.tr2).mono (by decide) (Nat.le_refl _)) (by decide)
  have okth : ∀ y ∈ th.map PyData.int, okT y = true := fun y hy => by obtain ⟨k, _, rfl⟩ := List.mem_map.mp hy; exact okT_i k
  have oktr : ∀ y ∈ tr.map PyData.int, okT y = true := fun y hy => by obtain ⟨k, _, rfl⟩ := List.mem_map.mp hy; exact okT_i k
  have okti : ∀ y ∈ ti.map tI, okTT y = true ∧ short 1000 y = true := fun y hy => by
    obtain ⟨t, ht, rfl⟩ := List.mem_map.mp hy
    refine ⟨okTT_ints t, ?_⟩
    have := lot_len12 (v.tir t ht) v.s2
    simp [short]; omega
  -- one tie bent
  have w5 : ∀ (a b : Int) (k : Nat), k < ti.length → ∃ x a' b', (∃ t, L2.atI (ti.map tI) k = some t ∧ m__law_bent_row [P a b, .d t] = some (.d x, [P a' b', .d t])) ∧ okL (.tuple ((ti.map tI).take k ++ [x] ++ (ti.map tI).drop (k + 1))) = true ∧ In3 (.tuple ((ti.map tI).take k ++ [x] ++ (ti.map tI).drop (k + 1))) := fun a b k hk => by
    have ht := v.tir ti[k] (List.getElem_mem hk)
    have hl := lot_len12 ht v.s2
    obtain ⟨x, a', b', h1, h2⟩ := e_bent_row (n := 1) (w := 276) a b (ys := ti[k].map .int) (by simpa using hl) ((gI ht.2 v.s2 hl).mono (by decide) (Nat.le_refl _)) (by decide)
    have hb := bent_ok h2 (by decide)
    have hT : okTT x = true := bent_TT h2 fun y hy => by obtain ⟨k, _, rfl⟩ := List.mem_map.mp hy; exact okT_i k
    have gt := (gT v.tir v.s2 v.ti2).mono (show 1 ≤ 2 by decide) (Nat.le_refl 3372)
    have g := (((gt.take k).append (G.one (n := 2) (w := 3700) hb.1 (by omega) (by omega))).append (gt.drop (k + 1))).tuple
    refine ⟨x, a', b', ⟨tI ti[k], by rw [atI_nat']; simp [hk], h1⟩, ?_, ⟨g.1, Nat.le_trans g.2.1 (by decide), Nat.le_trans g.2.2 (by decide)⟩⟩
    simp only [okL, List.all_eq_true]
    intro y hy
    have : y ∈ ti.map tI ∨ y = x := by
      rcases List.mem_append.mp hy with hy | hy
      · rcases List.mem_append.mp hy with hy | hy
        · exact .inl (List.mem_of_mem_take hy)
        · exact .inr (by simpa using hy)
      · exact .inl (List.mem_of_mem_drop hy)
    rcases this with h | h
    · have := okti y h; rw [this.1, this.2]; rfl
    · subst h; rw [hT, hb.2.2.2.2]; rfl
  have til : (ti.map tI).length = ti.length := by simp
  have ti1 := v.ti1
  have ti2 := v.ti2
  obtain ⟨Ys, hYs⟩ : ∃ Ys, Ys = ti.map tI := ⟨_, rfl⟩
  rw [← hYs] at w3 w5 okti til
  obtain ⟨TH, hTH⟩ : ∃ TH, TH = tI th := ⟨_, rfl⟩
  obtain ⟨TI, hTI⟩ : ∃ TI, TI = tT ti := ⟨_, rfl⟩
  obtain ⟨TR, hTR⟩ : ∃ TR, TR = tI tr := ⟨_, rfl⟩
  have hTI' : TI = .tuple Ys := by rw [hTI, hYs]
  show ∃ x a' b', m__law_bent [P a b, .d (.tuple [.str "loom", .int s, tI th, tT ti, tI tr])] = some (.d x, [P a' b', .d (.tuple [.str "loom", .int s, tI th, tT ti, tI tr])]) ∧ Val x
  rw [← hTH, ← hTI, ← hTR]
  change G 3 250010 [.str "loom", .int s, tI th, tT ti, tI tr] at gL
  rw [← hTH, ← hTI, ← hTR] at gL
  rw [← hTH] at fc i3
  rw [← hTI] at fd i4
  rw [← hTR] at fe i5
  have hr : r = 0 ∨ r = 1 ∨ r = 2 ∨ r = 3 ∨ r = 4 := by omega
  rcases hr with h | h | h | h | h
  · subst h
    obtain ⟨odd, a2, b2, p1, p2⟩ := e_pick a1 b1 (xs := [.str "Loom", .str "", .none, .str "draft", .tuple [.str "loom"]]) (by decide) (by decide)
    obtain ⟨o1, o2, o3⟩ := head_odd p2
    have hv : Val (.tuple [odd, .int s, TH, TI, TR]) := val_of5 ⟨fb, fc, fd, fe, o2, o3⟩ o1 i2 i3 i4 i5
    obtain ⟨x, az, bz, q1, q2⟩ := e_pick a2 b2 (xs := [PyData.tuple [odd, .int s, TH, TI, TR], .tuple [odd, .int s, TH, TI, TR], .tuple [odd, .int s, TH, TI, TR], .tuple [odd, .int s, TH, TI, TR], .tuple [odd, .int s, TH, TI, TR], .tuple [.int s, TH, TI, TR], .tuple [.str "loom", .int s, TH, TI, TR, .str "loom"], .list [.str "loom", .int s, TH, TI, TR]]) (by simp) (by simp)
    have ct : cutD [PyData.str "loom", .int s, TH, TI, TR] none (some 0) = [] := cut_toN _ (n := 0) rfl
    have cf : cutD [PyData.str "loom", .int s, TH, TI, TR] (some 1) none = [.int s, TH, TI, TR] := cut_fromN _ (n := 1) rfl
    have c1 : cutD [PyData.str "loom", .int s, TH, TI, TR] none (some 1) = [.str "loom"] := cut_toN _ (n := 1) rfl
    refine ⟨x, az, bz, ?_, tail_val (odd := odd) 0 (by decide) gL hv x q2⟩
    simp [m__law_bent, defn, d1, p1, ct, cf, c1, q1]
  · subst h
    obtain ⟨odd, a2, b2, p1, p2⟩ := e_pick a1 b1 (xs := [.int 0, .int 1, .int 2, .int 3, .int 12, .int 13, .bool true, .none, .str "2", .int (-1)]) (by decide) (by decide)
    obtain ⟨o1, o2⟩ := second_odd p2
    have hv : Val (.tuple [.str "loom", odd, TH, TI, TR]) := val_of5 ⟨o2, fc, fd, fe, fa, fr⟩ i1 o1 i3 i4 i5
    obtain ⟨x, az, bz, q1, q2⟩ := e_pick a2 b2 (xs := [PyData.tuple [.str "loom", odd, TH, TI, TR], .tuple [.str "loom", odd, TH, TI, TR], .tuple [.str "loom", odd, TH, TI, TR], .tuple [.str "loom", odd, TH, TI, TR], .tuple [.str "loom", odd, TH, TI, TR], .tuple [.str "loom", TH, TI, TR], .tuple [.str "loom", .int s, TH, TI, TR, .str "loom"], .list [.str "loom", .int s, TH, TI, TR]]) (by simp) (by simp)
    have ct : cutD [PyData.str "loom", .int s, TH, TI, TR] none (some 1) = [.str "loom"] := cut_toN _ (n := 1) rfl
    have cf : cutD [PyData.str "loom", .int s, TH, TI, TR] (some 2) none = [TH, TI, TR] := cut_fromN _ (n := 2) rfl
    have c1 : cutD [PyData.str "loom", .int s, TH, TI, TR] none (some 1) = [.str "loom"] := cut_toN _ (n := 1) rfl
    refine ⟨x, az, bz, ?_, tail_val (odd := odd) 1 (by decide) gL hv x q2⟩
    simp [m__law_bent, defn, d1, p1, ct, cf, c1, q1]
  · subst h
    obtain ⟨odd, a2, b2, p1, p2⟩ := w2
    have hv : Val (.tuple [.str "loom", .int s, odd, TI, TR]) := val_of5 ⟨fb, bent_TT p2 okth, fd, fe, fa, fr⟩ i1 i2 (in_bent p2 (by decide) (by decide) (by decide)) i4 i5
    change m__law_bent_row [P a1 b1, .d (tI th)] = some (.d odd, [P a2 b2, .d (tI th)]) at p1
    rw [← hTH] at p1
    obtain ⟨x, az, bz, q1, q2⟩ := e_pick a2 b2 (xs := [PyData.tuple [.str "loom", .int s, odd, TI, TR], .tuple [.str "loom", .int s, odd, TI, TR], .tuple [.str "loom", .int s, odd, TI, TR], .tuple [.str "loom", .int s, odd, TI, TR], .tuple [.str "loom", .int s, odd, TI, TR], .tuple [.str "loom", .int s, TI, TR], .tuple [.str "loom", .int s, TH, TI, TR, .str "loom"], .list [.str "loom", .int s, TH, TI, TR]]) (by simp) (by simp)
    have ct : cutD [PyData.str "loom", .int s, TH, TI, TR] none (some 2) = [.str "loom", .int s] := cut_toN _ (n := 2) rfl
    have cf : cutD [PyData.str "loom", .int s, TH, TI, TR] (some 3) none = [TI, TR] := cut_fromN _ (n := 3) rfl
    have c1 : cutD [PyData.str "loom", .int s, TH, TI, TR] none (some 1) = [.str "loom"] := cut_toN _ (n := 1) rfl
    refine ⟨x, az, bz, ?_, tail_val (odd := odd) 2 (by decide) gL hv x q2⟩
    simp [m__law_bent, defn, d1, p1, ct, cf, c1, q1]
  · subst h
    obtain ⟨r2, a2, b2, d4, d5, d6⟩ := e_draw a1 b1 3 (by decide) (by decide)
    by_cases hz : 0 < r2
    · obtain ⟨r3, a3, b3, d7, d8, d9⟩ := e_draw a2 b2 ti.length (by omega) (by omega)
      obtain ⟨k, hk⟩ : ∃ k : Nat, r3 = k := ⟨r3.toNat, by omega⟩
      obtain ⟨y, a4, b4, ⟨t, p1, p2⟩, p3, p4⟩ := w5 a3 b3 k (by omega)
      rw [← hk] at p1
      obtain ⟨A, hA⟩ : ∃ A, A = Ys.take k := ⟨_, rfl⟩
      obtain ⟨C, hC⟩ : ∃ C, C = Ys.drop (k + 1) := ⟨_, rfl⟩
      have ca : cutD Ys none (some r3) = A := by rw [hA]; exact cut_toN Ys hk
      have cc : cutD Ys (some (r3 + 1)) none = C := by rw [hC]; exact cut_fromN Ys (by omega)
      have lA : A.length ≤ 12 := by rw [hA, List.length_take]; omega
      have lC : C.length ≤ 12 := by rw [hC, List.length_drop]; omega
      have l1 : A.length + 1 ≤ 100000 := by omega
      have l2 : A.length + 1 + C.length ≤ 100000 := by omega
      rw [← hA, ← hC] at p3 p4
      obtain ⟨odd, ho⟩ : ∃ odd, odd = PyData.tuple (A ++ [y] ++ C) := ⟨_, rfl⟩
      rw [← ho] at p3 p4
      have ho' : PyData.tuple (A ++ y :: C) = odd := by rw [ho]; simp
      have hv : Val (.tuple [.str "loom", .int s, TH, odd, TR]) := val_of5 ⟨fb, fc, p3, fe, fa, fr⟩ i1 i2 i3 p4 i5
      obtain ⟨x, az, bz, q1, q2⟩ := e_pick a4 b4 (xs := [PyData.tuple [.str "loom", .int s, TH, odd, TR], .tuple [.str "loom", .int s, TH, odd, TR], .tuple [.str "loom", .int s, TH, odd, TR], .tuple [.str "loom", .int s, TH, odd, TR], .tuple [.str "loom", .int s, TH, odd, TR], .tuple [.str "loom", .int s, TH, TR], .tuple [.str "loom", .int s, TH, TI, TR, .str "loom"], .list [.str "loom", .int s, TH, TI, TR]]) (by simp) (by simp)
      have ct : cutD [PyData.str "loom", .int s, TH, TI, TR] none (some 3) = [.str "loom", .int s, TH] := cut_toN _ (n := 3) rfl
      have cf : cutD [PyData.str "loom", .int s, TH, TI, TR] (some 4) none = [TR] := cut_fromN _ (n := 4) rfl
      have c1 : cutD [PyData.str "loom", .int s, TH, TI, TR] none (some 1) = [.str "loom"] := cut_toN _ (n := 1) rfl
      refine ⟨x, az, bz, ?_, tail_val (odd := odd) 3 (by decide) gL hv x q2⟩
      subst hTI'
      rw [← til] at d7
      simp [m__law_bent, defn, d1, d4, hz, d7, p1, p2, ca, cc, l1, l2, ho', ct, cf, c1, q1]
    · obtain ⟨odd, a3, b3, p1, p2⟩ := w3 a2 b2
      have hv : Val (.tuple [.str "loom", .int s, TH, odd, TR]) := val_of5 ⟨fb, fc, bent_L p2 okti, fe, fa, fr⟩ i1 i2 i3 (in_bent p2 (by decide) (by decide) (by decide)) i5
      rw [← hTI'] at p1
      obtain ⟨x, az, bz, q1, q2⟩ := e_pick a3 b3 (xs := [PyData.tuple [.str "loom", .int s, TH, odd, TR], .tuple [.str "loom", .int s, TH, odd, TR], .tuple [.str "loom", .int s, TH, odd, TR], .tuple [.str "loom", .int s, TH, odd, TR], .tuple [.str "loom", .int s, TH, odd, TR], .tuple [.str "loom", .int s, TH, TR], .tuple [.str "loom", .int s, TH, TI, TR, .str "loom"], .list [.str "loom", .int s, TH, TI, TR]]) (by simp) (by simp)
      have ct : cutD [PyData.str "loom", .int s, TH, TI, TR] none (some 3) = [.str "loom", .int s, TH] := cut_toN _ (n := 3) rfl
      have cf : cutD [PyData.str "loom", .int s, TH, TI, TR] (some 4) none = [TR] := cut_fromN _ (n := 4) rfl
      have c1 : cutD [PyData.str "loom", .int s, TH, TI, TR] none (some 1) = [.str "loom"] := cut_toN _ (n := 1) rfl
      refine ⟨x, az, bz, ?_, tail_val (odd := odd) 3 (by decide) gL hv x q2⟩
      simp [m__law_bent, defn, d1, d4, hz, p1, ct, cf, c1, q1]
  · subst h
    obtain ⟨odd, a2, b2, p1, p2⟩ := w4
    have hv : Val (.tuple [.str "loom", .int s, TH, TI, odd]) := val_of5 ⟨fb, fc, fd, bent_TT p2 oktr, fa, fr⟩ i1 i2 i3 i4 (in_bent p2 (by decide) (by decide) (by decide))
    change m__law_bent_row [P a1 b1, .d (tI tr)] = some (.d odd, [P a2 b2, .d (tI tr)]) at p1
    rw [← hTR] at p1
    obtain ⟨x, az, bz, q1, q2⟩ := e_pick a2 b2 (xs := [PyData.tuple [.str "loom", .int s, TH, TI, odd], .tuple [.str "loom", .int s, TH, TI, odd], .tuple [.str "loom", .int s, TH, TI, odd], .tuple [.str "loom", .int s, TH, TI, odd], .tuple [.str "loom", .int s, TH, TI, odd], .tuple [.str "loom", .int s, TH, TI], .tuple [.str "loom", .int s, TH, TI, TR, .str "loom"], .list [.str "loom", .int s, TH, TI, TR]]) (by simp) (by simp)
    have ct : cutD [PyData.str "loom", .int s, TH, TI, TR] none (some 4) = [.str "loom", .int s, TH, TI] := cut_toN _ (n := 4) rfl
    have cf : cutD [PyData.str "loom", .int s, TH, TI, TR] (some 5) none = [] := cut_fromN _ (n := 5) rfl
    have c1 : cutD [PyData.str "loom", .int s, TH, TI, TR] none (some 1) = [.str "loom"] := cut_toN _ (n := 1) rfl
    refine ⟨x, az, bz, ?_, tail_val (odd := odd) 4 (by decide) gL hv x q2⟩
    simp [m__law_bent, defn, d1, p1, ct, cf, c1, q1]
end PK85

set_option Elab.async false
set_option linter.all false
set_option maxRecDepth 100000
set_option maxHeartbeats 4000000
namespace PK85
open PySem DL
variable {s : Int} {th : List Int} {ti : List (List Int)} {tr : List Int}
theorem VL.val (v : VL s th ti tr) : Val (loomD s th ti tr) := by
  obtain ⟨i1, i2, i3, i4, i5⟩ := v.in3
  exact val_of5 v.fit5 i1 i2 i3 i4 i5
def r12 : List Int := [0, 1, 2, 3, 4, 5, 6, 7, 8, 9, 10, 11]
def t12 : List (List Int) := [[], r12, [], r12, [], r12, [], r12, [], r12, [], r12]
theorem great_vl : VL 12 r12 t12 r12 := by
  refine ⟨by decide, by decide, by decide, by decide, by decide, by decide, by decide, ?_, by decide, by decide, by decide⟩
  intro t ht
  have key : ∀ t ∈ t12, t = [] ∨ t = r12 := by decide
  rcases key t ht with h | h <;> subst h
  · exact ⟨.nil, by simp⟩
  · exact ⟨by decide, by decide⟩
theorem great_11 : Val (.tuple [.str "loom", .int 11, tI r12, tT t12, tI r12]) := by
  obtain ⟨i1, i2, i3, i4, i5⟩ := great_vl.in3
  obtain ⟨fb, fc, fd, fe, fa, fr⟩ := great_vl.fit5
  exact val_of5 ⟨okT_i 11, fc, fd, fe, fa, fr⟩ i1 ⟨by decide +kernel, by decide, by decide⟩ i3 i4 i5
theorem great_more : Val (.tuple [.str "loom", .int 12, tI r12, .tuple (t12.map tI ++ [.tuple []]), tI r12]) := by
  obtain ⟨i1, i2, i3, i4, i5⟩ := great_vl.in3
  obtain ⟨fb, fc, fd, fe, fa, fr⟩ := great_vl.fit5
  have g := ((gT great_vl.tir great_vl.s2 great_vl.ti2).append (G.one (n := 1) (w := 10) (x := .tuple []) (by decide) (by decide) (by decide))).tuple
  refine val_of5 ⟨fb, fc, ?_, fe, fa, fr⟩ i1 i2 i3 ⟨g.1, Nat.le_trans g.2.1 (by decide), Nat.le_trans g.2.2 (by decide)⟩ i5
  have h := fd
  simp only [okL, List.all_append, Bool.and_eq_true] at h ⊢
  exact ⟨h, by decide⟩
theorem small_vals : Val .none ∧ Val (.int 0) ∧ Val (.tuple []) ∧ Val (.str "loom") ∧ Val (.dict []) :=
  ⟨val_not (by decide) (by decide) (by decide +kernel), val_not (by decide) (by decide) (by decide +kernel), val_not (by decide) (by decide) (by decide +kernel), val_not (by decide) (by decide) (by decide +kernel), val_not (by decide) (by decide) (by decide +kernel)⟩
/-! the last loop -/
theorem bools_repr (b : Bool) : ∃ t : Str, dRepr [.list [.bool b, .bool b]] = some (.str t) := by
  refine ⟨(PyData.list [.bool b, .bool b]).shown, ?_⟩
  show (if reprOk (.list [.bool b, .bool b]) = true then some (PyData.str (PyData.list [.bool b, .bool b]).shown) else none) = _
  rw [if_pos (by cases b <;> decide +kernel)]
theorem Val.shown {v : PyData} (h : Val v) : dRepr [v] = some (.str v.shown) := by
  show (if reprOk v = true then some (PyData.str v.shown) else none) = _
  rw [if_pos h.rep]
noncomputable abbrev chk : SSem := sSeq (sPar 7 8 (vD (sTake (sCall 1 m__law_is_loom (sCons (sVar 6) sNil)))) (vD (sTake (sCB dRepr (sCons (sVar 6) sNil))))) (sIf (sOr (sTest (sBin dNe (sCB dRepr (sCons (sKeep (sLst (sCons (sCall 1 m_is_loom (sCons (sVar 6) sNil)) (sCons (sCall 1 m_is_loom (sPerm [0] (sApp 0 1 sNil (sCons (sVar 6) sNil)))) sNil)))) sNil)) (sCB dRepr (sCons (sKeep (sLst (sCons (sVar 7) (sCons (sVar 7) sNil)))) sNil)))) (sTest (sBin dNe (sCB dRepr (sCons (sVar 6) sNil)) (sVar 8)))) (sRetVS (vD (sTake (sC (.bool false))))) sNext)
theorem check_step (a b : Int) (loom draft told great vals : PyData) {x : PyData} (v : Val x) (t7 t8 : SD) :
    chk [P a b, .d loom, .d draft, .d told, .d great, .d vals, .d x, t7, t8, .un, .un] = some (.nx [P a b, .d loom, .d draft, .d told, .d great, .d vals, .d x, .d (.bool (isLoom x)), .d (.str x.shown), .un, .un]) := by
  obtain ⟨t, ht⟩ := bools_repr (isLoom x)
  have h1 := v.a
  have h2 := v.b
  have h3 := v.shown
  simp [chk, h1, h2, h3, ht, perm]
theorem check_loop (a b : Int) (loom draft told great vals : PyData) (xs : List PyData) (hv : ∀ x ∈ xs, Val x) :
    ∃ t6 t7 t8, forGo (gsName 6) chk xs [P a b, .d loom, .d draft, .d told, .d great, .d vals, .un, .un, .un, .un, .un] = some (.nx [P a b, .d loom, .d draft, .d told, .d great, .d vals, t6, t7, t8, .un, .un]) := by
  obtain ⟨S', h1, t6, t7, t8, h2⟩ := for_inv (gs := gsName 6) (fb := chk) (fun pre S => ∃ t6 t7 t8, S = [P a b, .d loom, .d draft, .d told, .d great, .d vals, t6, t7, t8, .un, .un]) xs xs [] rfl (fun pre x post S he ⟨t6, t7, t8, hS⟩ => by
    subst hS
    have v := hv x (by rw [← he]; simp)
    refine ⟨_, ?_, .d x, .d (.bool (isLoom x)), .d (.str x.shown), rfl⟩
    have := check_step a b loom draft told great vals v t7 t8
    simpa [forStep] using this) [P a b, .d loom, .d draft, .d told, .d great, .d vals, .un, .un, .un, .un, .un] ⟨.un, .un, .un, rfl⟩
  subst h2
  exact ⟨t6, t7, t8, h1⟩
theorem bents1 (v : VL s th ti tr) (draft told great vals : PyData) (xs : List PyData) (a b : Int) :
    ∃ ys a' b', lcGo [9] (gsName 9) sYes (sTake (sCall 2 m__law_bent (sCons (sVar 0) (sCons (sVar 1) sNil)))) xs [P a b, .d (loomD s th ti tr), .d draft, .d told, .d great, .d vals, .un, .un, .un, .un, .un] = some (ys, [P a' b', .d (loomD s th ti tr), .d draft, .d told, .d great, .d vals, .un, .un, .un, .un, .un]) ∧ ys.length = xs.length ∧ ∀ y ∈ ys, Val y := by
  obtain ⟨ys, S', h1, ⟨a', b', rfl⟩, h3, h4⟩ := lc_inv (vs := [9]) (gs := gsName 9) (fc := sYes) (fd := sTake (sCall 2 m__law_bent (sCons (sVar 0) (sCons (sVar 1) sNil)))) (fun S => ∃ a b, S = [P a b, .d (loomD s th ti tr), .d draft, .d told, .d great, .d vals, .un, .un, .un, .un, .un]) Val xs
    (fun x _ S ⟨a, b, hS⟩ => by
      subst hS
      obtain ⟨y, a', b', d1, d2⟩ := e_bent v a b
      exact ⟨y, [P a' b', .d (loomD s th ti tr), .d draft, .d told, .d great, .d vals, .un, .un, .un, .un, .un], by simp [lcStep, d1], ⟨a', b', rfl⟩, d2⟩) _ ⟨a, b, rfl⟩
  exact ⟨ys, a', b', h1, h3, h4⟩
theorem bents4 (v : VL s th ti tr) (loom draft told vals : PyData) (xs : List PyData) (a b : Int) :
    ∃ ys a' b', lcGo [9] (gsName 9) sYes (sTake (sCall 2 m__law_bent (sCons (sVar 0) (sCons (sVar 4) sNil)))) xs [P a b, .d loom, .d draft, .d told, .d (loomD s th ti tr), .d vals, .un, .un, .un, .un, .un] = some (ys, [P a' b', .d loom, .d draft, .d told, .d (loomD s th ti tr), .d vals, .un, .un, .un, .un, .un]) ∧ ys.length = xs.length ∧ ∀ y ∈ ys, Val y := by
  obtain ⟨ys, S', h1, ⟨a', b', rfl⟩, h3, h4⟩ := lc_inv (vs := [9]) (gs := gsName 9) (fc := sYes) (fd := sTake (sCall 2 m__law_bent (sCons (sVar 0) (sCons (sVar 4) sNil)))) (fun S => ∃ a b, S = [P a b, .d loom, .d draft, .d told, .d (loomD s th ti tr), .d vals, .un, .un, .un, .un, .un]) Val xs
    (fun x _ S ⟨a, b, hS⟩ => by
      subst hS
      obtain ⟨y, a', b', d1, d2⟩ := e_bent v a b
      exact ⟨y, [P a' b', .d loom, .d draft, .d told, .d (loomD s th ti tr), .d vals, .un, .un, .un, .un, .un], by simp [lcStep, d1], ⟨a', b', rfl⟩, d2⟩) _ ⟨a, b, rfl⟩
  exact ⟨ys, a', b', h1, h3, h4⟩
theorem rg12 : rngD 0 12 = r12.map .int := by rfl
theorem told_all (a b : Int) (loom draft : PyData) (xs : List PyData) (h : ∀ x ∈ xs, Val x ∧ isLoom x = true) : lcGo [10] (gsName 10) sYes (sTake (sAndV (sCall 1 m__law_is_loom (sCons (sVar 10) sNil)) (sBin dIs (sCall 1 m_is_loom (sCons (sVar 10) sNil)) (sC (.bool true))))) xs [P a b, .d loom, .d draft, .d (.list xs), .un, .un, .un, .un, .un, .un, .un] =
    some (xs.map fun _ => .bool true, [P a b, .d loom, .d draft, .d (.list xs), .un, .un, .un, .un, .un, .un, .un]) :=
  lc_map (fun _ => .bool true) xs fun x hx => by
    have h1 := (h x hx).1.a
    have h2 := (h x hx).1.b
    have h3 := (h x hx).2
    rw [h3] at h1 h2
    simp [lcStep, h1, h2]
theorem e_great (S : List SD) : sTup (sCons (sC (.str "loom")) (sCons (sC (.int 12)) (sCons (sTupRg (sRg1 (sC (.int 12)))) (sCons (sBin dMulX (sTup (sCons (sTup sNil) (sCons (sTupRg (sRg1 (sC (.int 12)))) sNil))) (sC (.int 6))) (sCons (sTupRg (sRg1 (sC (.int 12)))) sNil))))) S = some (.dat (loomD 12 r12 t12 r12), S) := by
  have h1 : sTupRg (sRg1 (sC (.int 12))) = sC (tI r12) := by
    funext S
    have : rgB 0 12 = true := by decide +kernel
    simp [this, rg12]
  have h2 : dMulX (.tuple [.tuple [], tI r12]) (.int 6) = some (tT t12) := by
    rw [dMulX_t, if_pos (by decide)]
    rfl
  rw [h1]
  simp [h2]
theorem e_law_right (a b : Int) : ∃ a' b', m__law_right [P a b] = some (.d (.bool true), [P a' b']) := by
  obtain ⟨s, th, ti, tr, a1, b1, v, d1⟩ := e_law_loom a b
  obtain ⟨rows, vd, d2⟩ := e_woven v
  obtain ⟨s2, th2, ti2, tr2, v2, d3⟩ := e_tidied v
  obtain ⟨ti3, v3, d4⟩ := e_contrary v
  obtain ⟨ti4, v4, d5⟩ := e_quartered v
  obtain ⟨s5, th5, ti5, tr5, v5, d6⟩ := e_loom_of vd
  obtain ⟨pl, q1, q2, q3, d7⟩ := e_lift_plan v
  obtain ⟨ti6, tr6, v6, d8⟩ := e_by_lift_plan (pl := pl) v.s1 v.s2 v.th1 v.th2 v.thr q1 q2 q3
  have vg := great_vl
  obtain ⟨L, hL⟩ : ∃ L, L = loomD s th ti tr := ⟨_, rfl⟩
  obtain ⟨L2, hL2⟩ : ∃ L, L = loomD s2 th2 ti2 tr2 := ⟨_, rfl⟩
  obtain ⟨L3, hL3⟩ : ∃ L, L = loomD s th ti3 tr := ⟨_, rfl⟩
  obtain ⟨L4, hL4⟩ : ∃ L, L = loomD ti.length tr.reverse ti4 th := ⟨_, rfl⟩
  obtain ⟨L5, hL5⟩ : ∃ L, L = loomD s5 th5 ti5 tr5 := ⟨_, rfl⟩
  obtain ⟨L6, hL6⟩ : ∃ L, L = loomD s th ti6 tr6 := ⟨_, rfl⟩
  obtain ⟨GR, hGR⟩ : ∃ L, L = loomD 12 r12 t12 r12 := ⟨_, rfl⟩
  obtain ⟨DR, hDR⟩ : ∃ D, D = draftD rows := ⟨_, rfl⟩
  obtain ⟨PL, hPL⟩ : ∃ D, D = tT pl := ⟨_, rfl⟩
  obtain ⟨TH, hTH⟩ : ∃ D, D = tI th := ⟨_, rfl⟩
  have x1 : dIx L (.int 1) = some (.int s) := by rw [hL]; simp
  have x2 : dIx L (.int 2) = some TH := by rw [hL, hTH]; simp
  have hall : ∀ x ∈ [L, L2, L3, L4, L5, L6], Val x ∧ isLoom x = true := fun x hx => by
    simp only [List.mem_cons, List.not_mem_nil, or_false] at hx
    rcases hx with h | h | h | h | h | h <;> subst h
    · rw [hL]; exact ⟨v.val, v.isLoom⟩
    · rw [hL2]; exact ⟨v2.val, v2.isLoom⟩
    · rw [hL3]; exact ⟨v3.val, v3.isLoom⟩
    · rw [hL4]; exact ⟨v4.val, v4.isLoom⟩
    · rw [hL5]; exact ⟨v5.val, v5.isLoom⟩
    · rw [hL6]; exact ⟨v6.val, v6.isLoom⟩
  obtain ⟨R, hR⟩ : ∃ R, R = tI r12 := ⟨_, rfl⟩
  obtain ⟨TL, hTL⟩ : ∃ TL, TL = t12.map tI := ⟨_, rfl⟩
  have lTL : TL.length = 12 := by rw [hTL]; rfl
  have v11 : Val (.tuple [.str "loom", .int 11, R, .tuple TL, R]) := by rw [hR, hTL]; exact great_11
  have vM : Val (.tuple [.str "loom", .int 12, R, .tuple (TL ++ [.tuple []]), R]) := by rw [hR, hTL]; exact great_more
  have hGR' : GR = .tuple [.str "loom", .int 12, R, .tuple TL, R] := by rw [hGR, hR, hTL]
  have vG : Val GR := by rw [hGR]; exact vg.val
  have y1 : dCut GR none (some 1) = some (.tuple [.str "loom"]) := by rw [hGR']; simp [cut_toN _ (show (1 : Int) = (1 : Nat) from rfl)]
  have y2 : dCut GR (some 2) none = some (.tuple [R, .tuple TL, R]) := by rw [hGR']; simp [cut_fromN _ (show (2 : Int) = (2 : Nat) from rfl)]
  have y3 : dCut GR none (some 3) = some (.tuple [.str "loom", .int 12, R]) := by rw [hGR']; simp [cut_toN _ (show (3 : Int) = (3 : Nat) from rfl)]
  have y4 : dCut GR (some 4) none = some (.tuple [R]) := by rw [hGR']; simp [cut_fromN _ (show (4 : Int) = (4 : Nat) from rfl)]
  have y5 : dIx GR (.int 3) = some (.tuple TL) := by rw [hGR']; simp
  have gE := fun S => e_great S
  rw [← hGR] at gE
  obtain ⟨n1, n2, n3, n4, n5⟩ := small_vals
  obtain ⟨V1, hV1⟩ : ∃ V, V = [L, L2, L3, L4, L5, L6, GR, .tuple [.str "loom", .int 11, R, .tuple TL, R], .tuple [.str "loom", .int 12, R, .tuple (TL ++ [.tuple []]), R], .none, .int 0] := ⟨_, rfl⟩
  have lV1 : V1.length = 11 := by rw [hV1]; rfl
  have vV1 : ∀ x ∈ V1, Val x := fun x hx => by
    rw [hV1] at hx
    have : x ∈ [L, L2, L3, L4, L5, L6] ∨ x ∈ [GR, .tuple [.str "loom", .int 11, R, .tuple TL, R], .tuple [.str "loom", .int 12, R, .tuple (TL ++ [.tuple []]), R], .none, .int 0] := List.mem_append.mp hx
    rcases this with h | h
    · exact (hall x h).1
    · simp only [List.mem_cons, List.not_mem_nil, or_false] at h
      rcases h with h | h | h | h | h <;> subst h
      · exact vG
      · exact v11
      · exact vM
      · exact n1
      · exact n2
  obtain ⟨X24, hX24⟩ : ∃ X, X = rngD 0 24 := ⟨_, rfl⟩
  obtain ⟨X6, hX6⟩ : ∃ X, X = rngD 0 6 := ⟨_, rfl⟩
  have g24 : rngI [.int 24] = some X24 := by rw [hX24]; exact rngI_n 24 (by decide)
  have g6 : rngI [.int 6] = some X6 := by rw [hX6]; exact rngI_n 6 (by decide)
  have l24 : X24.length = 24 := by rw [hX24, rngD_len]
  have l6 : X6.length = 6 := by rw [hX6, rngD_len]
  have m24 : X24.length < 100000 := by omega
  have m6 : X6.length < 100000 := by omega
  obtain ⟨Y1, a2, b2, c1, c2, c3⟩ := bents1 v DR (.list [L, L2, L3, L4, L5, L6]) GR (.list V1) X24 a1 b1
  obtain ⟨V2, hV2⟩ : ∃ V, V = V1 ++ [.tuple [], .str "loom", .dict []] ++ Y1 := ⟨_, rfl⟩
  have lV2 : V2.length = 38 := by rw [hV2]; simp; omega
  obtain ⟨Y2, a3, b3, c4, c5, c6⟩ := bents4 vg L DR (.list [L, L2, L3, L4, L5, L6]) (.list V2) X6 a2 b2
  obtain ⟨V3, hV3⟩ : ∃ V, V = V2 ++ Y2 := ⟨_, rfl⟩
  have lV3 : V3.length = 44 := by rw [hV3]; simp; omega
  have vV3 : ∀ x ∈ V3, Val x := fun x hx => by
    rw [hV3, hV2] at hx
    rcases List.mem_append.mp hx with hx | hx
    · rcases List.mem_append.mp hx with hx | hx
      · rcases List.mem_append.mp hx with hx | hx
        · exact vV1 x hx
        · simp only [List.mem_cons, List.not_mem_nil, or_false] at hx
          rcases hx with h | h | h <;> subst h
          · exact n3
          · exact n4
          · exact n5
      · exact c3 x hx
    · exact c6 x hx
  obtain ⟨t6, t7, t8, c7⟩ := check_loop a3 b3 L DR (.list [L, L2, L3, L4, L5, L6]) GR (.list V3) V3 vV3
  have c8 := told_all a1 b1 L DR [L, L2, L3, L4, L5, L6] hall
  have c9 : dAll [.list ([L, L2, L3, L4, L5, L6].map fun _ => .bool true)] = some (.bool true) := by
    have := dAll_f (fun _ : PyData => true) [L, L2, L3, L4, L5, L6]
    simpa using this
  rw [← hL] at d1 d2 d3 d4 d5 d7 c1
  rw [← hDR] at d2 d6
  rw [← hL2] at d3
  rw [← hL3] at d4
  rw [← hL4] at d5
  rw [← hL5] at d6
  rw [← hPL] at d7 d8
  rw [← hTH, ← hL6] at d8
  rw [← hGR] at c4
  refine ⟨a3, b3, ?_⟩
  have e1 : V1.length + 3 ≤ 100000 := by omega
  have e2 : V1.length + 3 + Y1.length ≤ 100000 := by omega
  have e3 : V2.length + Y2.length ≤ 100000 := by omega
  have f1 : dAdd (.list [L, L2, L3, L4, L5, L6]) (.list [GR, .tuple [.str "loom", .int 11, R, .tuple TL, R], .tuple [.str "loom", .int 12, R, .tuple (TL ++ [.tuple []]), R], .none, .int 0]) = some (.list V1) := by
    rw [dAdd_l, if_pos (by simp), hV1]; rfl
  have f2 : dAdd (.list V1) (.list [.tuple [], .str "loom", .dict []]) = some (.list (V1 ++ [.tuple [], .str "loom", .dict []])) := by
    rw [dAdd_l, if_pos (by simp; omega)]
  have f3 : dAdd (.list (V1 ++ [.tuple [], .str "loom", .dict []])) (.list Y1) = some (.list V2) := by
    rw [dAdd_l, if_pos (by simp; omega), hV2]
  have f4 : dAdd (.list V2) (.list Y2) = some (.list V3) := by
    rw [dAdd_l, if_pos (by omega), hV3]
  have f5 : dAdd (.tuple TL) (.tuple [.tuple []]) = some (.tuple (TL ++ [.tuple []])) := by
    rw [dAdd_t, if_pos (by simp; omega)]
  have gE' : sTup (sCons (sC (.str "loom")) (sCons (sC (.int 12)) (sCons (sTupRg (sRg1 (sC (.int 12)))) (sCons (sBin dMulX (sTup (sCons (sTup sNil) (sCons (sTupRg (sRg1 (sC (.int 12)))) sNil))) (sC (.int 6))) (sCons (sTupRg (sRg1 (sC (.int 12)))) sNil))))) = sC GR := by
    funext S; rw [gE S]; simp
  clear gE hL hL2 hL3 hL4 hL5 hL6 hGR hGR' hDR hPL hTH hR hTL hX24 hX6 hV1 hV2 hV3 hall v11 vM vG vV1 vV3 c3 c6
  obtain ⟨BL, hBL⟩ : ∃ B, B = ([L, L2, L3, L4, L5, L6].map fun _ => PyData.bool true) := ⟨_, rfl⟩
  rw [← hBL] at c8 c9
  clear hBL
  rw [m__law_right, gE']
  simp [defn, d1, d2, d3, d4, d5, d6, d7, d8, x1, x2, c8, c9, y1, y2, y3, y4, y5, f1, f2, f3, f4, f5, g24, g6, m24, m6, c1, c4, c7]
end PK85

set_option Elab.async false
set_option linter.all false
set_option maxRecDepth 100000
set_option maxHeartbeats 4000000
namespace PK85
open PySem DL
theorem at_map {ns : List Int} {k : Int} (h1 : 0 ≤ k) (h2 : k < ns.length) : ∃ x, L2.atI (ns.map PyData.int) k = some (.int x) := by
  obtain ⟨i, rfl⟩ := Int.eq_ofNat_of_zero_le h1
  have h : i < ns.length := by omega
  refine ⟨ns[i], ?_⟩
  have h4 : L2.ixN (ns.map PyData.int).length (i : Int) = some i := by
    unfold L2.ixN
    simp
    omega
  unfold L2.atI
  rw [h4]
  simp [h]
theorem e_pot (ns : List Int) (k : Int) (h : 0 ≤ k) : ∃ x y, m__law_pot [.d (scrD ns), .d (.int k)] = some (.own false [.int x, .int y], [.d (scrD ns), .d (.int k)]) := by
  have p1 : L2.CPow 10 18 := ⟨by decide, by decide, by decide⟩
  have p2 : L2.CMul 1097 k := .inl ⟨by decide, by decide⟩
  have p3 : L2.CMul 9343 k := .inl ⟨by decide, by decide⟩
  have p4 (t : Int) : L2.CMul t 40014 := .inr ⟨by decide, by decide⟩
  obtain ⟨L, hL⟩ : ∃ L, L = ns.map PyData.int := ⟨_, rfl⟩
  have hl : L.length = ns.length := by rw [hL]; simp
  by_cases hk : k < ns.length
  · obtain ⟨x, hx⟩ := at_map h hk
    rw [← hL] at hx
    have hk' : k < (L.length : Int) := by omega
    simp only [scrD, ← hL]
    simp [m__law_pot, defn, p1, p2, p3, p4, hk', hx]
  · have hk' : ¬ k < (L.length : Int) := by omega
    simp only [scrD, ← hL]
    simp [m__law_pot, defn, p1, p2, p3, p4, hk']
theorem lawM : DL.LawM 63 m_law := fun ns hn => by
  obtain ⟨L, hL⟩ : ∃ L, L = ns.map PyData.int := ⟨_, rfl⟩
  have hl : L.length = ns.length := by rw [hL]; simp
  obtain ⟨n, hn1, hn2, hn3⟩ : ∃ n : Nat, n ≤ 100000 ∧ n < 100000 ∧ ((if (if ((L.length : Int)) < 2 then (L.length : Int) else 2) > 1 then (if ((L.length : Int)) < 2 then (L.length : Int) else 2) else 1) = (n : Int)) := by
    by_cases h : (L.length : Int) < 2
    · exact ⟨1, by decide, by decide, by rw [if_pos h]; split <;> omega⟩
    · exact ⟨2, by decide, by decide, by rw [if_neg h]; rfl⟩
  have g := rngI_n n hn1
  rw [← hn3] at g
  obtain ⟨X, hX⟩ : ∃ X, X = rngD 0 n := ⟨_, rfl⟩
  rw [← hX] at g
  have hXl : X.length < 100000 := by rw [hX, rngD_len]; exact hn2
  have hXm : ∀ x ∈ X, ∃ k : Int, x = .int k ∧ 0 ≤ k := fun x hx => by
    rw [hX] at hx
    obtain ⟨k, h1, h2⟩ := rngD_mem hx
    exact ⟨k, h1, by omega⟩
  have lc : lcGo [1] (gsName 1) sYes (sTake (sCallF m__law_right (sCallL 2 m__law_pot (sCons (sVar 0) (sCons (sVar 1) sNil))))) X [.d (scrD ns), .un] = some (X.map fun _ => .bool true, [.d (scrD ns), .un]) :=
    lc_map (fun _ => .bool true) X fun x hx => by
      obtain ⟨k, rfl, h0⟩ := hXm x hx
      obtain ⟨a, b, h1⟩ := e_pot ns k h0
      obtain ⟨a', b', h2⟩ := e_law_right a b
      simp only [P] at h2
      simp [lcStep, h1, sCallF, h2, onlyD]
  have al : dAll [.list (X.map fun _ => .bool true)] = some (.bool true) := by
    have := dAll_f (fun _ : PyData => true) X
    rwa [List.all_eq_true.mpr (fun _ _ => rfl)] at this
  obtain ⟨Y, hY⟩ : ∃ Y, Y = (X.map fun _ => PyData.bool true) := ⟨_, rfl⟩
  rw [← hY] at lc al
  simp only [scrD, ← hL] at lc ⊢
  simp [m_law, defn, g, hXl, lc, al]
end PK85

open PySem PySem.W PyProof.Rows
set_option maxHeartbeats 0 in
theorem PySem.Challenge.cw_onecloth_k85_any_value_as_loom_holds : PySem.Challenge.rw_onecloth_k85_any_value_as_loom.Holds := by
  w_on; o_law; k_head; (case hw => w_witness2)
  k_fill
  refine DL.walkG (l := PySem.Challenge.rw_onecloth_k85_any_value_as_loom) (n := 63) (k := 9) (x := "script") (m := PK85.m_law) rfl (by decide) rfl ⟨rfl, by decide, by decide⟩ (fun w h Y => PySem.W.kIn_of Y) ?F PK85.lawM
  case F =>
    intro w mg fa h KX G hmg
    refine' PK85.all_mk KX G hmg ?a__law_draw ?l__law_draw ?d__law_draw ?k__law_draw ?a__law_loom ?l__law_loom ?d__law_loom ?k__law_loom ?a__law_woven ?l__law_woven ?d__law_woven ?k__law_woven ?a_is_integer ?l_is_integer ?d_is_integer ?k_is_integer ?a_is_within ?l_is_within ?d_is_within ?k_is_within ?a_are_numbers ?l_are_numbers ?d_are_numbers ?k_are_numbers ?a_is_tuple ?l_is_tuple ?d_is_tuple ?k_is_tuple ?a_are_rising ?l_are_rising ?d_are_rising ?k_are_rising ?a_is_lot_of ?l_is_lot_of ?d_is_lot_of ?k_is_lot_of ?a_are_lifts ?l_are_lifts ?d_are_lifts ?k_are_lifts ?a_is_loom_value ?l_is_loom_value ?d_is_loom_value ?k_is_loom_value ?a_want_loom ?l_want_loom ?d_want_loom ?k_want_loom ?a_by_first ?l_by_first ?d_by_first ?k_by_first ?a_numbered ?l_numbered ?d_numbered ?k_numbered ?a_tidy ?l_tidy ?d_tidy ?k_tidy ?a_tidied ?l_tidied ?d_tidied ?k_tidied ?a_others ?l_others ?d_others ?k_others ?a_loom_contrary ?l_loom_contrary ?d_loom_contrary ?k_loom_contrary ?a_loom_quartered ?l_loom_quartered ?d_loom_quartered ?k_loom_quartered ?a_is_headed ?l_is_headed ?d_is_headed ?k_is_headed ?a_are_rows_of ?l_are_rows_of ?d_are_rows_of ?k_are_rows_of ?a_is_draft_value ?l_is_draft_value ?d_is_draft_value ?k_is_draft_value ?a_want_draft ?l_want_draft ?d_want_draft ?k_want_draft ?a_many_warps ?l_many_warps ?d_many_warps ?k_many_warps ?a_columns_of ?l_columns_of ?d_columns_of ?k_columns_of ?a_told_loom ?l_told_loom ?d_told_loom ?k_told_loom ?a_loom_of ?l_loom_of ?d_loom_of ?k_loom_of ?a_want_most ?l_want_most ?d_want_most ?k_want_most ?a_by_lift_plan ?l_by_lift_plan ?d_by_lift_plan ?k_by_lift_plan ?a_plan_of ?l_plan_of ?d_plan_of ?k_plan_of ?a_lift_plan ?l_lift_plan ?d_lift_plan ?k_lift_plan ?a__law_pick ?l__law_pick ?d__law_pick ?k__law_pick ?a__law_bent_row ?l__law_bent_row ?d__law_bent_row ?k__law_bent_row ?a__law_bent ?l__law_bent ?d__law_bent ?k__law_bent ?a__law_is_whole ?l__law_is_whole ?d__law_is_whole ?k__law_is_whole ?a__law_are ?l__law_are ?d__law_are ?k__law_are ?a__law_is_lift ?l__law_is_lift ?d__law_is_lift ?k__law_is_lift ?a__law_is_loom ?l__law_is_loom ?d__law_is_loom ?k__law_is_loom ?a_is_loom ?l_is_loom ?d_is_loom ?k_is_loom ?a__law_right ?l__law_right ?d__law_right ?k__law_right ?a__law_pot ?l__law_pot ?d__law_pot ?k__law_pot ?a_law ?l_law ?d_law ?k_law ?z_abs ?z_all ?z_any ?z_bool ?z_divmod ?z_enumerate ?z_int ?z_isinstance ?z_len ?z_list ?z_max ?z_min ?z_range ?z_repr ?z_set ?z_sorted ?z_str ?z_tuple ?z_zip ?q_LOOM ?q_MOST
    (case a__law_draw => k_is); (case l__law_draw => k_is); (case d__law_draw => k_is); (case k__law_draw => k_is); (case a__law_loom => k_is); (case l__law_loom => k_is); (case d__law_loom => k_is); (case k__law_loom => k_is)
    (case a__law_woven => k_is); (case l__law_woven => k_is); (case d__law_woven => k_is); (case k__law_woven => k_is); (case a_is_integer => k_is); (case l_is_integer => k_is); (case d_is_integer => k_is); (case k_is_integer => k_is)
    (case a_is_within => k_is); (case l_is_within => k_is); (case d_is_within => k_is); (case k_is_within => k_is); (case a_are_numbers => k_is); (case l_are_numbers => k_is); (case d_are_numbers => k_is); (case k_are_numbers => k_is)
    (case a_is_tuple => k_is); (case l_is_tuple => k_is); (case d_is_tuple => k_is); (case k_is_tuple => k_is); (case a_are_rising => k_is); (case l_are_rising => k_is); (case d_are_rising => k_is); (case k_are_rising => k_is)
    (case a_is_lot_of => k_is); (case l_is_lot_of => k_is); (case d_is_lot_of => k_is); (case k_is_lot_of => k_is); (case a_are_lifts => k_is); (case l_are_lifts => k_is); (case d_are_lifts => k_is); (case k_are_lifts => k_is)
    (case a_is_loom_value => k_is); (case l_is_loom_value => k_is); (case d_is_loom_value => k_is); (case k_is_loom_value => k_is); (case a_want_loom => k_is); (case l_want_loom => k_is); (case d_want_loom => k_is); (case k_want_loom => k_is)
    (case a_by_first => k_is); (case l_by_first => k_is); (case d_by_first => k_is); (case k_by_first => k_is); (case a_numbered => k_is); (case l_numbered => k_is); (case d_numbered => k_is); (case k_numbered => k_is)
    (case a_tidy => k_is); (case l_tidy => k_is); (case d_tidy => k_is); (case k_tidy => k_is); (case a_tidied => k_is); (case l_tidied => k_is); (case d_tidied => k_is); (case k_tidied => k_is)
    (case a_others => k_is); (case l_others => k_is); (case d_others => k_is); (case k_others => k_is); (case a_loom_contrary => k_is); (case l_loom_contrary => k_is); (case d_loom_contrary => k_is); (case k_loom_contrary => k_is)
    (case a_loom_quartered => k_is); (case l_loom_quartered => k_is); (case d_loom_quartered => k_is); (case k_loom_quartered => k_is); (case a_is_headed => k_is); (case l_is_headed => k_is); (case d_is_headed => k_is); (case k_is_headed => k_is)
    (case a_are_rows_of => k_is); (case l_are_rows_of => k_is); (case d_are_rows_of => k_is); (case k_are_rows_of => k_is); (case a_is_draft_value => k_is); (case l_is_draft_value => k_is); (case d_is_draft_value => k_is); (case k_is_draft_value => k_is)
    (case a_want_draft => k_is); (case l_want_draft => k_is); (case d_want_draft => k_is); (case k_want_draft => k_is); (case a_many_warps => k_is); (case l_many_warps => k_is); (case d_many_warps => k_is); (case k_many_warps => k_is)
    (case a_columns_of => k_is); (case l_columns_of => k_is); (case d_columns_of => k_is); (case k_columns_of => k_is); (case a_told_loom => k_is); (case l_told_loom => k_is); (case d_told_loom => k_is); (case k_told_loom => k_is)
    (case a_loom_of => k_is); (case l_loom_of => k_is); (case d_loom_of => k_is); (case k_loom_of => k_is); (case a_want_most => k_is); (case l_want_most => k_is); (case d_want_most => k_is); (case k_want_most => k_is)
    (case a_by_lift_plan => k_is); (case l_by_lift_plan => k_is); (case d_by_lift_plan => k_is); (case k_by_lift_plan => k_is); (case a_plan_of => k_is); (case l_plan_of => k_is); (case d_plan_of => k_is); (case k_plan_of => k_is)
    (case a_lift_plan => k_is); (case l_lift_plan => k_is); (case d_lift_plan => k_is); (case k_lift_plan => k_is); (case a__law_pick => k_is); (case l__law_pick => k_is); (case d__law_pick => k_is); (case k__law_pick => k_is)
    (case a__law_bent_row => k_is); (case l__law_bent_row => k_is); (case d__law_bent_row => k_is); (case k__law_bent_row => k_is); (case a__law_bent => k_is); (case l__law_bent => k_is); (case d__law_bent => k_is); (case k__law_bent => k_is)
    (case a__law_is_whole => k_is); (case l__law_is_whole => k_is); (case d__law_is_whole => k_is); (case k__law_is_whole => k_is); (case a__law_are => k_is); (case l__law_are => k_is); (case d__law_are => k_is); (case k__law_are => k_is)
    (case a__law_is_lift => k_is); (case l__law_is_lift => k_is); (case d__law_is_lift => k_is); (case k__law_is_lift => k_is); (case a__law_is_loom => k_is); (case l__law_is_loom => k_is); (case d__law_is_loom => k_is); (case k__law_is_loom => k_is)
    (case a_is_loom => k_is); (case l_is_loom => k_is); (case d_is_loom => k_is); (case k_is_loom => k_is); (case a__law_right => k_is); (case l__law_right => k_is); (case d__law_right => k_is); (case k__law_right => k_is)
    (case a__law_pot => k_is); (case l__law_pot => k_is); (case d__law_pot => k_is); (case k__law_pot => k_is); (case a_law => k_is); (case l_law => k_is); (case d_law => k_is); (case k_law => k_is)
    (case z_abs => k_is); (case z_all => k_is); (case z_any => k_is); (case z_bool => k_is); (case z_divmod => k_is); (case z_enumerate => k_is); (case z_int => k_is); (case z_isinstance => k_is)
    (case z_len => k_is); (case z_list => k_is); (case z_max => k_is); (case z_min => k_is); (case z_range => k_is); (case z_repr => k_is); (case z_set => k_is); (case z_sorted => k_is)
    (case z_str => k_is); (case z_tuple => k_is); (case z_zip => k_is); (case q_LOOM => k_is); (case q_MOST => k_is)

