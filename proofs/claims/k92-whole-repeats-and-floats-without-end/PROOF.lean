import PyProof.Rows.All
import Wide.All
import OpenK.AllK
import Wide.FinOn
import HandS.ForMost
import HandS.IsInst
import HandS.TupLen
import HandS.Dict
import HandS.TupAny
import HandS.TupMul
import HandS.Style
import HandS.Deep
import HandS.Conv
import HandS.Zip
import HandS.RaiseMore
import HandS.SortInts
import KE.GoesEnum
import KE.GoesMore
import HandS.Strs
import HandS.SetFor
import HandS.Ends
import HandS.DictComp
import HandS.More
import KE.KDictDisplayH
import KE.SortData
import HandS.TryOnly
import PyProof.P3Eq
import PyProof.ReprLen
import PySem.Challenge.RW_onecloth_k92_whole_repeats_and_floats_wi
set_option Elab.async false
set_option linter.all false
set_option maxRecDepth 100000
set_option maxHeartbeats 4000000
/-! DL, part 1: data trees over the abstract heap, slots, frames. -/
namespace DL
open PySem PySem.Spec PyProof.Rows L2

/-! ### heaps -/
def Ex (H H' : Hp) : Prop := ∀ a o, H a = some o → H' a = some o
theorem Ex.refl (H : Hp) : Ex H H := fun _ _ h => h
theorem Ex.trans {H H1 H2 : Hp} (a : Ex H H1) (b : Ex H1 H2) : Ex H H2 := fun x o h => b x o (a x o h)
theorem Ex.live {H H' : Hp} (e : Ex H H') {b : Addr} (h : H b ≠ none) : H' b ≠ none := by
  cases q : H b with
  | none => exact absurd q h
  | some o => rw [e b o q]; simp
theorem Ex.free {H H' : Hp} (e : Ex H H') {b : Addr} (h : H' b = none) : H b = none := by
  cases q : H b with
  | none => rfl
  | some o => rw [e b o q] at h; cases h
theorem Ex.new {H : Hp} {p : Addr} {o : HO} (h : H p = none) : Ex H (upd H p o) := fun a u e => by
  rw [upd_ne (ne_of_none e h)]; exact e
theorem Ex.rd {H H' : Hp} {a : Addr} {u : HO} (e : Ex H H') (h : Rd H a u) : Rd H' a u := by
  rcases h with h | ⟨o, h⟩
  · exact .inl (e a _ h)
  · exact .inr ⟨o, e a _ h⟩
theorem Ex.sl {K : PySem.W.Frag} {H H' : Hp} {a : Addr} {xs : List V} (e : Ex H H') (h : SqL K H a xs) : SqL K H' a xs := by
  rcases h with h | h
  · exact .inl (e.rd h)
  · exact .inr h
theorem Ex.st {K : PySem.W.Frag} {H H' : Hp} {a : Addr} {xs : List V} (e : Ex H H') (h : SqT K H a xs) : SqT K H' a xs := by
  rcases h with h | h
  · exact .inl (e.rd h)
  · exact .inr h

/-- what the walk stands on: the module's objects, the program, the world -/
structure KK where
  K : PySem.W.Frag
  P : Program
  w : World
instance : Coe KK PySem.W.Frag := ⟨KK.K⟩
/-! ### dicts whose keys are tuples -/
abbrev XL := List (List Key × Addr × V)
def valX (kvs : XL) (k : List Key) : Option V := (kvs.find? fun p => decide (p.1 = k)).map (·.2.2)
def putX (kvs : XL) (k : List Key) (b : Addr) (v : V) : XL := if (valX kvs k).isSome = true then kvs.map (fun p => if p.1 = k then (p.1, p.2.1, v) else p) else kvs ++ [(k, b, v)]
abbrev XT : XL → List (List Key × Addr × Value) → Prop := Paired fun p q => p.1 = q.1 ∧ p.2.1 = q.2.1 ∧ RelV p.2.2 q.2.2
theorem XT.val {kvs : XL} {xs : List (List Key × Addr × Value)} (r : XT kvs xs) (k : List Key) : RelO (valX kvs k) ((atKey xs k).map (·.2)) := by
  induction r with
  | nil => exact True.intro
  | @cons p q ps qs h t ih =>
    obtain ⟨h1, _, h2⟩ := h
    by_cases e : p.1 = k
    · have e' : q.1 = k := h1.symm.trans e
      have b : atKey (q :: qs) k = some q.2 := by simp [atKey, List.find?_cons, e']
      have c : valX (p :: ps) k = some p.2.2 := by simp [valX, List.find?_cons, e]
      rw [c, b]; exact h2
    · have e' : ¬ q.1 = k := fun z => e (h1.trans z)
      have b : atKey (q :: qs) k = atKey qs k := by simp [atKey, List.find?_cons, e']
      have c : valX (p :: ps) k = valX ps k := by simp [valX, List.find?_cons, e]
      rw [c, b]; exact ih
theorem XT.repl {kvs : XL} {xs : List (List Key × Addr × Value)} (r : XT kvs xs) (k : List Key) {y : V} {u : Value} (ry : RelV y u) : XT (kvs.map fun p => if p.1 = k then (p.1, p.2.1, y) else p) (xs.map (putAt k u)) := by
  induction r with
  | nil => exact .nil
  | @cons p q ps qs h t ih =>
    rw [List.map_cons, List.map_cons]
    refine .cons ?_ ih
    obtain ⟨h1, h2, h3⟩ := h
    unfold putAt
    by_cases e : p.1 = k
    · rw [if_pos e, if_pos (h1.symm.trans e)]; exact ⟨h1, h2, ry⟩
    · rw [if_neg e, if_neg (fun z => e (h1.trans z))]; exact ⟨h1, h2, h3⟩
theorem XT.put {kvs : XL} {xs : List (List Key × Addr × Value)} (r : XT kvs xs) (k : List Key) {b : Addr} {y : V} {u : Value} (ry : RelV y u) : XT (putX kvs k b y) (storedH xs k b u) := by
  have e : (valX kvs k).isSome = (atKey xs k).isSome := by rw [(r.val k).isSome_eq, Option.isSome_map]
  unfold putX storedH
  rw [e]
  by_cases q : (atKey xs k).isSome = true
  · rw [if_pos q, if_pos q]; exact r.repl k ry
  · rw [if_neg q, if_neg q]; exact Paired.snoc r ⟨rfl, rfl, ry⟩
theorem putX_len (kvs : XL) (k : List Key) (b : Addr) (v : V) : (putX kvs k b v).length ≤ kvs.length + 1 := by
  unfold putX
  split
  · simp
  · simp
theorem putX_mem {kvs : XL} {k : List Key} {b : Addr} {v : V} {p : List Key × Addr × V} (h : p ∈ putX kvs k b v) : (∃ q ∈ kvs, p.1 = q.1 ∧ p.2.1 = q.2.1 ∧ (p.2.2 = q.2.2 ∨ p.2.2 = v)) ∨ p = (k, b, v) := by
  unfold putX at h
  split at h
  · obtain ⟨q, hq, e⟩ := List.mem_map.mp h
    refine .inl ⟨q, hq, ?_⟩
    split at e
    · subst e; exact ⟨rfl, rfl, .inr rfl⟩
    · subst e; exact ⟨rfl, rfl, .inl rfl⟩
  · rcases List.mem_append.mp h with h | h
    · exact .inl ⟨p, h, rfl, rfl, .inl rfl⟩
    · exact .inr (List.mem_singleton.mp h)
/-- the dict's object at a -/
def DXp (P : Program) (w : World) (a : Addr) (kvs : XL) (h : Heap) : Prop := kvs.length ≤ sizeLine ∧ (a == sysModules) = false ∧ ∃ xs, XT kvs xs ∧ ∃ o es ep, h.get? a = some o ∧ o.ExactDict ∧ o.data = .dict es ep ∧ es.toList = xs.map (entryOfKey (tupleKind (mixKind P w))) ∧ (xs.map (·.1)).Nodup
def DX (P : Program) (w : World) (a : Addr) (kvs : XL) : HO := .ext (DXp P w a kvs)
theorem dx_new {P : Program} {w : World} {H : Hp} {h : Heap} {a : Addr} {kvs : XL} (x : DXp P w a kvs h) : ObjOk P w H h a (DX P w a kvs) := by
  have ⟨_, _, _, _, o, _, _, ho, _⟩ := x
  refine ⟨x, ⟨o, ho⟩, fun h1 h2 p k => ?_⟩
  obtain ⟨z, y, xs, r, o, es, ep, q1, q2⟩ := p
  exact ⟨z, y, xs, r, o, es, ep, k o q1, q2⟩
/-! ### data at values -/
def keyD : Key → PyData
  | .inl i => .int i
  | .inr x => .str x
/-- a key that is a tuple -/
def keyT (ks : List Key) : PyData := .tuple (ks.map keyD)
mutual
inductive Rp (K : KK) (H : Hp) : V → PyData → Prop
  | non : Rp K H .non .none
  | bl (b : Bool) : Rp K H (.bl b) (.bool b)
  | int (i : Int) : Rp K H (.int i) (.int i)
  | str (x : Str) : Rp K H (.str x) (.str x)
  | lst {a : Addr} {xs : List V} {ds : List PyData} : H a = some (.lst xs) → RpAll K H xs ds → Rp K H (.ref a) (.list ds)
  | tup {a : Addr} {xs : List V} {ds : List PyData} : SqT K H a xs → RpAll K H xs ds → Rp K H (.ref a) (.tuple ds)
  | dic {a : Addr} {kvs : List (Key × V)} {ds : List (PyData × PyData)} : Rd H a (.dK kvs) → RpKV K H kvs ds → Rp K H (.ref a) (.dict ds)
  | dicT {a : Addr} {kvs : XL} {ds : List (PyData × PyData)} : H a = some (DX K.P K.w a kvs) → XTV K H kvs ds → ds ≠ [] → Rp K H (.ref a) (.dict ds)
  /-- the law's script: a list that is read alone -/
  | scr {a : Addr} {xs : List V} {ds : List PyData} : SqL K H a xs → RpAll K H xs ds → Rp K H (.ref a) (.dict [(.none, .list ds)])
inductive RpAll (K : KK) (H : Hp) : List V → List PyData → Prop
  | nil : RpAll K H [] []
  | cons {v : V} {vs : List V} {d : PyData} {ds : List PyData} : Rp K H v d → RpAll K H vs ds → RpAll K H (v :: vs) (d :: ds)
inductive RpKV (K : KK) (H : Hp) : List (Key × V) → List (PyData × PyData) → Prop
  | nil : RpKV K H [] []
  | cons {k : Key} {v : V} {r : List (Key × V)} {d : PyData} {ds : List (PyData × PyData)} : Rp K H v d → RpKV K H r ds → RpKV K H ((k, v) :: r) ((keyD k, d) :: ds)
inductive XTV (K : KK) (H : Hp) : XL → List (PyData × PyData) → Prop
  | nil : XTV K H [] []
  | cons {k : List Key} {b : Addr} {v : V} {r : XL} {d : PyData} {ds : List (PyData × PyData)} : SqT K H b (k.map kV) → Rp K H v d → XTV K H r ds → XTV K H ((k, b, v) :: r) ((keyT k, d) :: ds)
end

section
variable {K : KK} {H H' : Hp}
mutual
theorem Rp.mono (e : Ex H H') : ∀ {v : V} {d : PyData}, Rp K H v d → Rp K H' v d
  | _, _, .non => .non
  | _, _, .bl b => .bl b
  | _, _, .int i => .int i
  | _, _, .str x => .str x
  | _, _, .lst h r => .lst (e _ _ h) (RpAll.mono e r)
  | _, _, .tup h r => .tup (e.st h) (RpAll.mono e r)
  | _, _, .dic h r => .dic (e.rd h) (RpKV.mono e r)
  | _, _, .dicT h r n => .dicT (e _ _ h) (XTV.mono e r) n
  | _, _, .scr h r => .scr (e.sl h) (RpAll.mono e r)
theorem RpAll.mono (e : Ex H H') : ∀ {vs : List V} {ds : List PyData}, RpAll K H vs ds → RpAll K H' vs ds
  | _, _, .nil => .nil
  | _, _, .cons h r => .cons (Rp.mono e h) (RpAll.mono e r)
theorem RpKV.mono (e : Ex H H') : ∀ {vs : List (Key × V)} {ds : List (PyData × PyData)}, RpKV K H vs ds → RpKV K H' vs ds
  | _, _, .nil => .nil
  | _, _, .cons h r => .cons (Rp.mono e h) (RpKV.mono e r)
theorem XTV.mono (e : Ex H H') : ∀ {vs : XL} {ds : List (PyData × PyData)}, XTV K H vs ds → XTV K H' vs ds
  | _, _, .nil => .nil
  | _, _, .cons b h r => .cons (e.st b) (Rp.mono e h) (XTV.mono e r)
end
theorem RpAll.length : ∀ {vs : List V} {ds : List PyData}, RpAll K H vs ds → vs.length = ds.length
  | _, _, .nil => rfl
  | _, _, .cons _ r => by simp [r.length]
theorem RpAll.get : ∀ {vs : List V} {ds : List PyData} {i : Nat} {d : PyData}, RpAll K H vs ds → ds[i]? = some d → ∃ v, vs[i]? = some v ∧ Rp K H v d
  | _, _, _, _, .nil, e => by simp at e
  | _, _, 0, _, .cons r _, e => by simp at e; subst e; exact ⟨_, rfl, r⟩
  | _, _, i + 1, d, .cons _ t, e => by
    obtain ⟨v, h1, h2⟩ := RpAll.get (i := i) (d := d) t (by simpa using e)
    exact ⟨v, by simpa using h1, h2⟩
theorem RpAll.getV : ∀ {vs : List V} {ds : List PyData} {i : Nat} {v : V}, RpAll K H vs ds → vs[i]? = some v → ∃ d, ds[i]? = some d ∧ Rp K H v d
  | _, _, _, _, .nil, e => by simp at e
  | _, _, 0, _, .cons r _, e => by simp at e; subst e; exact ⟨_, rfl, r⟩
  | _, _, i + 1, v, .cons _ t, e => by
    obtain ⟨d, h1, h2⟩ := RpAll.getV (i := i) (v := v) t (by simpa using e)
    exact ⟨d, by simpa using h1, h2⟩
theorem RpAll.append : ∀ {vs ws : List V} {ds es : List PyData}, RpAll K H vs ds → RpAll K H ws es → RpAll K H (vs ++ ws) (ds ++ es)
  | _, _, _, _, .nil, s => s
  | _, _, _, _, .cons r t, s => .cons r (RpAll.append t s)
theorem RpAll.take : ∀ {vs : List V} {ds : List PyData} (n : Nat), RpAll K H vs ds → RpAll K H (vs.take n) (ds.take n)
  | _, _, 0, _ => .nil
  | _, _, _ + 1, .nil => .nil
  | _, _, n + 1, .cons r t => .cons r (RpAll.take n t)
theorem RpAll.drop : ∀ {vs : List V} {ds : List PyData} (n : Nat), RpAll K H vs ds → RpAll K H (vs.drop n) (ds.drop n)
  | _, _, 0, r => r
  | _, _, _ + 1, .nil => .nil
  | _, _, n + 1, .cons _ t => RpAll.drop n t
theorem RpAll.set {v : V} {d : PyData} (r : Rp K H v d) : ∀ {vs : List V} {ds : List PyData} (i : Nat), RpAll K H vs ds → RpAll K H (vs.set i v) (ds.set i d)
  | _, _, _, .nil => .nil
  | _, _, 0, .cons _ t => .cons r t
  | _, _, i + 1, .cons q t => .cons q (RpAll.set r i t)
theorem RpAll.reverse {vs : List V} {ds : List PyData} (h : RpAll K H vs ds) : RpAll K H vs.reverse ds.reverse := by
  induction vs generalizing ds with
  | nil => cases h; exact .nil
  | cons v vs ih =>
    cases h with
    | cons r t =>
      rw [List.reverse_cons, List.reverse_cons]
      exact (ih t).append (.cons r .nil)
theorem RpAll.eraseIdx : ∀ {vs : List V} {ds : List PyData} (i : Nat), RpAll K H vs ds → RpAll K H (vs.eraseIdx i) (ds.eraseIdx i)
  | _, _, _, .nil => .nil
  | _, _, 0, .cons _ t => t
  | _, _, i + 1, .cons q t => .cons q (RpAll.eraseIdx i t)
theorem RpAll.dropLast {vs : List V} {ds : List PyData} (h : RpAll K H vs ds) : RpAll K H vs.dropLast ds.dropLast := by
  rw [List.dropLast_eq_take, List.dropLast_eq_take, h.length]
  exact h.take _
theorem RpAll.flat {vs : List V} {ds : List PyData} (h : RpAll K H vs ds) : ∀ n : Nat, RpAll K H (List.replicate n vs).flatten (List.replicate n ds).flatten
  | 0 => .nil
  | n + 1 => by
    rw [List.replicate_succ, List.replicate_succ, List.flatten_cons, List.flatten_cons]
    exact h.append (h.flat n)
theorem RpAll.bools : ∀ {bs : List Bool} {vs : List V}, RpAll K H vs (bs.map .bool) → vs = bs.map V.bl
  | [], _, .nil => rfl
  | b :: bs, _, .cons r t => by cases r; rw [RpAll.bools t]; rfl
theorem RpAll.ints : ∀ {ns : List Int} {vs : List V}, RpAll K H vs (ns.map .int) → vs = ns.map V.int
  | [], _, .nil => rfl
  | b :: bs, _, .cons r t => by cases r; rw [RpAll.ints t]; rfl
theorem RpAll.strs : ∀ {ns : List Str} {vs : List V}, RpAll K H vs (ns.map .str) → vs = ns.map V.str
  | [], _, .nil => rfl
  | b :: bs, _, .cons r t => by cases r; rw [RpAll.strs t]; rfl
theorem RpAll.of_ints : ∀ (ns : List Int), RpAll K H (ns.map V.int) (ns.map .int)
  | [] => .nil
  | n :: ns => .cons (.int n) (RpAll.of_ints ns)
theorem RpAll.of_strs : ∀ (ns : List Str), RpAll K H (ns.map V.str) (ns.map .str)
  | [] => .nil
  | n :: ns => .cons (.str n) (RpAll.of_strs ns)
end

/-! ### slots -/
/-- what an object of one's own holds: a list, a dict -/
inductive OB where
  | lst (xs : List PyData)
  | dct (t : Bool) (kvs : List (PyData × PyData))
instance : Coe (List PyData) OB := ⟨OB.lst⟩
def OB.dat : OB → PyData
  | .lst xs => .list xs
  | .dct _ kvs => .dict kvs
/-- it can stand still -/
def OB.fz : OB → Bool
  | .dct true kvs => !kvs.isEmpty
  | _ => true
/-- what is told of a slot: nothing; it holds these data, that stand still; it holds an object of its own (b: borrowed from the caller) -/
inductive SD where
  | un
  | d (x : PyData)
  | own (b : Bool) (xs : OB)
/-- an object of the heap that holds such items -/
inductive OwR (K : KK) (a : Addr) (G : Hp) : HO → OB → Prop
  | lst {vs : List V} {xs : List PyData} : RpAll K G vs xs → OwR K a G (.lst vs) (.lst xs)
  | dK {vs : List (Key × V)} {xs : List (PyData × PyData)} : RpKV K G vs xs → OwR K a G (.dK vs) (.dct false xs)
  | dX {vs : XL} {xs : List (PyData × PyData)} : XTV K G vs xs → OwR K a G (DX K.P K.w a vs) (.dct true xs)
theorem OwR.mono {K : KK} {a : Addr} {G G' : Hp} {u : HO} {o : OB} (e : Ex G G') : OwR K a G u o → OwR K a G' u o
  | .lst h => .lst (h.mono e)
  | .dK h => .dK (h.mono e)
  | .dX h => .dX (h.mono e)
/-- an object that is known -/
theorem OwR.rp {K : KK} {G : Hp} {a : Addr} {u : HO} {o : OB} (h : OwR K a G u o) (g : G a = some u) (hf : o.fz = true) : Rp K G (.ref a) o.dat := by
  cases h with
  | lst h => exact .lst g h
  | dK h => exact .dic (.inl g) h
  | dX h => exact .dicT g h fun e => by subst e; cases hf

/-- a frame's entry: the heap, what is known of it, the slots -/
structure Fr where
  H0 : Hp
  G0 : Hp
  Dl : List SD
  s0 : L2.St
/-- a is the address of a list that is borrowed -/
def Fr.B (F : Fr) (a : Addr) : Prop := ∃ (i : Nat) (b : Bool) (xs : OB), F.Dl[i]? = some (.own b xs) ∧ F.s0[i]? = some (some (.ref a))

/-- the slots S as they are told, the heap H, of which G is known and stands still -/
structure SR (K : KK) (F : Fr) (S : List SD) (σ : L2.St) (H G : Hp) : Prop where
  len : σ.length = S.length
  g0 : Ex F.G0 G
  gh : Ex G H
  new : ∀ b, G b ≠ none → F.G0 b ≠ none ∨ F.H0 b = none
  keep : ∀ b o, F.H0 b = some o → ¬ F.B b → H b = some o
  live : ∀ b, F.H0 b ≠ none → H b ≠ none
  dat : ∀ (i : Nat) (x : PyData), S[i]? = some (.d x) → ∃ v, σ[i]? = some (some v) ∧ Rp K G v x
  own : ∀ (i : Nat) (b : Bool) (xs : OB), S[i]? = some (.own b xs) → ∃ a vs, σ[i]? = some (some (.ref a)) ∧ G a = none ∧ H a = some vs ∧ OwR K a G vs xs ∧
    (b = true → F.B a ∧ F.s0[i]? = some (some (.ref a))) ∧ (b = false → F.H0 a = none)
  sep : ∀ (i j : Nat) (a : Addr) (b1 : Bool) (x1 : OB) (b2 : Bool) (x2 : OB), S[i]? = some (.own b1 x1) → S[j]? = some (.own b2 x2) → σ[i]? = some (some (.ref a)) → σ[j]? = some (some (.ref a)) → i = j

/-- the heap grows by new known objects alone -/
structure PX (G H G' H' : Hp) : Prop where
  gg : Ex G G'
  hh : Ex H H'
  gh : Ex G' H'
  new : ∀ b, G' b ≠ none → G b ≠ none ∨ H b = none
theorem PX.refl {G H : Hp} (e : Ex G H) : PX G H G H := ⟨.refl _, .refl _, e, fun _ h => .inl h⟩
theorem PX.trans {G H G1 H1 G2 H2 : Hp} (a : PX G H G1 H1) (b : PX G1 H1 G2 H2) : PX G H G2 H2 :=
  ⟨a.gg.trans b.gg, a.hh.trans b.hh, b.gh, fun x h => (b.new x h).elim (a.new x) fun q => .inr (a.hh.free q)⟩
/-- a new object, known -/
theorem PX.laid {G H : Hp} {p : Addr} {o : HO} (e : Ex G H) (h : H p = none) : PX G H (upd G p o) (upd H p o) := by
  refine ⟨.new (e.free h), .new h, fun b u q => ?_, fun b q => ?_⟩
  · by_cases hb : b = p
    · subst hb; rw [upd_same] at q ⊢; exact q
    · rw [upd_ne hb] at q ⊢; exact e b u q
  · by_cases hb : b = p
    · subst hb; exact .inr h
    · rw [upd_ne hb] at q; exact .inl q
/-- a new object, unknown -/
theorem PX.side {G H : Hp} {p : Addr} {o : HO} (e : Ex G H) (h : H p = none) : PX G H G (upd H p o) :=
  ⟨.refl _, .new h, e.trans (.new h), fun _ q => .inl q⟩

section
variable {K : KK} {F : Fr} {S S' : List SD} {σ : L2.St} {H G H' G' : Hp}
theorem SR.ext (r : SR K F S σ H G) (p : PX G H G' H') : SR K F S σ H' G' := by
  refine ⟨r.len, r.g0.trans p.gg, p.gh, fun b h => ?_, fun b o h n => p.hh b o (r.keep b o h n), fun b h => p.hh.live (r.live b h), fun i x h => ?_, fun i b xs h => ?_, r.sep⟩
  · rcases p.new b h with q | q
    · exact r.new b q
    · cases z : F.H0 b with
      | none => exact .inr rfl
      | some o => exact absurd q (r.live b (by rw [z]; simp))
  · obtain ⟨v, h1, h2⟩ := r.dat i x h
    exact ⟨v, h1, h2.mono p.gg⟩
  · obtain ⟨a, vs, h1, h2, h3, h4, h5⟩ := r.own i b xs h
    refine ⟨a, vs, h1, ?_, p.hh a _ h3, h4.mono p.gg, h5⟩
    cases z : G' a with
    | none => rfl
    | some o =>
      rcases p.new a (by rw [z]; simp) with q | q
      · exact absurd h2 q
      · rw [h3] at q; cases q
/-- a slot is given data -/
theorem SR.setD (r : SR K F S σ H G) (i : Nat) {v : V} {x : PyData} (h : Rp K G v x) : SR K F (S.set i (.d x)) (σ.set i (some v)) H G := by
  have L := r.len
  refine ⟨by simp [L], r.g0, r.gh, r.new, r.keep, r.live, fun j y e => ?_, fun j b xs e => ?_, fun j k a b1 x1 b2 x2 e1 e2 e3 e4 => ?_⟩
  · by_cases hj : i = j
    · subst hj
      by_cases hl : i < S.length
      · rw [List.getElem?_set_self hl] at e
        cases e
        exact ⟨v, by rw [List.getElem?_set_self (by omega)], h⟩
      · rw [List.getElem?_eq_none (by simpa using Nat.le_of_not_lt hl)] at e; cases e
    · rw [List.getElem?_set_ne hj] at e ⊢
      exact r.dat j y e
  · by_cases hj : i = j
    · subst hj
      by_cases hl : i < S.length
      · rw [List.getElem?_set_self hl] at e; cases e
      · rw [List.getElem?_eq_none (by simpa using Nat.le_of_not_lt hl)] at e; cases e
    · rw [List.getElem?_set_ne hj] at e ⊢
      exact r.own j b xs e
  · have ne : ∀ m c y, (S.set i (.d x))[m]? = some (.own c y) → i ≠ m := fun m c y e q => by
      subst q
      by_cases hl : i < S.length
      · rw [List.getElem?_set_self hl] at e; cases e
      · rw [List.getElem?_eq_none (by simpa using Nat.le_of_not_lt hl)] at e; cases e
    have n1 := ne _ _ _ e1
    have n2 := ne _ _ _ e2
    rw [List.getElem?_set_ne n1] at e1 e3
    rw [List.getElem?_set_ne n2] at e2 e4
    exact r.sep j k a b1 x1 b2 x2 e1 e2 e3 e4
/-- an address that no slot owns -/
def Apart (S : List SD) (σ : L2.St) (a : Addr) : Prop := ∀ (i : Nat) (b : Bool) (xs : OB), S[i]? = some (.own b xs) → σ[i]? ≠ some (some (.ref a))
/-- a slot is given a fresh list -/
theorem SR.setO (r : SR K F S σ H G) (i : Nat) {a : Addr} {vs : HO} {xs : OB} (hg : G a = none) (hh : H a = some vs) (h : OwR K a G vs xs) (h0 : F.H0 a = none) (ap : Apart S σ a) :
    SR K F (S.set i (.own false xs)) (σ.set i (some (.ref a))) H G := by
  have L := r.len
  refine ⟨by simp [L], r.g0, r.gh, r.new, r.keep, r.live, fun j y e => ?_, fun j b ys e => ?_, fun j k c b1 x1 b2 x2 e1 e2 e3 e4 => ?_⟩
  · by_cases hj : i = j
    · subst hj
      by_cases hl : i < S.length
      · rw [List.getElem?_set_self hl] at e; cases e
      · rw [List.getElem?_eq_none (by simpa using Nat.le_of_not_lt hl)] at e; cases e
    · rw [List.getElem?_set_ne hj] at e ⊢
      exact r.dat j y e
  · by_cases hj : i = j
    · subst hj
      by_cases hl : i < S.length
      · rw [List.getElem?_set_self hl] at e
        cases e
        exact ⟨a, vs, by rw [List.getElem?_set_self (by omega)], hg, hh, h, (fun q => by cases q), fun _ => h0⟩
      · rw [List.getElem?_eq_none (by simpa using Nat.le_of_not_lt hl)] at e; cases e
    · rw [List.getElem?_set_ne hj] at e ⊢
      exact r.own j b ys e
  · by_cases hj : i = j
    · by_cases hk : i = k
      · exact hj.symm.trans hk
      · subst hj
        rw [List.getElem?_set_ne hk] at e2 e4
        by_cases hl : i < S.length
        · rw [List.getElem?_set_self (by omega)] at e3
          cases e3
          exact absurd e4 (ap k _ _ e2)
        · rw [List.getElem?_eq_none (by simpa using Nat.le_of_not_lt hl)] at e1; cases e1
    · rw [List.getElem?_set_ne hj] at e1 e3
      by_cases hk : i = k
      · subst hk
        by_cases hl : i < S.length
        · rw [List.getElem?_set_self (by omega)] at e4
          cases e4
          exact absurd e3 (ap j _ _ e1)
        · rw [List.getElem?_eq_none (by simpa using Nat.le_of_not_lt hl)] at e2; cases e2
      · rw [List.getElem?_set_ne hk] at e2 e4
        exact r.sep j k c b1 x1 b2 x2 e1 e2 e3 e4
/-- a slot's list becomes known -/
theorem SR.freeze (r : SR K F S σ H G) {i : Nat} {xs : OB} (e : S[i]? = some (.own false xs)) (hf : xs.fz = true) :
    ∃ v G', Ex G G' ∧ σ[i]? = some (some v) ∧ Rp K G' v xs.dat ∧ SR K F (S.set i (.d xs.dat)) σ H G' := by
  obtain ⟨a, vs, h1, h2, h3, h4, _, h6⟩ := r.own i _ _ e
  have e0 : F.H0 a = none := h6 rfl
  have eg : Ex G (upd G a vs) := .new h2
  have hl : i < S.length := (List.getElem?_eq_some_iff.mp e).1
  have rp : Rp K (upd G a vs) (.ref a) xs.dat := (h4.mono eg).rp upd_same hf
  refine ⟨.ref a, upd G a vs, eg, h1, rp, ⟨by simp [r.len], r.g0.trans eg, fun b o q => ?_, fun b q => ?_, r.keep, r.live, fun j y q => ?_, fun j b ys q => ?_, fun j k c b1 x1 b2 x2 e1 e2 e3 e4 => ?_⟩⟩
  · by_cases hb : b = a
    · subst hb; rw [upd_same] at q; cases q; exact h3
    · rw [upd_ne hb] at q; exact r.gh b o q
  · by_cases hb : b = a
    · subst hb; exact .inr e0
    · rw [upd_ne hb] at q; exact r.new b q
  · by_cases hj : i = j
    · subst hj
      rw [List.getElem?_set_self hl] at q
      cases q
      exact ⟨.ref a, h1, rp⟩
    · rw [List.getElem?_set_ne hj] at q
      obtain ⟨v, q1, q2⟩ := r.dat j y q
      exact ⟨v, q1, q2.mono eg⟩
  · by_cases hj : i = j
    · subst hj
      rw [List.getElem?_set_self hl] at q; cases q
    · rw [List.getElem?_set_ne hj] at q
      obtain ⟨c, ws, q1, q2, q3, q4, q5⟩ := r.own j b ys q
      refine ⟨c, ws, q1, ?_, q3, q4.mono eg, q5⟩
      have nc : c ≠ a := fun z => by
        subst z
        exact hj (r.sep i j c _ _ _ _ e q h1 q1)
      rw [upd_ne nc]; exact q2
  · have ne : ∀ m c y, (S.set i (.d xs.dat))[m]? = some (.own c y) → i ≠ m := fun m c y e q => by
      subst q
      rw [List.getElem?_set_self hl] at e; cases e
    have n1 := ne _ _ _ e1
    have n2 := ne _ _ _ e2
    rw [List.getElem?_set_ne n1] at e1
    rw [List.getElem?_set_ne n2] at e2
    exact r.sep j k c b1 x1 b2 x2 e1 e2 e3 e4
/-- a slot's list is written -/
theorem SR.write (r : SR K F S σ H G) {i : Nat} {b : Bool} {xs ys : OB} {a : Addr} {ws : HO} (e : S[i]? = some (.own b xs)) (ea : σ[i]? = some (some (.ref a))) (hw : OwR K a G ws ys) :
    SR K F (S.set i (.own b ys)) σ (upd H a ws) G := by
  obtain ⟨a', vs, h1, h2, h3, h4, h5, h6⟩ := r.own i _ _ e
  have ea' : a = a' := by rw [ea] at h1; exact V.ref.inj (Option.some.inj (Option.some.inj h1))
  subst ea'
  have hl : i < S.length := (List.getElem?_eq_some_iff.mp e).1
  refine ⟨by simp [r.len], r.g0, fun c o q => ?_, r.new, fun c o q n => ?_, fun c q => ?_, fun j y q => ?_, fun j c zs q => ?_, fun j k c b1 x1 b2 x2 e1 e2 e3 e4 => ?_⟩
  · rw [upd_ne (ne_of_none q h2)]; exact r.gh c o q
  · have nc : c ≠ a := fun z => by
      subst z
      cases b with
      | true => exact n (h5 rfl).1
      | false => rw [h6 rfl] at q; cases q
    rw [upd_ne nc]; exact r.keep c o q n
  · by_cases hc : c = a
    · subst hc; rw [upd_same]; simp
    · rw [upd_ne hc]; exact r.live c q
  · by_cases hj : i = j
    · subst hj
      rw [List.getElem?_set_self hl] at q; cases q
    · rw [List.getElem?_set_ne hj] at q
      exact r.dat j y q
  · by_cases hj : i = j
    · subst hj
      rw [List.getElem?_set_self hl] at q
      cases q
      exact ⟨a, ws, ea, h2, upd_same, hw, h5, h6⟩
    · rw [List.getElem?_set_ne hj] at q
      obtain ⟨d, us, q1, q2, q3, q4, q5⟩ := r.own j c zs q
      refine ⟨d, us, q1, q2, ?_, q4, q5⟩
      have nd : d ≠ a := fun z => by
        subst z
        exact hj (r.sep i j d _ _ _ _ e q ea q1)
      rw [upd_ne nd]; exact q3
  · have own : ∀ (m : Nat) (c : Bool) (y : OB), (S.set i (.own b ys))[m]? = some (.own c y) → ∃ (c' : Bool) (y' : OB), S[m]? = some (.own c' y') := fun m c y e' => by
      by_cases hm : i = m
      · subst hm; exact ⟨_, _, e⟩
      · rw [List.getElem?_set_ne hm] at e'; exact ⟨_, _, e'⟩
    obtain ⟨_, _, z1⟩ := own _ _ _ e1
    obtain ⟨_, _, z2⟩ := own _ _ _ e2
    exact r.sep j k c _ _ _ _ z1 z2 e3 e4
/-- nothing told any more -/
theorem SR.forget (r : SR K F S σ H G) (i : Nat) (o : Option V) : SR K F (S.set i .un) (σ.set i o) H G := by
  have L := r.len
  have nD : ∀ m y, (S.set i .un)[m]? = some (.d y) → i ≠ m := fun m y e q => by
    subst q
    by_cases hl : i < S.length
    · rw [List.getElem?_set_self hl] at e; cases e
    · rw [List.getElem?_eq_none (by simpa using Nat.le_of_not_lt hl)] at e; cases e
  have nO : ∀ m c y, (S.set i .un)[m]? = some (.own c y) → i ≠ m := fun m c y e q => by
    subst q
    by_cases hl : i < S.length
    · rw [List.getElem?_set_self hl] at e; cases e
    · rw [List.getElem?_eq_none (by simpa using Nat.le_of_not_lt hl)] at e; cases e
  refine ⟨by simp [L], r.g0, r.gh, r.new, r.keep, r.live, fun j y e => ?_, fun j b xs e => ?_, fun j k a b1 x1 b2 x2 e1 e2 e3 e4 => ?_⟩
  · have n := nD j y e
    rw [List.getElem?_set_ne n] at e ⊢
    exact r.dat j y e
  · have n := nO j b xs e
    rw [List.getElem?_set_ne n] at e ⊢
    exact r.own j b xs e
  · have n1 := nO _ _ _ e1
    have n2 := nO _ _ _ e2
    rw [List.getElem?_set_ne n1] at e1 e3
    rw [List.getElem?_set_ne n2] at e2 e4
    exact r.sep j k a b1 x1 b2 x2 e1 e2 e3 e4
theorem SR.fresh (r : SR K F S σ H G) {p : Addr} (h : H p = none) : F.H0 p = none ∧ G p = none ∧ Apart S σ p := by
  refine ⟨?_, r.gh.free h, fun i b xs e q => ?_⟩
  · cases z : F.H0 p with
    | none => rfl
    | some o => exact absurd h (r.live p (by rw [z]; simp))
  · obtain ⟨a, vs, h1, _, h3, _⟩ := r.own i b xs e
    rw [h1] at q
    cases q
    rw [h3] at h; cases h
end
end DL

set_option Elab.async false
set_option linter.all false
set_option maxRecDepth 100000
set_option maxHeartbeats 4000000
/-! DL, part 2: what an expression means on slots, and that its reading keeps to it. -/
namespace DL
open PySem PySem.Spec PyProof.Rows L2
abbrev Ckk (X : Cx) : KK := ⟨X.K, X.prog, X.w⟩

/-! ### operands -/
inductive Op where
  | dat (x : PyData)
  | slot (i : Nat)
def sdGet : SD → Option PyData
  | .d x => some x
  | .own _ (.lst xs) => some (.list xs)
  | _ => none
def Op.get (S : List SD) : Op → Option PyData
  | .dat x => some x
  | .slot i => (S[i]?).bind sdGet
def OpR (K : KK) (G : Hp) (σ : L2.St) (v : V) : Op → Prop
  | .dat x => Rp K G v x
  | .slot i => σ[i]? = some (some v)
/-- what stands at v: known data, or a list of known items -/
def RV (K : KK) (G H : Hp) (v : V) (x : PyData) : Prop := Rp K G v x ∨ ∃ a vs xs, x = .list xs ∧ v = .ref a ∧ H a = some (.lst vs) ∧ RpAll K G vs xs
section
variable {K : KK} {F : Fr} {S S' : List SD} {σ : L2.St} {H G H' G' : Hp} {v : V} {x : PyData} {o : Op}
theorem OpR.mono (e : Ex G G') (h : OpR K G σ v o) : OpR K G' σ v o := by
  cases o with
  | dat x => exact Rp.mono e h
  | slot i => exact h
theorem op_get (r : SR K F S σ H G) (h : OpR K G σ v o) (e : o.get S = some x) : RV K G H v x := by
  cases o with
  | dat y => cases e; exact .inl h
  | slot i =>
    have h : σ[i]? = some (some v) := h
    have e : (S[i]?).bind sdGet = some x := e
    cases q : S[i]? with
    | none => rw [q] at e; cases e
    | some sd =>
      rw [q] at e
      cases sd with
      | un => cases e
      | d y =>
        cases e
        obtain ⟨w, h1, h2⟩ := r.dat i _ q
        rw [h] at h1; cases h1
        exact .inl h2
      | own b xs => cases xs with
        | dct t kvs => cases e
        | lst xs =>
          cases e
          obtain ⟨a, vs, h1, h2, h3, h4, _⟩ := r.own i _ _ q
          rw [h] at h1; cases h1
          cases h4 with
          | lst h4 => exact .inr ⟨a, _, xs, rfl, rfl, h3, h4⟩
theorem RV.rp (e : Ex G H) (h : RV K G H v x) : Rp K H v x := by
  rcases h with h | ⟨a, vs, xs, rfl, rfl, h3, h4⟩
  · exact h.mono e
  · exact .lst h3 (h4.mono e)
theorem RV.non (h : RV K G H v .none) : v = .non := by
  rcases h with h | ⟨a, vs, xs, e, _⟩
  · cases h; rfl
  · cases e
theorem RV.bl {b : Bool} (h : RV K G H v (.bool b)) : v = .bl b := by
  rcases h with h | ⟨a, vs, xs, e, _⟩
  · cases h; rfl
  · cases e
theorem RV.int {i : Int} (h : RV K G H v (.int i)) : v = .int i := by
  rcases h with h | ⟨a, vs, xs, e, _⟩
  · cases h; rfl
  · cases e
theorem RV.str {i : Str} (h : RV K G H v (.str i)) : v = .str i := by
  rcases h with h | ⟨a, vs, xs, e, _⟩
  · cases h; rfl
  · cases e
theorem RV.lst {xs : List PyData} (e : Ex G H) (h : RV K G H v (.list xs)) : ∃ a vs, v = .ref a ∧ H a = some (.lst vs) ∧ RpAll K G vs xs := by
  rcases h with h | ⟨a, vs, xs, q, h2, h3, h4⟩
  · cases h with
    | lst h1 h2 => exact ⟨_, _, rfl, e _ _ h1, h2⟩
  · cases q
    exact ⟨a, vs, h2, h3, h4⟩
theorem RV.tup {xs : List PyData} (e : Ex G H) (h : RV K G H v (.tuple xs)) : ∃ a vs, v = .ref a ∧ SqT K H a vs ∧ RpAll K G vs xs := by
  rcases h with h | ⟨a, vs, xs, q, h2, h3, h4⟩
  · cases h with
    | tup h1 h2 => exact ⟨_, _, rfl, e.st h1, h2⟩
  · cases q
theorem RpKV.notNone {ds : List PyData} {kvs : List (Key × V)} (h : RpKV K G kvs [(.none, .list ds)]) : False := by
  cases kvs with
  | nil => cases h
  | cons p r =>
    obtain ⟨k, v⟩ := p
    cases k <;> cases h
theorem XTV.notNone {ds : List PyData} {kvs : XL} (h : XTV K G kvs [(.none, .list ds)]) : False := by
  cases kvs with
  | nil => cases h
  | cons p r => obtain ⟨k, b, v⟩ := p; cases h
theorem RV.scr {ds : List PyData} (e : Ex G H) (h : RV K G H v (.dict [(.none, .list ds)])) : ∃ a vs, v = .ref a ∧ SqL K H a vs ∧ RpAll K G vs ds := by
  rcases h with h | ⟨a, vs, xs, q, h2, h3, h4⟩
  · cases h with
    | dic h1 h2 => exact h2.notNone.elim
    | dicT h1 h2 => exact h2.notNone.elim
    | scr h1 h2 => exact ⟨_, _, rfl, e.sl h1, h2⟩
  · cases q
end

/-! ### values by values -/
/-- a two-place rule on values keeps to g -/
def V2 (K : KK) (r : R2) (g : PyData → PyData → Option PyData) : Prop :=
  ∀ (G H : Hp) (v w : V) (x y z : PyData), Ex G H → RV K G H v x → RV K G H w y → g x y = some z → ∀ Q : VK, (∀ u H' G', PX G H G' H' → Rp K G' u z → Q u H') → r v w H Q
def V1 (K : KK) (r : V → Hp → VK → Prop) (g : PyData → Option PyData) : Prop :=
  ∀ (G H : Hp) (v : V) (x z : PyData), Ex G H → RV K G H v x → g x = some z → ∀ Q : VK, (∀ u H' G', PX G H G' H' → Rp K G' u z → Q u H') → r v H Q
inductive RVs (K : KK) (G H : Hp) : List V → List PyData → Prop
  | nil : RVs K G H [] []
  | cons {v : V} {vs : List V} {x : PyData} {xs : List PyData} : RV K G H v x → RVs K G H vs xs → RVs K G H (v :: vs) (x :: xs)
def VN (K : KK) (r : List V → Hp → VK → Prop) (g : List PyData → Option PyData) : Prop :=
  ∀ (G H : Hp) (vs : List V) (xs : List PyData) (z : PyData), Ex G H → RVs K G H vs xs → g xs = some z → ∀ Q : VK, (∀ u H' G', PX G H G' H' → Rp K G' u z → Q u H') → r vs H Q
def V2L (K : KK) (r : R2) (g : PyData → PyData → Option (List PyData)) : Prop :=
  ∀ (G H : Hp) (v w : V) (x y : PyData) (zs : List PyData), Ex G H → RV K G H v x → RV K G H w y → g x y = some zs → ∀ Q : VK, (∀ p ws H' G', PX G H G' H' → H p = none → G' p = none → H' p = some (.lst ws) → RpAll K G' ws zs → Q (.ref p) H') → r v w H Q
/-- .. where a new list comes out -/
def VL (K : KK) (r : List V → Hp → VK → Prop) (g : List PyData → Option (List PyData)) : Prop :=
  ∀ (G H : Hp) (vs : List V) (xs : List PyData) (zs : List PyData), Ex G H → RVs K G H vs xs → g xs = some zs → ∀ Q : VK, (∀ p ws H' G', PX G H G' H' → H p = none → G' p = none → H' p = some (.lst ws) → RpAll K G' ws zs → Q (.ref p) H') → r vs H Q

/-! ### what readings keep to -/
abbrev ES := List SD → Option (Op × List SD)
abbrev BS := List SD → Option (Bool × List SD)
abbrev AS := List SD → Option (List Op × List SD)
abbrev LS := List SD → Option (List PyData × List SD)
abbrev DS := List SD → Option (PyData × List SD)
inductive OpRs (K : KK) (G : Hp) (σ : L2.St) : List V → List Op → Prop
  | nil : OpRs K G σ [] []
  | cons {v : V} {vs : List V} {o : Op} {os : List Op} : OpR K G σ v o → OpRs K G σ vs os → OpRs K G σ (v :: vs) (o :: os)
def SemE (K : KK) (t : TE) (f : ES) : Prop := ∀ F S σ H G o S', SR K F S σ H G → f S = some (o, S') → ∀ Q : VK, (∀ v H' G', SR K F S' σ H' G' → Ex G G' → OpR K G' σ v o → Q v H') → t σ H Q
def SemB (K : KK) (t : TT) (f : BS) : Prop := ∀ F S σ H G b S', SR K F S σ H G → f S = some (b, S') → ∀ Q : Bool → Hp → Prop, (∀ H' G', SR K F S' σ H' G' → Ex G G' → Q b H') → t σ H Q
def SemA (K : KK) (t : TA) (f : AS) : Prop := ∀ F S σ H G os S', SR K F S σ H G → f S = some (os, S') → ∀ Q : List V → Hp → Prop, (∀ vs H' G', SR K F S' σ H' G' → Ex G G' → OpRs K G' σ vs os → Q vs H') → t σ H Q
/-- a new list comes out -/
def SemL (K : KK) (t : TE) (f : LS) : Prop := ∀ F S σ H G xs S', SR K F S σ H G → f S = some (xs, S') → ∀ Q : VK, (∀ p vs H' G', SR K F S' σ H' G' → Ex G G' → F.H0 p = none → G' p = none → Apart S' σ p → H' p = some (.lst vs) → RpAll K G' vs xs → Q (.ref p) H') → t σ H Q
/-- data are wanted: a slot's own list stands still from then on -/
def SemD (K : KK) (t : TE) (f : DS) : Prop := ∀ F S σ H G x S', SR K F S σ H G → f S = some (x, S') → ∀ Q : VK, (∀ v H' G', SR K F S' σ H' G' → Ex G G' → Rp K G' v x → Q v H') → t σ H Q
structure SE (X : Cx) (K : KK) (e : Expr) (t : TE) (f : ES) : Prop where
  p : PE X e t
  ok : SemE K t f
structure ST (X : Cx) (K : KK) (e : Expr) (t : TT) (f : BS) : Prop where
  p : PT X e t
  ok : SemB K t f
structure SW (X : Cx) (K : KK) (e : Expr) (t : TT) (f : BS) : Prop where
  p : PW X e t
  ok : SemB K t f
structure SA (X : Cx) (K : KK) (es : List Expr) (t : TA) (f : AS) : Prop where
  p : PA X es t
  ok : SemA K t f
structure SL (X : Cx) (K : KK) (e : Expr) (t : TE) (f : LS) : Prop where
  p : PE X e t
  ok : SemL K t f
structure SDt (X : Cx) (K : KK) (e : Expr) (t : TE) (f : DS) : Prop where
  p : PE X e t
  ok : SemD K t f

section
variable {K : KK} {F : Fr} {S S' : List SD} {σ : L2.St} {H G H' G' : Hp}
theorem OpRs.mono (e : Ex G G') : ∀ {vs : List V} {os : List Op}, OpRs K G σ vs os → OpRs K G' σ vs os
  | _, _, .nil => .nil
  | _, _, .cons h t => .cons (OpR.mono e h) (OpRs.mono e t)
def getAll (S : List SD) : List Op → Option (List PyData)
  | [] => some []
  | o :: os => (o.get S).bind fun x => (getAll S os).map fun xs => x :: xs
theorem ops_get (r : SR K F S σ H G) : ∀ {vs : List V} {os : List Op} {xs : List PyData}, OpRs K G σ vs os → getAll S os = some xs → RVs K G H vs xs
  | _, _, _, .nil, e => by cases e; exact .nil
  | _, o :: os, _, .cons h t, e => by
    unfold getAll at e
    obtain ⟨x, e1, e⟩ := Option.bind_eq_some_iff.mp e
    obtain ⟨xs, e2, rfl⟩ := Option.map_eq_some_iff.mp e
    exact .cons (op_get r h e1) (ops_get r t e2)
/-- a slot's list is frozen, data are taken -/
def takeS (S : List SD) (i : Nat) : Option SD → Option (PyData × List SD)
  | some (.d x) => some (x, S)
  | some (.own false xs) => if xs.fz = true then some (xs.dat, S.set i (.d xs.dat)) else none
  | _ => none
def takeO (S : List SD) : Op → Option (PyData × List SD)
  | .dat x => some (x, S)
  | .slot i => takeS S i (S[i]?)
theorem take_ok {v : V} {o : Op} {x : PyData} (r : SR K F S σ H G) (h : OpR K G σ v o) (e : takeO S o = some (x, S')) : ∃ G', Ex G G' ∧ SR K F S' σ H G' ∧ Rp K G' v x := by
  cases o with
  | dat y => cases e; exact ⟨G, .refl _, r, h⟩
  | slot i =>
    have h : σ[i]? = some (some v) := h
    have e : takeS S i (S[i]?) = some (x, S') := e
    cases q : S[i]? with
    | none => rw [q] at e; cases e
    | some sd =>
      rw [q] at e
      cases sd with
      | un => cases e
      | d y =>
        cases e
        obtain ⟨w, h1, h2⟩ := r.dat i _ q
        rw [h] at h1; cases h1
        exact ⟨G, .refl _, r, h2⟩
      | own b xs =>
        cases b with
        | true => cases e
        | false =>
          have e : (if xs.fz = true then some (xs.dat, S.set i (.d xs.dat)) else none) = some (x, S') := e
          by_cases hf : xs.fz = true
          · rw [if_pos hf] at e
            cases e
            obtain ⟨w, G', h1, h2, h3, h4⟩ := r.freeze q hf
            rw [h] at h2; cases h2
            exact ⟨G', h1, h4, h3⟩
          · rw [if_neg hf] at e; cases e
def takeAll (S : List SD) : List Op → Option (List PyData × List SD)
  | [] => some ([], S)
  | o :: os => (takeO S o).bind fun p => (takeAll p.2 os).map fun q => (p.1 :: q.1, q.2)
theorem takeAll_ok : ∀ {vs : List V} {os : List Op} {xs : List PyData} {S S' : List SD} {G : Hp}, SR K F S σ H G → OpRs K G σ vs os → takeAll S os = some (xs, S') → ∃ G', Ex G G' ∧ SR K F S' σ H G' ∧ RpAll K G' vs xs
  | _, _, _, _, _, G, r, .nil, e => by cases e; exact ⟨G, .refl _, r, .nil⟩
  | _, o :: os, _, S, S', G, r, .cons h t, e => by
    unfold takeAll at e
    obtain ⟨⟨x, S1⟩, e1, e⟩ := Option.bind_eq_some_iff.mp e
    obtain ⟨⟨xs, S2⟩, e2, e3⟩ := Option.map_eq_some_iff.mp e
    cases e3
    obtain ⟨G1, g1, r1, h1⟩ := take_ok r h e1
    obtain ⟨G2, g2, r2, h2⟩ := takeAll_ok r1 (t.mono g1) e2
    exact ⟨G2, g1.trans g2, r2, .cons (h1.mono g2) h2⟩
end

section
variable {K : KK} {ta tb tc te : TE} {tt tu : TT} {tA : TA} {fe fa fb fc : ES} {ft fu : BS} {fs : AS} {fl : LS} {fd : DS}
/-! ### names, constants -/
def sdTold : Option SD → Bool
  | some (.d _) => true
  | some (.own _ _) => true
  | _ => false
def sVar (i : Nat) : ES := fun S => if sdTold (S[i]?) = true then some (.slot i, S) else none
theorem sem_var {i : Nat} : SemE K (tVar i) (sVar i) := by
  intro F S σ H G o S' r ef Q k
  have ef : (if sdTold (S[i]?) = true then some (Op.slot i, S) else none) = some (o, S') := ef
  cases q : S[i]? with
  | none => rw [q] at ef; cases ef
  | some sd =>
    rw [q] at ef
    cases sd with
    | un => cases ef
    | d x =>
      cases ef
      obtain ⟨v, h1, _⟩ := r.dat i _ q
      exact ⟨v, h1, k v H G r (.refl _) h1⟩
    | own b' xs =>
      cases ef
      obtain ⟨a', vs, h1, _⟩ := r.own i _ _ q
      exact ⟨_, h1, k _ H G r (.refl _) h1⟩
def sC (x : PyData) : ES := fun S => some (.dat x, S)
theorem sem_c {v : V} {x : PyData} (hr : ∀ G, Rp K G v x) : SemE K (tC v) (sC x) := by
  intro F S σ H G o S' r ef Q k
  cases ef
  exact k v H G r (.refl _) (hr G)
/-! ### data, new lists -/
def sTake (f : ES) : DS := fun S => (f S).bind fun p => takeO p.2 p.1
theorem sem_take (hs : SemE K te fe) : SemD K te (sTake fe) := by
  intro F S σ H G x S' r ef Q k
  obtain ⟨⟨o, S1⟩, e1, e2⟩ := Option.bind_eq_some_iff.mp ef
  refine hs F S σ H G o S1 r e1 Q fun v H' G' r1 g1 h1 => ?_
  obtain ⟨G2, g2, r2, h2⟩ := take_ok r1 h1 e2
  exact k v H' G2 r2 (g1.trans g2) h2
def sDat (f : DS) : ES := fun S => (f S).map fun p => (.dat p.1, p.2)
theorem sem_dat (hs : SemD K te fd) : SemE K te (sDat fd) := by
  intro F S σ H G x S' r ef Q k
  obtain ⟨⟨o, S1⟩, e1, e2⟩ := Option.map_eq_some_iff.mp ef
  cases e2
  exact hs F S σ H G o _ r e1 Q fun v H' G' r1 g1 h1 => k v H' G' r1 g1 h1
def sKeep (f : LS) : ES := fun S => (f S).map fun p => (.dat (.list p.1), p.2)
theorem SR.known {K : KK} {F : Fr} {S : List SD} {σ : L2.St} {H G : Hp} {p : Addr} {vs : HO} {xs : OB} (r : SR K F S σ H G) (h0 : F.H0 p = none) (hg : G p = none) (ap : Apart S σ p) (hh : H p = some vs) (h : OwR K p G vs xs) (hf : xs.fz = true) :
    ∃ G', Ex G G' ∧ SR K F S σ H G' ∧ Rp K G' (.ref p) xs.dat := by
  have eg : Ex G (upd G p vs) := .new hg
  refine ⟨_, eg, ⟨r.len, r.g0.trans eg, fun b o q => ?_, fun b q => ?_, r.keep, r.live, fun j y q => ?_, fun j b ys q => ?_, r.sep⟩, (h.mono eg).rp upd_same hf⟩
  · by_cases hb : b = p
    · subst hb; rw [upd_same] at q; cases q; exact hh
    · rw [upd_ne hb] at q; exact r.gh b o q
  · by_cases hb : b = p
    · subst hb; exact .inr h0
    · rw [upd_ne hb] at q; exact r.new b q
  · obtain ⟨v, q1, q2⟩ := r.dat j y q
    exact ⟨v, q1, q2.mono eg⟩
  · obtain ⟨c, ws, q1, q2, q3, q4, q5⟩ := r.own j b ys q
    refine ⟨c, ws, q1, ?_, q3, q4.mono eg, q5⟩
    have nc : c ≠ p := fun z => by subst z; exact ap j _ _ q q1
    rw [upd_ne nc]; exact q2
theorem sem_keep (hs : SemL K te fl) : SemE K te (sKeep fl) := by
  intro F S σ H G o S' r ef Q k
  obtain ⟨⟨xs, S1⟩, e1, e2⟩ := Option.map_eq_some_iff.mp ef
  cases e2
  refine hs F S σ H G xs _ r e1 Q fun p vs H' G' r1 g1 h0 hg ap hh h1 => ?_
  obtain ⟨G2, g2, r2, h2⟩ := r1.known h0 hg ap hh (.lst h1) rfl
  exact k _ H' G2 r2 (g1.trans g2) h2
/-! ### arguments -/
def sNil : AS := fun S => some ([], S)
def sCons (f : ES) (g : AS) : AS := fun S => (f S).bind fun p => (g p.2).map fun q => (p.1 :: q.1, q.2)
theorem sem_nil : SemA K tNil sNil := by
  intro F S σ H G o S' r ef Q k
  cases ef
  exact k _ H G r (.refl _) .nil
theorem sem_cons (hs1 : SemE K te fe) (hs2 : SemA K tA fs) : SemA K (tCons te tA) (sCons fe fs) := by
  intro F S σ H G o S' r ef Q k
  obtain ⟨⟨o1, S1⟩, e1, e2⟩ := Option.bind_eq_some_iff.mp ef
  obtain ⟨⟨o2, S2⟩, e3, e4⟩ := Option.map_eq_some_iff.mp e2
  cases e4
  refine hs1 F S σ H G o1 S1 r e1 _ fun v H1 G1 r1 g1 h1 => ?_
  refine hs2 F S1 σ H1 G1 o2 _ r1 e3 _ fun vs H2 G2 r2 g2 h2 => ?_
  exact k _ H2 G2 r2 (g1.trans g2) (.cons (h1.mono g2) h2)
/-! ### operators -/
def sBin (g : PyData → PyData → Option PyData) (f f' : ES) : ES := fun S => (f S).bind fun p => (f' p.2).bind fun q => (p.1.get q.2).bind fun x => (q.1.get q.2).bind fun y => (g x y).map fun z => (.dat z, q.2)
theorem sem_bin {r2 : R2} {g : PyData → PyData → Option PyData} (hv : V2 K r2 g) (ha : SemE K ta fa) (hb : SemE K tb fb) : SemE K (tOp r2 ta tb) (sBin g fa fb) := by
  intro F S σ H G o S' r ef Q k
  obtain ⟨⟨o1, S1⟩, e1, ef⟩ := Option.bind_eq_some_iff.mp ef
  obtain ⟨⟨o2, S2⟩, e2, ef⟩ := Option.bind_eq_some_iff.mp ef
  obtain ⟨x, e3, ef⟩ := Option.bind_eq_some_iff.mp ef
  obtain ⟨y, e4, ef⟩ := Option.bind_eq_some_iff.mp ef
  obtain ⟨z, e5, ef⟩ := Option.map_eq_some_iff.mp ef
  cases ef
  refine ha F S σ H G o1 S1 r e1 _ fun v H1 G1 r1 g1 h1 => ?_
  refine hb F S1 σ H1 G1 o2 _ r1 e2 _ fun w H2 G2 r2 g2 h2 => ?_
  refine hv G2 H2 v w x y z r2.gh (op_get r2 (h1.mono g2) e3) (op_get r2 h2 e4) e5 Q fun u H3 G3 p h3 => ?_
  exact k u H3 G3 (r2.ext p) ((g1.trans g2).trans p.gg) h3
def sBinL (g : PyData → PyData → Option (List PyData)) (f f' : ES) : LS := fun S => (f S).bind fun p => (f' p.2).bind fun q => (p.1.get q.2).bind fun x => (q.1.get q.2).bind fun y => (g x y).map fun z => (z, q.2)
theorem sem_binL {r2 : R2} {g : PyData → PyData → Option (List PyData)} (hv : V2L K r2 g) (ha : SemE K ta fa) (hb : SemE K tb fb) : SemL K (tOp r2 ta tb) (sBinL g fa fb) := by
  intro F S σ H G o S' r ef Q k
  obtain ⟨⟨o1, S1⟩, e1, ef⟩ := Option.bind_eq_some_iff.mp ef
  obtain ⟨⟨o2, S2⟩, e2, ef⟩ := Option.bind_eq_some_iff.mp ef
  obtain ⟨x, e3, ef⟩ := Option.bind_eq_some_iff.mp ef
  obtain ⟨y, e4, ef⟩ := Option.bind_eq_some_iff.mp ef
  obtain ⟨z, e5, ef⟩ := Option.map_eq_some_iff.mp ef
  cases ef
  refine ha F S σ H G o1 S1 r e1 _ fun v H1 G1 r1 g1 h1 => ?_
  refine hb F S1 σ H1 G1 o2 _ r1 e2 _ fun w H2 G2 r2 g2 h2 => ?_
  refine hv G2 H2 v w x y _ r2.gh (op_get r2 (h1.mono g2) e3) (op_get r2 h2 e4) e5 Q fun p ws H3 G3 px hn hg hh h3 => ?_
  obtain ⟨f0, _, fa⟩ := r2.fresh hn
  exact k p ws H3 G3 (r2.ext px) ((g1.trans g2).trans px.gg) f0 hg fa hh h3
def dBool : PyData → Option Bool
  | .bool b => some b
  | _ => none
/-- a value that is True or False, as a test -/
def sTest (f : ES) : BS := fun S => (f S).bind fun p => (p.1.get p.2).bind fun x => (dBool x).map fun b => (b, p.2)
theorem dBool_some {x : PyData} {b : Bool} (h : dBool x = some b) : x = .bool b := by
  cases x with
  | bool c => cases h; rfl
  | _ => cases h
theorem sem_test (ha : SemE K ta fa) : SemB K (tTest ta) (sTest fa) := by
  intro F S σ H G b S' r ef Q k
  obtain ⟨⟨o1, S1⟩, e1, ef⟩ := Option.bind_eq_some_iff.mp ef
  obtain ⟨x, e3, ef⟩ := Option.bind_eq_some_iff.mp ef
  obtain ⟨z, e5, ef⟩ := Option.map_eq_some_iff.mp ef
  cases ef
  refine ha F S σ H G o1 _ r e1 _ fun v H1 G1 r1 g1 h1 => ?_
  have hx := dBool_some e5
  subst hx
  exact ⟨_, (op_get r1 h1 e3).bl, k H1 G1 r1 g1⟩
/-! ### and, or, not, if else -/
def sAnd (f g : BS) : BS := fun S => (f S).bind fun p => if p.1 = true then g p.2 else some (false, p.2)
def sOr (f g : BS) : BS := fun S => (f S).bind fun p => if p.1 = true then some (true, p.2) else g p.2
def sNot (f : BS) : BS := fun S => (f S).map fun p => (!p.1, p.2)
theorem sem_and (hs : SemB K tt ft) (hs2 : SemB K tu fu) : SemB K (tAnd tt tu) (sAnd ft fu) := by
  intro F S σ H G b S' r ef Q k
  obtain ⟨⟨c, S1⟩, e1, ef⟩ := Option.bind_eq_some_iff.mp ef
  refine hs F S σ H G c S1 r e1 _ fun H1 G1 r1 g1 => ?_
  cases c with
  | true => exact hs2 F S1 σ H1 G1 b S' r1 ef Q fun H2 G2 r2 g2 => k H2 G2 r2 (g1.trans g2)
  | false => cases ef; exact k H1 G1 r1 g1
theorem sem_or (hs : SemB K tt ft) (hs2 : SemB K tu fu) : SemB K (tOr tt tu) (sOr ft fu) := by
  intro F S σ H G b S' r ef Q k
  obtain ⟨⟨c, S1⟩, e1, ef⟩ := Option.bind_eq_some_iff.mp ef
  refine hs F S σ H G c S1 r e1 _ fun H1 G1 r1 g1 => ?_
  cases c with
  | false => exact hs2 F S1 σ H1 G1 b S' r1 ef Q fun H2 G2 r2 g2 => k H2 G2 r2 (g1.trans g2)
  | true => cases ef; exact k H1 G1 r1 g1
theorem sem_not (hs : SemB K tt ft) : SemB K (tNot tt) (sNot ft) := by
  intro F S σ H G b S' r ef Q k
  obtain ⟨⟨c, S1⟩, e1, ef⟩ := Option.map_eq_some_iff.mp ef
  cases ef
  exact hs F S σ H G c _ r e1 _ k
/-- .. as values -/
def sAndV (f g : ES) : ES := fun S => (f S).bind fun p => (p.1.get p.2).bind fun x => (dBool x).bind fun c => if c = true then g p.2 else some (.dat (.bool false), p.2)
def sOrV (f g : ES) : ES := fun S => (f S).bind fun p => (p.1.get p.2).bind fun x => (dBool x).bind fun c => if c = true then some (.dat (.bool true), p.2) else g p.2
def sNotV (f : ES) : ES := fun S => (f S).bind fun p => (p.1.get p.2).bind fun x => (dBool x).map fun c => (.dat (.bool (!c)), p.2)
theorem sem_andV (hs : SemE K ta fa) (hs2 : SemE K tb fb) : SemE K (tAndV ta tb) (sAndV fa fb) := by
  intro F S σ H G b S' r ef Q k
  obtain ⟨⟨o, S1⟩, e1, ef⟩ := Option.bind_eq_some_iff.mp ef
  obtain ⟨x, e2, ef⟩ := Option.bind_eq_some_iff.mp ef
  obtain ⟨c, e3, ef⟩ := Option.bind_eq_some_iff.mp ef
  have hx := dBool_some e3
  subst hx
  refine hs F S σ H G o S1 r e1 _ fun v H1 G1 r1 g1 h1 => ⟨c, (op_get r1 h1 e2).bl, ?_⟩
  cases c with
  | true => exact hs2 F S1 σ H1 G1 b S' r1 ef Q fun v H2 G2 r2 g2 => k v H2 G2 r2 (g1.trans g2)
  | false => cases ef; exact k _ H1 G1 r1 g1 (.bl false)
theorem sem_orV (hs : SemE K ta fa) (hs2 : SemE K tb fb) : SemE K (tOrV ta tb) (sOrV fa fb) := by
  intro F S σ H G b S' r ef Q k
  obtain ⟨⟨o, S1⟩, e1, ef⟩ := Option.bind_eq_some_iff.mp ef
  obtain ⟨x, e2, ef⟩ := Option.bind_eq_some_iff.mp ef
  obtain ⟨c, e3, ef⟩ := Option.bind_eq_some_iff.mp ef
  have hx := dBool_some e3
  subst hx
  refine hs F S σ H G o S1 r e1 _ fun v H1 G1 r1 g1 h1 => ⟨c, (op_get r1 h1 e2).bl, ?_⟩
  cases c with
  | false => exact hs2 F S1 σ H1 G1 b S' r1 ef Q fun v H2 G2 r2 g2 => k v H2 G2 r2 (g1.trans g2)
  | true => cases ef; exact k _ H1 G1 r1 g1 (.bl true)
theorem sem_notV (hs : SemE K ta fa) : SemE K (tNotV ta) (sNotV fa) := by
  intro F S σ H G b S' r ef Q k
  obtain ⟨⟨o, S1⟩, e1, ef⟩ := Option.bind_eq_some_iff.mp ef
  obtain ⟨x, e2, ef⟩ := Option.bind_eq_some_iff.mp ef
  obtain ⟨c, e3, ef⟩ := Option.map_eq_some_iff.mp ef
  have hx := dBool_some e3
  subst hx
  cases ef
  exact hs F S σ H G o _ r e1 _ fun v H1 G1 r1 g1 h1 => ⟨c, (op_get r1 h1 e2).bl, k _ H1 G1 r1 g1 (.bl _)⟩
def sIf {α : Type} (t : BS) (f g : List SD → Option α) : List SD → Option α := fun S => (t S).bind fun p => if p.1 = true then f p.2 else g p.2
theorem sem_if (hsc : SemB K tt ft) (hs : SemE K ta fa) (hs2 : SemE K tb fb) : SemE K (tIf tt ta tb) (sIf ft fa fb) := by
  intro F S σ H G o S' r ef Q k
  obtain ⟨⟨c, S1⟩, e1, ef⟩ := Option.bind_eq_some_iff.mp ef
  refine hsc F S σ H G c S1 r e1 _ fun H1 G1 r1 g1 => ?_
  cases c with
  | true => exact hs F S1 σ H1 G1 o S' r1 ef Q fun v H2 G2 r2 g2 => k v H2 G2 r2 (g1.trans g2)
  | false => exact hs2 F S1 σ H1 G1 o S' r1 ef Q fun v H2 G2 r2 g2 => k v H2 G2 r2 (g1.trans g2)
/-- a chain of two comparisons -/
def sChain (g g' : PyData → PyData → Option PyData) (f f' f'' : ES) : ES := fun S => (f S).bind fun p => (f' p.2).bind fun q => (p.1.get q.2).bind fun x => (q.1.get q.2).bind fun y => (g x y).bind fun z => (dBool z).bind fun k =>
  if k = true then (f'' q.2).bind fun s => (q.1.get s.2).bind fun y' => (s.1.get s.2).bind fun w => (g' y' w).map fun z' => (.dat z', s.2) else some (.dat (.bool false), q.2)
theorem sem_chain {r2 r2' : R2} {g g' : PyData → PyData → Option PyData} (hv : V2 K r2 g) (hv' : V2 K r2' g') (ha : SemE K ta fa) (hb : SemE K tb fb) (hc : SemE K tc fc) : SemE K (tChain r2 r2' ta tb tc) (sChain g g' fa fb fc) := by
  intro F S σ H G o S' r ef Q k
  obtain ⟨⟨o1, S1⟩, e1, ef⟩ := Option.bind_eq_some_iff.mp ef
  obtain ⟨⟨o2, S2⟩, e2, ef⟩ := Option.bind_eq_some_iff.mp ef
  obtain ⟨x, e3, ef⟩ := Option.bind_eq_some_iff.mp ef
  obtain ⟨y, e4, ef⟩ := Option.bind_eq_some_iff.mp ef
  obtain ⟨z, e5, ef⟩ := Option.bind_eq_some_iff.mp ef
  obtain ⟨d, e6, ef⟩ := Option.bind_eq_some_iff.mp ef
  have hz := dBool_some e6
  subst hz
  refine ha F S σ H G o1 S1 r e1 _ fun v H1 G1 r1 g1 h1 => ?_
  refine hb F S1 σ H1 G1 o2 _ r1 e2 _ fun w H2 G2 r2 g2 h2 => ?_
  refine hv G2 H2 v w x y _ r2.gh (op_get r2 (h1.mono g2) e3) (op_get r2 h2 e4) e5 _ fun u H3 G3 p h3 => ?_
  have r3 := r2.ext p
  cases h3
  refine ⟨d, rfl, ?_⟩
  cases d with
  | false => cases ef; exact k _ H3 G3 r3 ((g1.trans g2).trans p.gg) (.bl false)
  | true =>
    have ef : ((fc S2).bind fun s => (o2.get s.2).bind fun y' => (s.1.get s.2).bind fun w => (g' y' w).map fun z' => (Op.dat z', s.2)) = some (o, S') := ef
    obtain ⟨⟨o4, S4⟩, f1, ef⟩ := Option.bind_eq_some_iff.mp ef
    obtain ⟨y', f2, ef⟩ := Option.bind_eq_some_iff.mp ef
    obtain ⟨w4, f3, ef⟩ := Option.bind_eq_some_iff.mp ef
    obtain ⟨z', f4, ef⟩ := Option.map_eq_some_iff.mp ef
    cases ef
    show tc σ H3 _
    refine hc F S2 σ H3 G3 o4 _ r3 f1 _ fun v4 H4 G4 r4 g4 h4 => ?_
    refine hv' G4 H4 w v4 y' w4 z' r4.gh (op_get r4 (h2.mono (p.gg.trans g4)) f2) (op_get r4 h4 f3) f4 Q fun u5 H5 G5 p5 h5 => ?_
    exact k u5 H5 G5 (r4.ext p5) ((((g1.trans g2).trans p.gg).trans g4).trans p5.gg) h5
def sUn (g : PyData → Option PyData) (f : ES) : ES := fun S => (f S).bind fun p => (p.1.get p.2).bind fun x => (g x).map fun z => (.dat z, p.2)
theorem sem_un {r1 : V → Hp → VK → Prop} {g : PyData → Option PyData} (hv : V1 K r1 g) (ka : SemE K ta fa) : SemE K (tUn r1 ta) (sUn g fa) := by
  intro F S σ H G o S' r ef Q k
  obtain ⟨⟨o1, S1⟩, e1, ef⟩ := Option.bind_eq_some_iff.mp ef
  obtain ⟨x, e3, ef⟩ := Option.bind_eq_some_iff.mp ef
  obtain ⟨z, e5, ef⟩ := Option.map_eq_some_iff.mp ef
  cases ef
  refine ka F S σ H G o1 _ r e1 _ fun v H1 G1 r1 g1 h1 => ?_
  exact hv G1 H1 v x z r1.gh (op_get r1 h1 e3) e5 Q fun u H3 G3 p h3 => k u H3 G3 (r1.ext p) (g1.trans p.gg) h3
/-! ### displays, calls of built-ins -/
theorem sz {n : Nat} (h : n ≤ 100000) : n ≤ sizeLine := Nat.le_trans h (by decide)
theorem szl {n : Nat} (h : n < 100000) : n < sizeLine := Nat.lt_of_lt_of_le h (by decide)
def sTup (f : AS) : ES := fun S => (f S).bind fun p => (takeAll p.2 p.1).bind fun q => if q.1.length ≤ 100000 then some (.dat (.tuple q.1), q.2) else none
theorem sem_tup (hs : SemA K tA fs) : SemE K (tTup tA) (sTup fs) := by
  intro F S σ H G o S' r ef Q k
  obtain ⟨⟨os, S1⟩, e1, ef⟩ := Option.bind_eq_some_iff.mp ef
  obtain ⟨⟨xs, S2⟩, e2, ef⟩ := Option.bind_eq_some_iff.mp ef
  split at ef
  · rename_i hl
    cases ef
    refine hs F S σ H G os S1 r e1 _ fun vs H1 G1 r1 g1 h1 => ?_
    obtain ⟨G2, g2, r2, h2⟩ := takeAll_ok r1 h1 e2
    refine ⟨by rw [h2.length]; exact sz hl, fun p hp => ?_⟩
    have px := PX.laid (o := .tup vs) r2.gh hp
    exact k _ _ _ (r2.ext px) ((g1.trans g2).trans px.gg) (.tup (.inl (.inl upd_same)) (h2.mono px.gg))
  · cases ef
def sLst (f : AS) : LS := fun S => (f S).bind fun p => (takeAll p.2 p.1).bind fun q => if q.1.length ≤ 100000 then some (q.1, q.2) else none
theorem sem_lst (hs : SemA K tA fs) : SemL K (tLst tA) (sLst fs) := by
  intro F S σ H G o S' r ef Q k
  obtain ⟨⟨os, S1⟩, e1, ef⟩ := Option.bind_eq_some_iff.mp ef
  obtain ⟨⟨xs, S2⟩, e2, ef⟩ := Option.bind_eq_some_iff.mp ef
  split at ef
  · rename_i hl
    cases ef
    refine hs F S σ H G os S1 r e1 _ fun vs H1 G1 r1 g1 h1 => ?_
    obtain ⟨G2, g2, r2, h2⟩ := takeAll_ok r1 h1 e2
    refine ⟨by rw [h2.length]; exact sz hl, fun p hp => ?_⟩
    obtain ⟨f0, fg, fa⟩ := r2.fresh hp
    have px := PX.side (o := .lst vs) r2.gh hp
    exact k _ _ _ _ (r2.ext px) (g1.trans g2) f0 fg fa upd_same h2
  · cases ef
/-- a built-in's call: the operands as they stand behind the last of them -/
def sCB (g : List PyData → Option PyData) (f : AS) : ES := fun S => (f S).bind fun p => (getAll p.2 p.1).bind fun xs => (g xs).map fun z => (.dat z, p.2)
def sCBL (g : List PyData → Option (List PyData)) (f : AS) : LS := fun S => (f S).bind fun p => (getAll p.2 p.1).bind fun xs => (g xs).map fun z => (z, p.2)
theorem sem_cb {r2 : List V → Hp → VK → Prop} {g : List PyData → Option PyData} (hv : VN K r2 g) (ha : SemA K tA fs) : SemE K (tCB r2 tA) (sCB g fs) := by
  intro F S σ H G o S' r ef Q k
  obtain ⟨⟨os, S1⟩, e1, ef⟩ := Option.bind_eq_some_iff.mp ef
  obtain ⟨xs, e3, ef⟩ := Option.bind_eq_some_iff.mp ef
  obtain ⟨z, e5, ef⟩ := Option.map_eq_some_iff.mp ef
  cases ef
  refine ha F S σ H G os _ r e1 _ fun vs H1 G1 r1 g1 h1 => ?_
  exact hv G1 H1 vs xs z r1.gh (ops_get r1 h1 e3) e5 Q fun u H3 G3 p h3 => k u H3 G3 (r1.ext p) (g1.trans p.gg) h3
theorem sem_cbl {r2 : List V → Hp → VK → Prop} {g : List PyData → Option (List PyData)} (hv : VL K r2 g) (ha : SemA K tA fs) : SemL K (tCB r2 tA) (sCBL g fs) := by
  intro F S σ H G o S' r ef Q k
  obtain ⟨⟨os, S1⟩, e1, ef⟩ := Option.bind_eq_some_iff.mp ef
  obtain ⟨xs, e3, ef⟩ := Option.bind_eq_some_iff.mp ef
  obtain ⟨z, e5, ef⟩ := Option.map_eq_some_iff.mp ef
  cases ef
  refine ha F S σ H G os _ r e1 _ fun vs H1 G1 r1 g1 h1 => ?_
  refine hv G1 H1 vs xs _ r1.gh (ops_get r1 h1 e3) e5 Q fun p ws H3 G3 px hn hg hh h3 => ?_
  obtain ⟨f0, _, fa⟩ := r1.fresh hn
  exact k p ws H3 G3 (r1.ext px) (g1.trans px.gg) f0 hg fa hh h3
end

/-! ### the rules for the text -/
section
variable {X : Cx} {K : KK} {e a b c : Expr} {es : List Expr} {pos : Pos} {ta tb tc te : TE} {tt tu : TT} {tA : TA} {fe fa fb fc : ES} {ft fu : BS} {fs : AS} {fl : LS} {fd : DS}
theorem se_var {i : Nat} (h : PE X e (tVar i)) : SE X K e (tVar i) (sVar i) := ⟨h, sem_var⟩
theorem se_int {i : Int} {j} : SE X K (.Constant (.int i) j pos) (tC (.int i)) (sC (.int i)) := ⟨pe_int, sem_c fun _ => .int i⟩
theorem se_bl {i : Bool} {j} : SE X K (.Constant (.bool i) j pos) (tC (.bl i)) (sC (.bool i)) := ⟨pe_bl, sem_c fun _ => .bl i⟩
theorem se_non {j} : SE X K (.Constant .none j pos) (tC .non) (sC .none) := ⟨pe_non, sem_c fun _ => .non⟩
theorem se_str {i : Str} {j} : SE X K (.Constant (.str i) j pos) (tC (.str i)) (sC (.str i)) := ⟨pe_str, sem_c fun _ => .str i⟩
/-- a constant of the module -/
structure GK (K : KK) (mg : Str → Option Value) (x : Str) (v : V) (d : PyData) : Prop where
  to : ∃ u, mg x = some u ∧ RelV v u
  rp : ∀ G, Rp K G v d
theorem se_glob {x : Str} {v : V} {d : PyData} (h : GK K X.mg x v d) (hg : Gl X x := by rfl) (hd : (x == ("__debug__" : Str)) = false := by decide) : SE X K (.Name x pos) (tC v) (sC d) := by
  obtain ⟨⟨u, h1, h2⟩, h3⟩ := h
  exact ⟨pe_glob hg h1 h2 hd, sem_c h3⟩
theorem sd_se (h : SE X K e te fe) : SDt X K e te (sTake fe) := ⟨h.p, sem_take h.ok⟩
theorem se_sd (h : SDt X K e te fd) : SE X K e te (sDat fd) := ⟨h.p, sem_dat h.ok⟩
theorem se_sl (h : SL X K e te fl) : SE X K e te (sKeep fl) := ⟨h.p, sem_keep h.ok⟩
theorem sa_nil : SA X K [] tNil sNil := ⟨pa_nil, sem_nil⟩
theorem sa_cons (h : SE X K e te fe) (h2 : SA X K es tA fs) (hs : starEach (e :: es) X.env = (false, eval e X.env) :: starEach es X.env := by rfl) : SA X K (e :: es) (tCons te tA) (sCons fe fs) := ⟨pa_cons h.p h2.p hs, sem_cons h.ok h2.ok⟩
theorem se_bin {op : Operator} {r : R2} {g : PyData → PyData → Option PyData} (ho : L2.OpR X (binaryOp op) r) (hv : V2 K r g) (ha : SE X K a ta fa) (hb : SE X K b tb fb) : SE X K (.BinOp a op b pos) (tOp r ta tb) (sBin g fa fb) := ⟨pe_op ho ha.p hb.p, sem_bin hv ha.ok hb.ok⟩
theorem sl_bin {op : Operator} {r : R2} {g : PyData → PyData → Option (List PyData)} (ho : L2.OpR X (binaryOp op) r) (hv : V2L K r g) (ha : SE X K a ta fa) (hb : SE X K b tb fb) : SL X K (.BinOp a op b pos) (tOp r ta tb) (sBinL g fa fb) := ⟨pe_op ho ha.p hb.p, sem_binL hv ha.ok hb.ok⟩
theorem se_cmp {op : CmpOp} {r : R2} {g : PyData → PyData → Option PyData} (ho : L2.OpR X (compareOp op) r) (hv : V2 K r g) (ha : SE X K a ta fa) (hb : SE X K b tb fb) (hm : behindInMarks op b = false := by rfl) : SE X K (.Compare a [op] [b] pos) (tOp r ta tb) (sBin g fa fb) := ⟨pe_cmpR ho ha.p hb.p hm, sem_bin hv ha.ok hb.ok⟩
theorem se_ix {r : R2} {g : PyData → PyData → Option PyData} (ho : IxR X r) (hv : V2 K r g) (ha : SE X K a ta fa) (hb : SE X K b tb fb) (hs : PlainIx b := by exact fun _ _ => rfl) : SE X K (.Subscript a b pos) (tOp r ta tb) (sBin g fa fb) := ⟨pe_ix ho ha.p hb.p hs, sem_bin hv ha.ok hb.ok⟩
theorem st_val (h : SE X K e te fe) (he : ∀ whole, isTrue e X.env whole = (do let v ← whole; standAt e.pos; holding [v] (truthy v)) := by intro _; rfl) : ST X K e (tB te) (sTest fe) := ⟨pt_val h.p he, sem_test h.ok⟩
theorem st_cmp {op : CmpOp} {r : R2} {g : PyData → PyData → Option PyData} (ho : L2.OpR X (compareOp op) r) (hv : V2 K r g) (ha : SE X K a ta fa) (hb : SE X K b tb fb) (hm : behindInMarks op b = false := by rfl) : ST X K (.Compare a [op] [b] pos) (tTest (tOp r ta tb)) (sTest (sBin g fa fb)) := ⟨pt_cmpR ho ha.p hb.p hm, sem_test (sem_bin hv ha.ok hb.ok)⟩
theorem sw_and1 (h : ST X K a tt ft) : SW X K (.BoolOp .And [a] pos) tt ft := ⟨pw_and1 h.p, h.ok⟩
theorem sw_or1 (h : ST X K a tt ft) : SW X K (.BoolOp .Or [a] pos) tt ft := ⟨pw_or1 h.p, h.ok⟩
theorem st_sw (h : SW X K a tt ft) : ST X K a tt ft := ⟨h.p.pt, h.ok⟩
theorem sw_and {rest : List Expr} (h : ST X K a tt ft) (h2 : SW X K (.BoolOp .And (b :: rest) pos) tu fu) : SW X K (.BoolOp .And (a :: b :: rest) pos) (tAnd tt tu) (sAnd ft fu) := ⟨pw_and h.p h2.p, sem_and h.ok h2.ok⟩
theorem sw_or {rest : List Expr} (h : ST X K a tt ft) (h2 : SW X K (.BoolOp .Or (b :: rest) pos) tu fu) : SW X K (.BoolOp .Or (a :: b :: rest) pos) (tOr tt tu) (sOr ft fu) := ⟨pw_or h.p h2.p, sem_or h.ok h2.ok⟩
theorem st_not (h : ST X K a tt ft) : ST X K (.UnaryOp .Not a pos) (tNot tt) (sNot ft) := ⟨pt_not h.p, sem_not h.ok⟩
theorem se_one {op} (h : SE X K a ta fa) : SE X K (.BoolOp op [a] pos) ta fa := ⟨pe_one h.p, h.ok⟩
theorem se_and {rest : List Expr} (h : SE X K a ta fa) (h2 : SE X K (.BoolOp .And (b :: rest) pos) tb fb) : SE X K (.BoolOp .And (a :: b :: rest) pos) (tAndV ta tb) (sAndV fa fb) := ⟨pe_and h.p h2.p, sem_andV h.ok h2.ok⟩
theorem se_or {rest : List Expr} (h : SE X K a ta fa) (h2 : SE X K (.BoolOp .Or (b :: rest) pos) tb fb) : SE X K (.BoolOp .Or (a :: b :: rest) pos) (tOrV ta tb) (sOrV fa fb) := ⟨pe_or h.p h2.p, sem_orV h.ok h2.ok⟩
theorem se_not (h : SE X K a ta fa) : SE X K (.UnaryOp .Not a pos) (tNotV ta) (sNotV fa) := ⟨pe_not h.p, sem_notV h.ok⟩
theorem se_if (hc : ST X K c tt ft) (h : SE X K a ta fa) (h2 : SE X K b tb fb) : SE X K (.IfExp c a b pos) (tIf tt ta tb) (sIf ft fa fb) := ⟨pe_ifExp hc.p h.p h2.p, sem_if hc.ok h.ok h2.ok⟩
theorem se_chain {op op' : CmpOp} {r r' : R2} {g g' : PyData → PyData → Option PyData} (ho : L2.OpR X (compareOp op) r) (hv : V2 K r g) (ho' : L2.OpR X (compareOp op') r') (hv' : V2 K r' g') (ha : SE X K a ta fa) (hb : SE X K b tb fb) (hc : SE X K c tc fc) (hm : lastMarks [op, op'] [b, c] = false := by rfl) :
    SE X K (.Compare a [op, op'] [b, c] pos) (tChain r r' ta tb tc) (sChain g g' fa fb fc) := ⟨pe_chain ho ho' ha.p hb.p hc.p hm, sem_chain hv hv' ha.ok hb.ok hc.ok⟩
theorem st_chain {op op' : CmpOp} {r r' : R2} {g g' : PyData → PyData → Option PyData} (ho : L2.OpR X (compareOp op) r) (hv : V2 K r g) (ho' : L2.OpR X (compareOp op') r') (hv' : V2 K r' g') (ha : SE X K a ta fa) (hb : SE X K b tb fb) (hc : SE X K c tc fc) (hm : lastMarks [op, op'] [b, c] = false := by rfl) :
    ST X K (.Compare a [op, op'] [b, c] pos) (tTest (tChain r r' ta tb tc)) (sTest (sChain g g' fa fb fc)) := ⟨pt_chain ho ho' ha.p hb.p hc.p hm, sem_test (sem_chain hv hv' ha.ok hb.ok hc.ok)⟩
theorem se_un {op : UnaryOp} {r : V → Hp → VK → Prop} {g : PyData → Option PyData} (ho : UnR X (unaryOp op) r) (hv : V1 K r g) (ha : SE X K a ta fa) : SE X K (.UnaryOp op a pos) (tUn r ta) (sUn g fa) := ⟨pe_un ho ha.p, sem_un hv ha.ok⟩
theorem se_tup {k} (h : SA X K es tA fs) : SE X K (.Tuple es k pos) (tTup tA) (sTup fs) := ⟨pe_tup h.p, sem_tup h.ok⟩
theorem sl_lst (h : SA X K es tA fs) : SL X K (.List es pos) (tLst tA) (sLst fs) := ⟨pe_lst h.p, sem_lst h.ok⟩
theorem se_cb {x : Str} {p : Pos} {id : String} {r : List V → Hp → VK → Prop} {g : List PyData → Option PyData} (hc : CallR X (.builtin id) r) (hv : VN K r g) (hm : X.mg x = none) (hb : bootBuiltins x = some (.builtin id)) (ha : SA X K (e :: es) tA fs) (hg : Gl X x := by rfl)
    (hn : x ≠ "__name__" := by decide) (hdb : (x == ("__debug__" : Str)) = false := by decide) (he : starEach (e :: es) X.env = (false, eval e X.env) :: starEach es X.env := by rfl) (hpl : (backTo pos (starEach es X.env)).any (·.1) = false := by rfl) : SE X K (.Call (.Name x p) (e :: es) [] pos) (tCB r tA) (sCB g fs) :=
  ⟨pe_callB hc hg hm hb ha.p hn hdb he hpl, sem_cb hv ha.ok⟩
theorem se_ct {x : Str} {p : Pos} {T : String} {r : List V → Hp → VK → Prop} {g : List PyData → Option PyData} (hc : CallR X (.type T) r) (hv : VN K r g) (hm : X.mg x = none) (hb : bootBuiltins x = some (.type T)) (ha : SA X K (e :: es) tA fs) (hg : Gl X x := by rfl)
    (hn : x ≠ "__name__" := by decide) (hdb : (x == ("__debug__" : Str)) = false := by decide) (he : starEach (e :: es) X.env = (false, eval e X.env) :: starEach es X.env := by rfl) (hpl : (backTo pos (starEach es X.env)).any (·.1) = false := by rfl) : SE X K (.Call (.Name x p) (e :: es) [] pos) (tCB r tA) (sCB g fs) :=
  ⟨pe_callTy hc hg hm hb ha.p hn hdb he hpl, sem_cb hv ha.ok⟩
theorem sl_cb {x : Str} {p : Pos} {id : String} {r : List V → Hp → VK → Prop} {g : List PyData → Option (List PyData)} (hc : CallR X (.builtin id) r) (hv : VL K r g) (hm : X.mg x = none) (hb : bootBuiltins x = some (.builtin id)) (ha : SA X K (e :: es) tA fs) (hg : Gl X x := by rfl)
    (hn : x ≠ "__name__" := by decide) (hdb : (x == ("__debug__" : Str)) = false := by decide) (he : starEach (e :: es) X.env = (false, eval e X.env) :: starEach es X.env := by rfl) (hpl : (backTo pos (starEach es X.env)).any (·.1) = false := by rfl) : SL X K (.Call (.Name x p) (e :: es) [] pos) (tCB r tA) (sCBL g fs) :=
  ⟨pe_callB hc hg hm hb ha.p hn hdb he hpl, sem_cbl hv ha.ok⟩
theorem sl_ct {x : Str} {p : Pos} {T : String} {r : List V → Hp → VK → Prop} {g : List PyData → Option (List PyData)} (hc : CallR X (.type T) r) (hv : VL K r g) (hm : X.mg x = none) (hb : bootBuiltins x = some (.type T)) (ha : SA X K (e :: es) tA fs) (hg : Gl X x := by rfl)
    (hn : x ≠ "__name__" := by decide) (hdb : (x == ("__debug__" : Str)) = false := by decide) (he : starEach (e :: es) X.env = (false, eval e X.env) :: starEach es X.env := by rfl) (hpl : (backTo pos (starEach es X.env)).any (·.1) = false := by rfl) : SL X K (.Call (.Name x p) (e :: es) [] pos) (tCB r tA) (sCBL g fs) :=
  ⟨pe_callTy hc hg hm hb ha.p hn hdb he hpl, sem_cbl hv ha.ok⟩
end
end DL

set_option Elab.async false
set_option linter.all false
set_option maxRecDepth 100000
set_option maxHeartbeats 4000000
/-! DL, part 3: frames within frames, targets, walks, comprehensions, statements. -/
namespace DL
open PySem PySem.Spec PyProof.Rows L2

/-! ### frames within frames -/
section
variable {K : KK} {F F' : Fr} {S S' T : List SD} {σ σ' : L2.St} {H G H' G' : Hp}
theorem SR.back (r : SR K F S σ H G) (r' : SR K F' S' σ' H' G') (h0 : F'.H0 = H) (g0 : F'.G0 = G)
    (hown : ∀ a, F'.B a → ∃ (j : Nat) (c : Bool) (ys : OB), S[j]? = some (.own c ys) ∧ σ[j]? = some (some (.ref a)))
    (hT : T.length = S.length) (hTd : ∀ (j : Nat) x, T[j]? = some (.d x) → S[j]? = some (.d x))
    (hTo : ∀ (j : Nat) (b : Bool) (xs : OB), T[j]? = some (.own b xs) → (∃ ys, S[j]? = some (.own b ys)) ∧ ∃ a, σ[j]? = some (some (.ref a)) ∧
      ((∃ i : Nat, S'[i]? = some (.own true xs) ∧ F'.s0[i]? = some (some (.ref a))) ∨ (S[j]? = some (.own b xs) ∧ ¬ F'.B a))) : SR K F T σ H' G' := by
  subst h0 g0
  refine ⟨by rw [r.len, hT], r.g0.trans r'.g0, r'.gh, fun b h => ?_, fun b o h n => ?_, fun b h => r'.live b (r.live b h), fun j x e => ?_, fun j b xs e => ?_, fun i j a b1 x1 b2 x2 e1 e2 e3 e4 => ?_⟩
  · rcases r'.new b h with q | q
    · exact r.new b q
    · cases z : F.H0 b with
      | none => exact .inr rfl
      | some o => exact absurd q (r.live b (by rw [z]; simp))
  · refine r'.keep b o (r.keep b o h n) fun hb => ?_
    obtain ⟨j, c, ys, q1, q2⟩ := hown b hb
    obtain ⟨a, vs, p1, _, _, _, p5, p6⟩ := r.own j c ys q1
    rw [q2] at p1
    cases p1
    cases c with
    | true => exact n (p5 rfl).1
    | false => rw [p6 rfl] at h; cases h
  · obtain ⟨v, h1, h2⟩ := r.dat j x (hTd j x e)
    exact ⟨v, h1, h2.mono r'.g0⟩
  · obtain ⟨⟨ys, q1⟩, a, q2, q3⟩ := hTo j b xs e
    obtain ⟨a', vs, p1, p2, p3, p4, p5, p6⟩ := r.own j b ys q1
    rw [q2] at p1
    cases p1
    rcases q3 with ⟨i, z1, z2⟩ | ⟨z1, z2⟩
    · obtain ⟨c, ws, t1, t2, t3, t4, t5, _⟩ := r'.own i _ _ z1
      have t6 := (t5 rfl).2
      rw [z2] at t6
      cases t6
      exact ⟨a, ws, q2, t2, t3, t4, p5, p6⟩
    · rw [q1] at z1
      cases z1
      refine ⟨a, vs, q2, ?_, r'.keep a _ p3 z2, p4.mono r'.g0, p5, p6⟩
      cases z : G' a with
      | none => rfl
      | some o =>
        rcases r'.new a (by rw [z]; simp) with q | q
        · exact absurd p2 q
        · rw [p3] at q; cases q
  · obtain ⟨⟨y1, z1⟩, _⟩ := hTo i b1 x1 e1
    obtain ⟨⟨y2, z2⟩, _⟩ := hTo j b2 x2 e2
    exact r.sep i j a b1 y1 b2 y2 z1 z2 e3 e4
/-- an object of ours that no slot tells is written -/
theorem SR.side (r : SR K F S σ H G) {p : Addr} {o : HO} (h0 : F.H0 p = none) (hg : G p = none) (ap : Apart S σ p) : SR K F S σ (upd H p o) G := by
  refine ⟨r.len, r.g0, fun c u q => ?_, r.new, fun c u q n => ?_, fun c q => ?_, r.dat, fun j b xs e => ?_, r.sep⟩
  · rw [upd_ne (ne_of_none q hg)]; exact r.gh c u q
  · rw [upd_ne (ne_of_none q h0)]; exact r.keep c u q n
  · by_cases hc : c = p
    · subst hc; rw [upd_same]; simp
    · rw [upd_ne hc]; exact r.live c q
  · obtain ⟨a, vs, p1, p2, p3, p4⟩ := r.own j b xs e
    refine ⟨a, vs, p1, p2, ?_, p4⟩
    have na : a ≠ p := fun z => by subst z; exact ap j _ _ e p1
    rw [upd_ne na]; exact p3
end

/-- own lists are lent -/
def bor : SD → SD
  | .own _ xs => .own true xs
  | s => s
/-- .. but for the places vs, of which nothing is told -/
def borGo (vs : List Nat) : Nat → List SD → List SD
  | _, [] => []
  | j, s :: S => (if j ∈ vs then .un else bor s) :: borGo vs (j + 1) S
def unb1 : SD → SD → SD
  | .own b _, .own true xs => .own b xs
  | .own _ _, _ => .un
  | s, _ => s
def unbGo (vs : List Nat) : Nat → List SD → List SD → List SD
  | j, s :: S, s' :: S' => (if j ∈ vs then s else unb1 s s') :: unbGo vs (j + 1) S S'
  | _, S, [] => S.map fun _ => .un
  | _, [], _ => []
theorem borGo_get (vs : List Nat) : ∀ (S : List SD) (k i : Nat), (borGo vs k S)[i]? = (S[i]?).map fun s => if k + i ∈ vs then .un else bor s
  | [], _, _ => by simp [borGo]
  | s :: S, k, 0 => by simp [borGo]
  | s :: S, k, i + 1 => by
    have ih := borGo_get vs S (k + 1) i
    have e : k + 1 + i = k + (i + 1) := by omega
    rw [e] at ih
    simpa [borGo] using ih
theorem unbGo_len (vs : List Nat) : ∀ (S S' : List SD) (k : Nat), (unbGo vs k S S').length = S.length
  | [], [], _ => rfl
  | [], _ :: _, _ => rfl
  | _ :: _, [], _ => by simp [unbGo]
  | s :: S, s' :: S', k => by simp [unbGo, unbGo_len vs S S' (k + 1)]
theorem unbGo_d (vs : List Nat) : ∀ (S S' : List SD) (k i : Nat) (x : PyData), (unbGo vs k S S')[i]? = some (.d x) → S[i]? = some (.d x)
  | [], [], _, _, _, h => by simp [unbGo] at h
  | [], _ :: _, _, _, _, h => by simp [unbGo] at h
  | _ :: _, [], _, i, _, h => by
    simp only [unbGo, List.getElem?_map] at h
    obtain ⟨_, _, h⟩ := Option.map_eq_some_iff.mp h
    cases h
  | s :: S, s' :: S', k, 0, x, h => by
    simp only [unbGo, List.getElem?_cons_zero, Option.some.injEq] at h ⊢
    split at h
    · exact h
    · cases s with
      | own b xs => cases s' with
        | own c ys => cases c <;> cases h
        | _ => cases h
      | _ => exact h
  | s :: S, s' :: S', k, i + 1, x, h => by
    simp only [unbGo, List.getElem?_cons_succ] at h ⊢
    exact unbGo_d vs S S' (k + 1) i x h
theorem unbGo_own (vs : List Nat) : ∀ (S S' : List SD) (k i : Nat) (b : Bool) (xs : OB), (unbGo vs k S S')[i]? = some (.own b xs) →
    (k + i ∈ vs ∧ S[i]? = some (.own b xs)) ∨ (k + i ∉ vs ∧ (∃ ys, S[i]? = some (.own b ys)) ∧ S'[i]? = some (.own true xs))
  | [], [], _, _, _, _, h => by simp [unbGo] at h
  | [], _ :: _, _, _, _, _, h => by simp [unbGo] at h
  | _ :: _, [], _, i, _, _, h => by
    simp only [unbGo, List.getElem?_map] at h
    obtain ⟨_, _, h⟩ := Option.map_eq_some_iff.mp h
    cases h
  | s :: S, s' :: S', k, 0, b, xs, h => by
    simp only [unbGo, List.getElem?_cons_zero, Option.some.injEq] at h ⊢
    by_cases hk : k ∈ vs
    · rw [if_pos hk] at h
      exact .inl ⟨hk, h⟩
    · rw [if_neg hk] at h
      cases s with
      | own b' xs' => cases s' with
        | own c ys => cases c with
          | true => cases h; exact .inr ⟨hk, ⟨_, rfl⟩, rfl⟩
          | false => cases h
        | _ => cases h
      | _ => cases h
  | s :: S, s' :: S', k, i + 1, b, xs, h => by
    simp only [unbGo, List.getElem?_cons_succ] at h ⊢
    have ih := unbGo_own vs S S' (k + 1) i b xs h
    have e : k + 1 + i = k + (i + 1) := by omega
    rw [e] at ih
    exact ih
theorem wipe_get (σ : L2.St) (i : Nat) : ∀ vs : List Nat, i ∉ vs → (wipe σ vs)[i]? = σ[i]?
  | [], _ => rfl
  | v :: vs, h => by
    have h1 : v ≠ i := fun e => h (by simp [e])
    unfold wipe
    rw [List.getElem?_set_ne h1]
    exact wipe_get σ i vs fun z => h (List.mem_cons_of_mem _ z)
theorem wipe_get_in (σ : L2.St) (i : Nat) : ∀ vs : List Nat, i ∈ vs → (wipe σ vs)[i]? = (σ[i]?).map fun _ => none
  | [], h => absurd h (by simp)
  | v :: vs, h => by
    unfold wipe
    by_cases e : v = i
    · subst e
      by_cases hl : v < σ.length
      · rw [List.getElem?_set_self (by rw [wipe_length]; exact hl), List.getElem?_eq_getElem hl]; rfl
      · rw [List.getElem?_eq_none (by rw [List.length_set, wipe_length]; omega), List.getElem?_eq_none (by omega)]; rfl
    · rw [List.getElem?_set_ne e]
      rcases List.mem_cons.mp h with q | q
      · exact absurd q.symm e
      · exact wipe_get_in σ i vs q
theorem wipe_ext {σ σ' : L2.St} {vs : List Nat} (h : ∀ i, i ∉ vs → σ[i]? = σ'[i]?) (hl : σ.length = σ'.length) : wipe σ vs = wipe σ' vs := by
  apply List.ext_getElem?
  intro i
  by_cases hi : i ∈ vs
  · rw [wipe_get_in _ _ _ hi, wipe_get_in _ _ _ hi]
    by_cases q : i < σ.length
    · rw [List.getElem?_eq_getElem q, List.getElem?_eq_getElem (by omega)]; rfl
    · rw [List.getElem?_eq_none (by omega), List.getElem?_eq_none (by omega)]
  · rw [wipe_get _ _ _ hi, wipe_get _ _ _ hi]
    exact h i hi
/-- slots that are the same but at places of vs -/
def Bt (vs : List Nat) (σ σ' : L2.St) : Prop := σ.length = σ'.length ∧ ∀ i, i ∉ vs → σ[i]? = σ'[i]?
theorem Bt.refl (vs : List Nat) (σ : L2.St) : Bt vs σ σ := ⟨rfl, fun _ _ => rfl⟩
theorem Bt.trans {vs : List Nat} {a b c : L2.St} (h : Bt vs a b) (g : Bt vs b c) : Bt vs a c := ⟨h.1.trans g.1, fun i hi => (h.2 i hi).trans (g.2 i hi)⟩
theorem Bt.set {vs : List Nat} {σ : L2.St} {i : Nat} {o : Option V} (h : i ∈ vs) : Bt vs σ (σ.set i o) := ⟨by simp, fun j hj => by rw [List.getElem?_set_ne]; intro e; subst e; exact hj h⟩
theorem Bt.wiped {vs : List Nat} {σ : L2.St} : Bt vs σ (wipe σ vs) := ⟨(wipe_length σ vs).symm, fun i hi => (wipe_get σ i vs hi).symm⟩
section
variable {K : KK} {F F' : Fr} {S S' T : List SD} {σ σ' : L2.St} {H G H' G' : Hp}
/-- the frame of a block (a comprehension's; vs its own names) -/
def Fr.blk (vs : List Nat) (S : List SD) (σ : L2.St) (H G : Hp) : Fr := ⟨H, G, borGo vs 0 S, wipe σ vs⟩
theorem bor_own {s : SD} {b : Bool} {xs : OB} (h : bor s = .own b xs) : b = true ∧ ∃ c, s = .own c xs := by
  cases s with
  | own c ys => cases h; exact ⟨rfl, c, rfl⟩
  | _ => cases h
theorem blk_own {vs : List Nat} {i : Nat} {b : Bool} {xs : OB} (h : (borGo vs 0 S)[i]? = some (.own b xs)) : i ∉ vs ∧ b = true ∧ ∃ c, S[i]? = some (.own c xs) := by
  rw [borGo_get, Nat.zero_add] at h
  obtain ⟨s, h1, h2⟩ := Option.map_eq_some_iff.mp h
  by_cases hi : i ∈ vs
  · rw [if_pos hi] at h2; cases h2
  · rw [if_neg hi] at h2
    obtain ⟨e, c, q⟩ := bor_own h2
    subst q
    exact ⟨hi, e, c, h1⟩
theorem SR.sub (r : SR K F S σ H G) (vs : List Nat) : SR K (Fr.blk vs S σ H G) (borGo vs 0 S) (wipe σ vs) H G := by
  have own : ∀ (i : Nat) (b : Bool) (xs : OB), (borGo vs 0 S)[i]? = some (.own b xs) → ∃ c, i ∉ vs ∧ b = true ∧ S[i]? = some (.own c xs) ∧ (wipe σ vs)[i]? = σ[i]? := fun i b xs e => by
    obtain ⟨h1, h2, c, h3⟩ := blk_own e
    exact ⟨c, h1, h2, h3, wipe_get σ i vs h1⟩
  refine ⟨?_, .refl _, r.gh, fun b h => .inl h, fun b o h _ => h, fun b h => h, fun i x e => ?_, fun i b xs e => ?_, fun i j a b1 x1 b2 x2 e1 e2 e3 e4 => ?_⟩
  · rw [wipe_length, r.len]
    have h : ∀ (S : List SD) (k : Nat), (borGo vs k S).length = S.length := fun S => by
      induction S with
      | nil => intro k; rfl
      | cons s S ih => intro k; simp [borGo, ih]
    exact (h S 0).symm
  · rw [borGo_get, Nat.zero_add] at e
    obtain ⟨s, h1, h2⟩ := Option.map_eq_some_iff.mp e
    by_cases hi : i ∈ vs
    · rw [if_pos hi] at h2; cases h2
    · rw [if_neg hi] at h2
      have hs : s = .d x := by
        cases s with
        | own c ys => cases h2
        | _ => exact h2
      subst hs
      rw [wipe_get σ i vs hi]
      exact r.dat i x h1
  · obtain ⟨c, hi, hb, h3, h4⟩ := own i b xs e
    obtain ⟨a, ws, p1, p2, p3, p4, _⟩ := r.own i c xs h3
    refine ⟨a, ws, h4.trans p1, p2, p3, p4, fun _ => ⟨⟨i, b, xs, e, h4.trans p1⟩, h4.trans p1⟩, fun q => ?_⟩
    rw [hb] at q; cases q
  · obtain ⟨c1, _, _, h3, h4⟩ := own i b1 x1 e1
    obtain ⟨c2, _, _, h5, h6⟩ := own j b2 x2 e2
    rw [h4] at e3
    rw [h6] at e4
    exact r.sep i j a c1 x1 c2 x2 h3 h5 e3 e4
theorem blk_B {vs : List Nat} {a : Addr} (h : (Fr.blk vs S σ H G).B a) : ∃ (j : Nat) (c : Bool) (ys : OB), j ∉ vs ∧ S[j]? = some (.own c ys) ∧ σ[j]? = some (some (.ref a)) := by
  obtain ⟨i, b, xs, h1, h2⟩ := h
  obtain ⟨h3, _, c, h5⟩ := blk_own h1
  have h2 : (wipe σ vs)[i]? = some (some (.ref a)) := h2
  rw [wipe_get σ i vs h3] at h2
  exact ⟨i, c, xs, h3, h5, h2⟩
/-- behind the block -/
theorem SR.unsub (r : SR K F S σ H G) {vs : List Nat} (r' : SR K (Fr.blk vs S σ H G) S' σ' H' G') : SR K F (unbGo vs 0 S S') σ H' G' := by
  refine r.back r' rfl rfl (fun a h => ?_) (unbGo_len vs S S' 0) (fun j x h => unbGo_d vs S S' 0 j x h) fun j b xs h => ?_
  · obtain ⟨j, c, ys, _, h1, h2⟩ := blk_B h
    exact ⟨j, c, ys, h1, h2⟩
  · rcases unbGo_own vs S S' 0 j b xs h with ⟨hj, h1⟩ | ⟨hj, ⟨ys, h1⟩, h2⟩
    · rw [Nat.zero_add] at hj
      obtain ⟨a, ws, p1, _⟩ := r.own j b xs h1
      refine ⟨⟨_, h1⟩, a, p1, .inr ⟨h1, fun q => ?_⟩⟩
      obtain ⟨i, c, zs, q1, q2, q3⟩ := blk_B q
      have e := r.sep i j a _ _ _ _ q2 h1 q3 p1
      subst e
      exact q1 hj
    · rw [Nat.zero_add] at hj
      obtain ⟨a, ws, p1, _⟩ := r.own j b ys h1
      exact ⟨⟨_, h1⟩, a, p1, .inl ⟨j, h2, by show (wipe σ vs)[j]? = _; rw [wipe_get σ j vs hj]; exact p1⟩⟩
/-- what a block leaves alone: an object of ours that no slot tells -/
theorem SR.aside (r : SR K F S σ H G) {vs : List Nat} (r' : SR K (Fr.blk vs S σ H G) S' σ' H' G') {p : Addr} {o : HO} (hp : H p = some o) (hg : G p = none) (ap : Apart S σ p) : H' p = some o ∧ G' p = none := by
  constructor
  · refine r'.keep p o hp fun q => ?_
    obtain ⟨j, c, ys, _, h1, h2⟩ := blk_B q
    exact ap j _ _ h1 h2
  · cases z : G' p with
    | none => rfl
    | some u =>
      rcases r'.new p (by rw [z]; simp) with q | q
      · exact absurd hg q
      · have q : H p = none := q
        rw [hp] at q; cases q
theorem apart_unb {vs : List Nat} {p : Addr} (ap : Apart S σ p) : Apart (unbGo vs 0 S S') σ p := fun i b xs h => by
  rcases unbGo_own vs S S' 0 i b xs h with ⟨_, h1⟩ | ⟨_, ⟨ys, h1⟩, _⟩
  · exact ap i b xs h1
  · exact ap i b ys h1
end

/-! ### targets -/
abbrev GS := PyData → List SD → Option (List SD)
def SemG (K : KK) (t : TG) (ix : List Nat) (g : GS) : Prop := ∀ F S σ H G v x S', SR K F S σ H G → Rp K G v x → g x S = some S' → ∀ Q : L2.St → Hp → Prop, (∀ σ' H' G', SR K F S' σ' H' G' → Ex G G' → Bt ix σ σ' → Q σ' H') → t v σ H Q
def SemGs (K : KK) (t : TGs) (ix : List Nat) (g : List PyData → List SD → Option (List SD)) : Prop := ∀ F S σ H G vs xs S', SR K F S σ H G → RpAll K G vs xs → g xs S = some S' → ∀ Q : L2.St → Hp → Prop, (∀ σ' H' G', SR K F S' σ' H' G' → Ex G G' → Bt ix σ σ' → Q σ' H') → t vs σ H Q
structure SG (X : Cx) (K : KK) (e : Expr) (t : TG) (ix : List Nat) (g : GS) : Prop where
  p : PG X e t
  ok : SemG K t ix g
structure SGs (X : Cx) (K : KK) (es : List Expr) (t : TGs) (ix : List Nat) (g : List PyData → List SD → Option (List SD)) : Prop where
  p : PGs X es t
  ok : SemGs K t ix g
def gsName (i : Nat) : GS := fun x S => some (S.set i (.d x))
theorem Bt.mono {vs ws : List Nat} {σ σ' : L2.St} (h : Bt vs σ σ') (s : ∀ i ∈ vs, i ∈ ws) : Bt ws σ σ' := ⟨h.1, fun i hi => h.2 i fun z => hi (s i z)⟩
theorem sem_gname {K : KK} {i : Nat} : SemG K (gName i) [i] (gsName i) := fun F S σ H G v x S' r h e Q k => by
  cases e
  exact k _ H G (r.setD i h) (.refl _) (.set (by simp))
def gsNil : List PyData → List SD → Option (List SD)
  | [], S => some S
  | _, _ => none
def gsCons (g : GS) (gs : List PyData → List SD → Option (List SD)) : List PyData → List SD → Option (List SD)
  | x :: xs, S => (g x S).bind fun S1 => gs xs S1
  | [], _ => none
theorem sem_gnil {K : KK} : SemGs K gNil [] gsNil := fun F S σ H G vs xs S' r h e Q k => by
  cases h with
  | nil => cases e; exact ⟨rfl, k _ H G r (.refl _) (.refl _ _)⟩
  | cons _ _ => cases e
theorem sem_gcons {K : KK} {t : TG} {u : TGs} {ix iy : List Nat} {g : GS} {gs : List PyData → List SD → Option (List SD)} (h1 : SemG K t ix g) (h2 : SemGs K u iy gs) : SemGs K (gCons t u) (ix ++ iy) (gsCons g gs) := fun F S σ H G vs xs S' r h e Q k => by
  cases h with
  | nil => cases e
  | cons h t' =>
    obtain ⟨S1, e1, e2⟩ := Option.bind_eq_some_iff.mp e
    refine ⟨_, _, rfl, h1 F S σ H G _ _ S1 r h e1 _ fun σ1 H1 G1 r1 g1 b1 => ?_⟩
    refine h2 F S1 σ1 H1 G1 _ _ S' r1 (t'.mono g1) e2 _ fun σ2 H2 G2 r2 g2 b2 => ?_
    exact k σ2 H2 G2 r2 (g1.trans g2) ((b1.mono fun i hi => List.mem_append_left _ hi).trans (b2.mono fun i hi => List.mem_append_right _ hi))
def dTup : PyData → Option (List PyData)
  | .tuple xs => some xs
  | _ => none
theorem dTup_some {x : PyData} {xs : List PyData} (h : dTup x = some xs) : x = .tuple xs := by
  cases x with
  | tuple c => cases h; rfl
  | _ => cases h
def gsTup (n : Nat) (gs : List PyData → List SD → Option (List SD)) : GS := fun x S => (dTup x).bind fun xs => if xs.length = n then gs xs S else none
theorem sem_gtup {K : KK} {u : TGs} {ix : List Nat} {n : Nat} {gs : List PyData → List SD → Option (List SD)} (h2 : SemGs K u ix gs) : SemG K (gTup K n u) ix (gsTup n gs) := fun F S σ H G v x S' r h e Q k => by
  obtain ⟨xs, e1, e2⟩ := Option.bind_eq_some_iff.mp e
  have hx := dTup_some e1
  subst hx
  split at e2
  · rename_i hn
    cases h with
    | tup ht ha => exact ⟨_, _, rfl, r.gh.st ht, by rw [ha.length]; exact hn, h2 F S σ H G _ _ S' r ha e2 Q k⟩
  · cases e2
section
variable {X : Cx} {K : KK} {e : Expr} {es : List Expr} {pos : Pos} {t : TG} {u : TGs} {ix iy : List Nat} {g : GS} {gs : List PyData → List SD → Option (List SD)}
theorem sg_name {i : Nat} {x : Str} (hN : X.N.Nodup) (hi : X.N[i]? = some x := by rfl) (hx : Loc X.env.scope x := by first | exact Or.inl rfl | exact Or.inr rfl) (hf : X.fn x = true ∨ X.env.scope.names.lookup x = some .local := by first | exact Or.inl rfl | exact Or.inr rfl) : SG X K (.Name x pos) (gName i) [i] (gsName i) := ⟨pg_name hN hi hx hf, sem_gname⟩
theorem sgs_nil : SGs X K [] gNil [] gsNil := ⟨pgs_nil, sem_gnil⟩
theorem sgs_cons (h1 : SG X K e t ix g) (h2 : SGs X K es u iy gs) (hs : (assignEach (e :: es) X.env).map (·.2) = assign e X.env :: (assignEach es X.env).map (·.2) := by rfl) : SGs X K (e :: es) (gCons t u) (ix ++ iy) (gsCons g gs) := ⟨pgs_cons h1.p h2.p hs, sem_gcons h1.ok h2.ok⟩
theorem sg_tup {k n : Nat} (hK : Ckk X = K) (hc : X.calm = true) (h : SGs X K es u ix gs) (hn : (assignEach es X.env).length = n := by rfl) (hst : (assignEach es X.env).findIdx? (·.1) = none := by rfl) : SG X K (.Tuple es k pos) (gTup K n u) ix (gsTup n gs) := by
  subst hK
  exact ⟨pg_tup hc h.p hn hst, sem_gtup h.ok⟩
end

/-! ### what is walked -/
/-- J yields the items, one after another, whatever else grows -/
def Wk (K : KK) (G1 : Hp) (J : It) (items : List PyData) : Prop := ∀ G H, Ex G1 G → Ex G H → ∀ i, (i < items.length → J.go i H ∧ ∀ v H', J.yld i H v H' → ∃ G' x, items[i]? = some x ∧ PX G H G' H' ∧ Rp K G' v x) ∧ (i = items.length → J.stop i H)
def SemI (K : KK) (wi : TI) (f : LS) : Prop := ∀ F S σ H G xs S', SR K F S σ H G → f S = some (xs, S') → ∀ R : It → Hp → Prop, (∀ J H' G', SR K F S' σ H' G' → Ex G G' → Wk K G' J xs → R J H') → wi σ H R
structure SI (X : Cx) (K : KK) (tg iter : Expr) (wi : TI) (f : LS) : Prop where
  p : PI X tg iter wi
  ok : SemI K wi f

/-! ### statements -/
inductive Out where
  | nx (S : List SD)
  | bk (S : List SD)
  | ct (S : List SD)
  | rt (r : SD) (S : List SD)
abbrev SSem := List SD → Option Out
def OutR (K : KK) (F : Fr) (G : Hp) (D : Ends) : Out → Prop
  | .nx S => ∀ σ H G', SR K F S σ H G' → Ex G G' → D.nx σ H
  | .bk S => ∀ σ H G', SR K F S σ H G' → Ex G G' → D.bk σ H
  | .ct S => ∀ σ H G', SR K F S σ H G' → Ex G G' → D.ct σ H
  | .rt r S => ∀ v σ H G', SR K F (S ++ [r]) (σ ++ [some v]) H G' → Ex G G' → D.rt v H
def SemS (K : KK) (t : TS) (f : SSem) : Prop := ∀ F S σ H G out, SR K F S σ H G → f S = some out → ∀ D : Ends, OutR K F G D out → t D σ H
structure SS (X : Cx) (K : KK) (st : Stmt) (t : TS) (f : SSem) : Prop where
  p : PS X st t
  ok : SemS K t f
structure SSs (X : Cx) (K : KK) (st : List Stmt) (t : TS) (f : SSem) : Prop where
  p : PSs X st t
  ok : SemS K t f
section
variable {K : KK} {F : Fr} {G G' : Hp} {D : Ends} {o : Out}
theorem OutR.mono (h : OutR K F G D o) (e : Ex G G') : OutR K F G' D o := by
  cases o with
  | nx S => exact fun σ H G2 r x => h σ H G2 r (e.trans x)
  | bk S => exact fun σ H G2 r x => h σ H G2 r (e.trans x)
  | ct S => exact fun σ H G2 r x => h σ H G2 r (e.trans x)
  | rt r S => exact fun v σ H G2 r x => h v σ H G2 r (e.trans x)
/-- what follows put in nx's place -/
theorem OutR.nxt {N : L2.St → Hp → Prop} (h : OutR K F G D o) (hn : ∀ S, o = .nx S → ∀ σ H G', SR K F S σ H G' → Ex G G' → N σ H) : OutR K F G { D with nx := N } o := by
  cases o with
  | nx S => exact hn S rfl
  | bk S => exact h
  | ct S => exact h
  | rt r S => exact h
end
def sNext : SSem := fun S => some (.nx S)
def sSeq (f g : SSem) : SSem := fun S => (f S).bind fun o => match o with
  | .nx S1 => g S1
  | o => some o
section
variable {K : KK} {t u tb : TS} {f f' fb : SSem} {te ta : TE} {tt : TT} {fe : ES} {fl : LS} {fd : DS} {ft : BS} {g : TG} {gs : GS} {ix : List Nat} {wi : TI} {fi : LS}
theorem sem_next : SemS K tNext sNext := fun F S σ H G out r e D h => by
  cases e
  exact h σ H G r (.refl _)
theorem sem_seq (h1 : SemS K t f) (h2 : SemS K u f') : SemS K (tSeq t u) (sSeq f f') := fun F S σ H G out r e D h => by
  obtain ⟨o, e1, e2⟩ := Option.bind_eq_some_iff.mp e
  cases o with
  | nx S1 => exact h1 F S σ H G _ r e1 _ fun σ1 H1 G1 r1 g1 => h2 F S1 σ1 H1 G1 out r1 e2 D (h.mono g1)
  | bk S1 => cases e2; exact h1 F S σ H G _ r e1 _ h
  | ct S1 => cases e2; exact h1 F S σ H G _ r e1 _ h
  | rt v S1 => cases e2; exact h1 F S σ H G _ r e1 _ h
def sBreak : SSem := fun S => some (.bk S)
def sCont : SSem := fun S => some (.ct S)
theorem sem_break : SemS K tBreak sBreak := fun F S σ H G out r e D h => by cases e; exact h σ H G r (.refl _)
theorem sem_cont : SemS K tCont sCont := fun F S σ H G out r e D h => by cases e; exact h σ H G r (.refl _)
def sNever : SSem := fun _ => none
theorem sem_never : SemS K tNever sNever := fun F S σ H G out r e D h => by cases e
def sDrop (fe : ES) : SSem := fun S => (fe S).map fun p => .nx p.2
theorem sem_drop (h1 : SemE K te fe) : SemS K (tDrop te) (sDrop fe) := fun F S σ H G out r e D h => by
  obtain ⟨⟨o, S1⟩, e1, e2⟩ := Option.map_eq_some_iff.mp e
  cases e2
  exact h1 F S σ H G o S1 r e1 _ fun v H1 G1 r1 g1 _ => h σ H1 G1 r1 g1
def sRet (fd : DS) : SSem := fun S => (fd S).map fun p => .rt (.d p.1) p.2
theorem SR.pushD {F : Fr} {S : List SD} {σ : L2.St} {H G : Hp} {v : V} {x : PyData} (r : SR K F S σ H G) (h : Rp K G v x) : SR K F (S ++ [.d x]) (σ ++ [some v]) H G := by
  have L := r.len
  have old : ∀ {i : Nat} {s : SD}, (S ++ [.d x])[i]? = some s → (i < S.length ∧ S[i]? = some s) ∨ (i = S.length ∧ s = .d x) := fun {i s} e => by
    by_cases hi : i < S.length
    · rw [List.getElem?_append_left hi] at e; exact .inl ⟨hi, e⟩
    · rw [List.getElem?_append_right (by omega)] at e
      cases q : i - S.length with
      | zero => rw [q] at e; cases e; exact .inr ⟨by omega, rfl⟩
      | succ n => rw [q] at e; simp at e
  have ow : ∀ {i : Nat} {b : Bool} {xs : OB}, (S ++ [.d x])[i]? = some (.own b xs) → S[i]? = some (.own b xs) ∧ (σ ++ [some v])[i]? = σ[i]? := fun {i b xs} e => by
    rcases old e with ⟨h1, h2⟩ | ⟨_, h2⟩
    · exact ⟨h2, List.getElem?_append_left (by omega)⟩
    · cases h2
  refine ⟨by simp [L], r.g0, r.gh, r.new, r.keep, r.live, fun i y e => ?_, fun i b xs e => ?_, fun i j a b1 x1 b2 x2 e1 e2 e3 e4 => ?_⟩
  · rcases old e with ⟨h1, h2⟩ | ⟨h1, h2⟩
    · rw [List.getElem?_append_left (by omega)]; exact r.dat i y h2
    · cases h2
      refine ⟨v, ?_, h⟩
      rw [List.getElem?_append_right (by omega), h1, L]
      simp
  · obtain ⟨h1, h2⟩ := ow e
    rw [h2]; exact r.own i b xs h1
  · obtain ⟨h1, h2⟩ := ow e1
    obtain ⟨h3, h4⟩ := ow e2
    rw [h2] at e3
    rw [h4] at e4
    exact r.sep i j a b1 x1 b2 x2 h1 h3 e3 e4
theorem SR.pushO {F : Fr} {S : List SD} {σ : L2.St} {H G : Hp} {p : Addr} {vs : HO} {xs : OB} (r : SR K F S σ H G) (h0 : F.H0 p = none) (hg : G p = none) (ap : Apart S σ p) (hh : H p = some vs) (h : OwR K p G vs xs) : SR K F (S ++ [.own false xs]) (σ ++ [some (.ref p)]) H G := by
  have L := r.len
  have old : ∀ {i : Nat} {s : SD}, (S ++ [.own false xs])[i]? = some s → (i < S.length ∧ S[i]? = some s ∧ (σ ++ [some (.ref p)])[i]? = σ[i]?) ∨ (i = S.length ∧ s = .own false xs ∧ (σ ++ [some (.ref p)])[i]? = some (some (.ref p))) := fun {i s} e => by
    by_cases hi : i < S.length
    · rw [List.getElem?_append_left hi] at e; exact .inl ⟨hi, e, List.getElem?_append_left (by omega)⟩
    · rw [List.getElem?_append_right (by omega)] at e
      cases q : i - S.length with
      | zero => rw [q] at e; cases e; exact .inr ⟨by omega, rfl, by rw [List.getElem?_append_right (by omega), L, q]; rfl⟩
      | succ n => rw [q] at e; simp at e
  refine ⟨by simp [L], r.g0, r.gh, r.new, r.keep, r.live, fun i y e => ?_, fun i b ys e => ?_, fun i j a b1 x1 b2 x2 e1 e2 e3 e4 => ?_⟩
  · rcases old e with ⟨h1, h2, h3⟩ | ⟨h1, h2, _⟩
    · rw [h3]; exact r.dat i y h2
    · cases h2
  · rcases old e with ⟨h1, h2, h3⟩ | ⟨h1, h2, h3⟩
    · rw [h3]; exact r.own i b ys h2
    · cases h2
      exact ⟨p, vs, h3, hg, hh, h, (fun q => by cases q), fun _ => h0⟩
  · rcases old e1 with ⟨h1, h2, h3⟩ | ⟨h1, h2, h3⟩ <;> rcases old e2 with ⟨k1, k2, k3⟩ | ⟨k1, k2, k3⟩
    · rw [h3] at e3; rw [k3] at e4
      exact r.sep i j a b1 x1 b2 x2 h2 k2 e3 e4
    · rw [h3] at e3; rw [k3] at e4
      cases e4
      exact absurd e3 (ap i _ _ h2)
    · rw [h3] at e3; rw [k3] at e4
      cases e3
      exact absurd e4 (ap j _ _ k2)
    · omega
theorem sem_ret (h1 : SemD K te fd) : SemS K (tRet te) (sRet fd) := fun F S σ H G out r e D h => by
  obtain ⟨⟨o, S1⟩, e1, e2⟩ := Option.map_eq_some_iff.mp e
  cases e2
  exact h1 F S σ H G o S1 r e1 _ fun v H1 G1 r1 g1 h2 => h v σ H1 G1 (r1.pushD h2) g1
def sRetL (fl : LS) : SSem := fun S => (fl S).map fun p => .rt (.own false p.1) p.2
theorem sem_retL (h1 : SemL K te fl) : SemS K (tRet te) (sRetL fl) := fun F S σ H G out r e D h => by
  obtain ⟨⟨o, S1⟩, e1, e2⟩ := Option.map_eq_some_iff.mp e
  cases e2
  exact h1 F S σ H G o S1 r e1 _ fun p vs H1 G1 r1 g1 h0 hg ap hh h2 => h _ σ H1 G1 (r1.pushO h0 hg ap hh (.lst h2)) g1
/-- return x, x a slot's own list: it goes to the caller -/
def retS (S : List SD) (i : Nat) : Option SD → Option Out
  | some (.own false xs) => some (.rt (.own false xs) (S.set i .un))
  | some (.d x) => some (.rt (.d x) S)
  | _ => none
def sRetV (i : Nat) : SSem := fun S => retS S i (S[i]?)
theorem sem_retV {i : Nat} : SemS K (tRet (tVar i)) (sRetV i) := fun F S σ H G out r e D h => by
  have e : retS S i (S[i]?) = some out := e
  cases q : S[i]? with
  | none => rw [q] at e; cases e
  | some sd =>
    rw [q] at e
    cases sd with
    | un => cases e
    | d x =>
      cases e
      obtain ⟨v, h1, h2⟩ := r.dat i x q
      exact ⟨v, h1, h v σ H G (r.pushD h2) (.refl _)⟩
    | own b xs =>
      cases b with
      | true => cases e
      | false =>
        cases e
        obtain ⟨a, vs, p1, p2, p3, p4, _, p6⟩ := r.own i _ _ q
        have hi : i < S.length := (List.getElem?_eq_some_iff.mp q).1
        have r2 : SR K F (S.set i .un) σ H G := by
          have := r.forget i (σ[i]'(by rw [r.len]; exact hi))
          rwa [List.set_getElem_self] at this
        have ap : Apart (S.set i .un) σ a := fun j b ys z1 z2 => by
          by_cases hj : i = j
          · subst hj
            rw [List.getElem?_set_self hi] at z1; cases z1
          · rw [List.getElem?_set_ne hj] at z1
            exact hj (r.sep i j a _ _ _ _ q z1 p1 z2)
        exact ⟨_, p1, h _ σ H G (r2.pushO (p6 rfl) p2 ap p3 p4) (.refl _)⟩
def sRetN : SSem := fun S => some (.rt (.d .none) S)
theorem sem_retN : SemS K tRetN sRetN := fun F S σ H G out r e D h => by
  cases e
  exact h .non σ H G (r.pushD .non) (.refl _)
def sAsg (fd : DS) (gs : GS) : SSem := fun S => (fd S).bind fun p => (gs p.1 p.2).map fun S1 => .nx S1
theorem sem_asg (h1 : SemD K te fd) (h2 : SemG K g ix gs) : SemS K (tAsg te g) (sAsg fd gs) := fun F S σ H G out r e D h => by
  obtain ⟨⟨x, S1⟩, e1, e⟩ := Option.bind_eq_some_iff.mp e
  obtain ⟨S2, e2, e3⟩ := Option.map_eq_some_iff.mp e
  cases e3
  exact h1 F S σ H G x S1 r e1 _ fun v H1 G1 r1 g1 hv => h2 F S1 σ H1 G1 v x S2 r1 hv e2 _ fun σ2 H2 G2 r2 g2 _ => h σ2 H2 G2 r2 (g1.trans g2)
def sAsgL (fl : LS) (i : Nat) : SSem := fun S => (fl S).map fun p => .nx (p.2.set i (.own false p.1))
theorem sem_asgL {i : Nat} (h1 : SemL K te fl) : SemS K (tAsg te (gName i)) (sAsgL fl i) := fun F S σ H G out r e D h => by
  obtain ⟨⟨xs, S1⟩, e1, e3⟩ := Option.map_eq_some_iff.mp e
  cases e3
  exact h1 F S σ H G xs S1 r e1 _ fun p vs H1 G1 r1 g1 h0 hg ap hh h2 => h _ H1 G1 (r1.setO i hg hh (.lst h2) h0 ap) g1
theorem sem_ifS (hc : SemB K tt ft) (h1 : SemS K t f) (h2 : SemS K u f') : SemS K (tIfS tt t u) (sIf ft f f') := fun F S σ H G out r e D h => by
  obtain ⟨⟨c, S1⟩, e1, e⟩ := Option.bind_eq_some_iff.mp e
  refine hc F S σ H G c S1 r e1 _ fun H1 G1 r1 g1 => ?_
  cases c with
  | true => exact h1 F S1 σ H1 G1 out r1 e D (h.mono g1)
  | false => exact h2 F S1 σ H1 G1 out r1 e D (h.mono g1)
/-! loops -/
def forGo (gs : GS) (fb : SSem) : List PyData → SSem
  | [], S => some (.nx S)
  | x :: xs, S => (gs x S).bind fun S1 => (fb S1).bind fun o => match o with
    | .nx S2 => forGo gs fb xs S2
    | .ct S2 => forGo gs fb xs S2
    | .bk S2 => some (.nx S2)
    | .rt r S2 => some (.rt r S2)
def sFor (fi : LS) (gs : GS) (fb : SSem) : SSem := fun S => (fi S).bind fun p => forGo gs fb p.1 p.2
theorem sem_for (hi : SemI K wi fi) (hg : SemG K g ix gs) (hb : SemS K tb fb) : SemS K (tFor wi g tb) (sFor fi gs fb) := fun F S σ H G out r e D h => by
  obtain ⟨⟨xs, S1⟩, e1, e2⟩ := Option.bind_eq_some_iff.mp e
  refine hi F S σ H G xs S1 r e1 _ fun J H1 G1 r1 g1 wk => ?_
  refine ⟨fun i m σ' H' => i + m = xs.length ∧ ∃ S' G', SR K F S' σ' H' G' ∧ Ex G1 G' ∧ forGo gs fb (xs.drop i) S' = some out, ⟨xs.length, by omega, S1, G1, r1, .refl _, by simpa using e2⟩, fun i m σ' H' ⟨hm, S', G', r', x', ef⟩ => ?_⟩
  obtain ⟨w1, w2⟩ := wk G' H' x' r'.gh i
  by_cases hi : i < xs.length
  · obtain ⟨go, yl⟩ := w1 hi
    have ed : xs.drop i = xs[i] :: xs.drop (i + 1) := List.drop_eq_getElem_cons hi
    rw [ed] at ef
    obtain ⟨S2, q1, ef⟩ := Option.bind_eq_some_iff.mp ef
    obtain ⟨o, q2, ef⟩ := Option.bind_eq_some_iff.mp ef
    refine .inr ⟨go, fun σ2 H2 => ∃ S3 G3, SR K F S3 σ2 H2 G3 ∧ Ex G1 G3 ∧ forGo gs fb (xs.drop (i + 1)) S3 = some out, fun σ2 H2 ⟨S3, G3, r3, x3, e3⟩ => ⟨m - 1, by omega, by omega, S3, G3, r3, x3, e3⟩, fun v H2 hy => ?_⟩
    obtain ⟨G2, x, hx, px, hr⟩ := yl v H2 hy
    rw [List.getElem?_eq_getElem hi] at hx
    cases hx
    refine hg F S' σ' H2 G2 v _ S2 (r'.ext px) hr q1 _ fun σ3 H3 G3 r3 g3 _ => ?_
    have x3 : Ex G1 G3 := (x'.trans px.gg).trans g3
    refine hb F S2 σ3 H3 G3 o r3 q2 _ ?_
    cases o with
    | nx S4 => exact fun σ4 H4 G4 r4 g4 => ⟨S4, G4, r4, x3.trans g4, ef⟩
    | ct S4 => exact fun σ4 H4 G4 r4 g4 => ⟨S4, G4, r4, x3.trans g4, ef⟩
    | bk S4 => cases ef; exact fun σ4 H4 G4 r4 g4 => h σ4 H4 G4 r4 ((g1.trans x3).trans g4)
    | rt rv S4 => cases ef; exact fun v4 σ4 H4 G4 r4 g4 => h v4 σ4 H4 G4 r4 ((g1.trans x3).trans g4)
  · refine .inl ⟨w2 (by omega), ?_⟩
    rw [List.drop_eq_nil_of_le (by omega)] at ef
    cases ef
    exact h σ' H' G' r' (g1.trans x')
def whileGo (ft : BS) (fb : SSem) : Nat → SSem
  | 0, _ => none
  | n + 1, S => (ft S).bind fun p => if p.1 = true then (fb p.2).bind fun o => match o with
    | .nx S2 => whileGo ft fb n S2
    | .ct S2 => whileGo ft fb n S2
    | .bk S2 => some (.nx S2)
    | .rt r S2 => some (.rt r S2) else some (.nx p.2)
def sWhile (n : Nat) (ft : BS) (fb : SSem) : SSem := fun S => whileGo ft fb n S
theorem sem_while {n : Nat} (ht : SemB K tt ft) (hb : SemS K tb fb) : SemS K (tWhile tt tb) (sWhile n ft fb) := fun F S σ H G out r e D h => by
  refine ⟨fun m σ' H' => ∃ S' G', SR K F S' σ' H' G' ∧ Ex G G' ∧ whileGo ft fb m S' = some out, ⟨n, S, G, r, .refl _, e⟩, fun m σ' H' ⟨S', G', r', x', ef⟩ => ?_⟩
  cases m with
  | zero => cases ef
  | succ m =>
    obtain ⟨⟨c, S1⟩, e1, ef⟩ := Option.bind_eq_some_iff.mp ef
    refine ht F S' σ' H' G' c S1 r' e1 _ fun H1 G1 r1 g1 => ?_
    cases c with
    | false => cases ef; exact h σ' H1 G1 r1 (x'.trans g1)
    | true =>
      have ef : ((fb S1).bind fun o => match o with
        | .nx S2 => whileGo ft fb m S2
        | .ct S2 => whileGo ft fb m S2
        | .bk S2 => some (.nx S2)
        | .rt r S2 => some (.rt r S2)) = some out := ef
      obtain ⟨o, q2, ef⟩ := Option.bind_eq_some_iff.mp ef
      refine ⟨fun σ2 H2 => ∃ S3 G3, SR K F S3 σ2 H2 G3 ∧ Ex G G3 ∧ whileGo ft fb m S3 = some out, fun σ2 H2 ⟨S3, G3, r3, x3, e3⟩ => ⟨m, by omega, S3, G3, r3, x3, e3⟩, ?_⟩
      refine hb F S1 σ' H1 G1 o r1 q2 _ ?_
      cases o with
      | nx S4 => exact fun σ4 H4 G4 r4 g4 => ⟨S4, G4, r4, (x'.trans g1).trans g4, ef⟩
      | ct S4 => exact fun σ4 H4 G4 r4 g4 => ⟨S4, G4, r4, (x'.trans g1).trans g4, ef⟩
      | bk S4 => cases ef; exact fun σ4 H4 G4 r4 g4 => h σ4 H4 G4 r4 ((x'.trans g1).trans g4)
      | rt rv S4 => cases ef; exact fun v4 σ4 H4 G4 r4 g4 => h v4 σ4 H4 G4 r4 ((x'.trans g1).trans g4)
end

/-! ### comprehensions -/
def sYes : BS := fun S => some (true, S)
theorem sem_yes {K : KK} : SemB K tYes sYes := fun F S σ H G b S' r e Q k => by cases e; exact k H G r (.refl _)
def lcGo (vs : List Nat) (gs : GS) (fc : BS) (fd : DS) : List PyData → List SD → Option (List PyData × List SD)
  | [], S => some ([], S)
  | x :: xs, S => (gs x (borGo vs 0 S)).bind fun S1 => (fc S1).bind fun p => if p.1 = true then (fd p.2).bind fun q => (lcGo vs gs fc fd xs (unbGo vs 0 S q.2)).map fun z => (q.1 :: z.1, z.2) else lcGo vs gs fc fd xs (unbGo vs 0 S p.2)
def sLC (vs : List Nat) (fi : LS) (gs : GS) (fc : BS) (fd : DS) : LS := fun S => (fi S).bind fun p => if p.1.length < 100000 then lcGo vs gs fc fd p.1 p.2 else none
theorem sem_lc {K : KK} {wi : TI} {g : TG} {tt : TT} {te : TE} {vs ix : List Nat} {fi : LS} {gs : GS} {fc : BS} {fd : DS} (hi : SemI K wi fi) (hg : SemG K g ix gs) (hix : ∀ i ∈ ix, i ∈ vs) (ht : SemB K tt fc) (he : SemD K te fd) : SemL K (tLc wi g tt te vs) (sLC vs fi gs fc fd) := by
  intro F S σ H G out S' r e Q k
  obtain ⟨⟨xs, S1⟩, e1, e2⟩ := Option.bind_eq_some_iff.mp e
  have e2 : (if xs.length < 100000 then lcGo vs gs fc fd xs S1 else none) = some (out, S') := e2
  split at e2
  · rename_i hlen
    refine hi F S σ H G xs S1 r e1 _ fun J H1 G1 r1 g1 wk D hD => ?_
    obtain ⟨f0, fg, fa⟩ := r1.fresh hD
    refine ⟨fun i m H' => i + m = xs.length ∧ ∃ T G' accV acc rest, SR K F T σ H' G' ∧ Ex G1 G' ∧ Apart T σ D ∧ G' D = none ∧ H' D = some (.lst accV) ∧ RpAll K G' accV acc ∧ acc.length ≤ i ∧ lcGo vs gs fc fd (xs.drop i) T = some (rest, S') ∧ acc ++ rest = out,
      ⟨xs.length, by omega, S1, G1, [], [], out, r1.ext (PX.side r1.gh hD), .refl _, fa, fg, upd_same, .nil, by simp, by simpa using e2, rfl⟩, fun i m H' ⟨hm, T, G', accV, acc, rest, r', x', ap, gD, hh, ha, hl, ef, eo⟩ => ?_⟩
    obtain ⟨w1, w2⟩ := wk G' H' x' r'.gh i
    by_cases hi : i < xs.length
    · obtain ⟨go, yl⟩ := w1 hi
      have ed : xs.drop i = xs[i] :: xs.drop (i + 1) := List.drop_eq_getElem_cons hi
      rw [ed] at ef
      obtain ⟨S2, q1, ef⟩ := Option.bind_eq_some_iff.mp ef
      obtain ⟨⟨c, S3⟩, q2, ef⟩ := Option.bind_eq_some_iff.mp ef
      refine .inr ⟨go, fun H2 => ∃ T G' accV acc rest, SR K F T σ H2 G' ∧ Ex G1 G' ∧ Apart T σ D ∧ G' D = none ∧ H2 D = some (.lst accV) ∧ RpAll K G' accV acc ∧ acc.length ≤ i + 1 ∧ lcGo vs gs fc fd (xs.drop (i + 1)) T = some (rest, S') ∧ acc ++ rest = out,
        fun H2 hN => ⟨m - 1, by omega, by omega, hN⟩, fun v H2 hy => ?_⟩
      obtain ⟨G2, x, hx, px, hr⟩ := yl v H2 hy
      rw [List.getElem?_eq_getElem hi] at hx
      cases hx
      have r2 : SR K F T σ H2 G2 := r'.ext px
      have gD2 : G2 D = none := by
        cases z : G2 D with
        | none => rfl
        | some u =>
          rcases px.new D (by rw [z]; simp) with q | q
          · exact absurd gD q
          · rw [hh] at q; cases q
      have hh2 : H2 D = some (.lst accV) := px.hh D _ hh
      refine hg (Fr.blk vs T σ H2 G2) (borGo vs 0 T) (wipe σ vs) H2 G2 v _ S2 (r2.sub vs) hr q1 _ fun σ3 H3 G3 r3 g3 b3 => ⟨?_, ?_⟩
      · have b4 := b3.mono hix
        exact (wipe_ext (fun i hi => ((Bt.wiped.trans b4).2 i hi)) (Bt.wiped.trans b4).1).symm
      · refine ht _ S2 σ3 H3 G3 c S3 r3 q2 _ fun H4 G4 r4 g4 => ?_
        cases c with
        | true =>
          have ef : ((fd S3).bind fun q => (lcGo vs gs fc fd (xs.drop (i + 1)) (unbGo vs 0 T q.2)).map fun z => (q.1 :: z.1, z.2)) = some (rest, S') := ef
          obtain ⟨⟨y, S4⟩, q3, ef⟩ := Option.bind_eq_some_iff.mp ef
          obtain ⟨⟨rest', S5⟩, q4, q5⟩ := Option.map_eq_some_iff.mp ef
          cases q5
          show te σ3 H4 _
          refine he _ S3 σ3 H4 G4 y S4 r4 q3 _ fun w H5 G5 r5 g5 hy5 => ?_
          obtain ⟨hD5, gD5⟩ := r2.aside r5 hh2 gD2 ap
          have x5 : Ex G1 G5 := ((x'.trans px.gg).trans g3).trans (g4.trans g5)
          have x25 : Ex G' G5 := (px.gg.trans g3).trans (g4.trans g5)
          refine ⟨accV, hD5, szl (by rw [ha.length]; omega), unbGo vs 0 T S4, G5, accV ++ [w], acc ++ [y], rest', (r2.unsub r5).side f0 gD5 (apart_unb ap), x5, apart_unb ap, gD5, upd_same, (ha.mono x25).append (.cons hy5 .nil), by simp; omega, q4, by rw [← eo]; simp⟩
        | false =>
          have ef : lcGo vs gs fc fd (xs.drop (i + 1)) (unbGo vs 0 T S3) = some (rest, S') := ef
          show ∃ T G' accV acc rest, _
          obtain ⟨hD5, gD5⟩ := r2.aside r4 hh2 gD2 ap
          have x5 : Ex G1 G4 := ((x'.trans px.gg).trans g3).trans g4
          have x25 : Ex G' G4 := (px.gg.trans g3).trans g4
          exact ⟨unbGo vs 0 T S3, G4, accV, acc, rest, r2.unsub r4, x5, apart_unb ap, gD5, hD5, ha.mono x25, by omega, ef, eo⟩
    · refine .inl ⟨w2 (by omega), ?_⟩
      rw [List.drop_eq_nil_of_le (by omega)] at ef
      cases ef
      rw [List.append_nil] at eo
      subst eo
      exact k D accV H' G' r' (g1.trans x') f0 gD ap hh ha
  · cases e2
end DL

set_option Elab.async false
set_option linter.all false
set_option maxRecDepth 100000
set_option maxHeartbeats 4000000
/-! DL, part 4: defs and their calls, the law's end. -/
namespace DL
open PySem PySem.Spec PyProof.Rows L2

/-- a def, as a function on slots: what it hands back, what has become of the lists that were lent -/
abbrev Fn := List SD → Option (SD × List SD)
def spM (K : KK) (n : Nat) (m : Fn) : Sp := fun vs H Q _ => ∃ (Dl : List SD) (G : Hp) (r : SD) (Dl' : List SD), vs.length = n ∧ SR K ⟨H, G, Dl, vs.map some⟩ Dl (vs.map some) H G ∧ m Dl = some (r, Dl') ∧
  ∀ v H' G', SR K ⟨H, G, Dl, vs.map some⟩ (Dl' ++ [r]) (vs.map some ++ [some v]) H' G' → Q v H'
structure FnG (P : Program) (w : World) (K : PySem.W.Frag) (mg : Str → Option Value) (base : Heap) (k : Nat) (f : Addr) (fd : FuncData) (ps : List Str) (m : Fn) : Prop where
  run : ∀ (A : Around) (outer : List Env) (s : Shared) (H : Hp) (args : Args) (us : List Value) (vs : List V) (Q : VK), Room k A → A.guards = some [] → Env0 P w K mg base A outer s H → BindsTo s fd args (ps.zip us) → Vals vs us →
    spM ⟨K, P, w⟩ ps.length m vs H Q E0 → codeAny (model P w) A (.call (.ref f) args) (CR CX0 outer P w H s Q E0) s
theorem FnG.mono {P : Program} {w : World} {K : PySem.W.Frag} {mg : Str → Option Value} {base : Heap} {j k : Nat} {f : Addr} {fd : FuncData} {ps : List Str} {m : Fn} (F : FnG P w K mg base j f fd ps m) (h : j ≤ k) : FnG P w K mg base k f fd ps m :=
  ⟨fun A outer s H args us vs Q hr => F.run A outer s H args us vs Q (hr.mono h)⟩

/-! ### a def's body -/
/-- what the borrowed lists have become -/
def fin : List SD → List SD → Option (List SD)
  | [], _ => some []
  | .own _ _ :: Dl, .own true xs :: S => (fin Dl S).map fun z => .own true xs :: z
  | .own _ _ :: _, _ => none
  | s :: Dl, _ :: S => (fin Dl S).map fun z => s :: z
  | _ :: _, [] => none
def defOut (Dl : List SD) : Out → Option (SD × List SD)
  | .nx S => (fin Dl S).map fun z => (.d .none, z)
  | .rt r S => (fin Dl S).map fun z => (r, z)
  | _ => none
/-- N: how many slots there are -/
def defn (N : Nat) (f : SSem) : Fn := fun Dl => (f (Dl ++ List.replicate (N - Dl.length) .un)).bind (defOut Dl)
theorem fin_len : ∀ {Dl S T : List SD}, fin Dl S = some T → T.length = Dl.length
  | [], _, _, h => by cases h; rfl
  | .own _ _ :: Dl, .own true xs :: S, _, h => by
    obtain ⟨z, h1, rfl⟩ := Option.map_eq_some_iff.mp h
    simp [fin_len h1]
  | .un :: Dl, _ :: S, _, h => by
    obtain ⟨z, h1, rfl⟩ := Option.map_eq_some_iff.mp h
    simp [fin_len h1]
  | .d _ :: Dl, _ :: S, _, h => by
    obtain ⟨z, h1, rfl⟩ := Option.map_eq_some_iff.mp h
    simp [fin_len h1]
theorem fin_get : ∀ {Dl S T : List SD}, fin Dl S = some T → ∀ (i : Nat) (s : SD), T[i]? = some s → (∃ xs, s = .own true xs ∧ S[i]? = some (.own true xs)) ∨ (Dl[i]? = some s ∧ ∀ b xs, s ≠ .own b xs)
  | [], _, _, h, i, s, e => by cases h; simp at e
  | .own _ _ :: Dl, .own true xs :: S, _, h, i, s, e => by
    obtain ⟨z, h1, rfl⟩ := Option.map_eq_some_iff.mp h
    cases i with
    | zero => cases e; exact .inl ⟨xs, rfl, rfl⟩
    | succ i => exact fin_get h1 i s e
  | .un :: Dl, _ :: S, _, h, i, s, e => by
    obtain ⟨z, h1, rfl⟩ := Option.map_eq_some_iff.mp h
    cases i with
    | zero => cases e; exact .inr ⟨rfl, fun _ _ q => by cases q⟩
    | succ i => exact fin_get h1 i s e
  | .d _ :: Dl, _ :: S, _, h, i, s, e => by
    obtain ⟨z, h1, rfl⟩ := Option.map_eq_some_iff.mp h
    cases i with
    | zero => cases e; exact .inr ⟨rfl, fun _ _ q => by cases q⟩
    | succ i => exact fin_get h1 i s e
theorem fin_le : ∀ {Dl S T : List SD}, fin Dl S = some T → Dl.length ≤ S.length := by
  intro Dl
  induction Dl with
  | nil => intro S T _; simp
  | cons s Dl ih =>
    intro S T h
    cases S with
    | nil => cases s <;> simp [fin] at h
    | cons s' S =>
      cases s with
      | own b xs =>
        cases s' with
        | own c ys =>
          cases c with
          | true =>
            obtain ⟨z, h1, _⟩ := Option.map_eq_some_iff.mp h
            have := ih h1
            simp; omega
          | false => simp [fin] at h
        | _ => simp [fin] at h
      | _ =>
        obtain ⟨z, h1, _⟩ := Option.map_eq_some_iff.mp h
        have := ih h1
        simp; omega
theorem SR.undef {K : KK} {H G : Hp} {Dl : List SD} {vs : List V} {N : Nat} (r : SR K ⟨H, G, Dl, vs.map some⟩ Dl (vs.map some) H G) :
    SR K ⟨H, G, Dl, vs.map some⟩ (Dl ++ List.replicate (N - Dl.length) .un) (vs.map some ++ List.replicate (N - vs.length) none) H G := by
  have L : vs.length = Dl.length := by simpa using r.len
  have old : ∀ {i : Nat} {s : SD}, (Dl ++ List.replicate (N - Dl.length) .un)[i]? = some s → s = .un ∨ (Dl[i]? = some s ∧ (vs.map some ++ List.replicate (N - vs.length) none)[i]? = (vs.map some)[i]?) := fun {i s} e => by
    by_cases hi : i < Dl.length
    · rw [List.getElem?_append_left hi] at e
      exact .inr ⟨e, List.getElem?_append_left (by simpa [L] using hi)⟩
    · rw [List.getElem?_append_right (by omega), List.getElem?_replicate] at e
      split at e
      · cases e; exact .inl rfl
      · cases e
  refine ⟨by simp [L], r.g0, r.gh, r.new, r.keep, r.live, fun i x e => ?_, fun i b xs e => ?_, fun i j a b1 x1 b2 x2 e1 e2 e3 e4 => ?_⟩
  · rcases old e with q | ⟨h1, h2⟩
    · cases q
    · rw [h2]; exact r.dat i x h1
  · rcases old e with q | ⟨h1, h2⟩
    · cases q
    · rw [h2]; exact r.own i b xs h1
  · rcases old e1 with q | ⟨h1, h2⟩
    · cases q
    · rcases old e2 with q | ⟨h3, h4⟩
      · cases q
      · rw [h2] at e3; rw [h4] at e4
        exact r.sep i j a b1 x1 b2 x2 h1 h3 e3 e4
/-- at a def's end -/
theorem SR.done {K : KK} {H G H' G' : Hp} {Dl S T : List SD} {vs : List V} {σ : L2.St} {r : SD} {v : V} (r0 : SR K ⟨H, G, Dl, vs.map some⟩ Dl (vs.map some) H G) (r1 : SR K ⟨H, G, Dl, vs.map some⟩ (S ++ [r]) (σ ++ [some v]) H' G') (e : fin Dl S = some T) :
    SR K ⟨H, G, Dl, vs.map some⟩ (T ++ [r]) (vs.map some ++ [some v]) H' G' := by
  have L : vs.length = Dl.length := by simpa using r0.len
  have L1 : σ.length = S.length := by simpa using r1.len
  have LT := fin_len e
  -- each told slot stands in S, or is as it was
  have old : ∀ {i : Nat} {s : SD}, (T ++ [r])[i]? = some s → (i < T.length ∧ (vs.map some ++ [some v])[i]? = (vs.map some)[i]? ∧ ((∃ xs, s = .own true xs ∧ (S ++ [r])[i]? = some (.own true xs) ∧ (σ ++ [some v])[i]? = (vs.map some)[i]?) ∨ (Dl[i]? = some s ∧ ∀ b xs, s ≠ .own b xs))) ∨
      (i = T.length ∧ s = r ∧ (vs.map some ++ [some v])[i]? = some (some v)) := fun {i s} q => by
    by_cases hi : i < T.length
    · rw [List.getElem?_append_left hi] at q
      refine .inl ⟨hi, List.getElem?_append_left (by simp; omega), ?_⟩
      rcases fin_get e i s q with ⟨xs, h1, h2⟩ | h
      · refine .inl ⟨xs, h1, ?_, ?_⟩
        · rw [List.getElem?_append_left (List.getElem?_eq_some_iff.mp h2).1]; exact h2
        · have h3 : (S ++ [r])[i]? = some (.own true xs) := by rw [List.getElem?_append_left (List.getElem?_eq_some_iff.mp h2).1]; exact h2
          obtain ⟨a, ws, p1, _, _, _, p5, _⟩ := r1.own i _ _ h3
          exact p1.trans ((p5 rfl).2).symm
      · exact .inr h
    · rw [List.getElem?_append_right (by omega)] at q
      cases z : i - T.length with
      | zero =>
        rw [z] at q; cases q
        exact .inr ⟨by omega, rfl, by rw [List.getElem?_append_right (by simp; omega)]; simp; rw [show i - vs.length = 0 by omega]; rfl⟩
      | succ n => rw [z] at q; simp at q
  have last : ∀ {s : SD}, s = r → (S ++ [r])[S.length]? = some s ∧ (σ ++ [some v])[S.length]? = some (some v) := fun {s} q => by
    subst q
    exact ⟨by simp, by rw [← L1]; simp⟩
  refine ⟨by simp; omega, r1.g0, r1.gh, r1.new, r1.keep, r1.live, fun i x q => ?_, fun i b xs q => ?_, fun i j a b1 x1 b2 x2 e1 e2 e3 e4 => ?_⟩
  · rcases old q with ⟨hi, h1, h2⟩ | ⟨hi, h1, h2⟩
    · rw [h1]
      rcases h2 with ⟨xs, z, _⟩ | ⟨h3, _⟩
      · cases z
      · obtain ⟨u, q1, q2⟩ := r0.dat i x h3
        exact ⟨u, q1, q2.mono r1.g0⟩
    · rw [h2]
      obtain ⟨h3, h4⟩ := last h1
      obtain ⟨u, q1, q2⟩ := r1.dat _ x h3
      rw [h4] at q1; cases q1
      exact ⟨v, rfl, q2⟩
  · rcases old q with ⟨hi, h1, h2⟩ | ⟨hi, h1, h2⟩
    · rw [h1]
      rcases h2 with ⟨ys, z, h3, h4⟩ | ⟨_, h3⟩
      · cases z
        obtain ⟨a, ws, p1, p2, p3, p4, p5, p6⟩ := r1.own i _ _ h3
        exact ⟨a, ws, h4.symm.trans p1, p2, p3, p4, p5, p6⟩
      · exact absurd rfl (h3 b xs)
    · rw [h2]
      obtain ⟨h3, h4⟩ := last h1
      obtain ⟨a, ws, p1, p2, p3, p4, p5, p6⟩ := r1.own _ _ _ h3
      rw [h4] at p1; cases p1
      cases b with
      | false => exact ⟨a, ws, rfl, p2, p3, p4, (fun z => by cases z), p6⟩
      | true =>
        exfalso
        have h7 := (p5 rfl).2
        have h8 : (vs.map some)[S.length]? = some (some (.ref a)) := h7
        -- the place of the result lies behind the parameters
        have h9 : S.length < vs.length := by
          have := (List.getElem?_eq_some_iff.mp h8).1
          simpa using this
        have h10 : Dl.length ≤ S.length := by
          exact fin_le e
        omega
  · have via : ∀ {i : Nat} {b : Bool} {xs : OB}, (T ++ [r])[i]? = some (.own b xs) → ∃ j : Nat, (S ++ [r])[j]? = some (.own b xs) ∧ (σ ++ [some v])[j]? = (vs.map some ++ [some v])[i]? ∧ (i < T.length → j = i) ∧ (i = T.length → j = S.length) := fun {i b xs} q => by
      rcases old q with ⟨hi, h1, h2⟩ | ⟨hi, h1, h2⟩
      · rcases h2 with ⟨ys, z, h3, h4⟩ | ⟨_, h3⟩
        · cases z
          exact ⟨i, h3, h4.trans h1.symm, fun _ => rfl, fun q => by omega⟩
        · exact absurd rfl (h3 b xs)
      · obtain ⟨h3, h4⟩ := last h1
        exact ⟨S.length, h3, h4.trans h2.symm, fun q => by omega, fun _ => rfl⟩
    obtain ⟨i', p1, p2, p3, p4⟩ := via e1
    obtain ⟨j', q1, q2, q3, q4⟩ := via e2
    have ee := r1.sep i' j' a _ _ _ _ p1 q1 (p2.trans e3) (q2.trans e4)
    have li : i < T.length ∨ i = T.length := by
      have := (List.getElem?_eq_some_iff.mp e1).1
      simp at this; omega
    have lj : j < T.length ∨ j = T.length := by
      have := (List.getElem?_eq_some_iff.mp e2).1
      simp at this; omega
    rcases li with a1 | a1 <;> rcases lj with b1 | b1
    · have := p3 a1; have := q3 b1; omega
    · have h1 := p3 a1
      have h2 := q4 b1
      have h3 := fin_le e
      omega
    · have h1 := p4 a1
      have h2 := q3 b1
      have h3 := fin_le e
      omega
    · omega

section
variable {P : Program} {w : World} {K : PySem.W.Frag} {mg : Str → Option Value} {base : Heap}
/-- the context of a def's body -/
abbrev cxG (P : Program) (w : World) (K : PySem.W.Frag) (mg : Str → Option Value) (base : Heap) (N : List Str) (qual : Str) (scope : Scope) (f : Addr) (cd : Value) (A : Around) (outer : List Env) (s : Shared) (H : Hp) : Cx := (cxOf CX0 P w K mg base N qual scope f cd A outer s H E0).nox
theorem fnG_of {x qual : Str} {st : Stmt} {f : Addr} {fd : FuncData} {N ps : List Str} {k n : Nat} {fs : SSem} (F : Fun K x qual st f fd) (S : FnScope N ps (defScope st)) (hn : N.length = n)
    (hbody : ∀ (cdv : Value) (A : Around) (outer : List Env) (s : Shared) (H : Hp), Room k (cxG P w K mg base N qual (defScope st) f cdv A outer s H).A → (cxG P w K mg base N qual (defScope st) f cdv A outer s H).A.guards = some [] →
      ∃ t, SSs (cxG P w K mg base N qual (defScope st) f cdv A outer s H) ⟨K, P, w⟩ (defBody st) t fs) : FnG P w K mg base (k + 1) f fd ps (defn n fs) := by
  subst hn
  obtain ⟨oc, od, kV, doc, pm, an, cdv, ct, osl, rfl, lk, hcd⟩ := F.ex
  constructor
  intro A outer s H args us vs Q hr hgd e0 hb rv hsp
  obtain ⟨Dl, G, r, Dl', hl, r0, em, q⟩ := hsp
  have KX : K.In s.heap := e0.mod.kin.keeps fun b o e => (e0.bs b o e).1
  have lim : s.heap.NoLimit := e0.mod.nolimit.keeps fun b o e => (e0.bs b o e).1
  have par : ∀ y ∈ ps.zip us, (defScope st).names.lookup y.1 = some .local ∨ ((defScope st).names.lookup y.1 = some .cell ∧ ((cellsFrom (s.heap.objs.size + 1) (defScope st).names []).lookup y.1).isSome = true) := by
    intro y hy
    rcases S.par y.1 (List.of_mem_zip (show (y.1, y.2) ∈ ps.zip us from hy)).1 with z | z
    · exact .inl z
    · exact .inr ⟨z, PySem.W.cellsFrom_some _ _ _ (.inl z)⟩
  refine codeAny_call_function hr.depth (KX _ _ lk) rfl S.co S.gen rfl (PySem.W.codeRec_of KX hcd) (hb _ _ _ _ ?_)
  refine wpAny_newFunctionEnv_cells S.kind par fun env he s1 x => ?_
  subst he
  refine ⟨lim.keeps x.toInCall.keep, codeAny_func ?_⟩
  obtain ⟨t, ht⟩ := hbody cdv A outer s H (hr.deeper _) hgd
  have I := inv_start (CX := CX0) (E := E0) S hr.hd e0 hl rv x
  obtain ⟨out, e1, e2⟩ := Option.bind_eq_some_iff.mp em
  have L : vs.length = Dl.length := by simpa using r0.len
  have rr := r0.undef (N := N.length)
  have hN : vs.length ≤ N.length := by
    have h1 := S.pre
    have h2 : (N.take ps.length).length = ps.length := by rw [h1]
    rw [List.length_take] at h2
    omega
  have read : t { nx := fun _ H' => Q .non H', rt := Q } (start N vs) H := by
    refine ht.ok _ _ _ H G out rr e1 _ ?_
    cases out with
    | nx S1 =>
      obtain ⟨T, h1, h2⟩ := Option.map_eq_some_iff.mp e2
      cases h2
      exact fun σ' H' G' r1 _ => q .non H' G' (r0.done (r1.pushD .non) h1)
    | rt r' S1 =>
      obtain ⟨T, h1, h2⟩ := Option.map_eq_some_iff.mp e2
      cases h2
      exact fun v σ' H' G' r1 _ => q v H' G' (r0.done r1 h1)
    | bk S1 => cases e2
    | ct S1 => cases e2
  refine wpAny_mono (ht.p.run [] s1 (start N vs) H _ (I.wish _) read) (fun fl s' hs => ?_) fun e s' hs => hs.elim
  have hs := SP.unwish hs
  have end_ : ∀ {σ' : L2.St} {H' : Hp} {v : V} {u : Value}, Inv (cxOf CX0 P w K mg base N qual (defScope st) f cdv A outer s H E0) [] σ' H' s' → RelV v u → Q v H' → CE outer P w H s Q u s' :=
    fun {σ' H' v u} J ru qv => ⟨v, H', J.os, J.bare, J.base, J.hok, ru, qv⟩
  cases fl with
  | ret u => obtain ⟨v, σ', H', J, ru, qv⟩ := hs; exact end_ J ru qv
  | next => obtain ⟨σ', H', J, qv⟩ := hs; exact end_ (v := V.non) (u := Value.none) J rfl qv
  | brk => obtain ⟨_, _, _, qv⟩ := hs; exact qv.elim
  | cont => obtain ⟨_, _, _, qv⟩ := hs; exact qv.elim
end

/-! ### calls -/
def opSD (S : List SD) : Op → Option SD
  | .dat x => some (.d x)
  | .slot i => (S[i]?).bind fun s => match s with
    | .un => none
    | s => some (bor s)
def opSDs (S : List SD) : List Op → Option (List SD)
  | [] => some []
  | o :: os => (opSD S o).bind fun s => (opSDs S os).map fun ss => s :: ss
def isOwn : Option SD → Bool
  | some (.own _ _) => true
  | _ => false
/-- the slots whose own lists are lent -/
def ownIx (S : List SD) : List Op → List Nat
  | [] => []
  | .slot i :: os => if isOwn (S[i]?) = true then i :: ownIx S os else ownIx S os
  | .dat _ :: os => ownIx S os
def isSlot (j : Nat) : Op → Bool
  | .slot i => i == j
  | .dat _ => false
def findArg (j : Nat) : List Op → List SD → Option SD
  | [], _ => none
  | o :: os, rs => if isSlot j o = true then some (rs.headD .un) else findArg j os rs.tail
def wb1 : Option SD → SD → SD
  | none, s => s
  | some r, s => unb1 s r
def wbGo (os : List Op) (rs : List SD) : Nat → List SD → List SD
  | _, [] => []
  | j, s :: S => wb1 (findArg j os rs) s :: wbGo os rs (j + 1) S
theorem wbGo_get (os : List Op) (rs : List SD) : ∀ (S : List SD) (k i : Nat), (wbGo os rs k S)[i]? = (S[i]?).map (wb1 (findArg (k + i) os rs))
  | [], _, _ => by simp [wbGo]
  | s :: S, k, 0 => by simp [wbGo]
  | s :: S, k, i + 1 => by
    have ih := wbGo_get os rs S (k + 1) i
    have e : k + 1 + i = k + (i + 1) := by omega
    rw [e] at ih
    simpa [wbGo] using ih
theorem wbGo_len (os : List Op) (rs : List SD) : ∀ (S : List SD) (k : Nat), (wbGo os rs k S).length = S.length
  | [], _ => rfl
  | s :: S, k => by simp [wbGo, wbGo_len os rs S (k + 1)]
theorem isSlot_true {j : Nat} {o : Op} (h : isSlot j o = true) : o = .slot j := by
  cases o with
  | dat x => cases h
  | slot i =>
    have h : (i == j) = true := h
    rw [beq_iff_eq] at h; rw [h]
theorem findArg_some : ∀ {os : List Op} {rs : List SD} {j : Nat} {r : SD}, findArg j os rs = some r → ∃ i : Nat, os[i]? = some (.slot j) ∧ (rs[i]? = some r ∨ r = .un)
  | o :: os, rs, j, r, h => by
    unfold findArg at h
    split at h
    · rename_i hs
      cases h
      refine ⟨0, by rw [isSlot_true hs]; rfl, ?_⟩
      cases rs with
      | nil => exact .inr rfl
      | cons r rs => exact .inl rfl
    · obtain ⟨i, h1, h2⟩ := findArg_some h
      refine ⟨i + 1, h1, h2.imp (fun q => ?_) id⟩
      cases rs with
      | nil => simp at q
      | cons r rs => exact q
theorem findArg_none : ∀ {os : List Op} {rs : List SD} {j : Nat}, findArg j os rs = none → ∀ i : Nat, os[i]? ≠ some (.slot j)
  | [], rs, j, h, i => by simp
  | o :: os, rs, j, h, i => by
    unfold findArg at h
    split at h
    · cases h
    · rename_i hs
      cases i with
      | zero =>
        intro q
        cases q
        exact hs (by show (j == j) = true; simp)
      | succ i => exact findArg_none h i
theorem ownIx_mem : ∀ {S : List SD} {os : List Op} {i j : Nat}, os[i]? = some (.slot j) → isOwn (S[j]?) = true → j ∈ ownIx S os
  | S, o :: os, 0, j, h, q => by
    cases h
    unfold ownIx
    rw [if_pos q]; simp
  | S, .slot k :: os, i + 1, j, h, q => by
    have ih := ownIx_mem (S := S) (os := os) (i := i) (j := j) h q
    unfold ownIx
    split
    · exact List.mem_cons_of_mem _ ih
    · exact ih
  | S, .dat _ :: os, i + 1, j, h, q => ownIx_mem (S := S) (os := os) (i := i) (j := j) h q
theorem ownIx_inj : ∀ {S : List SD} {os : List Op} {i i' j : Nat}, (ownIx S os).Nodup → os[i]? = some (.slot j) → os[i']? = some (.slot j) → isOwn (S[j]?) = true → i = i'
  | S, o :: os, 0, 0, j, _, _, _, _ => rfl
  | S, o :: os, 0, i' + 1, j, nd, h, h', q => by
    exfalso
    cases h
    unfold ownIx at nd
    rw [if_pos q] at nd
    exact (List.nodup_cons.mp nd).1 (ownIx_mem h' q)
  | S, o :: os, i + 1, 0, j, nd, h, h', q => by
    exfalso
    cases h'
    unfold ownIx at nd
    rw [if_pos q] at nd
    exact (List.nodup_cons.mp nd).1 (ownIx_mem h q)
  | S, .slot k :: os, i + 1, i' + 1, j, nd, h, h', q => by
    unfold ownIx at nd
    split at nd
    · rw [ownIx_inj (List.nodup_cons.mp nd).2 h h' q]
    · rw [ownIx_inj nd h h' q]
  | S, .dat _ :: os, i + 1, i' + 1, j, nd, h, h', q => by
    rw [ownIx_inj (S := S) (os := os) nd h h' q]
theorem opSDs_get : ∀ {S : List SD} {os : List Op} {Dl : List SD}, opSDs S os = some Dl → ∀ (i : Nat) (s : SD), Dl[i]? = some s → ∃ o, os[i]? = some o ∧ opSD S o = some s
  | S, [], _, h, i, s, e => by cases h; simp at e
  | S, o :: os, _, h, i, s, e => by
    unfold opSDs at h
    obtain ⟨s1, h1, h⟩ := Option.bind_eq_some_iff.mp h
    obtain ⟨ss, h2, rfl⟩ := Option.map_eq_some_iff.mp h
    cases i with
    | zero => cases e; exact ⟨o, rfl, h1⟩
    | succ i => exact opSDs_get h2 i s e
theorem opSDs_len : ∀ {S : List SD} {os : List Op} {Dl : List SD}, opSDs S os = some Dl → Dl.length = os.length
  | S, [], _, h => by cases h; rfl
  | S, o :: os, _, h => by
    unfold opSDs at h
    obtain ⟨s1, h1, h⟩ := Option.bind_eq_some_iff.mp h
    obtain ⟨ss, h2, rfl⟩ := Option.map_eq_some_iff.mp h
    simp [opSDs_len h2]
theorem OpRs.get {K : KK} {G : Hp} {σ : L2.St} : ∀ {vs : List V} {os : List Op}, OpRs K G σ vs os → ∀ (i : Nat) (o : Op), os[i]? = some o → ∃ v, vs[i]? = some v ∧ OpR K G σ v o
  | _, _, .nil, i, o, e => by simp at e
  | _, _, .cons h t, 0, o, e => by cases e; exact ⟨_, rfl, h⟩
  | _, _, .cons h t, i + 1, o, e => OpRs.get t i o e
theorem OpRs.length {K : KK} {G : Hp} {σ : L2.St} : ∀ {vs : List V} {os : List Op}, OpRs K G σ vs os → vs.length = os.length
  | _, _, .nil => rfl
  | _, _, .cons h t => by simp [t.length]
theorem opSD_d {S : List SD} {o : Op} {x : PyData} (h : opSD S o = some (.d x)) : o = .dat x ∨ ∃ j : Nat, o = .slot j ∧ S[j]? = some (.d x) := by
  cases o with
  | dat y => cases h; exact .inl rfl
  | slot j =>
    obtain ⟨s, h1, h2⟩ := Option.bind_eq_some_iff.mp h
    cases s with
    | un => cases h2
    | d y => cases h2; exact .inr ⟨j, rfl, h1⟩
    | own b xs => cases h2
theorem opSD_own {S : List SD} {o : Op} {b : Bool} {xs : OB} (h : opSD S o = some (.own b xs)) : b = true ∧ ∃ (j : Nat) (c : Bool), o = .slot j ∧ S[j]? = some (.own c xs) := by
  cases o with
  | dat y => cases h
  | slot j =>
    obtain ⟨s, h1, h2⟩ := Option.bind_eq_some_iff.mp h
    cases s with
    | un => cases h2
    | d y => cases h2
    | own c ys => cases h2; exact ⟨rfl, j, c, rfl, h1⟩
section
variable {K : KK} {F : Fr} {S : List SD} {σ : L2.St} {H G H' G' : Hp} {vs : List V} {os : List Op} {Dl Dl' : List SD}
theorem SR.args (r : SR K F S σ H G) (h : OpRs K G σ vs os) (e : opSDs S os = some Dl) (nd : (ownIx S os).Nodup) : SR K ⟨H, G, Dl, vs.map some⟩ Dl (vs.map some) H G := by
  have own : ∀ (i : Nat) (b : Bool) (xs : OB), Dl[i]? = some (.own b xs) → ∃ (j : Nat) (c : Bool) (a : Addr) (ws : HO), b = true ∧ os[i]? = some (.slot j) ∧ S[j]? = some (.own c xs) ∧ (vs.map some)[i]? = some (some (.ref a)) ∧ σ[j]? = some (some (.ref a)) ∧ G a = none ∧ H a = some ws ∧ OwR K a G ws xs := fun i b xs q => by
    obtain ⟨o, h1, h2⟩ := opSDs_get e i _ q
    obtain ⟨hb, j, c, rfl, h3⟩ := opSD_own h2
    obtain ⟨a, ws, p1, p2, p3, p4, _⟩ := r.own j c xs h3
    obtain ⟨v, q1, q2⟩ := h.get i _ h1
    have q2 : σ[j]? = some (some v) := q2
    rw [p1] at q2
    cases q2
    exact ⟨j, c, a, ws, hb, h1, h3, by rw [List.getElem?_map, q1]; rfl, p1, p2, p3, p4⟩
  refine ⟨by simp [h.length, opSDs_len e], .refl _, r.gh, fun b q => .inl q, fun b o q _ => q, fun b q => q, fun i x q => ?_, fun i b xs q => ?_, fun i j a b1 x1 b2 x2 e1 e2 e3 e4 => ?_⟩
  · obtain ⟨o, h1, h2⟩ := opSDs_get e i _ q
    obtain ⟨v, q1, q2⟩ := h.get i _ h1
    refine ⟨v, by rw [List.getElem?_map, q1]; rfl, ?_⟩
    rcases opSD_d h2 with rfl | ⟨j, rfl, h3⟩
    · exact q2
    · obtain ⟨u, p1, p2⟩ := r.dat j x h3
      have q2 : σ[j]? = some (some v) := q2
      rw [p1] at q2
      cases q2
      exact p2
  · obtain ⟨j, c, a, ws, hb, h1, h2, h3, h4, h5, h6, h7⟩ := own i b xs q
    refine ⟨a, ws, h3, h5, h6, h7, fun _ => ⟨⟨i, b, xs, q, h3⟩, h3⟩, fun z => ?_⟩
    rw [hb] at z; cases z
  · obtain ⟨k, c, a', ws, hb, h1, h2, h3, h4, _⟩ := own i b1 x1 e1
    obtain ⟨k', c', a2, ws', hb', h1', h2', h3', h4', _⟩ := own j b2 x2 e2
    rw [h3] at e3; cases e3
    rw [h3'] at e4; cases e4
    have ek := r.sep k k' a _ _ _ _ h2 h2' h4 h4'
    subst ek
    exact ownIx_inj nd h1 h1' (by rw [h2]; rfl)
/-- what a call hands back -/
def ResR (K : KK) (F : Fr) (S : List SD) (σ : L2.St) (H G : Hp) (v : V) : SD → Prop
  | .d x => Rp K G v x
  | .own false xs => ∃ p vs, v = .ref p ∧ F.H0 p = none ∧ G p = none ∧ Apart S σ p ∧ H p = some vs ∧ OwR K p G vs xs
  | _ => True
theorem SR.called (r : SR K F S σ H G) (h : OpRs K G σ vs os) (e : opSDs S os = some Dl) {rs : SD} {v : V} (r' : SR K ⟨H, G, Dl, vs.map some⟩ (Dl' ++ [rs]) (vs.map some ++ [some v]) H' G') :
    SR K F (wbGo os Dl' 0 S) σ H' G' ∧ ResR K F (wbGo os Dl' 0 S) σ H' G' v rs := by
  have L : (vs.map some).length = Dl'.length := by simpa using r'.len
  have T : SR K F (wbGo os Dl' 0 S) σ H' G' := by
    refine r.back r' rfl rfl (fun a hb => ?_) (wbGo_len _ _ _ _) (fun j x q => ?_) fun j b xs q => ?_
    · obtain ⟨i, b, xs, h1, h2⟩ := hb
      obtain ⟨o, h3, h4⟩ := opSDs_get e i _ h1
      obtain ⟨_, j, c, rfl, h5⟩ := opSD_own h4
      obtain ⟨u, q1, q2⟩ := h.get i _ h3
      have h2 : (vs.map some)[i]? = some (some (.ref a)) := h2
      rw [List.getElem?_map, q1] at h2
      cases h2
      exact ⟨j, c, xs, h5, q2⟩
    · rw [wbGo_get] at q
      obtain ⟨s, h1, h2⟩ := Option.map_eq_some_iff.mp q
      cases z : findArg (0 + j) os Dl' with
      | none => rw [z] at h2; have h2 : s = .d x := h2; rw [h1, h2]
      | some r0 =>
        rw [z] at h2
        have h2 : unb1 s r0 = .d x := h2
        cases s with
        | own b xs => cases r0 with
          | own c ys => cases c <;> cases h2
          | _ => cases h2
        | _ => rw [h1]; exact congrArg some h2
    · rw [wbGo_get, Nat.zero_add] at q
      obtain ⟨s, h1, h2⟩ := Option.map_eq_some_iff.mp q
      cases z : findArg j os Dl' with
      | none =>
        rw [z] at h2
        have h2 : s = .own b xs := h2
        subst h2
        obtain ⟨a, ws, p1, _⟩ := r.own j b xs h1
        refine ⟨⟨_, h1⟩, a, p1, .inr ⟨h1, fun hb => ?_⟩⟩
        obtain ⟨i, b', xs', q1, q2⟩ := hb
        obtain ⟨o, h3, h4⟩ := opSDs_get e i _ q1
        obtain ⟨_, j', c, rfl, h5⟩ := opSD_own h4
        obtain ⟨u, t1, t2⟩ := h.get i _ h3
        have q2 : (vs.map some)[i]? = some (some (.ref a)) := q2
        rw [List.getElem?_map, t1] at q2
        cases q2
        have ej := r.sep j j' a _ _ _ _ h1 h5 p1 t2
        subst ej
        exact findArg_none z i h3
      | some r0 =>
        rw [z] at h2
        have h2 : unb1 s r0 = .own b xs := h2
        cases s with
        | own b0 ys => cases r0 with
          | own c zs => cases c with
            | true =>
              cases h2
              obtain ⟨a, ws, p1, _⟩ := r.own j _ ys h1
              refine ⟨⟨_, h1⟩, a, p1, .inl ?_⟩
              obtain ⟨i, h3, h4⟩ := findArg_some z
              rcases h4 with h4 | h4
              · have hi : i < Dl'.length := (List.getElem?_eq_some_iff.mp h4).1
                obtain ⟨u, t1, t2⟩ := h.get i _ h3
                have t2 : σ[j]? = some (some u) := t2
                rw [p1] at t2
                cases t2
                exact ⟨i, by rw [List.getElem?_append_left hi]; exact h4, by show (vs.map some)[i]? = _; rw [List.getElem?_map, t1]; rfl⟩
              · cases h4
            | false => cases h2
          | _ => cases h2
        | un => cases h2
        | d x => cases h2
  refine ⟨T, ?_⟩
  have last : (Dl' ++ [rs])[Dl'.length]? = some rs := by simp
  have lastv : (vs.map some ++ [some v])[Dl'.length]? = some (some v) := by rw [← L]; simp
  cases rs with
  | un => trivial
  | d x =>
    obtain ⟨u, p1, p2⟩ := r'.dat _ x last
    rw [lastv] at p1; cases p1
    exact p2
  | own b xs =>
    cases b with
    | true => trivial
    | false =>
      obtain ⟨a, ws, p1, p2, p3, p4, _, p6⟩ := r'.own _ _ xs last
      rw [lastv] at p1; cases p1
      have ha : H a = none := p6 rfl
      obtain ⟨f0, _, fa⟩ := r.fresh ha
      refine ⟨a, ws, rfl, f0, p2, fun i b ys z1 z2 => ?_, p3, p4⟩
      rw [wbGo_get] at z1
      obtain ⟨s, h1, h2⟩ := Option.map_eq_some_iff.mp z1
      have : ∃ (c : Bool) (zs : OB), s = .own c zs := by
        cases zz : findArg (0 + i) os Dl' with
        | none => rw [zz] at h2; exact ⟨b, ys, h2⟩
        | some r0 =>
          rw [zz] at h2
          have h2 : unb1 s r0 = .own b ys := h2
          cases s with
          | own c zs => exact ⟨c, zs, rfl⟩
          | un => cases h2
          | d x => cases h2
      obtain ⟨c, zs, rfl⟩ := this
      exact fa i c zs h1 z2
end
/-- the written values in the parameters' order -/
def perm {α : Type} (pm : List Nat) (xs : List α) : List α := pm.filterMap fun i => xs[i]?
theorem perm_rel {K : KK} {G : Hp} {σ : L2.St} {vs : List V} {os : List Op} (h : OpRs K G σ vs os) : ∀ pm : List Nat, OpRs K G σ (perm pm vs) (perm pm os)
  | [] => .nil
  | i :: pm => by
    unfold perm
    rw [List.filterMap_cons, List.filterMap_cons]
    cases q : os[i]? with
    | none =>
      have : vs[i]? = none := by
        rw [List.getElem?_eq_none_iff] at q ⊢
        rw [h.length]; exact q
      rw [this]
      exact perm_rel h pm
    | some o =>
      obtain ⟨v, h1, h2⟩ := h.get i o q
      rw [h1]
      exact .cons h2 (perm_rel h pm)
theorem perm_vals {vs : List V} {us : List Value} (h : Vals vs us) : ∀ pm : List Nat, Vals (perm pm vs) (perm pm us)
  | [] => .nil
  | i :: pm => by
    unfold perm
    rw [List.filterMap_cons, List.filterMap_cons]
    cases q : vs[i]? with
    | none =>
      rw [Vals.none_of h q]
      exact perm_vals h pm
    | some v =>
      obtain ⟨u, h1, h2⟩ := Vals.get h q
      rw [h1]
      exact .cons h2 (perm_vals h pm)
/-- n operands by place, k by name -/
def sApp (n k : Nat) (f g : AS) : AS := fun S => (f S).bind fun p => (g p.2).bind fun q => if p.1.length = n ∧ q.1.length = k then some (p.1 ++ q.1, q.2) else none
def sCallR (n : Nat) (m : Fn) (fs : AS) : List SD → Option (SD × List SD) := fun S => (fs S).bind fun p => (opSDs p.2 p.1).bind fun Dl => if p.1.length = n ∧ (ownIx p.2 p.1).Nodup then (m Dl).map fun q => (q.1, wbGo p.1 q.2 0 p.2) else none
def sPerm (pm : List Nat) (f : AS) : AS := fun S => (f S).map fun p => (perm pm p.1, p.2)
def resD : SD → Option PyData
  | .d x => some x
  | .own false xs => if xs.fz = true then some xs.dat else none
  | _ => none
def resL : SD → Option (List PyData)
  | .own false (.lst xs) => some xs
  | _ => none
def sCall (n : Nat) (m : Fn) (fs : AS) : ES := fun S => (sCallR n m fs S).bind fun p => (resD p.1).map fun x => (.dat x, p.2)
def sCallL (n : Nat) (m : Fn) (fs : AS) : LS := fun S => (sCallR n m fs S).bind fun p => (resL p.1).map fun x => (x, p.2)
def tCallG (sp : Sp) (t : TA) : TE := fun σ H Q => t σ H fun vs H1 => sp vs H1 Q E0
def tPerm (pm : List Nat) (t : TA) : TA := fun σ H Q => t σ H fun vs H1 => Q (perm pm vs) H1
def tApp (n k : Nat) (t u : TA) : TA := fun σ H Q => t σ H fun vs H1 => u σ H1 fun ws H2 => vs.length = n ∧ ws.length = k ∧ Q (vs ++ ws) H2
section
variable {K : KK} {tA tB : TA} {fs gs : AS} {n : Nat} {m : Fn}
theorem OpRs.append {G : Hp} {σ : L2.St} : ∀ {vs ws : List V} {os ps : List Op}, OpRs K G σ vs os → OpRs K G σ ws ps → OpRs K G σ (vs ++ ws) (os ++ ps)
  | _, _, _, _, .nil, h => h
  | _, _, _, _, .cons a b, h => .cons a (b.append h)
theorem sem_app {a b : Nat} (h1 : SemA K tA fs) (h2 : SemA K tB gs) : SemA K (tApp a b tA tB) (sApp a b fs gs) := by
  intro F S σ H G o S' r ef Q k
  obtain ⟨⟨o1, S1⟩, e1, e2⟩ := Option.bind_eq_some_iff.mp ef
  obtain ⟨⟨o2, S2⟩, e3, e4⟩ := Option.bind_eq_some_iff.mp e2
  split at e4
  · rename_i hl
    cases e4
    refine h1 F S σ H G o1 S1 r e1 _ fun v H1 G1 r1 g1 q1 => ?_
    refine h2 F S1 σ H1 G1 o2 _ r1 e3 _ fun vs H2 G2 r2 g2 q2 => ?_
    exact ⟨q1.length.trans hl.1, q2.length.trans hl.2, k _ H2 G2 r2 (g1.trans g2) ((q1.mono g2).append q2)⟩
  · cases e4
theorem sem_perm {pm : List Nat} (h1 : SemA K tA fs) : SemA K (tPerm pm tA) (sPerm pm fs) := by
  intro F S σ H G o S' r ef Q k
  obtain ⟨⟨o1, S1⟩, e1, e2⟩ := Option.map_eq_some_iff.mp ef
  cases e2
  exact h1 F S σ H G o1 _ r e1 _ fun v H1 G1 r1 g1 q1 => k _ H1 G1 r1 g1 (perm_rel q1 pm)
theorem sem_callR (h1 : SemA K tA fs) {F : Fr} {S S' : List SD} {σ : L2.St} {H G : Hp} {rs : SD} (r : SR K F S σ H G) (ef : sCallR n m fs S = some (rs, S')) {Q : VK}
    (k : ∀ v H' G', SR K F S' σ H' G' → Ex G G' → ResR K F S' σ H' G' v rs → Q v H') : tCallG (spM K n m) tA σ H Q := by
  obtain ⟨⟨os, S1⟩, e1, ef⟩ := Option.bind_eq_some_iff.mp ef
  obtain ⟨Dl, e2, ef⟩ := Option.bind_eq_some_iff.mp ef
  split at ef
  · rename_i hc
    obtain ⟨⟨rs', Dl'⟩, e3, e4⟩ := Option.map_eq_some_iff.mp ef
    cases e4
    refine h1 F S σ H G os S1 r e1 _ fun vs H1 G1 r1 g1 q1 => ?_
    refine ⟨Dl, G1, _, Dl', by rw [q1.length]; exact hc.1, r1.args q1 e2 hc.2, e3, fun v H' G' r' => ?_⟩
    obtain ⟨t1, t2⟩ := r1.called q1 e2 r'
    exact k v H' G' t1 (g1.trans r'.g0) t2
  · cases ef
theorem sem_call (h1 : SemA K tA fs) : SemE K (tCallG (spM K n m) tA) (sCall n m fs) := by
  intro F S σ H G o S' r ef Q k
  obtain ⟨⟨rs, S1⟩, e1, ef⟩ := Option.bind_eq_some_iff.mp ef
  obtain ⟨x, e2, e3⟩ := Option.map_eq_some_iff.mp ef
  cases e3
  refine sem_callR h1 r e1 fun v H' G' r1 g1 hr => ?_
  cases rs with
  | un => cases e2
  | d y => cases e2; exact k v H' G' r1 g1 hr
  | own b xs =>
    cases b with
    | true => cases e2
    | false =>
      have e2 : (if xs.fz = true then some xs.dat else none) = some x := e2
      by_cases hf : xs.fz = true
      · rw [if_pos hf] at e2
        cases e2
        obtain ⟨p, vs, rfl, h0, hg, ap, hh, ha⟩ := hr
        obtain ⟨G2, g2, r2, h2⟩ := r1.known h0 hg ap hh ha hf
        exact k _ H' G2 r2 (g1.trans g2) h2
      · rw [if_neg hf] at e2; cases e2
theorem sem_callL (h1 : SemA K tA fs) : SemL K (tCallG (spM K n m) tA) (sCallL n m fs) := by
  intro F S σ H G o S' r ef Q k
  obtain ⟨⟨rs, S1⟩, e1, ef⟩ := Option.bind_eq_some_iff.mp ef
  obtain ⟨x, e2, e3⟩ := Option.map_eq_some_iff.mp ef
  cases e3
  refine sem_callR h1 r e1 fun v H' G' r1 g1 hr => ?_
  cases rs with
  | un => cases e2
  | d y => cases e2
  | own b xs =>
    cases b with
    | true => cases e2
    | false => cases xs with
      | dct t kvs => cases e2
      | lst xs =>
        cases e2
        obtain ⟨p, vs, rfl, h0, hg, ap, hh, ha⟩ := hr
        cases ha with
        | lst ha => exact k p _ H' G' r1 g1 h0 hg ap hh ha
end
section
variable {X : Cx} {K : KK} {k : Nat} {f : Addr} {fd : FuncData} {ps ks : List Str} {m : Fn} {x : Str} {p pos : Pos} {e : Expr} {es : List Expr} {kws : List Keyword} {t u : TA} {fs gs : AS} {pm : List Nat}
/-- what a body knows of a def that it calls -/
structure Cal (P : Program) (w : World) (K : PySem.W.Frag) (mg : Str → Option Value) (base : Heap) (k : Nat) (x : Str) (ps : List Str) (m : Fn) (f : Addr) (fd : FuncData) : Prop where
  ok : FnG P w K mg base k f fd ps m
  mg : mg x = some (.ref f)
  kp : PySem.W.keepIn K (.ref f) = true
  bn : Binds K fd ps []
theorem after_call {pins : List (Addr × Obj)} {σ : L2.St} {H : Hp} {s : Shared} {Q : VK} {r : Result} {s' : Shared} (I : Inv X pins σ H s) (hq : CR CX0 X.stack X.prog X.w H s Q E0 r s') : (match r with
    | .ok (.ret u) => EP X pins σ Q u s'
    | _ => False) := by
  cases r with
  | error e => exact hq
  | ok fl =>
    cases fl with
    | ret u => exact I.after hq
    | next => exact hq
    | brk => exact hq
    | cont => exact hq
theorem run_G (F : FnG X.prog X.w X.K X.mg X.base k f fd ps m) (hr : Room k X.A) (hgd : X.A.guards = some []) {pins : List (Addr × Obj)} {σ : L2.St} {H : Hp} {s : Shared} {Q : VK} {us pu : List Value} {kw : List (Str × Value)} {vs : List V}
    (I : Inv X pins σ H s) (hb : BindsTo s fd ⟨us, kw⟩ (ps.zip pu)) (rv : Vals vs pu) (h : spM (Ckk X) ps.length m vs H Q E0) : wpAny (model X.prog X.w) X.A (call (.ref f) us kw) (EP X pins σ Q) X.xe s := by
  refine wpAny_call (codeAny_mono (F.run X.A X.stack s H ⟨us, kw⟩ pu vs Q hr hgd I.env0 hb rv h) fun r s' hq => ?_)
  have z := after_call I hq
  cases r with
  | error e => exact z.elim
  | ok fl =>
    cases fl with
    | ret u => exact z
    | next => exact z.elim
    | brk => exact z.elim
    | cont => exact z.elim
theorem pe_callG (hK : Ckk X = K) (C : Cal X.prog X.w K X.mg X.base k x ps m f fd) (hr : Room k X.A) (hgd : X.A.guards = some []) (ha : PA X (e :: es) t) (hg : Gl X x := by rfl) (hdb : (x == ("__debug__" : Str)) = false := by decide)
    (he : starEach (e :: es) X.env = (false, eval e X.env) :: starEach es X.env := by rfl) (hpl : (backTo pos (starEach es X.env)).any (·.1) = false := by rfl) : PE X (.Call (.Name x p) (e :: es) [] pos) (tCallG (spM K ps.length m) t) := by
  subst hK
  constructor
  intro pins s σ H Q I h
  refine wpAny_Call_Name_kw (ld_glob I hg C.mg ?_ hdb)
  refine PySem.W.callWith_K (h₀ := X.base) I.ok.mod.kin C.kp (thn (ha.run pos pins s σ H _ I h) ?_) he hpl
  rintro us s1 ⟨vs, H1, I1, r, q⟩
  have hl : us.length = ps.length := by
    obtain ⟨_, _, _, _, z, _⟩ := q
    rw [← r.length]; exact z
  have b := C.bn s1 us I1.kIn (by simpa using hl)
  rw [List.append_nil] at b
  exact ⟨I1.kIn, run_G C.ok hr hgd I1 b r q⟩
theorem pe_callG0 (hK : Ckk X = K) (C : Cal X.prog X.w K X.mg X.base k x ps m f fd) (hr : Room k X.A) (hgd : X.A.guards = some []) (hg : Gl X x := by rfl) (hdb : (x == ("__debug__" : Str)) = false := by decide) : PE X (.Call (.Name x p) [] [] pos) (tCallG (spM K ps.length m) tNil) := by
  subst hK
  constructor
  intro pins s σ H Q I q
  refine wpAny_Call_Name_kw (ld_glob I hg C.mg ?_ hdb)
  have hl : ([] : List Value).length = ps.length := by
    obtain ⟨_, _, _, _, z, _⟩ := q
    exact z
  have b := C.bn s [] I.kIn (by simpa using hl)
  exact PySem.W.callWith_K0 I.kIn C.kp (run_G C.ok hr hgd I (by simpa using b) .nil q)
/-- how the written values, the last ones by name, come to the parameters -/
def KwB (K : PySem.W.Frag) (fd : FuncData) (ps ks : List Str) (pm : List Nat) : Prop := ∀ (s : Shared) (us ws : List Value), K.In s.heap → us.length + ks.length = ps.length → ws.length = ks.length → BindsTo s fd ⟨us, ks.zip ws⟩ (ps.zip (perm pm (us ++ ws)))
theorem pe_callGK {n j : Nat} (hK : Ckk X = K) (C : Cal X.prog X.w K X.mg X.base k x ps m f fd) (B : KwB K fd ps ks pm) (hr : Room k X.A) (hgd : X.A.guards = some []) (ha : PA X (e :: es) t) (hkw : PK X kws u) (hn : n + ks.length = ps.length) (hj : j = ks.length)
    (hall : (backToKw pos (keywordEach kws X.env)).all (·.1.isSome) = true := by rfl) (hks : (backToKw pos (keywordEach kws X.env)).filterMap (·.1) = ks := by rfl) (hg : Gl X x := by rfl) (hdb : (x == ("__debug__" : Str)) = false := by decide)
    (he : starEach (e :: es) X.env = (false, eval e X.env) :: starEach es X.env := by rfl) (hpl : ((backTo pos (starEach (e :: es) X.env)).any (·.1) || (backToKw pos (keywordEach kws X.env)).any (·.1.isNone)) = false := by rfl) :
    PE X (.Call (.Name x p) (e :: es) kws pos) (tCallG (spM K ps.length m) (tPerm pm (tApp n j t u))) := by
  subst hK
  constructor
  intro pins s σ H Q I h
  refine wpAny_Call_Name_kw (ld_glob I hg C.mg ?_ hdb)
  refine PySem.W.callWith_KW (h₀ := X.base) I.ok.mod.kin C.kp hall (thn (ha.run pos pins s σ H _ I h) ?_) hpl he
  rintro us s1 ⟨vs, H1, I1, r, q⟩
  refine thn (hkw.run pos pins s1 σ H1 _ I1 q) ?_
  rintro ws s2 ⟨zs, H2, I2, rz, l1, l2, q2⟩
  refine ⟨I2.kIn, ?_⟩
  rw [hks]
  exact run_G C.ok hr hgd I2 (B s2 us ws I2.kIn (by rw [← r.length]; omega) (by rw [← rz.length]; omega)) (perm_vals (r.append rz) pm) q2
theorem pe_callGK0 {j : Nat} (hK : Ckk X = K) (C : Cal X.prog X.w K X.mg X.base k x ps m f fd) (B : KwB K fd ps ks pm) (hr : Room k X.A) (hgd : X.A.guards = some []) (hkw : PK X kws u) (hn : ks.length = ps.length) (hj : j = ks.length)
    (hall : (backToKw pos (keywordEach kws X.env)).all (·.1.isSome) = true := by rfl) (hks : (backToKw pos (keywordEach kws X.env)).filterMap (·.1) = ks := by rfl) (hg : Gl X x := by rfl) (hdb : (x == ("__debug__" : Str)) = false := by decide)
    (hpl : ((backTo pos (starEach [] X.env)).any (·.1) || (backToKw pos (keywordEach kws X.env)).any (·.1.isNone)) = false := by rfl) :
    PE X (.Call (.Name x p) [] kws pos) (tCallG (spM K ps.length m) (tPerm pm (tApp 0 j tNil u))) := by
  subst hK
  constructor
  intro pins s σ H Q I h
  refine wpAny_Call_Name_kw (ld_glob I hg C.mg ?_ hdb)
  refine PySem.W.callWith_KW0 (h₀ := X.base) I.ok.mod.kin C.kp hall (thn (hkw.run pos pins s σ H _ I h) ?_) hpl
  rintro ws s2 ⟨zs, H2, I2, rz, _, l2, q2⟩
  refine ⟨I2.kIn, ?_⟩
  rw [hks]
  exact run_G C.ok hr hgd I2 (B s2 [] ws I2.kIn (by simpa using hn) (by rw [← rz.length]; omega)) (perm_vals rz pm) q2
structure SK (X : Cx) (K : KK) (kws : List Keyword) (t : TA) (f : AS) : Prop where
  p : PK X kws t
  ok : SemA K t f
theorem sk_nil : SK X K [] tNil sNil := ⟨pk_nil, sem_nil⟩
theorem sk_cons {te : TE} {fe : ES} {nm : Option Str} {kpos : Pos} (h : SE X K e te fe) (h2 : SK X K kws t fs) : SK X K (⟨nm, e, kpos⟩ :: kws) (tCons te t) (sCons fe fs) := ⟨pk_cons h.p h2.p, sem_cons h.ok h2.ok⟩
/-! the four forms of a call, as an operand and as a new list -/
theorem se_call (hK : Ckk X = K) (C : Cal X.prog X.w K X.mg X.base k x ps m f fd) (hr : Room k X.A) (hgd : X.A.guards = some []) (ha : SA X K (e :: es) t fs) (hg : Gl X x := by rfl) (hdb : (x == ("__debug__" : Str)) = false := by decide)
    (he : starEach (e :: es) X.env = (false, eval e X.env) :: starEach es X.env := by rfl) (hpl : (backTo pos (starEach es X.env)).any (·.1) = false := by rfl) : SE X K (.Call (.Name x p) (e :: es) [] pos) (tCallG (spM K ps.length m) t) (sCall ps.length m fs) := ⟨pe_callG hK C hr hgd ha.p hg hdb he hpl, sem_call ha.ok⟩
theorem sl_call (hK : Ckk X = K) (C : Cal X.prog X.w K X.mg X.base k x ps m f fd) (hr : Room k X.A) (hgd : X.A.guards = some []) (ha : SA X K (e :: es) t fs) (hg : Gl X x := by rfl) (hdb : (x == ("__debug__" : Str)) = false := by decide)
    (he : starEach (e :: es) X.env = (false, eval e X.env) :: starEach es X.env := by rfl) (hpl : (backTo pos (starEach es X.env)).any (·.1) = false := by rfl) : SL X K (.Call (.Name x p) (e :: es) [] pos) (tCallG (spM K ps.length m) t) (sCallL ps.length m fs) := ⟨pe_callG hK C hr hgd ha.p hg hdb he hpl, sem_callL ha.ok⟩
theorem se_call0 (hK : Ckk X = K) (C : Cal X.prog X.w K X.mg X.base k x ps m f fd) (hr : Room k X.A) (hgd : X.A.guards = some []) (hg : Gl X x := by rfl) (hdb : (x == ("__debug__" : Str)) = false := by decide) : SE X K (.Call (.Name x p) [] [] pos) (tCallG (spM K ps.length m) tNil) (sCall ps.length m sNil) := ⟨pe_callG0 hK C hr hgd hg hdb, sem_call sem_nil⟩
theorem se_callK {n j : Nat} (hK : Ckk X = K) (C : Cal X.prog X.w K X.mg X.base k x ps m f fd) (B : KwB K fd ps ks pm) (hr : Room k X.A) (hgd : X.A.guards = some []) (ha : SA X K (e :: es) t fs) (hkw : SK X K kws u gs) (hn : n + ks.length = ps.length := by rfl) (hj : j = ks.length := by rfl)
    (hall : (backToKw pos (keywordEach kws X.env)).all (·.1.isSome) = true := by rfl) (hks : (backToKw pos (keywordEach kws X.env)).filterMap (·.1) = ks := by rfl) (hg : Gl X x := by rfl) (hdb : (x == ("__debug__" : Str)) = false := by decide)
    (he : starEach (e :: es) X.env = (false, eval e X.env) :: starEach es X.env := by rfl) (hpl : ((backTo pos (starEach (e :: es) X.env)).any (·.1) || (backToKw pos (keywordEach kws X.env)).any (·.1.isNone)) = false := by rfl) :
    SE X K (.Call (.Name x p) (e :: es) kws pos) (tCallG (spM K ps.length m) (tPerm pm (tApp n j t u))) (sCall ps.length m (sPerm pm (sApp n j fs gs))) := ⟨pe_callGK hK C B hr hgd ha.p hkw.p hn hj hall hks hg hdb he hpl, sem_call (sem_perm (sem_app ha.ok hkw.ok))⟩
theorem sl_callK {n j : Nat} (hK : Ckk X = K) (C : Cal X.prog X.w K X.mg X.base k x ps m f fd) (B : KwB K fd ps ks pm) (hr : Room k X.A) (hgd : X.A.guards = some []) (ha : SA X K (e :: es) t fs) (hkw : SK X K kws u gs) (hn : n + ks.length = ps.length := by rfl) (hj : j = ks.length := by rfl)
    (hall : (backToKw pos (keywordEach kws X.env)).all (·.1.isSome) = true := by rfl) (hks : (backToKw pos (keywordEach kws X.env)).filterMap (·.1) = ks := by rfl) (hg : Gl X x := by rfl) (hdb : (x == ("__debug__" : Str)) = false := by decide)
    (he : starEach (e :: es) X.env = (false, eval e X.env) :: starEach es X.env := by rfl) (hpl : ((backTo pos (starEach (e :: es) X.env)).any (·.1) || (backToKw pos (keywordEach kws X.env)).any (·.1.isNone)) = false := by rfl) :
    SL X K (.Call (.Name x p) (e :: es) kws pos) (tCallG (spM K ps.length m) (tPerm pm (tApp n j t u))) (sCallL ps.length m (sPerm pm (sApp n j fs gs))) := ⟨pe_callGK hK C B hr hgd ha.p hkw.p hn hj hall hks hg hdb he hpl, sem_callL (sem_perm (sem_app ha.ok hkw.ok))⟩
theorem se_callK0 {j : Nat} (hK : Ckk X = K) (C : Cal X.prog X.w K X.mg X.base k x ps m f fd) (B : KwB K fd ps ks pm) (hr : Room k X.A) (hgd : X.A.guards = some []) (hkw : SK X K kws u gs) (hn : ks.length = ps.length := by rfl) (hj : j = ks.length := by rfl)
    (hall : (backToKw pos (keywordEach kws X.env)).all (·.1.isSome) = true := by rfl) (hks : (backToKw pos (keywordEach kws X.env)).filterMap (·.1) = ks := by rfl) (hg : Gl X x := by rfl) (hdb : (x == ("__debug__" : Str)) = false := by decide)
    (hpl : ((backTo pos (starEach [] X.env)).any (·.1) || (backToKw pos (keywordEach kws X.env)).any (·.1.isNone)) = false := by rfl) :
    SE X K (.Call (.Name x p) [] kws pos) (tCallG (spM K ps.length m) (tPerm pm (tApp 0 j tNil u))) (sCall ps.length m (sPerm pm (sApp 0 j sNil gs))) := ⟨pe_callGK0 hK C B hr hgd hkw.p hn hj hall hks hg hdb hpl, sem_call (sem_perm (sem_app sem_nil hkw.ok))⟩
theorem sl_callK0 {j : Nat} (hK : Ckk X = K) (C : Cal X.prog X.w K X.mg X.base k x ps m f fd) (B : KwB K fd ps ks pm) (hr : Room k X.A) (hgd : X.A.guards = some []) (hkw : SK X K kws u gs) (hn : ks.length = ps.length := by rfl) (hj : j = ks.length := by rfl)
    (hall : (backToKw pos (keywordEach kws X.env)).all (·.1.isSome) = true := by rfl) (hks : (backToKw pos (keywordEach kws X.env)).filterMap (·.1) = ks := by rfl) (hg : Gl X x := by rfl) (hdb : (x == ("__debug__" : Str)) = false := by decide)
    (hpl : ((backTo pos (starEach [] X.env)).any (·.1) || (backToKw pos (keywordEach kws X.env)).any (·.1.isNone)) = false := by rfl) :
    SL X K (.Call (.Name x p) [] kws pos) (tCallG (spM K ps.length m) (tPerm pm (tApp 0 j tNil u))) (sCallL ps.length m (sPerm pm (sApp 0 j sNil gs))) := ⟨pe_callGK0 hK C B hr hgd hkw.p hn hj hall hks hg hdb hpl, sem_callL (sem_perm (sem_app sem_nil hkw.ok))⟩
end
end DL

set_option Elab.async false
set_option linter.all false
set_option maxRecDepth 100000
set_option maxHeartbeats 4000000
/-! DL, part 5: operators and built-ins over data. -/
namespace DL
open PySem PySem.Spec PyProof.Rows L2

/-! ### data that == takes -/
def fitN (n : Nat) (d : PyData) : Bool := d.canLay0 && decide (d.depth ≤ n)
theorem fit_shaped {d : PyData} (h : fitN 60 d = true) : SeqAt.shaped d = true := by
  unfold fitN at h
  unfold SeqAt.shaped
  rw [Bool.and_eq_true, decide_eq_true_eq] at h ⊢
  exact ⟨h.1, by omega⟩
theorem canLayAll_all : ∀ xs : List PyData, PyData.canLayAll0 xs = xs.all fun d => d.canLay0
  | [] => by simp [PyData.canLayAll0]
  | x :: xs => by simp [PyData.canLayAll0, canLayAll_all xs]
theorem depthAll_le (n : Nat) : ∀ xs : List PyData, decide (PyData.depthAll xs ≤ n) = xs.all fun d => decide (d.depth ≤ n)
  | [] => by simp [PyData.depthAll]
  | x :: xs => by
    have ih := depthAll_le n xs
    simp only [PyData.depthAll, List.all_cons, ← ih, ← Bool.decide_and]
    congr 1
    simp only [eq_iff_iff]
    omega
theorem all_and (p q : PyData → Bool) : ∀ xs : List PyData, (xs.all p && xs.all q) = xs.all fun d => p d && q d
  | [] => rfl
  | x :: xs => by
    rw [List.all_cons, List.all_cons, List.all_cons, ← all_and p q xs]
    cases p x <;> cases q x <;> simp
theorem fit_tuple (n : Nat) (xs : List PyData) : fitN (n + 1) (.tuple xs) = xs.all (fitN n) := by
  show (PyData.canLay0 (.tuple xs) && decide (PyData.depth (.tuple xs) ≤ n + 1)) = xs.all fun d => d.canLay0 && decide (d.depth ≤ n)
  rw [← all_and, ← depthAll_le n xs, ← canLayAll_all]
  simp only [PyData.canLay0, PyData.depth, Nat.add_le_add_iff_right]
theorem fit_list (n : Nat) (xs : List PyData) : fitN (n + 1) (.list xs) = xs.all (fitN n) := by
  show (PyData.canLay0 (.list xs) && decide (PyData.depth (.list xs) ≤ n + 1)) = xs.all fun d => d.canLay0 && decide (d.depth ≤ n)
  rw [← all_and, ← depthAll_le n xs, ← canLayAll_all]
  simp only [PyData.canLay0, PyData.depth, Nat.add_le_add_iff_right]
theorem fit_int (n : Nat) (i : Int) : fitN n (.int i) = true := by simp [fitN, PyData.canLay0, PyData.depth]
theorem fit_bool (n : Nat) (i : Bool) : fitN n (.bool i) = true := by simp [fitN, PyData.canLay0, PyData.depth]
theorem fit_none (n : Nat) : fitN n .none = true := by simp [fitN, PyData.canLay0, PyData.depth]
theorem fit_str (n : Nat) (x : Str) : fitN n (.str x) = PyData.strOk x := by simp [fitN, PyData.canLay0, PyData.depth]
theorem fit_mono {n m : Nat} {d : PyData} (h : fitN n d = true) (hm : n ≤ m) : fitN m d = true := by
  unfold fitN at h ⊢
  rw [Bool.and_eq_true, decide_eq_true_eq] at h ⊢
  exact ⟨h.1, by omega⟩

section
variable {K : KK} {H G : Hp}
mutual
theorem Rp.dp : ∀ {d : PyData} {v : V}, Rp K H v d → d.canLay0 = true → Dp K H v d
  | _, _, .non, _ => .non
  | _, _, .bl b, _ => .bl b
  | _, _, .int b, _ => .int b
  | _, _, .str b, _ => .str b
  | _, _, .lst h r, c => .lst (.inl (.inl h)) (RpAll.dp r (by simpa [PyData.canLay0] using c))
  | _, _, .tup h r, c => .tup h (RpAll.dp r (by simpa [PyData.canLay0] using c))
  | _, _, .dic h r, c => by simp [PyData.canLay0] at c
  | _, _, .scr h r, c => by simp [PyData.canLay0] at c
theorem RpAll.dp : ∀ {ds : List PyData} {vs : List V}, RpAll K H vs ds → PyData.canLayAll0 ds = true → DpAll K H vs ds
  | _, _, .nil, _ => .nil
  | _, _, .cons h r, c => by
    have c' := Bool.and_eq_true_iff.mp (show (_ && _) = true by simpa [PyData.canLayAll0] using c)
    exact .cons (Rp.dp h c'.1) (RpAll.dp r c'.2)
end
theorem fit_lay {n : Nat} {d : PyData} (h : fitN n d = true) : d.canLay0 = true := (Bool.and_eq_true_iff.mp h).1
theorem fit_depth {n : Nat} {d : PyData} (h : fitN n d = true) : d.depth ≤ n := of_decide_eq_true (Bool.and_eq_true_iff.mp h).2
theorem fit_items_l {n : Nat} {ds : List PyData} (h : fitN n (.list ds) = true) : PyData.canLayAll0 ds = true := by simpa [PyData.canLay0] using fit_lay h
theorem fit_items_t {n : Nat} {ds : List PyData} (h : fitN n (.tuple ds) = true) : PyData.canLayAll0 ds = true := by simpa [PyData.canLay0] using fit_lay h
end
section
variable {X : Cx} {K : KK} {pins : List (Addr × Obj)} {σ : L2.St} {H : Hp} {s : Shared}
theorem Rp.reads {n : Nat} {d : PyData} {v : V} {u : Value} (I : Inv X pins σ H s) (h : Rp (Ckk X) H v d) (f : fitN n d = true) (r : RelV v u) : ∃ as, Reads s.heap u d as := Dp.reads I d v u (h.dp (fit_lay f)) r

/-! ### == and != -/
def strEq : PyData → PyData → Option Bool
  | .str a, .str b => some (decide (a = b))
  | _, _ => none
def dEq (x y : PyData) : Option PyData := match strEq x y with
  | some b => some (.bool b)
  | none => if fitN 60 x = true ∧ fitN 60 y = true then some (.bool (PyData.eqv x y)) else none
def dNe (x y : PyData) : Option PyData := match strEq x y with
  | some b => some (.bool (!b))
  | none => if fitN 60 x = true ∧ fitN 60 y = true then some (.bool (!PyData.eqv x y)) else none
theorem strEq_some {x y : PyData} {b : Bool} (h : strEq x y = some b) : ∃ a c, x = .str a ∧ y = .str c ∧ b = decide (a = c) := by
  unfold strEq at h
  split at h
  · cases h; exact ⟨_, _, rfl, rfl, rfl⟩
  · cases h
def rEqX (K : KK) : R2 := fun x y H Q => rEqD K x y H Q ∨ rEq x y H Q
def rNeX (K : KK) : R2 := fun x y H Q => rNeD K x y H Q ∨ rNe x y H Q
theorem opEq (hK : Ckk X = K) {k : Nat} (hr : Room k X.A) : L2.OpR X (compareOp .Eq) (rEqX K) := by subst hK; exact (op_eqD hr.units).or op_eq
theorem opNe (hK : Ckk X = K) {k : Nat} (hr : Room k X.A) : L2.OpR X (compareOp .NotEq) (rNeX K) := by subst hK; exact (op_neD hr.units).or op_ne
theorem dec_strV {a c : Str} : decide (V.str a = V.str c) = decide (a = c) := by simp
theorem vEq : V2 K (rEqX K) dEq := fun G H v w x y z e rx ry h Q k => by
  unfold dEq at h
  split at h
  · rename_i b hb
    cases h
    obtain ⟨a, c, rfl, rfl, rfl⟩ := strEq_some hb
    have e1 := rx.str
    have e2 := ry.str
    subst e1 e2
    refine .inr ⟨rfl, ?_⟩
    rw [dec_strV]
    exact k _ H G (.refl e) (.bl _)
  · split at h
    · rename_i f
      cases h
      exact .inl ⟨x, y, (rx.rp e).dp (fit_lay f.1), (ry.rp e).dp (fit_lay f.2), fit_shaped f.1, fit_shaped f.2, k _ H G (.refl e) (.bl _)⟩
    · cases h
theorem vNe : V2 K (rNeX K) dNe := fun G H v w x y z e rx ry h Q k => by
  unfold dNe at h
  split at h
  · rename_i b hb
    cases h
    obtain ⟨a, c, rfl, rfl, rfl⟩ := strEq_some hb
    have e1 := rx.str
    have e2 := ry.str
    subst e1 e2
    refine .inr ⟨rfl, ?_⟩
    rw [dec_strV]
    exact k _ H G (.refl e) (.bl _)
  · split at h
    · rename_i f
      cases h
      exact .inl ⟨x, y, (rx.rp e).dp (fit_lay f.1), (ry.rp e).dp (fit_lay f.2), fit_shaped f.1, fit_shaped f.2, k _ H G (.refl e) (.bl _)⟩
    · cases h

/-! ### in, not in -/
def dItems : PyData → Option (List PyData)
  | .list xs => some xs
  | .tuple xs => some xs
  | _ => none
def dIn (x y : PyData) : Option PyData := if fitN 60 x = true ∧ fitN 60 y = true then (dItems y).map fun ds => .bool (ds.any fun z => PyData.eqv z x) else none
def dNotIn (x y : PyData) : Option PyData := if fitN 60 x = true ∧ fitN 60 y = true then (dItems y).map fun ds => .bool (!ds.any fun z => PyData.eqv z x) else none
def rInA (K : KK) (neg : Bool) : R2 := fun x y H Q => ∃ d ds, Rp K H x d ∧ fitN 60 d = true ∧ ((Rp K H y (.list ds) ∧ fitN 60 (.list ds) = true) ∨ (Rp K H y (.tuple ds) ∧ fitN 60 (.tuple ds) = true)) ∧ Q (.bl (if neg then !ds.any fun z => PyData.eqv z d else ds.any fun z => PyData.eqv z d)) H
theorem opIn (hK : Ckk X = K) {k : Nat} (hr : Room k X.A) : L2.OpR X (compareOp .In) (rInA K false) := by
  subst hK
  intro pins s σ H x y v u Q I rx ry h
  have hu : X.A.units + 65 < cLine := by have := hr.un; omega
  obtain ⟨d, ds, hd, fd, he, q⟩ := h
  obtain ⟨as, r1⟩ := hd.reads I fd rx
  rcases he with ⟨he, fe⟩ | ⟨he, fe⟩
  · obtain ⟨bs, r2⟩ := he.reads I fe ry
    exact SeqAt.in_list_reads r2 r1 (fit_lay fe) (fit_lay fd) (room_in_shaped (fit_shaped fd) hu) ⟨.bl _, H, I, rfl, q⟩
  · obtain ⟨bs, r2⟩ := he.reads I fe ry
    exact SeqAt.in_tuple_reads r2 r1 (fit_lay fe) (fit_lay fd) (room_in_shaped (fit_shaped fd) hu) ⟨.bl _, H, I, rfl, q⟩
theorem opNotIn (hK : Ckk X = K) {k : Nat} (hr : Room k X.A) : L2.OpR X (compareOp .NotIn) (rInA K true) := by
  subst hK
  intro pins s σ H x y v u Q I rx ry h
  have hu : X.A.units + 65 < cLine := by have := hr.un; omega
  obtain ⟨d, ds, hd, fd, he, q⟩ := h
  obtain ⟨as, r1⟩ := hd.reads I fd rx
  rcases he with ⟨he, fe⟩ | ⟨he, fe⟩
  · obtain ⟨bs, r2⟩ := he.reads I fe ry
    exact SeqAt.notIn_list_reads r2 r1 (fit_lay fe) (fit_lay fd) (room_in_shaped (fit_shaped fd) hu) ⟨.bl _, H, I, rfl, q⟩
  · obtain ⟨bs, r2⟩ := he.reads I fe ry
    exact SeqAt.notIn_tuple_reads r2 r1 (fit_lay fe) (fit_lay fd) (room_in_shaped (fit_shaped fd) hu) ⟨.bl _, H, I, rfl, q⟩
theorem vIn : V2 K (rInA K false) dIn := fun G H v w x y z e rx ry h Q k => by
  unfold dIn at h
  split at h
  · rename_i f
    obtain ⟨ds, h1, rfl⟩ := Option.map_eq_some_iff.mp h
    refine ⟨x, ds, rx.rp e, f.1, ?_, k _ H G (.refl e) (.bl _)⟩
    cases y with
    | list xs => cases h1; exact .inl ⟨ry.rp e, f.2⟩
    | tuple xs => cases h1; exact .inr ⟨ry.rp e, f.2⟩
    | _ => cases h1
  · cases h
theorem vNotIn : V2 K (rInA K true) dNotIn := fun G H v w x y z e rx ry h Q k => by
  unfold dNotIn at h
  split at h
  · rename_i f
    obtain ⟨ds, h1, rfl⟩ := Option.map_eq_some_iff.mp h
    refine ⟨x, ds, rx.rp e, f.1, ?_, k _ H G (.refl e) (.bl _)⟩
    cases y with
    | list xs => cases h1; exact .inl ⟨ry.rp e, f.2⟩
    | tuple xs => cases h1; exact .inr ⟨ry.rp e, f.2⟩
    | _ => cases h1
  · cases h

/-! ### is, is not: with None, with True and False -/
def isNoneD : PyData → Bool
  | .none => true
  | _ => false
def dIs (x y : PyData) : Option PyData := match y with
  | .none => some (.bool (isNoneD x))
  | .bool b => match x with
    | .bool a => some (.bool (decide (a = b)))
    | _ => none
  | _ => none
def dIsNot (x y : PyData) : Option PyData := match y with
  | .none => some (.bool (!isNoneD x))
  | .bool b => match x with
    | .bool a => some (.bool (!decide (a = b)))
    | _ => none
  | _ => none
def rIs (neg : Bool) : R2 := fun x y H Q => (y = .non ∧ Q (.bl (if neg then !decide (x = .non) else decide (x = .non))) H) ∨ ∃ a b : Bool, x = .bl a ∧ y = .bl b ∧ Q (.bl (if neg then !decide (a = b) else decide (a = b))) H
theorem opIs : L2.OpR X (compareOp .Is) (rIs false) := op_isN.or op_isBl
theorem opIsNot : L2.OpR X (compareOp .IsNot) (rIs true) := op_notN.or op_notBl
theorem RV.isNone {G : Hp} {v : V} {x : PyData} (h : RV K G H v x) : decide (v = .non) = isNoneD x := by
  cases x with
  | none => rw [h.non]; rfl
  | bool b => rw [h.bl]; rfl
  | int b => rw [h.int]; rfl
  | str b => rw [h.str]; rfl
  | list b =>
    rcases h with h | ⟨a, vs, xs, _, h2, _⟩
    · cases h; rfl
    · rw [h2]; rfl
  | tuple b =>
    rcases h with h | ⟨a, vs, xs, q, h2, _⟩
    · cases h; rfl
    · cases q
  | dict b =>
    rcases h with h | ⟨a, vs, xs, q, h2, _⟩
    · cases h <;> rfl
    · cases q
theorem vIs : V2 K (rIs false) dIs := fun G H v w x y z e rx ry h Q k => by
  unfold dIs at h
  cases y with
  | none =>
    cases h
    refine .inl ⟨ry.non, ?_⟩
    have := k _ H G (.refl e) (.bl (isNoneD x))
    rw [← rx.isNone] at this
    exact this
  | bool b =>
    cases x with
    | bool a => cases h; exact .inr ⟨a, b, rx.bl, ry.bl, k _ H G (.refl e) (.bl _)⟩
    | _ => cases h
  | _ => cases h
theorem vIsNot : V2 K (rIs true) dIsNot := fun G H v w x y z e rx ry h Q k => by
  unfold dIsNot at h
  cases y with
  | none =>
    cases h
    refine .inl ⟨ry.non, ?_⟩
    have := k _ H G (.refl e) (.bl (!isNoneD x))
    rw [← rx.isNone] at this
    exact this
  | bool b =>
    cases x with
    | bool a => cases h; exact .inr ⟨a, b, rx.bl, ry.bl, k _ H G (.refl e) (.bl _)⟩
    | _ => cases h
  | _ => cases h

/-! ### ints -/
def dI2 (g : Int → Int → PyData) (x y : PyData) : Option PyData := match x, y with
  | .int i, .int j => some (g i j)
  | _, _ => none
theorem vI2 {g : Int → Int → PyData} {h : Int → Int → V} (hg : ∀ i j G, Rp K G (h i j) (g i j)) : V2 K (rI0 h) (dI2 g) := fun G H v w x y z e rx ry q Q k => by
  cases x with
  | int i => cases y with
    | int j => cases q; exact ⟨i, j, rx.int, ry.int, k _ H G (.refl e) (hg i j G)⟩
    | _ => cases q
  | _ => cases q
def dLt := dI2 fun i j => .bool (decide (i < j))
def dLe := dI2 fun i j => .bool (decide (i ≤ j))
def dGt := dI2 fun i j => .bool (decide (j < i))
def dGe := dI2 fun i j => .bool (decide (j ≤ i))
def dSub := dI2 fun i j => .int (i - j)
theorem vLt : V2 K (rI0 fun i j => .bl (decide (i < j))) dLt := vI2 fun i j G => .bl _
theorem vLe : V2 K (rI0 fun i j => .bl (decide (i ≤ j))) dLe := vI2 fun i j G => .bl _
theorem vGt : V2 K (rI0 fun i j => .bl (decide (j < i))) dGt := vI2 fun i j G => .bl _
theorem vGe : V2 K (rI0 fun i j => .bl (decide (j ≤ i))) dGe := vI2 fun i j G => .bl _
theorem vSub : V2 K (rI0 fun i j => .int (i - j)) dSub := vI2 fun i j G => .int _
def dIC (C : Int → Int → Prop) [∀ i j, Decidable (C i j)] (g : Int → Int → PyData) (x y : PyData) : Option PyData := match x, y with
  | .int i, .int j => if C i j then some (g i j) else none
  | _, _ => none
theorem vIC {C : Int → Int → Prop} [∀ i j, Decidable (C i j)] {g : Int → Int → PyData} {h : Int → Int → V} (hg : ∀ i j G, Rp K G (h i j) (g i j)) : V2 K (rI C h) (dIC C g) := fun G H v w x y z e rx ry q Q k => by
  cases x with
  | int i => cases y with
    | int j =>
      have q : (if C i j then some (g i j) else none) = some z := q
      split at q
      · rename_i hc
        cases q; exact ⟨i, j, rx.int, ry.int, hc, k _ H G (.refl e) (hg i j G)⟩
      · cases q
    | _ => cases q
  | _ => cases q
noncomputable instance (i j : Int) : Decidable (CDiv i j) := Classical.propDecidable _
noncomputable instance (i j : Int) : Decidable (CPow i j) := Classical.propDecidable _
noncomputable instance (i j : Int) : Decidable (CMul i j) := Classical.propDecidable _
def dMod := dIC (fun _ j => 0 < j) fun i j => .int (i % j)
noncomputable def dDiv := dIC CDiv fun i j => .int (i / j)
noncomputable def dPow := dIC CPow fun i j => .int (i ^ j.toNat)
theorem vMod : V2 K (rI (fun _ j => 0 < j) fun i j => .int (i % j)) dMod := vIC fun i j G => .int _
theorem vDiv : V2 K (rI CDiv fun i j => .int (i / j)) dDiv := vIC fun i j G => .int _
theorem vPow : V2 K (rI CPow fun i j => .int (i ^ j.toNat)) dPow := vIC fun i j G => .int _
def dNeg : PyData → Option PyData
  | .int i => some (.int (-i))
  | _ => none
theorem vNeg : V1 K (rU fun i => .int (-i)) dNeg := fun G H v x z e rx q Q k => by
  cases x with
  | int i => cases q; exact ⟨i, rx.int, k _ H G (.refl e) (.int _)⟩
  | _ => cases q

/-! ### +, * -/
def dAdd (x y : PyData) : Option PyData := match x, y with
  | .int i, .int j => some (.int (i + j))
  | .str a, .str b => if a.length + b.length ≤ 100000 then some (.str (a ++ b)) else none
  | .tuple xs, .tuple ys => if xs.length + ys.length ≤ 100000 then some (.tuple (xs ++ ys)) else none
  | .list xs, .list ys => if xs.length + ys.length ≤ 100000 then some (.list (xs ++ ys)) else none
  | _, _ => none
def dAddL (x y : PyData) : Option (List PyData) := match x, y with
  | .list xs, .list ys => if xs.length + ys.length ≤ 100000 then some (xs ++ ys) else none
  | _, _ => none
def rAddA (K : KK) : R2 := fun x y H Q => rI0 (fun i j => .int (i + j)) x y H Q ∨ (∃ i j, x = .str i ∧ y = .str j ∧ i.length + j.length ≤ sizeLine ∧ Q (.str (i ++ j)) H) ∨ rCatA K x y H Q ∨ rCat x y H Q
theorem opAdd (hK : Ckk X = K) : L2.OpR X (binaryOp .Add) (rAddA K) := by subst hK; exact op_add.or (op_add_str.or (op_catA.or op_cat))
theorem vAdd : V2 K (rAddA K) dAdd := fun G H v w x y z e rx ry q Q k => by
  unfold dAdd at q
  cases x with
  | int i => cases y with
    | int j => cases q; exact .inl ⟨i, j, rx.int, ry.int, k _ H G (.refl e) (.int _)⟩
    | _ => cases q
  | str i => cases y with
    | str j =>
      have q : (if i.length + j.length ≤ 100000 then some (PyData.str (i ++ j)) else none) = some z := q
      split at q
      · rename_i hl
        cases q; exact .inr (.inl ⟨i, j, rx.str, ry.str, sz hl, k _ H G (.refl e) (.str _)⟩)
      · cases q
    | _ => cases q
  | tuple xs => cases y with
    | tuple ys =>
      have q : (if xs.length + ys.length ≤ 100000 then some (PyData.tuple (xs ++ ys)) else none) = some z := q
      split at q
      · rename_i hl
        cases q
        obtain ⟨a, vs, rfl, h1, h2⟩ := rx.tup e
        obtain ⟨b, ws, rfl, h3, h4⟩ := ry.tup e
        refine .inr (.inr (.inl ⟨a, b, vs, ws, rfl, rfl, h1, h3, by rw [h2.length, h4.length]; exact sz hl, fun hv => ?_, fun hv hw => ?_, fun hv hw p hp => ?_⟩))
        · subst hv
          cases h2
          rcases ry with ry | ⟨_, _, _, z, _⟩
          · exact k _ H G (.refl e) ry
          · cases z
        · subst hw
          cases h4
          rw [List.append_nil] at k
          rcases rx with rx | ⟨_, _, _, z, _⟩
          · exact k _ H G (.refl e) rx
          · cases z
        · have px := PX.laid (o := .tup (vs ++ ws)) e hp
          exact k _ _ _ px (.tup (.inl (.inl upd_same)) ((h2.append h4).mono px.gg))
      · cases q
    | _ => cases q
  | list xs => cases y with
    | list ys =>
      have q : (if xs.length + ys.length ≤ 100000 then some (PyData.list (xs ++ ys)) else none) = some z := q
      split at q
      · rename_i hl
        cases q
        obtain ⟨a, vs, rfl, h1, h2⟩ := rx.lst e
        obtain ⟨b, ws, rfl, h3, h4⟩ := ry.lst e
        refine .inr (.inr (.inr ⟨a, b, vs, ws, rfl, rfl, h1, h3, by rw [h2.length, h4.length]; exact sz hl, fun p hp => ?_⟩))
        have px := PX.laid (o := .lst (vs ++ ws)) e hp
        exact k _ _ _ px (.lst upd_same ((h2.append h4).mono px.gg))
      · cases q
    | _ => cases q
  | _ => cases q
theorem vAddL : V2L K (rAddA K) dAddL := fun G H v w x y z e rx ry q Q k => by
  unfold dAddL at q
  cases x with
  | list xs => cases y with
    | list ys =>
      have q : (if xs.length + ys.length ≤ 100000 then some (xs ++ ys) else none) = some z := q
      split at q
      · rename_i hl
        cases q
        obtain ⟨a, vs, rfl, h1, h2⟩ := rx.lst e
        obtain ⟨b, ws, rfl, h3, h4⟩ := ry.lst e
        refine .inr (.inr (.inr ⟨a, b, vs, ws, rfl, rfl, h1, h3, by rw [h2.length, h4.length]; exact sz hl, fun p hp => ?_⟩))
        exact k p (vs ++ ws) _ G (PX.side e hp) hp (e.free hp) upd_same (h2.append h4)
      · cases q
    | _ => cases q
  | _ => cases q
noncomputable def dMul (x y : PyData) : Option PyData := match x, y with
  | .int i, .int j => if CMul i j then some (.int (i * j)) else none
  | .tuple xs, .int k => if xs ≠ [] ∧ 2 ≤ k ∧ k ≤ 1000 ∧ xs.length ≤ 1000 then some (.tuple (List.replicate k.toNat xs).flatten) else none
  | .list xs, .int k => if 0 ≤ k ∧ k ≤ 1000 ∧ xs.length ≤ 1000 then some (.list (List.replicate k.toNat xs).flatten) else none
  | _, _ => none
def rMulA (K : KK) : R2 := fun x y H Q => rI CMul (fun i j => .int (i * j)) x y H Q ∨ rRepT K x y H Q ∨ rRep x y H Q
theorem opMul (hK : Ckk X = K) : L2.OpR X (binaryOp .Mult) (rMulA K) := by subst hK; exact op_mul.or (op_repT.or op_rep)
theorem rep_len (n : Nat) (k : Nat) (xs : List PyData) : ((List.replicate k xs).flatten).length = k * xs.length := by
  induction k with
  | zero => simp
  | succ k ih => rw [List.replicate_succ, List.flatten_cons, List.length_append, ih, Nat.succ_mul]; omega
theorem vMul : V2 K (rMulA K) dMul := fun G H v w x y z e rx ry q Q k => by
  unfold dMul at q
  cases x with
  | int i => cases y with
    | int j =>
      have q : (if CMul i j then some (PyData.int (i * j)) else none) = some z := q
      split at q
      · rename_i hc
        cases q; exact .inl ⟨i, j, rx.int, ry.int, hc, k _ H G (.refl e) (.int _)⟩
      · cases q
    | _ => cases q
  | tuple xs => cases y with
    | int j =>
      have q : (if xs ≠ [] ∧ 2 ≤ j ∧ j ≤ 1000 ∧ xs.length ≤ 1000 then some (PyData.tuple (List.replicate j.toNat xs).flatten) else none) = some z := q
      split at q
      · rename_i hc
        cases q
        obtain ⟨a, vs, rfl, h1, h2⟩ := rx.tup e
        refine .inr (.inl ⟨a, j, vs, rfl, ry.int, h1, fun hv => ?_, hc.2.1, hc.2.2.1, by rw [h2.length]; exact hc.2.2.2, fun p hp => ?_⟩)
        · subst hv; cases h2; exact hc.1 rfl
        · have px := PX.laid (o := .tup (List.replicate j.toNat vs).flatten) e hp
          exact k _ _ _ px (.tup (.inl (.inl upd_same)) ((h2.flat _).mono px.gg))
      · cases q
    | _ => cases q
  | list xs => cases y with
    | int j =>
      have q : (if 0 ≤ j ∧ j ≤ 1000 ∧ xs.length ≤ 1000 then some (PyData.list (List.replicate j.toNat xs).flatten) else none) = some z := q
      split at q
      · rename_i hc
        cases q
        obtain ⟨a, vs, rfl, h1, h2⟩ := rx.lst e
        refine .inr (.inr ⟨a, j, vs, rfl, ry.int, h1, by omega, by omega, ?_, fun p hp => ?_⟩)
        · rw [h2.length]
          have h5 : xs.length * j.toNat ≤ 1000 * 1000 := Nat.mul_le_mul hc.2.2 (by omega)
          exact Nat.le_trans h5 (by decide)
        · have px := PX.laid (o := .lst (List.replicate j.toNat vs).flatten) e hp
          exact k _ _ _ px (.lst upd_same ((h2.flat _).mono px.gg))
      · cases q
    | _ => cases q
  | _ => cases q
def dMulL (x y : PyData) : Option (List PyData) := match x, y with
  | .list xs, .int k => if 0 ≤ k ∧ k ≤ 1000 ∧ xs.length ≤ 1000 then some (List.replicate k.toNat xs).flatten else none
  | _, _ => none
theorem vMulL : V2L K (rMulA K) dMulL := fun G H v w x y z e rx ry q Q k => by
  unfold dMulL at q
  cases x with
  | list xs => cases y with
    | int j =>
      have q : (if 0 ≤ j ∧ j ≤ 1000 ∧ xs.length ≤ 1000 then some (List.replicate j.toNat xs).flatten else none) = some z := q
      split at q
      · rename_i hc
        cases q
        obtain ⟨a, vs, rfl, h1, h2⟩ := rx.lst e
        refine .inr (.inr ⟨a, j, vs, rfl, ry.int, h1, by omega, by omega, ?_, fun p hp => ?_⟩)
        · rw [h2.length]
          have h5 : xs.length * j.toNat ≤ 1000 * 1000 := Nat.mul_le_mul hc.2.2 (by omega)
          exact Nat.le_trans h5 (by decide)
        · exact k p _ _ G (PX.side e hp) hp (e.free hp) upd_same (h2.flat _)
      · cases q
    | _ => cases q
  | _ => cases q

/-! ### subscripts -/
theorem atI_rp {G : Hp} {vs : List V} {xs : List PyData} {i : Int} {d : PyData} (h : RpAll K G vs xs) (e : atI xs i = some d) : ∃ v, atI vs i = some v ∧ Rp K G v d := by
  obtain ⟨j, h1, h2⟩ := Option.bind_eq_some_iff.mp e
  obtain ⟨v, h3, h4⟩ := h.get h2
  exact ⟨v, by unfold atI; rw [h.length, h1]; exact h3, h4⟩
def dIx (x y : PyData) : Option PyData := match x, y with
  | .tuple xs, .int i => atI xs i
  | .list xs, .int i => atI xs i
  | .dict [(.none, .list xs)], .int i => atI xs i
  | .str z, .int i => if z.length ≤ 100000 then (atI z.cps.toList i).map fun c => .str ⟨#[c]⟩ else none
  | _, _ => none
theorem opIx (hK : Ckk X = K) : IxR X (rIx K) := by subst hK; exact ix_seq
theorem vIx : V2 K (rIx K) dIx := fun G H v w x y z e rx ry q Q k => by
  unfold dIx at q
  split at q
  · rename_i xs i
    obtain ⟨a, vs, rfl, h1, h2⟩ := rx.tup e
    obtain ⟨u, h3, h4⟩ := atI_rp h2 q
    exact .inr (.inl ⟨a, vs, i, u, rfl, ry.int, h1, h3, k _ H G (.refl e) h4⟩)
  · rename_i xs i
    obtain ⟨a, vs, rfl, h1, h2⟩ := rx.lst e
    obtain ⟨u, h3, h4⟩ := atI_rp h2 q
    exact .inl ⟨a, vs, i, u, rfl, ry.int, .inl (.inl h1), h3, k _ H G (.refl e) h4⟩
  · rename_i xs i
    obtain ⟨a, vs, rfl, h1, h2⟩ := rx.scr e
    obtain ⟨u, h3, h4⟩ := atI_rp h2 q
    exact .inl ⟨a, vs, i, u, rfl, ry.int, h1, h3, k _ H G (.refl e) h4⟩
  · rename_i y i
    split at q
    · rename_i hl
      obtain ⟨c, h1, rfl⟩ := Option.map_eq_some_iff.mp q
      exact .inr (.inr ⟨y, i, c, rx.str, ry.int, sz hl, h1, k _ H G (.refl e) (.str _)⟩)
    · cases q
  · cases q

/-! ### len -/
def dLen : List PyData → Option PyData
  | [.tuple xs] => some (.int xs.length)
  | [.list xs] => some (.int xs.length)
  | [.dict [(.none, .list xs)]] => some (.int xs.length)
  | [.str z] => if z.length ≤ 100000 then some (.int z.length) else none
  | _ => none
def rLenA (K : KK) : List V → Hp → VK → Prop := fun xs H Q => ∃ x n, xs = [x] ∧ LenV K x H n ∧ Q (.int n) H
theorem crLen (hK : Ckk X = K) : CallR X (.builtin "len") (rLenA K) := by subst hK; exact call_len
theorem vLen : VN K (rLenA K) dLen := fun G H vs xs z e rs q Q k => by
  unfold dLen at q
  split at q
  · cases rs with
    | cons r t =>
      cases t
      cases q
      obtain ⟨a, ws, rfl, h1, h2⟩ := r.tup e
      exact ⟨_, _, rfl, .inr ⟨ws, h1, by rw [h2.length]⟩, k _ H G (.refl e) (.int _)⟩
  · cases rs with
    | cons r t =>
      cases t
      cases q
      obtain ⟨a, ws, rfl, h1, h2⟩ := r.lst e
      exact ⟨_, _, rfl, .inl ⟨ws, .inl (.inl h1), by rw [h2.length]⟩, k _ H G (.refl e) (.int _)⟩
  · cases rs with
    | cons r t =>
      cases t
      cases q
      obtain ⟨a, ws, rfl, h1, h2⟩ := r.scr e
      exact ⟨_, _, rfl, .inl ⟨ws, h1, by rw [h2.length]⟩, k _ H G (.refl e) (.int _)⟩
  · cases rs with
    | cons r t =>
      cases t
      split at q
      · rename_i hl
        cases q
        rw [r.str]
        exact ⟨_, _, rfl, ⟨sz hl, rfl⟩, k _ H G (.refl e) (.int _)⟩
      · cases q
  · cases q
end
end DL

set_option Elab.async false
set_option linter.all false
set_option maxRecDepth 100000
set_option maxHeartbeats 4000000
/-! DL, part 6: calls of built-ins, slices, repr, what is walked. -/
namespace DL
open PySem PySem.Spec PyProof.Rows L2

section
variable {X : Cx} {K : KK} {pins : List (Addr × Obj)} {σ : L2.St} {H G : Hp} {s : Shared}
/-! ### isinstance -/
inductive Tg where | none | bool | int | str | list | tuple | dict
def Tg.name : Tg → String
  | .none => "NoneType" | .int => "int" | .bool => "bool" | .str => "str" | .list => "list" | .tuple => "tuple" | .dict => "dict"
def isScr : List (PyData × PyData) → Bool
  | [(.none, _)] => true
  | _ => false
def tgD : PyData → Option Tg
  | .none => some .none | .bool _ => some .bool | .int _ => some .int | .str _ => some .str | .list _ => some .list | .tuple _ => some .tuple
  | .dict kvs => if kvs.isEmpty = true then some .dict else none
/-- what stands at such a tag is a T -/
def tgIs : Tg → Tg → Bool
  | .int, .int => true | .int, .bool => true | .bool, .bool => true | .str, .str => true | .list, .list => true | .tuple, .tuple => true | .dict, .dict => true | .none, .none => true
  | _, _ => false
def isTy (T : Tg) (x : PyData) : Option Bool := (tgD x).map (tgIs T)
theorem rp_ty {v : V} {x : PyData} {t : Tg} (h : Rp K H v x) (e : tgD x = some t) : TyX K H v (.type t.name) := by
  cases h with
  | non => cases e; exact .base .non
  | bl b => cases e; exact .base (.bl b)
  | int b => cases e; exact .base (.int b)
  | str b => cases e; exact .base (.str b)
  | lst h r => cases e; exact .base (.lst h)
  | tup h r =>
    cases e
    rcases h with (h | ⟨o, h⟩) | ⟨o, its, n, h1, h2, _⟩
    · exact .base (.tup h)
    · exact .fTuple h
    · exact .kTuple h1 h2
  | @dic a kvs ds h r =>
    have e : (if ds.isEmpty = true then some Tg.dict else none) = some t := e
    split at e
    case isFalse => cases e
    cases e
    rcases h with h | ⟨o, h⟩
    · exact .base (.dK h)
    · exact .fDict h
  | @dicT a kvs ds h r n =>
    have e : (if ds.isEmpty = true then some Tg.dict else none) = some t := e
    cases ds with
    | nil => exact absurd rfl n
    | cons p q => cases e
  | scr h r => cases e
theorem kitT (T t : Tg) (hT : T ≠ .none) : kitB t.name T.name = some (tgIs T t) := by
  cases T <;> first | exact absurd rfl hT | (cases t <;> decide +kernel)
def tIsi (K : KK) (te : TE) (T : Tg) : TE := tCB (rIsi K) (tCons te (tCons (tC (.ty T.name)) tNil))
def sIsi (T : Tg) (fe : ES) : ES := fun S => (fe S).bind fun p => (p.1.get p.2).bind fun x => (isTy T x).map fun b => (.dat (.bool b), p.2)
theorem sem_isi {te : TE} {fe : ES} {T : Tg} (hT : T ≠ .none) (h1 : SemE K te fe) : SemE K (tIsi K te T) (sIsi T fe) := by
  intro F S σ H G o S' r ef Q k
  obtain ⟨⟨o1, S1⟩, e1, ef⟩ := Option.bind_eq_some_iff.mp ef
  obtain ⟨x, e3, ef⟩ := Option.bind_eq_some_iff.mp ef
  obtain ⟨b, e5, ef⟩ := Option.map_eq_some_iff.mp ef
  cases ef
  obtain ⟨t, e6, rfl⟩ := Option.map_eq_some_iff.mp e5
  refine h1 F S σ H G o1 _ r e1 _ fun v H1 G1 r1 g1 h2 => ?_
  exact ⟨v, .ty T.name, _, _, tgIs T t, rfl, .ty _, rp_ty ((op_get r1 h2 e3).rp r1.gh) e6, kit_ty (kitT T t hT), k _ H1 G1 r1 g1 (.bl _)⟩
theorem se_isi {tn : Str} {T : Tg} {p p2 pos : Pos} {e : Expr} {te : TE} {fe : ES} (hK : Ckk X = K) (hT : T ≠ .none) (hm : X.mg "isinstance" = none) (hmT : X.mg tn = none) (hbT : bootBuiltins tn = some (.type T.name)) (he : SE X K e te fe) (hg : Gl X "isinstance" := by rfl) (hgT : Gl X tn := by rfl) (hnT : tn ≠ "__name__" := by decide) (hdT : (tn == ("__debug__" : Str)) = false := by decide)
    (hs1 : starEach [e, .Name tn p2] X.env = (false, eval e X.env) :: starEach [.Name tn p2] X.env := by rfl) (hs2 : starEach [.Name tn p2] X.env = (false, eval (.Name tn p2) X.env) :: starEach [] X.env := by rfl) (hpl : (backTo pos (starEach [.Name tn p2] X.env)).any (·.1) = false := by rfl) :
    SE X K (.Call (.Name "isinstance" p) [e, .Name tn p2] [] pos) (tIsi K te T) (sIsi T fe) := by
  subst hK
  exact ⟨pe_callB call_isi hg hm (by decide +kernel) (pa_cons he.p (pa_cons (pe_bltn hgT hmT hbT (by exact rfl) hnT hdT) pa_nil hs2) hs1) (by decide) (by decide) hs1 hpl, sem_isi hT he.ok⟩
/-- isinstance(x, (T, U)) -/
def sIsi2 (T U : Tg) (fe : ES) : ES := fun S => (fe S).bind fun p => (p.1.get p.2).bind fun x => (isTy T x).bind fun b => (isTy U x).map fun c => (.dat (.bool (b || c)), p.2)
def tIsi2 (K : KK) (te : TE) (T U : Tg) : TE := tCB (rIsiT K) (tCons te (tCons (tTup (tCons (tC (.ty T.name)) (tCons (tC (.ty U.name)) tNil))) tNil))
theorem sem_isi2 {te : TE} {fe : ES} {T U : Tg} (hT : T ≠ .none) (hU : U ≠ .none) (h1 : SemE K te fe) : SemE K (tIsi2 K te T U) (sIsi2 T U fe) := by
  intro F S σ H G o S' r ef Q k
  obtain ⟨⟨o1, S1⟩, e1, ef⟩ := Option.bind_eq_some_iff.mp ef
  obtain ⟨x, e3, ef⟩ := Option.bind_eq_some_iff.mp ef
  obtain ⟨b, e5, ef⟩ := Option.bind_eq_some_iff.mp ef
  obtain ⟨c, e7, ef⟩ := Option.map_eq_some_iff.mp ef
  cases ef
  obtain ⟨t, e6, rfl⟩ := Option.map_eq_some_iff.mp e5
  obtain ⟨t', e8, rfl⟩ := Option.map_eq_some_iff.mp e7
  rw [e6] at e8; cases e8
  refine h1 F S σ H G o1 _ r e1 _ fun v H1 G1 r1 g1 h2 => ?_
  refine ⟨by show 2 ≤ sizeLine; decide, fun p hp => ?_⟩
  have px := PX.side (o := HO.tup [.ty T.name, .ty U.name]) r1.gh hp
  refine ⟨v, p, [.ty T.name, .ty U.name], _, [_, _], tgIs T t || tgIs U t, rfl, upd_same, .cons (.ty _) (.cons (.ty _) .nil), rp_ty (((op_get r1 h2 e3).rp r1.gh).mono px.hh) e6, ?_, k _ _ G1 (r1.ext px) g1 (.bl _)⟩
  refine kitAny_cons (kit_ty (kitT T t hT)) (fun q => kitAny_cons (kit_ty (kitT U t hU)) (fun q2 => by rw [q, q2]; exact kitAny_nil) (fun q2 => by rw [q2]; simp)) (fun q => by rw [q]; rfl)
theorem se_isi2 {tn un : Str} {T U : Tg} {p p2 p3 p4 pos : Pos} {k0} {e : Expr} {te : TE} {fe : ES} (hK : Ckk X = K) (hT : T ≠ .none) (hU : U ≠ .none) (hm : X.mg "isinstance" = none) (hmT : X.mg tn = none) (hbT : bootBuiltins tn = some (.type T.name)) (hmU : X.mg un = none) (hbU : bootBuiltins un = some (.type U.name)) (he : SE X K e te fe) (hg : Gl X "isinstance" := by rfl) (hgT : Gl X tn := by rfl) (hgU : Gl X un := by rfl) (hnT : tn ≠ "__name__" := by decide) (hdT : (tn == ("__debug__" : Str)) = false := by decide) (hnU : un ≠ "__name__" := by decide) (hdU : (un == ("__debug__" : Str)) = false := by decide)
    (hs1 : starEach [e, .Tuple [.Name tn p2, .Name un p3] k0 p4] X.env = (false, eval e X.env) :: starEach [.Tuple [.Name tn p2, .Name un p3] k0 p4] X.env := by rfl) (hs2 : starEach [.Tuple [.Name tn p2, .Name un p3] k0 p4] X.env = (false, eval (.Tuple [.Name tn p2, .Name un p3] k0 p4) X.env) :: starEach [] X.env := by rfl) (hs3 : starEach [.Name tn p2, .Name un p3] X.env = (false, eval (.Name tn p2) X.env) :: starEach [.Name un p3] X.env := by rfl) (hs4 : starEach [.Name un p3] X.env = (false, eval (.Name un p3) X.env) :: starEach [] X.env := by rfl) (hpl : (backTo pos (starEach [.Tuple [.Name tn p2, .Name un p3] k0 p4] X.env)).any (·.1) = false := by rfl) :
    SE X K (.Call (.Name "isinstance" p) [e, .Tuple [.Name tn p2, .Name un p3] k0 p4] [] pos) (tIsi2 K te T U) (sIsi2 T U fe) := by
  subst hK
  exact ⟨pe_callB call_isiT hg hm (by decide +kernel) (pa_cons he.p (pa_cons (pe_tup (pa_cons (pe_bltn hgT hmT hbT (by exact rfl) hnT hdT) (pa_cons (pe_bltn hgU hmU hbU (by exact rfl) hnU hdU) pa_nil hs4) hs3)) pa_nil hs2) hs1) (by decide) (by decide) hs1 hpl, sem_isi2 hT hU he.ok⟩

/-! ### tuple(x), list(x) -/
def dTuple : List PyData → Option PyData
  | [.list xs] => some (.tuple xs)
  | [.tuple xs] => some (.tuple xs)
  | _ => none
def rTuple (K : KK) : List V → Hp → VK → Prop := fun xs H Q => ∃ p ys, xs = [.ref p] ∧ ((SqL K H p ys ∧ ∀ l, H l = none → Q (.ref l) (upd H l (.tup ys))) ∨ (SqT K H p ys ∧ Q (.ref p) H))
theorem crTuple (hK : Ckk X = K) : CallR X (.type "tuple") (rTuple K) := by subst hK; exact call_tuple_of
theorem vTuple : VN K (rTuple K) dTuple := fun G H vs xs z e rs q Q k => by
  unfold dTuple at q
  split at q
  · cases rs with
    | cons r t =>
      cases t
      cases q
      obtain ⟨a, ws, rfl, h1, h2⟩ := r.lst e
      refine ⟨a, ws, rfl, .inl ⟨.inl (.inl h1), fun l hl => ?_⟩⟩
      have px := PX.laid (o := .tup ws) e hl
      exact k _ _ _ px (.tup (.inl (.inl upd_same)) (h2.mono px.gg))
  · cases rs with
    | cons r t =>
      cases t
      cases q
      obtain ⟨a, ws, rfl, h1, h2⟩ := r.tup e
      rcases r with r | ⟨_, _, _, z, _⟩
      · exact ⟨a, ws, rfl, .inr ⟨h1, k _ H G (.refl e) r⟩⟩
      · cases z
  · cases q
def dListL : List PyData → Option (List PyData)
  | [.list xs] => some xs
  | [.tuple xs] => some xs
  | _ => none
def rList (K : KK) : List V → Hp → VK → Prop := fun xs H Q => ∃ p ys, xs = [.ref p] ∧ (SqL K H p ys ∨ SqT K H p ys) ∧ ∀ l, H l = none → Q (.ref l) (upd H l (.lst ys))
theorem crList (hK : Ckk X = K) : CallR X (.type "list") (rList K) := by subst hK; exact call_list_of
theorem vListL : VL K (rList K) dListL := fun G H vs xs z e rs q Q k => by
  unfold dListL at q
  split at q
  · cases rs with
    | cons r t =>
      cases t
      cases q
      obtain ⟨a, ws, rfl, h1, h2⟩ := r.lst e
      exact ⟨a, ws, rfl, .inl (.inl (.inl h1)), fun l hl => k l ws _ G (PX.side e hl) hl (e.free hl) upd_same h2⟩
  · cases rs with
    | cons r t =>
      cases t
      cases q
      obtain ⟨a, ws, rfl, h1, h2⟩ := r.tup e
      exact ⟨a, ws, rfl, .inr h1, fun l hl => k l ws _ G (PX.side e hl) hl (e.free hl) upd_same h2⟩
  · cases q

/-! ### all, any, sum; max, min; abs, int, divmod -/
def dBools : List PyData → Option (List Bool)
  | [] => some []
  | .bool b :: r => (dBools r).map fun bs => b :: bs
  | _ => none
def dInts : List PyData → Option (List Int)
  | [] => some []
  | .int b :: r => (dInts r).map fun bs => b :: bs
  | _ => none
theorem dBools_some : ∀ {xs : List PyData} {bs : List Bool}, dBools xs = some bs → xs = bs.map .bool
  | [], _, h => by cases h; rfl
  | .bool b :: r, _, h => by
    obtain ⟨bs, h1, rfl⟩ := Option.map_eq_some_iff.mp h
    rw [dBools_some h1]; rfl
  | .none :: _, _, h => by cases h
  | .int _ :: _, _, h => by cases h
  | .str _ :: _, _, h => by cases h
  | .list _ :: _, _, h => by cases h
  | .tuple _ :: _, _, h => by cases h
  | .dict _ :: _, _, h => by cases h
theorem dInts_some : ∀ {xs : List PyData} {bs : List Int}, dInts xs = some bs → xs = bs.map .int
  | [], _, h => by cases h; rfl
  | .int b :: r, _, h => by
    obtain ⟨bs, h1, rfl⟩ := Option.map_eq_some_iff.mp h
    rw [dInts_some h1]; rfl
  | .none :: _, _, h => by cases h
  | .bool _ :: _, _, h => by cases h
  | .str _ :: _, _, h => by cases h
  | .list _ :: _, _, h => by cases h
  | .tuple _ :: _, _, h => by cases h
  | .dict _ :: _, _, h => by cases h
theorem dBools_map : ∀ bs : List Bool, dBools (bs.map .bool) = some bs
  | [] => rfl
  | b :: bs => by show (dBools (bs.map .bool)).map _ = _; rw [dBools_map bs]; rfl
theorem dInts_map : ∀ bs : List Int, dInts (bs.map .int) = some bs
  | [] => rfl
  | b :: bs => by show (dInts (bs.map .int)).map _ = _; rw [dInts_map bs]; rfl
def dAll : List PyData → Option PyData
  | [.list xs] => (dBools xs).map fun bs => .bool (bs.all id)
  | _ => none
def dAny : List PyData → Option PyData
  | [.list xs] => (dBools xs).map fun bs => .bool (bs.any id)
  | _ => none
def dSum : List PyData → Option PyData
  | [.list xs] => (dInts xs).map fun bs => .int bs.sum
  | _ => none
theorem crAll (hK : Ckk X = K) (hc : X.calm = true) : CallR X (.builtin "all") (rAll K) := by subst hK; exact cr_all hc
theorem crAny (hK : Ckk X = K) (hc : X.calm = true) : CallR X (.builtin "any") (rAny K) := by subst hK; exact cr_any hc
theorem crSum (hK : Ckk X = K) (hc : X.calm = true) : CallR X (.builtin "sum") (rSum K) := by subst hK; exact cr_sum hc
theorem vAll : VN K (rAll K) dAll := fun G H vs xs z e rs q Q k => by
  unfold dAll at q
  split at q
  · obtain ⟨bs, h1, rfl⟩ := Option.map_eq_some_iff.mp q
    cases rs with
    | cons r t =>
      cases t
      obtain ⟨a, ws, rfl, h2, h3⟩ := r.lst e
      have hx := dBools_some h1
      subst hx
      have hw := h3.bools
      subst hw
      exact ⟨a, bs, rfl, .inl (.inl h2), k _ H G (.refl e) (.bl _)⟩
  · cases q
theorem vAny : VN K (rAny K) dAny := fun G H vs xs z e rs q Q k => by
  unfold dAny at q
  split at q
  · obtain ⟨bs, h1, rfl⟩ := Option.map_eq_some_iff.mp q
    cases rs with
    | cons r t =>
      cases t
      obtain ⟨a, ws, rfl, h2, h3⟩ := r.lst e
      have hx := dBools_some h1
      subst hx
      have hw := h3.bools
      subst hw
      exact ⟨a, bs, rfl, .inl (.inl h2), k _ H G (.refl e) (.bl _)⟩
  · cases q
theorem vSum : VN K (rSum K) dSum := fun G H vs xs z e rs q Q k => by
  unfold dSum at q
  split at q
  · obtain ⟨bs, h1, rfl⟩ := Option.map_eq_some_iff.mp q
    cases rs with
    | cons r t =>
      cases t
      obtain ⟨a, ws, rfl, h2, h3⟩ := r.lst e
      have hx := dInts_some h1
      subst hx
      have hw := h3.ints
      subst hw
      exact ⟨a, bs, rfl, .inl (.inl h2), k _ H G (.refl e) (.int _)⟩
  · cases q
def maxI : Int → List Int → Int
  | m, [] => m
  | m, x :: r => maxI (if x > m then x else m) r
def minI : Int → List Int → Int
  | m, [] => m
  | m, x :: r => minI (if x < m then x else m) r
theorem maxI_ge : ∀ (l : List Int) (m : Int), m ≤ maxI m l ∧ ∀ x ∈ l, x ≤ maxI m l
  | [], m => ⟨Int.le_refl _, fun x h => by cases h⟩
  | y :: r, m => by
    obtain ⟨h1, h2⟩ := maxI_ge r (if y > m then y else m)
    have h3 : m ≤ (if y > m then y else m) ∧ y ≤ (if y > m then y else m) := by split <;> omega
    refine ⟨by show m ≤ maxI _ r; omega, fun x hx => ?_⟩
    show x ≤ maxI _ r
    rcases List.mem_cons.mp hx with rfl | hx
    · omega
    · exact h2 x hx
theorem maxI_mem : ∀ (l : List Int) (m : Int), maxI m l = m ∨ maxI m l ∈ l
  | [], m => .inl rfl
  | y :: r, m => by
    rcases maxI_mem r (if y > m then y else m) with h | h
    · show maxI _ r = m ∨ maxI _ r ∈ y :: r
      rw [h]
      split
      · exact .inr (by simp)
      · exact .inl rfl
    · exact .inr (List.mem_cons_of_mem _ h)
theorem minI_le : ∀ (l : List Int) (m : Int), minI m l ≤ m ∧ ∀ x ∈ l, minI m l ≤ x
  | [], m => ⟨Int.le_refl _, fun x h => by cases h⟩
  | y :: r, m => by
    obtain ⟨h1, h2⟩ := minI_le r (if y < m then y else m)
    have h3 : (if y < m then y else m) ≤ m ∧ (if y < m then y else m) ≤ y := by split <;> omega
    refine ⟨by show minI _ r ≤ m; omega, fun x hx => ?_⟩
    show minI _ r ≤ x
    rcases List.mem_cons.mp hx with rfl | hx
    · omega
    · exact h2 x hx
theorem minI_mem : ∀ (l : List Int) (m : Int), minI m l = m ∨ minI m l ∈ l
  | [], m => .inl rfl
  | y :: r, m => by
    rcases minI_mem r (if y < m then y else m) with h | h
    · show minI _ r = m ∨ minI _ r ∈ y :: r
      rw [h]
      split
      · exact .inr (by simp)
      · exact .inl rfl
    · exact .inr (List.mem_cons_of_mem _ h)
def dMax : List PyData → Option PyData
  | [.int i, .int j] => some (.int (if j > i then j else i))
  | [.list xs] => (dInts xs).bind fun ns => match ns with
    | [] => none
    | n :: r => some (.int (maxI n r))
  | _ => none
def dMin : List PyData → Option PyData
  | [.int i, .int j] => some (.int (if j < i then j else i))
  | [.list xs] => (dInts xs).bind fun ns => match ns with
    | [] => none
    | n :: r => some (.int (minI n r))
  | _ => none
theorem CallR.or {f : Value} {r r' : List V → Hp → VK → Prop} (h : CallR X f r) (h' : CallR X f r') : CallR X f (fun xs H Q => r xs H Q ∨ r' xs H Q) := fun pins s σ H xs us Q I rv q => q.elim (h pins s σ H xs us Q I rv) (h' pins s σ H xs us Q I rv)
def rMaxA (K : KK) : List V → Hp → VK → Prop := fun xs H Q => (∃ i j, xs = [.int i, .int j] ∧ Q (.int (if j > i then j else i)) H) ∨ rMax K xs H Q
def rMinA (K : KK) : List V → Hp → VK → Prop := fun xs H Q => (∃ i j, xs = [.int i, .int j] ∧ Q (.int (if j < i then j else i)) H) ∨ rMin K xs H Q
theorem crMax (hK : Ckk X = K) (hc : X.calm = true) : CallR X (.builtin "max") (rMaxA K) := by subst hK; exact CallR.or (call_max2 hc) (cr_max hc)
theorem crMin (hK : Ckk X = K) (hc : X.calm = true) : CallR X (.builtin "min") (rMinA K) := by subst hK; exact CallR.or (call_min2 hc) (cr_min hc)
theorem vMax : VN K (rMaxA K) dMax := fun G H vs xs z e rs q Q k => by
  unfold dMax at q
  split at q
  · cases rs with
    | cons r t => cases t with
      | cons r2 t => cases t; cases q; exact .inl ⟨_, _, by rw [r.int, r2.int], k _ H G (.refl e) (.int _)⟩
  · obtain ⟨ns, h1, h2⟩ := Option.bind_eq_some_iff.mp q
    cases ns with
    | nil => cases h2
    | cons n l =>
      cases h2
      cases rs with
      | cons r t =>
        cases t
        obtain ⟨a, ws, rfl, h2, h3⟩ := r.lst e
        have hx := dInts_some h1
        subst hx
        have hw := h3.ints
        subst hw
        refine .inr ⟨a, n :: l, rfl, .inl (.inl h2), by simp, fun m hm hge => ?_⟩
        obtain ⟨g1, g2⟩ := maxI_ge l n
        have e1 : m = maxI n l := by
          have h5 : maxI n l ≤ m := by
            rcases maxI_mem l n with z | z
            · rw [z]; exact hge n (by simp)
            · exact hge _ (List.mem_cons_of_mem _ z)
          have h6 : m ≤ maxI n l := by
            rcases List.mem_cons.mp hm with rfl | z
            · exact g1
            · exact g2 m z
          omega
        subst e1
        exact k _ H G (.refl e) (.int _)
  · cases q
theorem vMin : VN K (rMinA K) dMin := fun G H vs xs z e rs q Q k => by
  unfold dMin at q
  split at q
  · cases rs with
    | cons r t => cases t with
      | cons r2 t => cases t; cases q; exact .inl ⟨_, _, by rw [r.int, r2.int], k _ H G (.refl e) (.int _)⟩
  · obtain ⟨ns, h1, h2⟩ := Option.bind_eq_some_iff.mp q
    cases ns with
    | nil => cases h2
    | cons n l =>
      cases h2
      cases rs with
      | cons r t =>
        cases t
        obtain ⟨a, ws, rfl, h2, h3⟩ := r.lst e
        have hx := dInts_some h1
        subst hx
        have hw := h3.ints
        subst hw
        refine .inr ⟨a, n :: l, rfl, .inl (.inl h2), by simp, fun m hm hge => ?_⟩
        obtain ⟨g1, g2⟩ := minI_le l n
        have e1 : m = minI n l := by
          have h5 : m ≤ minI n l := by
            rcases minI_mem l n with z | z
            · rw [z]; exact hge n (by simp)
            · exact hge _ (List.mem_cons_of_mem _ z)
          have h6 : minI n l ≤ m := by
            rcases List.mem_cons.mp hm with rfl | z
            · exact g1
            · exact g2 m z
          omega
        subst e1
        exact k _ H G (.refl e) (.int _)
  · cases q
def dAbs : List PyData → Option PyData
  | [.int i] => some (.int (if i < 0 then -i else i))
  | _ => none
def rAbs : List V → Hp → VK → Prop := fun xs H Q => ∃ i, xs = [.int i] ∧ Q (.int (if i < 0 then -i else i)) H
theorem crAbs : CallR X (.builtin "abs") rAbs := call_abs
theorem vAbs : VN K rAbs dAbs := fun G H vs xs z e rs q Q k => by
  unfold dAbs at q
  split at q
  · cases rs with
    | cons r t => cases t; cases q; exact ⟨_, by rw [r.int], k _ H G (.refl e) (.int _)⟩
  · cases q
def dInt : List PyData → Option PyData
  | [.int i] => some (.int i)
  | [.bool b] => some (.int (if b then 1 else 0))
  | _ => none
def rInt : List V → Hp → VK → Prop := fun xs H Q => (∃ i, xs = [.int i] ∧ Q (.int i) H) ∨ ∃ k, xs = [.bl k] ∧ Q (.int (if k then 1 else 0)) H
theorem crInt : CallR X (.type "int") rInt := call_int1
theorem vInt : VN K rInt dInt := fun G H vs xs z e rs q Q k => by
  unfold dInt at q
  split at q
  · cases rs with
    | cons r t => cases t; cases q; exact .inl ⟨_, by rw [r.int], k _ H G (.refl e) (.int _)⟩
  · cases rs with
    | cons r t => cases t; cases q; exact .inr ⟨_, by rw [r.bl], k _ H G (.refl e) (.int _)⟩
  · cases q
noncomputable def dDivmod : List PyData → Option PyData
  | [.int i, .int j] => if CDiv i j then some (.tuple [.int (i / j), .int (i % j)]) else none
  | _ => none
def rDivmod : List V → Hp → VK → Prop := fun xs H Q => ∃ i j, xs = [.int i, .int j] ∧ CDiv i j ∧ ∀ p, H p = none → Q (.ref p) (upd H p (.tup [.int (i / j), .int (i % j)]))
theorem crDivmod : CallR X (.builtin "divmod") rDivmod := call_divmod
theorem vDivmod : VN K rDivmod dDivmod := fun G H vs xs z e rs q Q k => by
  unfold dDivmod at q
  split at q
  · split at q
    · rename_i hc
      cases rs with
      | cons r t => cases t with
        | cons r2 t =>
          cases t; cases q
          rename_i i j _ _
          refine ⟨_, _, by rw [r.int, r2.int], hc, fun p hp => ?_⟩
          have px := PX.laid (o := .tup [.int (i / j), .int (i % j)]) e hp
          exact k _ _ _ px (.tup (.inl (.inl upd_same)) (.cons (.int _) (.cons (.int _) .nil)))
    · cases q
  · cases q

/-! ### sorted of ints -/
def insI (x : Int) : List Int → List Int
  | [] => [x]
  | y :: r => if x ≤ y then x :: y :: r else y :: insI x r
def sortI : List Int → List Int
  | [] => []
  | x :: r => insI x (sortI r)
theorem insI_perm (x : Int) : ∀ l : List Int, (insI x l).Perm (x :: l)
  | [] => .refl _
  | y :: r => by
    unfold insI
    split
    · exact .refl _
    · exact ((insI_perm x r).cons y).trans (.swap x y r)
theorem sortI_perm : ∀ l : List Int, (sortI l).Perm l
  | [] => .refl _
  | x :: r => (insI_perm x (sortI r)).trans ((sortI_perm r).cons x)
theorem insI_sorted (x : Int) : ∀ l : List Int, l.Pairwise (· ≤ ·) → (insI x l).Pairwise (· ≤ ·)
  | [], _ => by simp [insI]
  | y :: r, h => by
    have h' := List.pairwise_cons.mp h
    unfold insI
    split
    · rename_i hxy
      refine List.pairwise_cons.mpr ⟨fun z hz => ?_, h⟩
      rcases List.mem_cons.mp hz with rfl | hz
      · exact hxy
      · exact Int.le_trans hxy (h'.1 z hz)
    · rename_i hxy
      refine List.pairwise_cons.mpr ⟨fun z hz => ?_, insI_sorted x r h'.2⟩
      have hz := (insI_perm x r).mem_iff.mp hz
      rcases List.mem_cons.mp hz with rfl | hz
      · omega
      · exact h'.1 z hz
theorem sortI_sorted : ∀ l : List Int, (sortI l).Pairwise (· ≤ ·)
  | [] => .nil
  | x :: r => insI_sorted x _ (sortI_sorted r)
theorem sorted_unique : ∀ {l m : List Int}, l.Perm m → l.Pairwise (· ≤ ·) → m.Pairwise (· ≤ ·) → l = m
  | [], m, p, _, _ => (List.nil_perm.mp p).symm
  | x :: l, [], p, _, _ => by have := p.length_eq; simp at this
  | x :: l, y :: m, p, h1, h2 => by
    have a := List.pairwise_cons.mp h1
    have b := List.pairwise_cons.mp h2
    have e : x = y := by
      have m1 : x ∈ y :: m := p.mem_iff.mp (by simp)
      have m2 : y ∈ x :: l := p.mem_iff.mpr (by simp)
      rcases List.mem_cons.mp m1 with q | q
      · exact q
      · rcases List.mem_cons.mp m2 with q' | q'
        · exact q'.symm
        · have := b.1 x q
          have := a.1 y q'
          omega
    subst e
    rw [sorted_unique (p.cons_inv) a.2 b.2]

end
end DL

set_option Elab.async false
set_option linter.all false
set_option maxRecDepth 100000
set_option maxHeartbeats 4000000
/-! DL, between parts 6 and 7: zip of two things, each a list or a tuple (t: a tuple). -/
namespace ZB
open PySem PySem.Spec PyProof.Rows L2
/-- an iterator of a list or a tuple -/
def It2 (t : Bool) (h : Heap) (it l : Addr) (k : Nat) : Prop := match t with
  | true => h.IsTupleIter it l k
  | false => h.IsListIter it l k
def Sq2 (t : Bool) (h : Heap) (l : Addr) (xs : Array Value) : Prop := match t with
  | true => h.IsTuple l xs
  | false => h.IsList l xs
theorem It2.ext {t : Bool} {h h' : Heap} {x it l : Addr} {k : Nat} (q : It2 t h it l k) (e : Heap.ExtBut x h h') (n : it ≠ x) : It2 t h' it l k := by
  cases t
  · exact Heap.IsListIter.extBut q e n
  · exact Heap.IsTupleIter.extBut q e n
theorem Sq2.ext {t : Bool} {h h' : Heap} {x l : Addr} {xs : Array Value} (q : Sq2 t h l xs) (e : Heap.ExtBut x h h') (n : l ≠ x) : Sq2 t h' l xs := by
  cases t
  · exact Heap.IsList.extBut q e n
  · exact Heap.IsTuple.extBut q e n
theorem It2.cpy {t : Bool} {h h' : Heap} {it l : Addr} {k : Nat} (q : It2 t h it l k) (e : ∀ o, h.get? it = some o → h'.get? it = some o) : It2 t h' it l k := by
  cases t
  · exact Heap.IsListIter.at q e
  · exact Heap.IsTupleIter.at q e
theorem It2.obj {t : Bool} {h : Heap} {it l : Addr} {k : Nat} (q : It2 t h it l k) : ∃ o, h.get? it = some o ∧ o.data = .fields #[.ref l, .int k 0] := by
  cases t
  · obtain ⟨o, a, b, c⟩ := q; exact ⟨o, a, c⟩
  · obtain ⟨o, a, b, c⟩ := q; exact ⟨o, a, c⟩
section
variable {prog : Program} {w : World} {A : Around} {E : Value → Shared → Prop} {s : Shared}
theorem nx_item {t : Bool} {it l : Addr} {i : Nat} {items : Array Value} {x : Value} {Q : Value → Shared → Prop} (q : It2 t s.heap it l i) (p : Sq2 t s.heap l items) (e : items[i]? = some x)
    (k : ∀ h', It2 t h' it l (i + 1) → Heap.SameBut it s.heap h' → Q x { s with heap := h' }) : wpAny (model prog w) A (Builtin.SmallTypes.nextOf (.ref it)) Q E s := by
  cases t
  · exact wpAny_nextOf_list_item q p e k
  · exact RZ.nextOf_tuple_item q p e k
theorem nx_end {t : Bool} {it l : Addr} {i : Nat} {items : Array Value} {Q : Value → Shared → Prop} (hh : A.handled = none) (q : It2 t s.heap it l i) (p : Sq2 t s.heap l items) (e : items[i]? = none)
    (k : ∀ h' e, Heap.ExtBut it s.heap h' → (∃ o, h'.get? e = some o ∧ o.cls = .type "StopIteration") → E (.ref e) { s with heap := h' }) : wpAny (model prog w) A (Builtin.SmallTypes.nextOf (.ref it)) Q E s := by
  cases t
  · exact wpAny_nextOf_list_end hh q p e k
  · exact RZ.nextOf_tuple_end hh q p e k
theorem zb_next {t u : Bool} {z TI TO i1 i2 l1 l2 : Addr} {k1 k2 : Nat} {xs ys : Array Value} {x y a b : Value} {Q : Value → Shared → Prop} (D : ZipApart z TI TO i1 i2 l1 l2)
    (q0 : IsZip s.heap z TI TO .none) (qI : IsPair s.heap TI (.ref i1) (.ref i2)) (qO : IsPair s.heap TO a b) (q1 : It2 t s.heap i1 l1 k1) (q2 : It2 u s.heap i2 l2 k2)
    (p1 : Sq2 t s.heap l1 xs) (p2 : Sq2 u s.heap l2 ys) (ex : xs[k1]? = some x) (ey : ys[k2]? = some y)
    (fin : ∀ h', IsZip h' z TI TO (rawInt s.heap.objs.size) → IsPair h' TO x y → It2 t h' i1 l1 (k1 + 1) → It2 u h' i2 l2 (k2 + 1) → IsPair h' s.heap.objs.size x y →
      h'.objs.size = s.heap.objs.size + 1 → (∀ c o, c ≠ z → c ≠ TO → c ≠ i1 → c ≠ i2 → s.heap.get? c = some o → h'.get? c = some o) → Q (.ref s.heap.objs.size) { s with heap := h' }) :
    wpAny (model prog w) A (Builtin.«zip.__next__» ⟨[.ref z], []⟩) (fun fin s' => ∃ v, fin = .done (.ret v) ∧ Q v s') E s := by
  show wpAny _ _ (field (.ref z) 2 >>= _) _ _ _; refine wpAny_bind (wpAny_field q0 rfl (x := .bool false) rfl ?_); show wpAny _ _ (field (.ref z) 3 >>= _) _ _ _
  refine wpAny_bind (wpAny_field q0 rfl (x := .ref TI) rfl ?_); refine wpAny_bind (wpAny_seqItems qI rfl ?_); show wpAny _ _ (Builtin.SmallTypes.ownedTupleIsFree (.ref z) >>= _) _ _ _
  refine wpAny_bind ?_; unfold Builtin.SmallTypes.ownedTupleIsFree; refine wpAny_bind (wpAny_field q0 rfl (x := .none) rfl (wpAny_pure ?_)); simp only [if_true]
  refine wpAny_bind (wpAny_rule ?_); refine wpAny_bind (wpAny_field q0 rfl (x := .ref TO) rfl ?_); refine wpAny_bind (wpAny_setField_rec q0 (by simp) fun g1 z1 c1 => ?_)
  replace z1 : IsZip g1 z TI TO .ellipsis := z1; refine wpAny_bind ?_; simp only [List.zipIdx_cons, List.zipIdx_nil, List.forIn_cons, List.forIn_nil]
  refine wpAny_bind (wpAny_bind (wpAny_onRaise ?_)); show wpAny _ _ (Builtin.SmallTypes.nextOf (.ref i1) >>= _) _ _ _
  refine wpAny_bind (nx_item (q1.ext c1.extBut D.i1z) (p1.ext c1.extBut D.l1z) ex fun g2 r1 c2 => wpAny_pure ?_)
  have qO2 : IsPair g2 TO a b := c2.extBut _ _ D.TOi1 (c1.extBut _ _ D.TOz qO)
  refine wpAny_bind (wpAny_seqItems qO2 rfl ?_); refine wpAny_bind (wpAny_updateSeq_pair qO2 fun g3 qO3 c3 => ?_); replace qO3 : IsPair g3 TO x b := qO3
  refine wpAny_bind (wpAny_letGo (wpAny_pure ?_)); refine wpAny_bind (wpAny_bind (wpAny_onRaise ?_)); show wpAny _ _ (Builtin.SmallTypes.nextOf (.ref i2) >>= _) _ _ _
  refine wpAny_bind (nx_item (((q2.ext c1.extBut D.i2z).ext c2.extBut D.i12.symm).ext c3.extBut D.TOi2.symm) (((p2.ext c1.extBut D.l2z).ext c2.extBut D.l2i1).ext c3.extBut D.l2TO) ey fun g4 r2 c4 => wpAny_pure ?_)
  have qO4 : IsPair g4 TO x b := c4.extBut _ _ D.TOi2 qO3
  refine wpAny_bind (wpAny_seqItems qO4 rfl ?_); refine wpAny_bind (wpAny_updateSeq_pair qO4 fun g5 qO5 c5 => ?_); replace qO5 : IsPair g5 TO x y := qO5
  refine wpAny_bind (wpAny_letGo (wpAny_pure (wpAny_pure ?_))); refine wpAny_bind (wpAny_seqItems qO5 rfl ?_); refine wpAny_bind (wpAny_newTuple ?_)
  have sz : g5.objs.size = s.heap.objs.size := by rw [c5.1, c4.1, c3.1, c2.1, c1.1]
  have z5 : IsZip g5 z TI TO .ellipsis := c5.extBut _ _ D.TOz.symm (c4.extBut _ _ D.i2z.symm (c3.extBut _ _ D.TOz.symm (c2.extBut _ _ D.i1z.symm z1)))
  have kp : ∀ c o, c ≠ z → c ≠ TO → c ≠ i1 → c ≠ i2 → s.heap.get? c = some o → g5.get? c = some o := fun c o n1 n2 n3 n4 e => c5.extBut _ _ n2 (c4.extBut _ _ n4 (c3.extBut _ _ n2 (c2.extBut _ _ n3 (c1.extBut _ _ n1 e))))
  have r1' : It2 t g5 i1 l1 (k1 + 1) := ((r1.ext c3.extBut D.TOi1.symm).ext c4.extBut D.i12).ext c5.extBut D.TOi1.symm
  have r2' : It2 u g5 i2 l2 (k2 + 1) := r2.ext c5.extBut D.TOi2.symm
  have zlt : z < g5.objs.size := Heap.lt_size z5
  show wpAny _ _ (Builtin.SmallTypes.ownedTupleHandOut (.ref z) (.ref g5.objs.size) >>= _) _ _ _; refine wpAny_bind ?_; unfold Builtin.SmallTypes.ownedTupleHandOut
  have z6 : IsZip (g5.push { cls := .type "tuple", data := .seq #[x, y] }) z TI TO .ellipsis := Heap.get?_push_of_some _ z5
  refine wpAny_bind (wpAny_setField_rec z6 (by simp) fun g7 z7 c7 => ?_); replace z7 : IsZip g7 z TI TO (rawInt g5.objs.size) := z7
  refine wpAny_setField_rec z7 (by simp) fun g8 z8 c8 => ?_; replace z8 : IsZip g8 z TI TO (rawInt g5.objs.size) := z8
  have up : ∀ c o, c ≠ z → g5.get? c = some o → g8.get? c = some o := fun c o n e => c8.extBut _ _ n (c7.extBut _ _ n (Heap.get?_push_of_some _ e))
  have T8 : IsPair g8 g5.objs.size x y := c8.extBut _ _ (Nat.ne_of_gt zlt) (c7.extBut _ _ (Nat.ne_of_gt zlt) (Heap.get?_push_size _ rfl))
  have s8 : g8.objs.size = g5.objs.size + 1 := by rw [c8.1, c7.1, Heap.size_push]
  rw [sz] at z8 T8 s8; refine wpAny_pure ⟨_, rfl, ?_⟩; show Q (.ref g5.objs.size) _; rw [sz]
  exact fin g8 z8 (up _ _ D.TOz qO5) (r1'.cpy fun o e => up _ o D.i1z e) (r2'.cpy fun o e => up _ o D.i2z e) T8 s8 fun c o n1 n2 n3 n4 e => up c o n1 (kp c o n1 n2 n3 n4 e)
theorem zb_stop {t u : Bool} {z TI TO i1 i2 l1 l2 : Addr} {k1 k2 : Nat} {xs ys : Array Value} {a b : Value} {Q : Fin → Shared → Prop} (hh : A.handled = none) (D : ZipApart z TI TO i1 i2 l1 l2)
    (q0 : IsZip s.heap z TI TO .none) (qI : IsPair s.heap TI (.ref i1) (.ref i2)) (qO : IsPair s.heap TO a b) (q1 : It2 t s.heap i1 l1 k1) (q2 : It2 u s.heap i2 l2 k2)
    (p1 : Sq2 t s.heap l1 xs) (p2 : Sq2 u s.heap l2 ys) (out : xs[k1]? = none ∨ ys[k2]? = none)
    (fin : ∀ h' e, (∀ c o, c ≠ z → c ≠ TO → c ≠ i1 → c ≠ i2 → s.heap.get? c = some o → h'.get? c = some o) → (∃ o, h'.get? e = some o ∧ o.cls = .type "StopIteration") → E (.ref e) { s with heap := h' }) :
    wpAny (model prog w) A (Builtin.«zip.__next__» ⟨[.ref z], []⟩) Q E s := by
  show wpAny _ _ (field (.ref z) 2 >>= _) _ _ _; refine wpAny_bind (wpAny_field q0 rfl (x := .bool false) rfl ?_); show wpAny _ _ (field (.ref z) 3 >>= _) _ _ _
  refine wpAny_bind (wpAny_field q0 rfl (x := .ref TI) rfl ?_); refine wpAny_bind (wpAny_seqItems qI rfl ?_); show wpAny _ _ (Builtin.SmallTypes.ownedTupleIsFree (.ref z) >>= _) _ _ _
  refine wpAny_bind ?_; unfold Builtin.SmallTypes.ownedTupleIsFree; refine wpAny_bind (wpAny_field q0 rfl (x := .none) rfl (wpAny_pure ?_)); simp only [if_true]
  refine wpAny_bind (wpAny_rule ?_); refine wpAny_bind (wpAny_field q0 rfl (x := .ref TO) rfl ?_); refine wpAny_bind (wpAny_setField_rec q0 (by simp) fun g1 z1 c1 => ?_)
  replace z1 : IsZip g1 z TI TO .ellipsis := z1; refine wpAny_bind ?_; simp only [List.zipIdx_cons, List.zipIdx_nil, List.forIn_cons, List.forIn_nil]
  refine wpAny_bind (wpAny_bind (wpAny_onRaise ?_)); show wpAny _ _ (Builtin.SmallTypes.nextOf (.ref i1) >>= _) _ _ _
  have last : ∀ (g g' : Heap) (e : Addr), IsZip g z TI TO .ellipsis → (∃ o, g.get? e = some o ∧ o.cls = .type "StopIteration") → Heap.SameBut z g g' → e ≠ z ∧ ∃ o, g'.get? e = some o ∧ o.cls = .type "StopIteration" := fun g g' e zz ⟨o, ho, hc⟩ c => by
    have n : e ≠ z := fun q => by subst q; rw [zz] at ho; cases ho; simp at hc
    exact ⟨n, o, c.extBut _ _ n ho, hc⟩
  cases ex : xs[k1]? with
  | none =>
    refine wpAny_bind (nx_end hh (q1.ext c1.extBut D.i1z) (p1.ext c1.extBut D.l1z) ex fun g2 e c2 he => ?_)
    have z2 : IsZip g2 z TI TO .ellipsis := c2 _ _ D.i1z.symm z1
    exact wpAny_setField_rec z2 (by simp) fun g3 _ c3 => fin g3 e (fun c o n1 _ n3 _ v => c3.extBut _ _ n1 (c2 _ _ n3 (c1.extBut _ _ n1 v))) (last _ _ _ z2 he c3).2
  | some x =>
    have ey : ys[k2]? = none := by
      rcases out with h | h
      · rw [ex] at h; cases h
      · exact h
    refine wpAny_bind (nx_item (q1.ext c1.extBut D.i1z) (p1.ext c1.extBut D.l1z) ex fun g2 r1 c2 => wpAny_pure ?_)
    have qO2 : IsPair g2 TO a b := c2.extBut _ _ D.TOi1 (c1.extBut _ _ D.TOz qO)
    refine wpAny_bind (wpAny_seqItems qO2 rfl ?_); refine wpAny_bind (wpAny_updateSeq_pair qO2 fun g3 qO3 c3 => ?_)
    refine wpAny_bind (wpAny_letGo (wpAny_pure ?_)); refine wpAny_bind (wpAny_bind (wpAny_onRaise ?_)); show wpAny _ _ (Builtin.SmallTypes.nextOf (.ref i2) >>= _) _ _ _
    refine wpAny_bind (nx_end hh (((q2.ext c1.extBut D.i2z).ext c2.extBut D.i12.symm).ext c3.extBut D.TOi2.symm) (((p2.ext c1.extBut D.l2z).ext c2.extBut D.l2i1).ext c3.extBut D.l2TO) ey fun g4 e c4 he => ?_)
    have z4 : IsZip g4 z TI TO .ellipsis := c4 _ _ D.i2z.symm (c3.extBut _ _ D.TOz.symm (c2.extBut _ _ D.i1z.symm z1))
    exact wpAny_setField_rec z4 (by simp) fun g5 _ c5 => fin g5 e (fun c o n1 n2 n3 n4 v => c5.extBut _ _ n1 (c4 _ _ n4 (c3.extBut _ _ n2 (c2.extBut _ _ n3 (c1.extBut _ _ n1 v))))) (last _ _ _ z4 he c5).2
theorem py_next {t u : Bool} {z TI TO i1 i2 l1 l2 : Addr} {k1 k2 : Nat} {xs ys : Array Value} {x y a b : Value} {Q : Option Value → Shared → Prop} (D : ZipApart z TI TO i1 i2 l1 l2)
    (q0 : IsZip s.heap z TI TO .none) (qI : IsPair s.heap TI (.ref i1) (.ref i2)) (qO : IsPair s.heap TO a b) (q1 : It2 t s.heap i1 l1 k1) (q2 : It2 u s.heap i2 l2 k2)
    (p1 : Sq2 t s.heap l1 xs) (p2 : Sq2 u s.heap l2 ys) (ex : xs[k1]? = some x) (ey : ys[k2]? = some y)
    (fin : ∀ h', IsZip h' z TI TO (rawInt s.heap.objs.size) → IsPair h' TO x y → It2 t h' i1 l1 (k1 + 1) → It2 u h' i2 l2 (k2 + 1) → IsPair h' s.heap.objs.size x y →
      h'.objs.size = s.heap.objs.size + 1 → (∀ c o, c ≠ z → c ≠ TO → c ≠ i1 → c ≠ i2 → s.heap.get? c = some o → h'.get? c = some o) → Q (some (.ref s.heap.objs.size)) { s with heap := h' }) :
    wpAny (model prog w) A (pyNext (.ref z)) Q E s := by
  have ty : s.TypeIs (.ref z) "zip" := ⟨_, q0, rfl⟩
  unfold pyNext
  exact wpAny_bind (wpAny_attempt (wpAny_callSpecial?_slot (name := Str.ofString "__next__") ty F.slot_zip_next (wpAny_call_entry F.slot_zip_next ty F.entry_zip_next
      (zb_next D q0 qI qO q1 q2 p1 p2 ex ey fun h' a1 a2 a3 a4 a5 a6 a7 => wpAny_pure (fin h' a1 a2 a3 a4 a5 a6 a7)) (F.args_zip_next_1 _))))
theorem py_stop {t u : Bool} {z TI TO i1 i2 l1 l2 : Addr} {k1 k2 : Nat} {xs ys : Array Value} {a b : Value} {Q : Option Value → Shared → Prop} (hh : A.handled = none) (D : ZipApart z TI TO i1 i2 l1 l2)
    (q0 : IsZip s.heap z TI TO .none) (qI : IsPair s.heap TI (.ref i1) (.ref i2)) (qO : IsPair s.heap TO a b) (q1 : It2 t s.heap i1 l1 k1) (q2 : It2 u s.heap i2 l2 k2)
    (p1 : Sq2 t s.heap l1 xs) (p2 : Sq2 u s.heap l2 ys) (out : xs[k1]? = none ∨ ys[k2]? = none)
    (fin : ∀ h', (∀ c o, c ≠ z → c ≠ TO → c ≠ i1 → c ≠ i2 → s.heap.get? c = some o → h'.get? c = some o) → Q none { s with heap := h' }) : wpAny (model prog w) A (pyNext (.ref z)) Q E s := by
  have ty : s.TypeIs (.ref z) "zip" := ⟨_, q0, rfl⟩
  unfold pyNext
  refine wpAny_bind (wpAny_attempt (wpAny_callSpecial?_slot (name := Str.ofString "__next__") ty F.slot_zip_next (wpAny_call_entry F.slot_zip_next ty F.entry_zip_next
      (zb_stop hh D q0 qI qO q1 q2 p1 p2 out fun h' e hk ⟨o, ho, hc⟩ => ?_) (F.args_zip_next_1 _))))
  exact wpAny_bind (wpAny_isInstance (T := "StopIteration") (b := true) ⟨o, ho, hc⟩ isSubtype_stop (wpAny_pure (fin _ hk)))
end
end ZB

set_option Elab.async false
set_option linter.all false
set_option maxRecDepth 100000
set_option maxHeartbeats 4000000
/-! DL, behind DLZ: the making of a zip of mixed kinds; its turns; the rule for a loop. (printed by genz.py) -/
namespace ZB
open PySem PySem.Spec PyProof.Rows L2


abbrev h1LT (h : Heap) (l1 : Addr) : Heap := h.push { cls := .type "list_iterator", data := .fields #[.ref l1, .int 0 0] }
abbrev h2LT (h : Heap) (l1 l2 : Addr) : Heap := (h1LT h l1).push { cls := .type "tuple_iterator", data := .fields #[.ref l2, .int 0 0] }
abbrev h3LT (h : Heap) (l1 l2 : Addr) : Heap := (h2LT h l1 l2).push { cls := .type "tuple", data := .seq #[.ref h.objs.size, .ref (h1LT h l1).objs.size] }
abbrev h4LT (h : Heap) (l1 l2 : Addr) : Heap := (h3LT h l1 l2).push { cls := .type "tuple", data := .seq #[.none, .none] }
abbrev h5LT (h : Heap) (l1 l2 : Addr) : Heap := (h4LT h l1 l2).push { cls := .type "zip", data := .fields #[.none, .bool false, .bool false, .ref (h2LT h l1 l2).objs.size, .ref (h3LT h l1 l2).objs.size] }
theorem meetsLT (l1 l2 : Addr) (xs ys : Array Value) :
    Meets (Builtin.«zip.__new__» ⟨[.type "zip", .ref l1, .ref l2], []⟩) (fun _ R s => s.heap.IsList l1 xs ∧ s.heap.IsTuple l2 ys ∧
      R (.ok (.ret (.ref (h4LT s.heap l1 l2).objs.size))) { s with heap := h5LT s.heap l1 l2 }) :=
  .of_wp fun prog w A R s h => by
    obtain ⟨hp, g, d, tk, os⟩ := s; obtain ⟨hl1, hl2, h⟩ := h
    have hsub := sub_zip
    have hL1 : Heap.IsList (Shared.heap ⟨hp, g, d, tk, os⟩) l1 xs := hl1
    have hL2 : Heap.IsTuple (Shared.heap ⟨hp.push { cls := .type "list_iterator", data := .fields #[.ref l1, .int 0 0] }, g, d, tk, os⟩) l2 ys := Heap.IsTuple.push hl2 _
    wp_walk using wpAny_pyIter_list hL1, wpAny_pyIter_tuple hL2
    exact ⟨_, rfl, h⟩
theorem callLT {prog : Program} {w : World} {A : Around} {E : Value → Shared → Prop} {s : Shared} {l1 l2 : Addr} {xs ys : Array Value} {Q : Value → Shared → Prop} (hl1 : s.heap.IsList l1 xs) (hl2 : s.heap.IsTuple l2 ys)
    (h : ∀ h', IsZip h' (s.heap.objs.size + 4) (s.heap.objs.size + 2) (s.heap.objs.size + 3) .none → IsPair h' (s.heap.objs.size + 2) (.ref s.heap.objs.size) (.ref (s.heap.objs.size + 1)) →
      IsPair h' (s.heap.objs.size + 3) .none .none → h'.IsListIter s.heap.objs.size l1 0 → h'.IsTupleIter (s.heap.objs.size + 1) l2 0 → h'.objs.size = s.heap.objs.size + 5 →
      (∀ c o, s.heap.get? c = some o → h'.get? c = some o) → Q (.ref (s.heap.objs.size + 4)) { s with heap := h' }) :
    wpAny (model prog w) A (call (.type "zip") [.ref l1, .ref l2]) Q E s := by
  refine callType_new F.called_zip (by decide) (F.typeCall_zip_2 _ _) (F.newCall_zip_2 _ _) (fun obj => F.args_object_init_3 obj _ _) F.entry_zip_new
    (meetsLT l1 l2 xs ys) ⟨hl1, hl2, ?_⟩
  have z1 : (h1LT s.heap l1).objs.size = s.heap.objs.size + 1 := Heap.size_push ..
  have z2 : (h2LT s.heap l1 l2).objs.size = s.heap.objs.size + 2 := by rw [Heap.size_push, z1]
  have z3 : (h3LT s.heap l1 l2).objs.size = s.heap.objs.size + 3 := by rw [Heap.size_push, z2]
  have z4 : (h4LT s.heap l1 l2).objs.size = s.heap.objs.size + 4 := by rw [Heap.size_push, z3]
  have z5 : (h5LT s.heap l1 l2).objs.size = s.heap.objs.size + 5 := by rw [Heap.size_push, z4]
  have g5 : (h5LT s.heap l1 l2).get? (h4LT s.heap l1 l2).objs.size = some _ := Heap.get?_push_size _ rfl
  have g4 : (h5LT s.heap l1 l2).get? (h3LT s.heap l1 l2).objs.size = some _ := Heap.get?_push_of_some _ (Heap.get?_push_size _ rfl)
  have g3 : (h5LT s.heap l1 l2).get? (h2LT s.heap l1 l2).objs.size = some _ := Heap.get?_push_of_some _ (Heap.get?_push_of_some _ (Heap.get?_push_size _ rfl))
  have g2 : (h5LT s.heap l1 l2).get? (h1LT s.heap l1).objs.size = some _ := Heap.get?_push_of_some _ (Heap.get?_push_of_some _ (Heap.get?_push_of_some _ (Heap.get?_push_size _ rfl)))
  have g1 : (h5LT s.heap l1 l2).get? s.heap.objs.size = some _ := Heap.get?_push_of_some _ (Heap.get?_push_of_some _ (Heap.get?_push_of_some _ (Heap.get?_push_of_some _ (Heap.get?_push_size _ rfl))))
  show _ ∧ _
  rw [z2, z3, z4] at g5
  rw [z1, z2] at g3
  rw [z3] at g4
  rw [z1] at g2
  rw [z4]
  exact ⟨⟨_, g5, rfl⟩, h _ g5 g3 g4 ⟨_, g1, rfl, rfl⟩ ⟨_, g2, rfl, rfl⟩ z5 fun c o x =>
    Heap.get?_push_of_some _ (Heap.get?_push_of_some _ (Heap.get?_push_of_some _ (Heap.get?_push_of_some _ (Heap.get?_push_of_some _ x))))⟩


abbrev h1TL (h : Heap) (l1 : Addr) : Heap := h.push { cls := .type "tuple_iterator", data := .fields #[.ref l1, .int 0 0] }
abbrev h2TL (h : Heap) (l1 l2 : Addr) : Heap := (h1TL h l1).push { cls := .type "list_iterator", data := .fields #[.ref l2, .int 0 0] }
abbrev h3TL (h : Heap) (l1 l2 : Addr) : Heap := (h2TL h l1 l2).push { cls := .type "tuple", data := .seq #[.ref h.objs.size, .ref (h1TL h l1).objs.size] }
abbrev h4TL (h : Heap) (l1 l2 : Addr) : Heap := (h3TL h l1 l2).push { cls := .type "tuple", data := .seq #[.none, .none] }
abbrev h5TL (h : Heap) (l1 l2 : Addr) : Heap := (h4TL h l1 l2).push { cls := .type "zip", data := .fields #[.none, .bool false, .bool false, .ref (h2TL h l1 l2).objs.size, .ref (h3TL h l1 l2).objs.size] }
theorem meetsTL (l1 l2 : Addr) (xs ys : Array Value) :
    Meets (Builtin.«zip.__new__» ⟨[.type "zip", .ref l1, .ref l2], []⟩) (fun _ R s => s.heap.IsTuple l1 xs ∧ s.heap.IsList l2 ys ∧
      R (.ok (.ret (.ref (h4TL s.heap l1 l2).objs.size))) { s with heap := h5TL s.heap l1 l2 }) :=
  .of_wp fun prog w A R s h => by
    obtain ⟨hp, g, d, tk, os⟩ := s; obtain ⟨hl1, hl2, h⟩ := h
    have hsub := sub_zip
    have hL1 : Heap.IsTuple (Shared.heap ⟨hp, g, d, tk, os⟩) l1 xs := hl1
    have hL2 : Heap.IsList (Shared.heap ⟨hp.push { cls := .type "tuple_iterator", data := .fields #[.ref l1, .int 0 0] }, g, d, tk, os⟩) l2 ys := Heap.IsList.push hl2 _
    wp_walk using wpAny_pyIter_tuple hL1, wpAny_pyIter_list hL2
    exact ⟨_, rfl, h⟩
theorem callTL {prog : Program} {w : World} {A : Around} {E : Value → Shared → Prop} {s : Shared} {l1 l2 : Addr} {xs ys : Array Value} {Q : Value → Shared → Prop} (hl1 : s.heap.IsTuple l1 xs) (hl2 : s.heap.IsList l2 ys)
    (h : ∀ h', IsZip h' (s.heap.objs.size + 4) (s.heap.objs.size + 2) (s.heap.objs.size + 3) .none → IsPair h' (s.heap.objs.size + 2) (.ref s.heap.objs.size) (.ref (s.heap.objs.size + 1)) →
      IsPair h' (s.heap.objs.size + 3) .none .none → h'.IsTupleIter s.heap.objs.size l1 0 → h'.IsListIter (s.heap.objs.size + 1) l2 0 → h'.objs.size = s.heap.objs.size + 5 →
      (∀ c o, s.heap.get? c = some o → h'.get? c = some o) → Q (.ref (s.heap.objs.size + 4)) { s with heap := h' }) :
    wpAny (model prog w) A (call (.type "zip") [.ref l1, .ref l2]) Q E s := by
  refine callType_new F.called_zip (by decide) (F.typeCall_zip_2 _ _) (F.newCall_zip_2 _ _) (fun obj => F.args_object_init_3 obj _ _) F.entry_zip_new
    (meetsTL l1 l2 xs ys) ⟨hl1, hl2, ?_⟩
  have z1 : (h1TL s.heap l1).objs.size = s.heap.objs.size + 1 := Heap.size_push ..
  have z2 : (h2TL s.heap l1 l2).objs.size = s.heap.objs.size + 2 := by rw [Heap.size_push, z1]
  have z3 : (h3TL s.heap l1 l2).objs.size = s.heap.objs.size + 3 := by rw [Heap.size_push, z2]
  have z4 : (h4TL s.heap l1 l2).objs.size = s.heap.objs.size + 4 := by rw [Heap.size_push, z3]
  have z5 : (h5TL s.heap l1 l2).objs.size = s.heap.objs.size + 5 := by rw [Heap.size_push, z4]
  have g5 : (h5TL s.heap l1 l2).get? (h4TL s.heap l1 l2).objs.size = some _ := Heap.get?_push_size _ rfl
  have g4 : (h5TL s.heap l1 l2).get? (h3TL s.heap l1 l2).objs.size = some _ := Heap.get?_push_of_some _ (Heap.get?_push_size _ rfl)
  have g3 : (h5TL s.heap l1 l2).get? (h2TL s.heap l1 l2).objs.size = some _ := Heap.get?_push_of_some _ (Heap.get?_push_of_some _ (Heap.get?_push_size _ rfl))
  have g2 : (h5TL s.heap l1 l2).get? (h1TL s.heap l1).objs.size = some _ := Heap.get?_push_of_some _ (Heap.get?_push_of_some _ (Heap.get?_push_of_some _ (Heap.get?_push_size _ rfl)))
  have g1 : (h5TL s.heap l1 l2).get? s.heap.objs.size = some _ := Heap.get?_push_of_some _ (Heap.get?_push_of_some _ (Heap.get?_push_of_some _ (Heap.get?_push_of_some _ (Heap.get?_push_size _ rfl))))
  show _ ∧ _
  rw [z2, z3, z4] at g5
  rw [z1, z2] at g3
  rw [z3] at g4
  rw [z1] at g2
  rw [z4]
  exact ⟨⟨_, g5, rfl⟩, h _ g5 g3 g4 ⟨_, g1, rfl, rfl⟩ ⟨_, g2, rfl, rfl⟩ z5 fun c o x =>
    Heap.get?_push_of_some _ (Heap.get?_push_of_some _ (Heap.get?_push_of_some _ (Heap.get?_push_of_some _ (Heap.get?_push_of_some _ x))))⟩


/-- a list (t: a tuple) of the abstract heap -/
def SqX (K : PySem.W.Frag) (H : Hp) (t : Bool) (a : Addr) (xs : List V) : Prop := match t with
  | true => SqT K H a xs
  | false => SqL K H a xs
theorem sqx {X : L2.Cx} {pins : List (Addr × Obj)} {σ : L2.St} {H : Hp} {s : Shared} {t : Bool} {a : Addr} {xs : List V} (I : L2.Inv X pins σ H s) (h : SqX X.K H t a xs) : ∃ its, L2.Vals xs its ∧ Sq2 t s.heap a its.toArray ∧ a < s.heap.objs.size := by
  cases t
  · obtain ⟨its, rv, p, _⟩ := I.list h
    exact ⟨its, rv, p.isList, p.lt⟩
  · obtain ⟨its, rv, p, _⟩ := I.tuple h
    obtain ⟨o, ho, _⟩ := id p
    exact ⟨its, rv, p, Heap.lt_size ho⟩
theorem sqx_inj {X : L2.Cx} {pins : List (Addr × Obj)} {σ : L2.St} {H : Hp} {s : Shared} {t : Bool} {a : Addr} {xs ys : List V} (I : L2.Inv X pins σ H s) (h : SqX X.K H t a xs) (h' : SqX X.K H t a ys) : xs = ys := by
  cases t
  · exact I.list_inj h h'
  · exact I.tuple_inj h h'
def ItzX (K : PySem.W.Frag) (t u : Bool) (a b : Addr) : It :=
  ⟨fun i H => ∃ (xs ys : List V) (x y : V), SqX K H t a xs ∧ SqX K H u b ys ∧ xs[i]? = some x ∧ ys[i]? = some y,
    fun i H v H' => ∃ T x y, v = .ref T ∧ H T = none ∧ H' = upd H T (.tup [x, y]) ∧ (∀ xs, SqX K H t a xs → xs[i]? = some x) ∧ ∀ ys, SqX K H u b ys → ys[i]? = some y,
    fun i H => ∃ xs ys : List V, SqX K H t a xs ∧ SqX K H u b ys ∧ (xs.length ≤ i ∨ ys.length ≤ i)⟩
theorem turn_zipX {P : Program} {w : World} {K : PySem.W.Frag} {t u : Bool} {elts : List Expr} {kk : Nat} {tpos : Pos} {a b z TI TO i1 i2 : Addr} (D : ZipApart z TI TO i1 i2 a b) :
    Turn P w K (.Tuple elts kk tpos) (ItzX K t u a b) [z, TI, TO, i1, i2] z (fun i h => IsZip h z TI TO .none ∧ IsPair h TI (.ref i1) (.ref i2) ∧ (∃ x y, IsPair h TO x y) ∧ It2 t h i1 a i ∧ It2 u h i2 b i) where
  mem := by simp
  obj := fun i h st c hc => by
    obtain ⟨hz, hTI, ⟨x, y, hTO⟩, q1, q2⟩ := st
    obtain ⟨o1, e1, d1⟩ := q1.obj
    obtain ⟨o2, e2, d2⟩ := q2.obj
    have e' : c = z ∨ c = TI ∨ c = TO ∨ c = i1 ∨ c = i2 := by simpa using hc
    rcases e' with q | q | q | q | q
    · rw [q]; exact ⟨_, hz, fun v q => nomatch q⟩
    · rw [q]; exact ⟨_, hTI, fun v q => nomatch q⟩
    · rw [q]; exact ⟨_, hTO, fun v q => nomatch q⟩
    · rw [q]; exact ⟨o1, e1, fun v q => by rw [d1] at q; cases q⟩
    · rw [q]; exact ⟨o2, e2, fun v q => by rw [d2] at q; cases q⟩
  keep := fun i h h' st k => by
    obtain ⟨hz, hTI, ⟨x, y, hTO⟩, h1, h2⟩ := st
    exact ⟨k z (by simp) _ hz, k TI (by simp) _ hTI, ⟨x, y, k TO (by simp) _ hTO⟩, h1.cpy fun o q => k i1 (by simp) o q, h2.cpy fun o q => k i2 (by simp) o q⟩
  item := by
    intro X hP hw hK hc i pins s σ H E I hf st hg
    subst hP hw hK
    obtain ⟨hz, hTI, ⟨x0, y0, hTO⟩, h1, h2⟩ := st
    obtain ⟨xs, ys, x, y, hqx, hqy, hx, hy⟩ := hg
    obtain ⟨its, rv, p, _⟩ := sqx I hqx
    obtain ⟨its2, rv2, p2, _⟩ := sqx I hqy
    obtain ⟨v, hu, ru⟩ := rv.get hx
    obtain ⟨v2, hu2, ru2⟩ := rv2.get hy
    have hzl : z < s.heap.objs.size := Heap.lt_size hz
    refine py_next D hz hTI hTO h1 h2 p p2 (x := v) (y := v2) (by simpa using hu) (by simpa using hu2) fun h' z' TO' h1' h2' hT hsz hk => ?_
    refine ⟨_, rfl, wpAny_letOwnedTupleGo_zip (s := { s with heap := h' }) z' fun h'' z'' sb => ?_⟩
    have hT2 : h''.get? s.heap.objs.size = some { cls := .type "tuple", data := .seq #[v, v2] } := (sb.2 _ (Nat.ne_of_gt hzl)).trans hT
    have new : ObjOk X.prog X.w (upd H s.heap.objs.size (.tup [x, y])) h'' s.heap.objs.size (.tup [x, y]) :=
      ⟨by show 2 ≤ sizeLine; decide, [v, v2], .cons ru (.cons ru2 .nil), ⟨_, hT2, rfl, _, rfl⟩⟩
    have I1 : Inv X pins σ (upd H s.heap.objs.size (.tup [x, y])) { s with heap := h'' } :=
      I.turnedNew (t' := s.toks) (ch := [z, TI, TO, i1, i2]) (fun c o hb q => (sb.2 c (fun q' => hb (by simp [q']))).trans (hk c o (fun q' => hb (by simp [q'])) (fun q' => hb (by simp [q'])) (fun q' => hb (by simp [q'])) (fun q' => hb (by simp [q'])) q)) hf (Nat.le_refl _) new
    refine ⟨.ref s.heap.objs.size, _, I1, rfl, ⟨_, x, y, rfl, I.hok.fresh (Nat.le_refl _), rfl, fun l hl => by rw [sqx_inj I hl hqx]; exact hx, fun l hl => by rw [sqx_inj I hl hqy]; exact hy⟩, ⟨z'', ?_, ⟨v, v2, ?_⟩, ?_, ?_⟩, fun c hcm => ?_⟩
    · exact (sb.2 _ D.TIz).trans (hk _ _ D.TIz D.TITO D.TIi1 D.TIi2 hTI)
    · exact (sb.2 _ D.TOz).trans TO'
    · exact h1'.cpy fun o q => (sb.2 _ D.i1z).trans q
    · exact h2'.cpy fun o q => (sb.2 _ D.i2z).trans q
    · have hlt : c < s.heap.objs.size := by
        have e' : c = z ∨ c = TI ∨ c = TO ∨ c = i1 ∨ c = i2 := by simpa using hcm
        rcases e' with q | q | q | q | q
        · rw [q]; exact hzl
        · rw [q]; exact Heap.lt_size hTI
        · rw [q]; exact Heap.lt_size hTO
        · rw [q]; obtain ⟨_, e1, _⟩ := h1.obj; exact Heap.lt_size e1
        · rw [q]; obtain ⟨_, e2, _⟩ := h2.obj; exact Heap.lt_size e2
      rw [upd_ne (Nat.ne_of_lt hlt)]
      exact (hf c hcm).1
  done := by
    intro X hP hw hK hc i pins s σ H E I hf st hg
    subst hP hw hK
    obtain ⟨hz, hTI, ⟨x0, y0, hTO⟩, h1, h2⟩ := st
    obtain ⟨xs, ys, hqx, hqy, hend⟩ := hg
    obtain ⟨its, rv, p, _⟩ := sqx I hqx
    obtain ⟨its2, rv2, p2, _⟩ := sqx I hqy
    have l1 := rv.length
    have l2 := rv2.length
    have he : its.toArray[i]? = none ∨ its2.toArray[i]? = none := by
      rcases hend with q | q
      · exact .inl (by simp; omega)
      · exact .inr (by simp; omega)
    exact py_stop (I.ok.hd hc) D hz hTI hTO h1 h2 p p2 he fun h' hk => ⟨rfl, I.turnedL (t' := s.toks) (ch := [z, TI, TO, i1, i2]) (fun c o hb q =>
      hk c o (fun q' => hb (by simp [q'])) (fun q' => hb (by simp [q'])) (fun q' => hb (by simp [q'])) (fun q' => hb (by simp [q'])) q) hf⟩
  self := fun A i s Q E st h => wpAny_pyIter_zip st.1 h
theorem callX {prog : Program} {w : World} {A : Around} {E : Value → Shared → Prop} {s : Shared} {t u : Bool} {l1 l2 : Addr} {xs ys : Array Value} {Q : Value → Shared → Prop} (hl1 : Sq2 t s.heap l1 xs) (hl2 : Sq2 u s.heap l2 ys)
    (h : ∀ h', IsZip h' (s.heap.objs.size + 4) (s.heap.objs.size + 2) (s.heap.objs.size + 3) .none → IsPair h' (s.heap.objs.size + 2) (.ref s.heap.objs.size) (.ref (s.heap.objs.size + 1)) →
      IsPair h' (s.heap.objs.size + 3) .none .none → It2 t h' s.heap.objs.size l1 0 → It2 u h' (s.heap.objs.size + 1) l2 0 → h'.objs.size = s.heap.objs.size + 5 →
      (∀ c o, s.heap.get? c = some o → h'.get? c = some o) → Q (.ref (s.heap.objs.size + 4)) { s with heap := h' }) :
    wpAny (model prog w) A (call (.type "zip") [.ref l1, .ref l2]) Q E s := by
  cases t
  · cases u
    · exact call_zip_2 hl1 hl2 h
    · exact callLT hl1 hl2 h
  · cases u
    · exact callTL hl1 hl2 h
    · exact RZ.call_zipT hl1 hl2 h
def iZipX (K : PySem.W.Frag) (ta : TA) : TI := fun σ H R => ta σ H fun vs H1 => ∃ a b t u xs ys, vs = [.ref a, .ref b] ∧ SqX K H1 t a xs ∧ SqX K H1 u b ys ∧ R (ItzX K t u a b) H1
theorem pi_zipX {X : Cx} {e e2 : Expr} {ta : TA} {p pos tpos : Pos} {elts : List Expr} {kk : Nat} (hg : Gl X "zip") (hm : X.mg "zip" = none) (ha : PA X [e, e2] ta)
    (hs : starEach [e, e2] X.env = (false, eval e X.env) :: starEach [e2] X.env := by rfl) (hpl : (backTo pos (starEach [e2] X.env)).any (·.1) = false := by rfl) :
    PI X (.Tuple elts kk tpos) (.Call (.Name "zip" p) [e, e2] [] pos) (iZipX X.K ta) := by
  refine ⟨fun pins s σ H R I h => ?_⟩
  refine Call_ (ld_blt I hg hm PyProof.Rows.boot_zip (PyProof.Rows.callWith_type1 (thn (ha.run pos pins s σ H _ I h) fun us s1 ⟨vs, H1, I1, r1, q1⟩ => ?_) hs hpl))
  obtain ⟨a, b, t, u, xs, ys, ex, hqx, hqy, q⟩ := q1
  subst ex
  cases r1 with
  | cons r rr =>
    cases rr with
    | cons r' rr =>
      cases rr
      cases r
      cases r'
      have fresh5 : ∀ c, c ∈ [s1.heap.objs.size + 4, s1.heap.objs.size + 2, s1.heap.objs.size + 3, s1.heap.objs.size, s1.heap.objs.size + 1] → FpOk X pins H1 c := fun c hcm => by
        have e' : c = s1.heap.objs.size + 4 ∨ c = s1.heap.objs.size + 2 ∨ c = s1.heap.objs.size + 3 ∨ c = s1.heap.objs.size ∨ c = s1.heap.objs.size + 1 := by simpa using hcm
        have hle : s1.heap.objs.size ≤ c := by
          rcases e' with z | z | z | z | z
          · rw [z]; exact Nat.le_add_right _ _
          · rw [z]; exact Nat.le_add_right _ _
          · rw [z]; exact Nat.le_add_right _ _
          · rw [z]; exact Nat.le_refl _
          · rw [z]; exact Nat.le_add_right _ _
        exact I1.fpOk hle (I1.hok.fresh hle)
      obtain ⟨its, rv, p1, lt1⟩ := sqx I1 hqx
      obtain ⟨its2, rv2, p2, lt2⟩ := sqx I1 hqy
      refine callX p1 p2 fun h' hz hTI hTO h1 h2 hsz hk => wpAny_pyIter_zip hz ?_
      have I2 : Inv X pins σ H1 { s1 with heap := h' } := I1.kept (t' := s1.toks) hk
      exact ⟨s1.heap.objs.size + 4, [s1.heap.objs.size + 4, s1.heap.objs.size + 2, s1.heap.objs.size + 3, s1.heap.objs.size, s1.heap.objs.size + 1], _, _, H1, rfl, I2, turn_zipX (PySem.W.ktu_apart s1.heap.objs.size a b lt1 lt2), ⟨hz, hTI, ⟨_, _, hTO⟩, h1, h2⟩, fresh5, q⟩
end ZB

set_option Elab.async false
set_option linter.all false
set_option maxRecDepth 100000
set_option maxHeartbeats 4000000
/-! DL, behind DLZ2: sorted of a list or a tuple of ints, any number of them. -/
namespace ZB
open PySem PySem.Spec PyProof.Rows L2
section
variable {prog : Program} {w : World} {A : Around} {E : Value → Shared → Prop} {s : Shared}
theorem collect_x {t : Bool} {l : Addr} {vs : List Value} {Q : List Value → Shared → Prop} (hl : Sq2 t s.heap l vs.toArray)
    (h : Q vs { s with heap := (s.heap.push (seqObj "list" #[] 0)).update s.heap.objs.size (Obj.mapSeq (· ++ vs.toArray)) }) (hsz : vs.length ≤ sizeLine) :
    wpAny (model prog w) A (collect (.ref l)) Q E s := by
  cases t
  · exact collect_list hl h hsz
  · obtain ⟨o, ho, hc, n, hd⟩ := id (show s.heap.IsTuple l vs.toArray from hl)
    unfold collect
    refine wpAny_bind (wpAny_runValue (codeAny_builtin entry_proto_collect' ?_))
    show wpAny _ _ (do again (.builtin "list.__iadd__" ⟨[← newList [], .ref l], []⟩)) _ _ s
    refine wpAny_bind (wpAny_newList (wpAny_pure ⟨Code.quiet_builtin _ (by decide +kernel), codeAny_builtin entry_list_iadd' ?_⟩))
    show wpAny _ _ (Builtin.List.listExtendWith (.ref s.heap.objs.size) (.ref l) (.ref s.heap.objs.size)) _ _ { s with heap := s.heap.push (seqObj "list" #[] 0) }
    unfold Builtin.List.listExtendWith
    have ho' : (s.heap.push (seqObj "list" #[] 0)).get? l = some o := Heap.get?_push_of_some _ ho
    refine wpAny_bind (wpAny_typeOf (T := "tuple") ⟨o, ho', hc⟩ ?_)
    have ht : (Value.type "tuple" == Value.type "tuple") = true := by rfl
    rw [if_pos (by rw [ht]; simp)]
    refine wpAny_bind (listItems_at ho' hd ?_)
    refine wpAny_bind (listItems_at (xs := #[]) (n := 0) (Heap.get?_push_size _ rfl) rfl ?_)
    rw [if_neg (by simp)]
    refine wpAny_bind (listUpdate_at (xs := #[]) (n := 0) (Heap.get?_push_size _ rfl) rfl ?_ (Nat.zero_le _) (by show (#[] ++ vs.toArray).size ≤ sizeLine + 1; simp only [Array.size_append, List.size_toArray, List.length_nil]; omega))
    refine wpAny_pure ?_
    show wpAny (model prog w) A (do
        let o ← load s.heap.objs.size
        match o.data with
        | .seq xs _ => pure xs.toList
        | _ => unsupported "internal:collect") Q E { s with heap := (s.heap.push (seqObj "list" #[] 0)).update s.heap.objs.size (Obj.mapSeq (· ++ vs.toArray)) }
    refine wpAny_bind (wpAny_load (get?_update_seq (Heap.get?_push_size _ rfl) _) ?_)
    show wpAny _ _ (pure ((#[] : Array Value) ++ vs.toArray).toList) Q E _
    rw [show ((#[] : Array Value) ++ vs.toArray).toList = vs by simp]
    exact wpAny_pure h
open SrtO in
theorem sorted_x {t : Bool} {l : Addr} {vs : List Value} {ltv : Value → Value → Bool} {Q : Value → Shared → Prop} (O : Swo ltv) (hl : Sq2 t s.heap l vs.toArray) (hz : vs.length ≤ sizeLine)
    (hS : 2 ≤ vs.length → ∀ (h₁ : Heap) (a : Addr), h₁.get? a = some (seqObj "list" vs.toArray 0) → (∀ b o, s.heap.get? b = some o → b ≠ a ∧ h₁.get? b = some o) → SortableO prog w A.in1.in1 { s with heap := h₁ } a vs ltv)
    (h : ∀ out : List Value, Srtd ltv out → Stb ltv out vs → Q (.ref (s.heap.objs.size + 1)) { s with heap := sortedAll s.heap vs out.toArray }) :
    wpAny (model prog w) A (call (.builtin "sorted") [.ref l]) Q E s := by
  refine Calls.call_function_entry kind_sorted plain_sorted entry_sorted (args_sorted1 _) ?_
  unfold Builtin.«sorted»
  refine wpAny_bind (m := checkCount "sorted" 1 1 _) (wpAny_pure ?_)
  refine wpAny_bind (collect_x hl ?_ hz)
  refine wpAny_bind (wpAny_newList ?_ hz)
  have hsz : ((s.heap.push (seqObj "list" #[] 0)).update s.heap.objs.size (Obj.mapSeq (· ++ vs.toArray))).objs.size = s.heap.objs.size + 1 := by
    rw [Heap.size_update, size_push']
  have hoL : (((s.heap.push (seqObj "list" #[] 0)).update s.heap.objs.size (Obj.mapSeq (· ++ vs.toArray))).push (seqObj "list" vs.toArray 0)).get? (s.heap.objs.size + 1) = some (seqObj "list" vs.toArray 0) := by
    rw [← hsz]; exact Heap.get?_push_size _ rfl
  have keep : ∀ b o, s.heap.get? b = some o → b ≠ s.heap.objs.size + 1 ∧ (((s.heap.push (seqObj "list" #[] 0)).update s.heap.objs.size (Obj.mapSeq (· ++ vs.toArray))).push (seqObj "list" vs.toArray 0)).get? b = some o := fun b o q => by
    have hlt : b < s.heap.objs.size := Heap.lt_size q
    refine ⟨Nat.ne_of_lt (Nat.lt_succ_of_lt hlt), Heap.get?_push_of_some _ ?_⟩
    rw [Heap.get?_update_ne _ _ _ _ (Nat.ne_of_lt hlt)]
    exact Heap.get?_push_of_some _ q
  show wpAny _ _ _ _ _ { s with heap := ((s.heap.push (seqObj "list" #[] 0)).update s.heap.objs.size (Obj.mapSeq (· ++ vs.toArray))).push (seqObj "list" vs.toArray 0) }
  rw [hsz]
  refine wpAny_bind (wpAny_holding (wpAny_call_entry slot_list_sort ⟨_, hoL, rfl⟩ entry_list_sort (list_sort_ord O hoL hz (fun h2 => hS h2 _ _ hoL keep) fun out hs hb => ⟨_, rfl, ?_⟩) (args_list_sort _)))
  exact wpAny_pure ⟨_, rfl, h out hs hb⟩
end
/-- sorted(xs), ints, of a list or a tuple -/
def rSortX (K : PySem.W.Frag) : List V → Hp → VK → Prop := fun vs H Q => ∃ (a : Addr) (t : Bool) (ns : List Int), vs = [V.ref a] ∧ SqX K H t a (ns.map V.int) ∧
  ∀ (ns' : List Int) (p : Addr), ns'.Perm ns → ns'.Pairwise (· ≤ ·) → H p = none → Q (.ref p) (upd H p (.lst (ns'.map V.int)))
theorem cr_sortX {X : L2.Cx} : CallR X (.builtin "sorted") (rSortX X.K) := by
  intro pins s σ H vs us Q I r h
  obtain ⟨a, t, ns, rfl, hs, q⟩ := h
  obtain ⟨its, rv, hl, _⟩ := sqx I hs
  have hz : (ns.map V.int).length ≤ sizeLine := by
    cases t
    · obtain ⟨_, _, _, z⟩ := I.list hs; exact z
    · obtain ⟨_, _, _, z⟩ := I.tuple hs; exact z
  rw [Vals.ref1 r]
  have hi := rv.ints
  refine sorted_x SrtO.swo_int hl (by rw [← rv.length]; exact hz) (fun h2 h₁ a' _ _ => SrtO.ints_sortable hi h2) fun out h1 h2 => ?_
  obtain ⟨k1, k2, k3⟩ := SrtO.ints_out hi h1 h2
  obtain ⟨ep, he'⟩ := PyProof.Rows.sortedAll_at s.heap its out.toArray
  have hlen : ((out.map SrtO.iv).map V.int).length ≤ sizeLine := by
    rw [List.length_map, k2.length_eq]
    rw [List.length_map] at hz
    exact hz
  exact ⟨.ref _, upd H (s.heap.objs.size + 1) (.lst ((out.map SrtO.iv).map V.int)), I.laid (t' := s.toks) (fun _ _ => PyProof.Rows.sortedAll_old) (Nat.le_succ _) ⟨hlen, out, ep, vals_of_ints k1, he'⟩, rfl, q _ _ k2 k3 (I.hok.fresh (Nat.le_succ _))⟩
end ZB

set_option Elab.async false
set_option linter.all false
set_option maxRecDepth 100000
set_option maxHeartbeats 4000000
/-! DL, part 7: what is walked: lists, tuples, ranges, enumerate, zip. -/
namespace DL
open PySem PySem.Spec PyProof.Rows L2

/-- a list or a tuple -/
def SqA (K : PySem.W.Frag) (H : Hp) (b : Bool) (a : Addr) (xs : List V) : Prop := if b then SqT K H a xs else SqL K H a xs
def Its2 (K : PySem.W.Frag) (b : Bool) (a : Addr) (c : Int) : It :=
  ⟨fun i H => ∃ (xs : List V) (x : V), SqA K H b a xs ∧ xs[i]? = some x, fun i H v H' => ∃ T x, v = .ref T ∧ H T = none ∧ H' = upd H T (.tup [.int (c + (i : Nat)), x]) ∧ ∀ xs, SqA K H b a xs → xs[i]? = some x, fun i H => ∃ xs : List V, SqA K H b a xs ∧ xs.length = i⟩
def IterAt (h : Heap) (b : Bool) (it a : Addr) (i : Nat) : Prop := if b then h.IsTupleIter it a i else h.IsListIter it a i
theorem IterAt.get {h : Heap} {b : Bool} {it a : Addr} {i : Nat} (st : IterAt h b it a i) : ∃ o, h.get? it = some o ∧ ∀ v, o.data ≠ .cell v := by
  cases b with
  | true => obtain ⟨o, ho, hc, hd⟩ := st; exact ⟨o, ho, fun v q => by rw [hd] at q; cases q⟩
  | false => obtain ⟨o, ho, hc, hd⟩ := st; exact ⟨o, ho, fun v q => by rw [hd] at q; cases q⟩
theorem IterAt.at {h h' : Heap} {b : Bool} {it a : Addr} {i : Nat} (st : IterAt h b it a i) (k : ∀ o, h.get? it = some o → h'.get? it = some o) : IterAt h' b it a i := by
  cases b with
  | true => exact Heap.IsTupleIter.at st k
  | false => exact Heap.IsListIter.at st k
def SeqIs (h : Heap) (b : Bool) (a : Addr) (items : Array Value) : Prop := if b then h.IsTuple a items else h.IsList a items
theorem drawsA {prog : Program} {w : World} {A : Around} (hh : A.handled = none) (b : Bool) (it a : Addr) (hne : a ≠ it) (items : Array Value) :
    Draws prog w A it [it, a] items.size (fun i v => items[i]? = some v) (fun i h => IterAt h b it a i ∧ SeqIs h b a items) := by
  cases b with
  | true => exact Draws.tuple hh it a hne items
  | false => exact Draws.list hh it a hne items
theorem sqA_vals {X : Cx} {pins : List (Addr × Obj)} {σ : L2.St} {H : Hp} {s : Shared} {b : Bool} {a : Addr} {xs : List V} (I : Inv X pins σ H s) (h : SqA X.K H b a xs) : ∃ its, Vals xs its ∧ SeqIs s.heap b a its.toArray ∧ a < s.heap.objs.size := by
  cases b with
  | true =>
    obtain ⟨its, rv, p, _⟩ := I.tuple h
    exact ⟨its, rv, p, by obtain ⟨o, e, _⟩ := p; exact Heap.lt_size e⟩
  | false =>
    obtain ⟨its, rv, p, _⟩ := I.list h
    exact ⟨its, rv, p.isList, p.lt⟩
theorem sqA_inj {X : Cx} {pins : List (Addr × Obj)} {σ : L2.St} {H : Hp} {s : Shared} {b : Bool} {a : Addr} {xs ys : List V} (I : Inv X pins σ H s) (h : SqA X.K H b a xs) (h2 : SqA X.K H b a ys) : xs = ys := by
  cases b with
  | true => exact I.tuple_inj h h2
  | false => exact I.list_inj h h2

theorem turn_enumA {P : Program} {w : World} {K : PySem.W.Frag} {elts : List Expr} {kk : Nat} {tpos : Pos} (b : Bool) (c : Int) (a e it : Addr) :
    Turn P w K (.Tuple elts kk tpos) (Its2 K b a c) [e, it] e (fun i h => (∃ old, IsEnum h e it (c + ((i : Nat) : Int)) old) ∧ IterAt h b it a i ∧ e ≠ it ∧ a ≠ it ∧ e ≠ a) where
  mem := by simp
  obj := fun i h st d hd => by
    obtain ⟨⟨old, he⟩, hi, _⟩ := st
    have e' : d = e ∨ d = it := by simpa using hd
    rcases e' with z | z
    · rw [z]; exact ⟨_, he, fun v q => nomatch q⟩
    · rw [z]; exact hi.get
  keep := fun i h h' st k => let ⟨⟨old, he⟩, hi, hne⟩ := st; ⟨⟨old, k e (by simp) _ he⟩, hi.at fun o q => k it (by simp) o q, hne⟩
  item := by
    intro X hP hw hK hc i pins s σ H E I hf st hg
    subst hP hw hK
    obtain ⟨⟨old, he⟩, hit, hne, hna, hea⟩ := st
    obtain ⟨xs, x, hq, hx⟩ := hg
    obtain ⟨its, rv, p, hz⟩ := sqA_vals I hq
    obtain ⟨u, hu, ru⟩ := rv.get hx
    have hel : e < s.heap.objs.size := Heap.lt_size he
    have hil : it < s.heap.objs.size := by obtain ⟨_, q, _⟩ := hit.get; exact Heap.lt_size q
    have hlt : i < its.toArray.size := by
      have := (List.getElem?_eq_some_iff.mp hu).1
      simpa using this
    refine wpAny_pyNext_enum_itemC (drawsA (prog := X.prog) (w := X.w) (A := X.A.in1) (I.ok.hd hc) b it a hna its.toArray) he ⟨hit, p⟩ hlt hne (by simp [hne, hea]) fun y h' tk hy ho hit' hT hsz hk => ?_
    have hyu : y = u := by
      have hy : its.toArray[i]? = some y := hy
      rw [List.getElem?_toArray, hu] at hy; cases hy; rfl
    subst hyu
    refine ⟨_, rfl, wpAny_letOwnedTupleGo_enum (s := { s with heap := h', toks := tk + 1 }) ho fun h'' he' sb => ?_⟩
    have hT2 : h''.get? s.heap.objs.size = some { cls := .type "tuple", data := .seq #[.int (c + (i : Nat)) tk, y] } := (sb.2 _ (Nat.ne_of_gt hel)).trans hT
    have new : ObjOk X.prog X.w (upd H s.heap.objs.size (.tup [.int (c + (i : Nat)), x])) h'' s.heap.objs.size (.tup [.int (c + (i : Nat)), x]) :=
      ⟨by show 2 ≤ sizeLine; decide, [.int (c + (i : Nat)) tk, y], .cons ⟨_, rfl⟩ (.cons ru .nil), ⟨_, hT2, rfl, _, rfl⟩⟩
    have I1 : Inv X pins σ (upd H s.heap.objs.size (.tup [.int (c + (i : Nat)), x])) { s with heap := h'', toks := tk + 1 } :=
      I.turnedNew (ch := [e, it]) (fun d ob hb q => (sb.2 d (fun z => hb (by simp [z]))).trans (hk d ob (fun z => hb (by simp [z])) (fun z => hb (by simp [z])) q)) hf (Nat.le_refl _) new
    refine ⟨.ref s.heap.objs.size, _, I1, rfl, ⟨_, x, rfl, I.hok.fresh (Nat.le_refl _), rfl, fun ys hy => by rw [sqA_inj I hy hq]; exact hx⟩, ⟨⟨y, ?_⟩, hit'.1.at fun o q => (sb.2 it (Ne.symm hne)).trans q, hne, hna, hea⟩, fun d hd => ?_⟩
    · have e1 : c + ((i + 1 : Nat) : Int) = c + (i : Int) + 1 := by omega
      rw [e1]; exact he'
    · have hb' : d < s.heap.objs.size := by
        have e' : d = e ∨ d = it := by simpa using hd
        rcases e' with z | z
        · rw [z]; exact hel
        · rw [z]; exact hil
      rw [upd_ne (Nat.ne_of_lt hb')]
      exact (hf d hd).1
  done := by
    intro X hP hw hK hc i pins s σ H E I hf st hg
    subst hP hw hK
    obtain ⟨⟨old, he⟩, hit, hne, hna, hea⟩ := st
    obtain ⟨xs, hq, hx⟩ := hg
    obtain ⟨its, rv, p, hz⟩ := sqA_vals I hq
    obtain ⟨f0, f1, f2, f3, f4, f5⟩ := hf it (by simp)
    have hl := rv.length
    have hh : X.A.handled = none := I.ok.hd hc
    have hs : its.toArray.size = i := by simp; omega
    subst hs
    exact wpAny_pyNext_enum_endD (drawsA (prog := X.prog) (w := X.w) (A := X.A.in1) hh b it a hna its.toArray) he ⟨hit, p⟩ fun h' eb => ⟨rfl, I.turned (t' := s.toks) (fun d o hb q => eb d o hb q) f0 f1 f3 f4 f5⟩
  self := fun A i s Q E st h => let ⟨⟨_, he⟩, _⟩ := st; wpAny_pyIter_enum he h

/-! ### enumerate begins -/
theorem meets_enumerate_new1 {v : Value} {o : Obj} {H : Heap → Prop} (B : Begins v o H) :
    Meets (Builtin.«enumerate.__new__» ⟨[.type "enumerate", v], []⟩) (fun _ R s => H s.heap ∧
      R (.ok (.ret (.ref (s.heap.push o).objs.size))) { s with heap := (s.heap.push o).push { cls := .type "enumerate", data := .fields #[.none, .bool false, .ref s.heap.objs.size, rawInt 0, .none, .none] } }) :=
  .of_wp fun prog w A R s h => by
    obtain ⟨hp, g, d, tk, os⟩ := s; obtain ⟨h1, h⟩ := h
    have hsub := sub_enumerate
    have q1 : ∀ {A' : Around} {E : Value → Shared → Prop} {Q : Value → Shared → Prop}, Q (.ref hp.objs.size) ⟨hp.push o, g, d, tk, os⟩ → wpAny (model prog w) A' (pyIter v) Q E ⟨hp, g, d, tk, os⟩ :=
      fun q => B.iter prog w _ _ ⟨hp, g, d, tk, os⟩ _ h1 q
    wp_walk using q1
    refine wpAny_stack_any fun st => wpAny_pure ?_
    split
    · rename_i c _ _ _ _ _
      cases (c == Value.type "enumerate")
      · wp_walk using q1
        exact ⟨_, rfl, h⟩
      · wp_walk using q1
        exact ⟨_, rfl, h⟩
    · wp_walk using q1
      exact ⟨_, rfl, h⟩
section
variable {prog : Program} {w : World} {A : Around} {E : Value → Shared → Prop} {s : Shared}
theorem enum_begins1 {v : Value} {o : Obj} {H : Heap → Prop} {Q : Value → Shared → Prop} (B : Begins v o H) (h1 : H s.heap)
    (h : ∀ h', IsEnum h' (s.heap.objs.size + 1) s.heap.objs.size 0 .none → h'.get? s.heap.objs.size = some o → h'.objs.size = s.heap.objs.size + 2 →
      (∀ b o, s.heap.get? b = some o → h'.get? b = some o) → Q (.ref (s.heap.objs.size + 1)) { s with heap := h' }) :
    wpAny (model prog w) A (call (.type "enumerate") [v]) Q E s := by
  refine callType_new F.called_enumerate (by decide) (F.typeCall_enumerate_1 _) (F.newCall_enumerate_1 _) (fun obj => F.args_object_init_2 obj _) F.entry_enumerate_new
    (meets_enumerate_new1 B) ⟨h1, ?_⟩
  have hz : (s.heap.push o).objs.size = s.heap.objs.size + 1 := Heap.size_push ..
  show _ ∧ _
  rw [hz]
  have he : IsEnum ((s.heap.push o).push { cls := .type "enumerate", data := .fields #[.none, .bool false, .ref s.heap.objs.size, rawInt 0, .none, .none] }) (s.heap.objs.size + 1) s.heap.objs.size 0 .none := by
    have := Heap.get?_push_size (s.heap.push o) (o := { cls := .type "enumerate", data := .fields #[.none, .bool false, .ref s.heap.objs.size, rawInt 0, .none, .none] }) rfl
    rw [hz] at this; exact this
  refine ⟨⟨_, he, rfl⟩, h _ he (Heap.get?_push_of_some _ (Heap.get?_push_size _ B.free)) (by rw [Heap.size_push, hz]) fun b o x => Heap.get?_push_of_some _ (Heap.get?_push_of_some _ x)⟩
end
def itObj (b : Bool) (a : Addr) : Obj := if b then { cls := .type "tuple_iterator", data := .fields #[.ref a, .int 0 0] } else { cls := .type "list_iterator", data := .fields #[.ref a, .int 0 0] }
theorem begins_A (b : Bool) (a : Addr) (items : Array Value) : Begins (.ref a) (itObj b a) fun h => SeqIs h b a items := by
  cases b with
  | true => exact begins_tuple a items
  | false => exact begins_list a items
theorem iterAt_0 {h : Heap} {b : Bool} {it a : Addr} (e : h.get? it = some (itObj b a)) : IterAt h b it a 0 := by
  cases b with
  | true => exact ⟨_, e, rfl, rfl⟩
  | false => exact ⟨_, e, rfl, rfl⟩
def iEnumA (K : PySem.W.Frag) (ta : TA) : TI := fun σ H R => ta σ H fun vs H1 => ∃ b a xs, vs = [.ref a] ∧ SqA K H1 b a xs ∧ R (Its2 K b a 0) H1
def iEnumS (K : PySem.W.Frag) (ta : TA) : TI := fun σ H R => ta σ H fun vs H1 => ∃ b a xs c, vs = [.ref a, .int c] ∧ (-(2 ^ 63) ≤ c ∧ c < 2 ^ 63) ∧ SqA K H1 b a xs ∧ R (Its2 K b a c) H1
theorem enum_end {X : Cx} {pins : List (Addr × Obj)} {σ : L2.St} {H : Hp} {s1 : Shared} {b : Bool} {a : Addr} {xs : List V} {c : Int} {R : It → Hp → Prop} {elts : List Expr} {kk : Nat} {tpos : Pos} {h' : Heap}
    (I1 : Inv X pins σ H s1) (hq : SqA X.K H b a xs) (he : IsEnum h' (s1.heap.objs.size + 1) s1.heap.objs.size c .none) (hit : h'.get? s1.heap.objs.size = some (itObj b a)) (hk : ∀ b o, s1.heap.get? b = some o → h'.get? b = some o) (q : R (Its2 X.K b a c) H) :
    wpAny (model X.prog X.w) X.A (pyIter (.ref (s1.heap.objs.size + 1))) (PIE X pins σ (.Tuple elts kk tpos) R) X.xe { s1 with heap := h' } := by
  refine wpAny_pyIter_enum he ?_
  obtain ⟨its, rv, p, hlt⟩ := sqA_vals I1 hq
  have I2 : Inv X pins σ H { s1 with heap := h' } := I1.kept (t' := s1.toks) hk
  have he0 : IsEnum h' (s1.heap.objs.size + 1) s1.heap.objs.size (c + ((0 : Nat) : Int)) .none := by
    rw [show c + ((0 : Nat) : Int) = c by omega]; exact he
  refine ⟨s1.heap.objs.size + 1, [s1.heap.objs.size + 1, s1.heap.objs.size], _, _, H, rfl, I2, turn_enumA b c a (s1.heap.objs.size + 1) s1.heap.objs.size, ⟨⟨.none, he0⟩, iterAt_0 hit, Nat.succ_ne_self _, Nat.ne_of_lt hlt, Ne.symm (Nat.ne_of_lt (Nat.lt_succ_of_lt hlt))⟩, fun d hd => ?_, q⟩
  have e' : d = s1.heap.objs.size + 1 ∨ d = s1.heap.objs.size := by simpa using hd
  have hle : s1.heap.objs.size ≤ d := by
    rcases e' with z | z
    · rw [z]; exact Nat.le_add_right _ _
    · rw [z]; exact Nat.le_refl _
  exact I1.fpOk hle (I1.hok.fresh hle)
theorem pi_enumA {X : Cx} {e : Expr} {ta : TA} {p pos tpos : Pos} {elts : List Expr} {kk : Nat} (hg : Gl X "enumerate") (hm : X.mg "enumerate" = none) (ha : PA X [e] ta) (hs : starEach [e] X.env = [(false, eval e X.env)] := by rfl) :
    PI X (.Tuple elts kk tpos) (.Call (.Name "enumerate" p) [e] [] pos) (iEnumA X.K ta) := by
  refine ⟨fun pins s σ H R I h => ?_⟩
  refine Call_ (ld_blt I hg hm boot_enumerate (PyProof.Rows.callWith_type1 (thn (ha.run pos pins s σ H _ I h) fun us s1 ⟨vs, H1, I1, r1, q1⟩ => ?_) hs rfl))
  obtain ⟨b, a, xs, ex, hq, q⟩ := q1
  subst ex
  cases r1 with
  | cons r rr =>
    cases rr
    cases r
    obtain ⟨its, rv, p', hlt⟩ := sqA_vals I1 hq
    exact enum_begins1 (begins_A b a its.toArray) p' fun h' he hit hsz hk => enum_end I1 hq he hit hk q
theorem pi_enumS {X : Cx} {e e2 : Expr} {ta : TA} {p pos tpos : Pos} {elts : List Expr} {kk : Nat} (hg : Gl X "enumerate") (hm : X.mg "enumerate" = none) (ha : PA X [e, e2] ta) (hs : starEach [e, e2] X.env = (false, eval e X.env) :: starEach [e2] X.env := by rfl) (hpl : (backTo pos (starEach [e2] X.env)).any (·.1) = false := by rfl) :
    PI X (.Tuple elts kk tpos) (.Call (.Name "enumerate" p) [e, e2] [] pos) (iEnumS X.K ta) := by
  refine ⟨fun pins s σ H R I h => ?_⟩
  refine Call_ (ld_blt I hg hm boot_enumerate (PyProof.Rows.callWith_type1 (thn (ha.run pos pins s σ H _ I h) fun us s1 ⟨vs, H1, I1, r1, q1⟩ => ?_) hs hpl))
  obtain ⟨b, a, xs, c, ex, hc, hq, q⟩ := q1
  subst ex
  cases r1 with
  | cons r rr =>
    cases rr with
    | cons r' rr =>
      cases rr
      cases r
      obtain ⟨t, rfl⟩ := r'
      obtain ⟨its, rv, p', hlt⟩ := sqA_vals I1 hq
      exact enum_begins (begins_A b a its.toArray) p' hc.1 hc.2 fun h' he hit hsz hk => enum_end I1 hq he hit hk q

/-! ### the walks as data -/
theorem wk_list {K : KK} {G : Hp} {a : Addr} {vs : List V} {xs : List PyData} (h : G a = some (.lst vs)) (r : RpAll K G vs xs) : Wk K G (Itl K a) xs := fun G2 H x e i => by
  have hh : SqL K H a vs := .inl (.inl (e _ _ (x _ _ h)))
  refine ⟨fun hi => ⟨?_, fun v H' hy => ?_⟩, fun hi => ⟨vs, hh, by rw [r.length]; omega⟩⟩
  · have hl : i < vs.length := by rw [r.length]; exact hi
    exact ⟨vs, vs[i], hh, List.getElem?_eq_getElem hl⟩
  · obtain ⟨rfl, hv⟩ := hy
    obtain ⟨d, h1, h2⟩ := r.getV (hv vs hh)
    exact ⟨G2, d, h1, .refl e, h2.mono x⟩
theorem wk_tup {K : KK} {G : Hp} {a : Addr} {vs : List V} {xs : List PyData} (h : SqT K G a vs) (r : RpAll K G vs xs) : Wk K G (Itt K a) xs := fun G2 H x e i => by
  have hh : SqT K H a vs := e.st (x.st h)
  refine ⟨fun hi => ⟨?_, fun v H' hy => ?_⟩, fun hi => ⟨vs, hh, by rw [r.length]; omega⟩⟩
  · have hl : i < vs.length := by rw [r.length]; exact hi
    exact ⟨vs, vs[i], hh, List.getElem?_eq_getElem hl⟩
  · obtain ⟨rfl, hv⟩ := hy
    obtain ⟨d, h1, h2⟩ := r.getV (hv vs hh)
    exact ⟨G2, d, h1, .refl e, h2.mono x⟩
def rngD (lo : Int) (n : Nat) : List PyData := (List.range n).map fun i => .int (lo + (i : Nat))
theorem rngD_len (lo : Int) (n : Nat) : (rngD lo n).length = n := by simp [rngD]
theorem rngD_get (lo : Int) (n i : Nat) (h : i < n) : (rngD lo n)[i]? = some (.int (lo + (i : Nat))) := by simp [rngD, List.getElem?_map, List.getElem?_range h]
theorem wk_rng {K : KK} {G : Hp} {lo : Int} {n : Nat} : Wk K G (Itr lo n) (rngD lo n) := fun G2 H x e i => by
  refine ⟨fun hi => ⟨by rw [rngD_len] at hi; exact hi, fun v H' hy => ?_⟩, fun hi => ?_⟩
  · obtain ⟨rfl, rfl⟩ := hy
    exact ⟨G2, _, rngD_get lo n i (by simpa [rngD_len] using hi), .refl e, .int _⟩
  · show n ≤ i
    rw [rngD_len] at hi; omega
def enumD : Int → List PyData → List PyData
  | _, [] => []
  | c, x :: xs => .tuple [.int c, x] :: enumD (c + 1) xs
theorem enumD_len : ∀ (c : Int) (xs : List PyData), (enumD c xs).length = xs.length
  | _, [] => rfl
  | c, x :: xs => by simp [enumD, enumD_len (c + 1) xs]
theorem enumD_get : ∀ (c : Int) (xs : List PyData) (i : Nat) (d : PyData), xs[i]? = some d → (enumD c xs)[i]? = some (.tuple [.int (c + (i : Nat)), d])
  | _, [], _, _, h => by simp at h
  | c, x :: xs, 0, d, h => by simp at h; subst h; simp [enumD]
  | c, x :: xs, i + 1, d, h => by
    have := enumD_get (c + 1) xs i d (by simpa using h)
    simp only [enumD, List.getElem?_cons_succ, this]
    have e : c + 1 + (i : Int) = c + ((i + 1 : Nat) : Int) := by omega
    rw [e]
theorem wk_enum {K : KK} {G : Hp} {b : Bool} {a : Addr} {c : Int} {vs : List V} {xs : List PyData} (h : SqA K G b a vs) (hl : b = false → G a = some (.lst vs)) (r : RpAll K G vs xs) : Wk K G (Its2 K b a c) (enumD c xs) := fun G2 H x e i => by
  have hh : SqA K H b a vs := by
    cases b with
    | true => exact e.st (x.st h)
    | false => exact e.sl (x.sl h)
  refine ⟨fun hi => ⟨?_, fun v H' hy => ?_⟩, fun hi => ⟨vs, hh, by rw [r.length, hi, enumD_len]⟩⟩
  · have hl : i < vs.length := by rw [r.length]; simpa [enumD_len] using hi
    exact ⟨vs, vs[i], hh, List.getElem?_eq_getElem hl⟩
  · obtain ⟨T, y, rfl, hT, rfl, hv⟩ := hy
    obtain ⟨d, h1, h2⟩ := r.getV (hv vs hh)
    have px := PX.laid (o := .tup [.int (c + (i : Nat)), y]) e hT
    exact ⟨_, _, enumD_get c xs i d h1, px, .tup (.inl (.inl upd_same)) (.cons (.int _) (.cons ((h2.mono x).mono px.gg) .nil))⟩
def zipD : List PyData → List PyData → List PyData
  | x :: xs, y :: ys => .tuple [x, y] :: zipD xs ys
  | _, _ => []
theorem zipD_len : ∀ (xs ys : List PyData), (zipD xs ys).length = min xs.length ys.length
  | [], _ => by simp [zipD]
  | _ :: _, [] => by simp [zipD]
  | x :: xs, y :: ys => by simp [zipD, zipD_len xs ys]
theorem zipD_get : ∀ (xs ys : List PyData) (i : Nat) (x y : PyData), xs[i]? = some x → ys[i]? = some y → (zipD xs ys)[i]? = some (.tuple [x, y])
  | [], _, _, _, _, h, _ => by simp at h
  | _ :: _, [], _, _, _, _, h => by simp at h
  | x :: xs, y :: ys, 0, _, _, h, g => by simp at h g; subst h g; rfl
  | x :: xs, y :: ys, i + 1, u, v, h, g => by
    have := zipD_get xs ys i u v (by simpa using h) (by simpa using g)
    simpa [zipD] using this
theorem Ex.sx {K : KK} {H H' : Hp} {t : Bool} {a : Addr} {xs : List V} (e : Ex H H') (h : ZB.SqX K H t a xs) : ZB.SqX K H' t a xs := by
  cases t
  · exact e.sl h
  · exact e.st h
theorem wk_zipX {K : KK} {G : Hp} {t u : Bool} {a b : Addr} {vs ws : List V} {xs ys : List PyData} (h : ZB.SqX K G t a vs) (r : RpAll K G vs xs) (h2 : ZB.SqX K G u b ws) (r2 : RpAll K G ws ys) : Wk K G (ZB.ItzX K t u a b) (zipD xs ys) := fun G2 H x e i => by
  have hh : ZB.SqX K H t a vs := e.sx (x.sx h)
  have hh2 : ZB.SqX K H u b ws := e.sx (x.sx h2)
  have l1 := r.length
  have l2 := r2.length
  rw [zipD_len]
  refine ⟨fun hi => ⟨?_, fun v H' hy => ?_⟩, fun hi => ⟨vs, ws, hh, hh2, by omega⟩⟩
  · have hl : i < vs.length := by omega
    have hl2 : i < ws.length := by omega
    exact ⟨vs, ws, vs[i], ws[i], hh, hh2, List.getElem?_eq_getElem hl, List.getElem?_eq_getElem hl2⟩
  · obtain ⟨T, y, z, rfl, hT, rfl, hv, hw⟩ := hy
    obtain ⟨d, h1, h2⟩ := r.getV (hv vs hh)
    obtain ⟨d2, h3, h4⟩ := r2.getV (hw ws hh2)
    have px := PX.laid (o := .tup [y, z]) e hT
    exact ⟨_, _, zipD_get xs ys i d d2 h1 h3, px, .tup (.inl (.inl upd_same)) (.cons ((h2.mono x).mono px.gg) (.cons ((h4.mono x).mono px.gg) .nil))⟩

/-! ### the walks for the text -/
/-- a list or a tuple, gone through -/
def iSeq (K : PySem.W.Frag) (te : TE) : TI := fun σ H R => te σ H fun x H1 => ∃ b a xs, x = .ref a ∧ SqA K H1 b a xs ∧ R (if b then Itt K a else Itl K a) H1
theorem pi_seqA {X : Cx} {tg l : Expr} {tl : TE} (hl : PE X l tl) : PI X tg l (iSeq X.K tl) := by
  refine ⟨fun pins s σ H R I h => ?_⟩
  refine thn (hl.run pins s σ H _ I h) fun v s1 ⟨x, H1, I1, r1, q1⟩ => ?_
  obtain ⟨b, a, xs, e, hq, q⟩ := q1
  subst e
  cases r1
  have fresh : ∀ c, c ∈ [s1.heap.objs.size] → FpOk X pins H1 c := fun c hb => by
    have e : c = s1.heap.objs.size := by simpa using hb
    subst e
    exact I1.fpOk (Nat.le_refl _) (I1.hok.fresh (Nat.le_refl _))
  cases b with
  | true =>
    obtain ⟨its, rv, p, hz⟩ := I1.tuple hq
    refine wpAny_pyIter_tuple (show s1.heap.IsTuple a its.toArray from p) ?_
    exact ⟨s1.heap.objs.size, [s1.heap.objs.size], _, _, H1, rfl, I1.kept (t' := s1.toks) fun b o e => Heap.get?_push_of_some _ e, turn_tuple a _, ⟨_, Heap.get?_push_size _ rfl, rfl, rfl⟩, fresh, q⟩
  | false =>
    obtain ⟨its, rv, p, hz⟩ := I1.list hq
    refine wpAny_pyIter_list p.isList ?_
    exact ⟨s1.heap.objs.size, [s1.heap.objs.size], _, _, H1, rfl, I1.kept (t' := s1.toks) fun b o e => Heap.get?_push_of_some _ e, turn_list a _, ⟨_, Heap.get?_push_size _ rfl, rfl, rfl⟩, fresh, q⟩
def sSeqI (fd : DS) : LS := fun S => (fd S).bind fun p => (dItems p.1).map fun xs => (xs, p.2)
theorem dItems_some {x : PyData} {xs : List PyData} (h : dItems x = some xs) : x = .list xs ∨ x = .tuple xs := by
  cases x with
  | list c => cases h; exact .inl rfl
  | tuple c => cases h; exact .inr rfl
  | _ => cases h
section
variable {X : Cx} {K : KK} {e e2 : Expr} {te : TE} {ta : TA} {fd : DS} {fs : AS} {tg : Expr} {p pos tpos : Pos} {elts : List Expr} {kk : Nat}
theorem sem_seqI (h : SemD K te fd) : SemI K (iSeq K te) (sSeqI fd) := fun F S σ H G xs S' r ef R k => by
  obtain ⟨⟨x, S1⟩, e1, e2⟩ := Option.bind_eq_some_iff.mp ef
  obtain ⟨ys, e3, e4⟩ := Option.map_eq_some_iff.mp e2
  cases e4
  refine h F S σ H G x _ r e1 _ fun v H1 G1 r1 g1 hv => ?_
  rcases dItems_some e3 with rfl | rfl
  · cases hv with
    | lst h1 h2 => exact ⟨false, _, _, rfl, .inl (.inl (r1.gh _ _ h1)), k _ H1 G1 r1 g1 (wk_list h1 h2)⟩
  · cases hv with
    | tup h1 h2 => exact ⟨true, _, _, rfl, r1.gh.st h1, k _ H1 G1 r1 g1 (wk_tup h1 h2)⟩
theorem si_seq (hK : Ckk X = K) (h : SDt X K e te fd) : SI X K tg e (iSeq K te) (sSeqI fd) := by subst hK; exact ⟨pi_seqA h.p, sem_seqI h.ok⟩
/-- the arguments, standing still -/
def sTakeA (f : AS) : List SD → Option (List PyData × List SD) := fun S => (f S).bind fun p => takeAll p.2 p.1
theorem take_A (h : SemA K ta fs) {F : Fr} {S S' : List SD} {σ : L2.St} {H G : Hp} {xs : List PyData} (r : SR K F S σ H G) (ef : sTakeA fs S = some (xs, S')) {Q : List V → Hp → Prop} (k : ∀ vs H' G', SR K F S' σ H' G' → Ex G G' → RpAll K G' vs xs → Q vs H') : ta σ H Q := by
  obtain ⟨⟨os, S1⟩, e1, e2⟩ := Option.bind_eq_some_iff.mp ef
  refine h F S σ H G os S1 r e1 _ fun vs H1 G1 r1 g1 h1 => ?_
  obtain ⟨G2, g2, r2, h2⟩ := takeAll_ok r1 h1 e2
  exact k vs H1 G2 r2 (g1.trans g2) h2
open Classical in
noncomputable def rngI : List PyData → Option (List PyData)
  | [.int j] => if -(2 ^ 62) ≤ j ∧ j < 2 ^ 62 then some (rngD 0 j.toNat) else none
  | [.int i, .int j] => if -(2 ^ 62) ≤ i ∧ i < 2 ^ 62 ∧ -(2 ^ 62) ≤ j ∧ j < 2 ^ 62 then some (rngD i (j - i).toNat) else none
  | _ => none
open Classical in
noncomputable def enumI : List PyData → Option (List PyData)
  | [x] => (dItems x).map (enumD 0)
  | [x, .int c] => if -(2 ^ 63) ≤ c ∧ c < 2 ^ 63 then (dItems x).map (enumD c) else none
  | _ => none
def zipI : List PyData → Option (List PyData)
  | [x, y] => (dItems x).bind fun xs => (dItems y).map fun ys => zipD xs ys
  | _ => none
def sArgI (g : List PyData → Option (List PyData)) (f : AS) : LS := fun S => (sTakeA f S).bind fun p => (g p.1).map fun xs => (xs, p.2)
theorem sem_rng1 (h : SemA K ta fs) (hn : ∀ S p S', sTakeA fs S = some (p, S') → p.length = 1) : SemI K (iRng1 ta) (sArgI rngI fs) := fun F S σ H G xs S' r ef R k => by
  obtain ⟨⟨x, S1⟩, e1, e2⟩ := Option.bind_eq_some_iff.mp ef
  obtain ⟨ys, e3, e4⟩ := Option.map_eq_some_iff.mp e2
  cases e4
  have hl : x.length = _ := hn _ _ _ e1
  have e3 : rngI x = some _ := e3
  refine take_A h r e1 fun vs H1 G1 r1 g1 hv => ?_
  unfold rngI at e3
  split at e3
  · split at e3
    · rename_i hc
      cases e3
      cases hv with
      | cons hv t => cases t; cases hv; exact ⟨_, rfl, hc.1, hc.2, k _ H1 G1 r1 g1 wk_rng⟩
    · cases e3
  · simp at hl
  · cases e3
theorem sem_rng2 (h : SemA K ta fs) (hn : ∀ S p S', sTakeA fs S = some (p, S') → p.length = 2) : SemI K (iRng2 ta) (sArgI rngI fs) := fun F S σ H G xs S' r ef R k => by
  obtain ⟨⟨x, S1⟩, e1, e2⟩ := Option.bind_eq_some_iff.mp ef
  obtain ⟨ys, e3, e4⟩ := Option.map_eq_some_iff.mp e2
  cases e4
  have hl : x.length = _ := hn _ _ _ e1
  have e3 : rngI x = some _ := e3
  refine take_A h r e1 fun vs H1 G1 r1 g1 hv => ?_
  unfold rngI at e3
  split at e3
  · simp at hl
  · split at e3
    · rename_i hc
      cases e3
      cases hv with
      | cons hv t => cases t with
        | cons hv2 t => cases t; cases hv; cases hv2; exact ⟨_, _, rfl, hc, k _ H1 G1 r1 g1 wk_rng⟩
    · cases e3
  · cases e3
theorem rp_sqA {G H : Hp} {v : V} {x : PyData} {ds : List PyData} (h : Rp K G v x) (e : dItems x = some ds) (eg : Ex G H) : ∃ b a vs, v = .ref a ∧ SqA K G b a vs ∧ SqA K H b a vs ∧ (b = false → G a = some (.lst vs)) ∧ RpAll K G vs ds := by
  rcases dItems_some e with rfl | rfl
  · cases h with
    | lst h1 h2 => exact ⟨false, _, _, rfl, .inl (.inl h1), .inl (.inl (eg _ _ h1)), fun _ => h1, h2⟩
  · cases h with
    | tup h1 h2 => exact ⟨true, _, _, rfl, h1, eg.st h1, fun q => (by cases q), h2⟩
theorem sem_enumA (h : SemA K ta fs) (hn : ∀ S p S', sTakeA fs S = some (p, S') → p.length = 1) : SemI K (iEnumA K ta) (sArgI enumI fs) := fun F S σ H G xs S' r ef R k => by
  obtain ⟨⟨x, S1⟩, e1, e2⟩ := Option.bind_eq_some_iff.mp ef
  obtain ⟨ys, e3, e4⟩ := Option.map_eq_some_iff.mp e2
  cases e4
  have hl : x.length = _ := hn _ _ _ e1
  have e3 : enumI x = some _ := e3
  refine take_A h r e1 fun vs H1 G1 r1 g1 hv => ?_
  unfold enumI at e3
  split at e3
  · obtain ⟨ds, e5, e6⟩ := Option.map_eq_some_iff.mp e3
    cases e6
    cases hv with
    | cons hv t =>
      cases t
      obtain ⟨b, a, ws, rfl, q1, q2, q3, q4⟩ := rp_sqA hv e5 r1.gh
      exact ⟨b, a, ws, rfl, q2, k _ H1 G1 r1 g1 (wk_enum q1 q3 q4)⟩
  · simp at hl
  · cases e3
theorem sem_enumS (h : SemA K ta fs) (hn : ∀ S p S', sTakeA fs S = some (p, S') → p.length = 2) : SemI K (iEnumS K ta) (sArgI enumI fs) := fun F S σ H G xs S' r ef R k => by
  obtain ⟨⟨x, S1⟩, e1, e2⟩ := Option.bind_eq_some_iff.mp ef
  obtain ⟨ys, e3, e4⟩ := Option.map_eq_some_iff.mp e2
  cases e4
  have hl : x.length = _ := hn _ _ _ e1
  have e3 : enumI x = some _ := e3
  refine take_A h r e1 fun vs H1 G1 r1 g1 hv => ?_
  unfold enumI at e3
  split at e3
  · simp at hl
  · split at e3
    · rename_i hc
      obtain ⟨ds, e5, e6⟩ := Option.map_eq_some_iff.mp e3
      cases e6
      cases hv with
      | cons hv t => cases t with
        | cons hv2 t =>
          cases t
          obtain ⟨b, a, ws, rfl, q1, q2, q3, q4⟩ := rp_sqA hv e5 r1.gh
          cases hv2
          exact ⟨b, a, ws, _, rfl, hc, q2, k _ H1 G1 r1 g1 (wk_enum q1 q3 q4)⟩
    · cases e3
  · cases e3
theorem rp_sqX {G : Hp} {v : V} {x : PyData} {xs : List PyData} (hv : Rp K G v x) (e : dItems x = some xs) : ∃ (t : Bool) (a : Addr) (ws : List V), v = .ref a ∧ ZB.SqX K G t a ws ∧ RpAll K G ws xs := by
  rcases dItems_some e with rfl | rfl
  · cases hv with
    | lst h1 h2 => exact ⟨false, _, _, rfl, .inl (.inl h1), h2⟩
  · cases hv with
    | tup h1 h2 => exact ⟨true, _, _, rfl, h1, h2⟩
theorem sem_zip (h : SemA K ta fs) : SemI K (ZB.iZipX K ta) (sArgI zipI fs) := fun F S σ H G xs S' r ef R k => by
  obtain ⟨⟨x, S1⟩, e1, e2⟩ := Option.bind_eq_some_iff.mp ef
  obtain ⟨ys, e3, e4⟩ := Option.map_eq_some_iff.mp e2
  cases e4
  have e3 : zipI x = some _ := e3
  refine take_A h r e1 fun vs H1 G1 r1 g1 hv => ?_
  unfold zipI at e3
  split at e3
  · obtain ⟨xs, q1, e3⟩ := Option.bind_eq_some_iff.mp e3
    obtain ⟨ys, q2, e3⟩ := Option.map_eq_some_iff.mp e3
    cases e3
    cases hv with
    | cons hv t => cases t with
      | cons hv2 t =>
        cases t
        obtain ⟨t, a, ws, rfl, s1, s2⟩ := rp_sqX hv q1
        obtain ⟨u, b, us, rfl, s3, s4⟩ := rp_sqX hv2 q2
        exact ⟨_, _, _, _, _, _, rfl, r1.gh.sx s1, r1.gh.sx s3, k _ H1 G1 r1 g1 (wk_zipX s1 s2 s3 s4)⟩
  · cases e3
theorem takeAll_len : ∀ {os : List Op} {S S' : List SD} {xs : List PyData}, takeAll S os = some (xs, S') → xs.length = os.length
  | [], _, _, _, e => by cases e; rfl
  | o :: os, S, S', _, e => by
    unfold takeAll at e
    obtain ⟨⟨x, S1⟩, e1, e⟩ := Option.bind_eq_some_iff.mp e
    obtain ⟨⟨xs, S2⟩, e2, e3⟩ := Option.map_eq_some_iff.mp e
    cases e3
    simp [takeAll_len e2]
theorem len_cons {fe : ES} {n : Nat} (h : ∀ S p S', fs S = some (p, S') → p.length = n) : ∀ S p S', sCons fe fs S = some (p, S') → p.length = n + 1 := fun S p S' e => by
  obtain ⟨⟨o1, S1⟩, e1, e2⟩ := Option.bind_eq_some_iff.mp e
  obtain ⟨⟨o2, S2⟩, e3, e4⟩ := Option.map_eq_some_iff.mp e2
  cases e4
  simp [h _ _ _ e3]
theorem len_nil : ∀ S p S', sNil S = some (p, S') → p.length = 0 := fun S p S' e => by cases e; rfl
theorem len_take {n : Nat} (h : ∀ S p S', fs S = some (p, S') → p.length = n) : ∀ S p S', sTakeA fs S = some (p, S') → p.length = n := fun S p S' e => by
  obtain ⟨⟨os, S1⟩, e1, e2⟩ := Option.bind_eq_some_iff.mp e
  rw [takeAll_len e2, h _ _ _ e1]
theorem si_rng1 {a : Expr} {fe : ES} (hm : X.mg "range" = none) (ha : SA X K [a] ta (sCons fe sNil)) (hg : Gl X "range" := by rfl) (hs : starEach [a] X.env = [(false, eval a X.env)] := by rfl) : SI X K tg (.Call (.Name "range" p) [a] [] pos) (iRng1 ta) (sArgI rngI (sCons fe sNil)) :=
  ⟨pi_range1 hg hm ha.p hs, sem_rng1 ha.ok (len_take (len_cons len_nil))⟩
theorem si_rng2 {a b : Expr} {fe fe2 : ES} (hm : X.mg "range" = none) (ha : SA X K [a, b] ta (sCons fe (sCons fe2 sNil))) (hg : Gl X "range" := by rfl) (hs : starEach [a, b] X.env = [(false, eval a X.env), (false, eval b X.env)] := by rfl) (hs2 : starEach [b] X.env = [(false, eval b X.env)] := by rfl) :
    SI X K tg (.Call (.Name "range" p) [a, b] [] pos) (iRng2 ta) (sArgI rngI (sCons fe (sCons fe2 sNil))) :=
  ⟨pi_range2 hg hm ha.p hs hs2, sem_rng2 ha.ok (len_take (len_cons (len_cons len_nil)))⟩
theorem si_enum {fe : ES} (hK : Ckk X = K) (hm : X.mg "enumerate" = none) (ha : SA X K [e] ta (sCons fe sNil)) (hg : Gl X "enumerate" := by rfl) (hs : starEach [e] X.env = [(false, eval e X.env)] := by rfl) : SI X K (.Tuple elts kk tpos) (.Call (.Name "enumerate" p) [e] [] pos) (iEnumA K ta) (sArgI enumI (sCons fe sNil)) := by
  subst hK
  exact ⟨pi_enumA hg hm ha.p hs, sem_enumA ha.ok (len_take (len_cons len_nil))⟩
theorem si_enumS {fe fe2 : ES} (hK : Ckk X = K) (hm : X.mg "enumerate" = none) (ha : SA X K [e, e2] ta (sCons fe (sCons fe2 sNil))) (hg : Gl X "enumerate" := by rfl) (hs : starEach [e, e2] X.env = (false, eval e X.env) :: starEach [e2] X.env := by rfl) (hpl : (backTo pos (starEach [e2] X.env)).any (·.1) = false := by rfl) :
    SI X K (.Tuple elts kk tpos) (.Call (.Name "enumerate" p) [e, e2] [] pos) (iEnumS K ta) (sArgI enumI (sCons fe (sCons fe2 sNil))) := by
  subst hK
  exact ⟨pi_enumS hg hm ha.p hs hpl, sem_enumS ha.ok (len_take (len_cons (len_cons len_nil)))⟩
theorem si_zip (hK : Ckk X = K) (hm : X.mg "zip" = none) (ha : SA X K [e, e2] ta fs) (hg : Gl X "zip" := by rfl) (hs : starEach [e, e2] X.env = (false, eval e X.env) :: starEach [e2] X.env := by rfl) (hpl : (backTo pos (starEach [e2] X.env)).any (·.1) = false := by rfl) :
    SI X K (.Tuple elts kk tpos) (.Call (.Name "zip" p) [e, e2] [] pos) (ZB.iZipX K ta) (sArgI zipI fs) := by
  subst hK
  exact ⟨ZB.pi_zipX hg hm ha.p hs hpl, sem_zip ha.ok⟩
end
/-! ### sorted of ints, out of a list or a tuple -/
section
variable {X : Cx} {K : KK}
def dSortedL : List PyData → Option (List PyData)
  | [x] => (dItems x).bind fun xs => (dInts xs).map fun ns => (sortI ns).map .int
  | _ => none
theorem crSorted (hK : Ckk X = K) : CallR X (.builtin "sorted") (ZB.rSortX K) := by subst hK; exact ZB.cr_sortX
theorem vSortedL : VL K (ZB.rSortX K) dSortedL := fun G H vs xs z e rs q Q k => by
  unfold dSortedL at q
  split at q
  · obtain ⟨ys, q1, q⟩ := Option.bind_eq_some_iff.mp q
    obtain ⟨ns, q2, q⟩ := Option.map_eq_some_iff.mp q
    cases q
    have hx := dInts_some q2
    subst hx
    cases rs with
    | cons r t =>
      cases t
      have key : ∀ (a : Addr) (t : Bool), ZB.SqX K H t a (ns.map V.int) → ZB.rSortX K [.ref a] H Q := fun a t hs => by
        refine ⟨a, t, ns, rfl, hs, fun ns' p pm so hp => ?_⟩
        have hs : ns' = sortI ns := sorted_unique (pm.trans (sortI_perm ns).symm) so (sortI_sorted ns)
        subst hs
        exact k p _ _ G (PX.side e hp) hp (e.free hp) upd_same (RpAll.of_ints _)
      rcases dItems_some q1 with rfl | rfl
      · obtain ⟨a, ws, rfl, h2, h3⟩ := r.lst e
        have hw := h3.ints
        subst hw
        exact key a false (.inl (.inl h2))
      · obtain ⟨a, ws, rfl, h2, h3⟩ := r.tup e
        have hw := h3.ints
        subst hw
        exact key a true h2
  · cases q
end
end DL

set_option Elab.async false
set_option linter.all false
set_option maxRecDepth 100000
set_option maxHeartbeats 4000000
/-! DL, part 8: slices. -/
namespace DL
open PySem PySem.Spec PyProof.Rows L2

/-! ### t[::-1] of a tuple -/
theorem adjust_rev (n : Nat) : Builtin.Slice.sliceAdjust none none (-1) (n : Int) = ((n : Int) - 1, -1) := by
  unfold Builtin.Slice.sliceAdjust
  simp
theorem places_rev (n : Nat) : Builtin.Slice.slicePlaces ((n : Int) - 1) (-1) (-1) = n := by
  unfold Builtin.Slice.slicePlaces
  simp
  split <;> omega
theorem pick_rev (xs : Array Value) : ((List.range xs.size).filterMap fun (m : Nat) => xs[(((xs.size : Int) - 1) + (m : Int) * (-1)).toNat]?).toArray = xs.toList.reverse.toArray := by
  congr 1
  apply List.ext_getElem?
  intro i
  have e : ((List.range xs.size).filterMap fun (m : Nat) => xs[(((xs.size : Int) - 1) + (m : Int) * (-1)).toNat]?) = (List.range xs.size).pmap (fun m h => xs[xs.size - 1 - m]'(by have : m < xs.size := h; omega)) (fun m h => List.mem_range.mp h) := by
    rw [List.pmap_eq_map_attach]
    have : ∀ (l : List Nat) (hl : ∀ m ∈ l, m < xs.size), (l.filterMap fun (m : Nat) => xs[(((xs.size : Int) - 1) + (m : Int) * (-1)).toNat]?) = l.attach.map (fun m => xs[xs.size - 1 - m.1]'(by have := hl m.1 m.2; omega)) := by
      intro l
      induction l with
      | nil => intro _; rfl
      | cons m l ih =>
        intro hl
        have hm := hl m (by simp)
        have e1 : (((xs.size : Int) - 1) + (m : Int) * (-1)).toNat = xs.size - 1 - m := by omega
        have e2 : xs[xs.size - 1 - m]? = some (xs[xs.size - 1 - m]'(by omega)) := Array.getElem?_eq_getElem (by omega)
        rw [List.filterMap_cons, e1, e2, List.attach_cons, List.map_cons, List.map_map]
        simp only [List.cons.injEq, true_and]
        rw [ih fun k hk => hl k (List.mem_cons_of_mem _ hk)]
        rfl
    exact this _ fun m h => List.mem_range.mp h
  rw [e, List.getElem?_pmap]
  by_cases hi : i < xs.size
  · rw [List.getElem?_reverse (by simpa using hi)]
    simp [List.getElem?_range hi, hi]
  · rw [List.getElem?_eq_none (l := xs.toList.reverse) (by simpa using Nat.le_of_not_lt hi), ← List.getElem?_pmap, List.getElem?_eq_none (by simpa using Nat.le_of_not_lt hi)]
section
variable {prog : Program} {w : World} {A : Around} {E : Value → Shared → Prop} {s : Shared}
open HT
theorem sliceApplied_rev {sl : Addr} {vl vu vs : Value} {n : Nat} {Q : Int × Int × Nat → Shared → Prop} (hs : s.heap.IsSliceOf sl vl vu vs) (pl : IsPart vl none) (pu : IsPart vu none) (ps : IsPart vs (some (-1)))
    (h : Q ((n : Int) - 1, -1, n) s) : wpAny (model prog w) A (Builtin.Slice.sliceApplied (.ref sl) (pure (n : Int))) Q E s := by
  obtain ⟨os, hos, hcs, hds⟩ := id hs
  unfold Builtin.Slice.sliceApplied Builtin.Slice.sliceFields
  refine wpAny_bind (wpAny_bind (wpAny_field hos hds (x := vl) rfl (wpAny_bind (wpAny_field hos hds (x := vu) rfl (wpAny_bind (wpAny_field hos hds (x := vs) rfl (wpAny_pure ?_)))))))
  refine wpAny_bind (slicePart_ ps ?_)
  show wpAny _ _ (if ((-1 : Int) == 0) = true then _ else _) _ _ s
  rw [if_neg (by decide)]
  refine wpAny_bind (slicePart_ pl (wpAny_bind (slicePart_ pu (wpAny_bind (wpAny_pure ?_)))))
  show wpAny _ _ (match Builtin.Slice.sliceAdjust none none (-1) (n : Int) with | (lo, hi) => pure (lo, (-1 : Int), Builtin.Slice.slicePlaces lo hi (-1))) _ _ s
  rw [adjust_rev n]
  show wpAny _ _ (pure (((n : Int) - 1), (-1 : Int), Builtin.Slice.slicePlaces ((n : Int) - 1) (-1) (-1))) _ _ s
  rw [places_rev]
  exact wpAny_pure h
theorem getItem_tuple_rev {t sl : Addr} {items : Array Value} {vl vu vs : Value} {Q : Value → Shared → Prop} (ht : IsTup s.heap t items) (hs : s.heap.IsSliceOf sl vl vu vs) (pl : IsPart vl none) (pu : IsPart vu none) (ps : IsPart vs (some (-1)))
    (h : Q (.ref s.heap.objs.size) { s with heap := s.heap.push { cls := .type "tuple", data := .seq items.toList.reverse.toArray } })
    (hsz : items.size ≤ sizeLine) : wpAny (model prog w) A (getItem (.ref t) (.ref sl)) Q E s := by
  have htake : sizeOk (.seq items.toList.reverse.toArray) := by
    show items.toList.reverse.toArray.size ≤ sizeLine
    rw [List.size_toArray, List.length_reverse, Array.length_toList]
    omega
  obtain ⟨os, hos, hcs, hds⟩ := id hs
  have hTs : s.TypeIs (.ref sl) "slice" := ⟨os, hos, hcs⟩
  unfold getItem
  try with_reducible refine wpAny_holding ?_
  first | refine wpAny_bind (wpAny_pure ?_) | skip
  refine wpAny_bind (wpAny_sequenceKey ht.typeIs (by decide) ?_)
  refine wpAny_bind (wpAny_callSpecial?_slot (name := Str.ofString "__getitem__") ht.typeIs PyProof.Rows.slot_tuple_getitem
    (wpAny_call_entry PyProof.Rows.slot_tuple_getitem ht.typeIs entry_tuple_getitem ?_ (args_tuple_getitem _ _)))
  show wpAny _ _ (Builtin.Tuple.tupleItemsOf (.ref t) >>= _) _ _ s
  refine wpAny_bind (tupleItemsOf_ ht ?_)
  refine wpAny_bind (wpAny_typeOf hTs ?_)
  rw [if_pos (by decide)]
  refine wpAny_bind (sliceApplied_rev hs pl pu ps ?_)
  have hno : ¬ ((((items.size : Int) - 1) == 0 && (-1 : Int) == 1 && items.size == items.size) = true) := by
    intro q
    rw [Bool.and_eq_true, Bool.and_eq_true] at q
    exact absurd q.1.2 (by decide)
  show wpAny _ _ (if (((items.size : Int) - 1) == 0 && (-1 : Int) == 1 && items.size == items.size) = true then _ else _) _ _ s
  rw [if_neg hno, pick_rev]
  first
    | exact wpAny_bind (m := Builtin.Tuple.tupleExact _) (wpAny_newObj_type (wpAny_pure ⟨_, rfl, wpAny_pure h⟩) htake)
    | exact wpAny_bind (m := Builtin.Tuple.tupleExact _) (wpAny_newObj_type (wpAny_bind (wpAny_pure (wpAny_pure ⟨_, rfl, wpAny_pure h⟩))) htake)
    | exact wpAny_bind (wpAny_bind (m := Builtin.Tuple.tupleExact _) (wpAny_newObj_type (wpAny_pure (wpAny_pure ⟨_, rfl, wpAny_pure h⟩)) htake))
    | exact wpAny_bind (wpAny_bind (m := Builtin.Tuple.tupleExact _) (wpAny_newObj_type (wpAny_pure ⟨_, rfl, wpAny_pure h⟩) htake))
end
/-- xs[::-1], a list or a tuple -/
def tRevA (K : KK) (te : TE) : TE := fun σ H Q => te σ H fun x H1 => ∃ a xs, x = .ref a ∧ ((SqL K H1 a xs ∧ ∀ p, H1 p = none → Q (.ref p) (upd H1 p (.lst xs.reverse))) ∨ (SqT K H1 a xs ∧ ∀ p, H1 p = none → Q (.ref p) (upd H1 p (.tup xs.reverse))))
theorem pe_revA {X : Cx} {e : Expr} {te : TE} {k : Nat} {p1 p2 p3 pos : Pos} (he : PE X e te) : PE X (.Subscript e (.Slice none none (some (.UnaryOp .USub (.Constant (.int 1) k p1) p2)) p3) pos) (tRevA (Ckk X) te) := by
  refine ⟨fun pins s σ H Q I h => ?_⟩
  refine Subscript_ (thn (he.run pins s σ H _ I h) fun v s1 ⟨x, H1, I1, r1, q1⟩ => ?_)
  obtain ⟨a, xs, ex, q⟩ := q1
  subst ex
  cases r1
  have hst : PO X (some (.UnaryOp .USub (.Constant (.int 1) k p1) p2)) (tPart (tUn (rU fun i => .int (-i)) (tC (.int 1)))) := po_some (pe_un un_neg pe_int)
  refine wpAny_Slice (thn (po_none.run pins s1 σ H1 (fun o H2 => o = none ∧ H2 = H1) I1 ⟨rfl, rfl⟩) fun vl s2 ⟨l, H2, I2, pl, el, e2⟩ => ?_)
  subst el e2
  refine thn (po_none.run pins s2 σ H2 (fun o H3 => o = none ∧ H3 = H2) I2 ⟨rfl, rfl⟩) fun vu s3 ⟨u, H3, I3, pu, eu, e3⟩ => ?_
  subst eu e3
  refine thn (hst.run pins s3 σ H3 (fun o H4 => o = some (-1) ∧ H4 = H3) I3 ⟨1, rfl, -1, rfl, rfl, rfl⟩) fun vs s4 ⟨o, H4, I4, ps, eo, e4⟩ => ?_
  subst eo e4
  have I5 : Inv X pins σ H4 { s4 with heap := s4.heap.push { cls := .type "slice", data := .fields #[vl, vu, vs] } } := I4.kept (t' := s4.toks) fun b ob q => Heap.get?_push_of_some _ q
  show wpAny (model X.prog X.w) X.A (subscriptTail e (.Slice none none (some (.UnaryOp .USub (.Constant (.int 1) k p1) p2)) p3) (.ref a) (.ref s4.heap.objs.size)) (EP X pins σ Q) X.xe { s4 with heap := s4.heap.push { cls := .type "slice", data := .fields #[vl, vu, vs] } }
  rcases q with ⟨hx, q⟩ | ⟨hx, q⟩
  · obtain ⟨its, r, ht, hz⟩ := I5.list hx
    have hlen := r.length
    refine tail_any (ops := [.ref a, .ref s4.heap.objs.size]) ht.isList.typeIs (PySem.slot_list_getitem.lookup) ?_ (by with_unfolding_all rfl)
    refine wpAny_getItem_list_slice ht.isList (Heap.IsSliceOf.new _ vl vu vs) pl pu ps (by decide) ?_ (by rw [List.size_toArray]; omega)
    rw [PySem.W.krv_pick]
    refine ⟨.ref _, _, I5.laid (t' := s4.toks) (o := .lst xs.reverse) (fun b ob q => Heap.get?_push_of_some _ q) (Nat.le_refl _) ?_, rfl, q _ (I5.hok.fresh (Nat.le_refl _))⟩
    exact ⟨by rw [List.length_reverse]; exact hz, _, 0, r.reverse, Heap.get?_push_size _ rfl⟩
  · obtain ⟨its, r, ht, hz⟩ := I5.tuple hx
    have hlen := r.length
    refine tail_any (ops := [.ref a, .ref s4.heap.objs.size]) ht.typeIs PyProof.Rows.slot_tuple_getitem.lookup ?_ (by with_unfolding_all rfl)
    refine getItem_tuple_rev ht (Heap.IsSliceOf.new _ vl vu vs) pl pu ps ?_ (by rw [List.size_toArray]; omega)
    rw [show its.toArray.toList = its from rfl]
    refine ⟨.ref _, _, I5.laid (t' := s4.toks) (o := .tup xs.reverse) (fun b ob q => Heap.get?_push_of_some _ q) (Nat.le_refl _) ?_, rfl, q _ (I5.hok.fresh (Nat.le_refl _))⟩
    exact ⟨by rw [List.length_reverse]; exact hz, _, r.reverse, IsTup.new _ _⟩

/-! ### slices over data -/
abbrev OS := List SD → Option (Option Int × List SD)
def SemO (K : KK) (t : TO) (f : OS) : Prop := ∀ F S σ H G o S', SR K F S σ H G → f S = some (o, S') → ∀ Q : Option Int → Hp → Prop, (∀ H' G', SR K F S' σ H' G' → Ex G G' → Q o H') → t σ H Q
structure SO (X : Cx) (K : KK) (e : Option Expr) (t : TO) (f : OS) : Prop where
  p : PO X e t
  ok : SemO K t f
def sNoPart : OS := fun S => some (none, S)
def dIntO : PyData → Option Int
  | .int i => some i
  | _ => none
theorem dIntO_some {x : PyData} {i : Int} (h : dIntO x = some i) : x = .int i := by
  cases x with
  | int j => cases h; rfl
  | _ => cases h
def sPart (f : ES) : OS := fun S => (f S).bind fun p => (p.1.get p.2).bind fun x => (dIntO x).map fun i => (some i, p.2)
section
variable {X : Cx} {K : KK} {e : Expr} {te : TE} {fe : ES} {lo hi : Option Expr} {tl th : TO} {fl fh : OS} {pos p2 : Pos}
theorem sem_noPart : SemO K tNoPart sNoPart := fun F S σ H G o S' r ef Q k => by
  cases ef
  exact k H G r (.refl _)
theorem sem_part (h : SemE K te fe) : SemO K (tPart te) (sPart fe) := fun F S σ H G o S' r ef Q k => by
  obtain ⟨⟨o1, S1⟩, e1, ef⟩ := Option.bind_eq_some_iff.mp ef
  obtain ⟨x, e2, ef⟩ := Option.bind_eq_some_iff.mp ef
  obtain ⟨i, e3, ef⟩ := Option.map_eq_some_iff.mp ef
  cases ef
  have hx := dIntO_some e3
  subst hx
  refine h F S σ H G o1 _ r e1 _ fun v H1 G1 r1 g1 h1 => ?_
  have := op_get r1 h1 e2
  exact ⟨i, this.int, k H1 G1 r1 g1⟩
theorem so_none : SO X K none tNoPart sNoPart := ⟨po_none, sem_noPart⟩
theorem so_some (h : SE X K e te fe) : SO X K (some e) (tPart te) (sPart fe) := ⟨po_some h.p, sem_part h.ok⟩
def cutD (xs : List PyData) (lo hi : Option Int) : List PyData := (xs.drop (HT.sIx xs.length 0 lo)).take (HT.sIx xs.length xs.length hi - HT.sIx xs.length 0 lo)
theorem RpAll.cut {G : Hp} {vs : List V} {xs : List PyData} (h : RpAll K G vs xs) (lo hi : Option Int) : RpAll K G (cutV vs lo hi) (cutD xs lo hi) := by
  unfold cutV cutD
  rw [h.length]
  exact (h.drop _).take _
def dCut (x : PyData) (lo hi : Option Int) : Option PyData := match x with
  | .tuple xs => some (.tuple (cutD xs lo hi))
  | .list xs => some (.list (cutD xs lo hi))
  | _ => none
def dCutL (x : PyData) (lo hi : Option Int) : Option (List PyData) := match x with
  | .list xs => some (cutD xs lo hi)
  | _ => none
def rSl2 (K : KK) : V → Option Int → Option Int → Hp → VK → Prop := fun x lo hi H Q => rSlA K x lo hi H Q ∨ rSlL K x lo hi H Q
theorem sl_2 (hK : Ckk X = K) : SlR X (rSl2 K) := by subst hK; exact sl_tupA.or sl_list
def sSlice (fe : ES) (fl fh : OS) : ES := fun S => (fe S).bind fun p => (fl p.2).bind fun q => (fh q.2).bind fun r => (p.1.get r.2).bind fun x => (dCut x q.1 r.1).map fun z => (.dat z, r.2)
def sSliceL (fe : ES) (fl fh : OS) : LS := fun S => (fe S).bind fun p => (fl p.2).bind fun q => (fh q.2).bind fun r => (p.1.get r.2).bind fun x => (dCutL x q.1 r.1).map fun z => (z, r.2)
theorem whole_cut {xs : List V} {lo hi : Option Int} (h : HT.sIx xs.length 0 lo = 0 ∧ HT.sIx xs.length xs.length hi = xs.length) : cutV xs lo hi = xs := by
  unfold cutV
  rw [h.1, h.2]
  simp
theorem sem_slice (ha : SemE K te fe) (h1 : SemO K tl fl) (h2 : SemO K th fh) : SemE K (tSl (rSl2 K) te tl th) (sSlice fe fl fh) := fun F S σ H G o S' r ef Q k => by
  obtain ⟨⟨o1, S1⟩, e1, ef⟩ := Option.bind_eq_some_iff.mp ef
  obtain ⟨⟨l, S2⟩, e2, ef⟩ := Option.bind_eq_some_iff.mp ef
  obtain ⟨⟨u, S3⟩, e3, ef⟩ := Option.bind_eq_some_iff.mp ef
  obtain ⟨x, e4, ef⟩ := Option.bind_eq_some_iff.mp ef
  obtain ⟨z, e5, ef⟩ := Option.map_eq_some_iff.mp ef
  cases ef
  refine ha F S σ H G o1 S1 r e1 _ fun v H1 G1 r1 g1 q1 => ?_
  refine h1 F S1 σ H1 G1 l S2 r1 e2 _ fun H2 G2 r2 g2 => ?_
  refine h2 F S2 σ H2 G2 u _ r2 e3 _ fun H3 G3 r3 g3 => ?_
  have g := (g1.trans g2).trans g3
  have hx := op_get r3 (q1.mono (g2.trans g3)) e4
  cases x with
  | tuple xs =>
    cases e5
    have hR : Rp K G3 v (.tuple xs) := by
      rcases hx with h | ⟨_, _, _, h, _⟩
      · exact h
      · cases h
    cases hR with
    | @tup a vs _ ht ha =>
      refine .inl ⟨_, _, rfl, r3.gh.st ht, fun hw => k _ H3 G3 r3 g ?_, fun hw p hp => ?_⟩
      · have h2 := ha.cut l u
        rw [whole_cut hw] at h2
        exact .tup ht h2
      · have px := PX.laid (o := .tup (cutV vs l u)) r3.gh hp
        exact k _ _ _ (r3.ext px) (g.trans px.gg) (.tup (.inl (.inl upd_same)) ((ha.cut l u).mono px.gg))
  | list xs =>
    cases e5
    obtain ⟨a, vs, rfl, q2, q3⟩ := hx.lst r3.gh
    refine .inr ⟨a, vs, rfl, .inl (.inl q2), fun p hp => ?_⟩
    have px := PX.laid (o := .lst (cutV vs l u)) r3.gh hp
    exact k _ _ _ (r3.ext px) (g.trans px.gg) (.lst upd_same ((q3.cut l u).mono px.gg))
  | _ => cases e5
theorem sem_sliceL (ha : SemE K te fe) (h1 : SemO K tl fl) (h2 : SemO K th fh) : SemL K (tSl (rSl2 K) te tl th) (sSliceL fe fl fh) := fun F S σ H G o S' r ef Q k => by
  obtain ⟨⟨o1, S1⟩, e1, ef⟩ := Option.bind_eq_some_iff.mp ef
  obtain ⟨⟨l, S2⟩, e2, ef⟩ := Option.bind_eq_some_iff.mp ef
  obtain ⟨⟨u, S3⟩, e3, ef⟩ := Option.bind_eq_some_iff.mp ef
  obtain ⟨x, e4, ef⟩ := Option.bind_eq_some_iff.mp ef
  obtain ⟨z, e5, ef⟩ := Option.map_eq_some_iff.mp ef
  cases ef
  refine ha F S σ H G o1 S1 r e1 _ fun v H1 G1 r1 g1 q1 => ?_
  refine h1 F S1 σ H1 G1 l S2 r1 e2 _ fun H2 G2 r2 g2 => ?_
  refine h2 F S2 σ H2 G2 u _ r2 e3 _ fun H3 G3 r3 g3 => ?_
  have g := (g1.trans g2).trans g3
  have hx := op_get r3 (q1.mono (g2.trans g3)) e4
  cases x with
  | list xs =>
    cases e5
    obtain ⟨a, vs, rfl, q2, q3⟩ := hx.lst r3.gh
    refine .inr ⟨a, vs, rfl, .inl (.inl q2), fun p hp => ?_⟩
    obtain ⟨f0, fg, fa⟩ := r3.fresh hp
    have px := PX.side (o := .lst (cutV vs l u)) r3.gh hp
    exact k _ _ _ _ (r3.ext px) g f0 fg fa upd_same (q3.cut l u)
  | _ => cases e5
theorem se_slice (hK : Ckk X = K) (he : SE X K e te fe) (h1 : SO X K lo tl fl) (h2 : SO X K hi th fh) : SE X K (.Subscript e (.Slice lo hi none p2) pos) (tSl (rSl2 K) te tl th) (sSlice fe fl fh) := ⟨pe_slice (sl_2 hK) he.p h1.p h2.p, sem_slice he.ok h1.ok h2.ok⟩
theorem sl_slice (hK : Ckk X = K) (he : SE X K e te fe) (h1 : SO X K lo tl fl) (h2 : SO X K hi th fh) : SL X K (.Subscript e (.Slice lo hi none p2) pos) (tSl (rSl2 K) te tl th) (sSliceL fe fl fh) := ⟨pe_slice (sl_2 hK) he.p h1.p h2.p, sem_sliceL he.ok h1.ok h2.ok⟩
def dRev : PyData → Option PyData
  | .tuple xs => some (.tuple xs.reverse)
  | .list xs => some (.list xs.reverse)
  | _ => none
theorem sem_rev (ha : SemE K te fe) : SemE K (tRevA K te) (sUn dRev fe) := fun F S σ H G o S' r ef Q k => by
  obtain ⟨⟨o1, S1⟩, e1, ef⟩ := Option.bind_eq_some_iff.mp ef
  obtain ⟨x, e4, ef⟩ := Option.bind_eq_some_iff.mp ef
  obtain ⟨z, e5, ef⟩ := Option.map_eq_some_iff.mp ef
  cases ef
  refine ha F S σ H G o1 _ r e1 _ fun v H3 G3 r3 g q1 => ?_
  have hx := op_get r3 q1 e4
  cases x with
  | tuple xs =>
    cases e5
    obtain ⟨a, vs, rfl, q2, q3⟩ := hx.tup r3.gh
    refine ⟨a, vs, rfl, .inr ⟨q2, fun p hp => ?_⟩⟩
    have px := PX.laid (o := .tup vs.reverse) r3.gh hp
    exact k _ _ _ (r3.ext px) (g.trans px.gg) (.tup (.inl (.inl upd_same)) (q3.reverse.mono px.gg))
  | list xs =>
    cases e5
    obtain ⟨a, vs, rfl, q2, q3⟩ := hx.lst r3.gh
    refine ⟨a, vs, rfl, .inl ⟨.inl (.inl q2), fun p hp => ?_⟩⟩
    have px := PX.laid (o := .lst vs.reverse) r3.gh hp
    exact k _ _ _ (r3.ext px) (g.trans px.gg) (.lst upd_same (q3.reverse.mono px.gg))
  | _ => cases e5
theorem se_rev {kk : Nat} {p1 p3 p4 : Pos} (hK : Ckk X = K) (he : SE X K e te fe) : SE X K (.Subscript e (.Slice none none (some (.UnaryOp .USub (.Constant (.int 1) kk p1) p3)) p4) pos) (tRevA K te) (sUn dRev fe) := by
  subst hK
  exact ⟨pe_revA he.p, sem_rev he.ok⟩
end
end DL

set_option Elab.async false
set_option linter.all false
set_option maxRecDepth 100000
set_option maxHeartbeats 4000000
/-! DL, part 9: t * k of any kind, sorted(set(t)), repr. -/
namespace DL
open PySem PySem.Spec PyProof.Rows L2

theorem tuple_mulS (l : Addr) (items : Array Value) (n : Nat) (dd : Option Addr) (sl : Array (Option Value)) (x : Int) (u : Tok) (c0 : (decide (x < -(2 ^ 63)) || decide (x ≥ 2 ^ 63)) = false) (c1 : (items.isEmpty || x == 1) = true) :
    Meets (Builtin.«tuple.__mul__» ⟨[.ref l, .int x u], []⟩) (fun _ R s => s.heap.get? l = some { cls := .type "tuple", dict := dd, data := .seq items n, slots := sl } ∧
      R (.ok (.ret (Value.ref l))) s) :=
  .of_wp fun prog w A R s h => by
    obtain ⟨hp, g, d, tk, os⟩ := s
    obtain ⟨hl, h⟩ := h
    have f1 := AutoSeq1.idx_int
    wp_walk using wpAny_loadPart' hl
    repeat (first
      | (refine wpAny_ite_false (decide_eq_false (by rw [c0]; exact Bool.false_ne_true)) ?_; wp_walk using wpAny_loadPart' hl)
      | (refine wpAny_ite_true (decide_eq_true c1) ?_; wp_walk using wpAny_loadPart' hl))
    exact ⟨_, rfl, h⟩
theorem tuple_mulE (l : Addr) (items : Array Value) (n : Nat) (dd : Option Addr) (sl : Array (Option Value)) (x : Int) (u : Tok) (c0 : (decide (x < -(2 ^ 63)) || decide (x ≥ 2 ^ 63)) = false) (c1 : (items.isEmpty || x == 1) = false) (c2 : (decide (x ≤ 0) || items.isEmpty) = true) :
    Meets (Builtin.«tuple.__mul__» ⟨[.ref l, .int x u], []⟩) (fun _ R s => s.heap.get? l = some { cls := .type "tuple", dict := dd, data := .seq items n, slots := sl } ∧
      R (.ok (.ret (Value.ref s.heap.objs.size))) { s with heap := s.heap.push { cls := Value.type "tuple", data := Data.seq #[] }, toks := s.toks }) :=
  .of_wp fun prog w A R s h => by
    obtain ⟨hp, g, d, tk, os⟩ := s
    obtain ⟨hl, h⟩ := h
    have f1 := AutoSeq1.idx_int
    wp_walk using wpAny_loadPart' hl
    repeat (first
      | (refine wpAny_ite_false (decide_eq_false (by rw [c0]; exact Bool.false_ne_true)) ?_; wp_walk using wpAny_loadPart' hl)
      | (refine wpAny_ite_false (decide_eq_false (by rw [c1]; exact Bool.false_ne_true)) ?_; wp_walk using wpAny_loadPart' hl)
      | (refine wpAny_ite_true (decide_eq_true c2) ?_; wp_walk using wpAny_loadPart' hl))
    exact ⟨_, rfl, h⟩

def rRepS (K : KK) : R2 := fun x y H Q => ∃ l k xs, x = .ref l ∧ y = .int k ∧ SqT K H l xs ∧ -(2 ^ 62) ≤ k ∧ k < 2 ^ 62 ∧ (xs = [] ∨ k = 1) ∧ Q (.ref l) H
def rRepE (K : KK) : R2 := fun x y H Q => ∃ l k xs, x = .ref l ∧ y = .int k ∧ SqT K H l xs ∧ -(2 ^ 62) ≤ k ∧ k ≤ 0 ∧ xs ≠ [] ∧ ∀ p, H p = none → Q (.ref p) (upd H p (.tup []))
section
variable {X : Cx} {K : KK}
theorem op_repS : L2.OpR X (binaryOp .Mult) (rRepS (Ckk X)) := by
  intro pins s σ H x y v u Q I rx ry h
  obtain ⟨l, k, xs, rfl, rfl, hT, h1, h2, h3, q⟩ := h
  cases rx
  obtain ⟨t, rfl⟩ := ry
  obtain ⟨its, r, ⟨⟨cls, dd, data, sl⟩, ho, hc, n, hd⟩, hs⟩ := I.tuple hT
  simp only at hc hd
  subst hc hd
  have hle : its.length = xs.length := r.length.symm
  have c0 : (decide (k < -(2 ^ 63)) || decide (k ≥ 2 ^ 63)) = false := by
    rw [decide_eq_false (by omega), decide_eq_false (by omega)] <;> rfl
  have c1 : (its.toArray.isEmpty || k == 1) = true := by
    rcases h3 with h3 | h3
    · subst h3
      have : its = [] := List.eq_nil_of_length_eq_zero (by simpa using hle)
      subst this; rfl
    · subst h3; simp
  exact wpAny_binaryOp_repeat_ref (T := "tuple") (U := "int") (by decide) ⟨_, ho, rfl⟩ (fun s' => typeIs_int s' k t) noFill_tuple_mul F.fills_int_mul F.slot_int_rmul repeat_tuple F.slot_int_index.lookup
    (call_meets F.slot_int_rmul (typeIs_int s k t) F.entry_int_rmul (F.args_int_rmul_2 _ _) (int_rmul_tuple k t l its.toArray n dd sl)
      ⟨ho, rfl, ⟨_, ho, rfl⟩, call_meets F.slot_tuple_mul ⟨_, ho, rfl⟩ F.entry_tuple_mul (F.args_tuple_mul_2 _ _) (tuple_mulS l its.toArray n dd sl k t c0 c1) ⟨ho, .ref l, H, I, rfl, q⟩⟩)
theorem op_repE : L2.OpR X (binaryOp .Mult) (rRepE (Ckk X)) := by
  intro pins s σ H x y v u Q I rx ry h
  obtain ⟨l, k, xs, rfl, rfl, hT, h1, h2, h3, q⟩ := h
  cases rx
  obtain ⟨t, rfl⟩ := ry
  obtain ⟨its, r, ⟨⟨cls, dd, data, sl⟩, ho, hc, n, hd⟩, hs⟩ := I.tuple hT
  simp only at hc hd
  subst hc hd
  have hle : its.length = xs.length := r.length.symm
  have hi : its.toArray.isEmpty = false := by
    cases its with
    | nil => exact absurd (List.eq_nil_of_length_eq_zero hle.symm) h3
    | cons a b => rfl
  have c0 : (decide (k < -(2 ^ 63)) || decide (k ≥ 2 ^ 63)) = false := by
    rw [decide_eq_false (by omega), decide_eq_false (by omega)] <;> rfl
  have c1 : (its.toArray.isEmpty || k == 1) = false := by
    rw [hi, Bool.false_or]
    exact beq_eq_false_iff_ne.mpr (by omega)
  have c2 : (decide (k ≤ 0) || its.toArray.isEmpty) = true := by
    rw [hi, Bool.or_false]
    exact decide_eq_true h2
  refine wpAny_binaryOp_repeat_ref (T := "tuple") (U := "int") (by decide) ⟨_, ho, rfl⟩ (fun s' => typeIs_int s' k t) noFill_tuple_mul F.fills_int_mul F.slot_int_rmul repeat_tuple F.slot_int_index.lookup
    (call_meets F.slot_int_rmul (typeIs_int s k t) F.entry_int_rmul (F.args_int_rmul_2 _ _) (int_rmul_tuple k t l its.toArray n dd sl)
      ⟨ho, rfl, ⟨_, ho, rfl⟩, call_meets F.slot_tuple_mul ⟨_, ho, rfl⟩ F.entry_tuple_mul (F.args_tuple_mul_2 _ _) (tuple_mulE l its.toArray n dd sl k t c0 c1 c2) ⟨ho, ?_⟩⟩)
  refine ⟨.ref s.heap.objs.size, _, I.laid (t' := s.toks) (o := .tup []) (fun b ob q => Heap.get?_push_of_some _ q) (Nat.le_refl _) ?_, rfl, q _ (I.hok.fresh (Nat.le_refl _))⟩
  exact ⟨by show 0 ≤ sizeLine; decide, [], .nil, IsTup.new _ _⟩
/-- x * k: ints, a tuple or a list by an int -/
noncomputable def dMulX (x y : PyData) : Option PyData := match x, y with
  | .int i, .int j => if CMul i j then some (.int (i * j)) else none
  | .tuple xs, .int k => if -1000 ≤ k ∧ k ≤ 1000 ∧ xs.length ≤ 1000 then some (.tuple (List.replicate k.toNat xs).flatten) else none
  | .list xs, .int k => if 0 ≤ k ∧ k ≤ 1000 ∧ xs.length ≤ 1000 then some (.list (List.replicate k.toNat xs).flatten) else none
  | _, _ => none
def rMulX (K : KK) : R2 := fun x y H Q => rMulA K x y H Q ∨ rRepS K x y H Q ∨ rRepE K x y H Q
theorem opMulX (hK : Ckk X = K) : L2.OpR X (binaryOp .Mult) (rMulX K) := by subst hK; exact (opMul rfl).or (op_repS.or op_repE)
theorem vMulX : V2 K (rMulX K) dMulX := fun G H v w x y z e rx ry q Q k => by
  have old : ∀ z', dMul x y = some z' → (z' = z) → rMulX K v w H Q := fun z' h1 h2 => .inl (vMul G H v w x y z' e rx ry h1 Q (by rw [h2]; exact k))
  unfold dMulX at q
  split at q
  · exact old _ q rfl
  · rename_i xs j
    split at q
    · rename_i hc
      cases q
      have hR : Rp K G v (.tuple xs) := by
        rcases rx with h | ⟨_, _, _, h, _⟩
        · exact h
        · cases h
      cases hR with
      | tup ht ha =>
        have hj : w = .int j := ry.int
        subst hj
        by_cases h0 : xs = []
        · subst h0
          cases ha
          refine .inr (.inl ⟨_, j, [], rfl, rfl, e.st ht, by omega, by omega, .inl rfl, k _ H G (.refl e) (.tup ht ?_)⟩)
          have : ∀ n : Nat, (List.replicate n ([] : List PyData)).flatten = [] := fun n => by induction n with
            | zero => rfl
            | succ n ih => rw [List.replicate_succ, List.flatten_cons, ih]; rfl
          rw [this]; exact .nil
        · by_cases h1 : j = 1
          · subst h1
            refine .inr (.inl ⟨_, 1, _, rfl, rfl, e.st ht, by omega, by omega, .inr rfl, k _ H G (.refl e) (.tup ht ?_)⟩)
            have : (List.replicate (1 : Int).toNat xs).flatten = xs := by simp
            rw [this]; exact ha
          · by_cases h2 : 2 ≤ j
            · exact old _ (by unfold dMul; simp only; rw [if_pos ⟨h0, h2, hc.2.1, hc.2.2⟩]) rfl
            · refine .inr (.inr ⟨_, j, _, rfl, rfl, e.st ht, by omega, by omega, fun q => h0 ?_, fun p hp => ?_⟩)
              · have := ha.length; rw [q] at this; exact List.eq_nil_of_length_eq_zero this.symm
              · have px := PX.laid (o := .tup []) e hp
                refine k _ _ _ px (.tup (.inl (.inl upd_same)) ?_)
                have : j.toNat = 0 := by omega
                rw [this]; exact .nil
    · cases q
  · exact old _ q rfl
  · cases q

def insU (x : Int) : List Int → List Int
  | [] => [x]
  | y :: r => if x < y then x :: y :: r else if x = y then y :: r else y :: insU x r
def setI : List Int → List Int
  | [] => []
  | x :: r => insU x (setI r)
theorem insU_mem (x k : Int) : ∀ l : List Int, k ∈ insU x l ↔ k = x ∨ k ∈ l
  | [] => by simp [insU]
  | y :: r => by
    unfold insU
    split
    · simp
    · split
      · rename_i h; subst h
        simp
      · simp only [List.mem_cons, insU_mem x k r]
        constructor
        · rintro (h | h | h)
          · exact .inr (.inl h)
          · exact .inl h
          · exact .inr (.inr h)
        · rintro (h | h | h)
          · exact .inr (.inl h)
          · exact .inl h
          · exact .inr (.inr h)
theorem setI_mem (k : Int) : ∀ l : List Int, k ∈ setI l ↔ k ∈ l
  | [] => by simp [setI]
  | x :: r => by
    show k ∈ insU x (setI r) ↔ _
    rw [insU_mem, setI_mem k r, List.mem_cons]
theorem insU_sorted (x : Int) : ∀ l : List Int, l.Pairwise (· < ·) → (insU x l).Pairwise (· < ·)
  | [], _ => by simp [insU]
  | y :: r, h => by
    have h' := List.pairwise_cons.mp h
    unfold insU
    split
    · rename_i hxy
      refine List.pairwise_cons.mpr ⟨fun z hz => ?_, h⟩
      rcases List.mem_cons.mp hz with rfl | hz
      · exact hxy
      · exact Int.lt_trans hxy (h'.1 z hz)
    · split
      · exact h
      · rename_i hxy hne
        refine List.pairwise_cons.mpr ⟨fun z hz => ?_, insU_sorted x r h'.2⟩
        rcases (insU_mem x z r).mp hz with rfl | hz
        · omega
        · exact h'.1 z hz
theorem setI_sorted : ∀ l : List Int, (setI l).Pairwise (· < ·)
  | [] => .nil
  | x :: r => insU_sorted x _ (setI_sorted r)
theorem strict_unique : ∀ {l m : List Int}, l.Pairwise (· < ·) → m.Pairwise (· < ·) → (∀ k, k ∈ l ↔ k ∈ m) → l = m
  | [], [], _, _, _ => rfl
  | [], y :: m, _, _, h => by have := (h y).mpr (by simp); simp at this
  | x :: l, [], _, _, h => by have := (h x).mp (by simp); simp at this
  | x :: l, y :: m, h1, h2, h => by
    have a := List.pairwise_cons.mp h1
    have b := List.pairwise_cons.mp h2
    have e : x = y := by
      have m1 : x ∈ y :: m := (h x).mp (by simp)
      have m2 : y ∈ x :: l := (h y).mpr (by simp)
      rcases List.mem_cons.mp m1 with q | q
      · exact q
      · rcases List.mem_cons.mp m2 with q' | q'
        · exact q'.symm
        · have := b.1 x q
          have := a.1 y q'
          omega
    subst e
    rw [strict_unique a.2 b.2 fun k => ?_]
    constructor
    · intro hk
      rcases List.mem_cons.mp ((h k).mp (List.mem_cons_of_mem _ hk)) with rfl | q
      · have := a.1 k hk; omega
      · exact q
    · intro hk
      rcases List.mem_cons.mp ((h k).mpr (List.mem_cons_of_mem _ hk)) with rfl | q
      · have := b.1 k hk; omega
      · exact q

theorem insU_len (x : Int) : ∀ l : List Int, x ∉ l → (insU x l).length = l.length + 1
  | [], _ => rfl
  | y :: r, h => by
    have hy : x ≠ y := fun e => h (by simp [e])
    have hr : x ∉ r := fun e => h (List.mem_cons_of_mem _ e)
    unfold insU
    by_cases h1 : x < y
    · rw [if_pos h1]; rfl
    · rw [if_neg h1, if_neg hy]
      simp [insU_len x r hr]
theorem setI_len : ∀ l : List Int, l.Nodup → (setI l).length = l.length
  | [], _ => rfl
  | x :: r, h => by
    have h' := List.nodup_cons.mp h
    show (insU x (setI r)).length = _
    rw [insU_len x (setI r) fun e => h'.1 ((setI_mem x r).mp e), setI_len r h'.2]
    rfl
theorem setI_count {l ns : List Int} (h : l.Nodup) (hm : ∀ k, k ∈ l ↔ k ∈ ns) : l.length = (setI ns).length := by
  rw [← setI_len l h, strict_unique (setI_sorted l) (setI_sorted ns) fun k => by rw [setI_mem, setI_mem, hm k]]
/-! ### sorted(set(x)) -/
def rSetI (w : World) (K : KK) : List V → Hp → VK → Prop := fun vs H Q => ∃ (a : Addr) (ns : List Int), vs = [V.ref a] ∧ SqT K H a (ns.map V.int) ∧ ns.length ≤ 1000 ∧
  ∀ p : Addr, H p = none → Q (.ref p) (upd H p (SetO w p (fun j => decide (j ∈ ns)) (setI ns).length))
theorem cr_setI (hc : X.calm = true) : CallR X (.type "set") (rSetI X.w (Ckk X)) := by
  intro pins s σ H vs us Q I r h
  obtain ⟨a, ns, rfl, ha, hl, q⟩ := h
  rw [Vals.ref1 r]
  obtain ⟨its, rv, p, hz⟩ := I.tuple ha
  refine call_set_tupI ns (I.ok.hd hc) p (intsAre_of rv) (Nat.lt_of_le_of_lt (Nat.succ_le_succ hl) (by unfold scanBound; omega)) fun h' tk c hR hcn hk => ?_
  have hc2 : c = (setI ns).length := by
    obtain ⟨o, es, ep, t, _, _, _, _, nd, mem, _, _, hn, _⟩ := id hR
    have e := setI_count (ns := ns) nd fun k => by rw [← mem k]; simp
    rw [← e]; simp [hn]
  subst hc2
  exact ⟨.ref s.heap.objs.size, upd H s.heap.objs.size (SetO X.w s.heap.objs.size (fun j => decide (j ∈ ns)) (setI ns).length), I.laid (t' := tk) hk (Nat.le_refl _) (setO_new hR), rfl, q _ (I.hok.fresh (Nat.le_refl _))⟩
end
def dSetL : List PyData → Option (List PyData)
  | [.tuple xs] => (dInts xs).bind fun ns => if ns.length ≤ 1000 ∧ (setI ns).length < 64 then some ((setI ns).map .int) else none
  | _ => none
section
variable {X : Cx} {K : KK} {e : Expr} {tA : TA} {fs : AS}
theorem sem_sortSet {w : World} (ha : SemA K tA fs) : SemL K (tCB (rSortedSet w) (tCons (tCB (rSetI w K) tA) tNil)) (sCBL dSetL fs) := by
  intro F S σ H G o S' r ef Q k
  obtain ⟨⟨os, S1⟩, e1, ef⟩ := Option.bind_eq_some_iff.mp ef
  obtain ⟨xs, e3, ef⟩ := Option.bind_eq_some_iff.mp ef
  obtain ⟨z, e5, ef⟩ := Option.map_eq_some_iff.mp ef
  cases ef
  refine ha F S σ H G os _ r e1 _ fun vs H1 G1 r1 g1 h1 => ?_
  have hv := ops_get r1 h1 e3
  unfold dSetL at e5
  split at e5
  · obtain ⟨ns, e6, e7⟩ := Option.bind_eq_some_iff.mp e5
    split at e7
    · rename_i hl
      cases e7
      cases hv with
      | cons rv t =>
        cases t
        obtain ⟨a, ws, rfl, q2, q3⟩ := rv.tup r1.gh
        have hx := dInts_some e6
        subst hx
        have hw := q3.ints
        subst hw
        refine ⟨a, ns, rfl, q2, hl.1, fun p hp => ?_⟩
        show rSortedSet w [V.ref p] _ Q
        refine ⟨p, _, (setI ns).length, rfl, upd_same, hl.2, fun ms q hs hm hlm hq => ?_⟩
        have hms : ms = setI ns := strict_unique hs (setI_sorted ns) fun k => by rw [hm k, setI_mem]; simp
        subst hms
        have p1 := PX.side (o := SetO w p (fun j => decide (j ∈ ns)) (setI ns).length) r1.gh hp
        have r2 := r1.ext p1
        obtain ⟨f0, fg, fa⟩ := r2.fresh hq
        have p2 := PX.side (o := .lst ((setI ns).map V.int)) r2.gh hq
        exact k q _ _ _ (r2.ext p2) g1 f0 fg fa upd_same (RpAll.of_ints _)
    · cases e7
  · cases e5
theorem sl_sortSet {p1 p2 q1 q2 : Pos} (hK : Ckk X = K) (hc : X.calm = true) (hm1 : X.mg "sorted" = none) (hm2 : X.mg "set" = none) (hb1 : bootBuiltins "sorted" = some (.builtin "sorted")) (hb2 : bootBuiltins "set" = some (.type "set")) (ha : SA X K [e] tA fs) (hg1 : Gl X "sorted" := by rfl) (hg2 : Gl X "set" := by rfl)
    (he : starEach [e] X.env = (false, eval e X.env) :: starEach [] X.env := by rfl) (hpl : (backTo q2 (starEach [] X.env)).any (·.1) = false := by rfl)
    (he2 : starEach [.Call (.Name "set" p2) [e] [] q2] X.env = (false, eval (.Call (.Name "set" p2) [e] [] q2) X.env) :: starEach [] X.env := by rfl) (hpl2 : (backTo q1 (starEach [] X.env)).any (·.1) = false := by rfl) :
    SL X K (.Call (.Name "sorted" p1) [.Call (.Name "set" p2) [e] [] q2] [] q1) (tCB (rSortedSet X.w) (tCons (tCB (rSetI X.w K) tA) tNil)) (sCBL dSetL fs) := by
  subst hK
  refine ⟨?_, sem_sortSet ha.ok⟩
  exact pe_callB (cr_sortedSet hc) hg1 hm1 hb1 (pa_cons (pe_callTy (cr_setI hc) hg2 hm2 hb2 ha.p (by decide) (by decide) he hpl) pa_nil he2) (by decide) (by decide) he2 hpl2
end

/-! ### repr -/
section
variable {X : Cx} {K : KK} {pins : List (Addr × Obj)} {σ : L2.St} {H : Hp} {s : Shared}
mutual
theorem readsN (I : Inv X pins σ H s) : ∀ {d : PyData} {v : V} {u : Value}, Rp (Ckk X) H v d → d.hasDict = false → RelV v u → ∃ as, Reads s.heap u d as
  | _, _, _, .non, _, r => by cases r; exact ⟨_, Reads.none⟩
  | _, _, _, .bl b, _, r => by cases r; exact ⟨_, Reads.bool b⟩
  | _, _, _, .int i, _, r => by obtain ⟨t, rfl⟩ := r; exact ⟨_, Reads.int i t⟩
  | _, _, _, .str x, _, r => by obtain ⟨t, rfl⟩ := r; exact ⟨_, Reads.str x t⟩
  | _, _, _, .lst h1 ha, c, r => by
    cases r
    obtain ⟨its, rv, ⟨o, n, ho, hc, _, hd⟩, _⟩ := I.list (.inl (.inl h1))
    obtain ⟨as, hr⟩ := readsNA I ha (by simpa [PyData.hasDict] using c) rv
    exact ⟨_, Reads.list ho hc hd hr⟩
  | _, _, _, .tup h1 ha, c, r => by
    cases r
    obtain ⟨its, rv, ⟨o, ho, hc, n, hd⟩, _⟩ := I.tuple h1
    obtain ⟨as, hr⟩ := readsNA I ha (by simpa [PyData.hasDict] using c) rv
    exact ⟨_, Reads.tuple ho hc hd hr⟩
  | _, _, _, .dic _ _, c, r => by simp [PyData.hasDict] at c
  | _, _, _, .scr _ _, c, r => by simp [PyData.hasDict] at c
theorem readsNA (I : Inv X pins σ H s) : ∀ {ds : List PyData} {vs : List V} {us : List Value}, RpAll (Ckk X) H vs ds → PyData.hasDictAll ds = false → Vals vs us → ∃ as, ReadsAll s.heap us ds as
  | _, _, _, .nil, _, r => by cases r; exact ⟨_, ReadsAll.nil⟩
  | _, _, _, .cons h1 h2, c, r => by
    have c' := Bool.or_eq_false_iff.mp (show (_ || _) = false by simpa [PyData.hasDictAll] using c)
    cases r with
    | cons r1 r2 =>
      obtain ⟨as, q1⟩ := readsN I h1 c'.1 r1
      obtain ⟨bs, q2⟩ := readsNA I h2 c'.2 r2
      exact ⟨_, ReadsAll.cons q1 q2⟩
end
mutual
/-- empty dicts within tuples -/
def eDict : PyData → Bool
  | .none => true
  | .bool _ => true
  | .int _ => true
  | .str _ => true
  | .tuple xs => eDictAll xs
  | .dict kvs => kvs.isEmpty
  | .list _ => false
def eDictAll : List PyData → Bool
  | [] => true
  | x :: xs => eDict x && eDictAll xs
end
mutual
theorem readsE (I : Inv X pins σ H s) : ∀ {d : PyData} {v : V} {u : Value}, Rp (Ckk X) H v d → eDict d = true → RelV v u → ∃ as, Reads s.heap u d as ∧ sysModules ∉ as
  | _, _, _, .non, _, r => by cases r; exact ⟨_, Reads.none, by simp⟩
  | _, _, _, .bl b, _, r => by cases r; exact ⟨_, Reads.bool b, by simp⟩
  | _, _, _, .int i, _, r => by obtain ⟨t, rfl⟩ := r; exact ⟨_, Reads.int i t, by simp⟩
  | _, _, _, .str x, _, r => by obtain ⟨t, rfl⟩ := r; exact ⟨_, Reads.str x t, by simp⟩
  | _, _, _, .lst h1 ha, c, r => by simp [eDict] at c
  | _, _, _, .tup h1 ha, c, r => by
    cases r
    obtain ⟨its, rv, ⟨o, ho, hc, n, hd⟩, _⟩ := I.tuple h1
    obtain ⟨as, hr, hs⟩ := readsEA I ha (by simpa [eDict] using c) rv
    exact ⟨_, Reads.tuple ho hc hd hr, hs⟩
  | _, _, _, @Rp.dicT _ _ a kvs ds h1 h2 n, c, r => by
    cases ds with
    | nil => exact absurd rfl n
    | cons p q => simp [eDict] at c
  | _, _, _, .dic h1 h2, c, r => by
    cases r
    cases h2 with
    | nil =>
      obtain ⟨z, hn, vs, rel, dd⟩ := dk_rd I.hok h1
      cases rel
      obtain ⟨o, es, ep, ho, hex, hd, hl⟩ := dd
      have he : es.toList = [] := by cases q : es.toList with
        | nil => rfl
        | cons e r => have := hl.2.1; rw [q] at this; cases this
      have hc : o.cls = .type "dict" := hex.1
      refine ⟨_, Reads.dict ho hc hd (as := []) (bs := []) (by rw [he]; exact .nil) (by rw [he]; exact .nil), ?_⟩
      intro q
      simp only [List.append_nil, List.mem_singleton] at q
      rw [← q] at hn
      simp at hn
    | cons _ _ => simp [eDict] at c
  | _, _, _, .scr _ _, c, r => by simp [eDict] at c
theorem readsEA (I : Inv X pins σ H s) : ∀ {ds : List PyData} {vs : List V} {us : List Value}, RpAll (Ckk X) H vs ds → eDictAll ds = true → Vals vs us → ∃ as, ReadsAll s.heap us ds as ∧ sysModules ∉ as
  | _, _, _, .nil, _, r => by cases r; exact ⟨_, ReadsAll.nil, by simp⟩
  | _, _, _, .cons h1 h2, c, r => by
    have c' := Bool.and_eq_true_iff.mp (show (_ && _) = true by simpa [eDictAll] using c)
    cases r with
    | cons r1 r2 =>
      obtain ⟨as, q1, z1⟩ := readsE I h1 c'.1 r1
      obtain ⟨bs, q2, z2⟩ := readsEA I h2 c'.2 r2
      exact ⟨_, ReadsAll.cons q1 q2, by simp [z1, z2]⟩
end
def reprOk (d : PyData) : Bool := (!d.hasDict || eDict d) && d.showable && decide (d.shown.length ≤ 1000000) && decide (d.depth ≤ 60)
def dRepr : List PyData → Option PyData
  | [x] => if reprOk x = true then some (.str x.shown) else none
  | _ => none
def rRepr (K : KK) : List V → Hp → VK → Prop := fun xs H Q => ∃ v d, xs = [v] ∧ Rp K H v d ∧ reprOk d = true ∧ Q (.str d.shown) H
theorem crRepr (hK : Ckk X = K) (hg : X.A.guards = some []) {k : Nat} (hr : Room k X.A) : CallR X (.builtin "repr") (rRepr K) := by
  subst hK
  intro pins s σ H xs us Q I r h
  obtain ⟨v, d, rfl, hd, ok, q⟩ := h
  have ok : (((!d.hasDict || eDict d) && d.showable) && decide (d.shown.length ≤ 1000000) && decide (d.depth ≤ 60)) = true := ok
  rw [Bool.and_eq_true, Bool.and_eq_true, Bool.and_eq_true, decide_eq_true_eq, decide_eq_true_eq] at ok
  obtain ⟨⟨⟨o1, o2⟩, o3⟩, o4⟩ := ok
  have hu : X.A.units + (d.depth + 1) < cLine := by have := hr.units; omega
  have hsz : d.shown.length ≤ sizeLine := Nat.le_trans o3 (by decide)
  have hrd : ∀ u, RelV v u → ∃ as, Reads s.heap u d as ∧ (d.hasDict = true → sysModules ∉ as) := fun u ru => by
    by_cases hdc : d.hasDict = true
    · rw [hdc] at o1
      obtain ⟨as, h1, h2⟩ := readsE I hd (by simpa using o1) ru
      exact ⟨as, h1, fun _ => h2⟩
    · obtain ⟨as, h1⟩ := readsN I hd (by simpa using hdc) ru
      exact ⟨as, h1, fun z => absurd z hdc⟩
  cases r with
  | cons r t =>
    cases t
    obtain ⟨as, h1, h2⟩ := hrd _ r
    cases h1 with
    | none => exact PySem.P.repr_of_none ⟨.str _, H, I.tok _, ⟨_, rfl⟩, by simpa [PyData.shown] using q⟩
    | bool b => exact PySem.P.repr_of_bool ⟨.str _, H, I.tok _, ⟨_, rfl⟩, by simpa [PyData.shown] using q⟩
    | int i t => exact PySem.P.repr_of_int (by simpa [PyData.showable] using o2) ⟨.str _, H, I.tok _, ⟨_, rfl⟩, by simpa [PyData.shown] using q⟩
    | str x t => exact PySem.P.repr_of_str ⟨.str _, H, I.tok _, ⟨_, rfl⟩, by simpa [PyData.shown] using q⟩ (by simpa [PyData.shown] using hsz)
    | list a b c e => exact repr_of_reads' (.list a b c e) o2 h2 hg hu (fun _ _ z => z) (fun h' u tk hk => ⟨.str _, H, I.kept hk, ⟨_, rfl⟩, q⟩) hsz
    | tuple a b c e => exact repr_of_reads' (.tuple a b c e) o2 h2 hg hu (fun _ _ z => z) (fun h' u tk hk => ⟨.str _, H, I.kept hk, ⟨_, rfl⟩, q⟩) hsz
    | dict a b c e f => exact repr_of_reads' (.dict a b c e f) o2 h2 hg hu (fun _ _ z => z) (fun h' u tk hk => ⟨.str _, H, I.kept hk, ⟨_, rfl⟩, q⟩) hsz
theorem vRepr : VN K (rRepr K) dRepr := fun G H vs xs z e rs q Q k => by
  unfold dRepr at q
  split at q
  · split at q
    · rename_i hc
      cases q
      cases rs with
      | cons r t => cases t; exact ⟨_, _, rfl, r.rp e, hc, k _ H G (.refl e) (.str _)⟩
    · cases q
  · cases q
end
end DL

set_option Elab.async false
set_option linter.all false
set_option maxRecDepth 100000
set_option maxHeartbeats 4000000
/-! DL, part 10: methods of lists, stores, statements, comprehensions for the text. -/
namespace DL
open PySem PySem.Spec PyProof.Rows L2

/-! ### values of any kind -/
abbrev VS := List SD → Option (SD × List SD)
def SemV (K : KK) (t : TE) (f : VS) : Prop := ∀ F S σ H G s S', SR K F S σ H G → f S = some (s, S') → ∀ Q : VK, (∀ v H' G', SR K F S' σ H' G' → Ex G G' → s ≠ .un → (∀ xs, s ≠ .own true xs) → ResR K F S' σ H' G' v s → Q v H') → t σ H Q
structure SV (X : Cx) (K : KK) (e : Expr) (t : TE) (f : VS) : Prop where
  p : PE X e t
  ok : SemV K t f
def vD (fd : DS) : VS := fun S => (fd S).map fun p => (.d p.1, p.2)
def vL (fl : LS) : VS := fun S => (fl S).map fun p => (.own false p.1, p.2)
section
variable {K : KK} {te ta : TE} {fd : DS} {fl : LS} {fv fw : VS} {F : Fr} {S S' : List SD} {σ σ' : L2.St} {H G H' G' : Hp} {X : Cx} {e : Expr}
theorem sem_vD (h : SemD K te fd) : SemV K te (vD fd) := fun F S σ H G s S' r ef Q k => by
  obtain ⟨⟨x, S1⟩, e1, e2⟩ := Option.map_eq_some_iff.mp ef
  cases e2
  exact h F S σ H G x _ r e1 Q fun v H1 G1 r1 g1 h1 => k v H1 G1 r1 g1 (by simp) (by simp) h1
theorem sem_vL (h : SemL K te fl) : SemV K te (vL fl) := fun F S σ H G s S' r ef Q k => by
  obtain ⟨⟨x, S1⟩, e1, e2⟩ := Option.map_eq_some_iff.mp ef
  cases e2
  exact h F S σ H G x _ r e1 Q fun p vs H1 G1 r1 g1 f0 fg fa hh ha => k (.ref p) H1 G1 r1 g1 (by simp) (by simp) ⟨p, _, rfl, f0, fg, fa, hh, .lst ha⟩
theorem sv_d (h : SDt X K e te fd) : SV X K e te (vD fd) := ⟨h.p, sem_vD h.ok⟩
theorem sv_l (h : SL X K e te fl) : SV X K e te (vL fl) := ⟨h.p, sem_vL h.ok⟩
theorem SR.setR (r : SR K F S σ H G) (i : Nat) {v : V} {s : SD} (n1 : s ≠ .un) (n2 : ∀ xs, s ≠ .own true xs) (h : ResR K F S σ H G v s) : SR K F (S.set i s) (σ.set i (some v)) H G := by
  cases s with
  | un => exact absurd rfl n1
  | d x => exact r.setD i h
  | own b xs =>
    cases b with
    | true => exact absurd rfl (n2 xs)
    | false =>
      obtain ⟨p, vs, rfl, f0, fg, fa, hh, ha⟩ := h
      exact r.setO i fg hh ha f0 fa
def sSetV (fv : VS) (i : Nat) : SSem := fun S => (fv S).map fun p => .nx (p.2.set i p.1)
theorem sem_setV {i : Nat} (h : SemV K te fv) : SemS K (tAsg te (gName i)) (sSetV fv i) := fun F S σ H G out r e D hD => by
  obtain ⟨⟨s, S1⟩, e1, e2⟩ := Option.map_eq_some_iff.mp e
  cases e2
  exact h F S σ H G s _ r e1 _ fun v H1 G1 r1 g1 n1 n2 hr => hD _ H1 G1 (r1.setR i n1 n2 hr) g1
def sRetVS (fv : VS) : SSem := fun S => (fv S).map fun p => .rt p.1 p.2
theorem sem_retVS (h : SemV K te fv) : SemS K (tRet te) (sRetVS fv) := fun F S σ H G out r e D hD => by
  obtain ⟨⟨s, S1⟩, e1, e2⟩ := Option.map_eq_some_iff.mp e
  cases e2
  refine h F S σ H G s _ r e1 _ fun v H1 G1 r1 g1 n1 n2 hr => hD v σ H1 G1 ?_ g1
  cases s with
  | un => exact absurd rfl n1
  | d x => exact r1.pushD hr
  | own b xs =>
    cases b with
    | true => exact absurd rfl (n2 xs)
    | false =>
      obtain ⟨p, vs, rfl, f0, fg, fa, hh, ha⟩ := hr
      exact r1.pushO f0 fg fa hh ha
/-! ### a, b = x, y -/
theorem wipe_nil (σ : L2.St) : wipe σ [] = σ := rfl
/-- the second value while the first one, new, lies aside -/
def asideV : SD → VS → VS
  | .own _ _, f => fun S => (f (borGo [] 0 S)).map fun p => (p.1, unbGo [] 0 S p.2)
  | _, f => f
theorem aside_ok {s1 : SD} {v : V} (n1 : s1 ≠ .un) (n2 : ∀ xs, s1 ≠ .own true xs) (h : SemV K ta fw) (r : SR K F S σ H G) (h1 : ResR K F S σ H G v s1) {s2 : SD} (ef : asideV s1 fw S = some (s2, S')) {Q : VK}
    (k : ∀ w H' G', SR K F S' σ H' G' → Ex G G' → s2 ≠ .un → (∀ xs, s2 ≠ .own true xs) → ResR K F S' σ H' G' v s1 → ResR K F S' σ H' G' w s2 → (∀ i j, i ≠ j → SR K F ((S'.set i s1).set j s2) ((σ.set i (some v)).set j (some w)) H' G') → Q w H') : ta σ H Q := by
  cases s1 with
  | un => exact absurd rfl n1
  | d x =>
    refine h F S σ H G s2 S' r ef Q fun w H1 G1 r1 g1 m1 m2 hr => ?_
    have hx : Rp K G1 v x := Rp.mono g1 h1
    refine k w H1 G1 r1 g1 m1 m2 hx hr fun i j hij => ?_
    have r2 := r1.setD i hx
    refine r2.setR j m1 m2 ?_
    cases s2 with
    | un => exact absurd rfl m1
    | d y => exact hr
    | own b ys =>
      cases b with
      | true => exact absurd rfl (m2 ys)
      | false =>
        obtain ⟨p, vs, rfl, f0, fg, fa, hh, ha⟩ := hr
        refine ⟨p, vs, rfl, f0, fg, fun m c zs q1 q2 => ?_, hh, ha⟩
        by_cases hm : i = m
        · subst hm
          by_cases hl : i < S'.length
          · rw [List.getElem?_set_self hl] at q1; cases q1
          · rw [List.getElem?_eq_none (by simpa using Nat.le_of_not_lt hl)] at q1; cases q1
        · rw [List.getElem?_set_ne hm] at q1 q2
          exact fa m c zs q1 q2
  | own b xs =>
    cases b with
    | true => exact absurd rfl (n2 xs)
    | false =>
      obtain ⟨p, vs, rfl, f0, fg, fa, hh, ha⟩ := h1
      obtain ⟨⟨s2', S2⟩, e1, e2⟩ := Option.map_eq_some_iff.mp ef
      have es2 : s2' = s2 := congrArg Prod.fst (Option.some.inj (congrArg some e2))
      have eS' : unbGo [] 0 S S2 = S' := congrArg Prod.snd e2
      subst es2 eS'
      have r' := r.sub []
      rw [wipe_nil] at r'
      refine h (Fr.blk [] S σ H G) _ σ H G s2' S2 r' e1 Q fun w H1 G1 r1 g1 m1 m2 hr => ?_
      obtain ⟨hD, gD⟩ := r.aside r1 hh fg fa
      have r2 := r.unsub r1
      have ap2 : Apart (unbGo [] 0 S S2) σ p := apart_unb fa
      have hr1 : ResR K F (unbGo [] 0 S S2) σ H1 G1 (.ref p) (.own false xs) := ⟨p, vs, rfl, f0, gD, ap2, hD, ha.mono g1⟩
      have r3 : ∀ i, SR K F ((unbGo [] 0 S S2).set i (.own false xs)) (σ.set i (some (.ref p))) H1 G1 := fun i => r2.setO i gD hD (ha.mono g1) f0 ap2
      cases s2' with
      | un => exact absurd rfl m1
      | d y => exact k w H1 G1 r2 g1 m1 m2 hr1 hr fun i j hij => (r3 i).setD j hr
      | own c ys =>
        cases c with
        | true => exact absurd rfl (m2 ys)
        | false =>
          obtain ⟨q, ws, rfl, z0, zg, za, zh, zz⟩ := hr
          have z0 : H q = none := z0
          have y0 : F.H0 q = none := by
            cases z : F.H0 q with
            | none => rfl
            | some o => exact absurd z0 (r.live q (by rw [z]; simp))
          have ya : Apart (unbGo [] 0 S S2) σ q := fun m c zs q1 q2 => by
            rcases unbGo_own [] S S2 0 m c zs q1 with ⟨hm, _⟩ | ⟨_, ⟨us, h1⟩, _⟩
            · simp at hm
            · obtain ⟨a, _, t1, _, t3, _⟩ := r.own m c us h1
              rw [q2] at t1; cases t1
              rw [z0] at t3; cases t3
          refine k (.ref q) H1 G1 r2 g1 m1 m2 hr1 ⟨q, ws, rfl, y0, zg, ya, zh, zz⟩ fun i j hij => ?_
          refine (r3 i).setO j zg zh zz y0 fun m c zs q1 q2 => ?_
          by_cases hm : i = m
          · subst hm
            by_cases hl : i < σ.length
            · rw [List.getElem?_set_self hl] at q2
              cases q2
              rw [hh] at z0; cases z0
            · rw [List.getElem?_eq_none (by simpa using Nat.le_of_not_lt hl)] at q2; cases q2
          · rw [List.getElem?_set_ne hm] at q1 q2
            exact ya m c zs q1 q2
def sPar (i j : Nat) (fv fw : VS) : SSem := fun S => (fv S).bind fun p => (asideV p.1 fw p.2).map fun q => .nx ((q.2.set i p.1).set j q.1)
theorem sem_par {i j : Nat} (hij : i ≠ j) (h1 : SemV K te fv) (h2 : SemV K ta fw) : SemS K (tPar i j (tCons te (tCons ta tNil))) (sPar i j fv fw) := fun F S σ H G out r e D hD => by
  obtain ⟨⟨s1, S1⟩, e1, e⟩ := Option.bind_eq_some_iff.mp e
  obtain ⟨⟨s2, S2⟩, e2, e3⟩ := Option.map_eq_some_iff.mp e
  cases e3
  refine h1 F S σ H G s1 S1 r e1 _ fun v H1 G1 r1 g1 n1 n2 hr => ?_
  refine aside_ok n1 n2 h2 r1 hr e2 fun w H2 G2 r2 g2 m1 m2 q1 q2 fin => ?_
  exact ⟨v, w, rfl, hD _ H2 G2 (fin i j hij) (g1.trans g2)⟩
/-- three data at once -/
def set3 (i j l : Nat) (S : List SD) : List PyData → Option Out
  | [x, y, z] => some (.nx (((S.set i (.d x)).set j (.d y)).set l (.d z)))
  | _ => none
def sPar3 (i j l : Nat) (fs : AS) : SSem := fun S => (sTakeA fs S).bind fun p => set3 i j l p.2 p.1
theorem sem_par3 {i j l : Nat} {tA : TA} {fs : AS} (h : SemA K tA fs) : SemS K (tPar3 i j l tA) (sPar3 i j l fs) := fun F S σ H G out r e D hD => by
  obtain ⟨⟨xs, S1⟩, e1, e⟩ := Option.bind_eq_some_iff.mp e
  refine take_A h r e1 fun vs H1 G1 r1 g1 hv => ?_
  have e : set3 i j l S1 xs = some out := e
  unfold set3 at e
  split at e
  · cases e
    cases hv with
    | cons a t => cases t with
      | cons b t => cases t with
        | cons c t =>
          cases t
          exact ⟨_, _, _, rfl, hD _ H1 G1 (((r1.setD i a).setD j b).setD l c) g1⟩
  · cases e
end

theorem SR.ownL {K : KK} {F : Fr} {S : List SD} {σ : L2.St} {H G : Hp} {i : Nat} {b : Bool} {xs : List PyData} (r : SR K F S σ H G) (e : S[i]? = some (.own b (.lst xs))) : ∃ a vs, σ[i]? = some (some (.ref a)) ∧ G a = none ∧ H a = some (.lst vs) ∧ RpAll K G vs xs := by
  obtain ⟨a, u, h1, h2, h3, h4, _⟩ := r.own i _ _ e
  cases h4 with
  | lst h4 => exact ⟨a, _, h1, h2, h3, h4⟩
/-! ### methods of lists -/
/-- m(own list of slot i, the arguments): what comes out, what the list has become -/
def sMeth (i : Nat) (g : List PyData → List PyData → Option (PyData × List PyData)) (fs : AS) : ES := fun S => match S[i]? with
  | some (.own _ (.lst _)) => (sTakeA fs S).bind fun p => match p.2[i]? with
    | some (.own b (.lst xs)) => (g xs p.1).map fun z => (.dat z.1, p.2.set i (.own b z.2))
    | _ => none
  | _ => none
/-- a method's rule on values keeps to g -/
def VM (K : KK) (r : V → List V → Hp → VK → Prop) (g : List PyData → List PyData → Option (PyData × List PyData)) : Prop :=
  ∀ (G H : Hp) (a : Addr) (us vs : List V) (xs ys zs : List PyData) (z : PyData), Ex G H → H a = some (.lst us) → G a = none → RpAll K G us xs → RpAll K G vs ys → g xs ys = some (z, zs) →
    ∀ Q : VK, (∀ u ws, RpAll K G ws zs → Rp K G u z → Q u (upd H a (.lst ws))) → r (.ref a) vs H Q
section
variable {K : KK} {F : Fr} {S S' : List SD} {σ : L2.St} {H G : Hp} {r : V → List V → Hp → VK → Prop} {g : List PyData → List PyData → Option (PyData × List PyData)} {tA : TA} {fs : AS} {i : Nat}
theorem sem_meth (hr : VM K r g) (h : SemA K tA fs) : SemE K (tBM K "list" r (tVar i) tA) (sMeth i g fs) := fun F S σ H G o S' r0 ef Q k => by
  unfold sMeth at ef
  split at ef
  · rename_i b0 x0 e0
    obtain ⟨⟨ys, S1⟩, e1, ef⟩ := Option.bind_eq_some_iff.mp ef
    have ef : (match S1[i]? with
      | some (.own b (.lst xs)) => (g xs ys).map fun z => (Op.dat z.1, S1.set i (.own b z.2))
      | _ => none) = some (o, S') := ef
    split at ef
    · rename_i b1 x1 e2
      obtain ⟨⟨z, zs⟩, e3, e4⟩ := Option.map_eq_some_iff.mp ef
      cases e4
      obtain ⟨a, us, q1, q2, q3, q4⟩ := r0.ownL e0
      refine ⟨_, q1, .inl ⟨rfl, us, .inl (.inl q3)⟩, ?_⟩
      refine take_A h r0 e1 fun vs H1 G1 r1 g1 hv => ?_
      obtain ⟨a', us', p1, p2, p3, p4⟩ := r1.ownL e2
      rw [q1] at p1
      cases p1
      refine hr G1 H1 a us' vs x1 ys zs z r1.gh p3 p2 p4 hv e3 Q fun u ws hw hu => ?_
      exact k u _ G1 (r1.write e2 q1 (.lst hw)) g1 hu
    · cases ef
  · cases ef
theorem sem_meth0 (hr : VM K r g) : SemE K (tBM0 K "list" r (tVar i)) (sMeth i g sNil) := fun F S σ H G o S' r0 ef Q k => by
  unfold sMeth at ef
  split at ef
  · rename_i b0 x0 e0
    obtain ⟨⟨ys, S1⟩, e1, ef⟩ := Option.bind_eq_some_iff.mp ef
    have e1' : (([] : List PyData), S) = (ys, S1) := by
      have : some (([] : List PyData), S) = some (ys, S1) := e1
      exact Option.some.inj this
    cases e1'
    have ef : (match S[i]? with
      | some (.own b (.lst xs)) => (g xs []).map fun z => (Op.dat z.1, S.set i (.own b z.2))
      | _ => none) = some (o, S') := ef
    rw [e0] at ef
    obtain ⟨⟨z, zs⟩, e3, e4⟩ := Option.map_eq_some_iff.mp ef
    cases e4
    obtain ⟨a, us, q1, q2, q3, q4⟩ := r0.ownL e0
    refine ⟨_, q1, .inl ⟨rfl, us, .inl (.inl q3)⟩, ?_⟩
    exact hr G H a us [] x0 [] zs z r0.gh q3 q2 q4 .nil e3 Q fun u ws hw hu => k u _ G (r0.write e0 q1 (.lst hw)) (.refl _) hu
  · cases ef
def mAppend : List PyData → List PyData → Option (PyData × List PyData)
  | xs, [y] => if xs.length < 100000 then some (.none, xs ++ [y]) else none
  | _, _ => none
theorem vAppend : VM K rAppend mAppend := fun G H a us vs xs ys zs z e h hg h1 h2 q Q k => by
  unfold mAppend at q
  split at q
  · split at q
    · rename_i hl
      cases q
      cases h2 with
      | cons r t => cases t; exact ⟨a, us, _, rfl, rfl, h, szl (by rw [h1.length]; exact hl), k _ _ (h1.append (.cons r .nil)) .non⟩
    · cases q
  · cases q
def mExtend : List PyData → List PyData → Option (PyData × List PyData)
  | xs, [.list ys] => if xs.length + ys.length ≤ 100000 then some (.none, xs ++ ys) else none
  | _, _ => none
theorem vExtend : VM K rExtend mExtend := fun G H a us vs xs ys zs z e h hg h1 h2 q Q k => by
  unfold mExtend at q
  split at q
  · split at q
    · rename_i hl
      cases q
      cases h2 with
      | cons r t =>
        cases t
        cases r with
        | lst p1 p2 => exact ⟨a, _, us, _, rfl, rfl, h, e _ _ p1, sz (by rw [h1.length, p2.length]; exact hl), k _ _ (h1.append p2) .non⟩
    · cases q
  · cases q
def mPop : List PyData → List PyData → Option (PyData × List PyData)
  | xs, [] => (xs[xs.length - 1]?).map fun y => (y, xs.dropLast)
  | xs, [.int i] => (ixN xs.length i).bind fun j => (xs[j]?).map fun y => (y, xs.eraseIdx j)
  | _, _ => none
theorem vPop0 : VM K rPop (fun xs ys => if ys.length = 0 then mPop xs ys else none) := fun G H a us vs xs ys zs z e h hg h1 h2 q Q k => by
  have q : (if ys.length = 0 then mPop xs ys else none) = some (z, zs) := q
  split at q
  · rename_i hl
    have : ys = [] := List.eq_nil_of_length_eq_zero hl
    subst this
    cases h2
    obtain ⟨y, q1, q2⟩ := Option.map_eq_some_iff.mp (show (xs[xs.length - 1]?).map (fun y => (y, xs.dropLast)) = some (z, zs) from q)
    cases q2
    obtain ⟨v, w1, w2⟩ := h1.get q1
    exact ⟨a, us, v, rfl, rfl, h, by rw [h1.length]; exact w1, k _ _ h1.dropLast w2⟩
  · cases q
theorem ixN_small {n : Nat} {i : Int} {j : Nat} (h : ixN n i = some j) (hn : n ≤ sizeLine) : seqIndex? i n = some j ∧ -(2 ^ 63) ≤ i ∧ i < 2 ^ 63 := by
  obtain ⟨h1, h2, h3, h4⟩ := ixN_seq h
  have h5 : (n : Int) < 2 ^ 63 := by
    have : sizeLine < 2 ^ 63 := by decide
    omega
  exact ⟨h1, by omega, by omega⟩
theorem vPopAt : VM K (fun x vs H Q => rPopAt x vs H Q) (fun xs ys => if xs.length ≤ 100000 ∧ ys.length = 1 then mPop xs ys else none) := fun G H a us vs xs ys zs z e h hg h1 h2 q Q k => by
  have q : (if xs.length ≤ 100000 ∧ ys.length = 1 then mPop xs ys else none) = some (z, zs) := q
  split at q
  · rename_i hl
    unfold mPop at q
    split at q
    · exact absurd hl.2 (by simp)
    · obtain ⟨j, q1, q2⟩ := Option.bind_eq_some_iff.mp q
      obtain ⟨y, q3, q4⟩ := Option.map_eq_some_iff.mp q2
      cases q4
      cases h2 with
      | cons r t =>
        cases t
        cases r
        obtain ⟨v, w1, w2⟩ := h1.get q3
        obtain ⟨s1, s2, s3⟩ := ixN_small q1 (sz hl.1)
        exact ⟨a, us, _, j, v, rfl, rfl, h, s2, s3, by rw [h1.length]; exact s1, w1, k _ _ (h1.eraseIdx j) w2⟩
    · cases q
  · cases q
end
/-- l.index(x) -/
def firstIx (d : PyData) : List PyData → Option Nat
  | [] => none
  | z :: r => if PyData.eqv z d = true then some 0 else (firstIx d r).map (· + 1)
theorem firstIx_ok {d : PyData} : ∀ {xs : List PyData} {j : Nat}, firstIx d xs = some j → (∃ z, xs[j]? = some z ∧ PyData.eqv z d = true) ∧ ∀ (m : Nat) (z : PyData), m < j → xs[m]? = some z → PyData.eqv z d = false
  | [], _, h => by cases h
  | z :: r, j, h => by
    unfold firstIx at h
    split at h
    · rename_i hz
      cases h
      exact ⟨⟨z, rfl, hz⟩, fun m _ hm => absurd hm (by omega)⟩
    · rename_i hz
      obtain ⟨k, h1, rfl⟩ := Option.map_eq_some_iff.mp h
      obtain ⟨⟨y, q1, q2⟩, q3⟩ := firstIx_ok h1
      refine ⟨⟨y, by simpa using q1, q2⟩, fun m z' hm hz' => ?_⟩
      cases m with
      | zero => simp at hz'; subst hz'; simpa using hz
      | succ m => exact q3 m z' (by omega) (by simpa using hz')
def dIndex (x y : PyData) : Option PyData := match x with
  | .list xs => if fitN 60 (.list xs) = true ∧ fitN 60 y = true then (firstIx y xs).map fun j => .int (j : Nat) else none
  | _ => none
def isList : PyData → Bool
  | .list _ => true
  | _ => false
def sIndex (fo fa : ES) : ES := fun S => (fo S).bind fun p => (p.1.get p.2).bind fun l => if isList l = true then (fa p.2).bind fun q => (p.1.get q.2).bind fun x => (q.1.get q.2).bind fun y => (dIndex x y).map fun z => (.dat z, q.2) else none
section
variable {K : KK} {to ta : TE} {fo fa : ES}
theorem isList_some {x : PyData} (h : isList x = true) : ∃ xs, x = .list xs := by
  cases x with
  | list xs => exact ⟨xs, rfl⟩
  | _ => cases h
theorem sem_index (h1 : SemE K to fo) (h2 : SemE K ta fa) : SemE K (tBM K "list" (rIndexD K) to (tCons ta tNil)) (sIndex fo fa) := fun F S σ H G o S' r ef Q k => by
  obtain ⟨⟨o1, S1⟩, e1, ef⟩ := Option.bind_eq_some_iff.mp ef
  obtain ⟨l, e2, ef⟩ := Option.bind_eq_some_iff.mp ef
  have ef : (if isList l = true then (fa S1).bind fun q => (o1.get q.2).bind fun x => (q.1.get q.2).bind fun y => (dIndex x y).map fun z => (Op.dat z, q.2) else none) = some (o, S') := ef
  split at ef
  · rename_i hl
    obtain ⟨xs, rfl⟩ := isList_some hl
    obtain ⟨⟨o2, S2⟩, e3, ef⟩ := Option.bind_eq_some_iff.mp ef
    obtain ⟨x, e4, ef⟩ := Option.bind_eq_some_iff.mp ef
    obtain ⟨y, e5, ef⟩ := Option.bind_eq_some_iff.mp ef
    obtain ⟨z, e6, ef⟩ := Option.map_eq_some_iff.mp ef
    cases ef
    refine h1 F S σ H G o1 S1 r e1 _ fun v H1 G1 r1 g1 q1 => ?_
    obtain ⟨a, vs, rfl, p1, p2⟩ := (op_get r1 q1 e2).lst r1.gh
    refine ⟨.inl ⟨rfl, vs, .inl (.inl p1)⟩, ?_⟩
    refine h2 F S1 σ H1 G1 o2 _ r1 e3 _ fun w H2 G2 r2 g2 q2 => ?_
    show rIndexD K _ [w] H2 Q
    have hx := op_get r2 (q1.mono g2) e4
    have hy := op_get r2 q2 e5
    unfold dIndex at e6
    split at e6
    · split at e6
      · rename_i f
        obtain ⟨j, f1, f2⟩ := Option.map_eq_some_iff.mp e6
        cases f2
        obtain ⟨⟨z, z1, z2⟩, z3⟩ := firstIx_ok f1
        refine ⟨a, w, y, _, j, z, rfl, rfl, (hx.rp r2.gh).dp (fit_lay f.1), (hy.rp r2.gh).dp (fit_lay f.2), fit_shaped f.1, fit_shaped f.2, z1, z2, z3, k _ H2 G2 r2 (g1.trans g2) (.int _)⟩
      · cases e6
    · cases e6
  · cases ef
end
/-! ### a store -/
def setAt (i : Nat) (x : PyData) (k : Int) (S : List SD) : Option SD → Option (List SD)
  | some (.own b (.lst xs)) => (ixN xs.length k).map fun j => S.set i (.own b (xs.set j x))
  | _ => none
def isOwnS : Option SD → Bool
  | some (.own _ _) => true
  | _ => false
theorem isOwnS_some {s : Option SD} (h : isOwnS s = true) : ∃ b xs, s = some (.own b xs) := by
  cases s with
  | none => cases h
  | some s => cases s with
    | own b xs => exact ⟨b, xs, rfl⟩
    | _ => cases h
def gsSub (i : Nat) (fi : ES) : GS := fun x S => if isOwnS (S[i]?) = true then (fi S).bind fun p => (p.1.get p.2).bind fun y => (dIntO y).bind fun k => setAt i x k p.2 (p.2[i]?) else none
theorem sem_gsub {K : KK} {ti : TE} {fi : ES} {i : Nat} (h : SemE K ti fi) : SemG K (gSub (tVar i) ti rSetL) [] (gsSub i fi) := fun F S σ H G v x S' r hx e Q k => by
  have e : (if isOwnS (S[i]?) = true then (fi S).bind fun p => (p.1.get p.2).bind fun y => (dIntO y).bind fun k => setAt i x k p.2 (p.2[i]?) else none) = some S' := e
  split at e
  · rename_i ho
    obtain ⟨b0, x0, e0⟩ := isOwnS_some ho
    obtain ⟨a, us, t1, _⟩ := r.own i _ _ e0
    obtain ⟨⟨o1, S1⟩, e1, e⟩ := Option.bind_eq_some_iff.mp e
    obtain ⟨y, e2, e⟩ := Option.bind_eq_some_iff.mp e
    obtain ⟨n, e3, e⟩ := Option.bind_eq_some_iff.mp e
    have hy := dIntO_some e3
    subst hy
    have e : setAt i x n S1 (S1[i]?) = some S' := e
    cases e4 : S1[i]? with
    | none => rw [e4] at e; cases e
    | some sd =>
      rw [e4] at e
      cases sd with
      | own b ob => cases ob with
        | dct t kvs => cases e
        | lst xs =>
          obtain ⟨j, e5, e6⟩ := Option.map_eq_some_iff.mp e
          cases e6
          refine ⟨_, t1, ?_⟩
          refine h F S σ H G o1 S1 r e1 _ fun w H1 G1 r1 g1 q1 => ?_
          obtain ⟨a', us', p1, p2, p3, p4⟩ := r1.ownL e4
          rw [t1] at p1
          cases p1
          refine ⟨a, us', n, j, rfl, (op_get r1 q1 e2).int, p3, by rw [p4.length]; exact e5, ?_⟩
          exact k σ _ G1 (r1.write e4 t1 (.lst (p4.set (hx.mono g1) j))) g1 (.refl _ _)
      | _ => cases e
  · cases e
end DL

set_option Elab.async false
set_option linter.all false
set_option maxRecDepth 100000
set_option maxHeartbeats 4000000
/-! DL, part 11: the rules for the text: methods, stores, statements, comprehensions. -/
namespace DL
open PySem PySem.Spec PyProof.Rows L2

section
variable {X : Cx} {K : KK} {e o c : Expr} {es : List Expr} {pos apos cpos pos' : Pos} {te ta to ti : TE} {tt : TT} {tA : TA} {fe fa fo fi : ES} {fs : AS} {fl : LS} {fd : DS} {fv fw : VS} {fb : BS} {i j : Nat} {x y : Str}
theorem se_pv (i : Nat) {x : Str} {pos : Pos} (hN : X.N[i]? = some x := by rfl) (hv : Vis X.env.scope x := by first | exact .inl rfl | exact .inr (.inl rfl) | exact .inr (.inr rfl)) (hd : (x == ("__debug__" : Str)) = false := by decide) (hcd : (x == ("__classdict__" : Str)) = false := by decide) : SE X K (.Name x pos) (tVar i) (sVar i) := se_var (pe_var hN hv hd hcd)
/-! ### methods -/
theorem se_append (hK : Ckk X = K) (ho : SE X K o (tVar i) (sVar i)) (ha : SA X K [e] tA fs) (hbase : attributeBase o "append" X.env (eval o X.env) = eval o X.env := by rfl)
    (hfew : ((backTo cpos (starEach [e] X.env)).all (fun x => !x.1) && (backToKw cpos (keywordEach [] X.env)).all (fun x => x.1.isSome)
      && decide ([e].length + ([] : List Keyword).length + (if ([] : List Keyword).isEmpty then 0 else 1) < 30)) = true := by rfl)
    (hline : (apos.endLine == cpos.line) = true := by rfl) (hs : starEach [e] X.env = (false, eval e X.env) :: starEach [] X.env := by rfl) (hplain : (backTo cpos (starEach [] X.env)).any (·.1) = false := by rfl) :
    SE X K (.Call (.Attribute o "append" apos) [e] [] cpos) (tBM K "list" rAppend (tVar i) tA) (sMeth i mAppend fs) := by
  subst hK
  exact ⟨pe_bm PySem.F.plainAttrs_list PySem.F.slot_list_append PySem.F.type_list_append mt_append ho.p ha.p hbase hfew hline hs hplain, sem_meth vAppend ha.ok⟩
theorem se_extend (hK : Ckk X = K) (ho : SE X K o (tVar i) (sVar i)) (ha : SA X K [e] tA fs) (hbase : attributeBase o "extend" X.env (eval o X.env) = eval o X.env := by rfl)
    (hfew : ((backTo cpos (starEach [e] X.env)).all (fun x => !x.1) && (backToKw cpos (keywordEach [] X.env)).all (fun x => x.1.isSome)
      && decide ([e].length + ([] : List Keyword).length + (if ([] : List Keyword).isEmpty then 0 else 1) < 30)) = true := by rfl)
    (hline : (apos.endLine == cpos.line) = true := by rfl) (hs : starEach [e] X.env = (false, eval e X.env) :: starEach [] X.env := by rfl) (hplain : (backTo cpos (starEach [] X.env)).any (·.1) = false := by rfl) :
    SE X K (.Call (.Attribute o "extend" apos) [e] [] cpos) (tBM K "list" rExtend (tVar i) tA) (sMeth i mExtend fs) := by
  subst hK
  exact ⟨pe_bm PySem.F.plainAttrs_list PySem.F.slot_list_extend PySem.F.type_list_extend mt_extend ho.p ha.p hbase hfew hline hs hplain, sem_meth vExtend ha.ok⟩
def mPopAt : List PyData → List PyData → Option (PyData × List PyData) := fun xs ys => if xs.length ≤ 100000 ∧ ys.length = 1 then mPop xs ys else none
def mPop0 : List PyData → List PyData → Option (PyData × List PyData) := fun xs ys => if ys.length = 0 then mPop xs ys else none
theorem se_popAt (hK : Ckk X = K) (ho : SE X K o (tVar i) (sVar i)) (ha : SA X K [e] tA fs) (hbase : attributeBase o "pop" X.env (eval o X.env) = eval o X.env := by rfl)
    (hfew : ((backTo cpos (starEach [e] X.env)).all (fun x => !x.1) && (backToKw cpos (keywordEach [] X.env)).all (fun x => x.1.isSome)
      && decide ([e].length + ([] : List Keyword).length + (if ([] : List Keyword).isEmpty then 0 else 1) < 30)) = true := by rfl)
    (hline : (apos.endLine == cpos.line) = true := by rfl) (hs : starEach [e] X.env = (false, eval e X.env) :: starEach [] X.env := by rfl) (hplain : (backTo cpos (starEach [] X.env)).any (·.1) = false := by rfl) :
    SE X K (.Call (.Attribute o "pop" apos) [e] [] cpos) (tBM K "list" rPopAt (tVar i) tA) (sMeth i mPopAt fs) := by
  subst hK
  exact ⟨pe_bm PySem.F.plainAttrs_list PySem.F.slot_list_pop PySem.F.type_list_pop mt_popAt ho.p ha.p hbase hfew hline hs hplain, sem_meth vPopAt ha.ok⟩
theorem se_pop (hK : Ckk X = K) (ho : SE X K o (tVar i) (sVar i)) (hbase : attributeBase o "pop" X.env (eval o X.env) = eval o X.env := by rfl) (hline : (apos.endLine == cpos.line) = true := by rfl) :
    SE X K (.Call (.Attribute o "pop" apos) [] [] cpos) (tBM0 K "list" rPop (tVar i)) (sMeth i mPop0 sNil) := by
  subst hK
  exact ⟨pe_bm0 PySem.F.plainAttrs_list PySem.F.slot_list_pop PySem.F.type_list_pop mt_pop ho.p hbase hline, sem_meth0 vPop0⟩
theorem se_index (hK : Ckk X = K) {k : Nat} (hr : Room k X.A) (ho : SE X K o to fo) (ha : SE X K e ta fa) (hbase : attributeBase o "index" X.env (eval o X.env) = eval o X.env := by rfl)
    (hfew : ((backTo cpos (starEach [e] X.env)).all (fun x => !x.1) && (backToKw cpos (keywordEach [] X.env)).all (fun x => x.1.isSome)
      && decide ([e].length + ([] : List Keyword).length + (if ([] : List Keyword).isEmpty then 0 else 1) < 30)) = true := by rfl)
    (hline : (apos.endLine == cpos.line) = true := by rfl) (hs : starEach [e] X.env = (false, eval e X.env) :: starEach [] X.env := by rfl) (hplain : (backTo cpos (starEach [] X.env)).any (·.1) = false := by rfl) :
    SE X K (.Call (.Attribute o "index" apos) [e] [] cpos) (tBM K "list" (rIndexD K) to (tCons ta tNil)) (sIndex fo fa) := by
  subst hK
  exact ⟨pe_bm PySem.F.plainAttrs_list PySem.F.slot_list_index PySem.F.type_list_index (mt_indexD (by have := hr.un; omega)) ho.p (pa_cons ha.p pa_nil hs) hbase hfew hline hs hplain, sem_index ho.ok ha.ok⟩
/-! ### list(range), tuple(range) -/
abbrev RS := List SD → Option ((Int × Int) × List SD)
def SemR (K : KK) (t : L2.St → Hp → (Int → Int → Hp → Prop) → Prop) (f : RS) : Prop := ∀ F S σ H G a b S', SR K F S σ H G → f S = some ((a, b), S') → ∀ Q : Int → Int → Hp → Prop, (∀ H' G', SR K F S' σ H' G' → Ex G G' → Q a b H') → t σ H Q
structure SRg (X : Cx) (K : KK) (e : Expr) (t : L2.St → Hp → (Int → Int → Hp → Prop) → Prop) (f : RS) : Prop where
  p : PRg X e t
  ok : SemR K t f
def sRg1 (fe : ES) : RS := fun S => (fe S).bind fun p => (p.1.get p.2).bind fun x => (dIntO x).map fun n => ((0, n), p.2)
def sRg2 (fe fa : ES) : RS := fun S => (fe S).bind fun p => (fa p.2).bind fun q => (p.1.get q.2).bind fun x => (q.1.get q.2).bind fun y => (dIntO x).bind fun n => (dIntO y).map fun m => ((n, m), q.2)
theorem sem_rg1 (h : SemE K te fe) : SemR K (tRg1 te) (sRg1 fe) := fun F S σ H G a b S' r ef Q k => by
  obtain ⟨⟨o1, S1⟩, e1, ef⟩ := Option.bind_eq_some_iff.mp ef
  obtain ⟨x, e2, ef⟩ := Option.bind_eq_some_iff.mp ef
  obtain ⟨n, e3, ef⟩ := Option.map_eq_some_iff.mp ef
  cases ef
  have hx := dIntO_some e3
  subst hx
  refine h F S σ H G o1 _ r e1 _ fun v H1 G1 r1 g1 h1 => ?_
  exact ⟨_, (op_get r1 h1 e2).int, k H1 G1 r1 g1⟩
theorem sem_rg2 (h : SemE K te fe) (h2 : SemE K ta fa) : SemR K (tRg2 te ta) (sRg2 fe fa) := fun F S σ H G a b S' r ef Q k => by
  obtain ⟨⟨o1, S1⟩, e1, ef⟩ := Option.bind_eq_some_iff.mp ef
  obtain ⟨⟨o2, S2⟩, e2, ef⟩ := Option.bind_eq_some_iff.mp ef
  obtain ⟨x, e3, ef⟩ := Option.bind_eq_some_iff.mp ef
  obtain ⟨y, e4, ef⟩ := Option.bind_eq_some_iff.mp ef
  obtain ⟨n, e5, ef⟩ := Option.bind_eq_some_iff.mp ef
  obtain ⟨m, e6, ef⟩ := Option.map_eq_some_iff.mp ef
  cases ef
  have hx := dIntO_some e5
  subst hx
  have hy := dIntO_some e6
  subst hy
  refine h F S σ H G o1 S1 r e1 _ fun v H1 G1 r1 g1 h1 => ?_
  refine h2 F S1 σ H1 G1 o2 _ r1 e2 _ fun w H2 G2 r2 g2 q2 => ?_
  exact ⟨_, _, (op_get r2 (h1.mono g2) e3).int, (op_get r2 q2 e4).int, k H2 G2 r2 (g1.trans g2)⟩
theorem srg_1 {p : Pos} (hm : X.mg "range" = none) (ha : SE X K e te fe) (hg : Gl X "range" := by rfl) (na : starEach [e] X.env = (false, eval e X.env) :: starEach [] X.env := by rfl) : SRg X K (.Call (.Name "range" p) [e] [] pos) (tRg1 te) (sRg1 fe) := ⟨prg_1 hg hm ha.p na, sem_rg1 ha.ok⟩
theorem srg_2 {p : Pos} (hm : X.mg "range" = none) (ha : SE X K e te fe) (hb : SE X K c ta fa) (hg : Gl X "range" := by rfl) (na : starEach [e, c] X.env = (false, eval e X.env) :: starEach [c] X.env := by rfl) (nb : starEach [c] X.env = (false, eval c X.env) :: starEach [] X.env := by rfl) (hp : (backTo pos (starEach [c] X.env)).any (·.1) = false := by rfl) : SRg X K (.Call (.Name "range" p) [e, c] [] pos) (tRg2 te ta) (sRg2 fe fa) := ⟨prg_2 hg hm ha.p hb.p na nb hp, sem_rg2 ha.ok hb.ok⟩
def rgB (a b : Int) : Bool := decide (-(2 ^ 62) ≤ a) && decide (a < 2 ^ 62) && decide (-(2 ^ 62) ≤ b) && decide (b < 2 ^ 62) && decide ((b - a).toNat ≤ 2 ^ 24)
theorem rgB_ok {a b : Int} (h : rgB a b = true) : RgOk a b := by
  simp only [rgB, Bool.and_eq_true, decide_eq_true_eq] at h
  exact ⟨h.1.1.1.1, h.1.1.1.2, h.1.1.2, h.1.2, h.2⟩
theorem RpAll.rg {G : Hp} (a b : Int) : RpAll K G (rgV a b) (rngD a (b - a).toNat) := by
  unfold rgV rngD
  generalize List.range (b - a).toNat = l
  induction l with
  | nil => exact .nil
  | cons n l ih => exact .cons (.int _) ih
def sLstRg (f : RS) : LS := fun S => (f S).bind fun p => if rgB p.1.1 p.1.2 = true then some (rngD p.1.1 (p.1.2 - p.1.1).toNat, p.2) else none
def sTupRg (f : RS) : ES := fun S => (f S).bind fun p => if rgB p.1.1 p.1.2 = true then some (.dat (.tuple (rngD p.1.1 (p.1.2 - p.1.1).toNat)), p.2) else none
variable {tr : L2.St → Hp → (Int → Int → Hp → Prop) → Prop} {fr : RS}
theorem sem_lstRg (h : SemR K tr fr) : SemL K (tLstRg tr) (sLstRg fr) := fun F S σ H G xs S' r ef Q k => by
  obtain ⟨⟨⟨a, b⟩, S1⟩, e1, ef⟩ := Option.bind_eq_some_iff.mp ef
  have ef : (if rgB a b = true then some (rngD a (b - a).toNat, S1) else none) = some (xs, S') := ef
  split at ef
  · rename_i hc
    cases ef
    refine h F S σ H G a b _ r e1 _ fun H1 G1 r1 g1 => ⟨rgB_ok hc, fun p hp => ?_⟩
    obtain ⟨f0, fg, fa⟩ := r1.fresh hp
    have px := PX.side (o := .lst (rgV a b)) r1.gh hp
    exact k _ _ _ _ (r1.ext px) g1 f0 fg fa upd_same (RpAll.rg a b)
  · cases ef
theorem sem_tupRg (h : SemR K tr fr) : SemE K (tTupRg tr) (sTupRg fr) := fun F S σ H G xs S' r ef Q k => by
  obtain ⟨⟨⟨a, b⟩, S1⟩, e1, ef⟩ := Option.bind_eq_some_iff.mp ef
  have ef : (if rgB a b = true then some (Op.dat (.tuple (rngD a (b - a).toNat)), S1) else none) = some (xs, S') := ef
  split at ef
  · rename_i hc
    cases ef
    refine h F S σ H G a b _ r e1 _ fun H1 G1 r1 g1 => ⟨rgB_ok hc, fun p hp => ?_⟩
    have px := PX.laid (o := .tup (rgV a b)) r1.gh hp
    exact k _ _ _ (r1.ext px) (g1.trans px.gg) (.tup (.inl (.inl upd_same)) (RpAll.rg a b))
  · cases ef
theorem sl_listRg {p : Pos} (hc : X.calm = true) (hm : X.mg "list" = none) (h : SRg X K e tr fr) (hg : Gl X "list" := by rfl) (na : starEach [e] X.env = (false, eval e X.env) :: starEach [] X.env := by rfl) : SL X K (.Call (.Name "list" p) [e] [] pos) (tLstRg tr) (sLstRg fr) := ⟨pe_listRg hc hg hm h.p na, sem_lstRg h.ok⟩
theorem se_tupRg {p : Pos} (hc : X.calm = true) (hm : X.mg "tuple" = none) (h : SRg X K e tr fr) (hg : Gl X "tuple" := by rfl) (na : starEach [e] X.env = (false, eval e X.env) :: starEach [] X.env := by rfl) : SE X K (.Call (.Name "tuple" p) [e] [] pos) (tTupRg tr) (sTupRg fr) := ⟨pe_tupRg hc hg hm h.p na, sem_tupRg h.ok⟩
/-! ### a target o[i] -/
theorem sg_sub (ho : SE X K o (tVar i) (sVar i)) (hi : SE X K e ti fi) (ha : ∀ v, assign (.Subscript o e pos) X.env v = (do
      let ov ← holding [v] (eval o X.env)
      let iv ← holding [v, ov] (eval e X.env)
      standAt pos
      holding [v, ov, iv] (setItem ov iv v)
      release [v, ov, iv] []) := by intro _; rfl) : SG X K (.Subscript o e pos) (gSub (tVar i) ti rSetL) [] (gsSub i fi) := ⟨pg_sub ho.p hi.p set_list ha, sem_gsub hi.ok⟩
/-! ### statements -/
theorem sss_nil : SSs X K [] tNext sNext := ⟨pss_nil, sem_next⟩
theorem sss_cons {st : Stmt} {rest : List Stmt} {t u : TS} {f g : SSem} (h1 : SS X K st t f) (h2 : SSs X K rest u g) : SSs X K (st :: rest) (tSeq t u) (sSeq f g) := ⟨pss_cons h1.p h2.p, sem_seq h1.ok h2.ok⟩
theorem sss_one {st : Stmt} {t : TS} {f : SSem} (h1 : SS X K st t f) : SSs X K [st] t f := ⟨pss_one h1.p, h1.ok⟩
theorem ss_pass : SS X K (.Pass pos) tNext sNext := ⟨ps_pass, sem_next⟩
theorem ss_break : SS X K (.Break pos) tBreak sBreak := ⟨ps_break, sem_break⟩
theorem ss_cont : SS X K (.Continue pos) tCont sCont := ⟨ps_continue, sem_cont⟩
theorem ss_never {st : Stmt} : SS X K st tNever sNever := ⟨ps_never, sem_never⟩
theorem sss_never {sts : List Stmt} : SSs X K sts tNever sNever := ⟨pss_never, sem_never⟩
theorem ss_doc {x : Str} {j} : SS X K (.Expr (.Constant (.str x) j pos) pos') tNext sNext := ⟨ps_doc, sem_next⟩
theorem ss_expr (he : SE X K e te fe) (hs : swapsWith e none pos.line X.env = pure false := by rfl) : SS X K (.Expr e pos) (tDrop te) (sDrop fe) := ⟨ps_expr he.p hs, sem_drop he.ok⟩
theorem ss_ret (he : SV X K e te fv) : SS X K (.Return (some e) pos) (tRet te) (sRetVS fv) := ⟨ps_ret he.p, sem_retVS he.ok⟩
theorem ss_retV (he : SE X K e (tVar i) (sVar i)) : SS X K (.Return (some e) pos) (tRet (tVar i)) (sRetV i) := ⟨ps_ret he.p, sem_retV⟩
theorem ss_retN : SS X K (.Return none pos) tRetN sRetN := ⟨ps_retN, sem_retN⟩
theorem ss_if {a b : List Stmt} {t u : TS} {f g : SSem} (hc : ST X K c tt fb) (ha : SSs X K a t f) (hb : SSs X K b u g) : SS X K (.If c a b pos) (tIfS tt t u) (sIf fb f g) := ⟨ps_if hc.p ha.p hb.p, sem_ifS hc.ok ha.ok hb.ok⟩
theorem ss_set (hN : X.N.Nodup) (he : SV X K e te fv) (hi : X.N[i]? = some x := by rfl) (hx : Loc X.env.scope x := by first | exact Or.inl rfl | exact Or.inr rfl) (hs : swapsWith e (some (.Name x pos')) pos.line X.env = pure false := by rfl)
    (hf : X.fn x = true ∨ X.env.scope.names.lookup x = some .local := by first | exact Or.inl rfl | exact Or.inr rfl) : SS X K (.Assign [.Name x pos'] e pos) (tAsg te (gName i)) (sSetV fv i) := ⟨ps_set hN hi hx he.p hs hf, sem_setV he.ok⟩
theorem ss_asg {tg : Expr} {g : TG} {ix : List Nat} {gs : GS} (he : SDt X K e te fd) (hg : SG X K tg g ix gs) (hs : swapsWithSole [tg] e pos.line X.env = pure false := by rfl) (hw : swappedStores [tg] e X.env = pure none := by rfl)
    (h1 : (assignEach [tg] X.env).map (·.2) = [assign tg X.env] := by rfl) : SS X K (.Assign [tg] e pos) (tAsg te g) (sAsg fd gs) := ⟨ps_asg he.p hg.p hs hw h1, sem_asg he.ok hg.ok⟩
theorem ss_par {a b : Expr} {px py pt : Pos} {kt k2 pt2} (hc : X.calm = true) (hN : X.N.Nodup) (hij : i ≠ j) (h1 : SV X K a te fv) (h2 : SV X K b ta fw) (hi : X.N[i]? = some x := by rfl) (hj : X.N[j]? = some y := by rfl)
    (hx : X.env.scope.names.lookup x = some .local := by rfl) (hy : X.env.scope.names.lookup y = some .local := by rfl) (hsa : starEach [a, b] X.env = (false, eval a X.env) :: starEach [b] X.env := by rfl) (hsb : starEach [b] X.env = (false, eval b X.env) :: starEach [] X.env := by rfl)
    (hw : swappedStores [.Tuple [.Name x px, .Name y py] kt pt] (.Tuple [a, b] k2 pt2) X.env = pure (some [x, y]) := by rfl)
    (hs : swapsWithSole [.Tuple [.Name x px, .Name y py] kt pt] (.Tuple [a, b] k2 pt2) pos.line X.env = pure false := by rfl) :
    SS X K (.Assign [.Tuple [.Name x px, .Name y py] kt pt] (.Tuple [a, b] k2 pt2) pos) (tPar i j (tCons te (tCons ta tNil))) (sPar i j fv fw) := ⟨ps_par hc hN hi hj hij hx hy (pa_cons h1.p (pa_cons h2.p pa_nil hsb) hsa) hw hs, sem_par hij h1.ok h2.ok⟩
theorem ss_for {tg iter : Expr} {body : List Stmt} {wi : TI} {g : TG} {ix : List Nat} {gs : GS} {tb : TS} {fB : SSem} (hp : PassesOwn (model X.prog X.w) X.A X.env X.xe) (hc : X.calm = true) (hi : SI X K tg iter wi fl) (hg : SG X K tg g ix gs) (hb : SSs X K body tb fB)
    (hs : ∀ x, foldedSetIterable iter X.env x = pure x := by intro _; rfl) : SS X K (.For tg iter body [] pos) (tFor wi g tb) (sFor fl gs fB) := ⟨ps_for hp hc hi.p hg.p hb.p hs, sem_for hi.ok hg.ok hb.ok⟩
theorem ss_while (n : Nat) {body : List Stmt} {tb : TS} {fB : SSem} (hp : PassesOwn (model X.prog X.w) X.A X.env X.xe) (hc : ST X K c tt fb) (hb : SSs X K body tb fB) : SS X K (.While c body [] pos) (tWhile tt tb) (sWhile n fb fB) := ⟨ps_while hp hc.p hb.p, sem_while hc.ok hb.ok⟩
/-! ### comprehensions -/
structure STs (X : Cx) (K : KK) (ifs : List Expr) (t : TT) (f : BS) : Prop where
  p : PTs X ifs t
  ok : SemB K t f
theorem sts_nil : STs X K [] tYes sYes := ⟨pts_nil, sem_yes⟩
theorem sts_one (h : ST X K c tt fb) : STs X K [c] tt fb := ⟨pts_one h.p, h.ok⟩
variable {elt tg iter : Expr} {ifs : List Expr} {scope : Scope} {spos : Pos} {wi : TI} {g : TG} {ix : List Nat} {gs : GS} {py : Pos}
theorem sl_lc (own : List (Str × Nat)) (vs : List Nat) (hc : X.calm = true) (hN : X.N.Nodup) (hi : SI X K tg iter wi fl) (ok : blkC X.N X.env.scope scope own = true)
    (hg : ∀ (s : Shared) (H : Hp) (C : Addr) (cl : List (Str × Addr)) (fp : List Addr), SG (X.blk s H scope (compEnvC scope cl C X.env) fp) K tg g ix gs) (ht : ∀ (s : Shared) (H : Hp) (C : Addr) (cl : List (Str × Addr)) (fp : List Addr), STs (X.blk s H scope (compEnvC scope cl C X.env) fp) K ifs tt fb)
    (he : ∀ (s : Shared) (H : Hp) (C : Addr) (cl : List (Str × Addr)) (fp : List Addr), SDt (X.blk s H scope (compEnvC scope cl C X.env) fp) K elt te fd) (hv : own.map (·.2) = vs := by rfl) (hix : ∀ i ∈ ix, i ∈ vs := by decide) (hs : ∀ x, foldedSetIterable iter X.env x = pure x := by intro _; rfl) :
    SL X K (.ListComp elt [⟨tg, iter, ifs, 0⟩] scope pos) (tLc wi g tt te vs) (sLC vs fl gs fb fd) := by
  subst hv
  have s0 : Shared := X.s_0
  exact ⟨pe_lc hc hN hi.p (blkOk_by ok) (fun s H C cl fp => (hg s H C cl fp).p) (fun s H C cl fp => (ht s H C cl fp).p) (fun s H C cl fp => (he s H C cl fp).p) hs,
    sem_lc hi.ok (hg s0 X.H_0 0 [] []).ok hix (ht s0 X.H_0 0 [] []).ok (he s0 X.H_0 0 [] []).ok⟩
/-- name = [..]: the slot is given the new list, as its own or standing still (b) -/
def vLC (b : Bool) (fl : LS) : VS := if b then vD (sTake (sKeep fl)) else vL fl
theorem sem_vLC {b : Bool} (h : SemL K te fl) : SemV K te (vLC b fl) := by
  cases b with
  | true => exact sem_vD (sem_take (sem_keep h))
  | false => exact sem_vL h
theorem ss_setLc (b : Bool) (own : List (Str × Nat)) (vs : List Nat) (hc : X.calm = true) (hN : X.N.Nodup) (hi : SI X K tg iter wi fl) (ok : blkC X.N X.env.scope scope own = true)
    (hg : ∀ (s : Shared) (H : Hp) (C : Addr) (cl : List (Str × Addr)) (fp : List Addr), SG (X.blk s H scope (compEnvC scope cl C X.env) fp) K tg g ix gs) (ht : ∀ (s : Shared) (H : Hp) (C : Addr) (cl : List (Str × Addr)) (fp : List Addr), STs (X.blk s H scope (compEnvC scope cl C X.env) fp) K ifs tt fb)
    (he : ∀ (s : Shared) (H : Hp) (C : Addr) (cl : List (Str × Addr)) (fp : List Addr), SDt (X.blk s H scope (compEnvC scope cl C X.env) fp) K elt te fd) (hsw : swapsWith (.ListComp elt [⟨tg, iter, ifs, 0⟩] scope pos) (some (.Name y py)) spos.line X.env = pure true) (hy : X.N[i]? = some y := by rfl) (hyl : X.env.scope.names.lookup y = some .local := by rfl)
    (hv : own.map (·.2) = vs := by rfl) (hix : ∀ i ∈ ix, i ∈ vs := by decide) (hs : ∀ x, foldedSetIterable iter X.env x = pure x := by intro _; rfl) :
    SS X K (.Assign [.Name y py] (.ListComp elt [⟨tg, iter, ifs, 0⟩] scope pos) spos) (tAsg (tLc wi g tt te vs) (gName i)) (sSetV (vLC b (sLC vs fl gs fb fd)) i) := by
  subst hv
  have s0 : Shared := X.s_0
  exact ⟨ps_setLc hc hN hy hyl hsw hi.p (blkOk_by ok) (fun s H C cl fp => (hg s H C cl fp).p) (fun s H C cl fp => (ht s H C cl fp).p) (fun s H C cl fp => (he s H C cl fp).p) hs,
    sem_setV (sem_vLC (sem_lc hi.ok (hg s0 X.H_0 0 [] []).ok hix (ht s0 X.H_0 0 [] []).ok (he s0 X.H_0 0 [] []).ok))⟩
end
end DL

set_option Elab.async false
set_option linter.all false
set_option maxRecDepth 100000
set_option maxHeartbeats 4000000
/-! DL, part 12: the law's end; facts of built-ins. -/
namespace DL
open PySem PySem.Spec PyProof.Rows L2

theorem bt_isinstance : bootBuiltins "isinstance" = some (.builtin "isinstance") := by decide +kernel
theorem bt_all : bootBuiltins "all" = some (.builtin "all") := by decide +kernel
theorem bt_any : bootBuiltins "any" = some (.builtin "any") := by decide +kernel
theorem bt_sum : bootBuiltins "sum" = some (.builtin "sum") := by decide +kernel
theorem bt_max : bootBuiltins "max" = some (.builtin "max") := by decide +kernel
theorem bt_min : bootBuiltins "min" = some (.builtin "min") := by decide +kernel
theorem bt_abs : bootBuiltins "abs" = some (.builtin "abs") := by decide +kernel
theorem bt_len : bootBuiltins "len" = some (.builtin "len") := by decide +kernel
theorem bt_repr : bootBuiltins "repr" = some (.builtin "repr") := by decide +kernel
theorem bt_sorted : bootBuiltins "sorted" = some (.builtin "sorted") := by decide +kernel
theorem bt_divmod : bootBuiltins "divmod" = some (.builtin "divmod") := by decide +kernel
theorem bt_tuple : bootBuiltins "tuple" = some (.type "tuple") := by decide +kernel
theorem bt_list : bootBuiltins "list" = some (.type "list") := by decide +kernel
theorem bt_int : bootBuiltins "int" = some (.type "int") := by decide +kernel
theorem bt_set : bootBuiltins "set" = some (.type "set") := by decide +kernel
theorem bt_str : bootBuiltins "str" = some (.type "str") := by decide +kernel
theorem bt_bool : bootBuiltins "bool" = some (.type "bool") := by decide +kernel
theorem bt_dict : bootBuiltins "dict" = some (.type "dict") := by decide +kernel
theorem bt_range : bootBuiltins "range" = some (.type "range") := by decide +kernel

/-- the script as data -/
def scrD (ns : List Int) : PyData := .dict [(.none, .list (ns.map .int))]
/-- what the law's def is to hand back -/
def LawM (n : Nat) (m : Fn) : Prop := ∀ ns : List Int, ns.length ≤ n → m [.d (scrD ns)] = some (.d (.bool true), [.d (scrD ns)])

section
variable {P : Program} {w : World} {K : PySem.W.Frag} {mg mb : Str → Option Value} {k : Nat} {fa a : Addr} {fd : FuncData} {x : Str} {m : Fn} {s1 : Shared} {vs : List Value} {ns : List Int} {n : Nat}
theorem sr_script {H : Hp} (hS : SqL K H a (ns.map V.int)) : SR ⟨K, P, w⟩ ⟨H, H, [.d (scrD ns)], [V.ref a].map some⟩ [.d (scrD ns)] ([V.ref a].map some) H H := by
  refine ⟨rfl, .refl _, .refl _, fun b h => .inl h, fun b o h _ => h, fun b h => h, fun i y e => ?_, fun i b xs e => ?_, fun i j c b1 x1 b2 x2 e1 _ _ _ => ?_⟩
  · cases i with
    | zero => cases e; exact ⟨.ref a, rfl, .scr hS (RpAll.of_ints ns)⟩
    | succ i => simp at e
  · cases i with
    | zero => cases e
    | succ i => simp at e
  · cases i with
    | zero => cases e1
    | succ i => simp at e1
theorem law_callG (KX : K.In s1.heap) (hns : s1.heap.Ns mainGlobals mg) (hb : s1.heap.Ns builtinsNs mb) (hbb : ∀ x : Str, x ≠ "__name__" → mb x = bootBuiltins x) (hlim : s1.heap.NoLimit) (hg : s1.gens = #[])
    (ha : s1.heap.get? a = some { cls := .type "list", data := .seq vs.toArray }) (hi : IntsAre vs ns) (hl : ns.length ≤ sizeLine) (hn : ns.length ≤ n) (hr : Room k callerA)
    (F : ∀ base : Heap, K.In base → base.Ns mainGlobals mg → FnG P w K mg base k fa fd [x] m) (hbind : ∀ (s : Shared) (u : Value), BindsTo s fd ⟨[u], []⟩ [(x, u)]) (hm : LawM n m) :
    codeAny (model P w) callerA (.call (.ref fa) ⟨[.ref a], []⟩) (fun r s' => r = .ok (.ret (.bool true)) ∧ OldK s1.heap s'.heap ∧ s'.os = s1.os ∧ AllBare s'.gens) s1 := by
  have rv := vals_ints hi
  have lenV := hi.length
  have key : ∀ H : Hp, Only H → SqL K H a (ns.map V.int) → HOk P w H s1.heap → (∀ b, H b ≠ none → b = a ∧ K.lookup a = none) →
      codeAny (model P w) callerA (.call (.ref fa) ⟨[.ref a], []⟩) (fun r s' => r = .ok (.ret (.bool true)) ∧ OldK s1.heap s'.heap ∧ s'.os = s1.os ∧ AllBare s'.gens) s1 := by
    intro H hO hS hok hA
    have away : ∀ {b : Addr}, (b = a → False) → H b = none := fun {b} nb => by
      cases q : H b with
      | none => rfl
      | some u => exact (nb (hA b (by rw [q]; simp)).1).elim
    have nsK : ∀ {b : Addr} {f : Str → Option Value}, s1.heap.Ns b f → (hidT s1.heap H).Ns b f := fun {b f} ⟨o, es, ep, e, d, r⟩ => ⟨o, es, ep, hidT_get e (away fun z => by
      subst z
      rw [ha] at e; cases e
      have d' : Data.seq vs.toArray _ = Data.dict es ep := d
      cases d'), d, r⟩
    have hKb : K.In (hidT s1.heap H) := fun b o e => by
      refine hidT_get (KX b o e) ?_
      cases q : H b with
      | none => rfl
      | some u =>
        obtain ⟨z1, z2⟩ := hA b (by rw [q]; simp)
        rw [z1, z2] at e; cases e
    obtain ⟨mc, h1, h2⟩ := hlim
    have e0 : Env0 P w K mg (hidT s1.heap H) callerA [] s1 H :=
      ⟨rfl, ⟨hKb, nsK hns, ⟨mb, nsK hb, hbb⟩, ⟨mc, nsK h1, h2⟩⟩, fun b o e => of_hidT e, Nat.le_of_eq (hidT_size _ _), trivial, fun b hb => absurd (show b ∈ ([] : List Addr) from hb) (by simp), hok, .of_eq hg⟩
    have sp : spM ⟨K, P, w⟩ [x].length m [.ref a] H (fun v _ => v = .bl true) E0 := by
      refine ⟨_, H, _, _, rfl, sr_script hS, hm ns hn, fun v H' G' r => ?_⟩
      obtain ⟨u, q1, q2⟩ := r.dat 1 (.bool true) rfl
      cases q1
      cases q2
      rfl
    refine codeAny_mono ((F _ hKb (nsK hns)).run callerA [] s1 H ⟨[.ref a], []⟩ [.ref a] [.ref a] _ hr rfl e0 (hbind s1 (.ref a)) (.cons rfl .nil) sp) fun r s' h => ?_
    cases r with
    | error e => exact False.elim h
    | ok fl =>
      cases fl with
      | ret u =>
        obtain ⟨v, H', os, bare, un, hok', r', q⟩ := h
        subst q
        obtain rfl : u = Value.bool true := r'
        refine ⟨rfl, OldK.of_keep fun b o e => ?_, os, bare⟩
        cases q : H b with
        | none => exact un.keep b o e q (fun z => absurd (show b ∈ ([] : List Addr) from z) (by simp)) (by simp)
        | some u =>
          rcases hO b with z | ⟨ob, xs, z⟩
          · rw [q] at z; cases z
          · obtain ⟨e1, _⟩ := hok b _ z
            obtain ⟨e2, _⟩ := hok' b _ (un.frzs b ob _ z)
            rw [e] at e1; cases e1
            exact e2
      | next => exact False.elim h
      | brk => exact False.elim h
      | cont => exact False.elim h
  cases hk : K.lookup a with
  | some o =>
    have e := KX a o hk
    rw [ha] at e
    cases e
    exact key (fun _ => none) (fun _ => .inl rfl) (.inr ⟨_, vs.toArray, _, hk, rfl, rfl, rfl, by rw [List.size_toArray, lenV]; exact hl, by simpa using rv⟩) (fun b u z => by cases z) fun b z => absurd rfl z
  | none =>
    have hit : ∀ {b : Addr} {u : HO}, (if b = a then some (HO.frz { cls := .type "list", data := .seq vs.toArray } (.lst (ns.map V.int))) else none) = some u → b = a ∧ u = HO.frz { cls := .type "list", data := .seq vs.toArray } (.lst (ns.map V.int)) := fun {b u} z => by
      by_cases q : b = a
      · rw [if_pos q] at z; cases z; exact ⟨q, rfl⟩
      · rw [if_neg q] at z; cases z
    refine key (fun b => if b = a then some (.frz { cls := .type "list", data := .seq vs.toArray } (.lst (ns.map V.int))) else none) (fun b => ?_) (.inl (.inr ⟨_, if_pos rfl⟩)) (fun b u z => ?_) fun b z => ⟨?_, hk⟩
    · by_cases q : b = a
      · exact .inr ⟨_, _, if_pos q⟩
      · exact .inl (if_neg q)
    · obtain ⟨rfl, rfl⟩ := hit z
      exact ⟨ha, by rw [List.length_map]; exact hl, vs, _, rv, ha⟩
    · by_cases q : b = a
      · exact q
      · exact absurd (if_neg q) z
end
/-- the end: the law's def over every base -/
theorem walkG {l : PySem.W.OpenLaw} {n k : Nat} {q : Program} {loose : List Str} {XP : (Str → Option Value) → Heap → Prop} {YP : World → Heap → Prop} {d : DefRec} {K : Params → PySem.W.Frag} {m : Fn} {x : Str}
    (hn : l.most = some n) (hn2 : n ≤ sizeLine) (hdf : d.params.defaults = []) (hr : Room k callerA) (hY : ∀ (w : World) (h : Heap), YP w h → (K w.params).In h)
    (F : ∀ (w : World) (mg : Str → Option Value) (fa : Addr) (h : Heap), (K w.params).In h → h.Ns mainGlobals mg → mg d.name = some (.ref fa) →
      ∃ fd : FuncData, (∀ (s : Shared) (u : Value), BindsTo s fd ⟨[u], []⟩ [(x, u)]) ∧ ∀ base : Heap, (K w.params).In base → base.Ns mainGlobals mg → FnG l.prog w (K w.params) mg base k fa fd [x] m)
    (hm : LawM n m) : PySem.W.WalkO q loose XP YP l.row.toRowW d [] (fun f vs => PySem.call f vs) := by
  refine Att.attach_call hn hdf fun w s0 s1 mg mb fa o pm cd doc a vs ns G Y ho hd hcd hmg hobj hints hlen hg => ?_
  obtain ⟨fd, hb, hF⟩ := F w mg fa _ (hY w _ Y) G.T.g hmg
  exact law_callG (hY w _ Y) G.T.g G.T.b G.T.builtins G.T.nolimit hg hobj hints (Nat.le_trans hlen hn2) hlen hr hF hb hm
end DL

set_option Elab.async false
set_option linter.all false
set_option maxRecDepth 100000
set_option maxHeartbeats 4000000
/-! DL, part 13: empty dicts; calls by name. -/
namespace DL
open PySem PySem.Spec PyProof.Rows L2

def sDict0 : ES := fun S => some (.dat (.dict []), S)
section
variable {X : Cx} {K : KK} {pos : Pos}
theorem sem_dict0 : SemE K tDNewK sDict0 := fun F S σ H G o S' r ef Q k => by
  cases ef
  intro p hp
  have px := PX.laid (o := .dK []) r.gh hp
  exact k _ _ _ (r.ext px) px.gg (.dic (.inl upd_same) .nil)
theorem se_dict0 : SE X K (.Dict [] [] pos) tDNewK sDict0 := ⟨pe_dnewK, sem_dict0⟩
theorem kwb {K : PySem.W.Frag} {x qual : Str} {st : Stmt} {f : Addr} {fd : FuncData} {ps ks : List Str} {pm : List Nat} (F : Fun K x qual st f fd)
    (h : ∀ (kV doc pm' : Value) (an : Option Addr) (cdv ct : Value) (us ws : List Value), us.length + ks.length = ps.length → ws.length = ks.length → bindArgs (PySem.W.fnOf x qual (defArgs st) (defBody st) (defScope st) .none kV doc pm' an cdv ct) ⟨us, ks.zip ws⟩ = pure (ps.zip (perm pm (us ++ ws)))) : KwB K fd ps ks pm := by
  obtain ⟨oc, od, kV, doc, pm', an, cdv, ct, osl, rfl, lk, hcd⟩ := F.ex
  exact fun s us ws _ h1 h2 => .of_eq (h kV doc pm' an cdv ct us ws h1 h2)
end

/-! ### a call whose one argument is a new list that the def may change -/
theorem SR.pop {K : KK} {F : Fr} {S : List SD} {σ : L2.St} {H G : Hp} {t : SD} {o : Option V} (r : SR K F (S ++ [t]) (σ ++ [o]) H G) : SR K F S σ H G := by
  have L : σ.length = S.length := by simpa using r.len
  have inS : ∀ {i : Nat} {s : SD}, S[i]? = some s → (S ++ [t])[i]? = some s ∧ (σ ++ [o])[i]? = σ[i]? := fun {i s} h => by
    have hi := (List.getElem?_eq_some_iff.mp h).1
    exact ⟨by rw [List.getElem?_append_left hi]; exact h, List.getElem?_append_left (by omega)⟩
  refine ⟨L, r.g0, r.gh, r.new, r.keep, r.live, fun i x e => ?_, fun i b xs e => ?_, fun i j a b1 x1 b2 x2 e1 e2 e3 e4 => ?_⟩
  · obtain ⟨h1, h2⟩ := inS e
    rw [← h2]; exact r.dat i x h1
  · obtain ⟨h1, h2⟩ := inS e
    rw [← h2]; exact r.own i b xs h1
  · obtain ⟨h1, h2⟩ := inS e1
    obtain ⟨h3, h4⟩ := inS e2
    rw [← h2] at e3
    rw [← h4] at e4
    exact r.sep i j a b1 x1 b2 x2 h1 h3 e3 e4
def onlyD : SD → Option PyData
  | .d x => some x
  | _ => none
def sCallF (m : Fn) (fl : LS) : ES := fun S => (fl S).bind fun p => (m [.own true p.1]).bind fun q => (onlyD q.1).map fun x => (.dat x, p.2)
theorem sem_callF {K : KK} {te : TE} {fl : LS} {m : Fn} (h : SemL K te fl) : SemE K (tCallG (spM K 1 m) (tCons te tNil)) (sCallF m fl) := by
  intro F S σ H G o S' r ef Q k
  obtain ⟨⟨xs, S1⟩, e1, ef⟩ := Option.bind_eq_some_iff.mp ef
  obtain ⟨⟨rs, Dl'⟩, e2, ef⟩ := Option.bind_eq_some_iff.mp ef
  obtain ⟨x, e3, e4⟩ := Option.map_eq_some_iff.mp ef
  cases e4
  have hrs : rs = .d x := by
    cases rs with
    | d y => cases e3; rfl
    | _ => cases e3
  subst hrs
  refine h F S σ H G xs _ r e1 _ fun p vs H1 G1 r1 g1 f0 fg fa hh ha => ?_
  have L1 : σ.length = S1.length := r1.len
  have rp := r1.pushO f0 fg fa hh (.lst ha)
  refine ⟨[.own true xs], G1, .d x, Dl', rfl, ?_, e2, fun v H' G' r' => ?_⟩
  · refine ⟨rfl, .refl _, r1.gh, fun b h => .inl h, fun b o h _ => h, fun b h => h, fun i y e => ?_, fun i b ys e => ?_, fun i j c b1 x1 b2 x2 q1 q2 _ _ => ?_⟩
    · cases i with
      | zero => cases e
      | succ i => simp at e
    · cases i with
      | zero => cases e; exact ⟨p, _, rfl, fg, hh, .lst ha, fun _ => ⟨⟨0, true, xs, rfl, rfl⟩, rfl⟩, fun q => by cases q⟩
      | succ i => simp at e
    · cases i with
      | zero => cases j with
        | zero => rfl
        | succ j => simp at q2
      | succ i => simp at q1
  · have hB : ∀ a, (Fr.B ⟨H1, G1, [.own true xs], [V.ref p].map some⟩ a) → a = p := fun a ⟨i, b, ys, q1, q2⟩ => by
      cases i with
      | zero => cases q2; rfl
      | succ i => simp at q1
    have atP : (S1 ++ [SD.own false xs])[S1.length]? = some (.own false xs) := by simp
    have atV : (σ ++ [some (V.ref p)])[S1.length]? = some (some (.ref p)) := by rw [← L1]; simp
    have rb : SR K F (S1 ++ [.un]) (σ ++ [some (.ref p)]) H' G' := by
      refine rp.back r' rfl rfl (fun a hb => ?_) (by simp) (fun j y e => ?_) fun j b ys e => ?_
      · rw [hB a hb]; exact ⟨S1.length, false, xs, atP, atV⟩
      · by_cases hj : j < S1.length
        · rw [List.getElem?_append_left hj] at e ⊢; exact e
        · rw [List.getElem?_append_right (by omega)] at e
          cases z : j - S1.length with
          | zero => rw [z] at e; cases e
          | succ n => rw [z] at e; simp at e
      · by_cases hj : j < S1.length
        · rw [List.getElem?_append_left hj] at e
          obtain ⟨a, ws, q1, _⟩ := r1.own j b ys e
          have e' : (S1 ++ [SD.own false xs])[j]? = some (.own b ys) := by rw [List.getElem?_append_left hj]; exact e
          refine ⟨⟨ys, e'⟩, a, by rw [List.getElem?_append_left (by omega)]; exact q1, .inr ⟨e', fun hb => ?_⟩⟩
          rw [hB a hb] at q1
          exact fa j b ys e q1
        · rw [List.getElem?_append_right (by omega)] at e
          cases z : j - S1.length with
          | zero => rw [z] at e; cases e
          | succ n => rw [z] at e; simp at e
    have hv : Rp K G' v x := by
      have hl : Dl'.length = 1 := by simpa using r'.len.symm
      obtain ⟨u, q1, q2⟩ := r'.dat 1 x (by rw [← hl]; simp)
      cases q1
      exact q2
    exact k v H' G' rb.pop (g1.trans r'.g0) hv
section
variable {X : Cx} {K : KK} {k : Nat} {f : Addr} {fd : FuncData} {ps : List Str} {m : Fn} {x : Str} {p pos : Pos} {e : Expr} {te : TE} {fl : LS}
theorem se_callF (hK : Ckk X = K) (C : Cal X.prog X.w K X.mg X.base k x ps m f fd) (hr : Room k X.A) (hgd : X.A.guards = some []) (ha : SL X K e te fl) (hp : ps.length = 1 := by rfl) (hg : Gl X x := by rfl) (hdb : (x == ("__debug__" : Str)) = false := by decide)
    (he : starEach [e] X.env = (false, eval e X.env) :: starEach [] X.env := by rfl) (hpl : (backTo pos (starEach [] X.env)).any (·.1) = false := by rfl) : SE X K (.Call (.Name x p) [e] [] pos) (tCallG (spM K 1 m) (tCons te tNil)) (sCallF m fl) := by
  have h := pe_callG hK C hr hgd (pa_cons ha.p pa_nil he) hg hdb he hpl (pos := pos) (p := p)
  rw [hp] at h
  exact ⟨h, sem_callF ha.ok⟩
end
end DL

set_option Elab.async false
set_option linter.all false
set_option maxRecDepth 100000
set_option maxHeartbeats 4000000
/-! DL, part 14: sorted({k: v for ..}), keys ints. -/
namespace DL
open PySem PySem.Spec PyProof.Rows L2
def rSortedDI : List V → Hp → VK → Prop := fun xs H Q => ∃ (a : Addr) (kvs : List (Key × V)) (ks : List Int), xs = [.ref a] ∧ Rd H a (.dK kvs) ∧ kvs.map (·.1) = ks.map Sum.inl ∧ ks.length < 64 ∧
    ∀ (ys : List Int) (p : Addr), ys.Perm ks → ys.Pairwise (· ≤ ·) → H p = none → Q (.ref p) (upd H p (.lst (ys.map V.int)))
def sSDC (vs : List Nat) (fi : LS) (gs : GS) (fd : DS) : LS := fun S => (sLC vs fi gs sYes fd S).bind fun p => (dInts p.1).bind fun ns => if (setI ns).length < 64 then some ((setI ns).map .int, p.2) else none
/-- the keys ds, each once, of the values ns -/
def KsOf (kvs : List (Key × V)) (ns : List Int) : Prop := ∃ ds : List Int, kvs.map (·.1) = ds.map Sum.inl ∧ ds.Nodup ∧ ∀ k, k ∈ ds ↔ k ∈ ns
theorem KsOf.nil : KsOf [] [] := ⟨[], rfl, .nil, fun _ => by simp⟩
theorem KsOf.put {kvs : List (Key × V)} {ns : List Int} (h : KsOf kvs ns) (n : Int) (v : V) : KsOf (putK kvs (.inl n) v) (ns ++ [n]) := by
  obtain ⟨ds, h1, h2, h3⟩ := h
  have any : (kvs.any fun kv => decide (kv.1 = Sum.inl n)) = decide (n ∈ ds) := by
    have e : (kvs.any fun kv => decide (kv.1 = Sum.inl n)) = (kvs.map (·.1)).any fun k => decide (k = Sum.inl n) := by
      rw [List.any_map]; rfl
    rw [e, h1, List.any_map, Bool.eq_iff_iff]
    simp only [List.any_eq_true, Function.comp, decide_eq_true_eq]
    constructor
    · rintro ⟨x, hx, e⟩; cases e; exact hx
    · exact fun hx => ⟨n, hx, rfl⟩
  unfold putK
  rw [any]
  by_cases hn : n ∈ ds
  · rw [if_pos (by simpa using hn)]
    refine ⟨ds, ?_, h2, fun k => ?_⟩
    · rw [← h1, List.map_map]
      apply List.map_congr_left
      intro kv _
      show (if kv.1 = Sum.inl n then (kv.1, v) else kv).1 = kv.1
      split <;> rfl
    · rw [h3 k, List.mem_append, List.mem_singleton]
      exact ⟨.inl, fun q => q.elim id fun e => by subst e; exact (h3 k).mp hn⟩
  · rw [if_neg (by simpa using hn)]
    refine ⟨ds ++ [n], by rw [List.map_append, List.map_append, h1]; rfl, ?_, fun k => ?_⟩
    · rw [List.nodup_append]
      exact ⟨h2, by simp, fun a ha b hb e => by rw [List.mem_singleton] at hb; subst hb; subst e; exact hn ha⟩
    · rw [List.mem_append, List.mem_append, h3 k]
section
variable {K : KK} {wi : TI} {g : TG} {te tv : TE} {vs ix : List Nat} {fi : LS} {gs : GS} {fd : DS} {bv : Bool}
theorem sem_sdc (hi : SemI K wi fi) (hg : SemG K g ix gs) (hix : ∀ i ∈ ix, i ∈ vs) (he : SemD K te fd) : SemL K (tCB rSortedDI (tCons (tDc wi g tYes te (tC (.bl bv)) vs) tNil)) (sSDC vs fi gs fd) := by
  intro F S σ H G outI S' r e Q k
  obtain ⟨⟨out, S0⟩, e0, e⟩ := Option.bind_eq_some_iff.mp e
  obtain ⟨ns, en, e⟩ := Option.bind_eq_some_iff.mp e
  split at e
  case isFalse => cases e
  rename_i h64
  cases e
  obtain ⟨⟨xs, S1⟩, e1, e2⟩ := Option.bind_eq_some_iff.mp e0
  have e2 : (if xs.length < 100000 then lcGo vs gs sYes fd xs S1 else none) = some (out, S0) := e2
  split at e2
  · rename_i hlen
    have ho := dInts_some en
    unfold tCB tCons tDc
    refine hi F S σ H G xs S1 r e1 _ fun J H1 G1 r1 g1 wk D hD => ?_
    obtain ⟨f0, fg, fa⟩ := r1.fresh hD
    refine ⟨fun i m H' => i + m = xs.length ∧ ∃ T G' kvs done rest, SR K F T σ H' G' ∧ Ex G1 G' ∧ Apart T σ D ∧ G' D = none ∧ H' D = some (.dK kvs) ∧ KsOf kvs done ∧ kvs.length ≤ i ∧ lcGo vs gs sYes fd (xs.drop i) T = some (rest, S0) ∧ done.map PyData.int ++ rest = out,
      ⟨xs.length, by omega, S1, G1, [], [], out, r1.ext (PX.side r1.gh hD), .refl _, fa, fg, upd_same, .nil, by simp, by simpa using e2, rfl⟩, fun i m H' ⟨hm, T, G', kvs, done, rest, r', x', ap, gD, hh, ha, hl, ef, eo⟩ => ?_⟩
    obtain ⟨w1, w2⟩ := wk G' H' x' r'.gh i
    by_cases hi : i < xs.length
    · obtain ⟨go, yl⟩ := w1 hi
      have ed : xs.drop i = xs[i] :: xs.drop (i + 1) := List.drop_eq_getElem_cons hi
      rw [ed] at ef
      obtain ⟨S2, q1, ef⟩ := Option.bind_eq_some_iff.mp ef
      have ef : ((fd S2).bind fun q => (lcGo vs gs sYes fd (xs.drop (i + 1)) (unbGo vs 0 T q.2)).map fun z => (q.1 :: z.1, z.2)) = some (rest, S0) := ef
      obtain ⟨⟨y, S4⟩, q3, ef⟩ := Option.bind_eq_some_iff.mp ef
      obtain ⟨⟨rest', S5⟩, q4, q5⟩ := Option.map_eq_some_iff.mp ef
      cases q5
      have hy : ∃ n : Int, y = .int n := by
        have : y ∈ ns.map PyData.int := by rw [← ho, ← eo]; simp
        obtain ⟨n, _, h⟩ := List.mem_map.mp this
        exact ⟨n, h.symm⟩
      obtain ⟨n, rfl⟩ := hy
      refine .inr ⟨go, fun H2 => ∃ T G' kvs done rest, SR K F T σ H2 G' ∧ Ex G1 G' ∧ Apart T σ D ∧ G' D = none ∧ H2 D = some (.dK kvs) ∧ KsOf kvs done ∧ kvs.length ≤ i + 1 ∧ lcGo vs gs sYes fd (xs.drop (i + 1)) T = some (rest, S5) ∧ done.map PyData.int ++ rest = out,
        fun H2 hN => ⟨m - 1, by omega, by omega, hN⟩, fun v H2 hy => ?_⟩
      obtain ⟨G2, x, hx, px, hr⟩ := yl v H2 hy
      rw [List.getElem?_eq_getElem hi] at hx
      cases hx
      have r2 : SR K F T σ H2 G2 := r'.ext px
      have gD2 : G2 D = none := by
        cases z : G2 D with
        | none => rfl
        | some u =>
          rcases px.new D (by rw [z]; simp) with q | q
          · exact absurd gD q
          · rw [hh] at q; cases q
      have hh2 : H2 D = some (.dK kvs) := px.hh D _ hh
      refine hg (Fr.blk vs T σ H2 G2) (borGo vs 0 T) (wipe σ vs) H2 G2 v _ S2 (r2.sub vs) hr q1 _ fun σ3 H3 G3 r3 g3 b3 => ⟨?_, ?_⟩
      · have b4 := b3.mono hix
        exact (wipe_ext (fun i hi => ((Bt.wiped.trans b4).2 i hi)) (Bt.wiped.trans b4).1).symm
      · show te σ3 H3 _
        refine he _ S2 σ3 H3 G3 (.int n) S4 r3 q3 _ fun w H5 G5 r5 g5 hy5 => ?_
        cases hy5
        obtain ⟨hD5, gD5⟩ := r2.aside r5 hh2 gD2 ap
        have x5 : Ex G1 G5 := ((x'.trans px.gg).trans g3).trans g5
        have lk := length_putK kvs (Sum.inl n) (V.bl bv)
        refine ⟨kvs, .inl n, rfl, hD5, szl (by omega), unbGo vs 0 T S4, G5, putK kvs (.inl n) (.bl bv), done ++ [n], rest', (r2.unsub r5).side f0 gD5 (apart_unb ap), x5, apart_unb ap, gD5, upd_same, ha.put n _, by omega, q4, by rw [← eo]; simp⟩
    · refine .inl ⟨w2 (by omega), ?_⟩
      rw [List.drop_eq_nil_of_le (by omega)] at ef
      cases ef
      rw [List.append_nil] at eo
      have hdn : done = ns := by
        have : done.map PyData.int = ns.map PyData.int := eo.trans ho
        exact (List.map_inj_right (fun a b h => by cases h; rfl)).mp this
      subst hdn
      obtain ⟨ds, k1, k2, k3⟩ := ha
      have hlen : ds.length = (setI done).length := setI_count k2 k3
      show rSortedDI [V.ref D] _ Q
      refine ⟨D, kvs, ds, rfl, .inl hh, k1, by rw [hlen]; exact h64, fun ys p pm so hp => ?_⟩
      have nd : ys.Nodup := pm.nodup_iff.mpr k2
      have hs : ys = setI done := by
        refine strict_unique ?_ (setI_sorted done) fun k => by rw [pm.mem_iff, k3 k, setI_mem]
        have := List.pairwise_and_iff.mpr ⟨so, nd⟩
        exact this.imp fun h => by omega
      subst hs
      obtain ⟨f0', fg', fa'⟩ := r'.fresh hp
      exact k p _ _ _ (r'.ext (PX.side r'.gh hp)) (g1.trans x') f0' fg' fa' upd_same (RpAll.of_ints _)
  · cases e2
end
section
variable {X : Cx} {K : KK} {e tg iter : Expr} {pos : Pos} {te : TE} {fd : DS} {fl : LS} {scope : Scope} {spos : Pos} {wi : TI} {g : TG} {ix : List Nat} {gs : GS}
theorem sl_sdc {p1 q1 : Pos} {bv : Bool} {vpos : Pos} {vk} (own : List (Str × Nat)) (vs : List Nat) (hc : X.calm = true) (hN : X.N.Nodup) (hm1 : X.mg "sorted" = none) (hb1 : bootBuiltins "sorted" = some (.builtin "sorted")) (hi : SI X K tg iter wi fl) (ok : blkC X.N X.env.scope scope own = true)
    (hg : ∀ (s : Shared) (H : Hp) (C : Addr) (cl : List (Str × Addr)) (fp : List Addr), SG (X.blk s H scope (compEnvC scope cl C X.env) fp) K tg g ix gs)
    (he : ∀ (s : Shared) (H : Hp) (C : Addr) (cl : List (Str × Addr)) (fp : List Addr), SDt (X.blk s H scope (compEnvC scope cl C X.env) fp) K e te fd) (hg1 : Gl X "sorted" := by rfl) (hv : own.map (·.2) = vs := by rfl) (hix : ∀ i ∈ ix, i ∈ vs := by decide) (hs : ∀ x, foldedSetIterable iter X.env x = pure x := by intro _; rfl)
    (he2 : starEach [.DictComp e (.Constant (.bool bv) vk vpos) [⟨tg, iter, [], 0⟩] scope pos] X.env = (false, eval (.DictComp e (.Constant (.bool bv) vk vpos) [⟨tg, iter, [], 0⟩] scope pos) X.env) :: starEach [] X.env := by rfl) (hpl2 : (backTo q1 (starEach [] X.env)).any (·.1) = false := by rfl) :
    SL X K (.Call (.Name "sorted" p1) [.DictComp e (.Constant (.bool bv) vk vpos) [⟨tg, iter, [], 0⟩] scope pos] [] q1) (tCB rSortedDI (tCons (tDc wi g tYes te (tC (.bl bv)) vs) tNil)) (sSDC vs fl gs fd) := by
  subst hv
  have s0 : Shared := X.s_0
  refine ⟨?_, sem_sdc hi.ok (hg s0 X.H_0 0 [] []).ok hix (he s0 X.H_0 0 [] []).ok⟩
  exact pe_callB (call_sortedDI hc) hg1 hm1 hb1 (pa_cons (pe_dc hc hN hi.p (blkOk_by ok) (fun s H C cl fp => (hg s H C cl fp).p) (fun s H C cl fp => pts_nil) (fun s H C cl fp => (he s H C cl fp).p) (fun s H C cl fp => pe_bl) hs) pa_nil he2) (by decide) (by decide) he2 hpl2
end
end DL

set_option Elab.async false
set_option linter.all false
set_option maxRecDepth 100000
set_option maxHeartbeats 4000000
/-! DL, part 15: three names at once; lists in lists that are changed in their depth (trees). -/
namespace DL
open PySem PySem.Spec PyProof.Rows L2
section
variable {X : Cx} {K : KK} {pos : Pos} {tA : TA} {fs : AS} {i j l : Nat} {x y z : Str}
theorem ss_par3 {a b c : Expr} {px py pz pt : Pos} {kt k2 pt2} (hc : X.calm = true) (hN : X.N.Nodup) (hij : i ≠ j) (hil : i ≠ l) (hjl : j ≠ l) (ha : SA X K [a, b, c] tA fs) (hi : X.N[i]? = some x := by rfl) (hj : X.N[j]? = some y := by rfl) (hl : X.N[l]? = some z := by rfl)
    (hx : X.env.scope.names.lookup x = some .local := by rfl) (hy : X.env.scope.names.lookup y = some .local := by rfl) (hz : X.env.scope.names.lookup z = some .local := by rfl)
    (hw : swappedStores [.Tuple [.Name x px, .Name y py, .Name z pz] kt pt] (.Tuple [a, b, c] k2 pt2) X.env = pure (some [x, y, z]) := by rfl)
    (hs : swapsWithSole [.Tuple [.Name x px, .Name y py, .Name z pz] kt pt] (.Tuple [a, b, c] k2 pt2) pos.line X.env = pure false := by rfl) :
    SS X K (.Assign [.Tuple [.Name x px, .Name y py, .Name z pz] kt pt] (.Tuple [a, b, c] k2 pt2) pos) (tPar3 i j l tA) (sPar3 i j l fs) := ⟨ps_par3 hc hN hi hj hl hij hil hjl hx hy hz ha.p hw hs, sem_par3 ha.ok⟩
end

/-! ### trees: a list of its own of lists of its own ..; n: how deep; fp: where the lists lie -/
section
variable (K : KK) (G H : Hp)
mutual
inductive Tr : Nat → Addr → PyData → List Addr → Prop
  | leaf {a : Addr} {vs : List V} {xs : List PyData} : H a = some (.lst vs) → RpAll K G vs xs → Tr 0 a (.list xs) [a]
  | node {n : Nat} {a : Addr} {bs : List Addr} {ts : List PyData} {fp : List Addr} : H a = some (.lst (bs.map V.ref)) → Trs n bs ts fp → Tr (n + 1) a (.list ts) (a :: fp)
inductive Trs : Nat → List Addr → List PyData → List Addr → Prop
  | nil {n : Nat} : Trs n [] [] []
  | cons {n : Nat} {b : Addr} {bs : List Addr} {t : PyData} {ts : List PyData} {fp fq : List Addr} : Tr n b t fp → Trs n bs ts fq → Trs n (b :: bs) (t :: ts) (fp ++ fq)
end
end
section
variable {K : KK} {G H G' H' : Hp}
mutual
theorem Tr.mono (e : Ex G G') : ∀ {n : Nat} {a : Addr} {t : PyData} {fp : List Addr}, (∀ c ∈ fp, ∀ o, H c = some o → H' c = some o) → Tr K G H n a t fp → Tr K G' H' n a t fp
  | _, _, _, _, h, .leaf q r => .leaf (h _ (by simp) _ q) (r.mono e)
  | _, _, _, _, h, .node q r => .node (h _ (by simp) _ q) (Trs.mono e (fun c hc => h c (List.mem_cons_of_mem _ hc)) r)
theorem Trs.mono (e : Ex G G') : ∀ {n : Nat} {a : List Addr} {t : List PyData} {fp : List Addr}, (∀ c ∈ fp, ∀ o, H c = some o → H' c = some o) → Trs K G H n a t fp → Trs K G' H' n a t fp
  | _, _, _, _, _, .nil => .nil
  | _, _, _, _, h, .cons q r => .cons (Tr.mono e (fun c hc => h c (List.mem_append_left _ hc)) q) (Trs.mono e (fun c hc => h c (List.mem_append_right _ hc)) r)
end
mutual
theorem Tr.there : ∀ {n : Nat} {a : Addr} {t : PyData} {fp : List Addr}, Tr K G H n a t fp → ∀ c ∈ fp, ∃ o, H c = some o
  | _, _, _, _, .leaf q _, c, hc => by rw [List.mem_singleton] at hc; subst hc; exact ⟨_, q⟩
  | _, _, _, _, .node q r, c, hc => by
    rcases List.mem_cons.mp hc with rfl | hc
    · exact ⟨_, q⟩
    · exact Trs.there r c hc
theorem Trs.there : ∀ {n : Nat} {a : List Addr} {t : List PyData} {fp : List Addr}, Trs K G H n a t fp → ∀ c ∈ fp, ∃ o, H c = some o
  | _, _, _, _, .nil, c, hc => by cases hc
  | _, _, _, _, .cons q r, c, hc => by
    rcases List.mem_append.mp hc with hc | hc
    · exact Tr.there q c hc
    · exact Trs.there r c hc
end
mutual
theorem Tr.known : ∀ {n : Nat} {a : Addr} {t : PyData} {fp : List Addr}, Tr K G H n a t fp → Ex G G' → (∀ c ∈ fp, G' c = H c) → Rp K G' (.ref a) t
  | _, _, _, _, .leaf q r, e, h => .lst ((h _ (by simp)).trans q) (r.mono e)
  | _, _, _, _, .node q r, e, h => .lst ((h _ (by simp)).trans q) (Trs.known r e fun c hc => h c (List.mem_cons_of_mem _ hc))
theorem Trs.known : ∀ {n : Nat} {a : List Addr} {t : List PyData} {fp : List Addr}, Trs K G H n a t fp → Ex G G' → (∀ c ∈ fp, G' c = H c) → RpAll K G' (a.map V.ref) t
  | _, _, _, _, .nil, _, _ => .nil
  | _, _, _, _, .cons q r, e, h => .cons (Tr.known q e fun c hc => h c (List.mem_append_left _ hc)) (Trs.known r e fun c hc => h c (List.mem_append_right _ hc))
end
theorem Trs.snoc {n : Nat} {b : Addr} {t : PyData} {fq : List Addr} (h : Tr K G H n b t fq) : ∀ {bs : List Addr} {ts : List PyData} {fp : List Addr}, Trs K G H n bs ts fp → Trs K G H n (bs ++ [b]) (ts ++ [t]) (fp ++ fq)
  | _, _, _, .nil => by
    have := Trs.cons h (.nil (K := K) (G := G) (H := H) (n := n))
    rwa [List.append_nil] at this
  | _, _, _, .cons q r => by
    have := Trs.cons q (Trs.snoc h r)
    rwa [← List.append_assoc] at this
theorem Trs.length : ∀ {n : Nat} {bs : List Addr} {ts : List PyData} {fp : List Addr}, Trs K G H n bs ts fp → bs.length = ts.length
  | _, _, _, _, .nil => rfl
  | _, _, _, _, .cons _ r => by simp [r.length]
/-- a tree of a list of trees; what is there when it is another -/
theorem Trs.at {n : Nat} : ∀ {bs : List Addr} {ts : List PyData} {fp : List Addr} {j : Nat} {t : PyData}, Trs K G H n bs ts fp → fp.Nodup → ts[j]? = some t → ∃ b fq, bs[j]? = some b ∧ Tr K G H n b t fq ∧ fq.Nodup ∧ (∀ c ∈ fq, c ∈ fp) ∧
    ∀ (H' : Hp) (t' : PyData), (∀ c, c ∉ fq → H' c = H c) → Tr K G H' n b t' fq → Trs K G H' n bs (ts.set j t') fp
  | _, _, _, _, _, .nil, _, e => by simp at e
  | _, _, _, 0, t, .cons (fp := fp) (fq := fq) q r, nd, e => by
    simp at e; subst e
    have nd' := List.nodup_append.mp nd
    refine ⟨_, fp, rfl, q, nd'.1, fun c hc => List.mem_append_left _ hc, fun H' t' h1 h2 => .cons h2 (r.mono (.refl _) fun c hc o ho => ?_)⟩
    rw [h1 c fun z => nd'.2.2 c z c hc rfl]; exact ho
  | _, _, _, j + 1, t, .cons (fp := fp) (fq := fq) q r, nd, e => by
    have nd' := List.nodup_append.mp nd
    obtain ⟨b, fr, h1, h2, h3, h4, h5⟩ := Trs.at (j := j) (t := t) r nd'.2.1 (by simpa using e)
    refine ⟨b, fr, by simpa using h1, h2, h3, fun c hc => List.mem_append_right _ (h4 c hc), fun H' t' q1 q2 => .cons (q.mono (.refl _) fun c hc o ho => ?_) (h5 H' t' q1 q2)⟩
    rw [q1 c fun z => nd'.2.2 c hc c (h4 c z) rfl]; exact ho
end

/-! ### a statement aside -/
def unbk1 : SD → SD → SD
  | .own b _, .own true xs => .own b xs
  | _, .own true _ => .un
  | _, s => s
def unbK : List SD → List SD → List SD
  | s :: S, s' :: S' => unbk1 s s' :: unbK S S'
  | [], S' => S'.map (unbk1 .un)
  | _, [] => []
theorem unbK_len : ∀ (S S' : List SD), (unbK S S').length = S'.length
  | s :: S, s' :: S' => by simp [unbK, unbK_len S S']
  | [], S' => by simp [unbK]
  | _ :: _, [] => rfl
theorem unbK_get : ∀ (S S' : List SD) (i : Nat), (unbK S S')[i]? = (S'[i]?).map (unbk1 ((S[i]?).getD .un))
  | s :: S, s' :: S', 0 => rfl
  | s :: S, s' :: S', i + 1 => by simpa [unbK] using unbK_get S S' i
  | [], S', i => by simp [unbK]
  | _ :: _, [], i => by simp [unbK]
theorem unbk1_d {s s' : SD} {x : PyData} (h : unbk1 s s' = .d x) : s' = .d x := by
  cases s' with
  | own b ys => cases b <;> cases s <;> cases h
  | _ => cases s <;> exact h
theorem unbk1_own {s s' : SD} {b : Bool} {xs : OB} (h : unbk1 s s' = .own b xs) : (∃ ys, s = .own b ys ∧ s' = .own true xs) ∨ (b = false ∧ s' = .own false xs) := by
  cases s' with
  | own c ys =>
    cases c with
    | true => cases s with
      | own d zs => cases h; exact .inl ⟨_, rfl, rfl⟩
      | _ => cases h
    | false => cases s <;> · cases h; exact .inr ⟨rfl, rfl⟩
  | _ => cases s <;> cases h
theorem unbK_d {S S' : List SD} {i : Nat} {x : PyData} (h : (unbK S S')[i]? = some (.d x)) : S'[i]? = some (.d x) := by
  rw [unbK_get] at h
  obtain ⟨s, h1, h2⟩ := Option.map_eq_some_iff.mp h
  rw [h1, unbk1_d h2]
theorem unbK_own {S S' : List SD} {i : Nat} {b : Bool} {xs : OB} (h : (unbK S S')[i]? = some (.own b xs)) : (∃ ys, S[i]? = some (.own b ys) ∧ S'[i]? = some (.own true xs)) ∨ (b = false ∧ S'[i]? = some (.own false xs)) := by
  rw [unbK_get] at h
  obtain ⟨s, h1, h2⟩ := Option.map_eq_some_iff.mp h
  rcases unbk1_own h2 with ⟨ys, h3, h4⟩ | ⟨h3, h4⟩
  · refine .inl ⟨ys, ?_, by rw [h1, h4]⟩
    cases q : S[i]? with
    | none => rw [q] at h3; cases h3
    | some u => rw [q] at h3; exact congrArg some h3
  · exact .inr ⟨h3, by rw [h1, h4]⟩
section
variable {K : KK} {F : Fr} {S S' T : List SD} {σ σ' : L2.St} {H G H' G' : Hp} {fp : List Addr} {n : Nat} {a : Addr} {t : PyData} {vs : List Nat}
theorem SR.unsubK (r : SR K F S σ H G) (r' : SR K (Fr.blk [] S σ H G) S' σ' H' G') : SR K F (unbK S S') σ' H' G' := by
  have nB : ∀ b o, F.H0 b = some o → ¬ F.B b → ¬ (Fr.blk [] S σ H G).B b := fun b o h n q => by
    obtain ⟨j, c, ys, _, h1, h2⟩ := blk_B q
    obtain ⟨a', ws, p1, p2, p3, p4, p5, p6⟩ := r.own j c ys h1
    rw [h2] at p1; cases p1
    cases c with
    | true => exact n (p5 rfl).1
    | false => rw [p6 rfl] at h; cases h
  refine ⟨by rw [r'.len, unbK_len], r.g0.trans r'.g0, r'.gh, fun b h => ?_, fun b o h n => r'.keep b o (r.keep b o h n) (nB b o h n), fun b h => r'.live b (r.live b h), fun i x e => r'.dat i x (unbK_d e), fun i b xs e => ?_, fun i j c b1 x1 b2 x2 e1 e2 e3 e4 => ?_⟩
  · rcases r'.new b h with q | q
    · exact r.new b q
    · have q : H b = none := q
      cases z : F.H0 b with
      | none => exact .inr rfl
      | some o => exact absurd q (r.live b (by rw [z]; simp))
  · rcases unbK_own e with ⟨ys, h1, h2⟩ | ⟨rfl, h2⟩
    · obtain ⟨a1, ws, p1, p2, p3, p4, p5, p6⟩ := r'.own i _ _ h2
      have q1 : (wipe σ [])[i]? = some (some (.ref a1)) := (p5 rfl).2
      have q1 : σ[i]? = some (some (.ref a1)) := q1
      obtain ⟨a2, us, s1, s2, s3, s4, s5, s6⟩ := r.own i _ _ h1
      rw [q1] at s1; cases s1
      exact ⟨a1, ws, p1, p2, p3, p4, s5, s6⟩
    · obtain ⟨a1, ws, p1, p2, p3, p4, p5, p6⟩ := r'.own i _ _ h2
      have q1 : H a1 = none := p6 rfl
      refine ⟨a1, ws, p1, p2, p3, p4, (fun z => by cases z), fun _ => ?_⟩
      cases z : F.H0 a1 with
      | none => rfl
      | some o => exact absurd q1 (r.live a1 (by rw [z]; simp))
  · have own : ∀ {m : Nat} {b : Bool} {xs : OB}, (unbK S S')[m]? = some (.own b xs) → ∃ c, S'[m]? = some (.own c xs) := fun {m b xs} e => by
      rcases unbK_own e with ⟨ys, _, h2⟩ | ⟨rfl, h2⟩
      · exact ⟨_, h2⟩
      · exact ⟨_, h2⟩
    obtain ⟨_, z1⟩ := own e1
    obtain ⟨_, z2⟩ := own e2
    exact r'.sep i j c _ _ _ _ z1 z2 e3 e4
/-- hidden objects -/
structure Hid (F : Fr) (S : List SD) (σ : L2.St) (G : Hp) (fp : List Addr) : Prop where
  nd : fp.Nodup
  at_ : ∀ c ∈ fp, G c = none ∧ F.H0 c = none ∧ Apart S σ c
theorem Tr.aside (r : SR K F S σ H G) (hid : Hid F S σ G fp) (tr : Tr K G H n a t fp) (r' : SR K (Fr.blk vs S σ H G) S' σ' H' G') : Tr K G' H' n a t fp ∧ (∀ c ∈ fp, G' c = none) := by
  have h : ∀ c ∈ fp, ∀ o, H c = some o → H' c = some o ∧ G' c = none := fun c hc o ho => r.aside r' ho (hid.at_ c hc).1 (hid.at_ c hc).2.2
  refine ⟨tr.mono r'.g0 fun c hc o ho => (h c hc o ho).1, fun c hc => ?_⟩
  obtain ⟨o, ho⟩ := tr.there c hc
  exact (h c hc o ho).2
theorem Trs.aside {bs : List Addr} {ts : List PyData} (r : SR K F S σ H G) (hid : Hid F S σ G fp) (tr : Trs K G H n bs ts fp) (r' : SR K (Fr.blk vs S σ H G) S' σ' H' G') : Trs K G' H' n bs ts fp ∧ (∀ c ∈ fp, G' c = none) := by
  have h : ∀ c ∈ fp, ∀ o, H c = some o → H' c = some o ∧ G' c = none := fun c hc o ho => r.aside r' ho (hid.at_ c hc).1 (hid.at_ c hc).2.2
  refine ⟨tr.mono r'.g0 fun c hc o ho => (h c hc o ho).1, fun c hc => ?_⟩
  obtain ⟨o, ho⟩ := tr.there c hc
  exact (h c hc o ho).2
theorem Hid.unb (hid : Hid F S σ G fp) (h : ∀ c ∈ fp, G' c = none) : Hid F (unbGo vs 0 S S') σ G' fp := ⟨hid.nd, fun c hc => ⟨h c hc, (hid.at_ c hc).2.1, apart_unb (hid.at_ c hc).2.2⟩⟩
theorem Hid.unbK (r : SR K F S σ H G) (hid : Hid F S σ G fp) (ht : ∀ c ∈ fp, ∃ o, H c = some o) (r' : SR K (Fr.blk [] S σ H G) S' σ' H' G') (h : ∀ c ∈ fp, G' c = none) : Hid F (unbK S S') σ' G' fp := by
  refine ⟨hid.nd, fun c hc => ⟨h c hc, (hid.at_ c hc).2.1, fun i b xs e q => ?_⟩⟩
  rcases unbK_own e with ⟨ys, h1, h2⟩ | ⟨rfl, h2⟩
  · obtain ⟨a1, ws, p1, p2, p3, p4, p5, p6⟩ := r'.own i _ _ h2
    have q1 : σ[i]? = some (some (.ref a1)) := (p5 rfl).2
    rw [q] at p1; cases p1
    exact (hid.at_ c hc).2.2 i _ _ h1 q1
  · obtain ⟨a1, ws, p1, p2, p3, p4, p5, p6⟩ := r'.own i _ _ h2
    rw [q] at p1; cases p1
    have q1 : H c = none := p6 rfl
    obtain ⟨o, ho⟩ := ht c hc
    rw [ho] at q1; cases q1
theorem Hid.ext (hid : Hid F S σ G fp) (p : PX G H G' H') (ht : ∀ c ∈ fp, ∃ o, H c = some o) : Hid F S σ G' fp := by
  refine ⟨hid.nd, fun c hc => ⟨?_, (hid.at_ c hc).2⟩⟩
  cases z : G' c with
  | none => rfl
  | some u =>
    rcases p.new c (by rw [z]; simp) with q | q
    · exact absurd (hid.at_ c hc).1 q
    · obtain ⟨o, ho⟩ := ht c hc
      rw [ho] at q; cases q
end
end DL

set_option Elab.async false
set_option linter.all false
set_option maxRecDepth 100000
set_option maxHeartbeats 4000000
/-! DL, part 16: trees made, trees changed in their depth, a block of statements with a tree. -/
namespace DL
open PySem PySem.Spec PyProof.Rows L2
/-- a tree comes out -/
def SemM (K : KK) (t : TE) (n : Nat) (f : DS) : Prop := ∀ F S σ H G tr S', SR K F S σ H G → f S = some (tr, S') → ∀ Q : VK, (∀ p H' G' fp, SR K F S' σ H' G' → Ex G G' → Tr K G' H' n p tr fp → Hid F S' σ G' fp → Q (.ref p) H') → t σ H Q
structure SM (X : Cx) (K : KK) (e : Expr) (t : TE) (n : Nat) (f : DS) : Prop where
  p : PE X e t
  ok : SemM K t n f
/-- a statement that goes on; it changes the slots of ix alone -/
def SemX (K : KK) (t : TS) (ix : List Nat) (f : List SD → Option (List SD)) : Prop := ∀ F S σ H G S', SR K F S σ H G → f S = some S' → ∀ D : Ends, (∀ σ' H' G', SR K F S' σ' H' G' → Ex G G' → Bt ix σ σ' → D.nx σ' H') → t D σ H
abbrev TSem := List SD → PyData → Option (List SD × PyData)
/-- .. that has a tree at the slot i -/
def SemTS (K : KK) (i n : Nat) (t : TS) (f : TSem) : Prop := ∀ F S σ H G a tr fp S' tr', SR K F S σ H G → σ[i]? = some (some (.ref a)) → Tr K G H n a tr fp → Hid F S σ G fp → f S tr = some (S', tr') →
  ∀ D : Ends, (∀ σ' H' G', SR K F S' σ' H' G' → Ex G G' → σ'[i]? = some (some (.ref a)) → Tr K G' H' n a tr' fp → Hid F S' σ' G' fp → D.nx σ' H') → t D σ H
section
variable {K : KK} {te ta tb : TE} {fl : LS} {fd fa fb : DS} {wi : TI} {g : TG} {vs ix : List Nat} {fi : LS} {gs : GS} {n i : Nat}
def mLeaf (fl : LS) : DS := fun S => (fl S).map fun p => (.list p.1, p.2)
theorem sem_mLeaf (h : SemL K te fl) : SemM K te 0 (mLeaf fl) := fun F S σ H G tr S' r e Q k => by
  obtain ⟨⟨xs, S1⟩, e1, e2⟩ := Option.map_eq_some_iff.mp e
  cases e2
  exact h F S σ H G xs _ r e1 _ fun p vs H1 G1 r1 g1 h0 hg ap hh h2 => k p H1 G1 [p] r1 g1 (.leaf hh h2) ⟨by simp, fun c hc => by rw [List.mem_singleton] at hc; subst hc; exact ⟨hg, h0, ap⟩⟩
def mLC (vs : List Nat) (fi : LS) (gs : GS) (fd : DS) : DS := fun S => (sLC vs fi gs sYes fd S).map fun p => (.list p.1, p.2)
theorem sem_mLC (hi : SemI K wi fi) (hg : SemG K g ix gs) (hix : ∀ i ∈ ix, i ∈ vs) (he : SemM K te n fd) : SemM K (tLc wi g tYes te vs) (n + 1) (mLC vs fi gs fd) := by
  intro F S σ H G tr S' r e Q k
  obtain ⟨⟨out, S0⟩, e0, e⟩ := Option.map_eq_some_iff.mp e
  cases e
  obtain ⟨⟨xs, S1⟩, e1, e2⟩ := Option.bind_eq_some_iff.mp e0
  have e2 : (if xs.length < 100000 then lcGo vs gs sYes fd xs S1 else none) = some (out, S0) := e2
  split at e2
  · rename_i hlen
    refine hi F S σ H G xs S1 r e1 _ fun J H1 G1 r1 g1 wk D hD => ?_
    obtain ⟨f0, fg, fa⟩ := r1.fresh hD
    refine ⟨fun i m H' => i + m = xs.length ∧ ∃ T G' bs fp done rest, SR K F T σ H' G' ∧ Ex G1 G' ∧ Hid F T σ G' (D :: fp) ∧ H' D = some (.lst (bs.map V.ref)) ∧ Trs K G' H' n bs done fp ∧ done.length ≤ i ∧ lcGo vs gs sYes fd (xs.drop i) T = some (rest, S0) ∧ done ++ rest = out,
      ⟨xs.length, by omega, S1, G1, [], [], [], out, r1.ext (PX.side r1.gh hD), .refl _, ⟨by simp, fun c hc => by rw [List.mem_singleton] at hc; subst hc; exact ⟨fg, f0, fa⟩⟩, upd_same, .nil, by simp, by simpa using e2, rfl⟩, fun i m H' ⟨hm, T, G', bs, fp, done, rest, r', x', hid, hh, ha, hl, ef, eo⟩ => ?_⟩
    obtain ⟨w1, w2⟩ := wk G' H' x' r'.gh i
    by_cases hi : i < xs.length
    · obtain ⟨go, yl⟩ := w1 hi
      have ed : xs.drop i = xs[i] :: xs.drop (i + 1) := List.drop_eq_getElem_cons hi
      rw [ed] at ef
      obtain ⟨S2, q1, ef⟩ := Option.bind_eq_some_iff.mp ef
      have ef : ((fd S2).bind fun q => (lcGo vs gs sYes fd (xs.drop (i + 1)) (unbGo vs 0 T q.2)).map fun z => (q.1 :: z.1, z.2)) = some (rest, S0) := ef
      obtain ⟨⟨y, S4⟩, q3, ef⟩ := Option.bind_eq_some_iff.mp ef
      obtain ⟨⟨rest', S5⟩, q4, q5⟩ := Option.map_eq_some_iff.mp ef
      cases q5
      refine .inr ⟨go, fun H2 => ∃ T G' bs fp done rest, SR K F T σ H2 G' ∧ Ex G1 G' ∧ Hid F T σ G' (D :: fp) ∧ H2 D = some (.lst (bs.map V.ref)) ∧ Trs K G' H2 n bs done fp ∧ done.length ≤ i + 1 ∧ lcGo vs gs sYes fd (xs.drop (i + 1)) T = some (rest, S5) ∧ done ++ rest = out,
        fun H2 hN => ⟨m - 1, by omega, by omega, hN⟩, fun v H2 hy => ?_⟩
      obtain ⟨G2, x, hx, px, hr⟩ := yl v H2 hy
      rw [List.getElem?_eq_getElem hi] at hx
      cases hx
      have r2 : SR K F T σ H2 G2 := r'.ext px
      have tr' : Tr K G' H' (n + 1) D (.list done) (D :: fp) := .node hh ha
      have hid2 : Hid F T σ G2 (D :: fp) := hid.ext px tr'.there
      have tr2 : Tr K G2 H2 (n + 1) D (.list done) (D :: fp) := tr'.mono px.gg fun c _ o ho => px.hh c o ho
      refine hg (Fr.blk vs T σ H2 G2) (borGo vs 0 T) (wipe σ vs) H2 G2 v _ S2 (r2.sub vs) hr q1 _ fun σ3 H3 G3 r3 g3 b3 => ⟨?_, ?_⟩
      · have b4 := b3.mono hix
        exact (wipe_ext (fun i hi => ((Bt.wiped.trans b4).2 i hi)) (Bt.wiped.trans b4).1).symm
      · show te σ3 H3 _
        refine he _ S2 σ3 H3 G3 y S4 r3 q3 _ fun p H5 G5 fq r5 g5 tr5 hid5 => ?_
        obtain ⟨tr6, gn⟩ := tr2.aside r2 hid2 r5
        have x5 : Ex G1 G5 := ((x'.trans px.gg).trans g3).trans g5
        have hid6 := hid2.unb (vs := vs) (S' := S4) gn
        cases tr6 with
        | node hh6 ha6 =>
          rename_i bs6
          have hn : ∀ c ∈ fq, H2 c = none := fun c hc => (hid5.at_ c hc).2.1
          have dis : ∀ c ∈ D :: fp, c ∉ fq := fun c hc hq => by
            obtain ⟨o, ho⟩ := tr2.there c hc
            rw [hn c hq] at ho; cases ho
          have hD5 := hid6.at_ D (by simp)
          have nd6 := List.nodup_cons.mp hid6.nd
          have r7 : SR K F (unbGo vs 0 T S4) σ (upd H5 D (.lst (bs6.map V.ref ++ [.ref p]))) G5 := (r2.unsub r5).side hD5.2.1 hD5.1 hD5.2.2
          refine ⟨bs6.map V.ref, hh6, szl (by rw [List.length_map, ha6.length]; omega), unbGo vs 0 T S4, G5, bs6 ++ [p], fp ++ fq, done ++ [y], rest', r7, x5, ?_, ?_, ?_, by simp; omega, q4, by rw [← eo]; simp⟩
          · refine ⟨?_, fun c hc => ?_⟩
            · rw [List.nodup_cons, List.nodup_append, List.mem_append]
              exact ⟨fun z => z.elim nd6.1 (dis D (by simp)), nd6.2, hid5.nd, fun a ha b hb e => by subst e; exact dis a (List.mem_cons_of_mem _ ha) hb⟩
            · rw [← List.cons_append] at hc
              rcases List.mem_append.mp hc with hc | hc
              · exact hid6.at_ c hc
              · obtain ⟨z0, _, z2⟩ := r2.fresh (hn c hc)
                exact ⟨(hid5.at_ c hc).1, z0, apart_unb z2⟩
          · rw [upd_same, List.map_append]; rfl
          · have m6 : Trs K G5 (upd H5 D (.lst (bs6.map V.ref ++ [.ref p]))) n bs6 done fp := ha6.mono (.refl _) fun c hc o ho => by
              rw [upd_ne fun z => nd6.1 (by rw [← z]; exact hc)]; exact ho
            have m7 : Tr K G5 (upd H5 D (.lst (bs6.map V.ref ++ [.ref p]))) n p y fq := tr5.mono (.refl _) fun c hc o ho => by
              rw [upd_ne fun z => dis D (by simp) (by rw [← z]; exact hc)]; exact ho
            exact m6.snoc m7
    · refine .inl ⟨w2 (by omega), ?_⟩
      rw [List.drop_eq_nil_of_le (by omega)] at ef
      cases ef
      rw [List.append_nil] at eo
      subst eo
      exact k D H' G' (D :: fp) r' (g1.trans x') (.node hh ha) hid
  · cases e2
def mTwo (fa fb : DS) : DS := fun S => (fa S).bind fun p => (fb (borGo [] 0 p.2)).map fun q => (.list [p.1, q.1], unbGo [] 0 p.2 q.2)
theorem sem_mTwo (h1 : SemM K ta n fa) (h2 : SemM K tb n fb) : SemM K (tLst (tCons ta (tCons tb tNil))) (n + 1) (mTwo fa fb) := by
  intro F S σ H G tr S' r e Q k
  obtain ⟨⟨x, S1⟩, e1, e⟩ := Option.bind_eq_some_iff.mp e
  obtain ⟨⟨y, S2⟩, e2, e⟩ := Option.map_eq_some_iff.mp e
  cases e
  refine h1 F S σ H G x S1 r e1 _ fun p H1 G1 fp r1 g1 t1 hid1 => ?_
  refine h2 (Fr.blk [] S1 σ H1 G1) (borGo [] 0 S1) σ H1 G1 y S2 (r1.sub []) e2 _ fun q H2 G2 fq r2 g2 t2 hid2 => ?_
  refine ⟨by show 2 ≤ sizeLine; exact sz (by omega), fun z hz => ?_⟩
  obtain ⟨t3, gn⟩ := t1.aside r1 hid1 r2
  have hid3 := hid1.unb (vs := []) (S' := S2) gn
  have r3 := r1.unsub r2
  obtain ⟨f0, fg, fa⟩ := r3.fresh hz
  have px := PX.side (o := .lst [V.ref p, V.ref q]) r3.gh hz
  have hn : ∀ c ∈ fq, H1 c = none := fun c hc => (hid2.at_ c hc).2.1
  have nz1 : ∀ c ∈ fp, c ≠ z := fun c hc e => by
    subst e
    obtain ⟨o, ho⟩ := t3.there c hc
    rw [hz] at ho; cases ho
  have nz2 : ∀ c ∈ fq, c ≠ z := fun c hc e => by
    subst e
    obtain ⟨o, ho⟩ := t2.there c hc
    rw [hz] at ho; cases ho
  refine k z _ G2 (z :: (fp ++ (fq ++ []))) (r3.ext px) (g1.trans g2) (.node (bs := [p, q]) upd_same (.cons (t3.mono (.refl _) fun c hc o ho => by rw [upd_ne (nz1 c hc)]; exact ho) (.cons (t2.mono (.refl _) fun c hc o ho => by rw [upd_ne (nz2 c hc)]; exact ho) .nil))) ?_
  rw [List.append_nil]
  refine ⟨?_, fun c hc => ?_⟩
  · rw [List.nodup_cons, List.nodup_append, List.mem_append]
    refine ⟨fun w => w.elim (fun w => nz1 z w rfl) (fun w => nz2 z w rfl), hid3.nd, hid2.nd, fun a ha b hb e => ?_⟩
    subst e
    obtain ⟨o, ho⟩ := t1.there a ha
    rw [hn a hb] at ho; cases ho
  · rcases List.mem_cons.mp hc with rfl | hc
    · exact ⟨fg, f0, fa⟩
    · rcases List.mem_append.mp hc with hc | hc
      · exact hid3.at_ c hc
      · obtain ⟨z0, _, z2⟩ := r1.fresh (hn c hc)
        exact ⟨(hid2.at_ c hc).1, z0, apart_unb z2⟩
/-! ### statements -/
def xAsg (fd : DS) (gs : GS) : List SD → Option (List SD) := fun S => (fd S).bind fun p => gs p.1 p.2
theorem sem_xAsg (h1 : SemD K te fd) (h2 : SemG K g ix gs) : SemX K (tAsg te g) ix (xAsg fd gs) := fun F S σ H G S' r e D h => by
  obtain ⟨⟨x, S1⟩, e1, e2⟩ := Option.bind_eq_some_iff.mp e
  exact h1 F S σ H G x S1 r e1 _ fun v H1 G1 r1 g1 hv => h2 F S1 σ H1 G1 v x S' r1 hv e2 _ fun σ2 H2 G2 r2 g2 b2 => h σ2 H2 G2 r2 (g1.trans g2) b2
def put3S (i j l : Nat) (S : List SD) : List PyData → Option (List SD)
  | [x, y, z] => some (((S.set i (.d x)).set j (.d y)).set l (.d z))
  | _ => none
def xPar3 (i j l : Nat) (fs : AS) : List SD → Option (List SD) := fun S => (sTakeA fs S).bind fun p => put3S i j l p.2 p.1
theorem sem_xPar3 {i j l : Nat} {tA : TA} {fs : AS} (h : SemA K tA fs) : SemX K (tPar3 i j l tA) [i, j, l] (xPar3 i j l fs) := fun F S σ H G S' r e D hD => by
  obtain ⟨⟨xs, S1⟩, e1, e⟩ := Option.bind_eq_some_iff.mp e
  refine take_A h r e1 fun vs H1 G1 r1 g1 hv => ?_
  have e : put3S i j l S1 xs = some S' := e
  unfold put3S at e
  split at e
  · cases e
    cases hv with
    | cons a t => cases t with
      | cons b t => cases t with
        | cons c t =>
          cases t
          exact ⟨_, _, _, rfl, hD _ H1 G1 (((r1.setD i a).setD j b).setD l c) g1 (((Bt.set (by simp)).trans (Bt.set (by simp))).trans (Bt.set (by simp)))⟩
  · cases e
def tsX (f : List SD → Option (List SD)) : TSem := fun S tr => (f (borGo [] 0 S)).map fun S' => (unbK S S', tr)
theorem sem_tsX {t : TS} {f : List SD → Option (List SD)} (h : SemX K t ix f) (hi : i ∉ ix) : SemTS K i n t (tsX f) := fun F S σ H G a tr fp S' tr' r ei t1 hid e D k => by
  obtain ⟨S1, e1, e2⟩ := Option.map_eq_some_iff.mp e
  cases e2
  refine h (Fr.blk [] S σ H G) (borGo [] 0 S) σ H G S1 (r.sub []) e1 D fun σ' H' G' r' g' b' => ?_
  obtain ⟨t2, gn⟩ := t1.aside r hid r'
  exact k σ' H' G' (r.unsubK r') g' ((b'.2 i hi).symm.trans ei) t2 (hid.unbK r t1.there r' gn)
def tsSeq (f g : TSem) : TSem := fun S tr => (f S tr).bind fun p => g p.1 p.2
theorem sem_tsSeq {t u : TS} {f g : TSem} (h1 : SemTS K i n t f) (h2 : SemTS K i n u g) : SemTS K i n (tSeq t u) (tsSeq f g) := fun F S σ H G a tr fp S' tr' r ei t1 hid e D k => by
  obtain ⟨⟨S1, tr1⟩, e1, e2⟩ := Option.bind_eq_some_iff.mp e
  exact h1 F S σ H G a tr fp S1 tr1 r ei t1 hid e1 _ fun σ1 H1 G1 r1 g1 ei1 t1 hid1 => h2 F S1 σ1 H1 G1 a tr1 fp S' tr' r1 ei1 t1 hid1 e2 D fun σ2 H2 G2 r2 g2 ei2 t2 hid2 => k σ2 H2 G2 r2 (g1.trans g2) ei2 t2 hid2
/-! a store in the depth -/
/-- the int that a slot holds -/
def slInt (S : List SD) (j : Nat) : Option Int := match S[j]? with
  | some (.d x) => dIntO x
  | _ => none
theorem slInt_ok {F : Fr} {S : List SD} {σ : L2.St} {H G : Hp} {j : Nat} {k : Int} (r : SR K F S σ H G) (e : slInt S j = some k) : σ[j]? = some (some (.int k)) := by
  unfold slInt at e
  split at e
  · rename_i x hx
    have := dIntO_some e
    subst this
    obtain ⟨v, h1, h2⟩ := r.dat j _ hx
    cases h2
    exact h1
  · cases e
def put1 (k : Int) (x : PyData) : PyData → Option PyData
  | .list xs => (ixN xs.length k).map fun j => .list (xs.set j x)
  | _ => none
def put2 (k l : Int) (x : PyData) : PyData → Option PyData
  | .list ts => (ixN ts.length k).bind fun j => (ts[j]?).bind fun t => (put1 l x t).map fun t' => .list (ts.set j t')
  | _ => none
def put3 (k l m : Int) (x : PyData) : PyData → Option PyData
  | .list ts => (ixN ts.length k).bind fun j => (ts[j]?).bind fun t => (put2 l m x t).map fun t' => .list (ts.set j t')
  | _ => none
section
variable {F : Fr} {S : List SD} {σ : L2.St} {H G : Hp} {a : Addr} {t t' : PyData} {fp : List Addr} {k l m : Int} {x : PyData} {v : V}
/-- at the leaf -/
theorem Tr.put1 (h : Tr K G H 0 a t fp) (e : put1 k x t = some t') (hv : Rp K G v x) : ∃ xs j, H a = some (.lst xs) ∧ ixN xs.length k = some j ∧ fp = [a] ∧ Tr K G (upd H a (.lst (xs.set j v))) 0 a t' fp := by
  cases h with
  | leaf h1 h2 =>
    obtain ⟨j, e1, e2⟩ := Option.map_eq_some_iff.mp e
    cases e2
    exact ⟨_, j, h1, by rw [h2.length]; exact e1, rfl, .leaf upd_same (h2.set hv j)⟩
/-- a step down -/
theorem Tr.step {ts : List PyData} {j : Nat} (h : Tr K G H (n + 1) a (.list ts) fp) (nd : fp.Nodup) (ej : ixN ts.length k = some j) (e : ts[j]? = some t) : ∃ (bs : List Addr) (b : Addr) (fq : List Addr), H a = some (.lst (bs.map V.ref)) ∧ atI (bs.map V.ref) k = some (.ref b) ∧ Tr K G H n b t fq ∧ fq.Nodup ∧ (∀ c ∈ fq, c ∈ fp) ∧
    ∀ (H' : Hp) (t' : PyData), (∀ c, c ∉ fq → H' c = H c) → Tr K G H' n b t' fq → Tr K G H' (n + 1) a (.list (ts.set j t')) fp := by
  cases h with
  | node h1 h2 =>
    have nd' := List.nodup_cons.mp nd
    obtain ⟨b, fq, q1, q2, q3, q4, q5⟩ := h2.at nd'.2 e
    refine ⟨_, b, fq, h1, ?_, q2, q3, fun c hc => List.mem_cons_of_mem _ (q4 c hc), fun H' t' z1 z2 => .node ?_ (q5 H' t' z1 z2)⟩
    · unfold atI
      rw [List.length_map, h2.length, ej]
      simp [q1]
    · rw [z1 a fun z => nd'.1 (q4 a z)]; exact h1
/-- the heap behind a write in a hidden place -/
theorem SR.hidW {c : Addr} {o : HO} (r : SR K F S σ H G) (hid : Hid F S σ G fp) (hc : c ∈ fp) : SR K F S σ (upd H c o) G := r.side (hid.at_ c hc).2.1 (hid.at_ c hc).1 (hid.at_ c hc).2.2
end
/-- x[j1][j2] = e -/
def tsPut2 (i j1 j2 : Nat) (fd : DS) : TSem := fun S tr => (fd (borGo [] 0 S)).bind fun p => (slInt (unbGo [] 0 S p.2) j1).bind fun k => (slInt (unbGo [] 0 S p.2) j2).bind fun l => (put2 k l p.1 tr).map fun tr' => (unbGo [] 0 S p.2, tr')
theorem sem_tsPut2 {j1 j2 : Nat} (hd : SemD K te fd) : SemTS K i 1 (tAsg te (gSub (tOp (rIx K) (tVar i) (tVar j1)) (tVar j2) rSetL)) (tsPut2 i j1 j2 fd) := fun F S σ H G a tr fp S' tr' r ei t1 hid e D kD => by
  obtain ⟨⟨x, S1⟩, e1, e⟩ := Option.bind_eq_some_iff.mp e
  obtain ⟨k, e2, e⟩ := Option.bind_eq_some_iff.mp e
  obtain ⟨l, e3, e⟩ := Option.bind_eq_some_iff.mp e
  obtain ⟨tr2, e5, e6⟩ := Option.map_eq_some_iff.mp e
  cases e6
  refine hd (Fr.blk [] S σ H G) (borGo [] 0 S) σ H G x S1 (r.sub []) e1 _ fun v H1 G1 r' g1 hv => ?_
  obtain ⟨t2, gn⟩ := t1.aside r hid r'
  have hid2 := hid.unb (vs := []) (S' := S1) gn
  have r1 := r.unsub r'
  have s1 := slInt_ok r1 e2
  have s2 := slInt_ok r1 e3
  cases tr with
  | list ts =>
    obtain ⟨j, q1, q2⟩ := Option.bind_eq_some_iff.mp e5
    obtain ⟨t, q3, q4⟩ := Option.bind_eq_some_iff.mp q2
    obtain ⟨t', q5, q6⟩ := Option.map_eq_some_iff.mp q4
    cases q6
    obtain ⟨bs, b, fq, w1, w2, w3, w4, w5, w6⟩ := t2.step hid2.nd q1 q3
    obtain ⟨xs, j', u1, u2, u3, u4⟩ := w3.put1 q5 hv
    subst u3
    refine ⟨_, ei, _, s1, .inl ⟨a, bs.map V.ref, k, .ref b, rfl, rfl, .inl (.inl w1), w2, ?_⟩⟩
    refine ⟨_, s2, b, xs, l, j', rfl, rfl, u1, u2, ?_⟩
    have hb : b ∈ fp := w5 b (by simp)
    refine kD σ _ G1 (r1.hidW hid2 hb) g1 ei (w6 _ _ (fun c hc => upd_ne (by simpa using hc)) u4) hid2
  | _ => cases e5
/-- x[j1][j2][j3] = e -/
def tsPut3 (i j1 j2 j3 : Nat) (fd : DS) : TSem := fun S tr => (fd (borGo [] 0 S)).bind fun p => (slInt (unbGo [] 0 S p.2) j1).bind fun k => (slInt (unbGo [] 0 S p.2) j2).bind fun l => (slInt (unbGo [] 0 S p.2) j3).bind fun m => (put3 k l m p.1 tr).map fun tr' => (unbGo [] 0 S p.2, tr')
theorem sem_tsPut3 {j1 j2 j3 : Nat} (hd : SemD K te fd) : SemTS K i 2 (tAsg te (gSub (tOp (rIx K) (tOp (rIx K) (tVar i) (tVar j1)) (tVar j2)) (tVar j3) rSetL)) (tsPut3 i j1 j2 j3 fd) := fun F S σ H G a tr fp S' tr' r ei t1 hid e D kD => by
  obtain ⟨⟨x, S1⟩, e1, e⟩ := Option.bind_eq_some_iff.mp e
  obtain ⟨k, e2, e⟩ := Option.bind_eq_some_iff.mp e
  obtain ⟨l, e3, e⟩ := Option.bind_eq_some_iff.mp e
  obtain ⟨m, e4, e⟩ := Option.bind_eq_some_iff.mp e
  obtain ⟨tr2, e5, e6⟩ := Option.map_eq_some_iff.mp e
  cases e6
  refine hd (Fr.blk [] S σ H G) (borGo [] 0 S) σ H G x S1 (r.sub []) e1 _ fun v H1 G1 r' g1 hv => ?_
  obtain ⟨t2, gn⟩ := t1.aside r hid r'
  have hid2 := hid.unb (vs := []) (S' := S1) gn
  have r1 := r.unsub r'
  have s1 := slInt_ok r1 e2
  have s2 := slInt_ok r1 e3
  have s3 := slInt_ok r1 e4
  cases tr with
  | list ts =>
    obtain ⟨j, q1, q2⟩ := Option.bind_eq_some_iff.mp e5
    obtain ⟨t, q3, q4⟩ := Option.bind_eq_some_iff.mp q2
    obtain ⟨t', q5, q6⟩ := Option.map_eq_some_iff.mp q4
    cases q6
    obtain ⟨bs, b, fq, w1, w2, w3, w4, w5, w6⟩ := t2.step hid2.nd q1 q3
    cases t with
    | list us =>
      obtain ⟨j0, p1, p2⟩ := Option.bind_eq_some_iff.mp q5
      obtain ⟨t0, p3, p4⟩ := Option.bind_eq_some_iff.mp p2
      obtain ⟨t0', p5, p6⟩ := Option.map_eq_some_iff.mp p4
      cases p6
      obtain ⟨cs, c, fr, v1, v2, v3, v4, v5, v6⟩ := w3.step w4 p1 p3
      obtain ⟨xs, j', u1, u2, u3, u4⟩ := v3.put1 p5 hv
      subst u3
      refine ⟨_, ei, _, s1, .inl ⟨a, bs.map V.ref, k, .ref b, rfl, rfl, .inl (.inl w1), w2, ?_⟩⟩
      refine ⟨_, s2, .inl ⟨b, cs.map V.ref, l, .ref c, rfl, rfl, .inl (.inl v1), v2, ?_⟩⟩
      refine ⟨_, s3, c, xs, m, j', rfl, rfl, u1, u2, ?_⟩
      have hb : c ∈ fp := w5 c (v5 c (by simp))
      refine kD σ _ G1 (r1.hidW hid2 hb) g1 ei (w6 _ _ (fun d hd => upd_ne fun z => hd (by subst z; exact v5 d (by simp))) (v6 _ _ (fun d hd => upd_ne (by simpa using hd)) u4)) hid2
    | _ => cases q5
  | _ => cases e5
/-! a loop -/
def tsForGo (gs : GS) (fb : TSem) : List PyData → TSem
  | [], S, tr => some (S, tr)
  | x :: xs, S, tr => (gs x (borGo [] 0 S)).bind fun S1 => (fb (unbK S S1) tr).bind fun p => tsForGo gs fb xs p.1 p.2
def tsFor (fi : LS) (gs : GS) (fb : TSem) : TSem := fun S tr => (fi (borGo [] 0 S)).bind fun p => tsForGo gs fb p.1 (unbGo [] 0 S p.2) tr
theorem sem_tsFor {tb : TS} {fb : TSem} (hi : SemI K wi fi) (hg : SemG K g ix gs) (hix : i ∉ ix) (hb : SemTS K i n tb fb) : SemTS K i n (tFor wi g tb) (tsFor fi gs fb) := fun F S σ H G a tr fp S' tr' r ei t1 hid e D h => by
  obtain ⟨⟨xs, S1⟩, e1, e2⟩ := Option.bind_eq_some_iff.mp e
  refine hi (Fr.blk [] S σ H G) (borGo [] 0 S) σ H G xs S1 (r.sub []) e1 _ fun J H1 G1 r0 g1 wk => ?_
  obtain ⟨t2, gn⟩ := t1.aside r hid r0
  have hid2 := hid.unb (vs := []) (S' := S1) gn
  have r1 := r.unsub r0
  refine ⟨fun j m σ' H' => j + m = xs.length ∧ ∃ S2 tr2 G', SR K F S2 σ' H' G' ∧ Ex G1 G' ∧ σ'[i]? = some (some (.ref a)) ∧ Tr K G' H' n a tr2 fp ∧ Hid F S2 σ' G' fp ∧ tsForGo gs fb (xs.drop j) S2 tr2 = some (S', tr'), ⟨xs.length, by omega, _, tr, G1, r1, .refl _, ei, t2, hid2, by simpa using e2⟩, fun j m σ' H' ⟨hm, S2, tr2, G', r', x', ei', t', hid', ef⟩ => ?_⟩
  obtain ⟨w1, w2⟩ := wk G' H' x' r'.gh j
  by_cases hj : j < xs.length
  · obtain ⟨go, yl⟩ := w1 hj
    have ed : xs.drop j = xs[j] :: xs.drop (j + 1) := List.drop_eq_getElem_cons hj
    rw [ed] at ef
    obtain ⟨S3, q1, ef⟩ := Option.bind_eq_some_iff.mp ef
    obtain ⟨⟨S4, tr4⟩, q2, ef⟩ := Option.bind_eq_some_iff.mp ef
    refine .inr ⟨go, fun σ2 H2 => ∃ S2 tr2 G', SR K F S2 σ2 H2 G' ∧ Ex G1 G' ∧ σ2[i]? = some (some (.ref a)) ∧ Tr K G' H2 n a tr2 fp ∧ Hid F S2 σ2 G' fp ∧ tsForGo gs fb (xs.drop (j + 1)) S2 tr2 = some (S', tr'), fun σ2 H2 hN => ⟨m - 1, by omega, by omega, hN⟩, fun v H2 hy => ?_⟩
    obtain ⟨G2, x, hx, px, hr⟩ := yl v H2 hy
    rw [List.getElem?_eq_getElem hj] at hx
    cases hx
    have r2 := r'.ext px
    have hid2 := hid'.ext px t'.there
    have t2 := t'.mono px.gg fun c _ o ho => px.hh c o ho
    refine hg (Fr.blk [] S2 σ' H2 G2) (borGo [] 0 S2) σ' H2 G2 v _ S3 (r2.sub []) hr q1 _ fun σ3 H3 G3 r3 g3 b3 => ?_
    obtain ⟨t3, gn3⟩ := t2.aside r2 hid2 r3
    have hid3 := hid2.unbK r2 t2.there r3 gn3
    have x3 : Ex G1 G3 := (x'.trans px.gg).trans g3
    exact hb F _ σ3 H3 G3 a tr2 fp S4 tr4 (r2.unsubK r3) ((b3.2 i hix).symm.trans ei') t3 hid3 q2 _ fun σ4 H4 G4 r4 g4 ei4 t4 hid4 => ⟨S4, tr4, G4, r4, x3.trans g4, ei4, t4, hid4, ef⟩
  · refine .inl ⟨w2 (by omega), ?_⟩
    rw [List.drop_eq_nil_of_le (by omega)] at ef
    cases ef
    exact h σ' H' G' r' (g1.trans x') ei' t' hid'
/-! a block: x = .., statements with the tree, the rest -/
/-- all is known -/
theorem SR.knownAll {F : Fr} {S : List SD} {σ : L2.St} {H G : Hp} {a : Addr} {t : PyData} {fp : List Addr} (r : SR K F S σ H G) (tr : Tr K G H n a t fp) (hid : Hid F S σ G fp) : ∃ G', Ex G G' ∧ SR K F S σ H G' ∧ Rp K G' (.ref a) t := by
  let G' : Hp := fun c => if c ∈ fp then H c else G c
  have eg : Ex G G' := fun c o h => by
    show (if c ∈ fp then H c else G c) = some o
    split
    · rename_i hc; rw [(hid.at_ c hc).1] at h; cases h
    · exact h
  have ne : ∀ {c}, c ∉ fp → G' c = G c := fun {c} h => if_neg h
  have eq : ∀ {c}, c ∈ fp → G' c = H c := fun {c} h => if_pos h
  refine ⟨G', eg, ⟨r.len, r.g0.trans eg, fun b o q => ?_, fun b q => ?_, r.keep, r.live, fun j y q => ?_, fun j b ys q => ?_, r.sep⟩, tr.known eg fun c hc => eq hc⟩
  · by_cases hb : b ∈ fp
    · rw [eq hb] at q; exact q
    · rw [ne hb] at q; exact r.gh b o q
  · by_cases hb : b ∈ fp
    · exact .inr (hid.at_ b hb).2.1
    · rw [ne hb] at q; exact r.new b q
  · obtain ⟨v, q1, q2⟩ := r.dat j y q
    exact ⟨v, q1, q2.mono eg⟩
  · obtain ⟨c, ws, q1, q2, q3, q4, q5⟩ := r.own j b ys q
    refine ⟨c, ws, q1, ?_, q3, q4.mono eg, q5⟩
    rw [ne fun z => (hid.at_ c z).2.2 j _ _ q q1]; exact q2
def sTree (i : Nat) (fm : DS) (ft : TSem) (rest : SSem) : SSem := fun S => (fm S).bind fun p => if i < p.2.length then (ft (p.2.set i .un) p.1).bind fun q => rest (q.1.set i (.d q.2)) else none
theorem sem_tree {t u : TS} {ft : TSem} {f : SSem} (hm : SemM K te n fd) (ht : SemTS K i n t ft) (hr : SemS K u f) : SemS K (tSeq (tAsg te (gName i)) (tSeq t u)) (sTree i fd ft f) := fun F S σ H G out r e D h => by
  obtain ⟨⟨tr, S1⟩, e1, e⟩ := Option.bind_eq_some_iff.mp e
  have e : (if i < S1.length then (ft (S1.set i .un) tr).bind fun q => f (q.1.set i (.d q.2)) else none) = some out := e
  split at e
  case isFalse => cases e
  rename_i hl
  obtain ⟨⟨S2, tr2⟩, e2, e3⟩ := Option.bind_eq_some_iff.mp e
  refine hm F S σ H G tr S1 r e1 _ fun p H1 G1 fp r1 g1 t1 hid1 => ?_
  · have hl' : i < σ.length := by rw [r1.len]; exact hl
    have ei : (σ.set i (some (.ref p)))[i]? = some (some (.ref p)) := List.getElem?_set_self hl'
    have hidS : Hid F (S1.set i .un) (σ.set i (some (.ref p))) G1 fp := ⟨hid1.nd, fun c hc => ⟨(hid1.at_ c hc).1, (hid1.at_ c hc).2.1, fun j b xs q1 q2 => by
      by_cases hj : i = j
      · subst hj; rw [List.getElem?_set_self hl] at q1; cases q1
      · rw [List.getElem?_set_ne hj] at q1 q2
        exact (hid1.at_ c hc).2.2 j b xs q1 q2⟩⟩
    show t _ (σ.set i (some (.ref p))) H1
    refine ht F (S1.set i .un) (σ.set i (some (.ref p))) H1 G1 p tr fp S2 tr2 (r1.forget i _) ei t1 hidS e2 _ fun σ2 H2 G2 r2 g2 ei2 t2 hid2 => ?_
    obtain ⟨G3, g3, r3, h3⟩ := r2.knownAll t2 hid2
    have r4 := r3.setD i h3
    have es : σ2.set i (some (.ref p)) = σ2 := by
      apply List.ext_getElem?
      intro j
      by_cases hj : i = j
      · subst hj
        rw [List.getElem?_set_self (List.getElem?_eq_some_iff.mp ei2).1, ei2]
      · rw [List.getElem?_set_ne hj]
    rw [es] at r4
    exact hr F _ σ2 H2 G3 out r4 e3 D (h.mono ((g1.trans g2).trans g3))
end
end DL

set_option Elab.async false
set_option linter.all false
set_option maxRecDepth 100000
set_option maxHeartbeats 4000000
/-! DL, part 17: the rules for the text: trees. -/
namespace DL
open PySem PySem.Spec PyProof.Rows L2
section
variable {X : Cx} {K : KK} {e o c : Expr} {pos apos pos' : Pos} {te ta tb : TE} {tA : TA} {fs : AS} {fl : LS} {fd fa fb : DS} {i j l n : Nat} {x y z : Str} {elt tg iter : Expr} {scope : Scope} {spos py : Pos} {wi : TI} {g : TG} {ix : List Nat} {gs : GS}
theorem sm_leaf (h : SL X K e te fl) : SM X K e te 0 (mLeaf fl) := ⟨h.p, sem_mLeaf h.ok⟩
theorem sm_lc (own : List (Str × Nat)) (vs : List Nat) (hc : X.calm = true) (hN : X.N.Nodup) (hi : SI X K tg iter wi fl) (ok : blkC X.N X.env.scope scope own = true)
    (hg : ∀ (s : Shared) (H : Hp) (C : Addr) (cl : List (Str × Addr)) (fp : List Addr), SG (X.blk s H scope (compEnvC scope cl C X.env) fp) K tg g ix gs)
    (he : ∀ (s : Shared) (H : Hp) (C : Addr) (cl : List (Str × Addr)) (fp : List Addr), SM (X.blk s H scope (compEnvC scope cl C X.env) fp) K elt te n fd) (hv : own.map (·.2) = vs := by rfl) (hix : ∀ i ∈ ix, i ∈ vs := by decide) (hs : ∀ x, foldedSetIterable iter X.env x = pure x := by intro _; rfl) :
    SM X K (.ListComp elt [⟨tg, iter, [], 0⟩] scope pos) (tLc wi g tYes te vs) (n + 1) (mLC vs fl gs fd) := by
  subst hv
  have s0 : Shared := X.s_0
  exact ⟨pe_lc hc hN hi.p (blkOk_by ok) (fun s H C cl fp => (hg s H C cl fp).p) (fun s H C cl fp => pts_nil) (fun s H C cl fp => (he s H C cl fp).p) hs,
    sem_mLC hi.ok (hg s0 X.H_0 0 [] []).ok hix (he s0 X.H_0 0 [] []).ok⟩
theorem sm_two {a b : Expr} (h1 : SM X K a ta n fa) (h2 : SM X K b tb n fb) (hsa : starEach [a, b] X.env = (false, eval a X.env) :: starEach [b] X.env := by rfl) (hsb : starEach [b] X.env = (false, eval b X.env) :: starEach [] X.env := by rfl) :
    SM X K (.List [a, b] pos) (tLst (tCons ta (tCons tb tNil))) (n + 1) (mTwo fa fb) := ⟨pe_lst (pa_cons h1.p (pa_cons h2.p pa_nil hsb) hsa), sem_mTwo h1.ok h2.ok⟩
/-- a statement with a tree at i -/
structure ST1 (X : Cx) (K : KK) (i n : Nat) (st : Stmt) (t : TS) (f : TSem) : Prop where
  p : PS X st t
  ok : SemTS K i n t f
structure STn (X : Cx) (K : KK) (i n : Nat) (st : List Stmt) (t : TS) (f : TSem) : Prop where
  p : PSs X st t
  ok : SemTS K i n t f
theorem stn_one {st : Stmt} {t : TS} {f : TSem} (h : ST1 X K i n st t f) : STn X K i n [st] t f := ⟨pss_one h.p, h.ok⟩
theorem stn_cons {st : Stmt} {rest : List Stmt} {t u : TS} {f g : TSem} (h1 : ST1 X K i n st t f) (h2 : STn X K i n rest u g) : STn X K i n (st :: rest) (tSeq t u) (tsSeq f g) := ⟨pss_cons h1.p h2.p, sem_tsSeq h1.ok h2.ok⟩
theorem st1_par3 {j1 j2 j3 : Nat} {a b c : Expr} {px py pz pt : Pos} {kt k2 pt2} (hc : X.calm = true) (hN : X.N.Nodup) (hij : j1 ≠ j2) (hil : j1 ≠ j3) (hjl : j2 ≠ j3) (hi' : i ∉ [j1, j2, j3]) (ha : SA X K [a, b, c] tA fs) (hi : X.N[j1]? = some x := by rfl) (hj : X.N[j2]? = some y := by rfl) (hl : X.N[j3]? = some z := by rfl)
    (hx : X.env.scope.names.lookup x = some .local := by rfl) (hy : X.env.scope.names.lookup y = some .local := by rfl) (hz : X.env.scope.names.lookup z = some .local := by rfl)
    (hw : swappedStores [.Tuple [.Name x px, .Name y py, .Name z pz] kt pt] (.Tuple [a, b, c] k2 pt2) X.env = pure (some [x, y, z]) := by rfl)
    (hs : swapsWithSole [.Tuple [.Name x px, .Name y py, .Name z pz] kt pt] (.Tuple [a, b, c] k2 pt2) pos.line X.env = pure false := by rfl) :
    ST1 X K i n (.Assign [.Tuple [.Name x px, .Name y py, .Name z pz] kt pt] (.Tuple [a, b, c] k2 pt2) pos) (tPar3 j1 j2 j3 tA) (tsX (xPar3 j1 j2 j3 fs)) := ⟨ps_par3 hc hN hi hj hl hij hil hjl hx hy hz ha.p hw hs, sem_tsX (sem_xPar3 ha.ok) hi'⟩
theorem st1_asg {tg : Expr} (hi : i ∉ ix) (he : SDt X K e te fd) (hg : SG X K tg g ix gs) (hs : swapsWithSole [tg] e pos.line X.env = pure false := by rfl) (hw : swappedStores [tg] e X.env = pure none := by rfl)
    (h1 : (assignEach [tg] X.env).map (·.2) = [assign tg X.env] := by rfl) : ST1 X K i n (.Assign [tg] e pos) (tAsg te g) (tsX (xAsg fd gs)) := ⟨ps_asg he.p hg.p hs hw h1, sem_tsX (sem_xAsg he.ok hg.ok) hi⟩
theorem st1_put3 {j1 j2 j3 : Nat} {o i1 i2 i3 : Expr} {p1 p2 p3 : Pos} (hK : Ckk X = K) (he : SDt X K e te fd) (ho : SE X K o (tVar i) (sVar i)) (h1 : SE X K i1 (tVar j1) (sVar j1)) (h2 : SE X K i2 (tVar j2) (sVar j2)) (h3 : SE X K i3 (tVar j3) (sVar j3))
    (hx1 : PlainIx i1 := by exact fun _ _ => rfl) (hx2 : PlainIx i2 := by exact fun _ _ => rfl)
    (ha : ∀ v, assign (.Subscript (.Subscript (.Subscript o i1 p1) i2 p2) i3 p3) X.env v = (do
      let ov ← holding [v] (eval (.Subscript (.Subscript o i1 p1) i2 p2) X.env)
      let iv ← holding [v, ov] (eval i3 X.env)
      standAt p3
      holding [v, ov, iv] (setItem ov iv v)
      release [v, ov, iv] []) := by intro _; rfl)
    (hs : swapsWithSole [.Subscript (.Subscript (.Subscript o i1 p1) i2 p2) i3 p3] e pos.line X.env = pure false := by rfl) (hw : swappedStores [.Subscript (.Subscript (.Subscript o i1 p1) i2 p2) i3 p3] e X.env = pure none := by rfl)
    (h0 : (assignEach [.Subscript (.Subscript (.Subscript o i1 p1) i2 p2) i3 p3] X.env).map (·.2) = [assign (.Subscript (.Subscript (.Subscript o i1 p1) i2 p2) i3 p3) X.env] := by rfl) :
    ST1 X K i 2 (.Assign [.Subscript (.Subscript (.Subscript o i1 p1) i2 p2) i3 p3] e pos) (tAsg te (gSub (tOp (rIx K) (tOp (rIx K) (tVar i) (tVar j1)) (tVar j2)) (tVar j3) rSetL)) (tsPut3 i j1 j2 j3 fd) :=
  ⟨ps_asg he.p (pg_sub (pe_ix (opIx hK) (pe_ix (opIx hK) ho.p h1.p hx1) h2.p hx2) h3.p set_list ha) hs hw h0, sem_tsPut3 he.ok⟩
theorem st1_put2 {j1 j2 : Nat} {o i1 i2 : Expr} {p1 p2 : Pos} (hK : Ckk X = K) (he : SDt X K e te fd) (ho : SE X K o (tVar i) (sVar i)) (h1 : SE X K i1 (tVar j1) (sVar j1)) (h2 : SE X K i2 (tVar j2) (sVar j2))
    (hx1 : PlainIx i1 := by exact fun _ _ => rfl)
    (ha : ∀ v, assign (.Subscript (.Subscript o i1 p1) i2 p2) X.env v = (do
      let ov ← holding [v] (eval (.Subscript o i1 p1) X.env)
      let iv ← holding [v, ov] (eval i2 X.env)
      standAt p2
      holding [v, ov, iv] (setItem ov iv v)
      release [v, ov, iv] []) := by intro _; rfl)
    (hs : swapsWithSole [.Subscript (.Subscript o i1 p1) i2 p2] e pos.line X.env = pure false := by rfl) (hw : swappedStores [.Subscript (.Subscript o i1 p1) i2 p2] e X.env = pure none := by rfl)
    (h0 : (assignEach [.Subscript (.Subscript o i1 p1) i2 p2] X.env).map (·.2) = [assign (.Subscript (.Subscript o i1 p1) i2 p2) X.env] := by rfl) :
    ST1 X K i 1 (.Assign [.Subscript (.Subscript o i1 p1) i2 p2] e pos) (tAsg te (gSub (tOp (rIx K) (tVar i) (tVar j1)) (tVar j2) rSetL)) (tsPut2 i j1 j2 fd) :=
  ⟨ps_asg he.p (pg_sub (pe_ix (opIx hK) ho.p h1.p hx1) h2.p set_list ha) hs hw h0, sem_tsPut2 he.ok⟩
theorem st1_for {body : List Stmt} {tb : TS} {fB : TSem} (hp : PassesOwn (model X.prog X.w) X.A X.env X.xe) (hc : X.calm = true) (hi : SI X K tg iter wi fl) (hg : SG X K tg g ix gs) (hix : i ∉ ix) (hb : STn X K i n body tb fB)
    (hs : ∀ x, foldedSetIterable iter X.env x = pure x := by intro _; rfl) : ST1 X K i n (.For tg iter body [] pos) (tFor wi g tb) (tsFor fl gs fB) := ⟨ps_for hp hc hi.p hg.p hb.p hs, sem_tsFor hi.ok hg.ok hix hb.ok⟩
/-- x = .. (a tree), a statement that changes it, the rest -/
theorem sss_tree {st : Stmt} {rest : List Stmt} {t u : TS} {ft : TSem} {f : SSem} (hN : X.N.Nodup) (hm : SM X K e te n fd) (ht : ST1 X K i n st t ft) (hr : SSs X K rest u f) (hi : X.N[i]? = some x := by rfl) (hx : Loc X.env.scope x := by first | exact Or.inl rfl | exact Or.inr rfl) (hs : swapsWith e (some (.Name x pos')) pos.line X.env = pure false := by rfl)
    (hf : X.fn x = true ∨ X.env.scope.names.lookup x = some .local := by first | exact Or.inl rfl | exact Or.inr rfl) : SSs X K (.Assign [.Name x pos'] e pos :: st :: rest) (tSeq (tAsg te (gName i)) (tSeq t u)) (sTree i fd ft f) :=
  ⟨pss_cons (ps_set hN hi hx hm.p hs hf) (pss_cons ht.p hr.p), sem_tree hm.ok ht.ok hr.ok⟩
end
end DL

set_option Elab.async false
set_option linter.all false
set_option maxRecDepth 100000
set_option maxHeartbeats 4000000
/-! DL, part 18: len(set(xs)), xs a list of ints. -/
namespace DL
open PySem PySem.Spec PyProof.Rows L2
theorem firstMet_set (f : Nat → Int) : ∀ i, (PyProof.Rows.firstMet f i).Nodup ∧ ∀ k, k ∈ PyProof.Rows.firstMet f i ↔ ∃ j, j < i ∧ f j = k
  | 0 => ⟨.nil, fun k => ⟨fun h => (by cases h), fun ⟨j, h, _⟩ => by omega⟩⟩
  | i + 1 => by
    obtain ⟨h1, h2⟩ := firstMet_set f i
    have sd : PyProof.Rows.firstMet f (i + 1) = if ((PyProof.Rows.firstMet f i).any (· == f i)) = true then PyProof.Rows.firstMet f i else PyProof.Rows.firstMet f i ++ [f i] := PyProof.Rows.firstMet_succ f i
    rw [sd]
    clear sd
    cases hb : (PyProof.Rows.firstMet f i).any (· == f i) with
    | true =>
      obtain ⟨y, hy, ey⟩ := List.any_eq_true.mp hb
      have ey : y = f i := eq_of_beq ey
      subst ey
      rw [if_pos rfl]
      refine ⟨h1, fun k => ⟨fun h => ?_, fun ⟨j, hj, e⟩ => ?_⟩⟩
      · obtain ⟨j, hj, e⟩ := (h2 k).mp h
        exact ⟨j, by omega, e⟩
      · by_cases hji : j < i
        · exact (h2 k).mpr ⟨j, hji, e⟩
        · have : j = i := by omega
          subst this
          rw [← e]; exact hy
    | false =>
      rw [if_neg (by simp)]
      have hn : f i ∉ PyProof.Rows.firstMet f i := fun hm => by
        have := List.any_eq_false.mp hb _ hm
        simp at this
      refine ⟨?_, fun k => ?_⟩
      · rw [List.nodup_append]
        exact ⟨h1, by simp, fun a ha b hb e => by rw [List.mem_singleton] at hb; subst hb; subst e; exact hn ha⟩
      · rw [List.mem_append, h2 k, List.mem_singleton]
        constructor
        · rintro (⟨j, hj, e⟩ | e)
          · exact ⟨j, by omega, e⟩
          · exact ⟨i, by omega, e.symm⟩
        · rintro ⟨j, hj, e⟩
          by_cases hji : j < i
          · exact .inl ⟨j, hji, e⟩
          · have : j = i := by omega
            subst this
            exact .inr e.symm
theorem firstMet_len (ns : List Int) : (PyProof.Rows.firstMet (fun i => ns.getD i 0) ns.length).length = (setI ns).length := by
  obtain ⟨h1, h2⟩ := firstMet_set (fun i => ns.getD i 0) ns.length
  refine setI_count h1 fun k => ?_
  rw [h2 k]
  constructor
  · rintro ⟨j, hj, e⟩
    rw [← e]
    show ns.getD j 0 ∈ ns
    rw [List.getD_eq_getElem?_getD, List.getElem?_eq_getElem hj]
    exact List.getElem_mem hj
  · intro hk
    obtain ⟨j, hj, e⟩ := List.getElem_of_mem hk
    exact ⟨j, hj, by show ns.getD j 0 = k; rw [List.getD_eq_getElem?_getD, List.getElem?_eq_getElem hj]; exact e⟩
def tLenSetL (K : KK) (ta : TE) : TE := fun σ H Q => ta σ H fun x H1 => ∃ (l : Addr) (ns : List Int), x = .ref l ∧ SqL K H1 l (ns.map V.int) ∧ ns.length ≤ 4000 ∧ Q (.int ((setI ns).length : Nat)) H1
theorem pe_lenSetL {X : Cx} {a : Expr} {ta : TE} {p p2 q pos : Pos} (hg : Gl X "len") (hm : X.mg "len" = none) (hg2 : Gl X "set") (hm2 : X.mg "set" = none) (ha : PE X a ta) (hc : X.calm = true := by rfl)
    (na : starEach [a] X.env = (false, eval a X.env) :: starEach [] X.env := by rfl) : PE X (.Call (.Name "len" p) [.Call (.Name "set" p2) [a] [] q] [] pos) (tLenSetL (Ckk X) ta) := by
  refine ⟨fun pins s σ H Q I h => ?_⟩
  refine Call_ (ld_blt I hg hm boot_len ?_)
  refine PyProof.Rows.callWith_builtin1 (PyProof.Rows.args_cons ?_ rfl) rfl rfl
  refine Call_ (ld_blt I hg2 hm2 boot_set ?_)
  refine PyProof.Rows.callWith_type1 (PyProof.Rows.args_cons (thn (ha.run pins s σ H _ I h) fun v s1 ⟨x, H1, I1, r1, q1⟩ => PyProof.Rows.args_nil ?_) na) na rfl
  obtain ⟨l, ns, rfl, hq, hl, q1⟩ := q1
  cases r1
  obtain ⟨its, r, pl, hz⟩ := I1.list hq
  have hlen : its.toArray.size = ns.length := by rw [List.size_toArray, ← r.length, List.length_map]
  refine call_set_list (I1.ok.hd hc) pl.isList (by simpa using RZ.intsAre_vals r) (by rw [hlen]; unfold scanBound; omega) fun h' tk hS hk => ?_
  refine PyProof.Rows.args_nil ?_
  rw [hlen] at hS
  have hc2 := firstMet_len ns
  obtain ⟨o, es, ep, t, ho, hex, hd, _, _, _, hf, hn⟩ := hS
  have I2 : Inv X pins σ H1 { s1 with heap := h', toks := tk } := I1.kept fun b o e => hk b o (Heap.lt_size e) e
  have hle : (setI ns).length ≤ 4000 := by
    have : ∀ l : List Int, (setI l).length ≤ l.length := fun l => by
      induction l with
      | nil => simp [setI]
      | cons x l ih =>
        have : ∀ r : List Int, (insU x r).length ≤ r.length + 1 := fun r => by
          induction r with
          | nil => simp [insU]
          | cons y r ih2 =>
            unfold insU
            split
            · simp
            · split
              · simp
              · simp only [List.length_cons]; omega
        have := this (setI l)
        show (insU x (setI l)).length ≤ _
        simp only [List.length_cons]
        omega
    exact Nat.le_trans (this ns) hl
  refine call_len_set ho hex hd hf (by rw [hn, hc2]; omega) ⟨.int (setI ns).length, H1, I2.tok _, ⟨_, by rw [hn, hc2]⟩, q1⟩
def dLenSet : PyData → Option PyData
  | .list xs => (dInts xs).bind fun ns => if ns.length ≤ 4000 then some (.int ((setI ns).length : Nat)) else none
  | _ => none
theorem sem_lenSet {K : KK} {te : TE} {fe : ES} (h : SemE K te fe) : SemE K (tLenSetL K te) (sUn dLenSet fe) := fun F S σ H G o S' r ef Q k => by
  obtain ⟨⟨o1, S1⟩, e1, ef⟩ := Option.bind_eq_some_iff.mp ef
  obtain ⟨x, e2, ef⟩ := Option.bind_eq_some_iff.mp ef
  obtain ⟨z, e3, ef⟩ := Option.map_eq_some_iff.mp ef
  cases ef
  refine h F S σ H G o1 _ r e1 _ fun v H1 G1 r1 g1 h1 => ?_
  have rv := op_get r1 h1 e2
  cases x with
  | list xs =>
    obtain ⟨ns, e4, e5⟩ := Option.bind_eq_some_iff.mp e3
    split at e5
    · rename_i hl
      cases e5
      have hx := dInts_some e4
      subst hx
      obtain ⟨a, vs, rfl, h2, h3⟩ := rv.lst r1.gh
      have hv := h3.ints
      subst hv
      exact ⟨a, ns, rfl, .inl (.inl h2), hl, k _ H1 G1 r1 g1 (.int _)⟩
    · cases e5
  | _ => cases e3
theorem se_lenSet {X : Cx} {K : KK} {a : Expr} {ta : TE} {fa : ES} {p p2 q pos : Pos} (hK : Ckk X = K) (hc : X.calm = true) (hm : X.mg "len" = none) (hm2 : X.mg "set" = none) (ha : SE X K a ta fa) (hg : Gl X "len" := by rfl) (hg2 : Gl X "set" := by rfl)
    (na : starEach [a] X.env = (false, eval a X.env) :: starEach [] X.env := by rfl) : SE X K (.Call (.Name "len" p) [.Call (.Name "set" p2) [a] [] q] [] pos) (tLenSetL K ta) (sUn dLenSet fa) := by
  subst hK
  exact ⟨pe_lenSetL hg hm hg2 hm2 ha.p hc na, sem_lenSet ha.ok⟩
end DL

set_option Elab.async false
set_option linter.all false
set_option maxRecDepth 100000
set_option maxHeartbeats 4000000
/-! DL, part 19: dicts whose keys are tuples, of the module's own or not: an object of the heap by what is true of it; what is known of the keys lies beside it. -/
namespace DL
open PySem PySem.Spec PyProof.Rows L2
section
variable {X : Cx} {pins : List (Addr × Obj)} {σ : L2.St} {H : Hp} {s : Shared} {a b : Addr} {kvs : XL} {k : List Key} {v : V} {u r : Value} {A : Around} {E : Value → Shared → Prop}
theorem key_ofS (I : Inv X pins σ H s) (h : SqT X.K H b (k.map kV)) : (tupleKind (mixKind X.prog X.w)).is s.heap k b := by
  obtain ⟨its, rv, p, _⟩ := I.tuple h
  obtain ⟨o, h1, h2, n, h3⟩ := (show s.heap.IsTuple b its.toArray from p)
  exact ⟨o, its.toArray, n, h1, h2, h3, by simpa using items_are rv⟩
/-- what is known of the keys -/
def XKs (K : PySem.W.Frag) (H : Hp) (kvs : XL) : Prop := ∀ p ∈ kvs, SqT K H p.2.1 (p.1.map kV)
theorem dx_of (I : Inv X pins σ H s) (e : H a = some (DX X.prog X.w a kvs)) (hk : XKs X.K H kvs) : kvs.length ≤ sizeLine ∧ (a == sysModules) = false ∧ ∃ xs, XT kvs xs ∧ s.heap.DictOfH (tupleKind (mixKind X.prog X.w)) a xs := by
  have hx := I.hok a _ e
  obtain ⟨z, y, xs, r, o, es, ep, h1, h2, h3, h4, h5⟩ : DXp X.prog X.w a kvs s.heap := hx.1
  refine ⟨z, y, xs, r, o, es, ep, h1, h2, h3, h4, fun x hx => ?_, h5⟩
  have all : ∀ {l : XL} {m : List (List Key × Addr × Value)}, XT l m → XKs X.K H l → ∀ x ∈ m, (tupleKind (mixKind X.prog X.w)).is s.heap x.1 x.2.1 := by
    intro l m q
    induction q with
    | nil => intro _ x hx; exact nomatch hx
    | @cons p q ps qs hq t ih =>
      intro hk x hx
      rcases List.mem_cons.mp hx with e | hx
      · subst e
        have := hk p (by simp)
        rw [← hq.1, ← hq.2.1]
        exact key_ofS I this
      · exact ih (fun p hp => hk p (List.mem_cons_of_mem _ hp)) x hx
  exact all r hk x hx
theorem x_getItem {Q : Value → Shared → Prop} (hu : A.units + 1 < cLine) (I : Inv X pins σ H s) (e : H a = some (DX X.prog X.w a kvs)) (hk : XKs X.K H kvs) (hb : SqT X.K H b (k.map kV)) (l : valX kvs k = some v) (h : ∀ w' s', Inv X pins σ H s' → RelV v w' → Q w' s') :
    wpAny (model X.prog X.w) A (getItem (.ref a) (.ref b)) Q E s := by
  obtain ⟨z, hd, xs, rel, dd⟩ := dx_of I e hk
  obtain ⟨w', hw, rw'⟩ := RelO.some_of (v := v) (o := (atKey xs k).map (·.2)) (by rw [← l]; exact rel.val k)
  obtain ⟨p, hp, hp2⟩ := Option.map_eq_some_iff.mp hw
  refine wpAny_getItem_heap (tupleKind_room_in1 hu) (key_ofS I hb) dd hp ?_
  rw [hp2]
  exact h w' _ (I.tok _) rw'
theorem x_in {Q : Value → Shared → Prop} (hu : A.units + 1 < cLine) (I : Inv X pins σ H s) (e : H a = some (DX X.prog X.w a kvs)) (hk : XKs X.K H kvs) (hb : SqT X.K H b (k.map kV)) (h : ∀ s', Inv X pins σ H s' → Q (.bool (valX kvs k).isSome) s') :
    wpAny (model X.prog X.w) A (compareOp .In (.ref b) (.ref a)) Q E s := by
  obtain ⟨z, hd, xs, rel, dd⟩ := dx_of I e hk
  refine wpAny_in_heap (tupleKind_room_in1 hu) (key_ofS I hb) hd dd ?_
  have q := (rel.val k).isSome_eq
  rw [Option.isSome_map] at q
  rw [← q]
  exact h _ (I.tok _)
theorem x_notIn {Q : Value → Shared → Prop} (hu : A.units + 1 < cLine) (I : Inv X pins σ H s) (e : H a = some (DX X.prog X.w a kvs)) (hk : XKs X.K H kvs) (hb : SqT X.K H b (k.map kV)) (h : ∀ s', Inv X pins σ H s' → Q (.bool (!(valX kvs k).isSome)) s') :
    wpAny (model X.prog X.w) A (compareOp .NotIn (.ref b) (.ref a)) Q E s := by
  obtain ⟨z, hd, xs, rel, dd⟩ := dx_of I e hk
  refine wpAny_notIn_heap (tupleKind_room_in1 hu) (key_ofS I hb) hd dd ?_
  have q := (rel.val k).isSome_eq
  rw [Option.isSome_map] at q
  rw [← q]
  exact h _ (I.tok _)
theorem x_setItem {Q : Unit → Shared → Prop} (hu : A.units + 1 < cLine) (I : Inv X pins σ H s) (e : H a = some (DX X.prog X.w a kvs)) (hk : XKs X.K H kvs) (hb : SqT X.K H b (k.map kV)) (hl : kvs.length < sizeLine) (rv : RelV v r)
    (h : ∀ s', Inv X pins σ (upd H a (DX X.prog X.w a (putX kvs k b v))) s' → Q () s') : wpAny (model X.prog X.w) A (setItem (.ref a) (.ref b) r) Q E s := by
  obtain ⟨z, hd, xs, rel, dd⟩ := dx_of I e hk
  have hz : xs.length ≤ sizeLine := by rw [← Paired.length rel]; exact z
  have hl2 : (putX kvs k b v).length ≤ sizeLine := by have := putX_len kvs k b v; omega
  refine wpAny_setItem_heap (hsz := hz) (tupleKind_room_in1 hu) (key_ofS I hb) dd fun h' dd' hs => h _ ?_
  obtain ⟨q, es, ep, hq, h2, h3, h4, _, h5⟩ := dd'
  exact d_write I (by rw [e]; exact True.intro) hs ⟨q, hq⟩ (dx_new ⟨hl2, hd, _, rel.put k rv, q, es, ep, hq, h2, h3, h4, h5⟩)
theorem x_empty {P : Program} {w : World} {H : Hp} (h : Heap) (hb : sysModules < h.objs.size) : ObjOk P w H (h.push { cls := .type "dict", data := .dict #[] }) h.objs.size (DX P w h.objs.size []) := by
  obtain ⟨_, y, xs, r, o, es, ep, h1, h2, h3, h4, h5⟩ := (show ObjOk P w H (h.push { cls := .type "dict", data := .dict #[] }) h.objs.size (.dT []) from dt_empty h hb)
  cases r
  exact dx_new ⟨Nat.zero_le _, y, [], .nil, o, es, ep, h1, h2, h3, h4, h5⟩
def rLenX (P : Program) (w : World) (K : PySem.W.Frag) : List V → Hp → VK → Prop := fun xs H Q => ∃ (p : Addr) (kvs : XL), xs = [.ref p] ∧ H p = some (DX P w p kvs) ∧ XKs K H kvs ∧ Q (.int ((kvs.length : Nat) : Int)) H
theorem cr_lenX : CallR X (.builtin "len") (rLenX X.prog X.w X.K) := by
  intro pins s σ H xs us Q I r h
  obtain ⟨p, kvs, rfl, hp, hk, q⟩ := h
  obtain ⟨u, rfl, rx⟩ := vals1 r
  obtain rfl : u = .ref p := rx
  obtain ⟨z, hd, ys, rel, dd⟩ := dx_of I hp hk
  have hl : kvs.length = ys.length := Paired.length rel
  refine call_len_dictH hd dd (by have := z; unfold sizeLine at this; omega) ?_
  exact ⟨.int ((kvs.length : Nat) : Int), H, I.tok _, ⟨_, by rw [hl]⟩, q⟩
end
end DL

set_option Elab.async false
set_option linter.all false
set_option maxRecDepth 100000
set_option maxHeartbeats 4000000
/-! DL, part 20: d[y], y in d, y not in d, d[y] = v, len(d), {}: dicts whose keys are tuples. -/
namespace DL
open PySem PySem.Spec PyProof.Rows L2
/-- what the dict at a holds at the key y -/
def XGet (κ : KK) (H : Hp) (a : Addr) (y : V) (o : Option V) : Prop := ∃ kvs k b, H a = some (DX κ.P κ.w a kvs) ∧ XKs κ H kvs ∧ y = .ref b ∧ SqT κ H b (k.map kV) ∧ o = valX kvs k
/-- the heap behind a[y] = v -/
def XPut (κ : KK) (H : Hp) (a : Addr) (y v : V) (H' : Hp) : Prop := ∃ kvs k b, H a = some (DX κ.P κ.w a kvs) ∧ XKs κ H kvs ∧ y = .ref b ∧ SqT κ H b (k.map kV) ∧ kvs.length < sizeLine ∧ H' = upd H a (DX κ.P κ.w a (putX kvs k b v))
def tXGet (κ : KK) (td ty : TE) : TE := fun σ H Q => td σ H fun x H1 => ty σ H1 fun y H2 => ∃ a v, x = .ref a ∧ XGet κ H2 a y (some v) ∧ Q v H2
def tXIn (κ : KK) (ty td : TE) : TE := fun σ H Q => ty σ H fun y H1 => td σ H1 fun x H2 => ∃ a o, x = .ref a ∧ XGet κ H2 a y o ∧ Q (.bl o.isSome) H2
def tXNotIn (κ : KK) (ty td : TE) : TE := fun σ H Q => ty σ H fun y H1 => td σ H1 fun x H2 => ∃ a o, x = .ref a ∧ XGet κ H2 a y o ∧ Q (.bl (!o.isSome)) H2
def sXPut (κ : KK) (td ty tv : TE) : TS := fun D σ H => tv σ H fun v H1 => td σ H1 fun x H2 => ty σ H2 fun y H3 => ∃ a H4, x = .ref a ∧ XPut κ H3 a y v H4 ∧ D.nx σ H4
def tXNew (κ : KK) : TE := fun _ H Q => ∀ p, H p = none → Q (.ref p) (upd H p (DX κ.P κ.w p []))
section
variable {X : Cx} {o i e value : Expr} {pos pos' tpos : Pos} {td ty tv : TE}
theorem pe_xget (hu : X.A.units + 1 < cLine) (ho : PE X o td) (hi : PE X i ty) (hs : NoSl i) : PE X (.Subscript o i pos) (tXGet (Ckk X) td ty) := by
  refine ⟨fun pins s σ H Q I h => ?_⟩
  refine subD_of PySem.F.slot_dict_getitem.lookup hs (thn (ho.run pins s σ H _ I h) fun u s1 ⟨x, H1, I1, rx, q1⟩ => thn (hi.run pins s1 σ H1 _ I1 q1) fun iv s2 ⟨y, H2, I2, ry, a, v, ex, g, q2⟩ => ?_)
  subst ex
  obtain rfl : u = Value.ref a := rx
  obtain ⟨kvs, k, b, g1, g2, rfl, g4, g5⟩ := g
  obtain rfl : iv = Value.ref b := ry
  obtain ⟨_, _, xs, _, dd⟩ := dx_of I2 g1 g2
  exact ⟨dd.typeIs, x_getItem hu I2 g1 g2 g4 g5.symm fun w' s3 I3 rw' => ⟨v, H2, I3, rw', q2⟩⟩
theorem pc_xin (hu : X.A.units + 1 < cLine) (hi : PE X i ty) (ho : PE X o td) : PC X .In i o (tXIn (Ckk X) ty td) := by
  refine ⟨fun pins s σ H Q I h => ?_⟩
  refine thn (hi.run pins s σ H _ I h) fun iv s1 ⟨y, H1, I1, ry, q1⟩ => thn (ho.run pins s1 σ H1 _ I1 q1) fun u s2 ⟨x, H2, I2, rx, a, ov, ex, g, q2⟩ => ?_
  subst ex
  obtain rfl : u = Value.ref a := rx
  obtain ⟨kvs, k, b, g1, g2, rfl, g4, g5⟩ := g
  obtain rfl : iv = Value.ref b := ry
  subst g5
  exact x_in hu I2 g1 g2 g4 fun s3 I3 => ⟨.bl _, H2, I3, rfl, q2⟩
theorem pc_xnotin (hu : X.A.units + 1 < cLine) (hi : PE X i ty) (ho : PE X o td) : PC X .NotIn i o (tXNotIn (Ckk X) ty td) := by
  refine ⟨fun pins s σ H Q I h => ?_⟩
  refine thn (hi.run pins s σ H _ I h) fun iv s1 ⟨y, H1, I1, ry, q1⟩ => thn (ho.run pins s1 σ H1 _ I1 q1) fun u s2 ⟨x, H2, I2, rx, a, ov, ex, g, q2⟩ => ?_
  subst ex
  obtain rfl : u = Value.ref a := rx
  obtain ⟨kvs, k, b, g1, g2, rfl, g4, g5⟩ := g
  obtain rfl : iv = Value.ref b := ry
  subst g5
  exact x_notIn hu I2 g1 g2 g4 fun s3 I3 => ⟨.bl _, H2, I3, rfl, q2⟩
theorem ps_xput (hu : X.A.units + 1 < cLine) (ho : PE X o td) (hi : PE X i ty) (hv : PE X value tv) (hs : swapsWith value (some (.Subscript o i pos')) pos.line X.env = pure false) :
    PS X (.Assign [.Subscript o i pos'] value pos) (sXPut (Ckk X) td ty tv) := by
  refine ⟨fun pins s σ H D I h => ?_⟩
  refine wpAny_Assign_Subscript (thn (hv.run pins s σ H _ I h) fun r s1 ⟨v, H1, I1, rv, q1⟩ => thn (ho.run pins s1 σ H1 _ I1 q1) fun u s2 ⟨x, H2, I2, rx, q2⟩ => thn (hi.run pins s2 σ H2 _ I2 q2) fun iv s3 ⟨y, H3, I3, ry, a, H4, ex, g, q3⟩ => ?_) hs
  subst ex
  obtain rfl : u = Value.ref a := rx
  obtain ⟨kvs, k, b, g1, g2, rfl, g4, g5, rfl⟩ := g
  obtain rfl : iv = Value.ref b := ry
  exact x_setItem hu I3 g1 g2 g4 g5 rv fun s4 I4 => ⟨σ, _, I4, q3⟩
theorem pe_xnew : PE X (.Dict [] [] pos) (tXNew (Ckk X)) := ⟨fun pins s σ H Q I h =>
  wpAny_Dict_empty ⟨.ref s.heap.objs.size, _, I.laid (a := s.heap.objs.size) (o := DX X.prog X.w s.heap.objs.size []) (t' := s.toks) (fun _ _ q => Heap.get?_push_of_some _ q) (Nat.le_refl _) (x_empty s.heap I.big), rfl, h _ (I.hok.fresh (Nat.le_refl _))⟩⟩
/-- {k: v}, k a tuple -/
def tXDisp1 (κ : KK) (tk tv : TE) : TE := fun σ H Q => ∀ p, H p = none → tk σ (upd H p (DX κ.P κ.w p [])) fun y H1 => tv σ H1 fun v H2 => H2 p = some (DX κ.P κ.w p []) ∧ ∃ b k, y = .ref b ∧ SqT κ H2 b (k.map kV) ∧ Q (.ref p) (upd H2 p (DX κ.P κ.w p [(k, b, v)]))
theorem pe_xdisp1 {k v : Expr} {tk tv : TE} (hu : X.A.units < cLine) (hk : PE X k tk) (hv : PE X v tv) : PE X (.Dict [some k] [v] pos) (tXDisp1 (Ckk X) tk tv) := by
  refine ⟨fun pins s σ H Q I q => ?_⟩
  have hn := I.hok.fresh (Nat.le_refl s.heap.objs.size)
  have I1 := I.laid (a := s.heap.objs.size) (o := DX X.prog X.w s.heap.objs.size []) (h' := s.heap.push { cls := .type "dict", data := .dict #[] }) (t' := s.toks) (fun _ _ q => Heap.get?_push_of_some _ q) (Nat.le_refl _) (x_empty s.heap I.big)
  have hlen := pairTrees_length [some k] [v] X.env pos rfl rfl
  have hne : pairTrees [some k] [v] X.env pos ≠ [] := fun e => by rw [e] at hlen; cases hlen
  rw [arm_eval_Dict, zip_pairTrees [some k] [v] X.env pos rfl rfl, dictDisplay_pairs (pairTrees [some k] [v] X.env pos) hne (by rw [hlen]; show 1 < 17; decide)]
  refine wpAny_bind (wpAny_standAt (wpAny_bind (wpAny_subDictH (knd := tupleKind (mixKind X.prog X.w)) hu (by rw [hlen]; show 1 ≤ 15; decide) ?_)))
  refine pairTrees_cons_walk (thn (hk.run pins _ σ _ _ I1 (q _ hn)) fun u s1 ⟨y, H1, J1, ry, q1⟩ => thn (hv.run pins s1 σ H1 _ J1 q1) fun w2 s2 ⟨z, H2, J2, rz, hp, b, ks, ey, hb, q2⟩ => pairTrees_nil_walk ?_)
  subst ey
  obtain rfl : u = Value.ref b := ry
  have hkey := key_ofS J2 hb
  obtain ⟨_, hd, xs, rel, dd⟩ := dx_of J2 hp (fun p h => by cases h)
  cases rel
  refine ⟨[(ks, b, w2)], ⟨rfl, rfl, hkey, True.intro⟩, dd, fun h' tk' dd' hs => wpAny_pure ?_⟩
  obtain ⟨o, es, ep, ho, h2, h3, h4, _, h5⟩ := dd'
  refine ⟨.ref s.heap.objs.size, _, d_write J2 (by rw [hp]; exact True.intro) hs ⟨o, ho⟩ (dx_new ⟨by show 1 ≤ sizeLine; exact sz (by omega), hd, [(ks, b, w2)], .cons ⟨rfl, rfl, rz⟩ .nil, o, es, ep, ho, h2, h3, h4, h5⟩), rfl, q2⟩
end
end DL

set_option Elab.async false
set_option linter.all false
set_option maxRecDepth 100000
set_option maxHeartbeats 4000000
/-! DL, part 21: dicts of one's own with tuple keys, on slots. -/
namespace DL
open PySem PySem.Spec PyProof.Rows L2
def keyK : PyData → Option Key
  | .int i => some (.inl i)
  | .str x => some (.inr x)
  | _ => none
def keyKs : List PyData → Option (List Key)
  | [] => some []
  | d :: ds => (keyK d).bind fun k => (keyKs ds).map fun ks => k :: ks
/-- a key that is a tuple -/
def keyOf : PyData → Option (List Key)
  | .tuple ds => keyKs ds
  | _ => none
theorem keyK_keyD (k : Key) : keyK (keyD k) = some k := by cases k <;> rfl
theorem keyKs_map : ∀ ks : List Key, keyKs (ks.map keyD) = some ks
  | [] => rfl
  | k :: ks => by rw [List.map_cons, keyKs, keyK_keyD, Option.bind_some, keyKs_map ks]; rfl
theorem keyOf_keyT (ks : List Key) : keyOf (keyT ks) = some ks := keyKs_map ks
theorem keyK_some {d : PyData} {k : Key} (h : keyK d = some k) : d = keyD k := by
  cases d with
  | int i => cases h; rfl
  | str x => cases h; rfl
  | _ => cases h
theorem keyKs_some : ∀ {ds : List PyData} {ks : List Key}, keyKs ds = some ks → ds = ks.map keyD
  | [], _, h => by cases h; rfl
  | d :: ds, _, h => by
    obtain ⟨k, h1, h2⟩ := Option.bind_eq_some_iff.mp h
    obtain ⟨ks, h3, rfl⟩ := Option.map_eq_some_iff.mp h2
    rw [keyK_some h1, keyKs_some h3]; rfl
theorem keyOf_some {d : PyData} {ks : List Key} (h : keyOf d = some ks) : d = keyT ks := by
  cases d with
  | tuple ds => rw [keyKs_some h]; rfl
  | _ => cases h
abbrev ML := List (PyData × PyData)
def mGet (kvs : ML) (k : List Key) : Option PyData := (kvs.find? fun p => decide (keyOf p.1 = some k)).map (·.2)
def mPut (kvs : ML) (k : List Key) (d : PyData) : ML := if (mGet kvs k).isSome = true then kvs.map (fun p => if keyOf p.1 = some k then (p.1, d) else p) else kvs ++ [(keyT k, d)]
section
variable {K : KK} {G H : Hp}
theorem rp_keyT {ks : List Key} {v : V} (h : Rp K G v (keyT ks)) : ∃ b, v = .ref b ∧ SqT K G b (ks.map kV) := by
  have key : ∀ {ks : List Key} {vs : List V}, RpAll K G vs (ks.map keyD) → vs = ks.map kV := by
    intro ks
    induction ks with
    | nil => intro vs h; cases h; rfl
    | cons k ks ih =>
      intro vs h
      cases h with
      | cons h t =>
        rw [ih t, List.map_cons]
        cases k <;> · cases h; rfl
  have h : Rp K G v (.tuple (ks.map keyD)) := h
  cases h with
  | tup h1 h2 => rw [key h2] at h1; exact ⟨_, rfl, h1⟩
theorem XTV.get : ∀ {xl : XL} {kvs : ML} (k : List Key), XTV K G xl kvs → (valX xl k = none ∧ mGet kvs k = none) ∨ ∃ v d, valX xl k = some v ∧ mGet kvs k = some d ∧ Rp K G v d
  | _, _, k, .nil => .inl ⟨rfl, rfl⟩
  | _, _, k, @XTV.cons _ _ k0 b v r d ds hb hr t => by
    by_cases e : k0 = k
    · subst e
      refine .inr ⟨v, d, by simp [valX, List.find?_cons], by simp [mGet, List.find?_cons, keyOf_keyT], hr⟩
    · have e1 : valX ((k0, b, v) :: r) k = valX r k := by simp [valX, List.find?_cons, e]
      have e2 : mGet ((keyT k0, d) :: ds) k = mGet ds k := by simp [mGet, List.find?_cons, keyOf_keyT, e]
      rw [e1, e2]
      exact XTV.get k t
theorem XTV.repl {k : List Key} {v : V} {d : PyData} (hv : Rp K G v d) : ∀ {xl : XL} {kvs : ML}, XTV K G xl kvs → XTV K G (xl.map fun p => if p.1 = k then (p.1, p.2.1, v) else p) (kvs.map fun p => if keyOf p.1 = some k then (p.1, d) else p)
  | _, _, .nil => .nil
  | _, _, @XTV.cons _ _ k0 b v0 r d0 ds hb hr t => by
    rw [List.map_cons, List.map_cons]
    by_cases e : k0 = k
    · subst e
      simp only [if_true, keyOf_keyT]
      exact .cons hb hv (XTV.repl hv t)
    · have e2 : ¬ keyOf (keyT k0) = some k := by rw [keyOf_keyT]; exact fun h => e (Option.some.inj h)
      simp only [e, e2, if_false]
      exact .cons hb hr (XTV.repl hv t)
theorem XTV.snoc {k : List Key} {b : Addr} {v : V} {d : PyData} (hb : SqT K G b (k.map kV)) (hv : Rp K G v d) : ∀ {xl : XL} {kvs : ML}, XTV K G xl kvs → XTV K G (xl ++ [(k, b, v)]) (kvs ++ [(keyT k, d)])
  | _, _, .nil => .cons hb hv .nil
  | _, _, .cons h1 h2 t => .cons h1 h2 (XTV.snoc hb hv t)
theorem XTV.put {k : List Key} {b : Addr} {v : V} {d : PyData} {xl : XL} {kvs : ML} (h : XTV K G xl kvs) (hb : SqT K G b (k.map kV)) (hv : Rp K G v d) : XTV K G (putX xl k b v) (mPut kvs k d) := by
  unfold putX mPut
  rcases h.get k with ⟨h1, h2⟩ | ⟨v', d', h1, h2, _⟩
  · rw [h1, h2]; exact h.snoc hb hv
  · rw [h1, h2]; exact h.repl hv
theorem XTV.keys {xl : XL} {kvs : ML} (h : XTV K G xl kvs) (e : Ex G H) : XKs K H xl := by
  have key : ∀ {xl : XL} {kvs : ML}, XTV K G xl kvs → ∀ p ∈ xl, SqT K H p.2.1 (p.1.map kV) := by
    intro xl
    induction xl with
    | nil => intro kvs _ p hp; cases hp
    | cons q r ih =>
      intro kvs h p hp
      cases h with
      | cons h1 h2 t =>
        rcases List.mem_cons.mp hp with rfl | hp
        · exact e.st h1
        · exact ih t p hp
  exact key h
theorem XTV.length : ∀ {xl : XL} {kvs : ML}, XTV K G xl kvs → xl.length = kvs.length
  | _, _, .nil => rfl
  | _, _, .cons _ _ t => by simp [t.length]
end
/-! ### on slots -/
def isDctS : Option SD → Bool
  | some (.own _ (.dct true _)) => true
  | _ => false
def atDct (f : ML → Option PyData) : Option SD → Option PyData
  | some (.own _ (.dct true kvs)) => f kvs
  | _ => none
theorem SR.ownX {K : KK} {F : Fr} {S : List SD} {σ : L2.St} {H G : Hp} {i : Nat} {b : Bool} {kvs : ML} (r : SR K F S σ H G) (e : S[i]? = some (.own b (.dct true kvs))) : ∃ a xl, σ[i]? = some (some (.ref a)) ∧ G a = none ∧ H a = some (DX K.P K.w a xl) ∧ XTV K G xl kvs := by
  obtain ⟨a, u, h1, h2, h3, h4, _⟩ := r.own i _ _ e
  cases h4 with
  | dX h4 => exact ⟨a, _, h1, h2, h3, h4⟩
section
variable {K : KK} {ty tv : TE} {fy : ES} {fd : DS} {i : Nat}
/-- x[y] -/
def sXGet (i : Nat) (fy : ES) : ES := fun S => if isDctS (S[i]?) = true then (fy S).bind fun p => (p.1.get p.2).bind fun y => (keyOf y).bind fun k => (atDct (fun kvs => mGet kvs k) (p.2[i]?)).map fun d => (.dat d, p.2) else none
theorem isDctS_some {s : Option SD} (h : isDctS s = true) : ∃ b kvs, s = some (.own b (.dct true kvs)) := by
  cases s with
  | none => cases h
  | some s => cases s with
    | own b o => cases o with
      | lst xs => cases h
      | dct t kvs => cases t with
        | true => exact ⟨b, kvs, rfl⟩
        | false => cases h
    | _ => cases h
theorem atDct_some {f : ML → Option PyData} {s : Option SD} {d : PyData} (h : atDct f s = some d) : ∃ b kvs, s = some (.own b (.dct true kvs)) ∧ f kvs = some d := by
  cases s with
  | none => cases h
  | some s => cases s with
    | own b o => cases o with
      | lst xs => cases h
      | dct t kvs => cases t with
        | true => exact ⟨b, kvs, rfl, h⟩
        | false => cases h
    | _ => cases h
theorem RV.keyT {K : KK} {G H : Hp} {v : V} {k : List Key} (h : RV K G H v (keyT k)) : ∃ b, v = .ref b ∧ SqT K G b (k.map kV) := by
  rcases h with h | ⟨a, vs, xs, q, _⟩
  · exact rp_keyT h
  · cases q
theorem sem_xget (h : SemE K ty fy) : SemE K (tXGet K (tVar i) ty) (sXGet i fy) := fun F S σ H G o S' r ef Q k => by
  have ef : (if isDctS (S[i]?) = true then (fy S).bind fun p => (p.1.get p.2).bind fun y => (keyOf y).bind fun k => (atDct (fun kvs => mGet kvs k) (p.2[i]?)).map fun d => (Op.dat d, p.2) else none) = some (o, S') := ef
  split at ef
  case isFalse => cases ef
  rename_i hd
  obtain ⟨b0, kv0, e0⟩ := isDctS_some hd
  obtain ⟨a, xl0, q1, _⟩ := r.ownX e0
  obtain ⟨⟨o1, S1⟩, e1, ef⟩ := Option.bind_eq_some_iff.mp ef
  obtain ⟨y, e2, ef⟩ := Option.bind_eq_some_iff.mp ef
  obtain ⟨ks, e3, ef⟩ := Option.bind_eq_some_iff.mp ef
  obtain ⟨d, e4, e5⟩ := Option.map_eq_some_iff.mp ef
  cases e5
  obtain ⟨b1, kvs, e6, e7⟩ := atDct_some e4
  refine ⟨_, q1, h F S σ H G o1 _ r e1 _ fun w H1 G1 r1 g1 h1 => ?_⟩
  have hy := op_get r1 h1 e2
  rw [keyOf_some e3] at hy
  obtain ⟨b, rfl, hb⟩ := hy.keyT
  obtain ⟨a', xl, p1, p2, p3, p4⟩ := r1.ownX e6
  rw [q1] at p1; cases p1
  rcases p4.get ks with ⟨_, z⟩ | ⟨v, d', z1, z2, z3⟩
  · rw [z] at e7; cases e7
  · rw [e7] at z2; cases z2
    exact ⟨a, v, rfl, ⟨xl, ks, b, p3, p4.keys r1.gh, rfl, r1.gh.st hb, z1.symm⟩, k v H1 G1 r1 g1 z3⟩
end
end DL

set_option Elab.async false
set_option linter.all false
set_option maxRecDepth 100000
set_option maxHeartbeats 4000000
/-! DL, part 22: in, not in, put, len, the rules for the text. -/
namespace DL
open PySem PySem.Spec PyProof.Rows L2
section
variable {K : KK} {ty tv : TE} {fy : ES} {fd : DS} {i : Nat}
/-- y in x (neg: not in) -/
def sXIn (neg : Bool) (i : Nat) (fy : ES) : ES := fun S => (fy S).bind fun p => (p.1.get p.2).bind fun y => (keyOf y).bind fun k => (atDct (fun kvs => some (.bool (if neg = true then !(mGet kvs k).isSome else (mGet kvs k).isSome))) (p.2[i]?)).map fun d => (.dat d, p.2)
theorem sem_xin (h : SemE K ty fy) : SemE K (tXIn K ty (tVar i)) (sXIn false i fy) := fun F S σ H G o S' r ef Q k => by
  obtain ⟨⟨o1, S1⟩, e1, ef⟩ := Option.bind_eq_some_iff.mp ef
  obtain ⟨y, e2, ef⟩ := Option.bind_eq_some_iff.mp ef
  obtain ⟨ks, e3, ef⟩ := Option.bind_eq_some_iff.mp ef
  obtain ⟨d, e4, e5⟩ := Option.map_eq_some_iff.mp ef
  cases e5
  obtain ⟨b1, kvs, e6, e7⟩ := atDct_some e4
  cases e7
  refine h F S σ H G o1 _ r e1 _ fun w H1 G1 r1 g1 h1 => ?_
  have hy := op_get r1 h1 e2
  rw [keyOf_some e3] at hy
  obtain ⟨b, rfl, hb⟩ := hy.keyT
  obtain ⟨a, xl, p1, p2, p3, p4⟩ := r1.ownX e6
  refine ⟨_, p1, a, _, rfl, ⟨xl, ks, b, p3, p4.keys r1.gh, rfl, r1.gh.st hb, rfl⟩, k _ H1 G1 r1 g1 ?_⟩
  rcases p4.get ks with ⟨z1, z2⟩ | ⟨v, d', z1, z2, _⟩
  · rw [z1, z2]; exact .bl _
  · rw [z1, z2]; exact .bl _
theorem sem_xnotin (h : SemE K ty fy) : SemE K (tXNotIn K ty (tVar i)) (sXIn true i fy) := fun F S σ H G o S' r ef Q k => by
  obtain ⟨⟨o1, S1⟩, e1, ef⟩ := Option.bind_eq_some_iff.mp ef
  obtain ⟨y, e2, ef⟩ := Option.bind_eq_some_iff.mp ef
  obtain ⟨ks, e3, ef⟩ := Option.bind_eq_some_iff.mp ef
  obtain ⟨d, e4, e5⟩ := Option.map_eq_some_iff.mp ef
  cases e5
  obtain ⟨b1, kvs, e6, e7⟩ := atDct_some e4
  cases e7
  refine h F S σ H G o1 _ r e1 _ fun w H1 G1 r1 g1 h1 => ?_
  have hy := op_get r1 h1 e2
  rw [keyOf_some e3] at hy
  obtain ⟨b, rfl, hb⟩ := hy.keyT
  obtain ⟨a, xl, p1, p2, p3, p4⟩ := r1.ownX e6
  refine ⟨_, p1, a, _, rfl, ⟨xl, ks, b, p3, p4.keys r1.gh, rfl, r1.gh.st hb, rfl⟩, k _ H1 G1 r1 g1 ?_⟩
  rcases p4.get ks with ⟨z1, z2⟩ | ⟨v, d', z1, z2, _⟩
  · rw [z1, z2]; exact .bl _
  · rw [z1, z2]; exact .bl _
/-- x[y] = e -/
def putAtX (i : Nat) (k : List Key) (d : PyData) (S : List SD) : Option SD → Option Out
  | some (.own b (.dct true kvs)) => if kvs.length < 100000 then some (.nx (S.set i (.own b (.dct true (mPut kvs k d))))) else none
  | _ => none
def sXPutS (i : Nat) (fy : ES) (fd : DS) : SSem := fun S => (fd S).bind fun q => if isDctS (q.2[i]?) = true then (fy q.2).bind fun p => (p.1.get p.2).bind fun y => (keyOf y).bind fun k => putAtX i k q.1 p.2 (p.2[i]?) else none
theorem sem_xput (hv : SemD K tv fd) (h : SemE K ty fy) : SemS K (sXPut K (tVar i) ty tv) (sXPutS i fy fd) := fun F S σ H G out r e D hD => by
  obtain ⟨⟨d, S0⟩, e0, e⟩ := Option.bind_eq_some_iff.mp e
  have e : (if isDctS (S0[i]?) = true then (fy S0).bind fun p => (p.1.get p.2).bind fun y => (keyOf y).bind fun k => putAtX i k d p.2 (p.2[i]?) else none) = some out := e
  split at e
  case isFalse => cases e
  rename_i hd
  obtain ⟨b0, kv0, e00⟩ := isDctS_some hd
  refine hv F S σ H G d S0 r e0 _ fun v H0 G0 r0 g0 hv0 => ?_
  obtain ⟨a, xl0, q1, _⟩ := r0.ownX e00
  obtain ⟨⟨o1, S1⟩, e1, e⟩ := Option.bind_eq_some_iff.mp e
  obtain ⟨y, e2, e⟩ := Option.bind_eq_some_iff.mp e
  obtain ⟨ks, e3, e⟩ := Option.bind_eq_some_iff.mp e
  refine ⟨_, q1, h F S0 σ H0 G0 o1 _ r0 e1 _ fun w H1 G1 r1 g1 h1 => ?_⟩
  have hy := op_get r1 h1 e2
  rw [keyOf_some e3] at hy
  obtain ⟨b, rfl, hb⟩ := hy.keyT
  have e : putAtX i ks d S1 (S1[i]?) = some out := e
  cases e4 : S1[i]? with
  | none => rw [e4] at e; cases e
  | some sd =>
    rw [e4] at e
    cases sd with
    | own b1 ob => cases ob with
      | lst xs => cases e
      | dct t kvs => cases t with
        | false => cases e
        | true =>
          have e : (if kvs.length < 100000 then some (Out.nx (S1.set i (.own b1 (.dct true (mPut kvs ks d))))) else none) = some out := e
          split at e
          · rename_i hl
            cases e
            obtain ⟨a', xl, p1, p2, p3, p4⟩ := r1.ownX e4
            rw [q1] at p1; cases p1
            refine ⟨a, _, rfl, ⟨xl, ks, b, p3, p4.keys r1.gh, rfl, r1.gh.st hb, szl (by rw [p4.length]; omega), rfl⟩, ?_⟩
            exact hD σ _ G1 (r1.write e4 q1 (.dX (p4.put hb (hv0.mono g1)))) (g0.trans g1)
          · cases e
    | _ => cases e
/-- len(x) -/
def sXLen (i : Nat) : ES := fun S => (atDct (fun kvs => some (.int kvs.length)) (S[i]?)).map fun d => (.dat d, S)
theorem sem_xlen : SemE K (tCB (rLenX K.P K.w K) (tCons (tVar i) tNil)) (sXLen i) := fun F S σ H G o S' r ef Q k => by
  obtain ⟨d, e4, e5⟩ := Option.map_eq_some_iff.mp ef
  cases e5
  obtain ⟨b1, kvs, e6, e7⟩ := atDct_some e4
  cases e7
  obtain ⟨a, xl, p1, p2, p3, p4⟩ := r.ownX e6
  refine ⟨_, p1, a, xl, rfl, p3, p4.keys r.gh, k _ H G r (.refl _) ?_⟩
  rw [p4.length]; exact .int _
end
section
variable {X : Cx} {K : KK} {e o c : Expr} {pos pos' p : Pos} {ty tv : TE} {fy : ES} {fd : DS} {i k : Nat}
theorem se_xget (hK : Ckk X = K) (hr : Room k X.A) (ho : SE X K o (tVar i) (sVar i)) (hy : SE X K e ty fy) (hs : NoSl e := by exact fun _ _ => rfl) : SE X K (.Subscript o e pos) (tXGet K (tVar i) ty) (sXGet i fy) := by
  subst hK
  exact ⟨pe_xget (by have := hr.un; omega) ho.p hy.p hs, sem_xget hy.ok⟩
theorem se_xnotin (hK : Ckk X = K) (hr : Room k X.A) (ho : SE X K o (tVar i) (sVar i)) (hy : SE X K e ty fy) (h1 : behindInMarks .NotIn o = false := by rfl) : SE X K (.Compare e [.NotIn] [o] pos) (tXNotIn K ty (tVar i)) (sXIn true i fy) := by
  subst hK
  exact ⟨pe_cmp (pc_xnotin (by have := hr.un; omega) hy.p ho.p) h1, sem_xnotin hy.ok⟩
theorem se_xin (hK : Ckk X = K) (hr : Room k X.A) (ho : SE X K o (tVar i) (sVar i)) (hy : SE X K e ty fy) (h1 : behindInMarks .In o = false := by rfl) : SE X K (.Compare e [.In] [o] pos) (tXIn K ty (tVar i)) (sXIn false i fy) := by
  subst hK
  exact ⟨pe_cmp (pc_xin (by have := hr.un; omega) hy.p ho.p) h1, sem_xin hy.ok⟩
theorem ss_xput (hK : Ckk X = K) (hr : Room k X.A) (ho : SE X K o (tVar i) (sVar i)) (hy : SE X K e ty fy) (hv : SDt X K c tv fd) (hs : swapsWith c (some (.Subscript o e pos')) pos.line X.env = pure false := by rfl) :
    SS X K (.Assign [.Subscript o e pos'] c pos) (sXPut K (tVar i) ty tv) (sXPutS i fy fd) := by
  subst hK
  exact ⟨ps_xput (by have := hr.un; omega) ho.p hy.p hv.p hs, sem_xput hv.ok hy.ok⟩
end
end DL

set_option Elab.async false
set_option linter.all false
set_option maxRecDepth 100000
set_option maxHeartbeats 4000000
/-! DL, part 23: {k: v} with a tuple key, {}: a dict of one's own. -/
namespace DL
open PySem PySem.Spec PyProof.Rows L2
section
variable {K : KK} {tk tv : TE} {fk : ES} {fd : DS}
def sXDisp (fk : ES) (fd : DS) : VS := fun S => (fk (borGo [] 0 S)).bind fun p => (fd p.2).bind fun q => (p.1.get q.2).bind fun y => (keyOf y).map fun k => (.own false (.dct true [(keyT k, q.1)]), unbGo [] 0 S q.2)
theorem sem_xdisp (hk : SemE K tk fk) (hv : SemD K tv fd) : SemV K (tXDisp1 K tk tv) (sXDisp fk fd) := fun F S σ H G s S' r ef Q k => by
  obtain ⟨⟨o1, S1⟩, e1, ef⟩ := Option.bind_eq_some_iff.mp ef
  obtain ⟨⟨d, S2⟩, e2, ef⟩ := Option.bind_eq_some_iff.mp ef
  obtain ⟨y, e3, ef⟩ := Option.bind_eq_some_iff.mp ef
  obtain ⟨ks, e4, e5⟩ := Option.map_eq_some_iff.mp ef
  cases e5
  intro p hp
  obtain ⟨f0, fg, fa⟩ := r.fresh hp
  have r0 := r.ext (PX.side (o := DX K.P K.w p []) r.gh hp)
  refine hk (Fr.blk [] S σ _ G) (borGo [] 0 S) σ _ G o1 S1 (r0.sub []) e1 _ fun u H1 G1 r1 g1 h1 => ?_
  refine hv _ S1 σ H1 G1 d S2 r1 e2 _ fun v H2 G2 r2 g2 h2 => ?_
  obtain ⟨hD, gD⟩ := r0.aside r2 (upd_same (H := H)) fg fa
  have hy := op_get r2 (h1.mono g2) e3
  rw [keyOf_some e4] at hy
  obtain ⟨b, rfl, hb⟩ := hy.keyT
  refine ⟨hD, b, ks, rfl, r2.gh.st hb, ?_⟩
  have r3 := (r0.unsub r2).side (o := DX K.P K.w p [(ks, b, v)]) f0 gD (apart_unb fa)
  exact k _ _ G2 r3 (g1.trans g2) (by simp) (by simp) ⟨p, _, rfl, f0, gD, apart_unb fa, upd_same, .dX (.cons hb h2 .nil)⟩
def sXNew : VS := fun S => some (.own false (.dct true []), S)
theorem sem_xnew : SemV K (tXNew K) sXNew := fun F S σ H G s S' r ef Q k => by
  cases ef
  intro p hp
  obtain ⟨f0, fg, fa⟩ := r.fresh hp
  exact k _ _ G (r.ext (PX.side r.gh hp)) (.refl _) (by simp) (by simp) ⟨p, _, rfl, f0, fg, fa, upd_same, .dX .nil⟩
end
section
variable {X : Cx} {K : KK} {a b : Expr} {pos : Pos} {tk tv : TE} {fk : ES} {fd : DS} {k : Nat}
theorem sv_xdisp (hK : Ckk X = K) (hr : Room k X.A) (hk : SE X K a tk fk) (hv : SDt X K b tv fd) : SV X K (.Dict [some a] [b] pos) (tXDisp1 K tk tv) (sXDisp fk fd) := by
  subst hK
  exact ⟨pe_xdisp1 (by have := hr.un; omega) hk.p hv.p, sem_xdisp hk.ok hv.ok⟩
theorem sv_xnew (hK : Ckk X = K) : SV X K (.Dict [] [] pos) (tXNew K) sXNew := by
  subst hK
  exact ⟨pe_xnew, sem_xnew⟩
end
end DL
namespace DL
open PySem PySem.Spec PyProof.Rows L2
/-- len(f(..)), f hands back a dict of its own -/
def dctLen : SD → Option PyData
  | .own false (.dct true kvs) => some (.int kvs.length)
  | _ => none
def sLenCall (n : Nat) (m : Fn) (fs : AS) : ES := fun S => (sCallR n m fs S).bind fun p => (dctLen p.1).map fun d => (.dat d, p.2)
theorem sem_lenCall {K : KK} {tA : TA} {fs : AS} {n : Nat} {m : Fn} (h : SemA K tA fs) : SemE K (tCB (rLenX K.P K.w K) (tCons (tCallG (spM K n m) tA) tNil)) (sLenCall n m fs) := fun F S σ H G o S' r ef Q k => by
  obtain ⟨⟨rs, S1⟩, e1, ef⟩ := Option.bind_eq_some_iff.mp ef
  obtain ⟨d, e4, e5⟩ := Option.map_eq_some_iff.mp ef
  cases e5
  refine sem_callR h r e1 fun v H1 G1 r1 g1 hr => ?_
  cases rs with
  | own b ob => cases b with
    | true => cases e4
    | false => cases ob with
      | lst xs => cases e4
      | dct t kvs => cases t with
        | false => cases e4
        | true =>
          cases e4
          obtain ⟨p, vs, rfl, h0, hg, ap, hh, ha⟩ := hr
          cases ha with
          | dX ha =>
            refine ⟨p, _, rfl, hh, ha.keys r1.gh, k _ H1 G1 r1 g1 ?_⟩
            rw [ha.length]; exact .int _
  | _ => cases e4
section
variable {X : Cx} {K : KK} {k : Nat} {f : Addr} {fd : FuncData} {ps : List Str} {m : Fn} {x : Str} {p p1 pos q1 : Pos} {e : Expr} {es : List Expr} {t : TA} {fs : AS}
theorem se_lenCall (hK : Ckk X = K) (hml : X.mg "len" = none) (hbl : bootBuiltins "len" = some (.builtin "len")) (C : Cal X.prog X.w K X.mg X.base k x ps m f fd) (hr : Room k X.A) (hgd : X.A.guards = some []) (ha : SA X K (e :: es) t fs) (hgl : Gl X "len" := by rfl) (hg : Gl X x := by rfl) (hdb : (x == ("__debug__" : Str)) = false := by decide)
    (he : starEach (e :: es) X.env = (false, eval e X.env) :: starEach es X.env := by rfl) (hpl : (backTo pos (starEach es X.env)).any (·.1) = false := by rfl)
    (he2 : starEach [.Call (.Name x p) (e :: es) [] pos] X.env = (false, eval (.Call (.Name x p) (e :: es) [] pos) X.env) :: starEach [] X.env := by rfl) (hpl2 : (backTo q1 (starEach [] X.env)).any (·.1) = false := by rfl) :
    SE X K (.Call (.Name "len" p1) [.Call (.Name x p) (e :: es) [] pos] [] q1) (tCB (rLenX K.P K.w K) (tCons (tCallG (spM K ps.length m) t) tNil)) (sLenCall ps.length m fs) := by
  subst hK
  exact ⟨pe_callB cr_lenX hgl hml hbl (pa_cons (pe_callG rfl C hr hgd ha.p hg hdb he hpl) pa_nil he2) (by decide) (by decide) he2 hpl2, sem_lenCall ha.ok⟩
end
end DL
namespace DL
open PySem PySem.Spec PyProof.Rows L2
section
variable {X : Cx} {K : KK} {e o : Expr} {pos : Pos} {ty : TE} {fy : ES} {i k : Nat}
theorem st_xnotin (hK : Ckk X = K) (hr : Room k X.A) (ho : SE X K o (tVar i) (sVar i)) (hy : SE X K e ty fy) (h1 : behindInMarks .NotIn o = false := by rfl) : ST X K (.Compare e [.NotIn] [o] pos) (tB (tXNotIn K ty (tVar i))) (sTest (sXIn true i fy)) := by
  subst hK
  exact ⟨pt_cmp (pc_xnotin (by have := hr.un; omega) hy.p ho.p) h1, sem_test (sem_xnotin hy.ok)⟩
theorem st_xin (hK : Ckk X = K) (hr : Room k X.A) (ho : SE X K o (tVar i) (sVar i)) (hy : SE X K e ty fy) (h1 : behindInMarks .In o = false := by rfl) : ST X K (.Compare e [.In] [o] pos) (tB (tXIn K ty (tVar i))) (sTest (sXIn false i fy)) := by
  subst hK
  exact ⟨pt_cmp (pc_xin (by have := hr.un; omega) hy.p ho.p) h1, sem_test (sem_xin hy.ok)⟩
end
end DL

set_option Elab.async false
set_option linter.all false
set_option maxRecDepth 100000
set_option maxHeartbeats 4000000
/-! DL, part 24: sorted of a list of data that are alike. -/
namespace DL
open PySem PySem.Spec PyProof.Rows L2
open PySem.W (alike AllAlike Sortable dataLe EachIs)
/-- sorted(xs), a list of data that are alike -/
def rSortG (K : KK) : List V → Hp → VK → Prop := fun vs H Q => ∃ (a : Addr) (ws : List V) (ds : List PyData), vs = [V.ref a] ∧ SqL K H a ws ∧ RpAll K H ws ds ∧ (∀ d ∈ ds, fitN 60 d = true) ∧ AllAlike ds ∧ Sortable ds ∧
  ∀ p : Addr, H p = none → Q (.ref p) (upd H p (.lst (((ds.zip ws).mergeSort (dataLe false Prod.fst)).map Prod.snd)))
theorem each_vals : ∀ {ws : List V} {us : List Value} {ds : List PyData}, Vals ws us → ds.length = ws.length → EachIs (fun (u : Value) (b : PyData × V) => RelV b.2 u) us (ds.zip ws)
  | [], _, [], .nil, _ => .nil
  | w :: ws, _, d :: ds, .cons r t, h => .cons r (each_vals t (by simpa using h))
theorem vals_each : ∀ {us : List Value} {bs : List (PyData × V)}, EachIs (fun (u : Value) (b : PyData × V) => RelV b.2 u) us bs → Vals (bs.map Prod.snd) us
  | _, _, .nil => .nil
  | _, _, .cons r t => .cons r (vals_each t)
theorem each_reads {X : Cx} {pins : List (Addr × Obj)} {σ : L2.St} {H : Hp} {s : Shared} (I : Inv X pins σ H s) : ∀ {ws : List V} {us : List Value} {ds : List PyData}, Vals ws us → RpAll (Ckk X) H ws ds → (∀ d ∈ ds, fitN 60 d = true) → EachIs (fun (u : Value) (b : PyData × V) => ∃ as, Reads s.heap u b.1 as) us (ds.zip ws)
  | [], _, [], .nil, _, _ => .nil
  | w :: ws, _, d :: ds, .cons r t, .cons h q, f => .cons (h.reads I (f d (by simp)) r) (each_reads I t q fun x hx => f x (List.mem_cons_of_mem _ hx))
theorem zip_fst {α β : Type} : ∀ (xs : List α) (ys : List β), xs.length = ys.length → (xs.zip ys).map Prod.fst = xs := fun xs ys h => List.map_fst_zip (by omega)
theorem cr_sortG {X : Cx} {k : Nat} (hr : Room k X.A) : CallR X (.builtin "sorted") (rSortG (Ckk X)) := by
  intro pins s σ H vs us Q I r h
  obtain ⟨a, ws, ds, rfl, hs, hp, hf, hal, hso, q⟩ := h
  obtain ⟨its, rv, hl, hz⟩ := I.list hs
  rw [Vals.ref1 r]
  have hlen : ds.length = ws.length := hp.length.symm
  have hzl : (ds.zip ws).length = ws.length := by simp [hlen]
  have hfst : (ds.zip ws).map Prod.fst = ds := zip_fst ds ws hlen
  refine PySem.W.sorted_data (β := PyData × V) (enc := Prod.fst) (R := fun u b => RelV b.2 u) (bs := ds.zip ws) (vs := its) (show s.heap.IsList a its.toArray from by obtain ⟨o, n, h1, h2, _, h3⟩ := hl; exact ⟨o, h1, h2, n, h3⟩) (each_vals rv hlen) (each_reads I rv hp hf) (by rw [hfst]; exact hal) (by rw [hfst]; exact hso) (by rw [hzl]; exact hz) (fun b hb => ?_) fun out ol he => ?_
  · have h1 : b.1 ∈ ds := by rw [← hfst]; exact List.mem_map_of_mem hb
    have h2 := fit_depth (hf _ h1)
    have h3 := hr.units
    omega
  · obtain ⟨ep, he'⟩ := PyProof.Rows.sortedAll_at s.heap its out.toArray
    have hv := vals_each he
    refine ⟨.ref _, upd H (s.heap.objs.size + 1) (.lst (((ds.zip ws).mergeSort (dataLe false Prod.fst)).map Prod.snd)), I.laid (t' := s.toks) (fun _ _ => PyProof.Rows.sortedAll_old) (Nat.le_succ _) ⟨?_, out, ep, hv, he'⟩, rfl, q _ (I.hok.fresh (Nat.le_succ _))⟩
    rw [List.length_map, List.length_mergeSort, hzl]; exact hz
/-- data, sorted -/
def sortD (ds : List PyData) : List PyData := ds.mergeSort (dataLe false id)
def allAlikeB (ds : List PyData) : Bool := ds.all fun d => ds.all fun e => alike d e
def isTupN : PyData → Bool
  | .tuple (_ :: _) => true
  | _ => false
def noTup : PyData → Bool
  | .tuple _ => false
  | .none => false
  | _ => true
def dSortG (ds : List PyData) : Option (List PyData) := if ds.all (fitN 60) = true ∧ allAlikeB ds = true ∧ (ds.all isTupN = true ∨ ds.all noTup = true) then some (sortD ds) else none
/-- ints, or other data that are alike -/
def dSortXL : List PyData → Option (List PyData)
  | [x] => match dSortedL [x] with
    | some z => some z
    | none => match x with
      | .list ds => dSortG ds
      | _ => none
  | _ => none
def rSortA (K : KK) : List V → Hp → VK → Prop := fun vs H Q => ZB.rSortX K vs H Q ∨ rSortG K vs H Q
theorem crSortA {X : Cx} {K : KK} {k : Nat} (hK : Ckk X = K) (hr : Room k X.A) : CallR X (.builtin "sorted") (rSortA K) := by
  subst hK
  intro pins s σ H vs us Q I r h
  rcases h with h | h
  · exact ZB.cr_sortX pins s σ H vs us Q I r h
  · exact cr_sortG hr pins s σ H vs us Q I r h
theorem RpAll.zipm {K : KK} {G : Hp} {ws : List V} {ds : List PyData} (h : RpAll K G ws ds) : ∀ b ∈ ds.zip ws, Rp K G b.2 b.1 := by
  induction ws generalizing ds with
  | nil => cases h; simp
  | cons w ws ih =>
    cases h with
    | cons r t =>
      intro b hb
      rw [List.zip_cons_cons] at hb
      rcases List.mem_cons.mp hb with rfl | hb
      · exact r
      · exact ih t b hb
theorem RpAll.of_pairs {K : KK} {G : Hp} : ∀ {bs : List (PyData × V)}, (∀ b ∈ bs, Rp K G b.2 b.1) → RpAll K G (bs.map Prod.snd) (bs.map Prod.fst)
  | [], _ => .nil
  | b :: bs, h => .cons (h b (by simp)) (RpAll.of_pairs fun c hc => h c (List.mem_cons_of_mem _ hc))
theorem vSortA {K : KK} : VL K (rSortA K) dSortXL := fun G H vs xs z e rs q Q k => by
  unfold dSortXL at q
  split at q
  · rename_i x
    split at q
    · rename_i z' hz
      cases q
      exact .inl (vSortedL G H vs [x] _ e rs hz Q k)
    · split at q
      · rename_i ds _
        unfold dSortG at q
        split at q
        · rename_i hc
          obtain ⟨h1, h2, h3⟩ := hc
          cases q
          cases rs with
          | cons r t =>
            cases t
            obtain ⟨a, ws, rfl, hs, hp⟩ := r.lst e
            have hal : AllAlike ds := fun d hd d' hd' => List.all_eq_true.mp (List.all_eq_true.mp h2 d hd) d' hd'
            have hso : Sortable ds := by
              rcases h3 with h3 | h3
              · refine .inl fun d hd => ?_
                have := List.all_eq_true.mp h3 d hd
                unfold isTupN at this
                split at this
                · exact ⟨_, _, rfl⟩
                · cases this
              · refine .inr fun d hd => ?_
                have := List.all_eq_true.mp h3 d hd
                constructor
                · rintro rfl; cases this
                · rintro xs rfl; cases this
            refine .inr ⟨a, ws, ds, rfl, .inl (.inl hs), hp.mono e, fun d hd => List.all_eq_true.mp h1 d hd, hal, hso, fun p hn => ?_⟩
            have hlen : ds.length = ws.length := hp.length.symm
            have hfst : (ds.zip ws).map Prod.fst = ds := zip_fst ds ws hlen
            have hm : ((ds.zip ws).mergeSort (dataLe false Prod.fst)).map Prod.fst = sortD ds := by
              have := PySem.W.sort_maps (r := dataLe false (Prod.fst : PyData × V → PyData)) (s := dataLe false id) (Prod.fst : PyData × V → PyData) (l := ds.zip ws) (fun _ _ _ _ => rfl)
              rw [this, hfst]; rfl
            refine k p _ _ G (PX.side e hn) hn (e.free hn) upd_same ?_
            rw [← hm]
            exact RpAll.of_pairs fun b hb => hp.zipm b ((List.mergeSort_perm _ _).mem_iff.mp hb)
        · cases q
      · cases q
  · cases q
theorem sortD_len (ds : List PyData) : (sortD ds).length = ds.length := List.length_mergeSort _
end DL

set_option Elab.async false
set_option linter.all false
set_option maxRecDepth 100000
set_option maxHeartbeats 4000000
/-! DL, part 25: repr of a list display, whose items are looked at alone. -/
namespace DL
open PySem PySem.Spec PyProof.Rows L2
theorem RVs.rp {K : KK} {G H : Hp} (e : Ex G H) : ∀ {vs : List V} {xs : List PyData}, RVs K G H vs xs → RpAll K H vs xs
  | _, _, .nil => .nil
  | _, _, .cons h t => .cons (h.rp e) (RVs.rp e t)
/-- repr([..]) -/
def sReprL (f : AS) : ES := fun S => (f S).bind fun p => (getAll p.2 p.1).bind fun xs => if xs.length ≤ 100000 then (dRepr [.list xs]).map fun z => (.dat z, p.2) else none
theorem sem_reprL {K : KK} {tA : TA} {fs : AS} (ha : SemA K tA fs) : SemE K (tCB (rRepr K) (tCons (tLst tA) tNil)) (sReprL fs) := by
  intro F S σ H G o S' r ef Q k
  obtain ⟨⟨os, S1⟩, e1, ef⟩ := Option.bind_eq_some_iff.mp ef
  obtain ⟨xs, e3, ef⟩ := Option.bind_eq_some_iff.mp ef
  split at ef
  · rename_i hl
    obtain ⟨z, e5, ef⟩ := Option.map_eq_some_iff.mp ef
    cases ef
    have e5 : (if reprOk (.list xs) = true then some (PyData.str (PyData.shown (.list xs))) else none) = some z := e5
    split at e5
    · rename_i ok
      cases e5
      refine ha F S σ H G os _ r e1 _ fun vs H1 G1 r1 g1 h1 => ?_
      have rp := (ops_get r1 h1 e3).rp r1.gh
      refine ⟨by rw [rp.length]; exact sz hl, fun p hp => ?_⟩
      exact ⟨.ref p, .list xs, rfl, .lst upd_same (rp.mono (.new hp)), ok, k (.str _) _ G1 (r1.ext (PX.side r1.gh hp)) g1 (.str _)⟩
    · cases e5
  · cases ef
section
variable {X : Cx} {K : KK} {es : List Expr} {pos p p2 : Pos} {tA : TA} {fs : AS}
theorem se_reprL (hK : Ckk X = K) (hgd : X.A.guards = some []) {k : Nat} (hr : Room k X.A) (hm : X.mg "repr" = none) (ha : SA X K es tA fs) (hg : Gl X "repr" := by rfl)
    (hs : starEach [.List es p2] X.env = [(false, eval (.List es p2) X.env)] := by rfl) : SE X K (.Call (.Name "repr" p) [.List es p2] [] pos) (tCB (rRepr K) (tCons (tLst tA) tNil)) (sReprL fs) :=
  ⟨pe_callB (crRepr hK hgd hr) hg hm bt_repr (pa_cons (pe_lst ha.p) pa_nil hs) (by decide) (by decide) hs (by rfl), sem_reprL ha.ok⟩
end
end DL

set_option Elab.async false
set_option linter.all false
set_option maxRecDepth 100000
set_option maxHeartbeats 4000000
/-! DL, part 26: names for the items of a list. -/
namespace DL
open PySem PySem.Spec PyProof.Rows L2
def gSeq (K : PySem.W.Frag) (n : Nat) (t : TGs) : TG := fun v σ H Q => gTup K n t v σ H Q ∨ gLst K n t v σ H Q
def gsSeq (n : Nat) (gs : List PyData → List SD → Option (List SD)) : GS := fun x S => (dItems x).bind fun xs => if xs.length = n then gs xs S else none
theorem sem_gseq {K : KK} {u : TGs} {ix : List Nat} {n : Nat} {gs : List PyData → List SD → Option (List SD)} (h2 : SemGs K u ix gs) : SemG K (gSeq K n u) ix (gsSeq n gs) := fun F S σ H G v x S' r h e Q k => by
  obtain ⟨xs, e1, e2⟩ := Option.bind_eq_some_iff.mp e
  split at e2
  · rename_i hn
    rcases dItems_some e1 with rfl | rfl
    · cases h with
      | lst h1 h3 => exact .inr ⟨_, _, rfl, .inl (.inl (r.gh _ _ h1)), by rw [h3.length]; exact hn, h2 F S σ H G _ _ S' r h3 e2 Q k⟩
    · cases h with
      | tup ht ha => exact .inl ⟨_, _, rfl, r.gh.st ht, by rw [ha.length]; exact hn, h2 F S σ H G _ _ S' r ha e2 Q k⟩
  · cases e2
section
variable {X : Cx} {K : KK} {es : List Expr} {pos : Pos} {u : TGs} {ix : List Nat} {gs : List PyData → List SD → Option (List SD)}
theorem sg_seq {k n : Nat} (hK : Ckk X = K) (hc : X.calm = true) (h : SGs X K es u ix gs) (hn : (assignEach es X.env).length = n := by rfl) (hst : (assignEach es X.env).findIdx? (·.1) = none := by rfl) : SG X K (.Tuple es k pos) (gSeq K n u) ix (gsSeq n gs) := by
  subst hK
  exact ⟨⟨fun pins s σ H v w Q I r hw => hw.elim (fun hw => (pg_tup hc h.p hn hst).run pins s σ H v w Q I r hw) fun hw => (pg_lst hc h.p hn hst).run pins s σ H v w Q I r hw⟩, sem_gseq h.ok⟩
end
end DL

set_option Elab.async false
set_option linter.all false
set_option maxRecDepth 100000
set_option maxHeartbeats 4000000
/-! DL, part 27: d.get(k, v) of dicts with tuple keys; l.count(x) of a list of ints; constants of the module that are tuples. -/
namespace DL
open PySem PySem.Spec PyProof.Rows L2
/-! ### d.get(k, v) -/
theorem x_get2 {X : Cx} {pins : List (Addr × Obj)} {σ : L2.St} {H : Hp} {s : Shared} {a b : Addr} {kvs : XL} {k : List Key} {d : V} {r : Value} {A : Around} {E : Value → Shared → Prop} {Q : Value → Shared → Prop} (hu : A.units + 1 < cLine) (I : Inv X pins σ H s) (e : H a = some (DX X.prog X.w a kvs)) (hk : XKs X.K H kvs) (hb : SqT X.K H b (k.map kV)) (rd : RelV d r)
    (h : ∀ w' s', Inv X pins σ H s' → RelV ((valX kvs k).getD d) w' → Q w' s') : wpAny (model X.prog X.w) A (call (.builtin "dict.get") [.ref a, .ref b, r]) Q E s := by
  obtain ⟨z, hd, xs, rel, dd⟩ := dx_of I e hk
  refine call_meetsIn PySem.F.slot_dict_get dd.typeIs PySem.F.entry_dict_get (PySem.F.args_dict_get_3 _ _ _) (meetsH_dict_get_default (tupleKind (mixKind X.prog X.w)) a b hd r) ⟨tupleKind_room_in1 hu, k, xs, key_ofS I hb, dd, h _ _ (I.tok _) ?_⟩
  exact RelO.getD (rel.val k) rd
def tXGet2 (κ : KK) (td ty tx : TE) : TE := fun σ H Q => td σ H fun x H1 => ∃ a kvs, x = .ref a ∧ H1 a = some (DX κ.P κ.w a kvs) ∧ XKs κ H1 kvs ∧ ty σ H1 fun y H2 => tx σ H2 fun z H3 => ∃ o, XGet κ H3 a y o ∧ Q (o.getD z) H3
theorem pe_xget2 {X : Cx} {o e f : Expr} {apos cpos : Pos} {td ty tx : TE} (hu : X.A.units + 1 < cLine) (ho : PE X o td) (he : PE X e ty) (hf : PE X f tx) (m : M2 X o "get" apos e f cpos) : PE X (.Call (.Attribute o "get" apos) [e, f] [] cpos) (tXGet2 (Ckk X) td ty tx) := by
  refine ⟨fun pins s σ H Q I h => ?_⟩
  refine wpAny_Call_method m.base m.few m.line PySem.F.plainAttrs_dict PySem.F.slot_dict_get PySem.F.type_dict_get (thn (ho.run pins s σ H _ I h) fun u s1 ⟨x, H1, I1, rx, a, kvs, ex, d, dk, q1⟩ => ?_)
  subst ex
  obtain rfl : u = Value.ref a := rx
  obtain ⟨_, hd, xs, _, dd⟩ := dx_of I1 d dk
  refine ⟨dd.typeIs, fun b q => ?_, ?_⟩
  · cases q
    obtain ⟨ob, _, _, h1, h2, _⟩ := dd
    exact ⟨ob, h1, h2.2.1⟩
  rw [m.trees]
  refine Calls.callWith_builtin rfl (Calls.evalArgs_plain (Calls.spliced_cons (thn (he.run pins s1 σ H1 _ I1 q1) fun iv s2 ⟨y, H2, I2, ry, q2⟩ =>
    Calls.spliced_cons (thn (hf.run pins s2 σ H2 _ I2 q2) fun fv s3 ⟨z, H3, I3, rz, ov, g, q3⟩ => Calls.spliced_nil ?_))))
  obtain ⟨kvs', k, b, g1, g2, rfl, g4, g5⟩ := g
  obtain rfl : iv = Value.ref b := ry
  subst g5
  exact x_get2 hu I3 g1 g2 g4 rz fun w' s4 I4 rw' => ⟨_, H3, I4, rw', q3⟩
/-- d.get(k, v), the value standing still -/
def sXGet2 (i : Nat) (fy : ES) (fd : DS) : ES := fun S => if isDctS (S[i]?) = true then (fy S).bind fun p => (fd p.2).bind fun q => (p.1.get q.2).bind fun y => (keyOf y).bind fun k => (atDct (fun kvs => some ((mGet kvs k).getD q.1)) (q.2[i]?)).map fun d => (.dat d, q.2) else none
theorem sem_xget2 {K : KK} {ty tx : TE} {fy : ES} {fd : DS} {i : Nat} (h : SemE K ty fy) (hd : SemD K tx fd) : SemE K (tXGet2 K (tVar i) ty tx) (sXGet2 i fy fd) := fun F S σ H G o S' r ef Q k => by
  have ef : (if isDctS (S[i]?) = true then (fy S).bind fun p => (fd p.2).bind fun q => (p.1.get q.2).bind fun y => (keyOf y).bind fun k => (atDct (fun kvs => some ((mGet kvs k).getD q.1)) (q.2[i]?)).map fun d => (Op.dat d, q.2) else none) = some (o, S') := ef
  split at ef
  case isFalse => cases ef
  rename_i hdd
  obtain ⟨b0, kv0, e0⟩ := isDctS_some hdd
  obtain ⟨a, xl0, q1, q2, q3, q4⟩ := r.ownX e0
  obtain ⟨⟨o1, S1⟩, e1, ef⟩ := Option.bind_eq_some_iff.mp ef
  obtain ⟨⟨dz, S2⟩, e12, ef⟩ := Option.bind_eq_some_iff.mp ef
  obtain ⟨y, e2, ef⟩ := Option.bind_eq_some_iff.mp ef
  obtain ⟨ks, e3, ef⟩ := Option.bind_eq_some_iff.mp ef
  obtain ⟨d, e4, e5⟩ := Option.map_eq_some_iff.mp ef
  cases e5
  obtain ⟨b1, kvs, e6, e7⟩ := atDct_some e4
  refine ⟨_, q1, a, xl0, rfl, q3, q4.keys r.gh, h F S σ H G o1 S1 r e1 _ fun w H1 G1 r1 g1 h1 => ?_⟩
  refine hd F S1 σ H1 G1 dz _ r1 e12 _ fun zv H2 G2 r2 g2 h2 => ?_
  have hy := op_get r2 (h1.mono g2) e2
  rw [keyOf_some e3] at hy
  obtain ⟨b, rfl, hb⟩ := hy.keyT
  obtain ⟨a', xl, p1, p2, p3, p4⟩ := r2.ownX e6
  rw [q1] at p1; cases p1
  cases e7
  refine ⟨valX xl ks, ⟨xl, ks, b, p3, p4.keys r2.gh, rfl, r2.gh.st hb, rfl⟩, ?_⟩
  rcases p4.get ks with ⟨z1, z2⟩ | ⟨v, d', z1, z2, z3⟩
  · rw [z1]
    refine k zv H2 G2 r2 (g1.trans g2) ?_
    show Rp K G2 zv ((mGet kvs ks).getD dz)
    rw [z2]; exact h2
  · rw [z1]
    refine k v H2 G2 r2 (g1.trans g2) ?_
    show Rp K G2 v ((mGet kvs ks).getD dz)
    rw [z2]; exact z3
/-! ### l.count(x) -/
def dCount (x y : PyData) : Option PyData := match x, y with
  | .list xs, .int k => (dInts xs).map fun ns => .int (ns.count k : Nat)
  | _, _ => none
def sCount (fo fa : ES) : ES := fun S => (fo S).bind fun p => (p.1.get p.2).bind fun l => if isList l = true then (fa p.2).bind fun q => (p.1.get q.2).bind fun x => (q.1.get q.2).bind fun y => (dCount x y).map fun z => (.dat z, q.2) else none
theorem sem_count {K : KK} {to ta : TE} {fo fa : ES} (h1 : SemE K to fo) (h2 : SemE K ta fa) : SemE K (tBM K "list" (rCntI K) to (tCons ta tNil)) (sCount fo fa) := fun F S σ H G o S' r ef Q k => by
  obtain ⟨⟨o1, S1⟩, e1, ef⟩ := Option.bind_eq_some_iff.mp ef
  obtain ⟨l, e2, ef⟩ := Option.bind_eq_some_iff.mp ef
  have ef : (if isList l = true then (fa S1).bind fun q => (o1.get q.2).bind fun x => (q.1.get q.2).bind fun y => (dCount x y).map fun z => (Op.dat z, q.2) else none) = some (o, S') := ef
  split at ef
  · rename_i hl
    obtain ⟨xs, rfl⟩ := isList_some hl
    obtain ⟨⟨o2, S2⟩, e3, ef⟩ := Option.bind_eq_some_iff.mp ef
    obtain ⟨x, e4, ef⟩ := Option.bind_eq_some_iff.mp ef
    obtain ⟨y, e5, ef⟩ := Option.bind_eq_some_iff.mp ef
    obtain ⟨z, e6, ef⟩ := Option.map_eq_some_iff.mp ef
    cases ef
    refine h1 F S σ H G o1 S1 r e1 _ fun v H1 G1 r1 g1 q1 => ?_
    obtain ⟨a, vs, rfl, p1, p2⟩ := (op_get r1 q1 e2).lst r1.gh
    refine ⟨.inl ⟨rfl, vs, .inl (.inl p1)⟩, ?_⟩
    refine h2 F S1 σ H1 G1 o2 _ r1 e3 _ fun w H2 G2 r2 g2 q2 => ?_
    show rCntI K _ [w] H2 Q
    have hx := op_get r2 (q1.mono g2) e4
    have hy := op_get r2 q2 e5
    cases x with
    | list ys =>
      cases y with
      | int n =>
        obtain ⟨ns, e7, e8⟩ := Option.map_eq_some_iff.mp (show (dInts ys).map (fun ns => PyData.int (ns.count n : Nat)) = some z from e6)
        cases e8
        have hys := dInts_some e7
        subst hys
        obtain ⟨a', vs', e9, p3, p4⟩ := hx.lst r2.gh
        cases e9
        have hv := p4.ints
        subst hv
        rw [hy.int]
        exact ⟨a, ns, n, rfl, rfl, .inl (.inl p3), k _ H2 G2 r2 (g1.trans g2) (.int _)⟩
      | _ => cases e6
    | _ => cases e6
  · cases ef
section
variable {X : Cx} {K : KK} {o e f : Expr} {apos cpos : Pos} {to ta td ty tx : TE} {fo fa fy : ES} {fd : DS} {i : Nat}
theorem se_count (hK : Ckk X = K) (ho : SE X K o to fo) (ha : SE X K e ta fa) (hbase : attributeBase o "count" X.env (eval o X.env) = eval o X.env := by rfl)
    (hfew : ((backTo cpos (starEach [e] X.env)).all (fun x => !x.1) && (backToKw cpos (keywordEach [] X.env)).all (fun x => x.1.isSome)
      && decide ([e].length + ([] : List Keyword).length + (if ([] : List Keyword).isEmpty then 0 else 1) < 30)) = true := by rfl)
    (hline : (apos.endLine == cpos.line) = true := by rfl) (hs : starEach [e] X.env = (false, eval e X.env) :: starEach [] X.env := by rfl) (hplain : (backTo cpos (starEach [] X.env)).any (·.1) = false := by rfl) :
    SE X K (.Call (.Attribute o "count" apos) [e] [] cpos) (tBM K "list" (rCntI K) to (tCons ta tNil)) (sCount fo fa) := by
  subst hK
  exact ⟨pe_bm PySem.F.plainAttrs_list PySem.F.slot_list_count PySem.F.type_list_count mt_lcount ho.p (pa_cons ha.p pa_nil hs) hbase hfew hline hs hplain, sem_count ho.ok ha.ok⟩
theorem se_xget2 (hK : Ckk X = K) {k : Nat} (hr : Room k X.A) (ho : SE X K o (tVar i) (sVar i)) (hy : SE X K e ty fy) (hd : SDt X K f tx fd) (m : M2 X o "get" apos e f cpos) : SE X K (.Call (.Attribute o "get" apos) [e, f] [] cpos) (tXGet2 K (tVar i) ty tx) (sXGet2 i fy fd) := by
  subst hK
  exact ⟨pe_xget2 (by have := hr.un; omega) ho.p hy.p hd.p m, sem_xget2 hy.ok hd.ok⟩
end
/-! ### constants of the module that are tuples -/
mutual
inductive CV (K : PySem.W.Frag) : Value → PyData → Prop
  | int (i : Int) (t : Tok) : CV K (.int i t) (.int i)
  | str (x : Str) (t : Tok) : CV K (.str x t) (.str x)
  | tup {a : Addr} {od : Option Addr} {its : Array Value} {n : Nat} {sl : Array (Option Value)} {ds : List PyData} : K.lookup a = some ⟨.type "tuple", od, .seq its n, sl⟩ → its.size ≤ 1000 → CVs K its.toList ds → CV K (.ref a) (.tuple ds)
inductive CVs (K : PySem.W.Frag) : List Value → List PyData → Prop
  | nil : CVs K [] []
  | cons {u : Value} {us : List Value} {d : PyData} {ds : List PyData} : CV K u d → CVs K us ds → CVs K (u :: us) (d :: ds)
end
mutual
theorem CV.rp {P : Program} {w : World} {K : PySem.W.Frag} : ∀ {u : Value} {d : PyData}, CV K u d → ∃ v, RelV v u ∧ ∀ G, Rp ⟨K, P, w⟩ G v d
  | _, _, .int i t => ⟨.int i, ⟨t, rfl⟩, fun _ => .int i⟩
  | _, _, .str x t => ⟨.str x, ⟨t, rfl⟩, fun _ => .str x⟩
  | _, _, .tup h1 h2 h3 => by
    obtain ⟨vs, r, q⟩ := CVs.rp (P := P) (w := w) h3
    exact ⟨.ref _, rfl, fun G => .tup (.inr ⟨_, _, _, h1, rfl, rfl, sz (by omega), r⟩) (q G)⟩
theorem CVs.rp {P : Program} {w : World} {K : PySem.W.Frag} : ∀ {us : List Value} {ds : List PyData}, CVs K us ds → ∃ vs, Vals vs us ∧ ∀ G, RpAll ⟨K, P, w⟩ G vs ds
  | _, _, .nil => ⟨[], .nil, fun _ => .nil⟩
  | _, _, .cons h t => by
    obtain ⟨v, r1, q1⟩ := CV.rp (P := P) (w := w) h
    obtain ⟨vs, r2, q2⟩ := CVs.rp (P := P) (w := w) t
    exact ⟨v :: vs, .cons r1 r2, fun G => .cons (q1 G) (q2 G)⟩
end
theorem gk_tup {P : Program} {w : World} {K : PySem.W.Frag} {mg : Str → Option Value} {x : Str} {a : Addr} {d : PyData} (hm : mg x = some (.ref a)) (h : CV K (.ref a) d) : GK ⟨K, P, w⟩ mg x (.ref a) d := by
  obtain ⟨v, r, q⟩ := h.rp (P := P) (w := w)
  have e : v = .ref a := by
    cases v with
    | ref b => cases r; rfl
    | non => cases r
    | bl b => cases r
    | ty n => cases r
    | int i => obtain ⟨_, r⟩ := r; cases r
    | str i => obtain ⟨_, r⟩ := r; cases r
    | byt i => obtain ⟨_, r⟩ := r; cases r
    | flt i => obtain ⟨_, r⟩ := r; cases r
  subst e
  exact ⟨⟨_, hm, rfl⟩, q⟩
/-! ### a if t else b, as a test -/
def tIfT (t ta tb : TT) : TT := fun σ H Q => t σ H fun c H1 => if c = true then ta σ H1 Q else tb σ H1 Q
theorem pt_ifExp {X : Cx} {c a b : Expr} {pos : Pos} {t ta tb : TT} (hc : PT X c t) (ha : PT X a ta) (hb : PT X b tb) : PT X (.IfExp c a b pos) (tIfT t ta tb) := by
  refine ⟨fun pins s σ H Q I h => ?_⟩
  refine PyProof.Rows.isTrue_IfExp (thn (hc.run pins s σ H _ I h) fun d s1 ⟨H1, I1, q1⟩ => ?_)
  cases d with
  | true => exact ha.run pins s1 σ H1 Q I1 q1
  | false => exact hb.run pins s1 σ H1 Q I1 q1
theorem sem_ifT {K : KK} {t ta tb : TT} {f fa fb : BS} (hc : SemB K t f) (ha : SemB K ta fa) (hb : SemB K tb fb) : SemB K (tIfT t ta tb) (sIf f fa fb) := by
  intro F S σ H G o S' r ef Q k
  obtain ⟨⟨c, S1⟩, e1, ef⟩ := Option.bind_eq_some_iff.mp ef
  refine hc F S σ H G c S1 r e1 _ fun H1 G1 r1 g1 => ?_
  cases c with
  | true => exact ha F S1 σ H1 G1 o S' r1 ef Q fun H2 G2 r2 g2 => k H2 G2 r2 (g1.trans g2)
  | false => exact hb F S1 σ H1 G1 o S' r1 ef Q fun H2 G2 r2 g2 => k H2 G2 r2 (g1.trans g2)
theorem st_if {X : Cx} {K : KK} {c a b : Expr} {pos : Pos} {t ta tb : TT} {f fa fb : BS} (hc : ST X K c t f) (ha : ST X K a ta fa) (hb : ST X K b tb fb) : ST X K (.IfExp c a b pos) (tIfT t ta tb) (sIf f fa fb) := ⟨pt_ifExp hc.p ha.p hb.p, sem_ifT hc.ok ha.ok hb.ok⟩
end DL

set_option Elab.async false
set_option linter.all false
set_option maxRecDepth 100000
set_option maxHeartbeats 4000000
/-! DM, part 1: the mirrors, evaluated step by step (for simp). -/
namespace DL
open PySem PySem.Spec PyProof.Rows L2

@[simp] theorem e_sVar (i : Nat) (S : List SD) : sVar i S = (if sdTold (S[i]?) = true then some (.slot i, S) else none) := rfl
@[simp] theorem e_sC (x : PyData) (S : List SD) : sC x S = (some (.dat x, S)) := rfl
@[simp] theorem e_sTake (f : ES) (S : List SD) : sTake f S = ((f S).bind fun p => takeO p.2 p.1) := rfl
@[simp] theorem e_sDat (f : DS) (S : List SD) : sDat f S = ((f S).map fun p => (.dat p.1, p.2)) := rfl
@[simp] theorem e_sKeep (f : LS) (S : List SD) : sKeep f S = ((f S).map fun p => (.dat (.list p.1), p.2)) := rfl
@[simp] theorem e_sNil (S : List SD) : sNil  S = (some ([], S)) := rfl
@[simp] theorem e_sCons (f : ES) (g : AS) (S : List SD) : sCons f g S = ((f S).bind fun p => (g p.2).map fun q => (p.1 :: q.1, q.2)) := rfl
@[simp] theorem e_sBin (g : PyData → PyData → Option PyData) (f f' : ES) (S : List SD) : sBin g f f' S = ((f S).bind fun p => (f' p.2).bind fun q => (p.1.get q.2).bind fun x => (q.1.get q.2).bind fun y => (g x y).map fun z => (.dat z, q.2)) := rfl
@[simp] theorem e_sBinL (g : PyData → PyData → Option (List PyData)) (f f' : ES) (S : List SD) : sBinL g f f' S = ((f S).bind fun p => (f' p.2).bind fun q => (p.1.get q.2).bind fun x => (q.1.get q.2).bind fun y => (g x y).map fun z => (z, q.2)) := rfl
@[simp] theorem e_sTest (f : ES) (S : List SD) : sTest f S = ((f S).bind fun p => (p.1.get p.2).bind fun x => (dBool x).map fun b => (b, p.2)) := rfl
@[simp] theorem e_sAnd (f g : BS) (S : List SD) : sAnd f g S = ((f S).bind fun p => if p.1 = true then g p.2 else some (false, p.2)) := rfl
@[simp] theorem e_sOr (f g : BS) (S : List SD) : sOr f g S = ((f S).bind fun p => if p.1 = true then some (true, p.2) else g p.2) := rfl
@[simp] theorem e_sNot (f : BS) (S : List SD) : sNot f S = ((f S).map fun p => (!p.1, p.2)) := rfl
@[simp] theorem e_sAndV (f g : ES) (S : List SD) : sAndV f g S = ((f S).bind fun p => (p.1.get p.2).bind fun x => (dBool x).bind fun c => if c = true then g p.2 else some (.dat (.bool false), p.2)) := rfl
@[simp] theorem e_sOrV (f g : ES) (S : List SD) : sOrV f g S = ((f S).bind fun p => (p.1.get p.2).bind fun x => (dBool x).bind fun c => if c = true then some (.dat (.bool true), p.2) else g p.2) := rfl
@[simp] theorem e_sNotV (f : ES) (S : List SD) : sNotV f S = ((f S).bind fun p => (p.1.get p.2).bind fun x => (dBool x).map fun c => (.dat (.bool (!c)), p.2)) := rfl
@[simp] theorem e_sIf {α : Type} (t : BS) (f g : List SD → Option α) (S : List SD) : sIf t f g S = ((t S).bind fun p => if p.1 = true then f p.2 else g p.2) := rfl
@[simp] theorem e_sUn (g : PyData → Option PyData) (f : ES) (S : List SD) : sUn g f S = ((f S).bind fun p => (p.1.get p.2).bind fun x => (g x).map fun z => (.dat z, p.2)) := rfl
@[simp] theorem e_sTup (f : AS) (S : List SD) : sTup f S = ((f S).bind fun p => (takeAll p.2 p.1).bind fun q => if q.1.length ≤ 100000 then some (.dat (.tuple q.1), q.2) else none) := rfl
@[simp] theorem e_sLst (f : AS) (S : List SD) : sLst f S = ((f S).bind fun p => (takeAll p.2 p.1).bind fun q => if q.1.length ≤ 100000 then some (q.1, q.2) else none) := rfl
@[simp] theorem e_sCB (g : List PyData → Option PyData) (f : AS) (S : List SD) : sCB g f S = ((f S).bind fun p => (getAll p.2 p.1).bind fun xs => (g xs).map fun z => (.dat z, p.2)) := rfl
@[simp] theorem e_sCBL (g : List PyData → Option (List PyData)) (f : AS) (S : List SD) : sCBL g f S = ((f S).bind fun p => (getAll p.2 p.1).bind fun xs => (g xs).map fun z => (z, p.2)) := rfl
@[simp] theorem e_sNext (S : List SD) : sNext  S = (some (.nx S)) := rfl
@[simp] theorem e_sBreak (S : List SD) : sBreak  S = (some (.bk S)) := rfl
@[simp] theorem e_sCont (S : List SD) : sCont  S = (some (.ct S)) := rfl
@[simp] theorem e_sNever (S : List SD) : sNever  S = (none) := rfl
@[simp] theorem e_sDrop (fe : ES) (S : List SD) : sDrop fe S = ((fe S).map fun p => .nx p.2) := rfl
@[simp] theorem e_sRet (fd : DS) (S : List SD) : sRet fd S = ((fd S).map fun p => .rt (.d p.1) p.2) := rfl
@[simp] theorem e_sRetL (fl : LS) (S : List SD) : sRetL fl S = ((fl S).map fun p => .rt (.own false p.1) p.2) := rfl
@[simp] theorem e_sRetV (i : Nat) (S : List SD) : sRetV i S = (retS S i (S[i]?)) := rfl
@[simp] theorem e_sRetN (S : List SD) : sRetN  S = (some (.rt (.d .none) S)) := rfl
@[simp] theorem e_sAsg (fd : DS) (gs : GS) (S : List SD) : sAsg fd gs S = ((fd S).bind fun p => (gs p.1 p.2).map fun S1 => .nx S1) := rfl
@[simp] theorem e_sAsgL (fl : LS) (i : Nat) (S : List SD) : sAsgL fl i S = ((fl S).map fun p => .nx (p.2.set i (.own false p.1))) := rfl
@[simp] theorem e_sFor (fi : LS) (gs : GS) (fb : SSem) (S : List SD) : sFor fi gs fb S = ((fi S).bind fun p => forGo gs fb p.1 p.2) := rfl
@[simp] theorem e_sWhile (n : Nat) (ft : BS) (fb : SSem) (S : List SD) : sWhile n ft fb S = (whileGo ft fb n S) := rfl
@[simp] theorem e_sYes (S : List SD) : sYes  S = (some (true, S)) := rfl
@[simp] theorem e_sLC (vs : List Nat) (fi : LS) (gs : GS) (fc : BS) (fd : DS) (S : List SD) : sLC vs fi gs fc fd S = ((fi S).bind fun p => if p.1.length < 100000 then lcGo vs gs fc fd p.1 p.2 else none) := rfl
@[simp] theorem e_sApp (n k : Nat) (f g : AS) (S : List SD) : sApp n k f g S = ((f S).bind fun p => (g p.2).bind fun q => if p.1.length = n ∧ q.1.length = k then some (p.1 ++ q.1, q.2) else none) := rfl
@[simp] theorem e_sCallR (n : Nat) (m : Fn) (fs : AS) (S : List SD) : sCallR n m fs S = ((fs S).bind fun p => (opSDs p.2 p.1).bind fun Dl => if p.1.length = n ∧ (ownIx p.2 p.1).Nodup then (m Dl).map fun q => (q.1, wbGo p.1 q.2 0 p.2) else none) := rfl
@[simp] theorem e_sPerm (pm : List Nat) (f : AS) (S : List SD) : sPerm pm f S = ((f S).map fun p => (perm pm p.1, p.2)) := rfl
@[simp] theorem e_sCall (n : Nat) (m : Fn) (fs : AS) (S : List SD) : sCall n m fs S = ((sCallR n m fs S).bind fun p => (resD p.1).map fun x => (.dat x, p.2)) := rfl
@[simp] theorem e_sCallL (n : Nat) (m : Fn) (fs : AS) (S : List SD) : sCallL n m fs S = ((sCallR n m fs S).bind fun p => (resL p.1).map fun x => (x, p.2)) := rfl
@[simp] theorem e_sIsi (T : Tg) (fe : ES) (S : List SD) : sIsi T fe S = ((fe S).bind fun p => (p.1.get p.2).bind fun x => (isTy T x).map fun b => (.dat (.bool b), p.2)) := rfl
@[simp] theorem e_sIsi2 (T U : Tg) (fe : ES) (S : List SD) : sIsi2 T U fe S = ((fe S).bind fun p => (p.1.get p.2).bind fun x => (isTy T x).bind fun b => (isTy U x).map fun c => (.dat (.bool (b || c)), p.2)) := rfl
@[simp] theorem e_sSeqI (fd : DS) (S : List SD) : sSeqI fd S = ((fd S).bind fun p => (dItems p.1).map fun xs => (xs, p.2)) := rfl
@[simp] theorem e_sTakeA (f : AS) (S : List SD) : sTakeA f S = ((f S).bind fun p => takeAll p.2 p.1) := rfl
@[simp] theorem e_sArgI (g : List PyData → Option (List PyData)) (f : AS) (S : List SD) : sArgI g f S = ((sTakeA f S).bind fun p => (g p.1).map fun xs => (xs, p.2)) := rfl
@[simp] theorem e_sNoPart (S : List SD) : sNoPart  S = (some (none, S)) := rfl
@[simp] theorem e_sPart (f : ES) (S : List SD) : sPart f S = ((f S).bind fun p => (p.1.get p.2).bind fun x => (dIntO x).map fun i => (some i, p.2)) := rfl
@[simp] theorem e_sSlice (fe : ES) (fl fh : OS) (S : List SD) : sSlice fe fl fh S = ((fe S).bind fun p => (fl p.2).bind fun q => (fh q.2).bind fun r => (p.1.get r.2).bind fun x => (dCut x q.1 r.1).map fun z => (.dat z, r.2)) := rfl
@[simp] theorem e_sSliceL (fe : ES) (fl fh : OS) (S : List SD) : sSliceL fe fl fh S = ((fe S).bind fun p => (fl p.2).bind fun q => (fh q.2).bind fun r => (p.1.get r.2).bind fun x => (dCutL x q.1 r.1).map fun z => (z, r.2)) := rfl
@[simp] theorem e_vD (fd : DS) (S : List SD) : vD fd S = ((fd S).map fun p => (.d p.1, p.2)) := rfl
@[simp] theorem e_vL (fl : LS) (S : List SD) : vL fl S = ((fl S).map fun p => (.own false p.1, p.2)) := rfl
@[simp] theorem e_sSetV (fv : VS) (i : Nat) (S : List SD) : sSetV fv i S = ((fv S).map fun p => .nx (p.2.set i p.1)) := rfl
@[simp] theorem e_sRetVS (fv : VS) (S : List SD) : sRetVS fv S = ((fv S).map fun p => .rt p.1 p.2) := rfl
@[simp] theorem e_sPar (i j : Nat) (fv fw : VS) (S : List SD) : sPar i j fv fw S = ((fv S).bind fun p => (asideV p.1 fw p.2).map fun q => .nx ((q.2.set i p.1).set j q.1)) := rfl
@[simp] theorem e_sPar3 (i j l : Nat) (fs : AS) (S : List SD) : sPar3 i j l fs S = ((sTakeA fs S).bind fun p => set3 i j l p.2 p.1) := rfl
@[simp] theorem e_sIndex (fo fa : ES) (S : List SD) : sIndex fo fa S = ((fo S).bind fun p => (p.1.get p.2).bind fun l => if isList l = true then (fa p.2).bind fun q => (p.1.get q.2).bind fun x => (q.1.get q.2).bind fun y => (dIndex x y).map fun z => (.dat z, q.2) else none) := rfl
@[simp] theorem e_sRg1 (fe : ES) (S : List SD) : sRg1 fe S = ((fe S).bind fun p => (p.1.get p.2).bind fun x => (dIntO x).map fun n => ((0, n), p.2)) := rfl
@[simp] theorem e_sRg2 (fe fa : ES) (S : List SD) : sRg2 fe fa S = ((fe S).bind fun p => (fa p.2).bind fun q => (p.1.get q.2).bind fun x => (q.1.get q.2).bind fun y => (dIntO x).bind fun n => (dIntO y).map fun m => ((n, m), q.2)) := rfl
@[simp] theorem e_sLstRg (f : RS) (S : List SD) : sLstRg f S = ((f S).bind fun p => if rgB p.1.1 p.1.2 = true then some (rngD p.1.1 (p.1.2 - p.1.1).toNat, p.2) else none) := rfl
@[simp] theorem e_sTupRg (f : RS) (S : List SD) : sTupRg f S = ((f S).bind fun p => if rgB p.1.1 p.1.2 = true then some (.dat (.tuple (rngD p.1.1 (p.1.2 - p.1.1).toNat)), p.2) else none) := rfl
@[simp] theorem e_sDict0 (S : List SD) : sDict0  S = (some (.dat (.dict []), S)) := rfl

@[simp] theorem e_sSeq (f g : SSem) (S : List SD) : sSeq f g S = ((f S).bind fun o => match o with
  | .nx S1 => g S1
  | o => some o) := rfl
@[simp] theorem told_d (x : PyData) : sdTold (some (.d x)) = true := rfl
@[simp] theorem told_o (b : Bool) (x : OB) : sdTold (some (.own b x)) = true := rfl
@[simp] theorem told_u : sdTold (some .un) = false := rfl
@[simp] theorem get_d (x : PyData) : sdGet (.d x) = some x := rfl
@[simp] theorem get_o (b : Bool) (x : List PyData) : sdGet (.own b x) = some (.list x) := rfl
@[simp] theorem op_dat (S : List SD) (x : PyData) : Op.get S (.dat x) = some x := rfl
@[simp] theorem op_slot (S : List SD) (i : Nat) : Op.get S (.slot i) = (S[i]?).bind sdGet := rfl
@[simp] theorem takeO_dat (S : List SD) (x : PyData) : takeO S (.dat x) = some (x, S) := rfl
@[simp] theorem takeO_slot (S : List SD) (i : Nat) : takeO S (.slot i) = takeS S i (S[i]?) := rfl
@[simp] theorem takeS_d (S : List SD) (i : Nat) (x : PyData) : takeS S i (some (.d x)) = some (x, S) := rfl
@[simp] theorem takeS_o (S : List SD) (i : Nat) (x : List PyData) : takeS S i (some (.own false x)) = some (.list x, S.set i (.d (.list x))) := rfl
@[simp] theorem takeAll_nil (S : List SD) : takeAll S [] = some ([], S) := rfl
@[simp] theorem takeAll_cons (S : List SD) (o : Op) (os : List Op) : takeAll S (o :: os) = ((takeO S o).bind fun p => (takeAll p.2 os).map fun q => (p.1 :: q.1, q.2)) := rfl
@[simp] theorem getAll_nil (S : List SD) : getAll S [] = some [] := rfl
@[simp] theorem getAll_cons (S : List SD) (o : Op) (os : List Op) : getAll S (o :: os) = ((o.get S).bind fun x => (getAll S os).map fun xs => x :: xs) := rfl
@[simp] theorem bor_o (b : Bool) (x : OB) : bor (.own b x) = .own true x := rfl
@[simp] theorem bor_d (x : PyData) : bor (.d x) = .d x := rfl
@[simp] theorem bor_u : bor .un = .un := rfl
@[simp] theorem borGo_nil (vs : List Nat) (k : Nat) : borGo vs k [] = [] := rfl
@[simp] theorem borGo_cons (vs : List Nat) (k : Nat) (s : SD) (S : List SD) : borGo vs k (s :: S) = (if k ∈ vs then .un else bor s) :: borGo vs (k + 1) S := rfl
@[simp] theorem unb1_oo (b : Bool) (x y : OB) : unb1 (.own b x) (.own true y) = .own b y := rfl
@[simp] theorem unb1_d (x : PyData) (s : SD) : unb1 (.d x) s = .d x := by cases s <;> rfl
@[simp] theorem unb1_u (s : SD) : unb1 .un s = .un := by cases s <;> rfl
@[simp] theorem unbGo_cons (vs : List Nat) (k : Nat) (s s' : SD) (S S' : List SD) : unbGo vs k (s :: S) (s' :: S') = (if k ∈ vs then s else unb1 s s') :: unbGo vs (k + 1) S S' := by cases S <;> rfl
@[simp] theorem unbGo_nil (vs : List Nat) (k : Nat) : unbGo vs k [] [] = [] := rfl
@[simp] theorem fin_nil (S : List SD) : fin [] S = some [] := by cases S <;> rfl
@[simp] theorem fin_d (x : PyData) (Dl : List SD) (s : SD) (S : List SD) : fin (.d x :: Dl) (s :: S) = (fin Dl S).map fun z => .d x :: z := rfl
@[simp] theorem fin_o (b : Bool) (x y : OB) (Dl S : List SD) : fin (.own b x :: Dl) (.own true y :: S) = (fin Dl S).map fun z => .own true y :: z := rfl
@[simp] theorem defOut_nx (Dl S : List SD) : defOut Dl (.nx S) = (fin Dl S).map fun z => (.d .none, z) := rfl
@[simp] theorem defOut_rt (Dl S : List SD) (r : SD) : defOut Dl (.rt r S) = (fin Dl S).map fun z => (r, z) := rfl
@[simp] theorem opSD_dat (S : List SD) (x : PyData) : opSD S (.dat x) = some (.d x) := rfl
@[simp] theorem opSD_slot (S : List SD) (i : Nat) : opSD S (.slot i) = ((S[i]?).bind fun s => match s with
    | .un => none
    | s => some (bor s)) := rfl
@[simp] theorem opSDs_nil (S : List SD) : opSDs S [] = some [] := rfl
@[simp] theorem opSDs_cons (S : List SD) (o : Op) (os : List Op) : opSDs S (o :: os) = ((opSD S o).bind fun s => (opSDs S os).map fun ss => s :: ss) := rfl
@[simp] theorem isOwn_d (x : PyData) : isOwn (some (.d x)) = false := rfl
@[simp] theorem isOwn_o (b : Bool) (x : OB) : isOwn (some (.own b x)) = true := rfl
@[simp] theorem isOwnS_o (b : Bool) (x : OB) : isOwnS (some (.own b x)) = true := rfl
@[simp] theorem ownIx_nil (S : List SD) : ownIx S [] = [] := rfl
@[simp] theorem ownIx_slot (S : List SD) (i : Nat) (os : List Op) : ownIx S (.slot i :: os) = if isOwn (S[i]?) = true then i :: ownIx S os else ownIx S os := rfl
@[simp] theorem ownIx_dat (S : List SD) (x : PyData) (os : List Op) : ownIx S (.dat x :: os) = ownIx S os := rfl
@[simp] theorem isSlot_s (i j : Nat) : isSlot j (.slot i) = (i == j) := rfl
@[simp] theorem isSlot_d (x : PyData) (j : Nat) : isSlot j (.dat x) = false := rfl
@[simp] theorem findArg_nil (j : Nat) (rs : List SD) : findArg j [] rs = none := rfl
@[simp] theorem findArg_cons (j : Nat) (o : Op) (os : List Op) (rs : List SD) : findArg j (o :: os) rs = if isSlot j o = true then some (rs.headD .un) else findArg j os rs.tail := rfl
@[simp] theorem wb1_n (s : SD) : wb1 none s = s := rfl
@[simp] theorem wb1_s (r s : SD) : wb1 (some r) s = unb1 s r := rfl
@[simp] theorem wbGo_nil (os : List Op) (rs : List SD) (j : Nat) : wbGo os rs j [] = [] := rfl
@[simp] theorem wbGo_cons (os : List Op) (rs : List SD) (j : Nat) (s : SD) (S : List SD) : wbGo os rs j (s :: S) = wb1 (findArg j os rs) s :: wbGo os rs (j + 1) S := rfl
@[simp] theorem resD_d (x : PyData) : resD (.d x) = some x := rfl
@[simp] theorem resD_o (x : List PyData) : resD (.own false x) = some (.list x) := rfl
@[simp] theorem resL_o (x : List PyData) : resL (.own false x) = some x := rfl
@[simp] theorem retS_o (S : List SD) (i : Nat) (x : OB) : retS S i (some (.own false x)) = some (.rt (.own false x) (S.set i .un)) := rfl
@[simp] theorem retS_d (S : List SD) (i : Nat) (x : PyData) : retS S i (some (.d x)) = some (.rt (.d x) S) := rfl
@[simp] theorem e_gsName (i : Nat) (x : PyData) (S : List SD) : gsName i x S = some (S.set i (.d x)) := rfl
@[simp] theorem e_gsNil (S : List SD) : gsNil [] S = some S := rfl
@[simp] theorem e_gsCons (g : GS) (gs : List PyData → List SD → Option (List SD)) (x : PyData) (xs : List PyData) (S : List SD) : gsCons g gs (x :: xs) S = (g x S).bind fun S1 => gs xs S1 := rfl
@[simp] theorem e_gsTup (n : Nat) (gs : List PyData → List SD → Option (List SD)) (xs : List PyData) (S : List SD) : gsTup n gs (.tuple xs) S = if xs.length = n then gs xs S else none := rfl
@[simp] theorem e_gsSub (i : Nat) (fi : ES) (x : PyData) (S : List SD) : gsSub i fi x S = if isOwnS (S[i]?) = true then (fi S).bind fun p => (p.1.get p.2).bind fun y => (dIntO y).bind fun k => setAt i x k p.2 (p.2[i]?) else none := rfl
@[simp] theorem e_setAt (i : Nat) (x : PyData) (k : Int) (S : List SD) (b : Bool) (xs : List PyData) : setAt i x k S (some (.own b xs)) = (ixN xs.length k).map fun j => S.set i (.own b (xs.set j x)) := rfl
@[simp] theorem dIntO_i (i : Int) : dIntO (.int i) = some i := rfl
@[simp] theorem dItems_t (xs : List PyData) : dItems (.tuple xs) = some xs := rfl
@[simp] theorem dItems_l (xs : List PyData) : dItems (.list xs) = some xs := rfl
@[simp] theorem isList_l (xs : List PyData) : isList (.list xs) = true := rfl
@[simp] theorem asideV_d (x : PyData) (f : VS) : asideV (.d x) f = f := rfl
@[simp] theorem asideV_o (b : Bool) (x : OB) (f : VS) (S : List SD) : asideV (.own b x) f S = (f (borGo [] 0 S)).map fun p => (p.1, unbGo [] 0 S p.2) := rfl
@[simp] theorem e_vLCt (fl : LS) : vLC true fl = vD (sTake (sKeep fl)) := rfl
@[simp] theorem e_vLCf (fl : LS) : vLC false fl = vL fl := rfl
@[simp] theorem e_sChain (g g' : PyData → PyData → Option PyData) (f f' f'' : ES) (S : List SD) : sChain g g' f f' f'' S = ((f S).bind fun p => (f' p.2).bind fun q => (p.1.get q.2).bind fun x => (q.1.get q.2).bind fun y => (g x y).bind fun z => (dBool z).bind fun k =>
  if k = true then (f'' q.2).bind fun s => (q.1.get s.2).bind fun y' => (s.1.get s.2).bind fun w => (g' y' w).map fun z' => (.dat z', s.2) else some (.dat (.bool false), q.2)) := rfl
/-- a list of one's own -/
def isLstS : Option SD → Bool
  | some (.own _ (.lst _)) => true
  | _ => false
@[simp] theorem isLst_o (b : Bool) (x : List PyData) : isLstS (some (.own b (.lst x))) = true := rfl
@[simp] theorem isLst_d (x : PyData) : isLstS (some (.d x)) = false := rfl
def methS (i : Nat) (g : List PyData → List PyData → Option (PyData × List PyData)) (ys : List PyData) (S : List SD) : Option SD → Option (Op × List SD)
  | some (.own b (.lst xs)) => (g xs ys).map fun z => (.dat z.1, S.set i (.own b (.lst z.2)))
  | _ => none
@[simp] theorem e_methS (i : Nat) (g : List PyData → List PyData → Option (PyData × List PyData)) (ys : List PyData) (S : List SD) (b : Bool) (xs : List PyData) : methS i g ys S (some (.own b (.lst xs))) = (g xs ys).map fun z => (.dat z.1, S.set i (.own b (.lst z.2))) := rfl
@[simp] theorem e_sMeth (i : Nat) (g : List PyData → List PyData → Option (PyData × List PyData)) (fs : AS) (S : List SD) : sMeth i g fs S = if isLstS (S[i]?) = true then (sTakeA fs S).bind fun p => methS i g p.1 p.2 (p.2[i]?) else none := by
  unfold sMeth
  cases q : S[i]? with
  | none => rfl
  | some sd =>
    cases sd with
    | own b x => cases x <;> rfl
    | _ => rfl
/-! data -/
@[simp] theorem dLt_i (i j : Int) : dLt (.int i) (.int j) = some (.bool (decide (i < j))) := rfl
@[simp] theorem dLe_i (i j : Int) : dLe (.int i) (.int j) = some (.bool (decide (i ≤ j))) := rfl
@[simp] theorem dGt_i (i j : Int) : dGt (.int i) (.int j) = some (.bool (decide (j < i))) := rfl
@[simp] theorem dGe_i (i j : Int) : dGe (.int i) (.int j) = some (.bool (decide (j ≤ i))) := rfl
@[simp] theorem dSub_i (i j : Int) : dSub (.int i) (.int j) = some (.int (i - j)) := rfl
@[simp] theorem dAdd_i (i j : Int) : dAdd (.int i) (.int j) = some (.int (i + j)) := rfl
@[simp] theorem dAdd_t (x y : List PyData) : dAdd (.tuple x) (.tuple y) = if x.length + y.length ≤ 100000 then some (.tuple (x ++ y)) else none := rfl
@[simp] theorem dAdd_l (x y : List PyData) : dAdd (.list x) (.list y) = if x.length + y.length ≤ 100000 then some (.list (x ++ y)) else none := rfl
@[simp] theorem dNeg_i (i : Int) : dNeg (.int i) = some (.int (-i)) := rfl
@[simp] theorem dMod_i (i j : Int) : dMod (.int i) (.int j) = if 0 < j then some (.int (i % j)) else none := rfl
@[simp] theorem dDiv_i (i j : Int) : dDiv (.int i) (.int j) = if CDiv i j then some (.int (i / j)) else none := rfl
@[simp] theorem dPow_i (i j : Int) : dPow (.int i) (.int j) = if CPow i j then some (.int (i ^ j.toNat)) else none := rfl
@[simp] theorem dMulX_i (i j : Int) : dMulX (.int i) (.int j) = if CMul i j then some (.int (i * j)) else none := rfl
@[simp] theorem dMulX_t (x : List PyData) (k : Int) : dMulX (.tuple x) (.int k) = if -1000 ≤ k ∧ k ≤ 1000 ∧ x.length ≤ 1000 then some (.tuple (List.replicate k.toNat x).flatten) else none := rfl
@[simp] theorem dIx_t (x : List PyData) (i : Int) : dIx (.tuple x) (.int i) = atI x i := rfl
@[simp] theorem dIx_l (x : List PyData) (i : Int) : dIx (.list x) (.int i) = atI x i := rfl
@[simp] theorem dLen_t (x : List PyData) : dLen [.tuple x] = some (.int x.length) := rfl
@[simp] theorem dLen_l (x : List PyData) : dLen [.list x] = some (.int x.length) := rfl
@[simp] theorem dLen_s (x : List PyData) : dLen [.dict [(.none, .list x)]] = some (.int x.length) := rfl
@[simp] theorem dIx_s (x : List PyData) (i : Int) : dIx (.dict [(.none, .list x)]) (.int i) = atI x i := rfl
@[simp] theorem dBool_b (b : Bool) : dBool (.bool b) = some b := rfl
@[simp] theorem dEq_ii (i j : Int) : dEq (.int i) (.int j) = some (.bool (decide (i = j))) := by
  have : dEq (.int i) (.int j) = if fitN 60 (.int i) = true ∧ fitN 60 (.int j) = true then some (.bool (PyData.eqv (.int i) (.int j))) else none := rfl
  rw [this, if_pos ⟨fit_int _ _, fit_int _ _⟩]
  have : PyData.eqv (.int i) (.int j) = decide (i = j) := by simp only [PyData.eqv]; rw [Bool.eq_iff_iff]; simp
  rw [this]
@[simp] theorem dNe_ii (i j : Int) : dNe (.int i) (.int j) = some (.bool (!decide (i = j))) := by
  have : dNe (.int i) (.int j) = if fitN 60 (.int i) = true ∧ fitN 60 (.int j) = true then some (.bool (!PyData.eqv (.int i) (.int j))) else none := rfl
  rw [this, if_pos ⟨fit_int _ _, fit_int _ _⟩]
  have : PyData.eqv (.int i) (.int j) = decide (i = j) := by simp only [PyData.eqv]; rw [Bool.eq_iff_iff]; simp
  rw [this]
@[simp] theorem dEq_ss (i j : Str) : dEq (.str i) (.str j) = some (.bool (decide (i = j))) := rfl
@[simp] theorem dNe_ss (i j : Str) : dNe (.str i) (.str j) = some (.bool (!decide (i = j))) := rfl
@[simp] theorem dIs_bb (i j : Bool) : dIs (.bool i) (.bool j) = some (.bool (decide (i = j))) := rfl
@[simp] theorem dIs_n (x : PyData) : dIs x .none = some (.bool (isNoneD x)) := rfl
@[simp] theorem dIsNot_n (x : PyData) : dIsNot x .none = some (.bool (!isNoneD x)) := rfl
@[simp] theorem dInt_i (i : Int) : dInt [.int i] = some (.int i) := rfl
@[simp] theorem dTuple_l (x : List PyData) : dTuple [.list x] = some (.tuple x) := rfl
@[simp] theorem dTuple_t (x : List PyData) : dTuple [.tuple x] = some (.tuple x) := rfl
@[simp] theorem dListL_l (x : List PyData) : dListL [.list x] = some x := rfl
@[simp] theorem dListL_t (x : List PyData) : dListL [.tuple x] = some x := rfl
@[simp] theorem dAll_m (bs : List Bool) : dAll [.list (bs.map .bool)] = some (.bool (bs.all id)) := by simp [dAll, dBools_map]
@[simp] theorem dAny_m (bs : List Bool) : dAny [.list (bs.map .bool)] = some (.bool (bs.any id)) := by simp [dAny, dBools_map]
theorem dAll_f {α : Type} (f : α → Bool) (xs : List α) : dAll [.list (xs.map fun x => .bool (f x))] = some (.bool (xs.all f)) := by
  have h : (xs.map fun x => PyData.bool (f x)) = (xs.map f).map .bool := by simp
  rw [h, dAll_m]; simp
@[simp] theorem dAll_c {α : Type} (f : α → Bool) (xs : List α) : dAll [.list (xs.map (PyData.bool ∘ f))] = some (.bool (xs.all f)) := dAll_f f xs
theorem dAny_f {α : Type} (f : α → Bool) (xs : List α) : dAny [.list (xs.map fun x => .bool (f x))] = some (.bool (xs.any f)) := by
  have h : (xs.map fun x => PyData.bool (f x)) = (xs.map f).map .bool := by simp
  rw [h, dAny_m]; simp
@[simp] theorem dAny_c {α : Type} (f : α → Bool) (xs : List α) : dAny [.list (xs.map (PyData.bool ∘ f))] = some (.bool (xs.any f)) := dAny_f f xs
@[simp] theorem dMax_ii (i j : Int) : dMax [.int i, .int j] = some (.int (if j > i then j else i)) := rfl
@[simp] theorem dMin_ii (i j : Int) : dMin [.int i, .int j] = some (.int (if j < i then j else i)) := rfl
@[simp] theorem dAbs_i (i : Int) : dAbs [.int i] = some (.int (if i < 0 then -i else i)) := rfl
@[simp] theorem dDivmod_ii (i j : Int) : dDivmod [.int i, .int j] = if CDiv i j then some (.tuple [.int (i / j), .int (i % j)]) else none := rfl
theorem rngI_ok {j : Int} (h1 : 0 ≤ j) (h2 : j ≤ 100000) : rngI [.int j] = some (rngD 0 j.toNat) := by
  unfold rngI
  exact if_pos (by omega)
theorem rngI_n (n : Nat) (h : n ≤ 100000) : rngI [.int n] = some (rngD 0 n) := by
  have e : ((n : Int)).toNat = n := Int.toNat_natCast n
  have := rngI_ok (j := (n : Int)) (Int.natCast_nonneg n) (by omega)
  rw [e] at this
  exact this
@[simp] theorem enumI_t (x : List PyData) : enumI [.tuple x] = some (enumD 0 x) := rfl
@[simp] theorem enumI_l (x : List PyData) : enumI [.list x] = some (enumD 0 x) := rfl
@[simp] theorem zipI_t (x y : List PyData) : zipI [.tuple x, .tuple y] = some (zipD x y) := rfl
@[simp] theorem zipI_l (x y : List PyData) : zipI [.list x, .list y] = some (zipD x y) := rfl
@[simp] theorem zipI_tl (x y : List PyData) : zipI [.tuple x, .list y] = some (zipD x y) := rfl
@[simp] theorem zipI_lt (x y : List PyData) : zipI [.list x, .tuple y] = some (zipD x y) := rfl
@[simp] theorem dCut_t (x : List PyData) (lo hi : Option Int) : dCut (.tuple x) lo hi = some (.tuple (cutD x lo hi)) := rfl
@[simp] theorem dCut_l (x : List PyData) (lo hi : Option Int) : dCut (.list x) lo hi = some (.list (cutD x lo hi)) := rfl
@[simp] theorem dRev_t (x : List PyData) : dRev (.tuple x) = some (.tuple x.reverse) := rfl
@[simp] theorem dRev_l (x : List PyData) : dRev (.list x) = some (.list x.reverse) := rfl
@[simp] theorem mAppend_1 (x : List PyData) (y : PyData) : mAppend x [y] = if x.length < 100000 then some (.none, x ++ [y]) else none := rfl
@[simp] theorem isTy_i (T : Tg) (i : Int) : isTy T (.int i) = some (tgIs T .int) := rfl
@[simp] theorem isTy_b (T : Tg) (i : Bool) : isTy T (.bool i) = some (tgIs T .bool) := rfl
@[simp] theorem isTy_n (T : Tg) : isTy T .none = some (tgIs T .none) := rfl
@[simp] theorem isTy_s (T : Tg) (i : Str) : isTy T (.str i) = some (tgIs T .str) := rfl
@[simp] theorem isTy_t (T : Tg) (i : List PyData) : isTy T (.tuple i) = some (tgIs T .tuple) := rfl
@[simp] theorem isTy_l (T : Tg) (i : List PyData) : isTy T (.list i) = some (tgIs T .list) := rfl
@[simp] theorem isTy_d (T : Tg) : isTy T (.dict []) = some (tgIs T .dict) := rfl
@[simp] theorem isNoneD_n : isNoneD .none = true := rfl
@[simp] theorem isNoneD_t (x : List PyData) : isNoneD (.tuple x) = false := rfl
@[simp] theorem isNoneD_l (x : List PyData) : isNoneD (.list x) = false := rfl
@[simp] theorem isNoneD_i (x : Int) : isNoneD (.int x) = false := rfl
@[simp] theorem isNoneD_s (x : Str) : isNoneD (.str x) = false := rfl

/-! ### comprehensions and loops -/
/-- one turn of a comprehension -/
def lcStep (vs : List Nat) (gs : GS) (fc : BS) (fd : DS) (x : PyData) (S : List SD) : Option (Option PyData × List SD) :=
  (gs x (borGo vs 0 S)).bind fun S1 => (fc S1).bind fun p => if p.1 = true then (fd p.2).map fun q => (some q.1, unbGo vs 0 S q.2) else some (none, unbGo vs 0 S p.2)
theorem lcGo_nil (vs : List Nat) (gs : GS) (fc : BS) (fd : DS) (S : List SD) : lcGo vs gs fc fd [] S = some ([], S) := rfl
theorem lcGo_cons (vs : List Nat) (gs : GS) (fc : BS) (fd : DS) (x : PyData) (xs : List PyData) (S : List SD) :
    lcGo vs gs fc fd (x :: xs) S = (lcStep vs gs fc fd x S).bind fun p => (lcGo vs gs fc fd xs p.2).map fun z => (p.1.toList ++ z.1, z.2) := by
  show ((gs x (borGo vs 0 S)).bind fun S1 => (fc S1).bind fun p => if p.1 = true then (fd p.2).bind fun q => (lcGo vs gs fc fd xs (unbGo vs 0 S q.2)).map fun z => (q.1 :: z.1, z.2) else lcGo vs gs fc fd xs (unbGo vs 0 S p.2)) = _
  unfold lcStep
  cases gs x (borGo vs 0 S) with
  | none => rfl
  | some S1 =>
    simp only [Option.bind_some]
    cases fc S1 with
    | none => rfl
    | some p =>
      simp only [Option.bind_some]
      cases hp : p.1 with
      | true =>
        simp only [if_true]
        cases fd p.2 with
        | none => rfl
        | some q => simp
      | false => simp
/-- the slots stay as they are -/
theorem lc_stable {vs : List Nat} {gs : GS} {fc : BS} {fd : DS} {S : List SD} (F : PyData → Option PyData) : ∀ (xs : List PyData), (∀ x ∈ xs, lcStep vs gs fc fd x S = some (F x, S)) → lcGo vs gs fc fd xs S = some (xs.filterMap F, S)
  | [], _ => rfl
  | x :: xs, h => by
    rw [lcGo_cons, h x (by simp)]
    simp only [Option.bind_some]
    rw [lc_stable F xs fun y hy => h y (List.mem_cons_of_mem _ hy)]
    cases hF : F x <;> simp [hF]
theorem lc_map {vs : List Nat} {gs : GS} {fc : BS} {fd : DS} {S : List SD} (F : PyData → PyData) (xs : List PyData) (h : ∀ x ∈ xs, lcStep vs gs fc fd x S = some (some (F x), S)) : lcGo vs gs fc fd xs S = some (xs.map F, S) := by
  rw [lc_stable (fun x => some (F x)) xs h]
  have : List.filterMap (fun x => some (F x)) xs = xs.map F := by induction xs with
    | nil => rfl
    | cons x xs ih => simp [ih fun y hy => h y (List.mem_cons_of_mem _ hy)]
  rw [this]
/-- the slots keep to I, each new item to R -/
theorem lc_inv {vs : List Nat} {gs : GS} {fc : BS} {fd : DS} (I : List SD → Prop) (R : PyData → Prop) : ∀ (xs : List PyData), (∀ x ∈ xs, ∀ S, I S → ∃ y S', lcStep vs gs fc fd x S = some (some y, S') ∧ I S' ∧ R y) → ∀ S, I S →
    ∃ ys S', lcGo vs gs fc fd xs S = some (ys, S') ∧ I S' ∧ ys.length = xs.length ∧ ∀ y ∈ ys, R y
  | [], _, S, hS => ⟨[], S, rfl, hS, rfl, by simp⟩
  | x :: xs, h, S, hS => by
    obtain ⟨y, S1, h1, h2, h3⟩ := h x (by simp) S hS
    obtain ⟨ys, S2, h4, h5, h6, h7⟩ := lc_inv I R xs (fun z hz => h z (List.mem_cons_of_mem _ hz)) S1 h2
    refine ⟨y :: ys, S2, ?_, h5, by simp [h6], fun z hz => ?_⟩
    · rw [lcGo_cons, h1]
      simp [h4]
    · rcases List.mem_cons.mp hz with rfl | hz
      · exact h3
      · exact h7 z hz
/-- .. with a filter -/
theorem lc_invF {vs : List Nat} {gs : GS} {fc : BS} {fd : DS} (I : List SD → Prop) : ∀ (xs : List PyData) (F : PyData → PyData), (∀ x ∈ xs, ∀ S, I S → ∃ (b : Bool) (S' : List SD), lcStep vs gs fc fd x S = some (if b then some (F x) else none, S') ∧ I S') → ∀ S, I S →
    ∃ (ys : List PyData) (S' : List SD), lcGo vs gs fc fd xs S = some (ys.map F, S') ∧ I S' ∧ ys.Sublist xs
  | [], _, _, S, hS => ⟨[], S, rfl, hS, .refl _⟩
  | x :: xs, F, h, S, hS => by
    obtain ⟨b, S1, h1, h2⟩ := h x (by simp) S hS
    obtain ⟨ys, S2, h4, h5, h6⟩ := lc_invF I xs F (fun z hz => h z (List.mem_cons_of_mem _ hz)) S1 h2
    cases b with
    | true => exact ⟨x :: ys, S2, by rw [lcGo_cons, h1]; simp [h4], h5, h6.cons₂ x⟩
    | false => exact ⟨ys, S2, by rw [lcGo_cons, h1]; simp [h4], h5, h6.cons x⟩
theorem forGo_nil (gs : GS) (fb : SSem) (S : List SD) : forGo gs fb [] S = some (.nx S) := rfl
theorem forGo_cons (gs : GS) (fb : SSem) (x : PyData) (xs : List PyData) (S : List SD) : forGo gs fb (x :: xs) S = ((gs x S).bind fun S1 => (fb S1).bind fun o => match o with
    | .nx S2 => forGo gs fb xs S2
    | .ct S2 => forGo gs fb xs S2
    | .bk S2 => some (.nx S2)
    | .rt r S2 => some (.rt r S2)) := rfl
/-- one turn of a loop that goes on -/
def forStep (gs : GS) (fb : SSem) (x : PyData) (S : List SD) : Option Out := (gs x S).bind fb
theorem for_one {gs : GS} {fb : SSem} {x : PyData} {xs : List PyData} {S S' : List SD} (h : forStep gs fb x S = some (.nx S')) : forGo gs fb (x :: xs) S = forGo gs fb xs S' := by
  unfold forStep at h
  rw [forGo_cons]
  cases q : gs x S with
  | none => rw [q] at h; cases h
  | some S1 =>
    rw [q] at h
    have h : fb S1 = some (.nx S') := h
    simp [h]
theorem for_ret {gs : GS} {fb : SSem} {x : PyData} {xs : List PyData} {S S' : List SD} {r : SD} (h : forStep gs fb x S = some (.rt r S')) : forGo gs fb (x :: xs) S = some (.rt r S') := by
  unfold forStep at h
  rw [forGo_cons]
  cases q : gs x S with
  | none => rw [q] at h; cases h
  | some S1 =>
    rw [q] at h
    have h : fb S1 = some (.rt r S') := h
    simp [h]
/-- the loop keeps to I (told by what has been gone through and what is to come) -/
theorem for_inv {gs : GS} {fb : SSem} (I : List PyData → List SD → Prop) (all : List PyData) : ∀ (xs pre : List PyData), pre ++ xs = all → (∀ pre x post S, pre ++ x :: post = all → I pre S → ∃ S', forStep gs fb x S = some (.nx S') ∧ I (pre ++ [x]) S') → ∀ S, I pre S →
    ∃ S', forGo gs fb xs S = some (.nx S') ∧ I all S'
  | [], pre, e, _, S, hS => ⟨S, rfl, by rw [← e]; simpa using hS⟩
  | x :: xs, pre, e, h, S, hS => by
    obtain ⟨S1, h1, h2⟩ := h pre x xs S e hS
    obtain ⟨S2, h3, h4⟩ := for_inv I all xs (pre ++ [x]) (by simpa using e) h S1 h2
    exact ⟨S2, by rw [for_one h1, h3], h4⟩
end DL

set_option Elab.async false
set_option linter.all false
set_option maxRecDepth 100000
set_option maxHeartbeats 4000000
/-! DM, part 2: plain facts of data. -/
namespace DL
open PySem L2

/-- what isinstance tells of -/
def okT : PyData → Bool
  | .dict kvs => kvs.isEmpty
  | _ => true
@[simp] theorem okT_n : okT .none = true := by simp only [okT]
@[simp] theorem okT_b (b : Bool) : okT (.bool b) = true := by simp only [okT]
@[simp] theorem okT_i (b : Int) : okT (.int b) = true := by simp only [okT]
@[simp] theorem okT_s (b : Str) : okT (.str b) = true := by simp only [okT]
@[simp] theorem okT_t (b : List PyData) : okT (.tuple b) = true := by simp only [okT]
@[simp] theorem okT_l (b : List PyData) : okT (.list b) = true := by simp only [okT]
@[simp] theorem okT_d : okT (.dict []) = true := by simp [okT]
theorem okT_dict {kvs : List (PyData × PyData)} (h : okT (.dict kvs) = true) : kvs = [] := by
  cases kvs with
  | nil => rfl
  | cons a b => cases h
def isInt : PyData → Bool
  | .int _ => true
  | _ => false
def isIn (a b : Int) : PyData → Bool
  | .int i => decide (a ≤ i) && decide (i ≤ b)
  | _ => false
theorem isIn_some {a b : Int} {v : PyData} (h : isIn a b v = true) : ∃ i, v = .int i ∧ a ≤ i ∧ i ≤ b := by
  cases v with
  | int i => simp [isIn] at h; exact ⟨i, rfl, h.1, h.2⟩
  | _ => cases h
theorem ints_of {a b : Int} : ∀ {xs : List PyData}, xs.all (isIn a b) = true → ∃ ns : List Int, xs = ns.map .int ∧ ∀ n ∈ ns, a ≤ n ∧ n ≤ b
  | [], _ => ⟨[], rfl, by simp⟩
  | x :: xs, h => by
    rw [List.all_cons, Bool.and_eq_true] at h
    obtain ⟨i, rfl, h1, h2⟩ := isIn_some h.1
    obtain ⟨ns, rfl, hn⟩ := ints_of h.2
    refine ⟨i :: ns, rfl, fun n hm => ?_⟩
    rcases List.mem_cons.mp hm with rfl | hm
    · exact ⟨h1, h2⟩
    · exact hn n hm
theorem all_ints {a b : Int} {ns : List Int} : (ns.map PyData.int).all (isIn a b) = ns.all fun n => decide (a ≤ n) && decide (n ≤ b) := by
  induction ns with
  | nil => rfl
  | cons n ns ih => rw [List.map_cons, List.all_cons, List.all_cons, ih]; rfl
@[simp] theorem at_0 (a : PyData) (r : List PyData) : atI (a :: r) 0 = some a := by simp [atI, ixN]
theorem atI_nat' (xs : List PyData) (k : Nat) : atI xs (k : Int) = xs[k]? := by
  unfold atI ixN
  simp only [Int.natCast_nonneg, if_true]
  by_cases h : k < xs.length
  · rw [if_pos (by omega)]; simp
  · rw [if_neg (by omega), List.getElem?_eq_none (by omega)]; rfl
@[simp] theorem at_1 (a b : PyData) (r : List PyData) : atI (a :: b :: r) 1 = some b := atI_nat' _ 1
@[simp] theorem at_2 (a b c : PyData) (r : List PyData) : atI (a :: b :: c :: r) 2 = some c := atI_nat' _ 2
@[simp] theorem at_3 (a b c d : PyData) (r : List PyData) : atI (a :: b :: c :: d :: r) 3 = some d := atI_nat' _ 3
@[simp] theorem at_4 (a b c d e : PyData) (r : List PyData) : atI (a :: b :: c :: d :: e :: r) 4 = some e := atI_nat' _ 4
theorem cut_to (xs : List PyData) (k : Nat) : cutD xs none (some (k : Int)) = xs.take k := by
  unfold cutD
  rw [HT.sIx_none, HT.sIx_nat]
  simp [List.take_eq_take_iff]
theorem cut_from (xs : List PyData) (k : Nat) : cutD xs (some (k : Int)) none = xs.drop k := by
  unfold cutD
  rw [HT.sIx_none, HT.sIx_nat]
  by_cases h : k ≤ xs.length
  · rw [Nat.min_eq_left h, List.take_of_length_le (by simp)]
  · rw [Nat.min_eq_right (by omega), List.drop_eq_nil_of_le (by omega), List.drop_eq_nil_of_le (by omega)]; simp
theorem cut_to' (xs : List PyData) (k : Int) (n : Nat) (h : k = n) : cutD xs none (some k) = xs.take n := by rw [h]; exact cut_to xs n
theorem cut_from' (xs : List PyData) (k : Int) (n : Nat) (h : k = n) : cutD xs (some k) none = xs.drop n := by rw [h]; exact cut_from xs n
/-! rising -/
def rising : List Int → Bool
  | [] => true
  | [_] => true
  | x :: y :: r => decide (x < y) && rising (y :: r)
theorem rising_pw : ∀ ns : List Int, rising ns = true ↔ ns.Pairwise (· < ·)
  | [] => by simp [rising]
  | [x] => by simp [rising]
  | x :: y :: r => by
    have ih := rising_pw (y :: r)
    simp only [rising, Bool.and_eq_true, decide_eq_true_eq, ih]
    constructor
    · rintro ⟨h1, h2⟩
      refine List.pairwise_cons.mpr ⟨fun z hz => ?_, h2⟩
      rcases List.mem_cons.mp hz with rfl | hz
      · exact h1
      · exact Int.lt_trans h1 ((List.pairwise_cons.mp h2).1 z hz)
    · intro h
      have h' := List.pairwise_cons.mp h
      exact ⟨h'.1 y (by simp), h'.2⟩
theorem setI_self : ∀ {ns : List Int}, ns.Pairwise (· < ·) → setI ns = ns := fun {ns} h => strict_unique (setI_sorted ns) h fun k => setI_mem k ns
theorem rising_set (ns : List Int) : (decide (ns = setI ns)) = rising ns := by
  rw [Bool.eq_iff_iff, decide_eq_true_eq, rising_pw]
  exact ⟨fun h => by rw [h]; exact setI_sorted ns, fun h => (setI_self h).symm⟩
theorem eqvAll_ints : ∀ ns ms : List Int, PyData.eqvAll (ns.map .int) (ms.map .int) = decide (ns = ms)
  | [], [] => by simp [PyData.eqvAll]
  | [], _ :: _ => by simp [PyData.eqvAll]
  | _ :: _, [] => by simp [PyData.eqvAll]
  | n :: ns, m :: ms => by
    simp only [List.map_cons, PyData.eqvAll, PyData.eqv, eqvAll_ints ns ms]
    rw [Bool.eq_iff_iff]
    simp
theorem fit_ints (n : Nat) (ns : List Int) : fitN (n + 1) (.list (ns.map .int)) = true := by
  rw [fit_list, List.all_eq_true]
  intro x hx
  obtain ⟨i, _, rfl⟩ := List.mem_map.mp hx
  exact fit_int n i
theorem fit_intsT (n : Nat) (ns : List Int) : fitN (n + 1) (.tuple (ns.map .int)) = true := by
  rw [fit_tuple, List.all_eq_true]
  intro x hx
  obtain ⟨i, _, rfl⟩ := List.mem_map.mp hx
  exact fit_int n i
theorem dEq_ints (ns ms : List Int) : dEq (.list (ns.map .int)) (.list (ms.map .int)) = some (.bool (decide (ns = ms))) := by
  have : dEq (.list (ns.map .int)) (.list (ms.map .int)) = if fitN 60 (.list (ns.map .int)) = true ∧ fitN 60 (.list (ms.map .int)) = true then some (.bool (PyData.eqv (.list (ns.map .int)) (.list (ms.map .int)))) else none := rfl
  rw [this, if_pos ⟨fit_ints 59 ns, fit_ints 59 ms⟩]
  simp only [PyData.eqv, eqvAll_ints]
theorem dSetL_ints {ns : List Int} (h1 : ns.length ≤ 1000) (h2 : (setI ns).length < 64) : dSetL [.tuple (ns.map .int)] = some ((setI ns).map .int) := by
  simp only [dSetL, dInts_map, Option.bind_some]
  rw [if_pos ⟨h1, h2⟩]
/-- few members: within a .. b -/
theorem setI_few {ns : List Int} {m : Nat} (h : ∀ n ∈ ns, 0 ≤ n ∧ n < m) : (setI ns).length ≤ m := by
  have hs := setI_sorted ns
  have hm : ∀ k ∈ setI ns, 0 ≤ k ∧ k < m := fun k hk => h k ((setI_mem k ns).mp hk)
  generalize setI ns = l at hs hm
  have key : ∀ (l : List Int) (a : Int), l.Pairwise (· < ·) → (∀ k ∈ l, a ≤ k ∧ k < m) → 0 ≤ a → (l.length : Int) ≤ if a ≤ m then m - a else 0 := by
    intro l
    induction l with
    | nil => intro a _ _ ha; simp; split <;> omega
    | cons x l ih =>
      intro a hp hk ha
      have hp' := List.pairwise_cons.mp hp
      have hx := hk x (by simp)
      have := ih (x + 1) hp'.2 (fun k hk' => ⟨by have := hp'.1 k hk'; omega, (hk k (List.mem_cons_of_mem _ hk')).2⟩) (by omega)
      simp only [List.length_cons]
      split at this <;> split <;> omega
  have := key l 0 hs hm (Int.le_refl 0)
  split at this <;> omega
end DL

set_option Elab.async false
set_option linter.all false
set_option maxRecDepth 100000
set_option maxHeartbeats 4000000
/-! DM, part 3: first ones, indices, filtered counts. -/
namespace DL
open PySem L2

theorem fit_self {n : Nat} {d : PyData} (h : fitN n d = true) : PyData.eqv d d = true := SeqAt.eqv_refl d (fit_lay h)
def addF (acc : List PyData) (x : PyData) : List PyData := if (acc.any fun z => PyData.eqv z x) = true then acc else acc ++ [x]
def byF (xs : List PyData) : List PyData := xs.foldl addF []
theorem byF_snoc (xs : List PyData) (x : PyData) : byF (xs ++ [x]) = addF (byF xs) x := by simp [byF, List.foldl_append]
@[simp] theorem byF_nil : byF [] = [] := rfl
theorem snoc_ind {α : Type} {P : List α → Prop} (h0 : P []) (h1 : ∀ xs x, P xs → P (xs ++ [x])) : ∀ xs, P xs := fun xs => by
  have : ∀ n, ∀ xs : List α, xs.length = n → P xs := by
    intro n
    induction n with
    | zero => intro xs h; rw [List.eq_nil_of_length_eq_zero h]; exact h0
    | succ n ih =>
      intro xs h
      have hne : xs ≠ [] := fun e => by rw [e] at h; cases h
      rw [← List.dropLast_concat_getLast hne]
      exact h1 _ _ (ih _ (by rw [List.length_dropLast, h]; rfl))
  exact this _ xs rfl
theorem byF_sub : ∀ (xs : List PyData), ∀ y ∈ byF xs, y ∈ xs := snoc_ind (by simp) fun xs x ih y hy => by
  rw [byF_snoc] at hy
  unfold addF at hy
  split at hy
  · exact List.mem_append_left _ (ih y hy)
  · rcases List.mem_append.mp hy with h | h
    · exact List.mem_append_left _ (ih y h)
    · exact List.mem_append_right _ h
theorem byF_len : ∀ (xs : List PyData), (byF xs).length ≤ xs.length := snoc_ind (by simp) fun xs x ih => by
  rw [byF_snoc]
  unfold addF
  split <;> simp <;> omega
theorem byF_has {n : Nat} : ∀ (xs : List PyData), (∀ x ∈ xs, fitN n x = true) → ∀ x ∈ xs, (byF xs).any (fun z => PyData.eqv z x) = true := snoc_ind (by simp) fun xs x ih hf y hy => by
  rw [byF_snoc]
  unfold addF
  rcases List.mem_append.mp hy with h | h
  · have := ih (fun z hz => hf z (List.mem_append_left _ hz)) y h
    split
    · exact this
    · rw [List.any_append, this]; rfl
  · have hx : y = x := by simpa using h
    subst hx
    split
    · assumption
    · rw [List.any_append]
      simp [fit_self (hf y hy)]
theorem byF_ne {n : Nat} {xs : List PyData} (h : xs ≠ []) (hf : ∀ x ∈ xs, fitN n x = true) : 1 ≤ (byF xs).length := by
  cases xs with
  | nil => exact absurd rfl h
  | cons x r =>
    have := byF_has (x :: r) hf x (by simp)
    cases q : byF (x :: r) with
    | nil => rw [q] at this; simp at this
    | cons a b => simp
theorem firstIx_any {d : PyData} : ∀ {xs : List PyData}, xs.any (fun z => PyData.eqv z d) = true → ∃ j, firstIx d xs = some j ∧ j < xs.length
  | [], h => by simp at h
  | z :: r, h => by
    unfold firstIx
    by_cases hz : PyData.eqv z d = true
    · exact ⟨0, by rw [if_pos hz], by simp⟩
    · rw [if_neg hz]
      have : r.any (fun z => PyData.eqv z d) = true := by simpa [hz] using h
      obtain ⟨j, h1, h2⟩ := firstIx_any this
      exact ⟨j + 1, by rw [h1]; rfl, by simp; omega⟩
/-- where each item's like stands among the first ones -/
def numb (xs : List PyData) : List Int := xs.map fun x => (((firstIx x (byF xs)).getD 0 : Nat) : Int)
theorem numb_len (xs : List PyData) : (numb xs).length = xs.length := by simp [numb]
theorem numb_rng {n : Nat} {xs : List PyData} (hf : ∀ x ∈ xs, fitN n x = true) : ∀ k ∈ numb xs, 0 ≤ k ∧ k < (byF xs).length := fun k hk => by
  obtain ⟨x, hx, rfl⟩ := List.mem_map.mp hk
  obtain ⟨j, h1, h2⟩ := firstIx_any (byF_has xs hf x hx)
  rw [h1]
  simp; omega
theorem fit_byF {n : Nat} {xs : List PyData} (hf : ∀ x ∈ xs, fitN n x = true) : fitN (n + 1) (.list (byF xs)) = true := by
  rw [fit_list, List.all_eq_true]
  exact fun x hx => hf x (byF_sub xs x hx)
/-- rising, within 0 .. m - 1 -/
def LotI (m : Int) (ns : List Int) : Prop := ns.Pairwise (· < ·) ∧ ∀ n ∈ ns, 0 ≤ n ∧ n < m
def selE (p : PyData → Bool) : PyData → Option PyData
  | .tuple [.int a, y] => if p y = true then some (.int a) else none
  | _ => none
def selR (p : Int → Bool) : PyData → Option PyData
  | .int a => if p a = true then some (.int a) else none
  | _ => none
theorem enumF (p : PyData → Bool) : ∀ (c : Int) (xs : List PyData), ∃ ns : List Int, (enumD c xs).filterMap (selE p) = ns.map PyData.int ∧ ns.Pairwise (· < ·) ∧ ∀ n ∈ ns, c ≤ n ∧ n < c + xs.length
  | c, [] => ⟨[], rfl, .nil, by simp⟩
  | c, x :: xs => by
    obtain ⟨ns, h1, h2, h3⟩ := enumF p (c + 1) xs
    by_cases hp : p x = true
    · refine ⟨c :: ns, ?_, List.pairwise_cons.mpr ⟨fun n hn => by have := h3 n hn; omega, h2⟩, fun n hn => ?_⟩
      · simp [enumD, selE, hp, h1]
      · rcases List.mem_cons.mp hn with rfl | hn
        · simp; omega
        · have := h3 n hn; simp; omega
    · refine ⟨ns, ?_, h2, fun n hn => ?_⟩
      · simp [enumD, selE, hp, h1]
      · have := h3 n hn; simp; omega
theorem enumD_mem {y : PyData} : ∀ {c : Int} {xs : List PyData}, y ∈ enumD c xs → ∃ a x, y = .tuple [.int a, x] ∧ x ∈ xs ∧ c ≤ a ∧ a < c + xs.length
  | c, [], h => by simp [enumD] at h
  | c, x :: xs, h => by
    simp only [enumD, List.mem_cons] at h
    rcases h with h | h
    · exact ⟨c, x, h, by simp, by omega, by simp; omega⟩
    · obtain ⟨a, z, h1, h2, h3, h4⟩ := enumD_mem h
      exact ⟨a, z, h1, by simp [h2], by omega, by simp; omega⟩
theorem rngF (p : Int → Bool) (n : Nat) : ∃ ns : List Int, (rngD 0 n).filterMap (selR p) = ns.map PyData.int ∧ LotI n ns := by
  refine ⟨((List.range n).map fun (i : Nat) => (i : Int)).filter p, ?_, ?_, fun k hk => ?_⟩
  · unfold rngD
    rw [List.filterMap_map]
    have key : ∀ l : List Nat, List.filterMap (fun i : Nat => selR p (.int (0 + (i : Int)))) l = List.map PyData.int (List.filter p (l.map fun (i : Nat) => (i : Int))) := by
      intro l
      induction l with
      | nil => rfl
      | cons i l ih =>
        rw [List.filterMap_cons, ih]
        by_cases hp : p (i : Int) = true <;> simp [selR, hp]
    exact key _
  · refine List.Pairwise.filter _ ?_
    rw [List.pairwise_map]
    exact List.pairwise_lt_range.imp fun h => by omega
  · have := (List.mem_filter.mp hk).1
    obtain ⟨i, hi, rfl⟩ := List.mem_map.mp this
    have := List.mem_range.mp hi
    omega
theorem rngD_mem {y : PyData} {n : Nat} (h : y ∈ rngD 0 n) : ∃ i : Nat, y = .int (i : Int) ∧ i < n := by
  unfold rngD at h
  obtain ⟨i, hi, rfl⟩ := List.mem_map.mp h
  exact ⟨i, by simp, List.mem_range.mp hi⟩
end DL

set_option Elab.async false
set_option linter.all false
set_option maxRecDepth 100000
set_option maxHeartbeats 4000000
/-! DM, part 4: how long a repr is. -/
namespace DL
open PySem L2
mutual
def wt : PyData → Nat
  | .none => 4
  | .bool _ => 5
  | .int _ => 21
  | .str x => (reprText x).length
  | .list xs => wtL xs + 3
  | .tuple xs => wtL xs + 3
  | .dict _ => 0
def wtL : List PyData → Nat
  | [] => 0
  | x :: xs => wt x + 2 + wtL xs
end
mutual
def okR : PyData → Bool
  | .none => true
  | .bool _ => true
  | .int i => decide (i.natAbs < 100000000000000000000)
  | .str _ => true
  | .list xs => okRL xs
  | .tuple xs => okRL xs
  | .dict _ => false
def okRL : List PyData → Bool
  | [] => true
  | x :: xs => okR x && okRL xs
end
mutual
theorem shown_le : ∀ d : PyData, okR d = true → d.shown.length ≤ wt d ∧ d.showable = true ∧ d.hasDict = false
  | .none, _ => ⟨by simp only [PyData.shown, wt]; decide, by simp only [PyData.showable], by simp only [PyData.hasDict]⟩
  | .bool b, _ => ⟨by cases b <;> simp only [PyData.shown, wt] <;> decide, by simp only [PyData.showable], by simp only [PyData.hasDict]⟩
  | .int i, h => by
    have h : i.natAbs < 10 ^ 20 := by simpa [okR] using h
    refine ⟨?_, ?_, by simp only [PyData.hasDict]⟩
    · simp only [PyData.shown, wt]
      exact Nat.le_trans (Nat.le_of_eq (ofString_length _)) (int_text_length_le10 (k := 20) (by decide) h)
    · simp only [PyData.showable, decide_eq_true_eq]
      by_cases h0 : i.natAbs = 0
      · rw [h0]; decide
      · exact (Nat.log2_lt h0).mpr (Nat.lt_of_lt_of_le h (Nat.le_trans (by decide : 10 ^ 20 ≤ 2 ^ 67) (Nat.pow_le_pow_right (by decide) (by decide))))
  | .str x, _ => ⟨by simp only [PyData.shown, wt]; exact Nat.le_refl _, by simp only [PyData.showable], by simp only [PyData.hasDict]⟩
  | .list xs, h => by
    obtain ⟨h1, h2, h3, h4⟩ := shownAll_le xs (by simpa [okR] using h)
    refine ⟨?_, by simpa only [PyData.showable] using h2, by simpa only [PyData.hasDict] using h3⟩
    simp only [PyData.shown, wt]
    have := listText_len_le (PyData.shownAll xs)
    omega
  | .tuple xs, h => by
    obtain ⟨h1, h2, h3, h4⟩ := shownAll_le xs (by simpa [okR] using h)
    refine ⟨?_, by simpa only [PyData.showable] using h2, by simpa only [PyData.hasDict] using h3⟩
    simp only [PyData.shown, wt]
    have := tupleText_len_le (PyData.shownAll xs)
    omega
  | .dict _, h => by simp [okR] at h
theorem shownAll_le : ∀ xs : List PyData, okRL xs = true → ((PyData.shownAll xs).map (·.length)).sum + 2 * (PyData.shownAll xs).length ≤ wtL xs ∧ PyData.showableAll xs = true ∧ PyData.hasDictAll xs = false ∧ (PyData.shownAll xs).length = xs.length
  | [], _ => ⟨by simp [PyData.shownAll, wtL], by simp only [PyData.showableAll], by simp only [PyData.hasDictAll], by simp [PyData.shownAll]⟩
  | x :: xs, h => by
    have h' := Bool.and_eq_true_iff.mp (show (okR x && okRL xs) = true by simpa [okRL] using h)
    obtain ⟨a1, a2, a3⟩ := shown_le x h'.1
    obtain ⟨b1, b2, b3, b4⟩ := shownAll_le xs h'.2
    refine ⟨?_, by simp only [PyData.showableAll, a2, b2, Bool.and_self], by simp only [PyData.hasDictAll, a3, b3, Bool.or_self], by simp [PyData.shownAll, b4]⟩
    simp only [PyData.shownAll, wtL, List.map_cons, List.sum_cons, List.length_cons]
    omega
end
theorem reprOk_of {d : PyData} (h1 : okR d = true) (h2 : wt d ≤ 1000000) (h3 : d.depth ≤ 60) : reprOk d = true := by
  obtain ⟨a1, a2, a3⟩ := shown_le d h1
  have a4 : d.shown.length ≤ 1000000 := by omega
  simp only [reprOk, a2, a3, a4, h3, Bool.not_false, Bool.true_or, Bool.and_self, decide_true]
/-- items of depth n at most, w signs in all -/
structure G (n w : Nat) (xs : List PyData) : Prop where
  ok : okRL xs = true
  wt : wtL xs ≤ w
  dp : ∀ x ∈ xs, x.depth ≤ n
theorem okRL_all : ∀ xs : List PyData, okRL xs = true ↔ ∀ x ∈ xs, okR x = true
  | [] => by simp [okRL]
  | x :: xs => by simp [okRL, okRL_all xs]
theorem wtL_append : ∀ xs ys : List PyData, wtL (xs ++ ys) = wtL xs + wtL ys
  | [], ys => by simp [wtL]
  | x :: xs, ys => by simp only [List.cons_append, wtL, wtL_append xs ys]; omega
theorem wtL_reverse (xs : List PyData) : wtL xs.reverse = wtL xs := by
  induction xs with
  | nil => rfl
  | cons x xs ih => rw [List.reverse_cons, wtL_append, ih]; simp only [wtL]; omega
variable {n m w v : Nat} {xs ys : List PyData}
theorem G.append (a : G n w xs) (b : G n v ys) : G n (w + v) (xs ++ ys) := by
  refine ⟨(okRL_all _).mpr fun x hx => ?_, by rw [wtL_append]; have := a.wt; have := b.wt; omega, fun x hx => ?_⟩
  · rcases List.mem_append.mp hx with h | h
    · exact (okRL_all _).mp a.ok x h
    · exact (okRL_all _).mp b.ok x h
  · rcases List.mem_append.mp hx with h | h
    · exact a.dp x h
    · exact b.dp x h
theorem G.take (a : G n w xs) (k : Nat) : G n w (xs.take k) := by
  have e := wtL_append (xs.take k) (xs.drop k)
  rw [List.take_append_drop] at e
  exact ⟨(okRL_all _).mpr fun x hx => (okRL_all _).mp a.ok x (List.mem_of_mem_take hx), by have := a.wt; omega, fun x hx => a.dp x (List.mem_of_mem_take hx)⟩
theorem G.drop (a : G n w xs) (k : Nat) : G n w (xs.drop k) := by
  have e := wtL_append (xs.take k) (xs.drop k)
  rw [List.take_append_drop] at e
  exact ⟨(okRL_all _).mpr fun x hx => (okRL_all _).mp a.ok x (List.mem_of_mem_drop hx), by have := a.wt; omega, fun x hx => a.dp x (List.mem_of_mem_drop hx)⟩
theorem G.reverse (a : G n w xs) : G n w xs.reverse :=
  ⟨(okRL_all _).mpr fun x hx => (okRL_all _).mp a.ok x (by simpa using hx), by rw [wtL_reverse]; exact a.wt, fun x hx => a.dp x (by simpa using hx)⟩
theorem G.mono (a : G n w xs) (h1 : n ≤ m) (h2 : w ≤ v) : G m v xs := ⟨a.ok, by have := a.wt; omega, fun x hx => by have := a.dp x hx; omega⟩
theorem G.nil : G n w [] := ⟨by simp [okRL], by simp [wtL], by simp⟩
theorem G.rep (a : G n w xs) : ∀ k : Nat, G n (k * w) (List.replicate k xs).flatten
  | 0 => .nil
  | k + 1 => by
    rw [List.replicate_succ, List.flatten_cons]
    exact (a.append (G.rep a k)).mono (Nat.le_refl _) (by rw [Nat.succ_mul]; omega)
theorem G.one {x : PyData} (h1 : okR x = true) (h2 : DL.wt x + 2 ≤ w) (h3 : x.depth ≤ n) : G n w [x] := ⟨by simp [okRL, h1], by simp only [wtL]; omega, by simpa using h3⟩
theorem depth_tuple (h : ∀ x ∈ xs, x.depth ≤ n) : (PyData.tuple xs).depth ≤ n + 1 := by
  simp only [PyData.depth]
  have : PyData.depthAll xs ≤ n := by
    have e := depthAll_le n xs
    rw [← decide_eq_true_eq (p := PyData.depthAll xs ≤ n), e, List.all_eq_true]
    intro x hx
    simpa using h x hx
  omega
theorem depth_list (h : ∀ x ∈ xs, x.depth ≤ n) : (PyData.list xs).depth ≤ n + 1 := by
  have := depth_tuple h
  simpa only [PyData.depth] using this
theorem G.tuple (a : G n w xs) : okR (.tuple xs) = true ∧ DL.wt (.tuple xs) ≤ w + 3 ∧ (PyData.tuple xs).depth ≤ n + 1 := ⟨by simpa only [okR] using a.ok, by simp only [DL.wt]; have := a.wt; omega, depth_tuple a.dp⟩
theorem G.list (a : G n w xs) : okR (.list xs) = true ∧ DL.wt (.list xs) ≤ w + 3 ∧ (PyData.list xs).depth ≤ n + 1 := ⟨by simpa only [okR] using a.ok, by simp only [DL.wt]; have := a.wt; omega, depth_list a.dp⟩
theorem G.ints {ns : List Int} (h : ∀ k ∈ ns, -1000 ≤ k ∧ k ≤ 1000) : G 0 (23 * ns.length) (ns.map .int) := by
  induction ns with
  | nil => exact .nil
  | cons k ns ih =>
    have hk := h k (by simp)
    have := (G.one (n := 0) (w := 23) (x := .int k) (by simp only [okR, decide_eq_true_eq]; omega) (by simp only [DL.wt]; omega) (by simp only [PyData.depth]; omega)).append (ih fun j hj => h j (List.mem_cons_of_mem _ hj))
    simp only [List.map_cons, List.length_cons]
    exact this.mono (Nat.le_refl _) (by omega)
end DL

set_option Elab.async false
set_option linter.all false
set_option maxRecDepth 100000
set_option maxHeartbeats 4000000
/-! WL0: the mirrors stepped through from the front (for simp): what follows stays closed until it is reached. -/
namespace DL0
open PySem L2 DL

/-- r ends, with Q -/
def OV {α : Type} (r : Option α) (Q : α → Prop) : Prop := ∃ a, r = some a ∧ Q a
section
variable {α β : Type} {r r' : Option α} {Q Q' : α → Prop}
theorem OV_congr (h : r = r') : OV r Q = OV r' Q := by rw [h]
@[simp] theorem OV_some (a : α) : OV (some a) Q = Q a := propext ⟨fun ⟨_, h, q⟩ => (by cases h; exact q), fun q => ⟨a, rfl, q⟩⟩
@[simp] theorem OV_none : OV (none : Option α) Q = False := propext ⟨fun ⟨_, h, _⟩ => (by cases h), False.elim⟩
@[simp] theorem OV_bind (f : β → Option α) (s : Option β) : OV (s.bind f) Q = OV s fun a => OV (f a) Q := by cases s <;> simp
@[simp] theorem OV_map (f : β → α) (s : Option β) : OV (s.map f) Q = OV s fun a => Q (f a) := by cases s <;> simp
@[simp] theorem OV_ite (c : Prop) [Decidable c] (a b : Option α) : OV (if c then a else b) Q = if c then OV a Q else OV b Q := by split <;> rfl
theorem OV.use {P : α → Prop} (h : OV r P) (k : ∀ a, P a → Q a) : OV r Q := by obtain ⟨a, h1, h2⟩ := h; exact ⟨a, h1, k a h2⟩
theorem OV.eq {c : α} (h : OV r fun q => q = c) : r = some c := by obtain ⟨a, h1, h2⟩ := h; rw [h1, h2]
theorem OV.of {c : α} (h : r = some c) (q : Q c) : OV r Q := ⟨c, h, q⟩
end

/-- f, read at the slots S, ends, with Q -/
def WP {β : Type} (f : List SD → Option β) (S : List SD) (Q : β → Prop) : Prop := OV (f S) Q
theorem WP_congr {β : Type} {f : List SD → Option β} {S S' : List SD} {Q : β → Prop} (h : S = S') : WP f S Q = WP f S' Q := by rw [h]
theorem WP.use {β : Type} {f : List SD → Option β} {S : List SD} {P Q : β → Prop} (h : WP f S P) (k : ∀ a, P a → Q a) : WP f S Q := OV.use h k
/-- a target -/
def WG (g : GS) (x : PyData) (S : List SD) (Q : List SD → Prop) : Prop := OV (g x S) Q
theorem WG_congr {g : GS} {x x' : PyData} {S S' : List SD} {Q : List SD → Prop} (hx : x = x') (h : S = S') : WG g x S Q = WG g x' S' Q := by rw [h, hx]
def WGs (g : List PyData → List SD → Option (List SD)) (x : List PyData) (S : List SD) (Q : List SD → Prop) : Prop := OV (g x S) Q
theorem WGs_congr {g : List PyData → List SD → Option (List SD)} {x x' : List PyData} {S S' : List SD} {Q : List SD → Prop} (hx : x = x') (h : S = S') : WGs g x S Q = WGs g x' S' Q := by rw [h, hx]
section
variable {S : List SD} {Q : Op × List SD → Prop} {QB : Bool × List SD → Prop} {QA : List Op × List SD → Prop} {QL : List PyData × List SD → Prop} {QD : PyData × List SD → Prop} {QO : Out → Prop} {QV : SD × List SD → Prop} {QR : (Int × Int) × List SD → Prop} {QP : Option Int × List SD → Prop} {QG : List SD → Prop}
@[simp] theorem w_var (i : Nat) : WP (sVar i) S Q = (sdTold (S[i]?) = true ∧ Q (.slot i, S)) := by
  show OV (if sdTold (S[i]?) = true then some (Op.slot i, S) else none) Q = _
  by_cases h : sdTold (S[i]?) = true <;> simp [h]
@[simp] theorem w_c (x : PyData) : WP (sC x) S Q = Q (.dat x, S) := OV_some _
@[simp] theorem w_take (f : ES) : WP (sTake f) S QD = WP f S fun p => OV (takeO p.2 p.1) QD := OV_bind _ _
@[simp] theorem w_dat (f : DS) : WP (sDat f) S Q = WP f S fun p => Q (.dat p.1, p.2) := OV_map _ _
@[simp] theorem w_keep (f : LS) : WP (sKeep f) S Q = WP f S fun p => Q (.dat (.list p.1), p.2) := OV_map _ _
@[simp] theorem w_nil : WP sNil S QA = QA ([], S) := OV_some _
@[simp] theorem w_cons (f : ES) (g : AS) : WP (sCons f g) S QA = WP f S fun p => WP g p.2 fun q => QA (p.1 :: q.1, q.2) := by
  show OV ((f S).bind fun p => (g p.2).map fun q => (p.1 :: q.1, q.2)) QA = _
  simp only [OV_bind, OV_map]; rfl
@[simp] theorem w_bin (g : PyData → PyData → Option PyData) (f f' : ES) : WP (sBin g f f') S Q = WP f S fun p => WP f' p.2 fun q => OV (p.1.get q.2) fun x => OV (q.1.get q.2) fun y => OV (g x y) fun z => Q (.dat z, q.2) := by
  show OV ((f S).bind fun p => (f' p.2).bind fun q => (p.1.get q.2).bind fun x => (q.1.get q.2).bind fun y => (g x y).map fun z => (Op.dat z, q.2)) Q = _
  simp only [OV_bind, OV_map]; rfl
@[simp] theorem w_binL (g : PyData → PyData → Option (List PyData)) (f f' : ES) : WP (sBinL g f f') S QL = WP f S fun p => WP f' p.2 fun q => OV (p.1.get q.2) fun x => OV (q.1.get q.2) fun y => OV (g x y) fun z => QL (z, q.2) := by
  show OV ((f S).bind fun p => (f' p.2).bind fun q => (p.1.get q.2).bind fun x => (q.1.get q.2).bind fun y => (g x y).map fun z => (z, q.2)) QL = _
  simp only [OV_bind, OV_map]; rfl
@[simp] theorem w_test (f : ES) : WP (sTest f) S QB = WP f S fun p => OV (p.1.get p.2) fun x => OV (dBool x) fun b => QB (b, p.2) := by
  show OV ((f S).bind fun p => (p.1.get p.2).bind fun x => (dBool x).map fun b => (b, p.2)) QB = _
  simp only [OV_bind, OV_map]; rfl
@[simp] theorem w_and (f g : BS) : WP (sAnd f g) S QB = WP f S fun p => if p.1 = true then WP g p.2 QB else QB (false, p.2) := by
  show OV ((f S).bind fun p => if p.1 = true then g p.2 else some (false, p.2)) QB = _
  simp only [OV_bind, OV_ite, OV_some]; rfl
@[simp] theorem w_or (f g : BS) : WP (sOr f g) S QB = WP f S fun p => if p.1 = true then QB (true, p.2) else WP g p.2 QB := by
  show OV ((f S).bind fun p => if p.1 = true then some (true, p.2) else g p.2) QB = _
  simp only [OV_bind, OV_ite, OV_some]; rfl
@[simp] theorem w_not (f : BS) : WP (sNot f) S QB = WP f S fun p => QB (!p.1, p.2) := OV_map _ _
@[simp] theorem w_andV (f g : ES) : WP (sAndV f g) S Q = WP f S fun p => OV (p.1.get p.2) fun x => OV (dBool x) fun c => if c = true then WP g p.2 Q else Q (.dat (.bool false), p.2) := by
  show OV ((f S).bind fun p => (p.1.get p.2).bind fun x => (dBool x).bind fun c => if c = true then g p.2 else some (.dat (.bool false), p.2)) Q = _
  simp only [OV_bind, OV_ite, OV_some]; rfl
@[simp] theorem w_orV (f g : ES) : WP (sOrV f g) S Q = WP f S fun p => OV (p.1.get p.2) fun x => OV (dBool x) fun c => if c = true then Q (.dat (.bool true), p.2) else WP g p.2 Q := by
  show OV ((f S).bind fun p => (p.1.get p.2).bind fun x => (dBool x).bind fun c => if c = true then some (.dat (.bool true), p.2) else g p.2) Q = _
  simp only [OV_bind, OV_ite, OV_some]; rfl
@[simp] theorem w_notV (f : ES) : WP (sNotV f) S Q = WP f S fun p => OV (p.1.get p.2) fun x => OV (dBool x) fun c => Q (.dat (.bool (!c)), p.2) := by
  show OV ((f S).bind fun p => (p.1.get p.2).bind fun x => (dBool x).map fun c => (.dat (.bool (!c)), p.2)) Q = _
  simp only [OV_bind, OV_map]; rfl
@[simp] theorem w_if {α : Type} (t : BS) (f g : List SD → Option α) {Q : α → Prop} : WP (sIf t f g) S Q = WP t S fun p => if p.1 = true then WP f p.2 Q else WP g p.2 Q := by
  show OV ((t S).bind fun p => if p.1 = true then f p.2 else g p.2) Q = _
  simp only [OV_bind, OV_ite]; rfl
@[simp] theorem w_chain (g g' : PyData → PyData → Option PyData) (f f' f'' : ES) : WP (sChain g g' f f' f'') S Q = WP f S fun p => WP f' p.2 fun q => OV (p.1.get q.2) fun x => OV (q.1.get q.2) fun y => OV (g x y) fun z => OV (dBool z) fun k =>
    if k = true then WP f'' q.2 fun s => OV (q.1.get s.2) fun y' => OV (s.1.get s.2) fun w => OV (g' y' w) fun z' => Q (.dat z', s.2) else Q (.dat (.bool false), q.2) := by
  show OV ((f S).bind fun p => (f' p.2).bind fun q => (p.1.get q.2).bind fun x => (q.1.get q.2).bind fun y => (g x y).bind fun z => (dBool z).bind fun k =>
    if k = true then (f'' q.2).bind fun s => (q.1.get s.2).bind fun y' => (s.1.get s.2).bind fun w => (g' y' w).map fun z' => (.dat z', s.2) else some (.dat (.bool false), q.2)) Q = _
  simp only [OV_bind, OV_ite, OV_map, OV_some]; rfl
@[simp] theorem w_un (g : PyData → Option PyData) (f : ES) : WP (sUn g f) S Q = WP f S fun p => OV (p.1.get p.2) fun x => OV (g x) fun z => Q (.dat z, p.2) := by
  show OV ((f S).bind fun p => (p.1.get p.2).bind fun x => (g x).map fun z => (.dat z, p.2)) Q = _
  simp only [OV_bind, OV_map]; rfl
@[simp] theorem w_tup (f : AS) : WP (sTup f) S Q = WP f S fun p => OV (takeAll p.2 p.1) fun q => q.1.length ≤ 100000 ∧ Q (.dat (.tuple q.1), q.2) := by
  show OV ((f S).bind fun p => (takeAll p.2 p.1).bind fun q => if q.1.length ≤ 100000 then some (.dat (.tuple q.1), q.2) else none) Q = _
  simp only [OV_bind]
  refine congrArg (OV (f S)) (funext fun p => congrArg (OV _) (funext fun q => ?_))
  by_cases h : q.1.length ≤ 100000 <;> simp [h]
@[simp] theorem w_lst (f : AS) : WP (sLst f) S QL = WP f S fun p => OV (takeAll p.2 p.1) fun q => q.1.length ≤ 100000 ∧ QL (q.1, q.2) := by
  show OV ((f S).bind fun p => (takeAll p.2 p.1).bind fun q => if q.1.length ≤ 100000 then some (q.1, q.2) else none) QL = _
  simp only [OV_bind]
  refine congrArg (OV (f S)) (funext fun p => congrArg (OV _) (funext fun q => ?_))
  by_cases h : q.1.length ≤ 100000 <;> simp [h]
@[simp] theorem w_cb (g : List PyData → Option PyData) (f : AS) : WP (sCB g f) S Q = WP f S fun p => OV (getAll p.2 p.1) fun xs => OV (g xs) fun z => Q (.dat z, p.2) := by
  show OV ((f S).bind fun p => (getAll p.2 p.1).bind fun xs => (g xs).map fun z => (.dat z, p.2)) Q = _
  simp only [OV_bind, OV_map]; rfl
@[simp] theorem w_cbl (g : List PyData → Option (List PyData)) (f : AS) : WP (sCBL g f) S QL = WP f S fun p => OV (getAll p.2 p.1) fun xs => OV (g xs) fun z => QL (z, p.2) := by
  show OV ((f S).bind fun p => (getAll p.2 p.1).bind fun xs => (g xs).map fun z => (z, p.2)) QL = _
  simp only [OV_bind, OV_map]; rfl
@[simp] theorem w_next : WP sNext S QO = QO (.nx S) := OV_some _
@[simp] theorem w_break : WP sBreak S QO = QO (.bk S) := OV_some _
@[simp] theorem w_cont : WP sCont S QO = QO (.ct S) := OV_some _
@[simp] theorem w_never : WP sNever S QO = False := OV_none
@[simp] theorem w_drop (f : ES) : WP (sDrop f) S QO = WP f S fun p => QO (.nx p.2) := OV_map _ _
@[simp] theorem w_ret (f : DS) : WP (sRet f) S QO = WP f S fun p => QO (.rt (.d p.1) p.2) := OV_map _ _
@[simp] theorem w_retL (f : LS) : WP (sRetL f) S QO = WP f S fun p => QO (.rt (.own false p.1) p.2) := OV_map _ _
@[simp] theorem w_retV (i : Nat) : WP (sRetV i) S QO = OV (retS S i (S[i]?)) QO := rfl
@[simp] theorem w_retN : WP sRetN S QO = QO (.rt (.d .none) S) := OV_some _
@[simp] theorem w_asg (f : DS) (g : GS) : WP (sAsg f g) S QO = WP f S fun p => WG g p.1 p.2 fun S1 => QO (.nx S1) := by
  show OV ((f S).bind fun p => (g p.1 p.2).map fun S1 => .nx S1) QO = _
  simp only [OV_bind, OV_map]; rfl
@[simp] theorem w_asgL (f : LS) (i : Nat) : WP (sAsgL f i) S QO = WP f S fun p => QO (.nx (p.2.set i (.own false p.1))) := OV_map _ _
/-- what follows a statement -/
def WO (g : SSem) (Q : Out → Prop) : Out → Prop
  | .nx S => WP g S Q
  | o => Q o
@[simp] theorem wo_nx (g : SSem) : WO g QO (.nx S) = WP g S QO := rfl
@[simp] theorem wo_bk (g : SSem) : WO g QO (.bk S) = QO (.bk S) := rfl
@[simp] theorem wo_ct (g : SSem) : WO g QO (.ct S) = QO (.ct S) := rfl
@[simp] theorem wo_rt (g : SSem) (r : SD) : WO g QO (.rt r S) = QO (.rt r S) := rfl
@[simp] theorem w_seq (f g : SSem) : WP (sSeq f g) S QO = WP f S (WO g QO) := by
  show OV ((f S).bind fun o => match o with
    | .nx S1 => g S1
    | o => some o) QO = OV (f S) (WO g QO)
  rw [OV_bind]
  refine congrArg (OV (f S)) (funext fun o => ?_)
  cases o <;> first | rfl | exact OV_some _
@[simp] theorem w_yes : WP sYes S QB = QB (true, S) := OV_some _
@[simp] theorem w_app (n k : Nat) (f g : AS) : WP (sApp n k f g) S QA = WP f S fun p => WP g p.2 fun q => (p.1.length = n ∧ q.1.length = k) ∧ QA (p.1 ++ q.1, q.2) := by
  show OV ((f S).bind fun p => (g p.2).bind fun q => if p.1.length = n ∧ q.1.length = k then some (p.1 ++ q.1, q.2) else none) QA = _
  simp only [OV_bind]
  refine congrArg (OV (f S)) (funext fun p => congrArg (OV _) (funext fun q => ?_))
  by_cases h : p.1.length = n ∧ q.1.length = k <;> simp [h]
@[simp] theorem w_callR (n : Nat) (m : Fn) (f : AS) : WP (sCallR n m f) S QV = WP f S fun p => OV (opSDs p.2 p.1) fun Dl => (p.1.length = n ∧ (ownIx p.2 p.1).Nodup) ∧ OV (m Dl) fun q => QV (q.1, wbGo p.1 q.2 0 p.2) := by
  show OV ((f S).bind fun p => (opSDs p.2 p.1).bind fun Dl => if p.1.length = n ∧ (ownIx p.2 p.1).Nodup then (m Dl).map fun q => (q.1, wbGo p.1 q.2 0 p.2) else none) QV = _
  simp only [OV_bind]
  refine congrArg (OV (f S)) (funext fun p => congrArg (OV _) (funext fun Dl => ?_))
  by_cases h : p.1.length = n ∧ (ownIx p.2 p.1).Nodup
  · rw [if_pos h, OV_map]; simp [h]
  · rw [if_neg h]; simp [h]
@[simp] theorem w_perm (pm : List Nat) (f : AS) : WP (sPerm pm f) S QA = WP f S fun p => QA (perm pm p.1, p.2) := OV_map _ _
@[simp] theorem w_call (n : Nat) (m : Fn) (f : AS) : WP (sCall n m f) S Q = WP (sCallR n m f) S fun p => OV (resD p.1) fun x => Q (.dat x, p.2) := by
  show OV ((sCallR n m f S).bind fun p => (resD p.1).map fun x => (.dat x, p.2)) Q = _
  simp only [OV_bind, OV_map]; rfl
@[simp] theorem w_callL (n : Nat) (m : Fn) (f : AS) : WP (sCallL n m f) S QL = WP (sCallR n m f) S fun p => OV (resL p.1) fun x => QL (x, p.2) := by
  show OV ((sCallR n m f S).bind fun p => (resL p.1).map fun x => (x, p.2)) QL = _
  simp only [OV_bind, OV_map]; rfl
@[simp] theorem w_callF (m : Fn) (f : LS) : WP (sCallF m f) S Q = WP f S fun p => OV (m [.own true p.1]) fun q => OV (onlyD q.1) fun x => Q (.dat x, p.2) := by
  show OV ((f S).bind fun p => (m [.own true p.1]).bind fun q => (onlyD q.1).map fun x => (.dat x, p.2)) Q = _
  simp only [OV_bind, OV_map]; rfl
@[simp] theorem onlyD_d (x : PyData) : onlyD (.d x) = some x := rfl
@[simp] theorem w_isi (T : Tg) (f : ES) : WP (sIsi T f) S Q = WP f S fun p => OV (p.1.get p.2) fun x => OV (isTy T x) fun b => Q (.dat (.bool b), p.2) := by
  show OV ((f S).bind fun p => (p.1.get p.2).bind fun x => (isTy T x).map fun b => (.dat (.bool b), p.2)) Q = _
  simp only [OV_bind, OV_map]; rfl
@[simp] theorem w_isi2 (T U : Tg) (f : ES) : WP (sIsi2 T U f) S Q = WP f S fun p => OV (p.1.get p.2) fun x => OV (isTy T x) fun b => OV (isTy U x) fun c => Q (.dat (.bool (b || c)), p.2) := by
  show OV ((f S).bind fun p => (p.1.get p.2).bind fun x => (isTy T x).bind fun b => (isTy U x).map fun c => (.dat (.bool (b || c)), p.2)) Q = _
  simp only [OV_bind, OV_map]; rfl
@[simp] theorem w_seqI (f : DS) : WP (sSeqI f) S QL = WP f S fun p => OV (dItems p.1) fun xs => QL (xs, p.2) := by
  show OV ((f S).bind fun p => (dItems p.1).map fun xs => (xs, p.2)) QL = _
  simp only [OV_bind, OV_map]; rfl
@[simp] theorem w_takeA (f : AS) {Q : List PyData × List SD → Prop} : WP (sTakeA f) S Q = WP f S fun p => OV (takeAll p.2 p.1) Q := OV_bind _ _
@[simp] theorem w_argI (g : List PyData → Option (List PyData)) (f : AS) : WP (sArgI g f) S QL = WP (sTakeA f) S fun p => OV (g p.1) fun xs => QL (xs, p.2) := by
  show OV ((sTakeA f S).bind fun p => (g p.1).map fun xs => (xs, p.2)) QL = _
  simp only [OV_bind, OV_map]; rfl
@[simp] theorem w_noPart : WP sNoPart S QP = QP (none, S) := OV_some _
@[simp] theorem w_part (f : ES) : WP (sPart f) S QP = WP f S fun p => OV (p.1.get p.2) fun x => OV (dIntO x) fun i => QP (some i, p.2) := by
  show OV ((f S).bind fun p => (p.1.get p.2).bind fun x => (dIntO x).map fun i => (some i, p.2)) QP = _
  simp only [OV_bind, OV_map]; rfl
@[simp] theorem w_slice (f : ES) (fl fh : OS) : WP (sSlice f fl fh) S Q = WP f S fun p => WP fl p.2 fun q => WP fh q.2 fun r => OV (p.1.get r.2) fun x => OV (dCut x q.1 r.1) fun z => Q (.dat z, r.2) := by
  show OV ((f S).bind fun p => (fl p.2).bind fun q => (fh q.2).bind fun r => (p.1.get r.2).bind fun x => (dCut x q.1 r.1).map fun z => (.dat z, r.2)) Q = _
  simp only [OV_bind, OV_map]; rfl
@[simp] theorem w_sliceL (f : ES) (fl fh : OS) : WP (sSliceL f fl fh) S QL = WP f S fun p => WP fl p.2 fun q => WP fh q.2 fun r => OV (p.1.get r.2) fun x => OV (dCutL x q.1 r.1) fun z => QL (z, r.2) := by
  show OV ((f S).bind fun p => (fl p.2).bind fun q => (fh q.2).bind fun r => (p.1.get r.2).bind fun x => (dCutL x q.1 r.1).map fun z => (z, r.2)) QL = _
  simp only [OV_bind, OV_map]; rfl
@[simp] theorem w_vD (f : DS) : WP (vD f) S QV = WP f S fun p => QV (.d p.1, p.2) := OV_map _ _
@[simp] theorem w_vL (f : LS) : WP (vL f) S QV = WP f S fun p => QV (.own false p.1, p.2) := OV_map _ _
@[simp] theorem w_vLCt (f : LS) : WP (vLC true f) S QV = WP (vD (sTake (sKeep f))) S QV := rfl
@[simp] theorem w_vLCf (f : LS) : WP (vLC false f) S QV = WP (vL f) S QV := rfl
@[simp] theorem w_setV (f : VS) (i : Nat) : WP (sSetV f i) S QO = WP f S fun p => QO (.nx (p.2.set i p.1)) := OV_map _ _
@[simp] theorem w_retVS (f : VS) : WP (sRetVS f) S QO = WP f S fun p => QO (.rt p.1 p.2) := OV_map _ _
@[simp] theorem w_par (i j : Nat) (f g : VS) : WP (sPar i j f g) S QO = WP f S fun p => WP (asideV p.1 g) p.2 fun q => QO (.nx ((q.2.set i p.1).set j q.1)) := by
  show OV ((f S).bind fun p => (asideV p.1 g p.2).map fun q => .nx ((q.2.set i p.1).set j q.1)) QO = _
  simp only [OV_bind, OV_map]; rfl
/-- a value read beside another one -/
def WAs (s : SD) (g : VS) (S : List SD) (Q : SD × List SD → Prop) : Prop := OV (asideV s g S) Q
@[simp] theorem w_asideD (x : PyData) (g : VS) : WP (asideV (.d x) g) S QV = WP g S QV := rfl
@[simp] theorem w_asideO (b : Bool) (xs : OB) (g : VS) : WP (asideV (.own b xs) g) S QV = WP g (borGo [] 0 S) fun p => QV (p.1, unbGo [] 0 S p.2) := OV_map _ _
@[simp] theorem w_index (fo fa : ES) : WP (sIndex fo fa) S Q = WP fo S fun p => OV (p.1.get p.2) fun l => isList l = true ∧ WP fa p.2 fun q => OV (p.1.get q.2) fun x => OV (q.1.get q.2) fun y => OV (dIndex x y) fun z => Q (.dat z, q.2) := by
  show OV ((fo S).bind fun p => (p.1.get p.2).bind fun l => if isList l = true then (fa p.2).bind fun q => (p.1.get q.2).bind fun x => (q.1.get q.2).bind fun y => (dIndex x y).map fun z => (.dat z, q.2) else none) Q = _
  simp only [OV_bind]
  refine congrArg (OV (fo S)) (funext fun p => congrArg (OV _) (funext fun l => ?_))
  by_cases h : isList l = true
  · rw [if_pos h]; simp only [OV_bind, OV_map, h, true_and]; rfl
  · rw [if_neg h]; simp [h]
@[simp] theorem w_rg1 (f : ES) : WP (sRg1 f) S QR = WP f S fun p => OV (p.1.get p.2) fun x => OV (dIntO x) fun n => QR ((0, n), p.2) := by
  show OV ((f S).bind fun p => (p.1.get p.2).bind fun x => (dIntO x).map fun n => ((0, n), p.2)) QR = _
  simp only [OV_bind, OV_map]; rfl
@[simp] theorem w_rg2 (f g : ES) : WP (sRg2 f g) S QR = WP f S fun p => WP g p.2 fun q => OV (p.1.get q.2) fun x => OV (q.1.get q.2) fun y => OV (dIntO x) fun n => OV (dIntO y) fun m => QR ((n, m), q.2) := by
  show OV ((f S).bind fun p => (g p.2).bind fun q => (p.1.get q.2).bind fun x => (q.1.get q.2).bind fun y => (dIntO x).bind fun n => (dIntO y).map fun m => ((n, m), q.2)) QR = _
  simp only [OV_bind, OV_map]; rfl
@[simp] theorem w_lstRg (f : RS) : WP (sLstRg f) S QL = WP f S fun p => rgB p.1.1 p.1.2 = true ∧ QL (rngD p.1.1 (p.1.2 - p.1.1).toNat, p.2) := by
  show OV ((f S).bind fun p => if rgB p.1.1 p.1.2 = true then some (rngD p.1.1 (p.1.2 - p.1.1).toNat, p.2) else none) QL = _
  simp only [OV_bind]
  refine congrArg (OV (f S)) (funext fun p => ?_)
  by_cases h : rgB p.1.1 p.1.2 = true <;> simp [h]
@[simp] theorem w_tupRg (f : RS) : WP (sTupRg f) S Q = WP f S fun p => rgB p.1.1 p.1.2 = true ∧ Q (.dat (.tuple (rngD p.1.1 (p.1.2 - p.1.1).toNat)), p.2) := by
  show OV ((f S).bind fun p => if rgB p.1.1 p.1.2 = true then some (.dat (.tuple (rngD p.1.1 (p.1.2 - p.1.1).toNat)), p.2) else none) Q = _
  simp only [OV_bind]
  refine congrArg (OV (f S)) (funext fun p => ?_)
  by_cases h : rgB p.1.1 p.1.2 = true <;> simp [h]
@[simp] theorem w_dict0 : WP sDict0 S Q = Q (.dat (.dict []), S) := OV_some _
@[simp] theorem w_par3 (i j l : Nat) (f : AS) : WP (sPar3 i j l f) S QO = WP (sTakeA f) S fun p => OV (set3 i j l p.2 p.1) QO := OV_bind _ _
@[simp] theorem set3_3 (i j l : Nat) (x y z : PyData) : set3 i j l S [x, y, z] = some (.nx (((S.set i (.d x)).set j (.d y)).set l (.d z))) := rfl
/-! a method -/
def WM (i : Nat) (g : List PyData → List PyData → Option (PyData × List PyData)) (p : List PyData × List SD) (Q : Op × List SD → Prop) : Option SD → Prop
  | some (.own b (.lst xs)) => OV (g xs p.1) fun z => Q (.dat z.1, p.2.set i (.own b (.lst z.2)))
  | _ => False
@[simp] theorem wm_o (i : Nat) (g : List PyData → List PyData → Option (PyData × List PyData)) (p : List PyData × List SD) (b : Bool) (xs : List PyData) : WM i g p Q (some (.own b (.lst xs))) = OV (g xs p.1) fun z => Q (.dat z.1, p.2.set i (.own b (.lst z.2))) := rfl
@[simp] theorem w_meth (i : Nat) (g : List PyData → List PyData → Option (PyData × List PyData)) (f : AS) : WP (sMeth i g f) S Q = (isLstS (S[i]?) = true ∧ WP (sTakeA f) S fun p => WM i g p Q (p.2[i]?)) := by
  unfold WP sMeth
  cases q : S[i]? with
  | none => simp [isLstS]
  | some s =>
    cases s with
    | own b ob => cases ob with
      | dct t kvs => simp [isLstS]
      | lst xs =>
        simp only [isLstS, OV_bind, true_and]
        refine congrArg (OV _) (funext fun p => ?_)
        unfold WM
        cases z : p.2[i]? with
        | none => simp
        | some t => cases t with
          | own c o => cases o <;> simp
          | _ => simp
    | _ => simp [isLstS]
/-! targets -/
@[simp] theorem wg_name (i : Nat) (x : PyData) : WG (gsName i) x S QG = QG (S.set i (.d x)) := OV_some _
@[simp] theorem wg_tup (n : Nat) (g : List PyData → List SD → Option (List SD)) (x : PyData) : WG (gsTup n g) x S QG = OV (dTup x) fun xs => xs.length = n ∧ WGs g xs S QG := by
  show OV ((dTup x).bind fun xs => if xs.length = n then g xs S else none) QG = _
  simp only [OV_bind]
  refine congrArg (OV _) (funext fun xs => ?_)
  by_cases h : xs.length = n
  · rw [if_pos h]; simp only [h, true_and]; rfl
  · rw [if_neg h]; simp [h]
@[simp] theorem wg_sub (i : Nat) (f : ES) (x : PyData) : WG (gsSub i f) x S QG = (isOwnS (S[i]?) = true ∧ WP f S fun p => OV (p.1.get p.2) fun y => OV (dIntO y) fun k => OV (setAt i x k p.2 (p.2[i]?)) QG) := by
  show OV (if isOwnS (S[i]?) = true then (f S).bind fun p => (p.1.get p.2).bind fun y => (dIntO y).bind fun k => setAt i x k p.2 (p.2[i]?) else none) QG = _
  by_cases h : isOwnS (S[i]?) = true
  · rw [if_pos h]; simp only [OV_bind, h, true_and]; rfl
  · rw [if_neg h]; simp [h]
@[simp] theorem wg_nil : WGs gsNil [] S QG = QG S := OV_some _
@[simp] theorem wg_cons (g : GS) (gs : List PyData → List SD → Option (List SD)) (x : PyData) (xs : List PyData) : WGs (gsCons g gs) (x :: xs) S QG = WG g x S fun S1 => WGs gs xs S1 QG := OV_bind _ _
end

/-! ### comprehensions -/
def WLc (vs : List Nat) (gs : GS) (fc : BS) (fd : DS) (xs : List PyData) (S : List SD) (Q : List PyData × List SD → Prop) : Prop := OV (lcGo vs gs fc fd xs S) Q
def WLS (vs : List Nat) (gs : GS) (fc : BS) (fd : DS) (x : PyData) (S : List SD) (Q : Option PyData × List SD → Prop) : Prop := OV (lcStep vs gs fc fd x S) Q
section
variable {vs : List Nat} {gs : GS} {fc : BS} {fd : DS} {xs xs' : List PyData} {x x' : PyData} {S S' : List SD} {Q : List PyData × List SD → Prop} {QS : Option PyData × List SD → Prop}
theorem WLc_congr (hx : xs = xs') (h : S = S') : WLc vs gs fc fd xs S Q = WLc vs gs fc fd xs' S' Q := by rw [h, hx]
theorem WLS_congr (hx : x = x') (h : S = S') : WLS vs gs fc fd x S QS = WLS vs gs fc fd x' S' QS := by rw [h, hx]
@[simp] theorem w_lc (fi : LS) : WP (sLC vs fi gs fc fd) S Q = WP fi S fun p => p.1.length < 100000 ∧ WLc vs gs fc fd p.1 p.2 Q := by
  show OV ((fi S).bind fun p => if p.1.length < 100000 then lcGo vs gs fc fd p.1 p.2 else none) Q = _
  simp only [OV_bind]
  refine congrArg (OV _) (funext fun p => ?_)
  by_cases h : p.1.length < 100000
  · rw [if_pos h]; simp only [h, true_and]; rfl
  · rw [if_neg h]; simp [h]
@[simp] theorem w_ls : WLS vs gs fc fd x S QS = WG gs x (borGo vs 0 S) fun S1 => WP fc S1 fun p => if p.1 = true then WP fd p.2 fun q => QS (some q.1, unbGo vs 0 S q.2) else QS (none, unbGo vs 0 S p.2) := by
  show OV ((gs x (borGo vs 0 S)).bind fun S1 => (fc S1).bind fun p => if p.1 = true then (fd p.2).map fun q => (some q.1, unbGo vs 0 S q.2) else some (none, unbGo vs 0 S p.2)) QS = _
  simp only [OV_bind, OV_ite, OV_map, OV_some]; rfl
@[simp] theorem w_lcNil : WLc vs gs fc fd [] S Q = Q ([], S) := OV_some _
@[simp] theorem w_lcCons : WLc vs gs fc fd (x :: xs) S Q = WLS vs gs fc fd x S fun p => WLc vs gs fc fd xs p.2 fun z => Q (p.1.toList ++ z.1, z.2) := by
  unfold WLc
  rw [lcGo_cons]
  simp only [OV_bind, OV_map]; rfl
/-- the slots stay: an item of F x each -/
theorem WLc.map (F : PyData → PyData) (h : ∀ x ∈ xs, WLS vs gs fc fd x S fun q => q = (some (F x), S)) (k : Q (xs.map F, S)) : WLc vs gs fc fd xs S Q :=
  ⟨_, lc_map F xs fun x hx => (h x hx).eq, k⟩
theorem WLc.fmap (F : PyData → Option PyData) (h : ∀ x ∈ xs, WLS vs gs fc fd x S fun q => q = (F x, S)) (k : Q (xs.filterMap F, S)) : WLc vs gs fc fd xs S Q :=
  ⟨_, lc_stable F xs fun x hx => (h x hx).eq, k⟩
/-- .. for a list that is itself a map -/
theorem WLc.mapOf {α : Type} {l : List α} (e : α → PyData) (F : α → PyData) (h : ∀ a ∈ l, WLS vs gs fc fd (e a) S fun q => q = (some (F a), S)) (k : Q (l.map F, S)) : WLc vs gs fc fd (l.map e) S Q := by
  refine ⟨_, ?_, k⟩
  clear k
  induction l with
  | nil => rfl
  | cons a l ih =>
    rw [List.map_cons, lcGo_cons, (h a (by simp)).eq]
    simp only [Option.bind_some]
    rw [ih fun b hb => h b (List.mem_cons_of_mem _ hb)]
    rfl
theorem WLc.fmapOf {α : Type} {l : List α} (e : α → PyData) (F : α → Option PyData) (h : ∀ a ∈ l, WLS vs gs fc fd (e a) S fun q => q = (F a, S)) (k : Q (l.filterMap F, S)) : WLc vs gs fc fd (l.map e) S Q := by
  refine ⟨_, ?_, k⟩
  clear k
  induction l with
  | nil => rfl
  | cons a l ih =>
    rw [List.map_cons, lcGo_cons, (h a (by simp)).eq]
    simp only [Option.bind_some]
    rw [ih fun b hb => h b (List.mem_cons_of_mem _ hb)]
    cases z : F a <;> simp [z]
/-- an invariant of what is gone through and what has come out -/
theorem WLc.inv (I : List PyData → List PyData → List SD → Prop) (h0 : I [] [] S) (h : ∀ pre x post ys S, xs = pre ++ x :: post → I pre ys S → WLS vs gs fc fd x S fun q => I (pre ++ [x]) (ys ++ q.1.toList) q.2) (k : ∀ ys S, I xs ys S → Q (ys, S)) : WLc vs gs fc fd xs S Q := by
  have key : ∀ (post pre ys : List PyData) (S : List SD), xs = pre ++ post → I pre ys S → ∃ zs S', lcGo vs gs fc fd post S = some (zs, S') ∧ I xs (ys ++ zs) S' := by
    intro post
    induction post with
    | nil => intro pre ys S e i; exact ⟨[], S, rfl, by rw [e]; simpa using i⟩
    | cons x post ih =>
      intro pre ys S e i
      obtain ⟨⟨o, S1⟩, h1, h2⟩ := h pre x post ys S e i
      obtain ⟨zs, S2, h3, h4⟩ := ih (pre ++ [x]) (ys ++ o.toList) S1 (by rw [e]; simp) h2
      refine ⟨o.toList ++ zs, S2, ?_, by rw [← List.append_assoc]; exact h4⟩
      rw [lcGo_cons, h1]
      simp only [Option.bind_some, h3, Option.map_some]
  obtain ⟨zs, S', h1, h2⟩ := key xs [] [] S rfl h0
  exact ⟨_, h1, k _ _ (by simpa using h2)⟩
end

/-! ### loops -/
def WFor (gs : GS) (fb : SSem) (xs : List PyData) (S : List SD) (Q : Out → Prop) : Prop := OV (forGo gs fb xs S) Q
/-- behind a turn: G what is next in the loop -/
def WT (G : List SD → Prop) (Q : Out → Prop) : Out → Prop
  | .nx S => G S
  | .ct S => G S
  | .bk S => Q (.nx S)
  | .rt r S => Q (.rt r S)
section
variable {gs : GS} {fb : SSem} {xs xs' : List PyData} {x x' : PyData} {S S' : List SD} {Q : Out → Prop} {G : List SD → Prop}
@[simp] theorem wt_nx : WT G Q (.nx S) = G S := rfl
@[simp] theorem wt_ct : WT G Q (.ct S) = G S := rfl
@[simp] theorem wt_bk : WT G Q (.bk S) = Q (.nx S) := rfl
@[simp] theorem wt_rt (r : SD) : WT G Q (.rt r S) = Q (.rt r S) := rfl
theorem WFor_congr (hx : xs = xs') (h : S = S') : WFor gs fb xs S Q = WFor gs fb xs' S' Q := by rw [h, hx]
@[simp] theorem w_for (fi : LS) : WP (sFor fi gs fb) S Q = WP fi S fun p => WFor gs fb p.1 p.2 Q := OV_bind _ _
@[simp] theorem w_forNil : WFor gs fb [] S Q = Q (.nx S) := OV_some _
@[simp] theorem w_forCons : WFor gs fb (x :: xs) S Q = WG gs x S fun S1 => WP fb S1 (WT (fun S2 => WFor gs fb xs S2 Q) Q) := by
  unfold WFor
  rw [forGo_cons, OV_bind]
  refine congrArg (OV _) (funext fun S1 => ?_)
  rw [OV_bind]
  refine congrArg (OV _) (funext fun o => ?_)
  cases o <;> first | rfl | exact OV_some _
theorem WFor.inv (I : List PyData → List SD → Prop) (h0 : I [] S) (h : ∀ pre x post S, xs = pre ++ x :: post → I pre S → WG gs x S fun S1 => WP fb S1 (WT (I (pre ++ [x])) Q)) (k : ∀ S, I xs S → Q (.nx S)) : WFor gs fb xs S Q := by
  have key : ∀ (post pre : List PyData) (S : List SD), xs = pre ++ post → I pre S → WFor gs fb post S Q := by
    intro post
    induction post with
    | nil => intro pre S e i; rw [w_forNil]; exact k S (by rw [e]; simpa using i)
    | cons x post ih =>
      intro pre S e i
      rw [w_forCons]
      refine OV.use (h pre x post S e i) fun S1 h1 => OV.use h1 fun o h2 => ?_
      cases o with
      | nx S2 => exact ih (pre ++ [x]) S2 (by rw [e]; simp) h2
      | ct S2 => exact ih (pre ++ [x]) S2 (by rw [e]; simp) h2
      | bk S2 => exact h2
      | rt r S2 => exact h2
  exact key xs [] S rfl h0
/-- .. over a list that is a map -/
theorem WFor.invOf {α : Type} {l : List α} (e : α → PyData) (I : List α → List SD → Prop) (h0 : I [] S) (h : ∀ pre a post S, l = pre ++ a :: post → I pre S → WG gs (e a) S fun S1 => WP fb S1 (WT (I (pre ++ [a])) Q)) (k : ∀ S, I l S → Q (.nx S)) : WFor gs fb (l.map e) S Q := by
  have key : ∀ (post pre : List α) (S : List SD), l = pre ++ post → I pre S → WFor gs fb (post.map e) S Q := by
    intro post
    induction post with
    | nil => intro pre S q i; rw [List.map_nil, w_forNil]; exact k S (by rw [q]; simpa using i)
    | cons x post ih =>
      intro pre S q i
      rw [List.map_cons, w_forCons]
      refine OV.use (h pre x post S q i) fun S1 h1 => OV.use h1 fun o h2 => ?_
      cases o with
      | nx S2 => exact ih (pre ++ [x]) S2 (by rw [q]; simp) h2
      | ct S2 => exact ih (pre ++ [x]) S2 (by rw [q]; simp) h2
      | bk S2 => exact h2
      | rt r S2 => exact h2
  exact key l [] S rfl h0
end
def WWh (ft : BS) (fb : SSem) (n : Nat) (S : List SD) (Q : Out → Prop) : Prop := OV (whileGo ft fb n S) Q
section
variable {ft : BS} {fb : SSem} {n : Nat} {S S' : List SD} {Q : Out → Prop}
theorem WWh_congr (h : S = S') : WWh ft fb n S Q = WWh ft fb n S' Q := by rw [h]
@[simp] theorem w_while : WP (sWhile n ft fb) S Q = WWh ft fb n S Q := rfl
/-- I k: at most k turns are left -/
theorem WWh.inv (I : Nat → List SD → Prop) (k0 : Nat) (h0 : I k0 S) (hk : k0 < n) (h : ∀ k S, I k S → WP ft S fun p => if p.1 = true then WP fb p.2 (WT (fun S2 => ∃ j, j < k ∧ I j S2) Q) else Q (.nx p.2)) : WWh ft fb n S Q := by
  have key : ∀ (n k : Nat) (S : List SD), k < n → I k S → WWh ft fb n S Q := by
    intro n
    induction n with
    | zero => intro k S hk; omega
    | succ n ih =>
      intro k S hk i
      unfold WWh
      show OV ((ft S).bind fun p => if p.1 = true then (fb p.2).bind fun o => match o with
        | .nx S2 => whileGo ft fb n S2
        | .ct S2 => whileGo ft fb n S2
        | .bk S2 => some (.nx S2)
        | .rt r S2 => some (.rt r S2) else some (.nx p.2)) Q
      rw [OV_bind]
      refine OV.use (h k S i) fun p hp => ?_
      rw [OV_ite]
      split
      · rename_i hc
        rw [if_pos hc] at hp
        rw [OV_bind]
        refine OV.use hp fun o h2 => ?_
        cases o with
        | nx S2 => obtain ⟨j, hj, i2⟩ := h2; exact ih j S2 (by omega) i2
        | ct S2 => obtain ⟨j, hj, i2⟩ := h2; exact ih j S2 (by omega) i2
        | bk S2 => rw [OV_some]; exact h2
        | rt r S2 => rw [OV_some]; exact h2
      · rename_i hc
        rw [if_neg hc] at hp
        rw [OV_some]; exact hp
  exact key n k0 S hk h0
end

/-! ### defs -/
theorem OV_defn (N : Nat) (f : SSem) (Dl : List SD) {Q : SD × List SD → Prop} : OV (defn N f Dl) Q = WP f (Dl ++ List.replicate (N - Dl.length) .un) fun o => OV (defOut Dl o) Q := OV_bind _ _
end DL0

set_option Elab.async false
set_option linter.all false
set_option maxRecDepth 100000
set_option maxHeartbeats 4000000
/-! WL: the mirrors stepped through from the front (for simp): what follows stays closed until it is reached. -/
namespace DL
open PySem L2

/-- keeps simp out of what follows: an argument on which another one's type leans stays as it is -/
inductive Kt {α : Type} (Q : α → Prop) : Type
  | mk
/-- r ends, with Q -/
def OV {α : Type} (r : Option α) (Q : α → Prop) (d : Kt Q := .mk) : Prop := DL0.OV r Q
section
variable {α β : Type} {r r' : Option α} {Q Q' : α → Prop}
@[simp] theorem OV_some (a : α) : OV (some a) Q = Q a := by apply DL0.OV_some
@[simp] theorem OV_none : OV (none : Option α) Q = False := by apply DL0.OV_none
@[simp] theorem OV_bind (f : β → Option α) (s : Option β) : OV (s.bind f) Q = OV s fun a => OV (f a) Q := by apply DL0.OV_bind
@[simp] theorem OV_map (f : β → α) (s : Option β) : OV (s.map f) Q = OV s fun a => Q (f a) := by apply DL0.OV_map
@[simp] theorem OV_ite (c : Prop) [Decidable c] (a b : Option α) : OV (if c then a else b) Q = if c then OV a Q else OV b Q := by apply DL0.OV_ite
theorem OV.use {P : α → Prop} (h : OV r P) (k : ∀ a, P a → Q a) : OV r Q := by obtain ⟨a, h1, h2⟩ := h; exact ⟨a, h1, k a h2⟩
theorem OV.eq {c : α} (h : OV r fun q => q = c) : r = some c := by obtain ⟨a, h1, h2⟩ := h; rw [h1, h2]
theorem OV.of {c : α} (h : r = some c) (q : Q c) : OV r Q := ⟨c, h, q⟩
end

/-- f, read at the slots S, ends, with Q -/
def WP {β : Type} (f : List SD → Option β) (S : List SD) (Q : β → Prop) (d : Kt Q := .mk) : Prop := DL0.WP f S Q
theorem WP.use {β : Type} {f : List SD → Option β} {S : List SD} {P Q : β → Prop} (h : WP f S P) (k : ∀ a, P a → Q a) : WP f S Q := OV.use h k
/-- a target -/
def WG (g : GS) (x : PyData) (S : List SD) (Q : List SD → Prop) (d : Kt Q := .mk) : Prop := DL0.WG g x S Q
def WGs (g : List PyData → List SD → Option (List SD)) (x : List PyData) (S : List SD) (Q : List SD → Prop) (d : Kt Q := .mk) : Prop := DL0.WGs g x S Q
section
variable {S : List SD} {Q : Op × List SD → Prop} {QB : Bool × List SD → Prop} {QA : List Op × List SD → Prop} {QL : List PyData × List SD → Prop} {QD : PyData × List SD → Prop} {QO : Out → Prop} {QV : SD × List SD → Prop} {QR : (Int × Int) × List SD → Prop} {QP : Option Int × List SD → Prop} {QG : List SD → Prop}
@[simp] theorem w_var (i : Nat) : WP (sVar i) S Q = (sdTold (S[i]?) = true ∧ Q (.slot i, S)) := by apply DL0.w_var
@[simp] theorem w_c (x : PyData) : WP (sC x) S Q = Q (.dat x, S) := by apply DL0.w_c
@[simp] theorem w_take (f : ES) : WP (sTake f) S QD = WP f S fun p => OV (takeO p.2 p.1) QD := by apply DL0.w_take
@[simp] theorem w_dat (f : DS) : WP (sDat f) S Q = WP f S fun p => Q (.dat p.1, p.2) := by apply DL0.w_dat
@[simp] theorem w_keep (f : LS) : WP (sKeep f) S Q = WP f S fun p => Q (.dat (.list p.1), p.2) := by apply DL0.w_keep
@[simp] theorem w_nil : WP sNil S QA = QA ([], S) := by apply DL0.w_nil
@[simp] theorem w_cons (f : ES) (g : AS) : WP (sCons f g) S QA = WP f S fun p => WP g p.2 fun q => QA (p.1 :: q.1, q.2) := by apply DL0.w_cons
@[simp] theorem w_bin (g : PyData → PyData → Option PyData) (f f' : ES) : WP (sBin g f f') S Q = WP f S fun p => WP f' p.2 fun q => OV (p.1.get q.2) fun x => OV (q.1.get q.2) fun y => OV (g x y) fun z => Q (.dat z, q.2) := by apply DL0.w_bin
@[simp] theorem w_binL (g : PyData → PyData → Option (List PyData)) (f f' : ES) : WP (sBinL g f f') S QL = WP f S fun p => WP f' p.2 fun q => OV (p.1.get q.2) fun x => OV (q.1.get q.2) fun y => OV (g x y) fun z => QL (z, q.2) := by apply DL0.w_binL
@[simp] theorem w_test (f : ES) : WP (sTest f) S QB = WP f S fun p => OV (p.1.get p.2) fun x => OV (dBool x) fun b => QB (b, p.2) := by apply DL0.w_test
@[simp] theorem w_and (f g : BS) : WP (sAnd f g) S QB = WP f S fun p => if p.1 = true then WP g p.2 QB else QB (false, p.2) := by apply DL0.w_and
@[simp] theorem w_or (f g : BS) : WP (sOr f g) S QB = WP f S fun p => if p.1 = true then QB (true, p.2) else WP g p.2 QB := by apply DL0.w_or
@[simp] theorem w_not (f : BS) : WP (sNot f) S QB = WP f S fun p => QB (!p.1, p.2) := by apply DL0.w_not
@[simp] theorem w_andV (f g : ES) : WP (sAndV f g) S Q = WP f S fun p => OV (p.1.get p.2) fun x => OV (dBool x) fun c => if c = true then WP g p.2 Q else Q (.dat (.bool false), p.2) := by apply DL0.w_andV
@[simp] theorem w_orV (f g : ES) : WP (sOrV f g) S Q = WP f S fun p => OV (p.1.get p.2) fun x => OV (dBool x) fun c => if c = true then Q (.dat (.bool true), p.2) else WP g p.2 Q := by apply DL0.w_orV
@[simp] theorem w_notV (f : ES) : WP (sNotV f) S Q = WP f S fun p => OV (p.1.get p.2) fun x => OV (dBool x) fun c => Q (.dat (.bool (!c)), p.2) := by apply DL0.w_notV
@[simp] theorem w_if {α : Type} (t : BS) (f g : List SD → Option α) {Q : α → Prop} : WP (sIf t f g) S Q = WP t S fun p => if p.1 = true then WP f p.2 Q else WP g p.2 Q := by apply DL0.w_if
@[simp] theorem w_chain (g g' : PyData → PyData → Option PyData) (f f' f'' : ES) : WP (sChain g g' f f' f'') S Q = WP f S fun p => WP f' p.2 fun q => OV (p.1.get q.2) fun x => OV (q.1.get q.2) fun y => OV (g x y) fun z => OV (dBool z) fun k =>
    if k = true then WP f'' q.2 fun s => OV (q.1.get s.2) fun y' => OV (s.1.get s.2) fun w => OV (g' y' w) fun z' => Q (.dat z', s.2) else Q (.dat (.bool false), q.2) := by apply DL0.w_chain
@[simp] theorem w_un (g : PyData → Option PyData) (f : ES) : WP (sUn g f) S Q = WP f S fun p => OV (p.1.get p.2) fun x => OV (g x) fun z => Q (.dat z, p.2) := by apply DL0.w_un
@[simp] theorem w_tup (f : AS) : WP (sTup f) S Q = WP f S fun p => OV (takeAll p.2 p.1) fun q => q.1.length ≤ 100000 ∧ Q (.dat (.tuple q.1), q.2) := by apply DL0.w_tup
@[simp] theorem w_lst (f : AS) : WP (sLst f) S QL = WP f S fun p => OV (takeAll p.2 p.1) fun q => q.1.length ≤ 100000 ∧ QL (q.1, q.2) := by apply DL0.w_lst
@[simp] theorem w_cb (g : List PyData → Option PyData) (f : AS) : WP (sCB g f) S Q = WP f S fun p => OV (getAll p.2 p.1) fun xs => OV (g xs) fun z => Q (.dat z, p.2) := by apply DL0.w_cb
@[simp] theorem w_cbl (g : List PyData → Option (List PyData)) (f : AS) : WP (sCBL g f) S QL = WP f S fun p => OV (getAll p.2 p.1) fun xs => OV (g xs) fun z => QL (z, p.2) := by apply DL0.w_cbl
@[simp] theorem w_next : WP sNext S QO = QO (.nx S) := by apply DL0.w_next
@[simp] theorem w_break : WP sBreak S QO = QO (.bk S) := by apply DL0.w_break
@[simp] theorem w_cont : WP sCont S QO = QO (.ct S) := by apply DL0.w_cont
@[simp] theorem w_never : WP sNever S QO = False := by apply DL0.w_never
@[simp] theorem w_drop (f : ES) : WP (sDrop f) S QO = WP f S fun p => QO (.nx p.2) := by apply DL0.w_drop
@[simp] theorem w_ret (f : DS) : WP (sRet f) S QO = WP f S fun p => QO (.rt (.d p.1) p.2) := by apply DL0.w_ret
@[simp] theorem w_retL (f : LS) : WP (sRetL f) S QO = WP f S fun p => QO (.rt (.own false p.1) p.2) := by apply DL0.w_retL
@[simp] theorem w_retV (i : Nat) : WP (sRetV i) S QO = OV (retS S i (S[i]?)) QO := by apply DL0.w_retV
@[simp] theorem w_retN : WP sRetN S QO = QO (.rt (.d .none) S) := by apply DL0.w_retN
@[simp] theorem w_asg (f : DS) (g : GS) : WP (sAsg f g) S QO = WP f S fun p => WG g p.1 p.2 fun S1 => QO (.nx S1) := by apply DL0.w_asg
@[simp] theorem w_asgL (f : LS) (i : Nat) : WP (sAsgL f i) S QO = WP f S fun p => QO (.nx (p.2.set i (.own false p.1))) := by apply DL0.w_asgL
/-- what follows a statement -/
def WO (g : SSem) (Q : Out → Prop) : Out → Prop := DL0.WO g Q
@[simp] theorem wo_nx (g : SSem) : WO g QO (.nx S) = WP g S QO := by apply DL0.wo_nx
@[simp] theorem wo_bk (g : SSem) : WO g QO (.bk S) = QO (.bk S) := by apply DL0.wo_bk
@[simp] theorem wo_ct (g : SSem) : WO g QO (.ct S) = QO (.ct S) := by apply DL0.wo_ct
@[simp] theorem wo_rt (g : SSem) (r : SD) : WO g QO (.rt r S) = QO (.rt r S) := by apply DL0.wo_rt
@[simp] theorem w_seq (f g : SSem) : WP (sSeq f g) S QO = WP f S (WO g QO) := by apply DL0.w_seq
@[simp] theorem w_yes : WP sYes S QB = QB (true, S) := by apply DL0.w_yes
@[simp] theorem w_app (n k : Nat) (f g : AS) : WP (sApp n k f g) S QA = WP f S fun p => WP g p.2 fun q => (p.1.length = n ∧ q.1.length = k) ∧ QA (p.1 ++ q.1, q.2) := by apply DL0.w_app
@[simp] theorem w_callR (n : Nat) (m : Fn) (f : AS) : WP (sCallR n m f) S QV = WP f S fun p => OV (opSDs p.2 p.1) fun Dl => (p.1.length = n ∧ (ownIx p.2 p.1).Nodup) ∧ OV (m Dl) fun q => QV (q.1, wbGo p.1 q.2 0 p.2) := by apply DL0.w_callR
@[simp] theorem w_perm (pm : List Nat) (f : AS) : WP (sPerm pm f) S QA = WP f S fun p => QA (perm pm p.1, p.2) := by apply DL0.w_perm
@[simp] theorem w_call (n : Nat) (m : Fn) (f : AS) : WP (sCall n m f) S Q = WP (sCallR n m f) S fun p => OV (resD p.1) fun x => Q (.dat x, p.2) := by apply DL0.w_call
@[simp] theorem w_callL (n : Nat) (m : Fn) (f : AS) : WP (sCallL n m f) S QL = WP (sCallR n m f) S fun p => OV (resL p.1) fun x => QL (x, p.2) := by apply DL0.w_callL
@[simp] theorem w_callF (m : Fn) (f : LS) : WP (sCallF m f) S Q = WP f S fun p => OV (m [.own true p.1]) fun q => OV (onlyD q.1) fun x => Q (.dat x, p.2) := by apply DL0.w_callF
@[simp] theorem onlyD_d (x : PyData) : onlyD (.d x) = some x := rfl
@[simp] theorem w_isi (T : Tg) (f : ES) : WP (sIsi T f) S Q = WP f S fun p => OV (p.1.get p.2) fun x => OV (isTy T x) fun b => Q (.dat (.bool b), p.2) := by apply DL0.w_isi
@[simp] theorem w_isi2 (T U : Tg) (f : ES) : WP (sIsi2 T U f) S Q = WP f S fun p => OV (p.1.get p.2) fun x => OV (isTy T x) fun b => OV (isTy U x) fun c => Q (.dat (.bool (b || c)), p.2) := by apply DL0.w_isi2
@[simp] theorem w_seqI (f : DS) : WP (sSeqI f) S QL = WP f S fun p => OV (dItems p.1) fun xs => QL (xs, p.2) := by apply DL0.w_seqI
@[simp] theorem w_takeA (f : AS) {Q : List PyData × List SD → Prop} : WP (sTakeA f) S Q = WP f S fun p => OV (takeAll p.2 p.1) Q := by apply DL0.w_takeA
@[simp] theorem w_argI (g : List PyData → Option (List PyData)) (f : AS) : WP (sArgI g f) S QL = WP (sTakeA f) S fun p => OV (g p.1) fun xs => QL (xs, p.2) := by apply DL0.w_argI
@[simp] theorem w_noPart : WP sNoPart S QP = QP (none, S) := by apply DL0.w_noPart
@[simp] theorem w_part (f : ES) : WP (sPart f) S QP = WP f S fun p => OV (p.1.get p.2) fun x => OV (dIntO x) fun i => QP (some i, p.2) := by apply DL0.w_part
@[simp] theorem w_slice (f : ES) (fl fh : OS) : WP (sSlice f fl fh) S Q = WP f S fun p => WP fl p.2 fun q => WP fh q.2 fun r => OV (p.1.get r.2) fun x => OV (dCut x q.1 r.1) fun z => Q (.dat z, r.2) := by apply DL0.w_slice
@[simp] theorem w_sliceL (f : ES) (fl fh : OS) : WP (sSliceL f fl fh) S QL = WP f S fun p => WP fl p.2 fun q => WP fh q.2 fun r => OV (p.1.get r.2) fun x => OV (dCutL x q.1 r.1) fun z => QL (z, r.2) := by apply DL0.w_sliceL
@[simp] theorem w_vD (f : DS) : WP (vD f) S QV = WP f S fun p => QV (.d p.1, p.2) := by apply DL0.w_vD
@[simp] theorem w_vL (f : LS) : WP (vL f) S QV = WP f S fun p => QV (.own false p.1, p.2) := by apply DL0.w_vL
@[simp] theorem w_vLCt (f : LS) : WP (vLC true f) S QV = WP (vD (sTake (sKeep f))) S QV := by apply DL0.w_vLCt
@[simp] theorem w_vLCf (f : LS) : WP (vLC false f) S QV = WP (vL f) S QV := by apply DL0.w_vLCf
@[simp] theorem w_setV (f : VS) (i : Nat) : WP (sSetV f i) S QO = WP f S fun p => QO (.nx (p.2.set i p.1)) := by apply DL0.w_setV
@[simp] theorem w_retVS (f : VS) : WP (sRetVS f) S QO = WP f S fun p => QO (.rt p.1 p.2) := by apply DL0.w_retVS
@[simp] theorem w_par (i j : Nat) (f g : VS) : WP (sPar i j f g) S QO = WP f S fun p => WP (asideV p.1 g) p.2 fun q => QO (.nx ((q.2.set i p.1).set j q.1)) := by apply DL0.w_par
/-- a value read beside another one -/
def WAs (s : SD) (g : VS) (S : List SD) (Q : SD × List SD → Prop) : Prop := OV (asideV s g S) Q
@[simp] theorem w_asideD (x : PyData) (g : VS) : WP (asideV (.d x) g) S QV = WP g S QV := by apply DL0.w_asideD
@[simp] theorem w_asideO (b : Bool) (xs : OB) (g : VS) : WP (asideV (.own b xs) g) S QV = WP g (borGo [] 0 S) fun p => QV (p.1, unbGo [] 0 S p.2) := by apply DL0.w_asideO
@[simp] theorem w_index (fo fa : ES) : WP (sIndex fo fa) S Q = WP fo S fun p => OV (p.1.get p.2) fun l => isList l = true ∧ WP fa p.2 fun q => OV (p.1.get q.2) fun x => OV (q.1.get q.2) fun y => OV (dIndex x y) fun z => Q (.dat z, q.2) := by apply DL0.w_index
@[simp] theorem w_rg1 (f : ES) : WP (sRg1 f) S QR = WP f S fun p => OV (p.1.get p.2) fun x => OV (dIntO x) fun n => QR ((0, n), p.2) := by apply DL0.w_rg1
@[simp] theorem w_rg2 (f g : ES) : WP (sRg2 f g) S QR = WP f S fun p => WP g p.2 fun q => OV (p.1.get q.2) fun x => OV (q.1.get q.2) fun y => OV (dIntO x) fun n => OV (dIntO y) fun m => QR ((n, m), q.2) := by apply DL0.w_rg2
@[simp] theorem w_lstRg (f : RS) : WP (sLstRg f) S QL = WP f S fun p => rgB p.1.1 p.1.2 = true ∧ QL (rngD p.1.1 (p.1.2 - p.1.1).toNat, p.2) := by apply DL0.w_lstRg
@[simp] theorem w_tupRg (f : RS) : WP (sTupRg f) S Q = WP f S fun p => rgB p.1.1 p.1.2 = true ∧ Q (.dat (.tuple (rngD p.1.1 (p.1.2 - p.1.1).toNat)), p.2) := by apply DL0.w_tupRg
@[simp] theorem w_dict0 : WP sDict0 S Q = Q (.dat (.dict []), S) := by apply DL0.w_dict0
@[simp] theorem w_par3 (i j l : Nat) (f : AS) : WP (sPar3 i j l f) S QO = WP (sTakeA f) S fun p => OV (set3 i j l p.2 p.1) QO := by apply DL0.w_par3
@[simp] theorem set3_3 (i j l : Nat) (x y z : PyData) : set3 i j l S [x, y, z] = some (.nx (((S.set i (.d x)).set j (.d y)).set l (.d z))) := rfl
/-! a method -/
def WM (i : Nat) (g : List PyData → List PyData → Option (PyData × List PyData)) (p : List PyData × List SD) (Q : Op × List SD → Prop) : Option SD → Prop := DL0.WM i g p Q
@[simp] theorem wm_o (i : Nat) (g : List PyData → List PyData → Option (PyData × List PyData)) (p : List PyData × List SD) (b : Bool) (xs : List PyData) : WM i g p Q (some (.own b (.lst xs))) = OV (g xs p.1) fun z => Q (.dat z.1, p.2.set i (.own b (.lst z.2))) := by apply DL0.wm_o
@[simp] theorem w_meth (i : Nat) (g : List PyData → List PyData → Option (PyData × List PyData)) (f : AS) : WP (sMeth i g f) S Q = (isLstS (S[i]?) = true ∧ WP (sTakeA f) S fun p => WM i g p Q (p.2[i]?)) := by apply DL0.w_meth
/-! targets -/
@[simp] theorem wg_name (i : Nat) (x : PyData) : WG (gsName i) x S QG = QG (S.set i (.d x)) := by apply DL0.wg_name
@[simp] theorem wg_tup (n : Nat) (g : List PyData → List SD → Option (List SD)) (x : PyData) : WG (gsTup n g) x S QG = OV (dTup x) fun xs => xs.length = n ∧ WGs g xs S QG := by apply DL0.wg_tup
@[simp] theorem wg_sub (i : Nat) (f : ES) (x : PyData) : WG (gsSub i f) x S QG = (isOwnS (S[i]?) = true ∧ WP f S fun p => OV (p.1.get p.2) fun y => OV (dIntO y) fun k => OV (setAt i x k p.2 (p.2[i]?)) QG) := by apply DL0.wg_sub
@[simp] theorem wg_nil : WGs gsNil [] S QG = QG S := by apply DL0.wg_nil
@[simp] theorem wg_cons (g : GS) (gs : List PyData → List SD → Option (List SD)) (x : PyData) (xs : List PyData) : WGs (gsCons g gs) (x :: xs) S QG = WG g x S fun S1 => WGs gs xs S1 QG := by apply DL0.wg_cons
end

/-! ### comprehensions -/
def WLc (vs : List Nat) (gs : GS) (fc : BS) (fd : DS) (xs : List PyData) (S : List SD) (Q : List PyData × List SD → Prop) (d : Kt Q := .mk) : Prop := DL0.WLc vs gs fc fd xs S Q
def WLS (vs : List Nat) (gs : GS) (fc : BS) (fd : DS) (x : PyData) (S : List SD) (Q : Option PyData × List SD → Prop) (d : Kt Q := .mk) : Prop := DL0.WLS vs gs fc fd x S Q
section
variable {vs : List Nat} {gs : GS} {fc : BS} {fd : DS} {xs xs' : List PyData} {x x' : PyData} {S S' : List SD} {Q : List PyData × List SD → Prop} {QS : Option PyData × List SD → Prop}
@[simp] theorem w_lc (fi : LS) : WP (sLC vs fi gs fc fd) S Q = WP fi S fun p => p.1.length < 100000 ∧ WLc vs gs fc fd p.1 p.2 Q := by apply DL0.w_lc
@[simp] theorem w_ls : WLS vs gs fc fd x S QS = WG gs x (borGo vs 0 S) fun S1 => WP fc S1 fun p => if p.1 = true then WP fd p.2 fun q => QS (some q.1, unbGo vs 0 S q.2) else QS (none, unbGo vs 0 S p.2) := by apply DL0.w_ls
@[simp] theorem w_lcNil : WLc vs gs fc fd [] S Q = Q ([], S) := by apply DL0.w_lcNil
@[simp] theorem w_lcCons : WLc vs gs fc fd (x :: xs) S Q = WLS vs gs fc fd x S fun p => WLc vs gs fc fd xs p.2 fun z => Q (p.1.toList ++ z.1, z.2) := by apply DL0.w_lcCons
/-- the slots stay: an item of F x each -/
theorem WLc.map (F : PyData → PyData) (h : ∀ x ∈ xs, WLS vs gs fc fd x S fun q => q = (some (F x), S)) (k : Q (xs.map F, S)) : WLc vs gs fc fd xs S Q :=
  ⟨_, lc_map F xs fun x hx => (h x hx).eq, k⟩
theorem WLc.fmap (F : PyData → Option PyData) (h : ∀ x ∈ xs, WLS vs gs fc fd x S fun q => q = (F x, S)) (k : Q (xs.filterMap F, S)) : WLc vs gs fc fd xs S Q :=
  ⟨_, lc_stable F xs fun x hx => (h x hx).eq, k⟩
/-- .. for a list that is itself a map -/
theorem WLc.mapOf {α : Type} {l : List α} (e : α → PyData) (F : α → PyData) (h : ∀ a ∈ l, WLS vs gs fc fd (e a) S fun q => q = (some (F a), S)) (k : Q (l.map F, S)) : WLc vs gs fc fd (l.map e) S Q := by
  refine ⟨_, ?_, k⟩
  clear k
  induction l with
  | nil => rfl
  | cons a l ih =>
    rw [List.map_cons, lcGo_cons, (h a (by simp)).eq]
    simp only [Option.bind_some]
    rw [ih fun b hb => h b (List.mem_cons_of_mem _ hb)]
    rfl
theorem WLc.fmapOf {α : Type} {l : List α} (e : α → PyData) (F : α → Option PyData) (h : ∀ a ∈ l, WLS vs gs fc fd (e a) S fun q => q = (F a, S)) (k : Q (l.filterMap F, S)) : WLc vs gs fc fd (l.map e) S Q := by
  refine ⟨_, ?_, k⟩
  clear k
  induction l with
  | nil => rfl
  | cons a l ih =>
    rw [List.map_cons, lcGo_cons, (h a (by simp)).eq]
    simp only [Option.bind_some]
    rw [ih fun b hb => h b (List.mem_cons_of_mem _ hb)]
    cases z : F a <;> simp [z]
/-- an invariant of what is gone through and what has come out -/
theorem WLc.inv (I : List PyData → List PyData → List SD → Prop) (h0 : I [] [] S) (h : ∀ pre x post ys S, xs = pre ++ x :: post → I pre ys S → WLS vs gs fc fd x S fun q => I (pre ++ [x]) (ys ++ q.1.toList) q.2) (k : ∀ ys S, I xs ys S → Q (ys, S)) : WLc vs gs fc fd xs S Q := by
  have key : ∀ (post pre ys : List PyData) (S : List SD), xs = pre ++ post → I pre ys S → ∃ zs S', lcGo vs gs fc fd post S = some (zs, S') ∧ I xs (ys ++ zs) S' := by
    intro post
    induction post with
    | nil => intro pre ys S e i; exact ⟨[], S, rfl, by rw [e]; simpa using i⟩
    | cons x post ih =>
      intro pre ys S e i
      obtain ⟨⟨o, S1⟩, h1, h2⟩ := h pre x post ys S e i
      obtain ⟨zs, S2, h3, h4⟩ := ih (pre ++ [x]) (ys ++ o.toList) S1 (by rw [e]; simp) h2
      refine ⟨o.toList ++ zs, S2, ?_, by rw [← List.append_assoc]; exact h4⟩
      rw [lcGo_cons, h1]
      simp only [Option.bind_some, h3, Option.map_some]
  obtain ⟨zs, S', h1, h2⟩ := key xs [] [] S rfl h0
  exact ⟨_, h1, k _ _ (by simpa using h2)⟩
end

/-! ### loops -/
def WFor (gs : GS) (fb : SSem) (xs : List PyData) (S : List SD) (Q : Out → Prop) (d : Kt Q := .mk) : Prop := DL0.WFor gs fb xs S Q
/-- behind a turn: G what is next in the loop -/
def WT (G : List SD → Prop) (Q : Out → Prop) : Out → Prop := DL0.WT G Q
section
variable {gs : GS} {fb : SSem} {xs xs' : List PyData} {x x' : PyData} {S S' : List SD} {Q : Out → Prop} {G : List SD → Prop}
@[simp] theorem wt_nx : WT G Q (.nx S) = G S := by apply DL0.wt_nx
@[simp] theorem wt_ct : WT G Q (.ct S) = G S := by apply DL0.wt_ct
@[simp] theorem wt_bk : WT G Q (.bk S) = Q (.nx S) := by apply DL0.wt_bk
@[simp] theorem wt_rt (r : SD) : WT G Q (.rt r S) = Q (.rt r S) := by apply DL0.wt_rt
@[simp] theorem w_for (fi : LS) : WP (sFor fi gs fb) S Q = WP fi S fun p => WFor gs fb p.1 p.2 Q := by apply DL0.w_for
@[simp] theorem w_forNil : WFor gs fb [] S Q = Q (.nx S) := by apply DL0.w_forNil
@[simp] theorem w_forCons : WFor gs fb (x :: xs) S Q = WG gs x S fun S1 => WP fb S1 (WT (fun S2 => WFor gs fb xs S2 Q) Q) := by apply DL0.w_forCons
theorem WFor.inv (I : List PyData → List SD → Prop) (h0 : I [] S) (h : ∀ pre x post S, xs = pre ++ x :: post → I pre S → WG gs x S fun S1 => WP fb S1 (WT (I (pre ++ [x])) Q)) (k : ∀ S, I xs S → Q (.nx S)) : WFor gs fb xs S Q := by
  have key : ∀ (post pre : List PyData) (S : List SD), xs = pre ++ post → I pre S → WFor gs fb post S Q := by
    intro post
    induction post with
    | nil => intro pre S e i; rw [w_forNil]; exact k S (by rw [e]; simpa using i)
    | cons x post ih =>
      intro pre S e i
      rw [w_forCons]
      refine OV.use (h pre x post S e i) fun S1 h1 => OV.use h1 fun o h2 => ?_
      cases o with
      | nx S2 => exact ih (pre ++ [x]) S2 (by rw [e]; simp) h2
      | ct S2 => exact ih (pre ++ [x]) S2 (by rw [e]; simp) h2
      | bk S2 => exact h2
      | rt r S2 => exact h2
  exact key xs [] S rfl h0
/-- .. over a list that is a map -/
theorem WFor.invOf {α : Type} {l : List α} (e : α → PyData) (I : List α → List SD → Prop) (h0 : I [] S) (h : ∀ pre a post S, l = pre ++ a :: post → I pre S → WG gs (e a) S fun S1 => WP fb S1 (WT (I (pre ++ [a])) Q)) (k : ∀ S, I l S → Q (.nx S)) : WFor gs fb (l.map e) S Q := by
  have key : ∀ (post pre : List α) (S : List SD), l = pre ++ post → I pre S → WFor gs fb (post.map e) S Q := by
    intro post
    induction post with
    | nil => intro pre S q i; rw [List.map_nil, w_forNil]; exact k S (by rw [q]; simpa using i)
    | cons x post ih =>
      intro pre S q i
      rw [List.map_cons, w_forCons]
      refine OV.use (h pre x post S q i) fun S1 h1 => OV.use h1 fun o h2 => ?_
      cases o with
      | nx S2 => exact ih (pre ++ [x]) S2 (by rw [q]; simp) h2
      | ct S2 => exact ih (pre ++ [x]) S2 (by rw [q]; simp) h2
      | bk S2 => exact h2
      | rt r S2 => exact h2
  exact key l [] S rfl h0
end
def WWh (ft : BS) (fb : SSem) (n : Nat) (S : List SD) (Q : Out → Prop) (d : Kt Q := .mk) : Prop := DL0.WWh ft fb n S Q
section
variable {ft : BS} {fb : SSem} {n : Nat} {S S' : List SD} {Q : Out → Prop}
@[simp] theorem w_while : WP (sWhile n ft fb) S Q = WWh ft fb n S Q := by apply DL0.w_while
/-- I k: at most k turns are left -/
theorem WWh.inv (I : Nat → List SD → Prop) (k0 : Nat) (h0 : I k0 S) (hk : k0 < n) (h : ∀ k S, I k S → WP ft S fun p => if p.1 = true then WP fb p.2 (WT (fun S2 => ∃ j, j < k ∧ I j S2) Q) else Q (.nx p.2)) : WWh ft fb n S Q := by
  have key : ∀ (n k : Nat) (S : List SD), k < n → I k S → WWh ft fb n S Q := by
    intro n
    induction n with
    | zero => intro k S hk; omega
    | succ n ih =>
      intro k S hk i
      unfold WWh
      show OV ((ft S).bind fun p => if p.1 = true then (fb p.2).bind fun o => match o with
        | .nx S2 => whileGo ft fb n S2
        | .ct S2 => whileGo ft fb n S2
        | .bk S2 => some (.nx S2)
        | .rt r S2 => some (.rt r S2) else some (.nx p.2)) Q
      rw [OV_bind]
      refine OV.use (h k S i) fun p hp => ?_
      rw [OV_ite]
      split
      · rename_i hc
        rw [if_pos hc] at hp
        rw [OV_bind]
        refine OV.use hp fun o h2 => ?_
        cases o with
        | nx S2 => obtain ⟨j, hj, i2⟩ := h2; exact ih j S2 (by omega) i2
        | ct S2 => obtain ⟨j, hj, i2⟩ := h2; exact ih j S2 (by omega) i2
        | bk S2 => rw [OV_some]; exact h2
        | rt r S2 => rw [OV_some]; exact h2
      · rename_i hc
        rw [if_neg hc] at hp
        rw [OV_some]; exact hp
  exact key n k0 S hk h0
end

/-! ### invariants that simp leaves alone -/
abbrev At (I : List SD → Prop) (S : List SD) (d : Kt I := .mk) : Prop := I S
theorem WFor.invA {gs : GS} {fb : SSem} {xs : List PyData} {S : List SD} {Q : Out → Prop} (I : List PyData → List SD → Prop) (h0 : I [] S) (h : ∀ pre x post S, xs = pre ++ x :: post → I pre S → WG gs x S fun S1 => WP fb S1 (WT (fun S => At (I (pre ++ [x])) S) Q)) (k : ∀ S, I xs S → Q (.nx S)) : WFor gs fb xs S Q := WFor.inv I h0 h k
theorem WFor.invOfA {gs : GS} {fb : SSem} {S : List SD} {Q : Out → Prop} {α : Type} {l : List α} (e : α → PyData) (I : List α → List SD → Prop) (h0 : I [] S) (h : ∀ pre a post S, l = pre ++ a :: post → I pre S → WG gs (e a) S fun S1 => WP fb S1 (WT (fun S => At (I (pre ++ [a])) S) Q)) (k : ∀ S, I l S → Q (.nx S)) : WFor gs fb (l.map e) S Q := WFor.invOf e I h0 h k
theorem WLc.invA {vs : List Nat} {gs : GS} {fc : BS} {fd : DS} {xs : List PyData} {S : List SD} {Q : List PyData × List SD → Prop} (I : List PyData → List PyData → List SD → Prop) (h0 : I [] [] S) (h : ∀ pre x post ys S, xs = pre ++ x :: post → I pre ys S → WLS vs gs fc fd x S fun q => At (I (pre ++ [x]) (ys ++ q.1.toList)) q.2) (k : ∀ ys S, I xs ys S → Q (ys, S)) : WLc vs gs fc fd xs S Q := WLc.inv I h0 h k
theorem WWh.invA {ft : BS} {fb : SSem} {n : Nat} {S : List SD} {Q : Out → Prop} (I : Nat → List SD → Prop) (k0 : Nat) (h0 : I k0 S) (hk : k0 < n) (h : ∀ k S, I k S → WP ft S fun p => if p.1 = true then WP fb p.2 (WT (fun S => At (fun S2 => ∃ j, j < k ∧ I j S2) S) Q) else Q (.nx p.2)) : WWh ft fb n S Q := WWh.inv I k0 h0 hk h

/-! ### defs -/
theorem OV_defn (N : Nat) (f : SSem) (Dl : List SD) {Q : SD × List SD → Prop} : OV (defn N f Dl) Q = WP f (Dl ++ List.replicate (N - Dl.length) .un) fun o => OV (defOut Dl o) Q := OV_bind _ _
end DL

set_option Elab.async false
set_option linter.all false
set_option maxRecDepth 100000
set_option maxHeartbeats 4000000
/-! PL: plain values told as data, typed: ints, tuples, lists of them; what the data's functions do there. -/
namespace DL
open PySem L2

section
variable {α β : Type} [DecidableEq α] [DecidableEq β] {n m : Nat} {e : α → PyData} {f : β → PyData}
/-- e tells values as data, faithfully; n: how deep -/
structure IsEnc (n : Nat) (e : α → PyData) : Prop where
  fit : ∀ a, fitN n (e a) = true
  eqv : ∀ a b, PyData.eqv (e a) (e b) = decide (a = b)
theorem IsEnc.mono (h : IsEnc n e) (k : n ≤ m) : IsEnc m e := ⟨fun a => fit_mono (h.fit a) k, h.eqv⟩
theorem eqvAll_enc (h : IsEnc n e) : ∀ xs ys : List α, PyData.eqvAll (xs.map e) (ys.map e) = decide (xs = ys)
  | [], [] => by simp [PyData.eqvAll]
  | [], _ :: _ => by simp [PyData.eqvAll]
  | _ :: _, [] => by simp [PyData.eqvAll]
  | x :: xs, y :: ys => by
    simp only [List.map_cons, PyData.eqvAll, h.eqv, eqvAll_enc h xs ys]
    rw [Bool.eq_iff_iff]
    simp
theorem fit_all (h : IsEnc n e) (xs : List α) : (xs.map e).all (fitN n) = true := by
  rw [List.all_eq_true]
  intro x hx
  obtain ⟨i, _, rfl⟩ := List.mem_map.mp hx
  exact h.fit i
theorem enc_int (n : Nat) : IsEnc n PyData.int := ⟨fit_int n, fun a b => by simp only [PyData.eqv]; rw [Bool.eq_iff_iff]; simp⟩
theorem IsEnc.tup (h : IsEnc n e) : IsEnc (n + 1) fun xs : List α => PyData.tuple (xs.map e) := ⟨fun xs => by rw [fit_tuple]; exact fit_all h xs, fun xs ys => by simp only [PyData.eqv, eqvAll_enc h]⟩
theorem IsEnc.lst (h : IsEnc n e) : IsEnc (n + 1) fun xs : List α => PyData.list (xs.map e) := ⟨fun xs => by rw [fit_list]; exact fit_all h xs, fun xs ys => by simp only [PyData.eqv, eqvAll_enc h]⟩
theorem IsEnc.pair (h : IsEnc n e) (g : IsEnc n f) : IsEnc (n + 1) fun p : α × β => PyData.tuple [e p.1, f p.2] := ⟨fun p => by rw [fit_tuple]; simp [h.fit, g.fit], fun p q => by
  simp only [PyData.eqv, PyData.eqvAll, h.eqv, g.eqv, Bool.and_true]
  rw [Bool.eq_iff_iff]
  obtain ⟨a, b⟩ := p
  obtain ⟨c, d⟩ := q
  simp⟩
theorem IsEnc.inj (h : IsEnc n e) {a b : α} (q : e a = e b) : a = b := by
  have := h.eqv a b
  rw [← q] at this
  have r := fit_self (h.fit a)
  rw [r] at this
  simpa using this.symm
theorem strEq_enc (h : IsEnc n e) (a b : α) : strEq (e a) (e b) = none ∨ strEq (e a) (e b) = some (decide (a = b)) := by
  unfold strEq
  split
  · rename_i x y h1 h2
    refine .inr ?_
    congr 1
    have := h.eqv a b
    rw [h1, h2] at this
    rw [← this]
    simp only [PyData.eqv]
    rw [Bool.eq_iff_iff]
    simp
  · exact .inl rfl
theorem dEq_enc (h : IsEnc n e) (hn : n ≤ 60) (a b : α) : dEq (e a) (e b) = some (.bool (decide (a = b))) := by
  unfold dEq
  rcases strEq_enc h a b with q | q
  · rw [q]
    show (if _ then _ else _) = _
    rw [if_pos ⟨(h.mono hn).fit a, (h.mono hn).fit b⟩, h.eqv]
  · rw [q]
theorem dNe_enc (h : IsEnc n e) (hn : n ≤ 60) (a b : α) : dNe (e a) (e b) = some (.bool (!decide (a = b))) := by
  unfold dNe
  rcases strEq_enc h a b with q | q
  · rw [q]
    show (if _ then _ else _) = _
    rw [if_pos ⟨(h.mono hn).fit a, (h.mono hn).fit b⟩, h.eqv]
  · rw [q]
theorem any_enc (h : IsEnc n e) (a : α) : ∀ xs : List α, ((xs.map e).any fun z => PyData.eqv z (e a)) = decide (a ∈ xs)
  | [] => by simp
  | x :: xs => by
    rw [List.map_cons, List.any_cons, any_enc h a xs, h.eqv, Bool.eq_iff_iff]
    simp only [Bool.or_eq_true, decide_eq_true_eq, List.mem_cons]
    exact or_congr eq_comm Iff.rfl
theorem dIn_enc (h : IsEnc n e) (hn : n ≤ 59) (a : α) (xs : List α) : dIn (e a) (.tuple (xs.map e)) = some (.bool (decide (a ∈ xs))) ∧ dIn (e a) (.list (xs.map e)) = some (.bool (decide (a ∈ xs))) := by
  have h1 := (h.mono (show n ≤ 60 by omega)).fit a
  have h2 := ((h.mono hn).tup).fit xs
  have h3 := ((h.mono hn).lst).fit xs
  constructor
  · unfold dIn; rw [if_pos ⟨h1, h2⟩]; simp only [dItems, Option.map_some, any_enc h]
  · unfold dIn; rw [if_pos ⟨h1, h3⟩]; simp only [dItems, Option.map_some, any_enc h]
theorem dNotIn_enc (h : IsEnc n e) (hn : n ≤ 59) (a : α) (xs : List α) : dNotIn (e a) (.tuple (xs.map e)) = some (.bool (!decide (a ∈ xs))) ∧ dNotIn (e a) (.list (xs.map e)) = some (.bool (!decide (a ∈ xs))) := by
  have h1 := (h.mono (show n ≤ 60 by omega)).fit a
  have h2 := ((h.mono hn).tup).fit xs
  have h3 := ((h.mono hn).lst).fit xs
  constructor
  · unfold dNotIn; rw [if_pos ⟨h1, h2⟩]; simp only [dItems, Option.map_some, any_enc h]
  · unfold dNotIn; rw [if_pos ⟨h1, h3⟩]; simp only [dItems, Option.map_some, any_enc h]
/-! first ones -/
def addA (acc : List α) (x : α) : List α := if x ∈ acc then acc else acc ++ [x]
def firsts (xs : List α) : List α := xs.foldl addA []
theorem firsts_snoc (xs : List α) (x : α) : firsts (xs ++ [x]) = addA (firsts xs) x := by simp [firsts, List.foldl_append]
@[simp] theorem firsts_nil : firsts ([] : List α) = [] := rfl
theorem mem_addA {acc : List α} {x y : α} : y ∈ addA acc x ↔ y ∈ acc ∨ y = x := by
  unfold addA
  split
  · rename_i h; constructor
    · exact .inl
    · rintro (h' | rfl) <;> assumption
  · simp
theorem mem_firsts {y : α} {xs : List α} : y ∈ firsts xs ↔ y ∈ xs := by
  refine snoc_ind (P := fun xs => y ∈ firsts xs ↔ y ∈ xs) (by simp) (fun xs x ih => ?_) xs
  rw [firsts_snoc, mem_addA, ih]; simp
theorem nodup_firsts (xs : List α) : (firsts xs).Nodup := by
  refine snoc_ind (P := fun xs => (firsts xs).Nodup) (by simp) (fun xs x ih => ?_) xs
  rw [firsts_snoc]
  unfold addA
  split
  · exact ih
  · rename_i h
    rw [List.nodup_append]
    exact ⟨ih, by simp, fun a ha b hb => by rw [List.mem_singleton.mp hb]; exact fun q => h (q ▸ ha)⟩
theorem firsts_len (xs : List α) : (firsts xs).length ≤ xs.length := by
  refine snoc_ind (P := fun xs => (firsts xs).length ≤ xs.length) (by simp) (fun xs x ih => ?_) xs
  rw [firsts_snoc]
  unfold addA
  split <;> simp <;> omega
theorem firsts_ne {xs : List α} (h : 1 ≤ xs.length) : 1 ≤ (firsts xs).length := by
  cases xs with
  | nil => simp at h
  | cons x r =>
    have : x ∈ firsts (x :: r) := mem_firsts.mpr (by simp)
    exact List.length_pos_iff.mpr (List.ne_nil_of_mem this)
theorem addF_enc (h : IsEnc n e) (acc : List α) (x : α) : addF (acc.map e) (e x) = (addA acc x).map e := by
  unfold addF addA
  rw [any_enc h]
  by_cases q : x ∈ acc <;> simp [q]
theorem byF_enc (h : IsEnc n e) (xs : List α) : byF (xs.map e) = (firsts xs).map e := by
  refine snoc_ind (P := fun xs => byF (xs.map e) = (firsts xs).map e) (by simp) (fun xs x ih => ?_) xs
  rw [List.map_append, firsts_snoc, List.map_cons, List.map_nil, byF_snoc, ih, addF_enc h]
/-! places -/
def nIx (a : α) : List α → Nat
  | [] => 0
  | x :: r => if x = a then 0 else nIx a r + 1
theorem nIx_lt {a : α} : ∀ {xs : List α}, a ∈ xs → nIx a xs < xs.length
  | [], h => by simp at h
  | x :: r, h => by
    unfold nIx
    split
    · simp
    · rename_i hx
      have : a ∈ r := by rcases List.mem_cons.mp h with q | q; exact absurd q.symm hx; exact q
      have := nIx_lt this
      simp; omega
theorem nIx_get {a : α} : ∀ {xs : List α}, a ∈ xs → xs[nIx a xs]? = some a
  | [], h => by simp at h
  | x :: r, h => by
    unfold nIx
    split
    · rename_i hx; simp [hx]
    · rename_i hx
      have : a ∈ r := by rcases List.mem_cons.mp h with q | q; exact absurd q.symm hx; exact q
      simpa using nIx_get this
theorem nIx_min {a : α} : ∀ {xs : List α} {i : Nat}, xs[i]? = some a → nIx a xs ≤ i
  | [], i, h => by simp at h
  | x :: r, 0, h => by
    unfold nIx
    rw [if_pos (by simpa using h)]; exact Nat.le_refl _
  | x :: r, i + 1, h => by
    unfold nIx
    split
    · omega
    · have := nIx_min (xs := r) (i := i) (by simpa using h); omega
theorem nIx_nodup {a : α} {xs : List α} (hd : xs.Nodup) {i : Nat} (h : xs[i]? = some a) : nIx a xs = i := by
  have h1 := nIx_min h
  obtain ⟨hi, he⟩ := List.getElem?_eq_some_iff.mp h
  have hm : a ∈ xs := by rw [← he]; exact List.getElem_mem hi
  have h2 := nIx_get hm
  obtain ⟨hj, he2⟩ := List.getElem?_eq_some_iff.mp h2
  exact (List.getElem_inj hd).mp (he2.trans he.symm)
theorem firstIx_enc (h : IsEnc n e) (a : α) : ∀ xs : List α, firstIx (e a) (xs.map e) = if a ∈ xs then some (nIx a xs) else none
  | [] => by simp [firstIx]
  | x :: r => by
    rw [List.map_cons]
    unfold firstIx nIx
    rw [h.eqv, firstIx_enc h a r]
    by_cases q : x = a
    · simp [q]
    · have q' : ¬ a = x := fun z => q z.symm
      by_cases q2 : a ∈ r <;> simp [q, q', q2]
theorem dIndex_enc (h : IsEnc n e) (hn : n ≤ 59) {a : α} {xs : List α} (hm : a ∈ xs) : dIndex (.list (xs.map e)) (e a) = some (.int (nIx a xs : Nat)) := by
  unfold dIndex
  show (if _ then _ else _) = _
  rw [if_pos ⟨((h.mono hn).lst).fit xs, (h.mono (show n ≤ 60 by omega)).fit a⟩, firstIx_enc h, if_pos hm]; rfl
end

/-! ### places by ints -/
section
variable {α β : Type}
theorem atI_of {xs : List α} {i : Int} (h : 0 ≤ i) : atI xs i = xs[i.toNat]? := by
  obtain ⟨k, rfl⟩ := Int.eq_ofNat_of_zero_le h
  unfold atI ixN
  simp only [Int.natCast_nonneg, if_true, Int.toNat_natCast]
  by_cases h : k < xs.length
  · rw [if_pos (by omega)]; simp
  · rw [if_neg (by omega), List.getElem?_eq_none (by omega)]; rfl
@[simp] theorem atI_map (e : α → β) (xs : List α) (i : Int) : atI (xs.map e) i = (atI xs i).map e := by
  unfold atI
  rw [List.length_map]
  cases ixN xs.length i with
  | none => rfl
  | some j => simp
/-- the item at a place -/
def nth [Inhabited α] (xs : List α) (i : Int) : α := xs.getD i.toNat default
theorem atI_nth [Inhabited α] {xs : List α} {i : Int} (h1 : 0 ≤ i) (h2 : i < xs.length) : atI xs i = some (nth xs i) := by
  rw [atI_of h1]
  have : i.toNat < xs.length := by omega
  simp [nth, List.getD_eq_getElem?_getD, this]
theorem nth_mem [Inhabited α] {xs : List α} {i : Int} (h1 : 0 ≤ i) (h2 : i < xs.length) : nth xs i ∈ xs := by
  have : i.toNat < xs.length := by omega
  simp [nth, List.getD_eq_getElem?_getD, this]
@[simp] theorem nth_nat [Inhabited α] (xs : List α) (i : Nat) : nth xs (i : Int) = xs.getD i default := by simp [nth]
theorem nth_map [Inhabited α] [Inhabited β] (e : α → β) {xs : List α} {i : Int} (h1 : 0 ≤ i) (h2 : i < xs.length) : nth (xs.map e) i = e (nth xs i) := by
  have : i.toNat < xs.length := by omega
  simp [nth, List.getD_eq_getElem?_getD, this]
theorem nth_ext [Inhabited α] {xs ys : List α} (hl : xs.length = ys.length) (h : ∀ i : Nat, i < xs.length → nth xs i = nth ys i) : xs = ys := by
  apply List.ext_getElem hl
  intro i h1 h2
  have := h i h1
  simpa [List.getD_eq_getElem?_getD, h1, h2] using this
theorem cutD_map (e : α → PyData) (xs : List α) (lo hi : Option Int) : cutD (xs.map e) lo hi = ((xs.drop (HT.sIx xs.length 0 lo)).take (HT.sIx xs.length xs.length hi - HT.sIx xs.length 0 lo)).map e := by
  unfold cutD
  rw [List.length_map, List.map_take, List.map_drop]
theorem cutI_to {xs : List PyData} {k : Int} (h : 0 ≤ k) : cutD xs none (some k) = xs.take k.toNat := cut_to' xs k k.toNat (by omega)
theorem cutI_from {xs : List PyData} {k : Int} (h : 0 ≤ k) : cutD xs (some k) none = xs.drop k.toNat := cut_from' xs k k.toNat (by omega)
theorem cutI_all (xs : List PyData) : cutD xs none none = xs := by
  unfold cutD
  rw [HT.sIx_none, HT.sIx_none]; simp
theorem zipD_map (e : α → PyData) (f : β → PyData) : ∀ (xs : List α) (ys : List β), zipD (xs.map e) (ys.map f) = (xs.zip ys).map fun p => .tuple [e p.1, f p.2]
  | [], _ => by simp [zipD]
  | _ :: _, [] => by simp [zipD]
  | x :: xs, y :: ys => by simp [zipD, zipD_map e f xs ys]
theorem enumD_map (e : α → PyData) : ∀ (xs : List α) (c : Nat), enumD (c : Int) (xs.map e) = (xs.zipIdx c).map fun p => .tuple [.int (p.2 : Nat), e p.1]
  | [], _ => by simp [enumD]
  | x :: xs, c => by
    have := enumD_map e xs (c + 1)
    simp only [List.map_cons, enumD, List.zipIdx_cons]
    rw [← this]; rfl
theorem enumD_map0 (e : α → PyData) (xs : List α) : enumD 0 (xs.map e) = xs.zipIdx.map fun p => .tuple [.int (p.2 : Nat), e p.1] := enumD_map e xs 0
theorem zipIdx_split {α : Type} {l : List α} {pre post : List (α × Nat)} {x : α} {i : Nat} (h : l.zipIdx = pre ++ (x, i) :: post) : i = pre.length ∧ l = pre.map Prod.fst ++ x :: post.map Prod.fst := by
  constructor
  · have h1 := congrArg (fun l => l[pre.length]?) h
    simp only [List.getElem?_append_right (Nat.le_refl _), Nat.sub_self, List.getElem?_cons_zero, List.getElem?_zipIdx] at h1
    obtain ⟨y, _, h2⟩ := Option.map_eq_some_iff.mp h1
    have := congrArg Prod.snd h2
    simp at this
    exact this.symm
  · have h1 := congrArg (List.map Prod.fst) h
    rw [List.zipIdx_map_fst] at h1
    rw [h1]; simp
/-- 0 .. n - 1 -/
def upto (n : Nat) : List Int := (List.range n).map fun (i : Nat) => (i : Int)
@[simp] theorem upto_len (n : Nat) : (upto n).length = n := by simp [upto]
theorem mem_upto {n : Nat} {i : Int} : i ∈ upto n ↔ 0 ≤ i ∧ i < n := by
  unfold upto
  rw [List.mem_map]
  constructor
  · rintro ⟨k, hk, rfl⟩; have := List.mem_range.mp hk; omega
  · intro h; exact ⟨i.toNat, List.mem_range.mpr (by omega), by omega⟩
theorem upto_succ (n : Nat) : upto (n + 1) = upto n ++ [(n : Int)] := by simp [upto, List.range_succ]
theorem rngD_upto (n : Nat) : rngD 0 n = (upto n).map .int := by simp [rngD, upto]
theorem upto_pw (n : Nat) : (upto n).Pairwise (· < ·) := by
  unfold upto
  rw [List.pairwise_map]
  exact List.pairwise_lt_range.imp fun h => by omega
theorem upto_get {n i : Nat} (h : i < n) : (upto n)[i]? = some (i : Int) := by simp [upto, h]
theorem rngI_int {j : Int} (h1 : 0 ≤ j) (h2 : j ≤ 100000) : rngI [.int j] = some ((upto j.toNat).map .int) := by rw [rngI_ok h1 h2, rngD_upto]
theorem rngI_nat (n : Nat) (h : n ≤ 100000) : rngI [.int (n : Int)] = some ((upto n).map .int) := by rw [rngI_n n h, rngD_upto]
end

/-! ### tuples of ints, tuples of these, drafts -/
def tI (ns : List Int) : PyData := .tuple (ns.map .int)
def tT (ts : List (List Int)) : PyData := .tuple (ts.map tI)
def drD (rows : List (List Int)) : PyData := .tuple [.str "draft", tT rows]
section
variable (ns ms : List Int) (ts us : List (List Int))
theorem enc_tI : IsEnc 1 tI := (enc_int 0).tup
theorem enc_tT : IsEnc 2 tT := enc_tI.tup
theorem strOk_lit {x : Str} (h : PyData.strOk x = true := by decide +kernel) : PyData.strOk x = true := h
theorem enc_drD : IsEnc 3 drD := ⟨fun a => by
    unfold drD
    rw [fit_tuple]
    have : PyData.strOk "draft" = true := by decide +kernel
    simp [fit_str, this, enc_tT.fit], fun a b => by
    unfold drD
    simp only [PyData.eqv, PyData.eqvAll, enc_tT.eqv, Bool.and_true]
    simp⟩
@[simp] theorem items_tI : dItems (tI ns) = some (ns.map .int) := rfl
@[simp] theorem items_tT : dItems (tT ts) = some (ts.map tI) := rfl
@[simp] theorem len_tI : dLen [tI ns] = some (.int ns.length) := by show some (PyData.int (ns.map PyData.int).length) = _; rw [List.length_map]
@[simp] theorem len_tT : dLen [tT ts] = some (.int ts.length) := by show some (PyData.int (ts.map tI).length) = _; rw [List.length_map]
@[simp] theorem ix_tI (i : Int) : dIx (tI ns) (.int i) = (atI ns i).map .int := atI_map _ _ _
@[simp] theorem ix_tT (i : Int) : dIx (tT ts) (.int i) = (atI ts i).map tI := atI_map _ _ _
@[simp] theorem ix_dr1 : dIx (drD ts) (.int 1) = some (tT ts) := by show atI _ _ = _; simp
@[simp] theorem ix_dr0 : dIx (drD ts) (.int 0) = some (.str "draft") := by show atI _ _ = _; simp
@[simp] theorem tup_tI : dTuple [tI ns] = some (tI ns) := rfl
@[simp] theorem tup_tT : dTuple [tT ns'] = some (tT ns') := rfl
@[simp] theorem list_tI : dListL [tI ns] = some (ns.map .int) := rfl
@[simp] theorem list_tT : dListL [tT ts] = some (ts.map tI) := rfl
@[simp] theorem isTy_tI (T : Tg) : isTy T (tI ns) = some (tgIs T .tuple) := rfl
@[simp] theorem isTy_tT (T : Tg) : isTy T (tT ts) = some (tgIs T .tuple) := rfl
@[simp] theorem isTy_dr (T : Tg) : isTy T (drD ts) = some (tgIs T .tuple) := rfl
@[simp] theorem dTup_tI : dTup (tI ns) = some (ns.map .int) := rfl
@[simp] theorem dTup_tT : dTup (tT ts) = some (ts.map tI) := rfl
@[simp] theorem rev_tI : dRev (tI ns) = some (tI ns.reverse) := by show some (PyData.tuple (ns.map PyData.int).reverse) = _; rw [← List.map_reverse]; rfl
@[simp] theorem rev_tT : dRev (tT ts) = some (tT ts.reverse) := by show some (PyData.tuple (ts.map tI).reverse) = _; rw [← List.map_reverse]; rfl
@[simp] theorem enumI_tI : enumI [tI ns] = some (ns.zipIdx.map fun p => .tuple [.int (p.2 : Nat), .int p.1]) := by show some (enumD 0 (ns.map .int)) = _; rw [enumD_map0]
@[simp] theorem enumI_tT : enumI [tT ts] = some (ts.zipIdx.map fun p => .tuple [.int (p.2 : Nat), tI p.1]) := by show some (enumD 0 (ts.map tI)) = _; rw [enumD_map0]
@[simp] theorem zip_tI : zipI [tI ns, tI ms] = some ((ns.zip ms).map fun p => .tuple [.int p.1, .int p.2]) := by show some (zipD (ns.map .int) (ms.map .int)) = _; rw [zipD_map]
@[simp] theorem zip_tT : zipI [tT ts, tT us] = some ((ts.zip us).map fun p => .tuple [tI p.1, tI p.2]) := by show some (zipD (ts.map tI) (us.map tI)) = _; rw [zipD_map]
theorem rising_zip : ∀ l : List Int, ((l.zip (l.drop 1)).all fun p => decide (p.1 < p.2)) = rising l
  | [] => rfl
  | [x] => rfl
  | x :: y :: r => by
    have ih := rising_zip (y :: r)
    simp only [List.drop_succ_cons, List.drop_zero] at ih ⊢
    simp only [List.zip_cons_cons, List.all_cons, rising, ih]
@[simp] theorem eq_tI : dEq (tI ns) (tI ms) = some (.bool (decide (ns = ms))) := dEq_enc enc_tI (by decide) _ _
@[simp] theorem ne_tI : dNe (tI ns) (tI ms) = some (.bool (!decide (ns = ms))) := dNe_enc enc_tI (by decide) _ _
@[simp] theorem eq_tT : dEq (tT ts) (tT us) = some (.bool (decide (ts = us))) := dEq_enc enc_tT (by decide) _ _
@[simp] theorem ne_tT : dNe (tT ts) (tT us) = some (.bool (!decide (ts = us))) := dNe_enc enc_tT (by decide) _ _
@[simp] theorem eq_dr : dEq (drD ts) (drD us) = some (.bool (decide (ts = us))) := dEq_enc enc_drD (by decide) _ _
@[simp] theorem ne_dr : dNe (drD ts) (drD us) = some (.bool (!decide (ts = us))) := dNe_enc enc_drD (by decide) _ _
@[simp] theorem in_tI (a : Int) : dIn (.int a) (tI ns) = some (.bool (decide (a ∈ ns))) := (dIn_enc (enc_int 0) (by decide) a ns).1
@[simp] theorem notIn_tI (a : Int) : dNotIn (.int a) (tI ns) = some (.bool (!decide (a ∈ ns))) := (dNotIn_enc (enc_int 0) (by decide) a ns).1
@[simp] theorem in_lI (a : Int) : dIn (.int a) (.list (ns.map .int)) = some (.bool (decide (a ∈ ns))) := (dIn_enc (enc_int 0) (by decide) a ns).2
@[simp] theorem notIn_lI (a : Int) : dNotIn (.int a) (.list (ns.map .int)) = some (.bool (!decide (a ∈ ns))) := (dNotIn_enc (enc_int 0) (by decide) a ns).2
@[simp] theorem in_lT : dIn (tI ns) (.list (ts.map tI)) = some (.bool (decide (ns ∈ ts))) := (dIn_enc enc_tI (by decide) ns ts).2.trans (by congr)
@[simp] theorem notIn_lT : dNotIn (tI ns) (.list (ts.map tI)) = some (.bool (!decide (ns ∈ ts))) := (dNotIn_enc enc_tI (by decide) ns ts).2.trans (by congr)
@[simp] theorem in_tT : dIn (tI ns) (tT ts) = some (.bool (decide (ns ∈ ts))) := (dIn_enc enc_tI (by decide) ns ts).1.trans (by congr)
theorem add_tI (h : ns.length + ms.length ≤ 100000) : dAdd (tI ns) (tI ms) = some (tI (ns ++ ms)) := by
  show (if (ns.map PyData.int).length + (ms.map PyData.int).length ≤ 100000 then _ else _) = _
  rw [if_pos (by simpa using h), ← List.map_append]; rfl
theorem add_tT (h : ts.length + us.length ≤ 100000) : dAdd (tT ts) (tT us) = some (tT (ts ++ us)) := by
  show (if (ts.map tI).length + (us.map tI).length ≤ 100000 then _ else _) = _
  rw [if_pos (by simpa using h), ← List.map_append]; rfl
theorem cut_tI_to {k : Int} (h : 0 ≤ k) : dCut (tI ns) none (some k) = some (tI (ns.take k.toNat)) := by
  show some (PyData.tuple (cutD (ns.map PyData.int) none (some k))) = _
  rw [cutI_to h, ← List.map_take]; rfl
theorem cut_tI_from {k : Int} (h : 0 ≤ k) : dCut (tI ns) (some k) none = some (tI (ns.drop k.toNat)) := by
  show some (PyData.tuple (cutD (ns.map PyData.int) (some k) none)) = _
  rw [cutI_from h, ← List.map_drop]; rfl
theorem cut_tT_to {k : Int} (h : 0 ≤ k) : dCut (tT ts) none (some k) = some (tT (ts.take k.toNat)) := by
  show some (PyData.tuple (cutD (ts.map tI) none (some k))) = _
  rw [cutI_to h, ← List.map_take]; rfl
theorem cut_tT_from {k : Int} (h : 0 ≤ k) : dCut (tT ts) (some k) none = some (tT (ts.drop k.toNat)) := by
  show some (PyData.tuple (cutD (ts.map tI) (some k) none)) = _
  rw [cutI_from h, ← List.map_drop]; rfl
@[simp] theorem tup_lI : dTuple [.list (ns.map .int)] = some (tI ns) := rfl
@[simp] theorem tup_lT : dTuple [.list (ts.map tI)] = some (tT ts) := rfl
@[simp] theorem okT_tI : okT (tI ns) = true := rfl
@[simp] theorem okT_tT : okT (tT ts) = true := rfl
@[simp] theorem okT_dr : okT (drD ts) = true := rfl
@[simp] theorem sort_lI : dSortedL [.list (ns.map .int)] = some ((sortI ns).map .int) := by
  simp only [dSortedL, dItems, dInts_map, Option.bind_some, Option.map_some]
@[simp] theorem sort_tI : dSortedL [tI ns] = some ((sortI ns).map .int) := by
  simp only [dSortedL, items_tI, dInts_map, Option.bind_some, Option.map_some]
theorem setL_tI (h1 : ns.length ≤ 1000) (h2 : (setI ns).length < 64) : dSetL [tI ns] = some ((setI ns).map .int) := dSetL_ints h1 h2
@[simp] theorem list_lI : dListL [.list (ns.map .int)] = some (ns.map .int) := rfl
@[simp] theorem len_map_l {α : Type} (e : α → PyData) (xs : List α) : dLen [.list (xs.map e)] = some (.int xs.length) := by show some (PyData.int (xs.map e).length) = _; rw [List.length_map]
@[simp] theorem len_map_t {α : Type} (e : α → PyData) (xs : List α) : dLen [.tuple (xs.map e)] = some (.int xs.length) := by show some (PyData.int (xs.map e).length) = _; rw [List.length_map]
@[simp] theorem ix_map_l {α : Type} (e : α → PyData) (xs : List α) (i : Int) : dIx (.list (xs.map e)) (.int i) = (atI xs i).map e := atI_map _ _ _
@[simp] theorem ix_map_t {α : Type} (e : α → PyData) (xs : List α) (i : Int) : dIx (.tuple (xs.map e)) (.int i) = (atI xs i).map e := atI_map _ _ _
end
@[simp] theorem fold_tI (ns : List Int) : PyData.tuple (ns.map .int) = tI ns := rfl
@[simp] theorem fold_tT (ns : List (List Int)) : PyData.tuple (ns.map tI) = tT ns := rfl
@[simp] theorem fold_tIf {α : Type} (g : α → Int) (l : List α) : PyData.tuple (l.map fun a => .int (g a)) = tI (l.map g) := by unfold tI; rw [List.map_map]; rfl
@[simp] theorem fold_tIc {α : Type} (g : α → Int) (l : List α) : PyData.tuple (l.map (PyData.int ∘ g)) = tI (l.map g) := fold_tIf g l
@[simp] theorem fold_tTf {α : Type} (g : α → List Int) (l : List α) : PyData.tuple (l.map fun a => tI (g a)) = tT (l.map g) := by unfold tT; rw [List.map_map]; rfl
@[simp] theorem fold_tTc {α : Type} (g : α → List Int) (l : List α) : PyData.tuple (l.map (tI ∘ g)) = tT (l.map g) := fold_tTf g l
@[simp] theorem fold_dr (rows : List (List Int)) : PyData.tuple [.str "draft", tT rows] = drD rows := rfl
@[simp] theorem dTup_t (xs : List PyData) : dTup (.tuple xs) = some xs := rfl
@[simp] theorem dInt_b (b : Bool) : dInt [.bool b] = some (.int (if b = true then 1 else 0)) := by cases b <;> rfl
theorem ne_nil_enc {α : Type} [DecidableEq α] {n : Nat} {e : α → PyData} (h : IsEnc n e) (hn : n ≤ 59) (xs : List α) : dNe (.list (xs.map e)) (.list []) = some (.bool (!decide (xs = []))) := dNe_enc ((h.mono hn).lst) (by decide) xs []
theorem eq_nil_enc {α : Type} [DecidableEq α] {n : Nat} {e : α → PyData} (h : IsEnc n e) (hn : n ≤ 59) (xs : List α) : dEq (.list (xs.map e)) (.list []) = some (.bool (decide (xs = []))) := dEq_enc ((h.mono hn).lst) (by decide) xs []
@[simp] theorem ne_nil_lI (ns : List Int) : dNe (.list (ns.map .int)) (.list []) = some (.bool (!decide (ns = []))) := ne_nil_enc (enc_int 0) (by decide) ns
@[simp] theorem eq_nil_lI (ns : List Int) : dEq (.list (ns.map .int)) (.list []) = some (.bool (decide (ns = []))) := eq_nil_enc (enc_int 0) (by decide) ns
theorem eraseIdx_map {α β : Type} (e : α → β) : ∀ (xs : List α) (i : Nat), (xs.map e).eraseIdx i = (xs.eraseIdx i).map e
  | [], _ => rfl
  | _ :: _, 0 => rfl
  | x :: xs, i + 1 => by simp [eraseIdx_map e xs i]
theorem popAt_map {α : Type} (e : α → PyData) {xs : List α} {i : Int} (h1 : 0 ≤ i) (h2 : i < xs.length) (h3 : xs.length ≤ 100000) : mPopAt (xs.map e) [.int i] = some (e (xs[i.toNat]'(by omega)), (xs.eraseIdx i.toNat).map e) := by
  have h4 : i.toNat < xs.length := by omega
  have h5 : ixN (xs.map e).length i = some i.toNat := by unfold ixN; rw [List.length_map, if_pos h1, if_pos (by omega)]
  have h6 : mPop (xs.map e) [.int i] = (ixN (xs.map e).length i).bind fun j => ((xs.map e)[j]?).map fun y => (y, (xs.map e).eraseIdx j) := rfl
  unfold mPopAt
  rw [if_pos ⟨by simpa using h3, rfl⟩, h6, h5]
  simp [h4, eraseIdx_map]
@[simp] theorem ne_nil_nil : dNe (.list []) (.list []) = some (.bool false) := by simpa using ne_nil_lI []
@[simp] theorem eq_nil_nil : dEq (.list []) (.list []) = some (.bool true) := by simpa using eq_nil_lI []
theorem any_str (a : Str) : ∀ ss : List Str, ((ss.map PyData.str).any fun z => PyData.eqv z (.str a)) = decide (a ∈ ss)
  | [] => by simp
  | x :: xs => by
    rw [List.map_cons, List.any_cons, any_str a xs, Bool.eq_iff_iff]
    simp only [PyData.eqv, Bool.or_eq_true, decide_eq_true_eq, List.mem_cons, beq_iff_eq]
    exact or_congr eq_comm Iff.rfl
theorem in_strs {a : Str} {ss : List Str} (h : PyData.strOk a = true) (hs : ss.all PyData.strOk = true) : dIn (.str a) (.tuple (ss.map .str)) = some (.bool (decide (a ∈ ss))) ∧ dNotIn (.str a) (.tuple (ss.map .str)) = some (.bool (!decide (a ∈ ss))) := by
  have h2 : fitN 60 (.tuple (ss.map .str)) = true := by
    rw [fit_tuple, List.all_map, List.all_eq_true]
    intro x hx
    simpa [fit_str] using List.all_eq_true.mp hs x hx
  have h1 : fitN 60 (.str a) = true := by rw [fit_str]; exact h
  constructor
  · unfold dIn; rw [if_pos ⟨h1, h2⟩]; simp only [dItems, Option.map_some, any_str]
  · unfold dNotIn; rw [if_pos ⟨h1, h2⟩]; simp only [dItems, Option.map_some, any_str]
@[simp] theorem unb1_bor (s : SD) : unb1 s (bor s) = s := by cases s <;> rfl
theorem all_map {α : Type} (f : α → Bool) (xs : List α) : dAll [.list (xs.map fun x => .bool (f x))] = some (.bool (xs.all f)) := dAll_f f xs
theorem any_map {α : Type} (f : α → Bool) (xs : List α) : dAny [.list (xs.map fun x => .bool (f x))] = some (.bool (xs.any f)) := dAny_f f xs

/-! ### drafts -/
structure IsDr (rows : List (List Int)) (n : Nat) : Prop where
  r1 : 1 ≤ rows.length
  r2 : rows.length ≤ 12
  n1 : 1 ≤ n
  n2 : n ≤ 12
  len : ∀ r ∈ rows, r.length = n
  bit : ∀ r ∈ rows, ∀ x ∈ r, 0 ≤ x ∧ x < 2
/-- the columns of rows of n cells -/
def colsOf (n : Nat) (rows : List (List Int)) : List (List Int) := (upto n).map fun c => rows.map fun r => nth r c
@[simp] theorem colsOf_len (n : Nat) (rows : List (List Int)) : (colsOf n rows).length = n := by simp [colsOf]
theorem IsDr.ne {rows : List (List Int)} {n : Nat} (v : IsDr rows n) : ∃ r0 rs, rows = r0 :: rs := by
  cases rows with
  | nil => have := v.r1; simp at this
  | cons r0 rs => exact ⟨r0, rs, rfl⟩
theorem IsDr.at0 {rows : List (List Int)} {n : Nat} (v : IsDr rows n) : ∃ r0, atI rows 0 = some r0 ∧ r0.length = n ∧ r0 ∈ rows := by
  obtain ⟨r0, rs, rfl⟩ := v.ne
  exact ⟨r0, by simp [atI, ixN], v.len r0 (by simp), by simp⟩
theorem IsDr.row {rows : List (List Int)} {n : Nat} (v : IsDr rows n) {i : Int} (h1 : 0 ≤ i) (h2 : i < rows.length) : (nth rows i).length = n := v.len _ (nth_mem h1 h2)
theorem IsDr.cell {rows : List (List Int)} {n : Nat} (v : IsDr rows n) {r : List Int} (h : r ∈ rows) {j : Int} (h3 : 0 ≤ j) (h4 : j < n) : 0 ≤ nth r j ∧ nth r j < 2 :=
  v.bit r h _ (nth_mem h3 (by rw [v.len r h]; exact h4))
theorem IsDr.cols {rows : List (List Int)} {n : Nat} (v : IsDr rows n) : IsDr (colsOf n rows) rows.length := by
  refine ⟨by simpa using v.n1, by simpa using v.n2, v.r1, v.r2, fun r hr => ?_, fun r hr x hx => ?_⟩
  · obtain ⟨c, _, rfl⟩ := List.mem_map.mp hr
    simp
  · obtain ⟨c, hc, rfl⟩ := List.mem_map.mp hr
    obtain ⟨q, hq, rfl⟩ := List.mem_map.mp hx
    have := mem_upto.mp hc
    exact v.cell hq this.1 this.2
/-! ### comprehensions that draw -/
/-- the law's pot -/
abbrev P (a b : Int) : SD := .own true (.lst [.int a, .int b])
section
variable {vs : List Nat} {gs : GS} {fc : BS} {fd : DS} {xs : List PyData} {R : List SD} {a b : Int} {Q : List PyData × List SD → Prop} {α β : Type}
theorem WLc.pot (J : List PyData → List PyData → Prop) (h0 : J [] []) (h : ∀ pre x post ys a b, xs = pre ++ x :: post → J pre ys → WLS vs gs fc fd x (P a b :: R) fun q => ∃ a' b', q.2 = P a' b' :: R ∧ J (pre ++ [x]) (ys ++ q.1.toList))
    (k : ∀ ys a b, J xs ys → Q (ys, P a b :: R)) : WLc vs gs fc fd xs (P a b :: R) Q := by
  apply WLc.inv (fun pre ys S => ∃ a b, S = P a b :: R ∧ J pre ys) ⟨a, b, rfl, h0⟩
  · rintro pre x post ys S he ⟨a, b, rfl, hj⟩
    refine OV.use (h pre x post ys a b he hj) ?_
    rintro q ⟨a', b', h1, h2⟩
    exact ⟨a', b', h1, h2⟩
  · rintro ys S ⟨a, b, rfl, hj⟩
    exact k ys a b hj
/-- an item each, of a kind -/
theorem WLc.potE (e : α → PyData) (T : α → Prop) (h : ∀ x ∈ xs, ∀ a b, WLS vs gs fc fd x (P a b :: R) fun q => ∃ y a' b', q = (some (e y), P a' b' :: R) ∧ T y)
    (k : ∀ (ys : List α) a b, ys.length = xs.length → (∀ y ∈ ys, T y) → Q (ys.map e, P a b :: R)) : WLc vs gs fc fd xs (P a b :: R) Q := by
  apply WLc.pot (fun pre ys => ∃ zs : List α, ys = zs.map e ∧ zs.length = pre.length ∧ ∀ y ∈ zs, T y) ⟨[], rfl, rfl, by simp⟩
  · rintro pre x post ys a b he ⟨zs, rfl, hl, hz⟩
    refine OV.use (h x (by rw [he]; simp) a b) ?_
    rintro q ⟨y, a', b', rfl, hy⟩
    refine ⟨a', b', rfl, zs ++ [y], by simp, by simp [hl], fun z hz' => ?_⟩
    rcases List.mem_append.mp hz' with h' | h'
    · exact hz z h'
    · rw [List.mem_singleton.mp h']; exact hy
  · rintro ys a b ⟨zs, rfl, hl, hz⟩
    exact k zs a b hl hz
/-- some of the items -/
theorem WLc.potS {l : List α} (e : α → PyData) (h : ∀ x ∈ l, ∀ a b, WLS vs gs fc fd (e x) (P a b :: R) fun q => ∃ (c : Bool) (a' b' : Int), q = (if c = true then some (e x) else none, P a' b' :: R))
    (k : ∀ (ys : List α) a b, ys.Sublist l → Q (ys.map e, P a b :: R)) : WLc vs gs fc fd (l.map e) (P a b :: R) Q := by
  have key : ∀ (l : List α), (∀ x ∈ l, ∀ a b, WLS vs gs fc fd (e x) (P a b :: R) fun q => ∃ (c : Bool) (a' b' : Int), q = (if c = true then some (e x) else none, P a' b' :: R)) → ∀ a b, ∃ ys a' b', lcGo vs gs fc fd (l.map e) (P a b :: R) = some (List.map e ys, P a' b' :: R) ∧ ys.Sublist l := by
    intro l
    induction l with
    | nil => intro _ a b; exact ⟨[], a, b, rfl, .refl _⟩
    | cons x l ih =>
      intro h a b
      obtain ⟨q, h1, c, a1, b1, rfl⟩ := h x (by simp) a b
      obtain ⟨ys, a2, b2, h2, h3⟩ := ih (fun y hy => h y (List.mem_cons_of_mem _ hy)) a1 b1
      rw [List.map_cons, lcGo_cons, h1]
      simp only [Option.bind_some, h2, Option.map_some]
      cases c with
      | true => exact ⟨x :: ys, a2, b2, by simp, h3.cons₂ x⟩
      | false => exact ⟨ys, a2, b2, by simp, h3.cons x⟩
  obtain ⟨ys, a', b', h1, h2⟩ := key l h a b
  exact ⟨_, h1, k ys a' b' h2⟩
end
theorem sub_upto {n : Nat} {ys : List Int} (h : ys.Sublist (upto n)) : LotI n ys := ⟨List.Pairwise.sublist h (upto_pw n), fun k hk => mem_upto.mp (h.subset hk)⟩
theorem lot_len {m : Nat} {ns : List Int} (h : LotI m ns) : ns.length ≤ m := by
  have := setI_few (m := m) (ns := ns) fun k hk => by have := h.2 k hk; omega
  rwa [setI_self h.1] at this
theorem lot_lenZ {m : Int} {ns : List Int} (h : LotI m ns) (h0 : 0 ≤ m) : (ns.length : Int) ≤ m := by
  obtain ⟨k, rfl⟩ := Int.eq_ofNat_of_zero_le h0
  have := lot_len (m := k) h
  simpa using this
end DL

set_option Elab.async false
set_option linter.all false
set_option maxRecDepth 100000
set_option maxHeartbeats 4000000
/-! WL1: stepping through what part 14 .. 17 brought. -/
namespace DL
open PySem L2
/-- a statement with a tree -/
def WTr (f : TSem) (S : List SD) (tr : PyData) (Q : List SD × PyData → Prop) (d : Kt Q := .mk) : Prop := OV (f S tr) Q
def WTF (gs : GS) (fb : TSem) (xs : List PyData) (S : List SD) (tr : PyData) (Q : List SD × PyData → Prop) (d : Kt Q := .mk) : Prop := OV (tsForGo gs fb xs S tr) Q
section
variable {vs : List Nat} {fi : LS} {gs : GS} {fd fa fb : DS} {fl : LS} {S S' : List SD} {QL : List PyData × List SD → Prop} {QD : PyData × List SD → Prop} {QO : Out → Prop} {Q : List SD × PyData → Prop} {QS : List SD → Prop} {tr : PyData}
@[simp] theorem w_sdc : WP (sSDC vs fi gs fd) S QL = WP (sLC vs fi gs sYes fd) S fun p => OV (dInts p.1) fun ns => (setI ns).length < 64 ∧ QL ((setI ns).map .int, p.2) := by
  show DL0.OV ((sLC vs fi gs sYes fd S).bind fun p => (dInts p.1).bind fun ns => if (setI ns).length < 64 then some ((setI ns).map .int, p.2) else none) QL = DL0.OV (sLC vs fi gs sYes fd S) fun p => DL0.OV (dInts p.1) fun ns => (setI ns).length < 64 ∧ QL ((setI ns).map .int, p.2)
  simp only [DL0.OV_bind, DL0.OV_ite, DL0.OV_some, DL0.OV_none]
  congr 1
  funext p
  congr 1
  funext ns
  by_cases h : (setI ns).length < 64 <;> simp [h]
@[simp] theorem w_mLeaf (fl : LS) : WP (mLeaf fl) S QD = WP fl S fun p => QD (.list p.1, p.2) := OV_map _ _
@[simp] theorem w_mLC : WP (mLC vs fi gs fd) S QD = WP (sLC vs fi gs sYes fd) S fun p => QD (.list p.1, p.2) := OV_map _ _
@[simp] theorem w_mTwo (fa fb : DS) : WP (mTwo fa fb) S QD = WP fa S fun p => WP fb (borGo [] 0 p.2) fun q => QD (.list [p.1, q.1], unbGo [] 0 p.2 q.2) := by
  show DL0.OV ((fa S).bind fun p => (fb (borGo [] 0 p.2)).map fun q => (.list [p.1, q.1], unbGo [] 0 p.2 q.2)) QD = DL0.OV (fa S) fun p => DL0.OV (fb (borGo [] 0 p.2)) fun q => QD (.list [p.1, q.1], unbGo [] 0 p.2 q.2)
  simp only [DL0.OV_bind, DL0.OV_map]
@[simp] theorem w_tree (i : Nat) (fm : DS) (ft : TSem) (rest : SSem) : WP (sTree i fm ft rest) S QO = WP fm S fun p => i < p.2.length ∧ WTr ft (p.2.set i .un) p.1 fun q => WP rest (q.1.set i (.d q.2)) QO := by
  show DL0.OV ((fm S).bind fun p => if i < p.2.length then (ft (p.2.set i .un) p.1).bind fun q => rest (q.1.set i (.d q.2)) else none) QO = DL0.OV (fm S) fun p => i < p.2.length ∧ DL0.OV (ft (p.2.set i .un) p.1) fun q => DL0.OV (rest (q.1.set i (.d q.2))) QO
  simp only [DL0.OV_bind, DL0.OV_ite, DL0.OV_none]
  congr 1
  funext p
  by_cases h : i < p.2.length <;> simp [h]
@[simp] theorem wtr_seq (f g : TSem) : WTr (tsSeq f g) S tr Q = WTr f S tr fun p => WTr g p.1 p.2 Q := OV_bind _ _
@[simp] theorem wtr_x (f : List SD → Option (List SD)) : WTr (tsX f) S tr Q = WP f (borGo [] 0 S) fun S' => Q (unbK S S', tr) := OV_map _ _
@[simp] theorem w_xPar3 (i j l : Nat) (fs : AS) : WP (xPar3 i j l fs) S QS = WP (sTakeA fs) S fun p => OV (put3S i j l p.2 p.1) QS := OV_bind _ _
@[simp] theorem w_xAsg (fd : DS) (gs : GS) : WP (xAsg fd gs) S QS = WP fd S fun p => WG gs p.1 p.2 QS := OV_bind _ _
@[simp] theorem put3S_3 (i j l : Nat) (x y z : PyData) : put3S i j l S [x, y, z] = some (((S.set i (.d x)).set j (.d y)).set l (.d z)) := rfl
def slI : Option SD → Option Int
  | some (.d x) => dIntO x
  | _ => none
theorem slInt_eq (S : List SD) (j : Nat) : slInt S j = slI (S[j]?) := rfl
@[simp] theorem slI_d (x : PyData) : slI (some (.d x)) = dIntO x := rfl
@[simp] theorem wtr_put2 (i j1 j2 : Nat) (fd : DS) : WTr (tsPut2 i j1 j2 fd) S tr Q = WP fd (borGo [] 0 S) fun p => OV (slI ((unbGo [] 0 S p.2)[j1]?)) fun k => OV (slI ((unbGo [] 0 S p.2)[j2]?)) fun l => OV (put2 k l p.1 tr) fun tr' => Q (unbGo [] 0 S p.2, tr') := by
  show DL0.OV ((fd (borGo [] 0 S)).bind fun p => (slInt (unbGo [] 0 S p.2) j1).bind fun k => (slInt (unbGo [] 0 S p.2) j2).bind fun l => (put2 k l p.1 tr).map fun tr' => (unbGo [] 0 S p.2, tr')) Q = DL0.OV (fd (borGo [] 0 S)) _
  simp only [DL0.OV_bind, DL0.OV_map, slInt_eq]
  rfl
@[simp] theorem wtr_put3 (i j1 j2 j3 : Nat) (fd : DS) : WTr (tsPut3 i j1 j2 j3 fd) S tr Q = WP fd (borGo [] 0 S) fun p => OV (slI ((unbGo [] 0 S p.2)[j1]?)) fun k => OV (slI ((unbGo [] 0 S p.2)[j2]?)) fun l => OV (slI ((unbGo [] 0 S p.2)[j3]?)) fun m => OV (put3 k l m p.1 tr) fun tr' => Q (unbGo [] 0 S p.2, tr') := by
  show DL0.OV ((fd (borGo [] 0 S)).bind fun p => (slInt (unbGo [] 0 S p.2) j1).bind fun k => (slInt (unbGo [] 0 S p.2) j2).bind fun l => (slInt (unbGo [] 0 S p.2) j3).bind fun m => (put3 k l m p.1 tr).map fun tr' => (unbGo [] 0 S p.2, tr')) Q = DL0.OV (fd (borGo [] 0 S)) _
  simp only [DL0.OV_bind, DL0.OV_map, slInt_eq]
  rfl
@[simp] theorem wtr_for (fi : LS) (gs : GS) (fb : TSem) : WTr (tsFor fi gs fb) S tr Q = WP fi (borGo [] 0 S) fun p => WTF gs fb p.1 (unbGo [] 0 S p.2) tr Q := OV_bind _ _
@[simp] theorem unbK_cons (s s' : SD) (S S' : List SD) : unbK (s :: S) (s' :: S') = unbk1 s s' :: unbK S S' := rfl
@[simp] theorem unbK_nil : unbK [] [] = [] := rfl
@[simp] theorem unbk1_dd (s : SD) (x : PyData) : unbk1 s (.d x) = .d x := by cases s <;> rfl
@[simp] theorem unbk1_uu (s : SD) : unbk1 s .un = .un := by cases s <;> rfl
@[simp] theorem unbk1_oo (b : Bool) (x y : OB) : unbk1 (.own b x) (.own true y) = .own b y := rfl
theorem WTF.inv {gs : GS} {fb : TSem} {xs : List PyData} (I : List PyData → List SD → PyData → Prop) (h0 : I [] S tr) (h : ∀ pre x post S tr, xs = pre ++ x :: post → I pre S tr → WG gs x (borGo [] 0 S) fun S1 => WTr fb (unbK S S1) tr fun p => I (pre ++ [x]) p.1 p.2) (k : ∀ S tr, I xs S tr → Q (S, tr)) : WTF gs fb xs S tr Q := by
  have key : ∀ (post pre : List PyData) (S : List SD) (tr : PyData), xs = pre ++ post → I pre S tr → WTF gs fb post S tr Q := by
    intro post
    induction post with
    | nil =>
      intro pre S tr e i
      show OV (some (S, tr)) Q
      rw [OV_some]
      exact k S tr (by rw [e]; simpa using i)
    | cons x post ih =>
      intro pre S tr e i
      show OV ((gs x (borGo [] 0 S)).bind fun S1 => (fb (unbK S S1) tr).bind fun p => tsForGo gs fb post p.1 p.2) Q
      rw [OV_bind]
      refine OV.use (h pre x post S tr e i) fun S1 h1 => ?_
      rw [OV_bind]
      exact OV.use h1 fun p h2 => ih (pre ++ [x]) p.1 p.2 (by rw [e]; simp) h2
  exact key xs [] S tr rfl h0
theorem WTF.invA {gs : GS} {fb : TSem} {xs : List PyData} (I : List PyData → List SD → PyData → Prop) (h0 : I [] S tr) (h : ∀ pre x post S tr, xs = pre ++ x :: post → I pre S tr → WG gs x (borGo [] 0 S) fun S1 => WTr fb (unbK S S1) tr fun p => At (fun S => I (pre ++ [x]) S p.2) p.1) (k : ∀ S tr, I xs S tr → Q (S, tr)) : WTF gs fb xs S tr Q := WTF.inv I h0 h k
end
end DL

set_option Elab.async false
set_option linter.all false
set_option maxRecDepth 100000
set_option maxHeartbeats 4000000
/-! WL2: stepping through dicts with tuple keys. -/
namespace DL
open PySem L2
section
variable {S : List SD} {Q : Op × List SD → Prop} {QO : Out → Prop} {QV : SD × List SD → Prop}
@[simp] theorem w_xget (i : Nat) (fy : ES) : WP (sXGet i fy) S Q = (isDctS (S[i]?) = true ∧ WP fy S fun p => OV (p.1.get p.2) fun y => OV (keyOf y) fun k => OV (atDct (fun kvs => mGet kvs k) (p.2[i]?)) fun d => Q (.dat d, p.2)) := by
  show DL0.OV (if isDctS (S[i]?) = true then (fy S).bind fun p => (p.1.get p.2).bind fun y => (keyOf y).bind fun k => (atDct (fun kvs => mGet kvs k) (p.2[i]?)).map fun d => (Op.dat d, p.2) else none) Q = (isDctS (S[i]?) = true ∧ DL0.OV (fy S) fun p => DL0.OV (p.1.get p.2) fun y => DL0.OV (keyOf y) fun k => DL0.OV (atDct (fun kvs => mGet kvs k) (p.2[i]?)) fun d => Q (.dat d, p.2))
  by_cases h : isDctS (S[i]?) = true <;> simp [h, DL0.OV_bind, DL0.OV_map]
@[simp] theorem w_xin (neg : Bool) (i : Nat) (fy : ES) : WP (sXIn neg i fy) S Q = WP fy S fun p => OV (p.1.get p.2) fun y => OV (keyOf y) fun k => OV (atDct (fun kvs => some (.bool (if neg = true then !(mGet kvs k).isSome else (mGet kvs k).isSome))) (p.2[i]?)) fun d => Q (.dat d, p.2) := by
  show DL0.OV ((fy S).bind fun p => (p.1.get p.2).bind fun y => (keyOf y).bind fun k => (atDct (fun kvs => some (.bool (if neg = true then !(mGet kvs k).isSome else (mGet kvs k).isSome))) (p.2[i]?)).map fun d => (Op.dat d, p.2)) Q = DL0.OV (fy S) fun p => DL0.OV (p.1.get p.2) fun y => DL0.OV (keyOf y) fun k => DL0.OV (atDct (fun kvs => some (.bool (if neg = true then !(mGet kvs k).isSome else (mGet kvs k).isSome))) (p.2[i]?)) fun d => Q (.dat d, p.2)
  simp only [DL0.OV_bind, DL0.OV_map]
@[simp] theorem w_xput (i : Nat) (fy : ES) (fd : DS) : WP (sXPutS i fy fd) S QO = WP fd S fun q => isDctS (q.2[i]?) = true ∧ WP fy q.2 fun p => OV (p.1.get p.2) fun y => OV (keyOf y) fun k => OV (putAtX i k q.1 p.2 (p.2[i]?)) QO := by
  show DL0.OV ((fd S).bind fun q => if isDctS (q.2[i]?) = true then (fy q.2).bind fun p => (p.1.get p.2).bind fun y => (keyOf y).bind fun k => putAtX i k q.1 p.2 (p.2[i]?) else none) QO = DL0.OV (fd S) fun q => isDctS (q.2[i]?) = true ∧ DL0.OV (fy q.2) fun p => DL0.OV (p.1.get p.2) fun y => DL0.OV (keyOf y) fun k => DL0.OV (putAtX i k q.1 p.2 (p.2[i]?)) QO
  rw [DL0.OV_bind]
  congr 1
  funext q
  by_cases h : isDctS (q.2[i]?) = true <;> simp [h, DL0.OV_bind]
@[simp] theorem w_xdisp (fk : ES) (fd : DS) : WP (sXDisp fk fd) S QV = WP fk (borGo [] 0 S) fun p => WP fd p.2 fun q => OV (p.1.get q.2) fun y => OV (keyOf y) fun k => QV (.own false (.dct true [(keyT k, q.1)]), unbGo [] 0 S q.2) := by
  show DL0.OV ((fk (borGo [] 0 S)).bind fun p => (fd p.2).bind fun q => (p.1.get q.2).bind fun y => (keyOf y).map fun k => (SD.own false (.dct true [(keyT k, q.1)]), unbGo [] 0 S q.2)) QV = DL0.OV (fk (borGo [] 0 S)) fun p => DL0.OV (fd p.2) fun q => DL0.OV (p.1.get q.2) fun y => DL0.OV (keyOf y) fun k => QV (.own false (.dct true [(keyT k, q.1)]), unbGo [] 0 S q.2)
  simp only [DL0.OV_bind, DL0.OV_map]
@[simp] theorem w_xnew : WP sXNew S QV = QV (.own false (.dct true []), S) := OV_some _
@[simp] theorem w_lenCall (n : Nat) (m : Fn) (f : AS) : WP (sLenCall n m f) S Q = WP (sCallR n m f) S fun p => OV (dctLen p.1) fun d => Q (.dat d, p.2) := by
  show DL0.OV ((sCallR n m f S).bind fun p => (dctLen p.1).map fun d => (Op.dat d, p.2)) Q = DL0.OV (sCallR n m f S) fun p => DL0.OV (dctLen p.1) fun d => Q (.dat d, p.2)
  simp only [DL0.OV_bind, DL0.OV_map]
@[simp] theorem dctLen_o (kvs : ML) : dctLen (.own false (.dct true kvs)) = some (.int kvs.length) := rfl
@[simp] theorem isDct_o (b : Bool) (kvs : ML) : isDctS (some (.own b (.dct true kvs))) = true := rfl
@[simp] theorem atDct_o (f : ML → Option PyData) (b : Bool) (kvs : ML) : atDct f (some (.own b (.dct true kvs))) = f kvs := rfl
@[simp] theorem putAtX_o (i : Nat) (k : List Key) (d : PyData) (b : Bool) (kvs : ML) : putAtX i k d S (some (.own b (.dct true kvs))) = if kvs.length < 100000 then some (.nx (S.set i (.own b (.dct true (mPut kvs k d))))) else none := rfl
end
end DL

set_option Elab.async false
set_option linter.all false
set_option maxRecDepth 100000
set_option maxHeartbeats 4000000
/-! WL3: stepping through what parts 24 .. brought. -/
namespace DL
open PySem L2
section
variable {S : List SD} {Q : Op × List SD → Prop} {QG : List SD → Prop}
@[simp] theorem w_reprL (f : AS) : WP (sReprL f) S Q = WP f S fun p => OV (getAll p.2 p.1) fun xs => xs.length ≤ 100000 ∧ OV (dRepr [.list xs]) fun z => Q (.dat z, p.2) := by
  show DL0.OV ((f S).bind fun p => (getAll p.2 p.1).bind fun xs => if xs.length ≤ 100000 then (dRepr [.list xs]).map fun z => (Op.dat z, p.2) else none) Q = DL0.OV (f S) fun p => DL0.OV (getAll p.2 p.1) fun xs => xs.length ≤ 100000 ∧ DL0.OV (dRepr [.list xs]) fun z => Q (.dat z, p.2)
  simp only [DL0.OV_bind]
  congr 1
  funext p
  congr 1
  funext xs
  by_cases h : xs.length ≤ 100000 <;> simp [h, DL0.OV_map]
@[simp] theorem wg_seq (n : Nat) (g : List PyData → List SD → Option (List SD)) (x : PyData) : WG (gsSeq n g) x S QG = OV (dItems x) fun xs => xs.length = n ∧ WGs g xs S QG := by
  show DL0.OV ((dItems x).bind fun xs => if xs.length = n then g xs S else none) QG = DL0.OV (dItems x) fun xs => xs.length = n ∧ DL0.OV (g xs S) QG
  simp only [DL0.OV_bind]
  congr 1
  funext xs
  by_cases h : xs.length = n <;> simp [h]
end
end DL

set_option Elab.async false
set_option linter.all false
set_option maxRecDepth 100000
set_option maxHeartbeats 4000000
/-! WL4: stepping through what part 27 brought. -/
namespace DL
open PySem L2
section
variable {S : List SD} {Q : Op × List SD → Prop}
@[simp] theorem w_xget2 (i : Nat) (fy : ES) (fd : DS) : WP (sXGet2 i fy fd) S Q = (isDctS (S[i]?) = true ∧ WP fy S fun p => WP fd p.2 fun q => OV (p.1.get q.2) fun y => OV (keyOf y) fun k => OV (atDct (fun kvs => some ((mGet kvs k).getD q.1)) (q.2[i]?)) fun d => Q (.dat d, q.2)) := by
  show DL0.OV (if isDctS (S[i]?) = true then (fy S).bind fun p => (fd p.2).bind fun q => (p.1.get q.2).bind fun y => (keyOf y).bind fun k => (atDct (fun kvs => some ((mGet kvs k).getD q.1)) (q.2[i]?)).map fun d => (Op.dat d, q.2) else none) Q = (isDctS (S[i]?) = true ∧ DL0.OV (fy S) fun p => DL0.OV (fd p.2) fun q => DL0.OV (p.1.get q.2) fun y => DL0.OV (keyOf y) fun k => DL0.OV (atDct (fun kvs => some ((mGet kvs k).getD q.1)) (q.2[i]?)) fun d => Q (.dat d, q.2))
  by_cases h : isDctS (S[i]?) = true <;> simp [h, DL0.OV_bind, DL0.OV_map]
@[simp] theorem w_count (fo fa : ES) : WP (sCount fo fa) S Q = WP fo S fun p => OV (p.1.get p.2) fun l => isList l = true ∧ WP fa p.2 fun q => OV (p.1.get q.2) fun x => OV (q.1.get q.2) fun y => OV (dCount x y) fun z => Q (.dat z, q.2) := by
  show DL0.OV ((fo S).bind fun p => (p.1.get p.2).bind fun l => if isList l = true then (fa p.2).bind fun q => (p.1.get q.2).bind fun x => (q.1.get q.2).bind fun y => (dCount x y).map fun z => (Op.dat z, q.2) else none) Q = DL0.OV (fo S) fun p => DL0.OV (p.1.get p.2) fun l => isList l = true ∧ DL0.OV (fa p.2) fun q => DL0.OV (p.1.get q.2) fun x => DL0.OV (q.1.get q.2) fun y => DL0.OV (dCount x y) fun z => Q (.dat z, q.2)
  simp only [DL0.OV_bind, DL0.OV_map]
  congr 1
  funext p
  congr 1
  funext l
  by_cases h : isList l = true <;> simp [h]
@[simp] theorem dCount_map (xs : List Int) (k : Int) : dCount (.list (xs.map .int)) (.int k) = some (.int (xs.count k : Nat)) := by
  show (dInts (xs.map .int)).map _ = _
  rw [dInts_map]; rfl
end
end DL

/-! ### the text -/
namespace PK92
open PySem PySem.Spec PyProof.Rows L2 DL
def topS (i : Nat) : Stmt := PySem.Challenge.pw_onecloth_k92_whole_repeats_and_floats_wi.main.body.getD i (.Pass ⟨0, 0, 0, 0⟩)
abbrev s__law_pot : Stmt := topS 51
theorem sc__law_pot : FnScope ["script", "k", "cell"] ["script", "k"] (defScope s__law_pot) := ⟨rfl, rfl, rfl, by decide +kernel, rfl, by decide +kernel, by decide +kernel⟩
abbrev s__law_draw : Stmt := topS 52
theorem sc__law_draw : FnScope ["pot", "many", "digit"] ["pot", "many"] (defScope s__law_draw) := ⟨rfl, rfl, rfl, by decide +kernel, rfl, by decide +kernel, by decide +kernel⟩
abbrev s__law_draft : Stmt := topS 53
theorem sc__law_draft : FnScope ["pot", "most", "warps", "wefts", "way", "rows", "weft", "warp"] ["pot", "most"] (defScope s__law_draft) := ⟨rfl, rfl, rfl, by decide +kernel, rfl, by decide +kernel, by decide +kernel⟩
abbrev s__law_times : Stmt := topS 57
theorem sc__law_times : FnScope ["draft", "across", "down", "row"] ["draft", "across", "down"] (defScope s__law_times) := ⟨rfl, rfl, rfl, by decide +kernel, rfl, by decide +kernel, by decide +kernel⟩
abbrev s__law_least : Stmt := topS 58
theorem sc__law_least : FnScope ["draft", "warps", "wefts", "across", "down", "found", "row"] ["draft"] (defScope s__law_least) := ⟨rfl, rfl, rfl, by decide +kernel, rfl, by decide +kernel, by decide +kernel⟩
abbrev s__law_strands : Stmt := topS 54
theorem sc__law_strands : FnScope ["draft", "at"] ["draft"] (defScope s__law_strands) := ⟨rfl, rfl, rfl, by decide +kernel, rfl, by decide +kernel, by decide +kernel⟩
abbrev s__law_over : Stmt := topS 55
theorem sc__law_over : FnScope ["draft", "strand", "other"] ["draft", "strand", "other"] (defScope s__law_over) := ⟨rfl, rfl, rfl, by decide +kernel, rfl, by decide +kernel, by decide +kernel⟩
abbrev s__law_is_one : Stmt := topS 56
theorem sc__law_is_one : FnScope ["draft", "every", "is_up", "found", "left", "here", "there"] ["draft"] (defScope s__law_is_one) := ⟨rfl, rfl, rfl, by decide +kernel, rfl, by decide +kernel, by decide +kernel⟩
abbrev s__law_round : Stmt := topS 60
theorem sc__law_round : FnScope ["some", "long", "found", "at", "end"] ["some"] (defScope s__law_round) := ⟨rfl, rfl, rfl, by decide +kernel, rfl, by decide +kernel, by decide +kernel⟩
abbrev s_is_tuple : Stmt := topS 10
theorem sc_is_tuple : FnScope ["value", "many"] ["value", "many"] (defScope s_is_tuple) := ⟨rfl, rfl, rfl, by decide +kernel, rfl, by decide +kernel, by decide +kernel⟩
abbrev s_is_headed : Stmt := topS 16
theorem sc_is_headed : FnScope ["value", "word"] ["value", "word"] (defScope s_is_headed) := ⟨rfl, rfl, rfl, by decide +kernel, rfl, by decide +kernel, by decide +kernel⟩
abbrev s_is_integer : Stmt := topS 8
theorem sc_is_integer : FnScope ["value"] ["value"] (defScope s_is_integer) := ⟨rfl, rfl, rfl, by decide +kernel, rfl, by decide +kernel, by decide +kernel⟩
abbrev s_is_within : Stmt := topS 9
theorem sc_is_within : FnScope ["value", "least", "most"] ["value", "least", "most"] (defScope s_is_within) := ⟨rfl, rfl, rfl, by decide +kernel, rfl, by decide +kernel, by decide +kernel⟩
abbrev s_are_rows_of : Stmt := topS 15
theorem sc_are_rows_of : FnScope ["value", "signs", "row", "one"] ["value", "signs"] (defScope s_are_rows_of) := ⟨rfl, rfl, rfl, by decide +kernel, rfl, by decide +kernel, by decide +kernel⟩
abbrev s_is_draft_value : Stmt := topS 17
theorem sc_is_draft_value : FnScope ["value"] ["value"] (defScope s_is_draft_value) := ⟨rfl, rfl, rfl, by decide +kernel, rfl, by decide +kernel, by decide +kernel⟩
abbrev s_want_draft : Stmt := topS 18
theorem sc_want_draft : FnScope ["draft"] ["draft"] (defScope s_want_draft) := ⟨rfl, rfl, rfl, by decide +kernel, rfl, by decide +kernel, by decide +kernel⟩
abbrev s_many_warps : Stmt := topS 19
theorem sc_many_warps : FnScope ["draft"] ["draft"] (defScope s_many_warps) := ⟨rfl, rfl, rfl, by decide +kernel, rfl, by decide +kernel, by decide +kernel⟩
abbrev s_many_wefts : Stmt := topS 20
theorem sc_many_wefts : FnScope ["draft"] ["draft"] (defScope s_many_wefts) := ⟨rfl, rfl, rfl, by decide +kernel, rfl, by decide +kernel, by decide +kernel⟩
abbrev s_is_strand_of : Stmt := topS 21
theorem sc_is_strand_of : FnScope ["draft", "value"] ["draft", "value"] (defScope s_is_strand_of) := ⟨rfl, rfl, rfl, by decide +kernel, rfl, by decide +kernel, by decide +kernel⟩
abbrev s_want_strand : Stmt := topS 22
theorem sc_want_strand : FnScope ["draft", "strand"] ["draft", "strand"] (defScope s_want_strand) := ⟨rfl, rfl, rfl, by decide +kernel, rfl, by decide +kernel, by decide +kernel⟩
abbrev s_round_runs : Stmt := topS 43
theorem sc_round_runs : FnScope ["signs", "begin", "found", "sign", "at"] ["signs"] (defScope s_round_runs) := ⟨rfl, rfl, rfl, by decide +kernel, rfl, by decide +kernel, by decide +kernel⟩
abbrev s_signs_along : Stmt := topS 27
theorem sc_signs_along : FnScope ["draft", "strand", "one", "row"] ["draft", "strand"] (defScope s_signs_along) := ⟨rfl, rfl, rfl, by decide +kernel, rfl, by decide +kernel, by decide +kernel⟩
abbrev s_endless_floats : Stmt := topS 48
theorem sc_endless_floats : FnScope ["draft", "strand"] ["draft", "strand"] (defScope s_endless_floats) := ⟨rfl, rfl, rfl, by decide +kernel, rfl, by decide +kernel, by decide +kernel⟩
abbrev s__law_signs : Stmt := topS 59
theorem sc__law_signs : FnScope ["draft", "strand", "one", "row"] ["draft", "strand"] (defScope s__law_signs) := ⟨rfl, rfl, rfl, by decide +kernel, rfl, by decide +kernel, by decide +kernel⟩
abbrev s_want_number : Stmt := topS 38
theorem sc_want_number : FnScope ["value", "least", "most"] ["value", "least", "most"] (defScope s_want_number) := ⟨rfl, rfl, rfl, by decide +kernel, rfl, by decide +kernel, by decide +kernel⟩
abbrev s_with_rows : Stmt := topS 29
theorem sc_with_rows : FnScope ["draft", "rows", "row"] ["draft", "rows"] (defScope s_with_rows) := ⟨rfl, rfl, rfl, by decide +kernel, rfl, by decide +kernel, by decide +kernel⟩
abbrev s_times_over : Stmt := topS 42
theorem sc_times_over : FnScope ["draft", "across", "down", "row"] ["draft", "across", "down"] (defScope s_times_over) := ⟨rfl, rfl, rfl, by decide +kernel, rfl, by decide +kernel, by decide +kernel⟩
abbrev s_repeated : Stmt := topS 45
theorem sc_repeated : FnScope ["draft", "across", "down"] ["draft", "across", "down"] (defScope s_repeated) := ⟨rfl, rfl, rfl, by decide +kernel, rfl, by decide +kernel, by decide +kernel⟩
abbrev s_divisors : Stmt := topS 40
theorem sc_divisors : FnScope ["many", "one"] ["many"] (defScope s_divisors) := ⟨rfl, rfl, rfl, by decide +kernel, rfl, by decide +kernel, by decide +kernel⟩
abbrev s_corner : Stmt := topS 41
theorem sc_corner : FnScope ["draft", "across", "down", "row"] ["draft", "across", "down"] (defScope s_corner) := ⟨rfl, rfl, rfl, by decide +kernel, rfl, by decide +kernel, by decide +kernel⟩
abbrev s_least_repeat : Stmt := topS 46
theorem sc_least_repeat : FnScope ["draft", "across", "down", "found"] ["draft"] (defScope s_least_repeat) := ⟨rfl, rfl, rfl, by decide +kernel, rfl, by decide +kernel, by decide +kernel⟩
abbrev s_strands_of : Stmt := topS 23
theorem sc_strands_of : FnScope ["draft", "warps", "at"] ["draft"] (defScope s_strands_of) := ⟨rfl, rfl, rfl, by decide +kernel, rfl, by decide +kernel, by decide +kernel⟩
abbrev s_cell_between : Stmt := topS 24
theorem sc_cell_between : FnScope ["strand", "other"] ["strand", "other"] (defScope s_cell_between) := ⟨rfl, rfl, rfl, by decide +kernel, rfl, by decide +kernel, by decide +kernel⟩
abbrev s_lies_over : Stmt := topS 31
theorem sc_lies_over : FnScope ["draft", "strand", "other", "weft", "warp"] ["draft", "strand", "other"] (defScope s_lies_over) := ⟨rfl, rfl, rfl, by decide +kernel, rfl, by decide +kernel, by decide +kernel⟩
abbrev s_below : Stmt := topS 32
theorem sc_below : FnScope ["draft", "strand", "one"] ["draft", "strand"] (defScope s_below) := ⟨rfl, rfl, rfl, by decide +kernel, rfl, by decide +kernel, by decide +kernel⟩
abbrev s_ways_from : Stmt := topS 34
theorem sc_ways_from : FnScope ["draft", "strand", "found", "last", "late", "here", "there"] ["draft", "strand"] (defScope s_ways_from) := ⟨rfl, rfl, rfl, by decide +kernel, rfl, by decide +kernel, by decide +kernel⟩
abbrev s_above : Stmt := topS 33
theorem sc_above : FnScope ["draft", "strand", "one"] ["draft", "strand"] (defScope s_above) := ⟨rfl, rfl, rfl, by decide +kernel, rfl, by decide +kernel, by decide +kernel⟩
abbrev s_ways_back : Stmt := topS 35
theorem sc_ways_back : FnScope ["draft", "strand", "found", "left", "here", "there"] ["draft", "strand"] (defScope s_ways_back) := ⟨rfl, rfl, rfl, by decide +kernel, rfl, by decide +kernel, by decide +kernel⟩
abbrev s_are_held : Stmt := topS 36
theorem sc_are_held : FnScope ["draft", "many", "first"] ["draft"] (defScope s_are_held) := ⟨rfl, rfl, rfl, by decide +kernel, rfl, by decide +kernel, by decide +kernel⟩
abbrev s_is_endless_one : Stmt := topS 47
theorem sc_is_endless_one : FnScope ["draft"] ["draft"] (defScope s_is_endless_one) := ⟨rfl, rfl, rfl, by decide +kernel, rfl, by decide +kernel, by decide +kernel⟩
abbrev s_longest_round : Stmt := topS 44
theorem sc_longest_round : FnScope ["draft", "kind", "sign", "found", "strand", "one", "long"] ["draft", "kind", "sign"] (defScope s_longest_round) := ⟨rfl, rfl, rfl, by decide +kernel, rfl, by decide +kernel, by decide +kernel⟩
abbrev s_endless_longest : Stmt := topS 49
theorem sc_endless_longest : FnScope ["draft", "kind", "sign"] ["draft"] (defScope s_endless_longest) := ⟨rfl, rfl, rfl, by decide +kernel, rfl, by decide +kernel, by decide +kernel⟩
abbrev s__law_right : Stmt := topS 61
theorem sc__law_right : FnScope ["pot", "draft", "shown", "warps", "wefts", "across", "down", "due", "least", "is_one", "rows", "strand", "some", "told", "sign", "key", "most", "one", "long"] ["pot"] (defScope s__law_right) := ⟨rfl, rfl, rfl, by decide +kernel, rfl, by decide +kernel, by decide +kernel⟩
abbrev s_law : Stmt := topS 62
theorem sc_law : FnScope ["script", "k", "pot", "turn"] ["script"] (defScope s_law) := ⟨rfl, rfl, rfl, by decide +kernel, rfl, by decide +kernel, by decide +kernel⟩
abbrev k_FOUR : PyData := (.tuple [(.tuple [(.str "warp"), (.int 1)]), (.tuple [(.str "warp"), (.int 0)]), (.tuple [(.str "weft"), (.int 1)]), (.tuple [(.str "weft"), (.int 0)])])
abbrev k_MOST : PyData := (.int 12)
abbrev k_WARP : PyData := (.str "warp")
abbrev k_WEFT : PyData := (.str "weft")
/-- what the module's names are -/
structure Md (P : Program) (w : World) (K : PySem.W.Frag) (mg : Str → Option Value) (ka_FOUR : Addr) : Prop where
  z_abs : mg "abs" = none
  z_all : mg "all" = none
  z_any : mg "any" = none
  z_bool : mg "bool" = none
  z_divmod : mg "divmod" = none
  z_int : mg "int" = none
  z_isinstance : mg "isinstance" = none
  z_len : mg "len" = none
  z_max : mg "max" = none
  z_min : mg "min" = none
  z_range : mg "range" = none
  z_repr : mg "repr" = none
  z_set : mg "set" = none
  z_sorted : mg "sorted" = none
  z_str : mg "str" = none
  z_tuple : mg "tuple" = none
  c_FOUR : GK ⟨K, P, w⟩ mg "FOUR" (.ref ka_FOUR) k_FOUR
  c_MOST : GK ⟨K, P, w⟩ mg "MOST" (.int 12) k_MOST
  c_WARP : GK ⟨K, P, w⟩ mg "WARP" (.str "warp") k_WARP
  c_WEFT : GK ⟨K, P, w⟩ mg "WEFT" (.str "weft") k_WEFT
/-! ### the mirrors -/
noncomputable def m__law_pot : Fn := defn 3 (sSeq (sSetV (vD (sTake (sIf (sTest (sBin dLt (sVar 1) (sCB dLen (sCons (sVar 0) sNil)))) (sCB dAbs (sCons (sBin dIx (sVar 0) (sVar 1)) sNil)) (sBin dAdd (sBin dMulX (sC (.int 1367)) (sVar 1)) (sC (.int 271)))))) 2) (sRetVS (vL (sLst (sCons (sCB dMax (sCons (sC (.int 0)) (sCons (sBin dSub (sVar 2) (sBin dPow (sC (.int 10)) (sC (.int 18)))) sNil))) (sCons (sBin dAdd (sBin dMod (sCB dInt (sCons (sBin dAdd (sBin dAdd (sBin dMulX (sBin dMod (sCB dInt (sCons (sVar 2) sNil)) (sC (.int 2147483549))) (sC (.int 40014))) (sBin dMulX (sC (.int 6967)) (sVar 1))) (sC (.int 1019))) sNil)) (sC (.int 2147483563))) (sC (.int 1))) sNil))))))
noncomputable def m__law_draw : Fn := defn 3 (sSeq (sIf (sTest (sBin dGt (sBin dIx (sVar 0) (sC (.int 0))) (sC (.int 0)))) (sSeq (sAsg (sTake (sCB dDivmod (sCons (sBin dIx (sVar 0) (sC (.int 0))) (sCons (sVar 1) sNil)))) (gsTup 2 (gsCons (gsSub 0 (sC (.int 0))) (gsCons (gsName 2) gsNil)))) (sRetVS (vD (sTake (sVar 2))))) sNext) (sSeq (sAsg (sTake (sBin dMod (sCB dInt (sCons (sBin dAdd (sBin dMulX (sBin dIx (sVar 0) (sC (.int 1))) (sC (.int 40692))) (sC (.int 10069))) sNil)) (sC (.int 2147483587)))) (gsSub 0 (sC (.int 1)))) (sRetVS (vD (sTake (sBin dMod (sCB dInt (sCons (sBin dDiv (sBin dMod (sCB dInt (sCons (sBin dMulX (sBin dIx (sVar 0) (sC (.int 1))) (sBin dIx (sVar 0) (sC (.int 1)))) sNil)) (sC (.int 2147483549))) (sC (.int 17))) sNil)) (sVar 1)))))))
noncomputable def m__law_draft : Fn := defn 8 (sSeq (sPar3 2 3 4 (sCons (sBin dAdd (sC (.int 1)) (sCall 2 m__law_draw (sCons (sVar 0) (sCons (sVar 1) sNil)))) (sCons (sBin dAdd (sC (.int 1)) (sCall 2 m__law_draw (sCons (sVar 0) (sCons (sVar 1) sNil)))) (sCons (sCall 2 m__law_draw (sCons (sVar 0) (sCons (sC (.int 4)) sNil))) sNil)))) (sSeq (sSetV (vL (sLst sNil)) 5) (sSeq (sFor (sArgI rngI (sCons (sVar 3) sNil)) (gsName 6) (sIf (sTest (sBin dEq (sVar 4) (sC (.int 0)))) (sDrop (sMeth 5 mAppend (sCons (sCB dTuple (sCons (sKeep (sLC [7] (sArgI rngI (sCons (sVar 2) sNil)) (gsName 7) sYes (sTake (sCB dInt (sCons (sBin dMod (sBin dAdd (sVar 6) (sVar 7)) (sC (.int 2))) sNil))))) sNil)) sNil))) (sIf (sTest (sBin dEq (sVar 4) (sC (.int 1)))) (sDrop (sMeth 5 mAppend (sCons (sCB dTuple (sCons (sKeep (sLC [7] (sArgI rngI (sCons (sVar 2) sNil)) (gsName 7) sYes (sTake (sCB dInt (sCons (sBin dGt (sCall 2 m__law_draw (sCons (sVar 0) (sCons (sC (.int 5)) sNil))) (sC (.int 0))) sNil))))) sNil)) sNil))) (sDrop (sMeth 5 mAppend (sCons (sCB dTuple (sCons (sKeep (sLC [7] (sArgI rngI (sCons (sVar 2) sNil)) (gsName 7) sYes (sTake (sCall 2 m__law_draw (sCons (sVar 0) (sCons (sC (.int 2)) sNil)))))) sNil)) sNil)))))) (sRetVS (vD (sTake (sTup (sCons (sC (.str "draft")) (sCons (sCB dTuple (sCons (sVar 5) sNil)) sNil)))))))))
noncomputable def m__law_times : Fn := defn 4 (sRetVS (vD (sTake (sTup (sCons (sC (.str "draft")) (sCons (sBin dMulX (sCB dTuple (sCons (sKeep (sLC [3] (sSeqI (sTake (sBin dIx (sVar 0) (sC (.int 1))))) (gsName 3) sYes (sTake (sBin dMulX (sVar 3) (sVar 1))))) sNil)) (sVar 2)) sNil))))))
noncomputable def m__law_least : Fn := defn 7 (sSeq (sPar 1 2 (vD (sTake (sCB dLen (sCons (sBin dIx (sBin dIx (sVar 0) (sC (.int 1))) (sC (.int 0))) sNil)))) (vD (sTake (sCB dLen (sCons (sBin dIx (sVar 0) (sC (.int 1))) sNil))))) (sSeq (sFor (sArgI rngI (sCons (sC (.int 1)) (sCons (sBin dAdd (sVar 1) (sC (.int 1))) sNil))) (gsName 3) (sFor (sArgI rngI (sCons (sC (.int 1)) (sCons (sBin dAdd (sVar 2) (sC (.int 1))) sNil))) (gsName 4) (sIf (sAnd (sTest (sBin dEq (sCB dInt (sCons (sBin dMod (sVar 1) (sVar 3)) sNil)) (sC (.int 0)))) (sTest (sBin dEq (sCB dInt (sCons (sBin dMod (sVar 2) (sVar 4)) sNil)) (sC (.int 0))))) (sSeq (sSetV (vD (sTake (sTup (sCons (sC (.str "draft")) (sCons (sCB dTuple (sCons (sKeep (sLC [6] (sSeqI (sTake (sSlice (sBin dIx (sVar 0) (sC (.int 1))) sNoPart (sPart (sVar 4))))) (gsName 6) sYes (sTake (sSlice (sVar 6) sNoPart (sPart (sVar 3)))))) sNil)) sNil))))) 5) (sIf (sTest (sBin dEq (sCall 3 m__law_times (sCons (sVar 5) (sCons (sBin dDiv (sVar 1) (sVar 3)) (sCons (sBin dDiv (sVar 2) (sVar 4)) sNil)))) (sVar 0))) (sRetVS (vD (sTake (sVar 5)))) sNext)) sNext))) (sRetVS (vD (sTake (sVar 0))))))
noncomputable def m__law_strands : Fn := defn 2 (sRetVS (vL (sBinL dAddL (sKeep (sLC [1] (sArgI rngI (sCons (sCB dLen (sCons (sBin dIx (sBin dIx (sVar 0) (sC (.int 1))) (sC (.int 0))) sNil)) sNil)) (gsName 1) sYes (sTake (sTup (sCons (sC (.str "warp")) (sCons (sVar 1) sNil)))))) (sKeep (sLC [1] (sArgI rngI (sCons (sCB dLen (sCons (sBin dIx (sVar 0) (sC (.int 1))) sNil)) sNil)) (gsName 1) sYes (sTake (sTup (sCons (sC (.str "weft")) (sCons (sVar 1) sNil)))))))))
noncomputable def m__law_over : Fn := defn 3 (sSeq (sIf (sTest (sBin dEq (sBin dIx (sVar 1) (sC (.int 0))) (sBin dIx (sVar 2) (sC (.int 0))))) (sRetVS (vD (sTake (sC (.bool false))))) sNext) (sSeq (sIf (sTest (sBin dEq (sBin dIx (sVar 1) (sC (.int 0))) (sC (.str "warp")))) (sRetVS (vD (sTake (sBin dEq (sBin dIx (sBin dIx (sBin dIx (sVar 0) (sC (.int 1))) (sBin dIx (sVar 2) (sC (.int 1)))) (sBin dIx (sVar 1) (sC (.int 1)))) (sC (.int 1)))))) sNext) (sRetVS (vD (sTake (sBin dEq (sBin dIx (sBin dIx (sBin dIx (sVar 0) (sC (.int 1))) (sBin dIx (sVar 1) (sC (.int 1)))) (sBin dIx (sVar 2) (sC (.int 1)))) (sC (.int 0))))))))
noncomputable def m__law_is_one : Fn := defn 7 (sSeq (sSetV (vD (sTake (sCall 1 m__law_strands (sCons (sVar 0) sNil)))) 1) (sSeq (sFor (sSeqI (sTake (sTup (sCons (sC (.bool false)) (sCons (sC (.bool true)) sNil))))) (gsName 2) (sSeq (sPar 3 4 (vL (sLst (sCons (sBin dIx (sVar 1) (sC (.int 0))) sNil))) (vL (sLst (sCons (sBin dIx (sVar 1) (sC (.int 0))) sNil)))) (sSeq (sWhile 100000 (sTest (sBin dNe (sVar 4) (sKeep (sLst sNil)))) (sSeq (sSetV (vD (sTake (sMeth 4 mPop0 sNil))) 5) (sFor (sSeqI (sTake (sVar 1))) (gsName 6) (sIf (sAnd (sTest (sBin dNotIn (sVar 6) (sVar 3))) (sIf (sTest (sVar 2)) (sTest (sCall 3 m__law_over (sCons (sVar 0) (sCons (sVar 6) (sCons (sVar 5) sNil))))) (sTest (sCall 3 m__law_over (sCons (sVar 0) (sCons (sVar 5) (sCons (sVar 6) sNil))))))) (sSeq (sDrop (sMeth 3 mAppend (sCons (sVar 6) sNil))) (sDrop (sMeth 4 mAppend (sCons (sVar 6) sNil)))) sNext)))) (sIf (sTest (sBin dNe (sCB dLen (sCons (sVar 3) sNil)) (sCB dLen (sCons (sVar 1) sNil)))) (sRetVS (vD (sTake (sC (.bool false))))) sNext)))) (sRetVS (vD (sTake (sC (.bool true)))))))
noncomputable def m__law_round : Fn := defn 5 (sSeq (sIf (sTest (sBin dEq (sCount (sVar 0) (sBin dIx (sVar 0) (sC (.int 0)))) (sCB dLen (sCons (sVar 0) sNil)))) (sRetVS (vL (sLst (sCons (sTup (sCons (sBin dIx (sVar 0) (sC (.int 0))) (sCons (sC .none) sNil))) sNil)))) sNext) (sSeq (sPar 1 2 (vD (sTake (sBin dAdd (sBin dAdd (sVar 0) (sVar 0)) (sVar 0)))) (vL (sLst sNil))) (sSeq (sFor (sArgI rngI (sCons (sCB dLen (sCons (sVar 0) sNil)) (sCons (sBin dMulX (sC (.int 2)) (sCB dLen (sCons (sVar 0) sNil))) sNil))) (gsName 3) (sIf (sTest (sBin dNe (sBin dIx (sVar 1) (sVar 3)) (sBin dIx (sVar 1) (sBin dSub (sVar 3) (sC (.int 1)))))) (sSeq (sSetV (vD (sTake (sVar 3))) 4) (sSeq (sWhile 100000 (sTest (sBin dEq (sBin dIx (sVar 1) (sVar 4)) (sBin dIx (sVar 1) (sVar 3)))) (sSetV (vD (sTake (sBin dAdd (sVar 4) (sC (.int 1))))) 4)) (sDrop (sMeth 2 mAppend (sCons (sTup (sCons (sBin dIx (sVar 1) (sVar 3)) (sCons (sBin dSub (sVar 4) (sVar 3)) sNil))) sNil))))) sNext)) (sRetV 2))))
noncomputable def m_is_tuple : Fn := defn 2 (sRetVS (vD (sTake (sAndV (sIsi .tuple (sVar 0)) (sBin dEq (sCB dLen (sCons (sVar 0) sNil)) (sVar 1))))))
noncomputable def m_is_headed : Fn := defn 2 (sRetVS (vD (sTake (sAndV (sCall 2 m_is_tuple (sCons (sVar 0) (sCons (sC (.int 2)) sNil))) (sAndV (sIsi .str (sBin dIx (sVar 0) (sC (.int 0)))) (sBin dEq (sBin dIx (sVar 0) (sC (.int 0))) (sVar 1)))))))
noncomputable def m_is_integer : Fn := defn 1 (sRetVS (vD (sTake (sAndV (sIsi .int (sVar 0)) (sNotV (sIsi .bool (sVar 0)))))))
noncomputable def m_is_within : Fn := defn 3 (sRetVS (vD (sTake (sAndV (sCall 1 m_is_integer (sCons (sVar 0) sNil)) (sChain dLe dLe (sVar 1) (sVar 0) (sVar 2))))))
noncomputable def m_are_rows_of : Fn := defn 4 (sSeq (sIf (sOr (sNot (sTest (sIsi .tuple (sVar 0)))) (sNot (sTest (sChain dLe dLe (sC (.int 1)) (sCB dLen (sCons (sVar 0) sNil)) (sC (.int 12)))))) (sRetVS (vD (sTake (sC (.bool false))))) sNext) (sSeq (sIf (sNot (sTest (sCB dAll (sCons (sKeep (sLC [2] (sSeqI (sTake (sVar 0))) (gsName 2) sYes (sTake (sIsi .tuple (sVar 2))))) sNil)))) (sRetVS (vD (sTake (sC (.bool false))))) sNext) (sSeq (sIf (sOr (sNot (sTest (sChain dLe dLe (sC (.int 1)) (sCB dLen (sCons (sBin dIx (sVar 0) (sC (.int 0))) sNil)) (sC (.int 12))))) (sTest (sCB dAny (sCons (sKeep (sLC [2] (sSeqI (sTake (sVar 0))) (gsName 2) sYes (sTake (sBin dNe (sCB dLen (sCons (sVar 2) sNil)) (sCB dLen (sCons (sBin dIx (sVar 0) (sC (.int 0))) sNil)))))) sNil)))) (sRetVS (vD (sTake (sC (.bool false))))) sNext) (sRetVS (vD (sTake (sCB dAll (sCons (sKeep (sLC [2] (sSeqI (sTake (sVar 0))) (gsName 2) sYes (sTake (sCB dAll (sCons (sKeep (sLC [3] (sSeqI (sTake (sVar 2))) (gsName 3) sYes (sTake (sCall 3 m_is_within (sCons (sVar 3) (sCons (sC (.int 0)) (sCons (sBin dSub (sVar 1) (sC (.int 1))) sNil))))))) sNil))))) sNil))))))))
noncomputable def m_is_draft_value : Fn := defn 1 (sRetVS (vD (sTake (sAndV (sCall 2 m_is_headed (sCons (sVar 0) (sCons (sC (.str "draft")) sNil))) (sCall 2 m_are_rows_of (sCons (sBin dIx (sVar 0) (sC (.int 1))) (sCons (sC (.int 2)) sNil)))))))
noncomputable def m_want_draft : Fn := defn 1 (sIf (sNot (sTest (sCall 1 m_is_draft_value (sCons (sVar 0) sNil)))) sNever sNext)
noncomputable def m_many_warps : Fn := defn 1 (sRetVS (vD (sTake (sCB dLen (sCons (sBin dIx (sBin dIx (sVar 0) (sC (.int 1))) (sC (.int 0))) sNil)))))
noncomputable def m_many_wefts : Fn := defn 1 (sRetVS (vD (sTake (sCB dLen (sCons (sBin dIx (sVar 0) (sC (.int 1))) sNil)))))
noncomputable def m_is_strand_of : Fn := defn 2 (sSeq (sIf (sOr (sNot (sTest (sCall 2 m_is_tuple (sCons (sVar 1) (sCons (sC (.int 2)) sNil))))) (sOr (sNot (sTest (sIsi .str (sBin dIx (sVar 1) (sC (.int 0)))))) (sTest (sBin dNotIn (sBin dIx (sVar 1) (sC (.int 0))) (sTup (sCons (sC (.str "warp")) (sCons (sC (.str "weft")) sNil))))))) (sRetVS (vD (sTake (sC (.bool false))))) sNext) (sRetVS (vD (sTake (sCall 3 m_is_within (sCons (sBin dIx (sVar 1) (sC (.int 1))) (sCons (sC (.int 0)) (sCons (sBin dSub (sIf (sTest (sBin dEq (sBin dIx (sVar 1) (sC (.int 0))) (sC (.str "warp")))) (sCall 1 m_many_warps (sCons (sVar 0) sNil)) (sCall 1 m_many_wefts (sCons (sVar 0) sNil))) (sC (.int 1))) sNil))))))))
noncomputable def m_want_strand : Fn := defn 2 (sIf (sNot (sTest (sCall 2 m_is_strand_of (sCons (sVar 0) (sCons (sVar 1) sNil))))) sNever sNext)
noncomputable def m_round_runs : Fn := defn 5 (sSeq (sIf (sTest (sBin dEq (sUn dLenSet (sVar 0)) (sC (.int 1)))) (sRetVS (vL (sLst (sCons (sTup (sCons (sBin dIx (sVar 0) (sC (.int 0))) (sCons (sC .none) sNil))) sNil)))) sNext) (sSeq (sSetV (vD (sTake (sBin dIx (sKeep (sLC [4] (sArgI rngI (sCons (sCB dLen (sCons (sVar 0) sNil)) sNil)) (gsName 4) (sTest (sBin dNe (sBin dIx (sVar 0) (sVar 4)) (sBin dIx (sVar 0) (sBin dSub (sVar 4) (sC (.int 1)))))) (sTake (sVar 4)))) (sC (.int 0))))) 1) (sSeq (sSetV (vL (sLst sNil)) 2) (sSeq (sFor (sSeqI (sTake (sBin dAdd (sSlice (sVar 0) (sPart (sVar 1)) sNoPart) (sSlice (sVar 0) sNoPart (sPart (sVar 1)))))) (gsName 3) (sIf (sAnd (sTest (sBin dNe (sVar 2) (sKeep (sLst sNil)))) (sTest (sBin dEq (sBin dIx (sBin dIx (sVar 2) (sUn dNeg (sC (.int 1)))) (sC (.int 0))) (sVar 3)))) (sAsg (sTake (sTup (sCons (sVar 3) (sCons (sBin dAdd (sBin dIx (sBin dIx (sVar 2) (sUn dNeg (sC (.int 1)))) (sC (.int 1))) (sC (.int 1))) sNil)))) (gsSub 2 (sUn dNeg (sC (.int 1))))) (sDrop (sMeth 2 mAppend (sCons (sTup (sCons (sVar 3) (sCons (sC (.int 1)) sNil))) sNil))))) (sRetV 2)))))
noncomputable def m_signs_along : Fn := defn 4 (sSeq (sIf (sTest (sBin dEq (sBin dIx (sVar 1) (sC (.int 0))) (sC (.str "warp")))) (sRetVS (vL (sLC [3] (sSeqI (sTake (sBin dIx (sVar 0) (sC (.int 1))))) (gsName 3) sYes (sTake (sBin dIx (sVar 3) (sBin dIx (sVar 1) (sC (.int 1)))))))) sNext) (sRetVS (vL (sLC [2] (sSeqI (sTake (sBin dIx (sBin dIx (sVar 0) (sC (.int 1))) (sBin dIx (sVar 1) (sC (.int 1)))))) (gsName 2) sYes (sTake (sBin dSub (sC (.int 1)) (sVar 2)))))))
noncomputable def m_endless_floats : Fn := defn 2 (sSeq (sDrop (sCall 1 m_want_draft (sCons (sVar 0) sNil))) (sSeq (sDrop (sCall 2 m_want_strand (sCons (sVar 0) (sCons (sVar 1) sNil)))) (sRetVS (vL (sCallL 1 m_round_runs (sCons (sCall 2 m_signs_along (sCons (sVar 0) (sCons (sVar 1) sNil))) sNil))))))
noncomputable def m__law_signs : Fn := defn 4 (sSeq (sIf (sTest (sBin dEq (sBin dIx (sVar 1) (sC (.int 0))) (sC (.str "warp")))) (sRetVS (vL (sLC [3] (sSeqI (sTake (sBin dIx (sVar 0) (sC (.int 1))))) (gsName 3) sYes (sTake (sBin dIx (sVar 3) (sBin dIx (sVar 1) (sC (.int 1)))))))) sNext) (sRetVS (vL (sLC [2] (sSeqI (sTake (sBin dIx (sBin dIx (sVar 0) (sC (.int 1))) (sBin dIx (sVar 1) (sC (.int 1)))))) (gsName 2) sYes (sTake (sCB dInt (sCons (sBin dEq (sVar 2) (sC (.int 0))) sNil)))))))
noncomputable def m_want_number : Fn := defn 3 (sIf (sNot (sTest (sCall 3 m_is_within (sCons (sVar 0) (sCons (sVar 1) (sCons (sVar 2) sNil)))))) sNever sNext)
noncomputable def m_with_rows : Fn := defn 3 (sRetVS (vD (sTake (sTup (sCons (sBin dIx (sVar 0) (sC (.int 0))) (sCons (sCB dTuple (sCons (sKeep (sLC [2] (sSeqI (sTake (sVar 1))) (gsName 2) sYes (sTake (sCB dTuple (sCons (sVar 2) sNil))))) sNil)) sNil))))))
noncomputable def m_times_over : Fn := defn 4 (sRetVS (vD (sTake (sCall 2 m_with_rows (sCons (sVar 0) (sCons (sBin dMulX (sKeep (sLC [3] (sSeqI (sTake (sBin dIx (sVar 0) (sC (.int 1))))) (gsName 3) sYes (sTake (sBin dMulX (sVar 3) (sVar 1))))) (sVar 2)) sNil))))))
noncomputable def m_repeated : Fn := defn 3 (sSeq (sDrop (sCall 1 m_want_draft (sCons (sVar 0) sNil))) (sSeq (sDrop (sCall 3 m_want_number (sCons (sVar 1) (sCons (sC (.int 1)) (sCons (sC (.int 12)) sNil))))) (sSeq (sDrop (sCall 3 m_want_number (sCons (sVar 2) (sCons (sC (.int 1)) (sCons (sC (.int 12)) sNil))))) (sSeq (sIf (sTest (sBin dGt (sBin dMulX (sCall 1 m_many_warps (sCons (sVar 0) sNil)) (sVar 1)) (sC (.int 12)))) sNever sNext) (sSeq (sIf (sTest (sBin dGt (sBin dMulX (sCall 1 m_many_wefts (sCons (sVar 0) sNil)) (sVar 2)) (sC (.int 12)))) sNever sNext) (sRetVS (vD (sTake (sCall 3 m_times_over (sCons (sVar 0) (sCons (sVar 1) (sCons (sVar 2) sNil))))))))))))
noncomputable def m_divisors : Fn := defn 2 (sRetVS (vL (sLC [1] (sArgI rngI (sCons (sC (.int 1)) (sCons (sBin dAdd (sVar 0) (sC (.int 1))) sNil))) (gsName 1) (sTest (sBin dEq (sBin dMod (sVar 0) (sVar 1)) (sC (.int 0)))) (sTake (sVar 1)))))
noncomputable def m_corner : Fn := defn 4 (sRetVS (vD (sTake (sCall 2 m_with_rows (sCons (sVar 0) (sCons (sKeep (sLC [3] (sSeqI (sTake (sSlice (sBin dIx (sVar 0) (sC (.int 1))) sNoPart (sPart (sVar 2))))) (gsName 3) sYes (sTake (sSlice (sVar 3) sNoPart (sPart (sVar 1)))))) sNil))))))
noncomputable def m_least_repeat : Fn := defn 4 (sSeq (sDrop (sCall 1 m_want_draft (sCons (sVar 0) sNil))) (sSeq (sFor (sSeqI (sTake (sCall 1 m_divisors (sCons (sCall 1 m_many_warps (sCons (sVar 0) sNil)) sNil)))) (gsName 1) (sFor (sSeqI (sTake (sCall 1 m_divisors (sCons (sCall 1 m_many_wefts (sCons (sVar 0) sNil)) sNil)))) (gsName 2) (sSeq (sSetV (vD (sTake (sCall 3 m_corner (sCons (sVar 0) (sCons (sVar 1) (sCons (sVar 2) sNil)))))) 3) (sIf (sTest (sBin dEq (sCall 3 m_times_over (sCons (sVar 3) (sCons (sBin dDiv (sCall 1 m_many_warps (sCons (sVar 0) sNil)) (sVar 1)) (sCons (sBin dDiv (sCall 1 m_many_wefts (sCons (sVar 0) sNil)) (sVar 2)) sNil)))) (sVar 0))) (sRetVS (vD (sTake (sVar 3)))) sNext)))) (sRetVS (vD (sTake (sVar 0))))))
noncomputable def m_strands_of : Fn := defn 3 (sSeq (sSetV (vLC true (sLC [2] (sArgI rngI (sCons (sCall 1 m_many_warps (sCons (sVar 0) sNil)) sNil)) (gsName 2) sYes (sTake (sTup (sCons (sC (.str "warp")) (sCons (sVar 2) sNil)))))) 1) (sRetVS (vD (sTake (sBin dAdd (sVar 1) (sKeep (sLC [2] (sArgI rngI (sCons (sCall 1 m_many_wefts (sCons (sVar 0) sNil)) sNil)) (gsName 2) sYes (sTake (sTup (sCons (sC (.str "weft")) (sCons (sVar 2) sNil)))))))))))
noncomputable def m_cell_between : Fn := defn 2 (sRetVS (vD (sTake (sIf (sTest (sBin dEq (sBin dIx (sVar 0) (sC (.int 0))) (sC (.str "warp")))) (sTup (sCons (sBin dIx (sVar 1) (sC (.int 1))) (sCons (sBin dIx (sVar 0) (sC (.int 1))) sNil))) (sTup (sCons (sBin dIx (sVar 0) (sC (.int 1))) (sCons (sBin dIx (sVar 1) (sC (.int 1))) sNil)))))))
noncomputable def m_lies_over : Fn := defn 5 (sSeq (sIf (sTest (sBin dEq (sBin dIx (sVar 1) (sC (.int 0))) (sBin dIx (sVar 2) (sC (.int 0))))) (sRetVS (vD (sTake (sC (.bool false))))) sNext) (sSeq (sAsg (sTake (sCall 2 m_cell_between (sCons (sVar 1) (sCons (sVar 2) sNil)))) (gsTup 2 (gsCons (gsName 3) (gsCons (gsName 4) gsNil)))) (sRetVS (vD (sTake (sBin dEq (sBin dEq (sBin dIx (sBin dIx (sBin dIx (sVar 0) (sC (.int 1))) (sVar 3)) (sVar 4)) (sC (.int 1))) (sBin dEq (sBin dIx (sVar 1) (sC (.int 0))) (sC (.str "warp")))))))))
noncomputable def m_below : Fn := defn 3 (sRetVS (vL (sLC [2] (sSeqI (sTake (sCall 1 m_strands_of (sCons (sVar 0) sNil)))) (gsName 2) (sTest (sCall 3 m_lies_over (sCons (sVar 0) (sCons (sVar 1) (sCons (sVar 2) sNil))))) (sTake (sVar 2)))))
noncomputable def m_ways_from : Fn := defn 7 (sSeq (sPar 2 3 (sXDisp (sVar 1) (sTake (sKeep (sLst (sCons (sVar 1) sNil))))) (vD (sTake (sKeep (sLst (sCons (sVar 1) sNil)))))) (sSeq (sWhile 100000 (sTest (sBin dNe (sVar 3) (sKeep (sLst sNil)))) (sSeq (sSetV (vL (sLst sNil)) 4) (sSeq (sFor (sSeqI (sTake (sVar 3))) (gsName 5) (sFor (sSeqI (sTake (sCall 2 m_below (sCons (sVar 0) (sCons (sVar 5) sNil))))) (gsName 6) (sIf (sTest (sXIn true 2 (sVar 6))) (sSeq (sXPutS 2 (sVar 6) (sTake (sBin dAdd (sXGet 2 (sVar 5)) (sKeep (sLst (sCons (sVar 6) sNil)))))) (sDrop (sMeth 4 mAppend (sCons (sVar 6) sNil)))) sNext))) (sSetV (vD (sTake (sVar 4))) 3)))) (sRetV 2)))
noncomputable def m_above : Fn := defn 3 (sRetVS (vL (sLC [2] (sSeqI (sTake (sCall 1 m_strands_of (sCons (sVar 0) sNil)))) (gsName 2) (sTest (sCall 3 m_lies_over (sCons (sVar 0) (sCons (sVar 2) (sCons (sVar 1) sNil))))) (sTake (sVar 2)))))
noncomputable def m_ways_back : Fn := defn 6 (sSeq (sPar 2 3 (vL (sLst (sCons (sVar 1) sNil))) (vL (sLst (sCons (sVar 1) sNil)))) (sSeq (sWhile 100000 (sTest (sBin dNe (sVar 3) (sKeep (sLst sNil)))) (sSeq (sSetV (vD (sTake (sMeth 3 mPop0 sNil))) 4) (sFor (sSeqI (sTake (sCall 2 m_above (sCons (sVar 0) (sCons (sVar 4) sNil))))) (gsName 5) (sIf (sTest (sBin dNotIn (sVar 5) (sVar 2))) (sSeq (sDrop (sMeth 2 mAppend (sCons (sVar 5) sNil))) (sDrop (sMeth 3 mAppend (sCons (sVar 5) sNil)))) sNext)))) (sRetVS (vL (sCBL dSortXL (sCons (sVar 2) sNil))))))
noncomputable def m_are_held : Fn := defn 3 (sSeq (sPar 1 2 (vD (sTake (sBin dAdd (sCall 1 m_many_warps (sCons (sVar 0) sNil)) (sCall 1 m_many_wefts (sCons (sVar 0) sNil))))) (vD (sTake (sBin dIx (sCall 1 m_strands_of (sCons (sVar 0) sNil)) (sC (.int 0)))))) (sRetVS (vD (sTake (sAndV (sBin dEq (sLenCall 2 m_ways_from (sCons (sVar 0) (sCons (sVar 2) sNil))) (sVar 1)) (sBin dEq (sCB dLen (sCons (sCall 2 m_ways_back (sCons (sVar 0) (sCons (sVar 2) sNil))) sNil)) (sVar 1)))))))
noncomputable def m_is_endless_one : Fn := defn 1 (sSeq (sDrop (sCall 1 m_want_draft (sCons (sVar 0) sNil))) (sRetVS (vD (sTake (sCall 1 m_are_held (sCons (sVar 0) sNil))))))
noncomputable def m_longest_round : Fn := defn 7 (sSeq (sSetV (vD (sTake (sC (.int 0)))) 3) (sSeq (sFor (sSeqI (sTake (sCall 1 m_strands_of (sCons (sVar 0) sNil)))) (gsName 4) (sFor (sSeqI (sTake (sIf (sTest (sBin dEq (sBin dIx (sVar 4) (sC (.int 0))) (sVar 1))) (sCall 1 m_round_runs (sCons (sCall 2 m_signs_along (sCons (sVar 0) (sCons (sVar 4) sNil))) sNil)) (sKeep (sLst sNil))))) (gsTup 2 (gsCons (gsName 5) (gsCons (gsName 6) gsNil))) (sIf (sTest (sBin dEq (sVar 5) (sVar 2))) (sSeq (sIf (sTest (sBin dIs (sVar 6) (sC .none))) (sRetVS (vD (sTake (sC .none)))) sNext) (sSetV (vD (sTake (sCB dMax (sCons (sVar 3) (sCons (sVar 6) sNil))))) 3)) sNext))) (sRetVS (vD (sTake (sVar 3))))))
noncomputable def m_endless_longest : Fn := defn 3 (sSeq (sDrop (sCall 1 m_want_draft (sCons (sVar 0) sNil))) (sRetVS (vD (sTake (sCB dTuple (sCons (sKeep (sLC [1, 2] (sSeqI (sTake (sC (.tuple [(.tuple [(.str "warp"), (.int 1)]), (.tuple [(.str "warp"), (.int 0)]), (.tuple [(.str "weft"), (.int 1)]), (.tuple [(.str "weft"), (.int 0)])])))) (gsTup 2 (gsCons (gsName 1) (gsCons (gsName 2) gsNil))) sYes (sTake (sCall 3 m_longest_round (sCons (sVar 0) (sCons (sVar 1) (sCons (sVar 2) sNil))))))) sNil))))))
noncomputable def m__law_right : Fn := defn 19 (sSeq (sSetV (vD (sTake (sCall 2 m__law_draft (sCons (sVar 0) (sCons (sC (.int 6)) sNil))))) 1) (sSeq (sPar3 2 3 4 (sCons (sCB dRepr (sCons (sVar 1) sNil)) (sCons (sCB dLen (sCons (sBin dIx (sBin dIx (sVar 1) (sC (.int 1))) (sC (.int 0))) sNil)) (sCons (sCB dLen (sCons (sBin dIx (sVar 1) (sC (.int 1))) sNil)) sNil)))) (sSeq (sPar 5 6 (vD (sTake (sBin dAdd (sC (.int 1)) (sCall 2 m__law_draw (sCons (sVar 0) (sCons (sBin dDiv (sC (.int 12)) (sVar 3)) sNil)))))) (vD (sTake (sBin dAdd (sC (.int 1)) (sCall 2 m__law_draw (sCons (sVar 0) (sCons (sBin dDiv (sC (.int 12)) (sVar 4)) sNil))))))) (sSeq (sSetV (vD (sTake (sCall 3 m__law_times (sCons (sVar 1) (sCons (sVar 5) (sCons (sVar 6) sNil)))))) 7) (sSeq (sIf (sTest (sBin dNe (sCB dRepr (sCons (sKeep (sLst (sCons (sCall 3 m_repeated (sCons (sVar 1) (sCons (sVar 5) (sCons (sVar 6) sNil)))) (sCons (sCall 3 m_repeated (sPerm [2, 1, 0] (sApp 0 3 sNil (sCons (sVar 6) (sCons (sVar 5) (sCons (sVar 1) sNil)))))) sNil)))) sNil)) (sCB dRepr (sCons (sKeep (sLst (sCons (sVar 7) (sCons (sVar 7) sNil)))) sNil)))) (sRetVS (vD (sTake (sC (.bool false))))) sNext) (sSeq (sSetV (vD (sTake (sCall 1 m__law_least (sCons (sVar 1) sNil)))) 8) (sSeq (sIf (sTest (sBin dNe (sCB dRepr (sCons (sKeep (sLst (sCons (sCall 1 m_least_repeat (sCons (sVar 1) sNil)) (sCons (sCall 1 m_least_repeat (sPerm [0] (sApp 0 1 sNil (sCons (sVar 7) sNil)))) sNil)))) sNil)) (sCB dRepr (sCons (sKeep (sLst (sCons (sVar 8) (sCons (sVar 8) sNil)))) sNil)))) (sRetVS (vD (sTake (sC (.bool false))))) sNext) (sSeq (sSetV (vD (sTake (sCall 1 m__law_is_one (sCons (sVar 1) sNil)))) 9) (sSeq (sIf (sTest (sBin dNe (sCB dRepr (sCons (sKeep (sLst (sCons (sCall 1 m_is_endless_one (sCons (sVar 1) sNil)) (sCons (sCall 1 m_is_endless_one (sPerm [0] (sApp 0 1 sNil (sCons (sVar 7) sNil)))) (sCons (sCall 1 m__law_is_one (sCons (sVar 7) sNil)) sNil))))) sNil)) (sCB dRepr (sCons (sBin dMulX (sKeep (sLst (sCons (sVar 9) sNil))) (sC (.int 3))) sNil)))) (sRetVS (vD (sTake (sC (.bool false))))) sNext) (sSeq (sSetV sXNew 10) (sSeq (sFor (sSeqI (sTake (sCall 1 m__law_strands (sCons (sVar 1) sNil)))) (gsName 11) (sSeq (sSetV (vD (sTake (sCall 1 m__law_round (sCons (sCall 2 m__law_signs (sCons (sVar 1) (sCons (sVar 11) sNil))) sNil)))) 12) (sSeq (sSetV (vL (sCallL 2 m_endless_floats (sCons (sVar 1) (sCons (sVar 11) sNil)))) 13) (sSeq (sIf (sTest (sBin dNe (sReprL (sCons (sVar 13) (sCons (sCall 2 m_endless_floats (sPerm [1, 0] (sApp 0 2 sNil (sCons (sVar 11) (sCons (sVar 1) sNil))))) sNil))) (sCB dRepr (sCons (sKeep (sLst (sCons (sVar 12) (sCons (sVar 12) sNil)))) sNil)))) (sRetVS (vD (sTake (sC (.bool false))))) sNext) (sSeq (sDrop (sMeth 13 mAppend (sCons (sC .none) sNil))) (sSeq (sIf (sTest (sBin dNe (sCB dRepr (sCons (sCall 2 m_endless_floats (sCons (sVar 1) (sCons (sVar 11) sNil))) sNil)) (sCB dRepr (sCons (sVar 12) sNil)))) (sRetVS (vD (sTake (sC (.bool false))))) sNext) (sFor (sSeqI (sTake (sTup (sCons (sC (.int 0)) (sCons (sC (.int 1)) sNil))))) (gsName 14) (sSeq (sSetV (vD (sTake (sTup (sCons (sBin dIx (sVar 11) (sC (.int 0))) (sCons (sVar 14) sNil))))) 15) (sXPutS 10 (sVar 15) (sTake (sBin dAdd (sXGet2 10 (sVar 15) (sTake (sKeep (sLst (sCons (sC (.int 0)) sNil))))) (sKeep (sLC [17, 18] (sSeqI (sTake (sVar 12))) (gsTup 2 (gsCons (gsName 17) (gsCons (gsName 18) gsNil))) (sTest (sBin dEq (sVar 17) (sVar 14))) (sTake (sVar 18))))))))))))))) (sSeq (sSetV (vLC true (sLC [15] (sSeqI (sTake (sKeep (sLst (sCons (sTup (sCons (sC (.str "warp")) (sCons (sC (.int 1)) sNil))) (sCons (sTup (sCons (sC (.str "warp")) (sCons (sC (.int 0)) sNil))) (sCons (sTup (sCons (sC (.str "weft")) (sCons (sC (.int 1)) sNil))) (sCons (sTup (sCons (sC (.str "weft")) (sCons (sC (.int 0)) sNil))) sNil)))))))) (gsName 15) sYes (sTake (sIf (sTest (sBin dIn (sC .none) (sXGet 10 (sVar 15)))) (sC .none) (sCB dMax (sCons (sXGet 10 (sVar 15)) sNil)))))) 16) (sSeq (sIf (sTest (sBin dNe (sCB dRepr (sCons (sKeep (sLst (sCons (sCall 1 m_endless_longest (sCons (sVar 1) sNil)) (sCons (sCall 1 m_endless_longest (sPerm [0] (sApp 0 1 sNil (sCons (sVar 7) sNil)))) sNil)))) sNil)) (sCB dRepr (sCons (sBin dMulX (sKeep (sLst (sCons (sCB dTuple (sCons (sVar 16) sNil)) sNil))) (sC (.int 2))) sNil)))) (sRetVS (vD (sTake (sC (.bool false))))) sNext) (sRetVS (vD (sTake (sBin dEq (sCB dRepr (sCons (sVar 1) sNil)) (sVar 2))))))))))))))))))
noncomputable def m_law : Fn := defn 4 (sSeq (sFor (sArgI rngI (sCons (sCB dMax (sCons (sC (.int 1)) (sCons (sCB dMin (sCons (sC (.int 3)) (sCons (sCB dLen (sCons (sVar 0) sNil)) sNil))) sNil))) sNil)) (gsName 1) (sSeq (sSetV (vL (sCallL 2 m__law_pot (sCons (sVar 0) (sCons (sVar 1) sNil)))) 2) (sIf (sNot (sTest (sCB dAll (sCons (sKeep (sLC [3] (sArgI rngI (sCons (sC (.int 2)) sNil)) (gsName 3) sYes (sTake (sCall 1 m__law_right (sCons (sVar 2) sNil))))) sNil)))) (sRetVS (vD (sTake (sC (.bool false))))) sNext))) (sRetVS (vD (sTake (sC (.bool true))))))
/-! ### the walks -/
section
variable {P : Program} {w : World} {K : PySem.W.Frag} {mg : Str → Option Value} {base : Heap} {ka_FOUR : Addr}
theorem g__law_pot {k : Nat} {f : Addr} {fd : FuncData} (F : Fun K "_law_pot" "_law_pot" s__law_pot f fd) (M : Md P w K mg ka_FOUR) : FnG P w K mg base (k + 1) f fd ["script", "k"] m__law_pot :=
  fnG_of F sc__law_pot rfl fun cdv A outer s H hr hgd => ⟨_, (sss_cons (ss_set (i := 2) sc__law_pot.nd (sv_d (sd_se (se_if (st_cmp op_lt vLt (se_pv 1) (se_cb (crLen rfl) vLen M.z_len bt_len (sa_cons (se_pv 0) sa_nil))) (se_cb crAbs vAbs M.z_abs bt_abs (sa_cons (se_ix (opIx rfl) vIx (se_pv 0) (se_pv 1)) sa_nil)) (se_bin (opAdd rfl) vAdd (se_bin (opMulX rfl) vMulX se_int (se_pv 1)) se_int))))) (sss_one (ss_ret (sv_l (sl_lst (sa_cons (se_cb (crMax rfl rfl) vMax M.z_max bt_max (sa_cons se_int (sa_cons (se_bin op_sub vSub (se_pv 2) (se_bin op_pow vPow se_int se_int)) sa_nil))) (sa_cons (se_bin (opAdd rfl) vAdd (se_bin op_mod vMod (se_ct crInt vInt M.z_int bt_int (sa_cons (se_bin (opAdd rfl) vAdd (se_bin (opAdd rfl) vAdd (se_bin (opMulX rfl) vMulX (se_bin op_mod vMod (se_ct crInt vInt M.z_int bt_int (sa_cons (se_pv 2) sa_nil)) se_int) se_int) (se_bin (opMulX rfl) vMulX se_int (se_pv 1))) se_int) sa_nil)) se_int) se_int) sa_nil)))))))⟩
theorem g__law_draw {k : Nat} {f : Addr} {fd : FuncData} (F : Fun K "_law_draw" "_law_draw" s__law_draw f fd) (M : Md P w K mg ka_FOUR) : FnG P w K mg base (k + 1) f fd ["pot", "many"] m__law_draw :=
  fnG_of F sc__law_draw rfl fun cdv A outer s H hr hgd => ⟨_, (sss_cons (ss_if (st_cmp op_gt vGt (se_ix (opIx rfl) vIx (se_pv 0) se_int) se_int) (sss_cons (ss_asg (sd_se (se_cb crDivmod vDivmod M.z_divmod bt_divmod (sa_cons (se_ix (opIx rfl) vIx (se_pv 0) se_int) (sa_cons (se_pv 1) sa_nil)))) (sg_tup rfl rfl (sgs_cons (sg_sub (se_pv 0) se_int) (sgs_cons (sg_name (i := 2) sc__law_draw.nd) sgs_nil)))) (sss_one (ss_ret (sv_d (sd_se (se_pv 2)))))) sss_nil) (sss_cons (ss_asg (sd_se (se_bin op_mod vMod (se_ct crInt vInt M.z_int bt_int (sa_cons (se_bin (opAdd rfl) vAdd (se_bin (opMulX rfl) vMulX (se_ix (opIx rfl) vIx (se_pv 0) se_int) se_int) se_int) sa_nil)) se_int)) (sg_sub (se_pv 0) se_int)) (sss_one (ss_ret (sv_d (sd_se (se_bin op_mod vMod (se_ct crInt vInt M.z_int bt_int (sa_cons (se_bin op_fdiv vDiv (se_bin op_mod vMod (se_ct crInt vInt M.z_int bt_int (sa_cons (se_bin (opMulX rfl) vMulX (se_ix (opIx rfl) vIx (se_pv 0) se_int) (se_ix (opIx rfl) vIx (se_pv 0) se_int)) sa_nil)) se_int) se_int) sa_nil)) (se_pv 1))))))))⟩
theorem g__law_draft {k : Nat} {f : Addr} {fd : FuncData} (F : Fun K "_law_draft" "_law_draft" s__law_draft f fd) (M : Md P w K mg ka_FOUR) {f__law_draw : Addr} {fd__law_draw : FuncData} (c__law_draw : DL.Cal P w K mg base k "_law_draw" ["pot", "many"] m__law_draw f__law_draw fd__law_draw) : FnG P w K mg base (k + 1) f fd ["pot", "most"] m__law_draft :=
  fnG_of F sc__law_draft rfl fun cdv A outer s H hr hgd => ⟨_, (sss_cons (ss_par3 (i := 2) (j := 3) (l := 4) rfl sc__law_draft.nd (by decide) (by decide) (by decide) (sa_cons (se_bin (opAdd rfl) vAdd se_int (se_call (K := ⟨K, P, w⟩) (ps := ["pot", "many"]) (m := m__law_draw) rfl c__law_draw hr hgd (sa_cons (se_pv 0) (sa_cons (se_pv 1) sa_nil)))) (sa_cons (se_bin (opAdd rfl) vAdd se_int (se_call (K := ⟨K, P, w⟩) (ps := ["pot", "many"]) (m := m__law_draw) rfl c__law_draw hr hgd (sa_cons (se_pv 0) (sa_cons (se_pv 1) sa_nil)))) (sa_cons (se_call (K := ⟨K, P, w⟩) (ps := ["pot", "many"]) (m := m__law_draw) rfl c__law_draw hr hgd (sa_cons (se_pv 0) (sa_cons se_int sa_nil))) sa_nil)))) (sss_cons (ss_set (i := 5) sc__law_draft.nd (sv_l (sl_lst sa_nil))) (sss_cons (ss_for PassesOwn.never rfl (si_rng1 M.z_range (sa_cons (se_pv 3) sa_nil)) (sg_name (i := 6) sc__law_draft.nd) (sss_one (ss_if (st_cmp (opEq rfl hr) vEq (se_pv 4) se_int) (sss_one (ss_expr (se_append rfl (se_pv 5) (sa_cons (se_ct (crTuple rfl) vTuple M.z_tuple bt_tuple (sa_cons (se_sl (sl_lc [("warp", 7)] [7] rfl sc__law_draft.nd (si_rng1 M.z_range (sa_cons (se_pv 2) sa_nil)) (by kernel_rfl) (fun _ _ _ _ _ => (sg_name (i := 7) sc__law_draft.nd)) (fun _ _ _ _ _ => sts_nil) (fun _ _ _ _ _ => (sd_se (se_ct crInt vInt M.z_int bt_int (sa_cons (se_bin op_mod vMod (se_bin (opAdd rfl) vAdd (se_pv 6) (se_pv 7)) se_int) sa_nil)))))) sa_nil)) sa_nil)))) (sss_one (ss_if (st_cmp (opEq rfl hr) vEq (se_pv 4) se_int) (sss_one (ss_expr (se_append rfl (se_pv 5) (sa_cons (se_ct (crTuple rfl) vTuple M.z_tuple bt_tuple (sa_cons (se_sl (sl_lc [("warp", 7)] [7] rfl sc__law_draft.nd (si_rng1 M.z_range (sa_cons (se_pv 2) sa_nil)) (by kernel_rfl) (fun _ _ _ _ _ => (sg_name (i := 7) sc__law_draft.nd)) (fun _ _ _ _ _ => sts_nil) (fun _ _ _ _ _ => (sd_se (se_ct crInt vInt M.z_int bt_int (sa_cons (se_cmp op_gt vGt (se_call (K := ⟨K, P, w⟩) (ps := ["pot", "many"]) (m := m__law_draw) rfl c__law_draw hr hgd (sa_cons (se_pv 0) (sa_cons se_int sa_nil))) se_int) sa_nil)))))) sa_nil)) sa_nil)))) (sss_one (ss_expr (se_append rfl (se_pv 5) (sa_cons (se_ct (crTuple rfl) vTuple M.z_tuple bt_tuple (sa_cons (se_sl (sl_lc [("warp", 7)] [7] rfl sc__law_draft.nd (si_rng1 M.z_range (sa_cons (se_pv 2) sa_nil)) (by kernel_rfl) (fun _ _ _ _ _ => (sg_name (i := 7) sc__law_draft.nd)) (fun _ _ _ _ _ => sts_nil) (fun _ _ _ _ _ => (sd_se (se_call (K := ⟨K, P, w⟩) (ps := ["pot", "many"]) (m := m__law_draw) rfl c__law_draw hr hgd (sa_cons (se_pv 0) (sa_cons se_int sa_nil))))))) sa_nil)) sa_nil))))))))) (sss_one (ss_ret (sv_d (sd_se (se_tup (sa_cons se_str (sa_cons (se_ct (crTuple rfl) vTuple M.z_tuple bt_tuple (sa_cons (se_pv 5) sa_nil)) sa_nil))))))))))⟩
theorem g__law_times {k : Nat} {f : Addr} {fd : FuncData} (F : Fun K "_law_times" "_law_times" s__law_times f fd) (M : Md P w K mg ka_FOUR) : FnG P w K mg base (k + 1) f fd ["draft", "across", "down"] m__law_times :=
  fnG_of F sc__law_times rfl fun cdv A outer s H hr hgd => ⟨_, (sss_one (ss_ret (sv_d (sd_se (se_tup (sa_cons se_str (sa_cons (se_bin (opMulX rfl) vMulX (se_ct (crTuple rfl) vTuple M.z_tuple bt_tuple (sa_cons (se_sl (sl_lc [("row", 3)] [3] rfl sc__law_times.nd (si_seq rfl (sd_se (se_ix (opIx rfl) vIx (se_pv 0) se_int))) (by kernel_rfl) (fun _ _ _ _ _ => (sg_name (i := 3) sc__law_times.nd)) (fun _ _ _ _ _ => sts_nil) (fun _ _ _ _ _ => (sd_se (se_bin (opMulX rfl) vMulX (se_pv 3) (se_pv 1)))))) sa_nil)) (se_pv 2)) sa_nil)))))))⟩
theorem g__law_least {k : Nat} {f : Addr} {fd : FuncData} (F : Fun K "_law_least" "_law_least" s__law_least f fd) (M : Md P w K mg ka_FOUR) {f__law_times : Addr} {fd__law_times : FuncData} (c__law_times : DL.Cal P w K mg base k "_law_times" ["draft", "across", "down"] m__law_times f__law_times fd__law_times) : FnG P w K mg base (k + 1) f fd ["draft"] m__law_least :=
  fnG_of F sc__law_least rfl fun cdv A outer s H hr hgd => ⟨_, (sss_cons (ss_par (i := 1) (j := 2) rfl sc__law_least.nd (by decide) (sv_d (sd_se (se_cb (crLen rfl) vLen M.z_len bt_len (sa_cons (se_ix (opIx rfl) vIx (se_ix (opIx rfl) vIx (se_pv 0) se_int) se_int) sa_nil)))) (sv_d (sd_se (se_cb (crLen rfl) vLen M.z_len bt_len (sa_cons (se_ix (opIx rfl) vIx (se_pv 0) se_int) sa_nil))))) (sss_cons (ss_for PassesOwn.never rfl (si_rng2 M.z_range (sa_cons se_int (sa_cons (se_bin (opAdd rfl) vAdd (se_pv 1) se_int) sa_nil))) (sg_name (i := 3) sc__law_least.nd) (sss_one (ss_for PassesOwn.never rfl (si_rng2 M.z_range (sa_cons se_int (sa_cons (se_bin (opAdd rfl) vAdd (se_pv 2) se_int) sa_nil))) (sg_name (i := 4) sc__law_least.nd) (sss_one (ss_if (st_sw (sw_and (st_cmp (opEq rfl hr) vEq (se_ct crInt vInt M.z_int bt_int (sa_cons (se_bin op_mod vMod (se_pv 1) (se_pv 3)) sa_nil)) se_int) (sw_and1 (st_cmp (opEq rfl hr) vEq (se_ct crInt vInt M.z_int bt_int (sa_cons (se_bin op_mod vMod (se_pv 2) (se_pv 4)) sa_nil)) se_int)))) (sss_cons (ss_set (i := 5) sc__law_least.nd (sv_d (sd_se (se_tup (sa_cons se_str (sa_cons (se_ct (crTuple rfl) vTuple M.z_tuple bt_tuple (sa_cons (se_sl (sl_lc [("row", 6)] [6] rfl sc__law_least.nd (si_seq rfl (sd_se (se_slice rfl (se_ix (opIx rfl) vIx (se_pv 0) se_int) so_none (so_some (se_pv 4))))) (by kernel_rfl) (fun _ _ _ _ _ => (sg_name (i := 6) sc__law_least.nd)) (fun _ _ _ _ _ => sts_nil) (fun _ _ _ _ _ => (sd_se (se_slice rfl (se_pv 6) so_none (so_some (se_pv 3))))))) sa_nil)) sa_nil)))))) (sss_one (ss_if (st_cmp (opEq rfl hr) vEq (se_call (K := ⟨K, P, w⟩) (ps := ["draft", "across", "down"]) (m := m__law_times) rfl c__law_times hr hgd (sa_cons (se_pv 5) (sa_cons (se_bin op_fdiv vDiv (se_pv 1) (se_pv 3)) (sa_cons (se_bin op_fdiv vDiv (se_pv 2) (se_pv 4)) sa_nil)))) (se_pv 0)) (sss_one (ss_ret (sv_d (sd_se (se_pv 5))))) sss_nil))) sss_nil))))) (sss_one (ss_ret (sv_d (sd_se (se_pv 0)))))))⟩
theorem g__law_strands {k : Nat} {f : Addr} {fd : FuncData} (F : Fun K "_law_strands" "_law_strands" s__law_strands f fd) (M : Md P w K mg ka_FOUR) : FnG P w K mg base (k + 1) f fd ["draft"] m__law_strands :=
  fnG_of F sc__law_strands rfl fun cdv A outer s H hr hgd => ⟨_, (sss_one (ss_ret (sv_l (sl_bin (opAdd rfl) vAddL (se_sl (sl_lc [("at", 1)] [1] rfl sc__law_strands.nd (si_rng1 M.z_range (sa_cons (se_cb (crLen rfl) vLen M.z_len bt_len (sa_cons (se_ix (opIx rfl) vIx (se_ix (opIx rfl) vIx (se_pv 0) se_int) se_int) sa_nil)) sa_nil)) (by kernel_rfl) (fun _ _ _ _ _ => (sg_name (i := 1) sc__law_strands.nd)) (fun _ _ _ _ _ => sts_nil) (fun _ _ _ _ _ => (sd_se (se_tup (sa_cons se_str (sa_cons (se_pv 1) sa_nil))))))) (se_sl (sl_lc [("at", 1)] [1] rfl sc__law_strands.nd (si_rng1 M.z_range (sa_cons (se_cb (crLen rfl) vLen M.z_len bt_len (sa_cons (se_ix (opIx rfl) vIx (se_pv 0) se_int) sa_nil)) sa_nil)) (by kernel_rfl) (fun _ _ _ _ _ => (sg_name (i := 1) sc__law_strands.nd)) (fun _ _ _ _ _ => sts_nil) (fun _ _ _ _ _ => (sd_se (se_tup (sa_cons se_str (sa_cons (se_pv 1) sa_nil)))))))))))⟩
theorem g__law_over {k : Nat} {f : Addr} {fd : FuncData} (F : Fun K "_law_over" "_law_over" s__law_over f fd) (M : Md P w K mg ka_FOUR) : FnG P w K mg base (k + 1) f fd ["draft", "strand", "other"] m__law_over :=
  fnG_of F sc__law_over rfl fun cdv A outer s H hr hgd => ⟨_, (sss_cons (ss_if (st_cmp (opEq rfl hr) vEq (se_ix (opIx rfl) vIx (se_pv 1) se_int) (se_ix (opIx rfl) vIx (se_pv 2) se_int)) (sss_one (ss_ret (sv_d (sd_se se_bl)))) sss_nil) (sss_cons (ss_if (st_cmp (opEq rfl hr) vEq (se_ix (opIx rfl) vIx (se_pv 1) se_int) se_str) (sss_one (ss_ret (sv_d (sd_se (se_cmp (opEq rfl hr) vEq (se_ix (opIx rfl) vIx (se_ix (opIx rfl) vIx (se_ix (opIx rfl) vIx (se_pv 0) se_int) (se_ix (opIx rfl) vIx (se_pv 2) se_int)) (se_ix (opIx rfl) vIx (se_pv 1) se_int)) se_int))))) sss_nil) (sss_one (ss_ret (sv_d (sd_se (se_cmp (opEq rfl hr) vEq (se_ix (opIx rfl) vIx (se_ix (opIx rfl) vIx (se_ix (opIx rfl) vIx (se_pv 0) se_int) (se_ix (opIx rfl) vIx (se_pv 1) se_int)) (se_ix (opIx rfl) vIx (se_pv 2) se_int)) se_int)))))))⟩
theorem g__law_is_one {k : Nat} {f : Addr} {fd : FuncData} (F : Fun K "_law_is_one" "_law_is_one" s__law_is_one f fd) (M : Md P w K mg ka_FOUR) {f__law_over : Addr} {fd__law_over : FuncData} (c__law_over : DL.Cal P w K mg base k "_law_over" ["draft", "strand", "other"] m__law_over f__law_over fd__law_over) {f__law_strands : Addr} {fd__law_strands : FuncData} (c__law_strands : DL.Cal P w K mg base k "_law_strands" ["draft"] m__law_strands f__law_strands fd__law_strands) : FnG P w K mg base (k + 1) f fd ["draft"] m__law_is_one :=
  fnG_of F sc__law_is_one rfl fun cdv A outer s H hr hgd => ⟨_, (sss_cons (ss_set (i := 1) sc__law_is_one.nd (sv_d (sd_se (se_call (K := ⟨K, P, w⟩) (ps := ["draft"]) (m := m__law_strands) rfl c__law_strands hr hgd (sa_cons (se_pv 0) sa_nil))))) (sss_cons (ss_for PassesOwn.never rfl (si_seq rfl (sd_se (se_tup (sa_cons se_bl (sa_cons se_bl sa_nil))))) (sg_name (i := 2) sc__law_is_one.nd) (sss_cons (ss_par (i := 3) (j := 4) rfl sc__law_is_one.nd (by decide) (sv_l (sl_lst (sa_cons (se_ix (opIx rfl) vIx (se_pv 1) se_int) sa_nil))) (sv_l (sl_lst (sa_cons (se_ix (opIx rfl) vIx (se_pv 1) se_int) sa_nil)))) (sss_cons (ss_while 100000 PassesOwn.never (st_cmp (opNe rfl hr) vNe (se_pv 4) (se_sl (sl_lst sa_nil))) (sss_cons (ss_set (i := 5) sc__law_is_one.nd (sv_d (sd_se (se_pop rfl (se_pv 4))))) (sss_one (ss_for PassesOwn.never rfl (si_seq rfl (sd_se (se_pv 1))) (sg_name (i := 6) sc__law_is_one.nd) (sss_one (ss_if (st_sw (sw_and (st_cmp (opNotIn rfl hr) vNotIn (se_pv 6) (se_pv 3)) (sw_and1 (st_if (st_val (se_pv 2)) (st_val (se_call (K := ⟨K, P, w⟩) (ps := ["draft", "strand", "other"]) (m := m__law_over) rfl c__law_over hr hgd (sa_cons (se_pv 0) (sa_cons (se_pv 6) (sa_cons (se_pv 5) sa_nil))))) (st_val (se_call (K := ⟨K, P, w⟩) (ps := ["draft", "strand", "other"]) (m := m__law_over) rfl c__law_over hr hgd (sa_cons (se_pv 0) (sa_cons (se_pv 5) (sa_cons (se_pv 6) sa_nil))))))))) (sss_cons (ss_expr (se_append rfl (se_pv 3) (sa_cons (se_pv 6) sa_nil))) (sss_one (ss_expr (se_append rfl (se_pv 4) (sa_cons (se_pv 6) sa_nil))))) sss_nil)))))) (sss_one (ss_if (st_cmp (opNe rfl hr) vNe (se_cb (crLen rfl) vLen M.z_len bt_len (sa_cons (se_pv 3) sa_nil)) (se_cb (crLen rfl) vLen M.z_len bt_len (sa_cons (se_pv 1) sa_nil))) (sss_one (ss_ret (sv_d (sd_se se_bl)))) sss_nil))))) (sss_one (ss_ret (sv_d (sd_se se_bl))))))⟩
theorem g__law_round {k : Nat} {f : Addr} {fd : FuncData} (F : Fun K "_law_round" "_law_round" s__law_round f fd) (M : Md P w K mg ka_FOUR) : FnG P w K mg base (k + 1) f fd ["some"] m__law_round :=
  fnG_of F sc__law_round rfl fun cdv A outer s H hr hgd => ⟨_, (sss_cons (ss_if (st_cmp (opEq rfl hr) vEq (se_count rfl (se_pv 0) (se_ix (opIx rfl) vIx (se_pv 0) se_int)) (se_cb (crLen rfl) vLen M.z_len bt_len (sa_cons (se_pv 0) sa_nil))) (sss_one (ss_ret (sv_l (sl_lst (sa_cons (se_tup (sa_cons (se_ix (opIx rfl) vIx (se_pv 0) se_int) (sa_cons se_non sa_nil))) sa_nil))))) sss_nil) (sss_cons (ss_par (i := 1) (j := 2) rfl sc__law_round.nd (by decide) (sv_d (sd_se (se_bin (opAdd rfl) vAdd (se_bin (opAdd rfl) vAdd (se_pv 0) (se_pv 0)) (se_pv 0)))) (sv_l (sl_lst sa_nil))) (sss_cons (ss_for PassesOwn.never rfl (si_rng2 M.z_range (sa_cons (se_cb (crLen rfl) vLen M.z_len bt_len (sa_cons (se_pv 0) sa_nil)) (sa_cons (se_bin (opMulX rfl) vMulX se_int (se_cb (crLen rfl) vLen M.z_len bt_len (sa_cons (se_pv 0) sa_nil))) sa_nil))) (sg_name (i := 3) sc__law_round.nd) (sss_one (ss_if (st_cmp (opNe rfl hr) vNe (se_ix (opIx rfl) vIx (se_pv 1) (se_pv 3)) (se_ix (opIx rfl) vIx (se_pv 1) (se_bin op_sub vSub (se_pv 3) se_int))) (sss_cons (ss_set (i := 4) sc__law_round.nd (sv_d (sd_se (se_pv 3)))) (sss_cons (ss_while 100000 PassesOwn.never (st_cmp (opEq rfl hr) vEq (se_ix (opIx rfl) vIx (se_pv 1) (se_pv 4)) (se_ix (opIx rfl) vIx (se_pv 1) (se_pv 3))) (sss_one (ss_set (i := 4) sc__law_round.nd (sv_d (sd_se (se_bin (opAdd rfl) vAdd (se_pv 4) se_int)))))) (sss_one (ss_expr (se_append rfl (se_pv 2) (sa_cons (se_tup (sa_cons (se_ix (opIx rfl) vIx (se_pv 1) (se_pv 3)) (sa_cons (se_bin op_sub vSub (se_pv 4) (se_pv 3)) sa_nil))) sa_nil)))))) sss_nil))) (sss_one (ss_retV (se_pv 2))))))⟩
theorem g_is_tuple {k : Nat} {f : Addr} {fd : FuncData} (F : Fun K "is_tuple" "is_tuple" s_is_tuple f fd) (M : Md P w K mg ka_FOUR) : FnG P w K mg base (k + 1) f fd ["value", "many"] m_is_tuple :=
  fnG_of F sc_is_tuple rfl fun cdv A outer s H hr hgd => ⟨_, (sss_one (ss_ret (sv_d (sd_se (se_and (se_isi (T := .tuple) rfl nofun M.z_isinstance M.z_tuple bt_tuple (se_pv 0)) (se_one (se_cmp (opEq rfl hr) vEq (se_cb (crLen rfl) vLen M.z_len bt_len (sa_cons (se_pv 0) sa_nil)) (se_pv 1))))))))⟩
theorem g_is_headed {k : Nat} {f : Addr} {fd : FuncData} (F : Fun K "is_headed" "is_headed" s_is_headed f fd) (M : Md P w K mg ka_FOUR) {f_is_tuple : Addr} {fd_is_tuple : FuncData} (c_is_tuple : DL.Cal P w K mg base k "is_tuple" ["value", "many"] m_is_tuple f_is_tuple fd_is_tuple) : FnG P w K mg base (k + 1) f fd ["value", "word"] m_is_headed :=
  fnG_of F sc_is_headed rfl fun cdv A outer s H hr hgd => ⟨_, (sss_one (ss_ret (sv_d (sd_se (se_and (se_call (K := ⟨K, P, w⟩) (ps := ["value", "many"]) (m := m_is_tuple) rfl c_is_tuple hr hgd (sa_cons (se_pv 0) (sa_cons se_int sa_nil))) (se_and (se_isi (T := .str) rfl nofun M.z_isinstance M.z_str bt_str (se_ix (opIx rfl) vIx (se_pv 0) se_int)) (se_one (se_cmp (opEq rfl hr) vEq (se_ix (opIx rfl) vIx (se_pv 0) se_int) (se_pv 1)))))))))⟩
theorem g_is_integer {k : Nat} {f : Addr} {fd : FuncData} (F : Fun K "is_integer" "is_integer" s_is_integer f fd) (M : Md P w K mg ka_FOUR) : FnG P w K mg base (k + 1) f fd ["value"] m_is_integer :=
  fnG_of F sc_is_integer rfl fun cdv A outer s H hr hgd => ⟨_, (sss_one (ss_ret (sv_d (sd_se (se_and (se_isi (T := .int) rfl nofun M.z_isinstance M.z_int bt_int (se_pv 0)) (se_one (se_not (se_isi (T := .bool) rfl nofun M.z_isinstance M.z_bool bt_bool (se_pv 0)))))))))⟩
theorem g_is_within {k : Nat} {f : Addr} {fd : FuncData} (F : Fun K "is_within" "is_within" s_is_within f fd) (M : Md P w K mg ka_FOUR) {f_is_integer : Addr} {fd_is_integer : FuncData} (c_is_integer : DL.Cal P w K mg base k "is_integer" ["value"] m_is_integer f_is_integer fd_is_integer) : FnG P w K mg base (k + 1) f fd ["value", "least", "most"] m_is_within :=
  fnG_of F sc_is_within rfl fun cdv A outer s H hr hgd => ⟨_, (sss_one (ss_ret (sv_d (sd_se (se_and (se_call (K := ⟨K, P, w⟩) (ps := ["value"]) (m := m_is_integer) rfl c_is_integer hr hgd (sa_cons (se_pv 0) sa_nil)) (se_one (se_chain op_le vLe op_le vLe (se_pv 1) (se_pv 0) (se_pv 2))))))))⟩
theorem g_are_rows_of {k : Nat} {f : Addr} {fd : FuncData} (F : Fun K "are_rows_of" "are_rows_of" s_are_rows_of f fd) (M : Md P w K mg ka_FOUR) {f_is_within : Addr} {fd_is_within : FuncData} (c_is_within : DL.Cal P w K mg base k "is_within" ["value", "least", "most"] m_is_within f_is_within fd_is_within) : FnG P w K mg base (k + 1) f fd ["value", "signs"] m_are_rows_of :=
  fnG_of F sc_are_rows_of rfl fun cdv A outer s H hr hgd => ⟨_, (sss_cons (ss_if (st_sw (sw_or (st_not (st_val (se_isi (T := .tuple) rfl nofun M.z_isinstance M.z_tuple bt_tuple (se_pv 0)))) (sw_or1 (st_not (st_chain op_le vLe op_le vLe se_int (se_cb (crLen rfl) vLen M.z_len bt_len (sa_cons (se_pv 0) sa_nil)) (se_glob M.c_MOST)))))) (sss_one (ss_ret (sv_d (sd_se se_bl)))) sss_nil) (sss_cons (ss_if (st_not (st_val (se_cb (crAll rfl rfl) vAll M.z_all bt_all (sa_cons (se_sl (sl_lc [("row", 2)] [2] rfl sc_are_rows_of.nd (si_seq rfl (sd_se (se_pv 0))) (by kernel_rfl) (fun _ _ _ _ _ => (sg_name (i := 2) sc_are_rows_of.nd)) (fun _ _ _ _ _ => sts_nil) (fun _ _ _ _ _ => (sd_se (se_isi (T := .tuple) rfl nofun M.z_isinstance M.z_tuple bt_tuple (se_pv 2)))))) sa_nil)))) (sss_one (ss_ret (sv_d (sd_se se_bl)))) sss_nil) (sss_cons (ss_if (st_sw (sw_or (st_not (st_chain op_le vLe op_le vLe se_int (se_cb (crLen rfl) vLen M.z_len bt_len (sa_cons (se_ix (opIx rfl) vIx (se_pv 0) se_int) sa_nil)) (se_glob M.c_MOST))) (sw_or1 (st_val (se_cb (crAny rfl rfl) vAny M.z_any bt_any (sa_cons (se_sl (sl_lc [("row", 2)] [2] rfl sc_are_rows_of.nd (si_seq rfl (sd_se (se_pv 0))) (by kernel_rfl) (fun _ _ _ _ _ => (sg_name (i := 2) sc_are_rows_of.nd)) (fun _ _ _ _ _ => sts_nil) (fun _ _ _ _ _ => (sd_se (se_cmp (opNe rfl hr) vNe (se_cb (crLen rfl) vLen M.z_len bt_len (sa_cons (se_pv 2) sa_nil)) (se_cb (crLen rfl) vLen M.z_len bt_len (sa_cons (se_ix (opIx rfl) vIx (se_pv 0) se_int) sa_nil))))))) sa_nil)))))) (sss_one (ss_ret (sv_d (sd_se se_bl)))) sss_nil) (sss_one (ss_ret (sv_d (sd_se (se_cb (crAll rfl rfl) vAll M.z_all bt_all (sa_cons (se_sl (sl_lc [("row", 2)] [2] rfl sc_are_rows_of.nd (si_seq rfl (sd_se (se_pv 0))) (by kernel_rfl) (fun _ _ _ _ _ => (sg_name (i := 2) sc_are_rows_of.nd)) (fun _ _ _ _ _ => sts_nil) (fun _ _ _ _ _ => (sd_se (se_cb (crAll rfl rfl) vAll M.z_all bt_all (sa_cons (se_sl (sl_lc [("one", 3)] [3] rfl sc_are_rows_of.nd (si_seq rfl (sd_se (se_pv 2))) (by kernel_rfl) (fun _ _ _ _ _ => (sg_name (i := 3) sc_are_rows_of.nd)) (fun _ _ _ _ _ => sts_nil) (fun _ _ _ _ _ => (sd_se (se_call (K := ⟨K, P, w⟩) (ps := ["value", "least", "most"]) (m := m_is_within) rfl c_is_within hr hgd (sa_cons (se_pv 3) (sa_cons se_int (sa_cons (se_bin op_sub vSub (se_pv 1) se_int) sa_nil)))))))) sa_nil)))))) sa_nil)))))))))⟩
theorem g_is_draft_value {k : Nat} {f : Addr} {fd : FuncData} (F : Fun K "is_draft_value" "is_draft_value" s_is_draft_value f fd) (M : Md P w K mg ka_FOUR) {f_are_rows_of : Addr} {fd_are_rows_of : FuncData} (c_are_rows_of : DL.Cal P w K mg base k "are_rows_of" ["value", "signs"] m_are_rows_of f_are_rows_of fd_are_rows_of) {f_is_headed : Addr} {fd_is_headed : FuncData} (c_is_headed : DL.Cal P w K mg base k "is_headed" ["value", "word"] m_is_headed f_is_headed fd_is_headed) : FnG P w K mg base (k + 1) f fd ["value"] m_is_draft_value :=
  fnG_of F sc_is_draft_value rfl fun cdv A outer s H hr hgd => ⟨_, (sss_one (ss_ret (sv_d (sd_se (se_and (se_call (K := ⟨K, P, w⟩) (ps := ["value", "word"]) (m := m_is_headed) rfl c_is_headed hr hgd (sa_cons (se_pv 0) (sa_cons se_str sa_nil))) (se_one (se_call (K := ⟨K, P, w⟩) (ps := ["value", "signs"]) (m := m_are_rows_of) rfl c_are_rows_of hr hgd (sa_cons (se_ix (opIx rfl) vIx (se_pv 0) se_int) (sa_cons se_int sa_nil)))))))))⟩
theorem g_want_draft {k : Nat} {f : Addr} {fd : FuncData} (F : Fun K "want_draft" "want_draft" s_want_draft f fd) (M : Md P w K mg ka_FOUR) {f_is_draft_value : Addr} {fd_is_draft_value : FuncData} (c_is_draft_value : DL.Cal P w K mg base k "is_draft_value" ["value"] m_is_draft_value f_is_draft_value fd_is_draft_value) : FnG P w K mg base (k + 1) f fd ["draft"] m_want_draft :=
  fnG_of F sc_want_draft rfl fun cdv A outer s H hr hgd => ⟨_, (sss_one (ss_if (st_not (st_val (se_call (K := ⟨K, P, w⟩) (ps := ["value"]) (m := m_is_draft_value) rfl c_is_draft_value hr hgd (sa_cons (se_pv 0) sa_nil)))) (sss_one ss_never) sss_nil))⟩
theorem g_many_warps {k : Nat} {f : Addr} {fd : FuncData} (F : Fun K "many_warps" "many_warps" s_many_warps f fd) (M : Md P w K mg ka_FOUR) : FnG P w K mg base (k + 1) f fd ["draft"] m_many_warps :=
  fnG_of F sc_many_warps rfl fun cdv A outer s H hr hgd => ⟨_, (sss_one (ss_ret (sv_d (sd_se (se_cb (crLen rfl) vLen M.z_len bt_len (sa_cons (se_ix (opIx rfl) vIx (se_ix (opIx rfl) vIx (se_pv 0) se_int) se_int) sa_nil))))))⟩
theorem g_many_wefts {k : Nat} {f : Addr} {fd : FuncData} (F : Fun K "many_wefts" "many_wefts" s_many_wefts f fd) (M : Md P w K mg ka_FOUR) : FnG P w K mg base (k + 1) f fd ["draft"] m_many_wefts :=
  fnG_of F sc_many_wefts rfl fun cdv A outer s H hr hgd => ⟨_, (sss_one (ss_ret (sv_d (sd_se (se_cb (crLen rfl) vLen M.z_len bt_len (sa_cons (se_ix (opIx rfl) vIx (se_pv 0) se_int) sa_nil))))))⟩
theorem g_is_strand_of {k : Nat} {f : Addr} {fd : FuncData} (F : Fun K "is_strand_of" "is_strand_of" s_is_strand_of f fd) (M : Md P w K mg ka_FOUR) {f_is_within : Addr} {fd_is_within : FuncData} (c_is_within : DL.Cal P w K mg base k "is_within" ["value", "least", "most"] m_is_within f_is_within fd_is_within) {f_many_warps : Addr} {fd_many_warps : FuncData} (c_many_warps : DL.Cal P w K mg base k "many_warps" ["draft"] m_many_warps f_many_warps fd_many_warps) {f_many_wefts : Addr} {fd_many_wefts : FuncData} (c_many_wefts : DL.Cal P w K mg base k "many_wefts" ["draft"] m_many_wefts f_many_wefts fd_many_wefts) {f_is_tuple : Addr} {fd_is_tuple : FuncData} (c_is_tuple : DL.Cal P w K mg base k "is_tuple" ["value", "many"] m_is_tuple f_is_tuple fd_is_tuple) : FnG P w K mg base (k + 1) f fd ["draft", "value"] m_is_strand_of :=
  fnG_of F sc_is_strand_of rfl fun cdv A outer s H hr hgd => ⟨_, (sss_cons (ss_if (st_sw (sw_or (st_not (st_val (se_call (K := ⟨K, P, w⟩) (ps := ["value", "many"]) (m := m_is_tuple) rfl c_is_tuple hr hgd (sa_cons (se_pv 1) (sa_cons se_int sa_nil))))) (sw_or (st_not (st_val (se_isi (T := .str) rfl nofun M.z_isinstance M.z_str bt_str (se_ix (opIx rfl) vIx (se_pv 1) se_int)))) (sw_or1 (st_cmp (opNotIn rfl hr) vNotIn (se_ix (opIx rfl) vIx (se_pv 1) se_int) (se_tup (sa_cons (se_glob M.c_WARP) (sa_cons (se_glob M.c_WEFT) sa_nil)))))))) (sss_one (ss_ret (sv_d (sd_se se_bl)))) sss_nil) (sss_one (ss_ret (sv_d (sd_se (se_call (K := ⟨K, P, w⟩) (ps := ["value", "least", "most"]) (m := m_is_within) rfl c_is_within hr hgd (sa_cons (se_ix (opIx rfl) vIx (se_pv 1) se_int) (sa_cons se_int (sa_cons (se_bin op_sub vSub (se_if (st_cmp (opEq rfl hr) vEq (se_ix (opIx rfl) vIx (se_pv 1) se_int) (se_glob M.c_WARP)) (se_call (K := ⟨K, P, w⟩) (ps := ["draft"]) (m := m_many_warps) rfl c_many_warps hr hgd (sa_cons (se_pv 0) sa_nil)) (se_call (K := ⟨K, P, w⟩) (ps := ["draft"]) (m := m_many_wefts) rfl c_many_wefts hr hgd (sa_cons (se_pv 0) sa_nil))) se_int) sa_nil)))))))))⟩
theorem g_want_strand {k : Nat} {f : Addr} {fd : FuncData} (F : Fun K "want_strand" "want_strand" s_want_strand f fd) (M : Md P w K mg ka_FOUR) {f_is_strand_of : Addr} {fd_is_strand_of : FuncData} (c_is_strand_of : DL.Cal P w K mg base k "is_strand_of" ["draft", "value"] m_is_strand_of f_is_strand_of fd_is_strand_of) : FnG P w K mg base (k + 1) f fd ["draft", "strand"] m_want_strand :=
  fnG_of F sc_want_strand rfl fun cdv A outer s H hr hgd => ⟨_, (sss_one (ss_if (st_not (st_val (se_call (K := ⟨K, P, w⟩) (ps := ["draft", "value"]) (m := m_is_strand_of) rfl c_is_strand_of hr hgd (sa_cons (se_pv 0) (sa_cons (se_pv 1) sa_nil))))) (sss_one ss_never) sss_nil))⟩
theorem g_round_runs {k : Nat} {f : Addr} {fd : FuncData} (F : Fun K "round_runs" "round_runs" s_round_runs f fd) (M : Md P w K mg ka_FOUR) : FnG P w K mg base (k + 1) f fd ["signs"] m_round_runs :=
  fnG_of F sc_round_runs rfl fun cdv A outer s H hr hgd => ⟨_, (sss_cons (ss_if (st_cmp (opEq rfl hr) vEq (se_lenSet rfl rfl M.z_len M.z_set (se_pv 0)) se_int) (sss_one (ss_ret (sv_l (sl_lst (sa_cons (se_tup (sa_cons (se_ix (opIx rfl) vIx (se_pv 0) se_int) (sa_cons se_non sa_nil))) sa_nil))))) sss_nil) (sss_cons (ss_set (i := 1) sc_round_runs.nd (sv_d (sd_se (se_ix (opIx rfl) vIx (se_sl (sl_lc [("at", 4)] [4] rfl sc_round_runs.nd (si_rng1 M.z_range (sa_cons (se_cb (crLen rfl) vLen M.z_len bt_len (sa_cons (se_pv 0) sa_nil)) sa_nil)) (by kernel_rfl) (fun _ _ _ _ _ => (sg_name (i := 4) sc_round_runs.nd)) (fun _ _ _ _ _ => (sts_one (st_cmp (opNe rfl hr) vNe (se_ix (opIx rfl) vIx (se_pv 0) (se_pv 4)) (se_ix (opIx rfl) vIx (se_pv 0) (se_bin op_sub vSub (se_pv 4) se_int))))) (fun _ _ _ _ _ => (sd_se (se_pv 4))))) se_int)))) (sss_cons (ss_set (i := 2) sc_round_runs.nd (sv_l (sl_lst sa_nil))) (sss_cons (ss_for PassesOwn.never rfl (si_seq rfl (sd_se (se_bin (opAdd rfl) vAdd (se_slice rfl (se_pv 0) (so_some (se_pv 1)) so_none) (se_slice rfl (se_pv 0) so_none (so_some (se_pv 1)))))) (sg_name (i := 3) sc_round_runs.nd) (sss_one (ss_if (st_sw (sw_and (st_cmp (opNe rfl hr) vNe (se_pv 2) (se_sl (sl_lst sa_nil))) (sw_and1 (st_cmp (opEq rfl hr) vEq (se_ix (opIx rfl) vIx (se_ix (opIx rfl) vIx (se_pv 2) (se_un un_neg vNeg se_int)) se_int) (se_pv 3))))) (sss_one (ss_asg (sd_se (se_tup (sa_cons (se_pv 3) (sa_cons (se_bin (opAdd rfl) vAdd (se_ix (opIx rfl) vIx (se_ix (opIx rfl) vIx (se_pv 2) (se_un un_neg vNeg se_int)) se_int) se_int) sa_nil)))) (sg_sub (se_pv 2) (se_un un_neg vNeg se_int)))) (sss_one (ss_expr (se_append rfl (se_pv 2) (sa_cons (se_tup (sa_cons (se_pv 3) (sa_cons se_int sa_nil))) sa_nil))))))) (sss_one (ss_retV (se_pv 2)))))))⟩
theorem g_signs_along {k : Nat} {f : Addr} {fd : FuncData} (F : Fun K "signs_along" "signs_along" s_signs_along f fd) (M : Md P w K mg ka_FOUR) : FnG P w K mg base (k + 1) f fd ["draft", "strand"] m_signs_along :=
  fnG_of F sc_signs_along rfl fun cdv A outer s H hr hgd => ⟨_, (sss_cons (ss_if (st_cmp (opEq rfl hr) vEq (se_ix (opIx rfl) vIx (se_pv 1) se_int) (se_glob M.c_WARP)) (sss_one (ss_ret (sv_l (sl_lc [("row", 3)] [3] rfl sc_signs_along.nd (si_seq rfl (sd_se (se_ix (opIx rfl) vIx (se_pv 0) se_int))) (by kernel_rfl) (fun _ _ _ _ _ => (sg_name (i := 3) sc_signs_along.nd)) (fun _ _ _ _ _ => sts_nil) (fun _ _ _ _ _ => (sd_se (se_ix (opIx rfl) vIx (se_pv 3) (se_ix (opIx rfl) vIx (se_pv 1) se_int)))))))) sss_nil) (sss_one (ss_ret (sv_l (sl_lc [("one", 2)] [2] rfl sc_signs_along.nd (si_seq rfl (sd_se (se_ix (opIx rfl) vIx (se_ix (opIx rfl) vIx (se_pv 0) se_int) (se_ix (opIx rfl) vIx (se_pv 1) se_int)))) (by kernel_rfl) (fun _ _ _ _ _ => (sg_name (i := 2) sc_signs_along.nd)) (fun _ _ _ _ _ => sts_nil) (fun _ _ _ _ _ => (sd_se (se_bin op_sub vSub se_int (se_pv 2)))))))))⟩
theorem g_endless_floats {k : Nat} {f : Addr} {fd : FuncData} (F : Fun K "endless_floats" "endless_floats" s_endless_floats f fd) (M : Md P w K mg ka_FOUR) {f_round_runs : Addr} {fd_round_runs : FuncData} (c_round_runs : DL.Cal P w K mg base k "round_runs" ["signs"] m_round_runs f_round_runs fd_round_runs) {f_signs_along : Addr} {fd_signs_along : FuncData} (c_signs_along : DL.Cal P w K mg base k "signs_along" ["draft", "strand"] m_signs_along f_signs_along fd_signs_along) {f_want_strand : Addr} {fd_want_strand : FuncData} (c_want_strand : DL.Cal P w K mg base k "want_strand" ["draft", "strand"] m_want_strand f_want_strand fd_want_strand) {f_want_draft : Addr} {fd_want_draft : FuncData} (c_want_draft : DL.Cal P w K mg base k "want_draft" ["draft"] m_want_draft f_want_draft fd_want_draft) : FnG P w K mg base (k + 1) f fd ["draft", "strand"] m_endless_floats :=
  fnG_of F sc_endless_floats rfl fun cdv A outer s H hr hgd => ⟨_, (sss_cons (ss_expr (se_call (K := ⟨K, P, w⟩) (ps := ["draft"]) (m := m_want_draft) rfl c_want_draft hr hgd (sa_cons (se_pv 0) sa_nil))) (sss_cons (ss_expr (se_call (K := ⟨K, P, w⟩) (ps := ["draft", "strand"]) (m := m_want_strand) rfl c_want_strand hr hgd (sa_cons (se_pv 0) (sa_cons (se_pv 1) sa_nil)))) (sss_one (ss_ret (sv_l (sl_call (K := ⟨K, P, w⟩) (ps := ["signs"]) (m := m_round_runs) rfl c_round_runs hr hgd (sa_cons (se_call (K := ⟨K, P, w⟩) (ps := ["draft", "strand"]) (m := m_signs_along) rfl c_signs_along hr hgd (sa_cons (se_pv 0) (sa_cons (se_pv 1) sa_nil))) sa_nil)))))))⟩
theorem g__law_signs {k : Nat} {f : Addr} {fd : FuncData} (F : Fun K "_law_signs" "_law_signs" s__law_signs f fd) (M : Md P w K mg ka_FOUR) : FnG P w K mg base (k + 1) f fd ["draft", "strand"] m__law_signs :=
  fnG_of F sc__law_signs rfl fun cdv A outer s H hr hgd => ⟨_, (sss_cons (ss_if (st_cmp (opEq rfl hr) vEq (se_ix (opIx rfl) vIx (se_pv 1) se_int) se_str) (sss_one (ss_ret (sv_l (sl_lc [("row", 3)] [3] rfl sc__law_signs.nd (si_seq rfl (sd_se (se_ix (opIx rfl) vIx (se_pv 0) se_int))) (by kernel_rfl) (fun _ _ _ _ _ => (sg_name (i := 3) sc__law_signs.nd)) (fun _ _ _ _ _ => sts_nil) (fun _ _ _ _ _ => (sd_se (se_ix (opIx rfl) vIx (se_pv 3) (se_ix (opIx rfl) vIx (se_pv 1) se_int)))))))) sss_nil) (sss_one (ss_ret (sv_l (sl_lc [("one", 2)] [2] rfl sc__law_signs.nd (si_seq rfl (sd_se (se_ix (opIx rfl) vIx (se_ix (opIx rfl) vIx (se_pv 0) se_int) (se_ix (opIx rfl) vIx (se_pv 1) se_int)))) (by kernel_rfl) (fun _ _ _ _ _ => (sg_name (i := 2) sc__law_signs.nd)) (fun _ _ _ _ _ => sts_nil) (fun _ _ _ _ _ => (sd_se (se_ct crInt vInt M.z_int bt_int (sa_cons (se_cmp (opEq rfl hr) vEq (se_pv 2) se_int) sa_nil)))))))))⟩
theorem g_want_number {k : Nat} {f : Addr} {fd : FuncData} (F : Fun K "want_number" "want_number" s_want_number f fd) (M : Md P w K mg ka_FOUR) {f_is_within : Addr} {fd_is_within : FuncData} (c_is_within : DL.Cal P w K mg base k "is_within" ["value", "least", "most"] m_is_within f_is_within fd_is_within) : FnG P w K mg base (k + 1) f fd ["value", "least", "most"] m_want_number :=
  fnG_of F sc_want_number rfl fun cdv A outer s H hr hgd => ⟨_, (sss_one (ss_if (st_not (st_val (se_call (K := ⟨K, P, w⟩) (ps := ["value", "least", "most"]) (m := m_is_within) rfl c_is_within hr hgd (sa_cons (se_pv 0) (sa_cons (se_pv 1) (sa_cons (se_pv 2) sa_nil)))))) (sss_one ss_never) sss_nil))⟩
theorem g_with_rows {k : Nat} {f : Addr} {fd : FuncData} (F : Fun K "with_rows" "with_rows" s_with_rows f fd) (M : Md P w K mg ka_FOUR) : FnG P w K mg base (k + 1) f fd ["draft", "rows"] m_with_rows :=
  fnG_of F sc_with_rows rfl fun cdv A outer s H hr hgd => ⟨_, (sss_one (ss_ret (sv_d (sd_se (se_tup (sa_cons (se_ix (opIx rfl) vIx (se_pv 0) se_int) (sa_cons (se_ct (crTuple rfl) vTuple M.z_tuple bt_tuple (sa_cons (se_sl (sl_lc [("row", 2)] [2] rfl sc_with_rows.nd (si_seq rfl (sd_se (se_pv 1))) (by kernel_rfl) (fun _ _ _ _ _ => (sg_name (i := 2) sc_with_rows.nd)) (fun _ _ _ _ _ => sts_nil) (fun _ _ _ _ _ => (sd_se (se_ct (crTuple rfl) vTuple M.z_tuple bt_tuple (sa_cons (se_pv 2) sa_nil)))))) sa_nil)) sa_nil)))))))⟩
theorem g_times_over {k : Nat} {f : Addr} {fd : FuncData} (F : Fun K "times_over" "times_over" s_times_over f fd) (M : Md P w K mg ka_FOUR) {f_with_rows : Addr} {fd_with_rows : FuncData} (c_with_rows : DL.Cal P w K mg base k "with_rows" ["draft", "rows"] m_with_rows f_with_rows fd_with_rows) : FnG P w K mg base (k + 1) f fd ["draft", "across", "down"] m_times_over :=
  fnG_of F sc_times_over rfl fun cdv A outer s H hr hgd => ⟨_, (sss_one (ss_ret (sv_d (sd_se (se_call (K := ⟨K, P, w⟩) (ps := ["draft", "rows"]) (m := m_with_rows) rfl c_with_rows hr hgd (sa_cons (se_pv 0) (sa_cons (se_bin (opMulX rfl) vMulX (se_sl (sl_lc [("row", 3)] [3] rfl sc_times_over.nd (si_seq rfl (sd_se (se_ix (opIx rfl) vIx (se_pv 0) se_int))) (by kernel_rfl) (fun _ _ _ _ _ => (sg_name (i := 3) sc_times_over.nd)) (fun _ _ _ _ _ => sts_nil) (fun _ _ _ _ _ => (sd_se (se_bin (opMulX rfl) vMulX (se_pv 3) (se_pv 1)))))) (se_pv 2)) sa_nil)))))))⟩
theorem g_repeated {k : Nat} {f : Addr} {fd : FuncData} (F : Fun K "repeated" "repeated" s_repeated f fd) (M : Md P w K mg ka_FOUR) {f_times_over : Addr} {fd_times_over : FuncData} (c_times_over : DL.Cal P w K mg base k "times_over" ["draft", "across", "down"] m_times_over f_times_over fd_times_over) {f_many_wefts : Addr} {fd_many_wefts : FuncData} (c_many_wefts : DL.Cal P w K mg base k "many_wefts" ["draft"] m_many_wefts f_many_wefts fd_many_wefts) {f_many_warps : Addr} {fd_many_warps : FuncData} (c_many_warps : DL.Cal P w K mg base k "many_warps" ["draft"] m_many_warps f_many_warps fd_many_warps) {f_want_number : Addr} {fd_want_number : FuncData} (c_want_number : DL.Cal P w K mg base k "want_number" ["value", "least", "most"] m_want_number f_want_number fd_want_number) {f_want_draft : Addr} {fd_want_draft : FuncData} (c_want_draft : DL.Cal P w K mg base k "want_draft" ["draft"] m_want_draft f_want_draft fd_want_draft) : FnG P w K mg base (k + 1) f fd ["draft", "across", "down"] m_repeated :=
  fnG_of F sc_repeated rfl fun cdv A outer s H hr hgd => ⟨_, (sss_cons (ss_expr (se_call (K := ⟨K, P, w⟩) (ps := ["draft"]) (m := m_want_draft) rfl c_want_draft hr hgd (sa_cons (se_pv 0) sa_nil))) (sss_cons (ss_expr (se_call (K := ⟨K, P, w⟩) (ps := ["value", "least", "most"]) (m := m_want_number) rfl c_want_number hr hgd (sa_cons (se_pv 1) (sa_cons se_int (sa_cons (se_glob M.c_MOST) sa_nil))))) (sss_cons (ss_expr (se_call (K := ⟨K, P, w⟩) (ps := ["value", "least", "most"]) (m := m_want_number) rfl c_want_number hr hgd (sa_cons (se_pv 2) (sa_cons se_int (sa_cons (se_glob M.c_MOST) sa_nil))))) (sss_cons (ss_if (st_cmp op_gt vGt (se_bin (opMulX rfl) vMulX (se_call (K := ⟨K, P, w⟩) (ps := ["draft"]) (m := m_many_warps) rfl c_many_warps hr hgd (sa_cons (se_pv 0) sa_nil)) (se_pv 1)) (se_glob M.c_MOST)) (sss_one ss_never) sss_nil) (sss_cons (ss_if (st_cmp op_gt vGt (se_bin (opMulX rfl) vMulX (se_call (K := ⟨K, P, w⟩) (ps := ["draft"]) (m := m_many_wefts) rfl c_many_wefts hr hgd (sa_cons (se_pv 0) sa_nil)) (se_pv 2)) (se_glob M.c_MOST)) (sss_one ss_never) sss_nil) (sss_one (ss_ret (sv_d (sd_se (se_call (K := ⟨K, P, w⟩) (ps := ["draft", "across", "down"]) (m := m_times_over) rfl c_times_over hr hgd (sa_cons (se_pv 0) (sa_cons (se_pv 1) (sa_cons (se_pv 2) sa_nil)))))))))))))⟩
theorem g_divisors {k : Nat} {f : Addr} {fd : FuncData} (F : Fun K "divisors" "divisors" s_divisors f fd) (M : Md P w K mg ka_FOUR) : FnG P w K mg base (k + 1) f fd ["many"] m_divisors :=
  fnG_of F sc_divisors rfl fun cdv A outer s H hr hgd => ⟨_, (sss_one (ss_ret (sv_l (sl_lc [("one", 1)] [1] rfl sc_divisors.nd (si_rng2 M.z_range (sa_cons se_int (sa_cons (se_bin (opAdd rfl) vAdd (se_pv 0) se_int) sa_nil))) (by kernel_rfl) (fun _ _ _ _ _ => (sg_name (i := 1) sc_divisors.nd)) (fun _ _ _ _ _ => (sts_one (st_cmp (opEq rfl hr) vEq (se_bin op_mod vMod (se_pv 0) (se_pv 1)) se_int))) (fun _ _ _ _ _ => (sd_se (se_pv 1)))))))⟩
theorem g_corner {k : Nat} {f : Addr} {fd : FuncData} (F : Fun K "corner" "corner" s_corner f fd) (M : Md P w K mg ka_FOUR) {f_with_rows : Addr} {fd_with_rows : FuncData} (c_with_rows : DL.Cal P w K mg base k "with_rows" ["draft", "rows"] m_with_rows f_with_rows fd_with_rows) : FnG P w K mg base (k + 1) f fd ["draft", "across", "down"] m_corner :=
  fnG_of F sc_corner rfl fun cdv A outer s H hr hgd => ⟨_, (sss_one (ss_ret (sv_d (sd_se (se_call (K := ⟨K, P, w⟩) (ps := ["draft", "rows"]) (m := m_with_rows) rfl c_with_rows hr hgd (sa_cons (se_pv 0) (sa_cons (se_sl (sl_lc [("row", 3)] [3] rfl sc_corner.nd (si_seq rfl (sd_se (se_slice rfl (se_ix (opIx rfl) vIx (se_pv 0) se_int) so_none (so_some (se_pv 2))))) (by kernel_rfl) (fun _ _ _ _ _ => (sg_name (i := 3) sc_corner.nd)) (fun _ _ _ _ _ => sts_nil) (fun _ _ _ _ _ => (sd_se (se_slice rfl (se_pv 3) so_none (so_some (se_pv 1))))))) sa_nil)))))))⟩
theorem g_least_repeat {k : Nat} {f : Addr} {fd : FuncData} (F : Fun K "least_repeat" "least_repeat" s_least_repeat f fd) (M : Md P w K mg ka_FOUR) {f_divisors : Addr} {fd_divisors : FuncData} (c_divisors : DL.Cal P w K mg base k "divisors" ["many"] m_divisors f_divisors fd_divisors) {f_many_warps : Addr} {fd_many_warps : FuncData} (c_many_warps : DL.Cal P w K mg base k "many_warps" ["draft"] m_many_warps f_many_warps fd_many_warps) {f_many_wefts : Addr} {fd_many_wefts : FuncData} (c_many_wefts : DL.Cal P w K mg base k "many_wefts" ["draft"] m_many_wefts f_many_wefts fd_many_wefts) {f_times_over : Addr} {fd_times_over : FuncData} (c_times_over : DL.Cal P w K mg base k "times_over" ["draft", "across", "down"] m_times_over f_times_over fd_times_over) {f_corner : Addr} {fd_corner : FuncData} (c_corner : DL.Cal P w K mg base k "corner" ["draft", "across", "down"] m_corner f_corner fd_corner) {f_want_draft : Addr} {fd_want_draft : FuncData} (c_want_draft : DL.Cal P w K mg base k "want_draft" ["draft"] m_want_draft f_want_draft fd_want_draft) : FnG P w K mg base (k + 1) f fd ["draft"] m_least_repeat :=
  fnG_of F sc_least_repeat rfl fun cdv A outer s H hr hgd => ⟨_, (sss_cons (ss_expr (se_call (K := ⟨K, P, w⟩) (ps := ["draft"]) (m := m_want_draft) rfl c_want_draft hr hgd (sa_cons (se_pv 0) sa_nil))) (sss_cons (ss_for PassesOwn.never rfl (si_seq rfl (sd_se (se_call (K := ⟨K, P, w⟩) (ps := ["many"]) (m := m_divisors) rfl c_divisors hr hgd (sa_cons (se_call (K := ⟨K, P, w⟩) (ps := ["draft"]) (m := m_many_warps) rfl c_many_warps hr hgd (sa_cons (se_pv 0) sa_nil)) sa_nil)))) (sg_name (i := 1) sc_least_repeat.nd) (sss_one (ss_for PassesOwn.never rfl (si_seq rfl (sd_se (se_call (K := ⟨K, P, w⟩) (ps := ["many"]) (m := m_divisors) rfl c_divisors hr hgd (sa_cons (se_call (K := ⟨K, P, w⟩) (ps := ["draft"]) (m := m_many_wefts) rfl c_many_wefts hr hgd (sa_cons (se_pv 0) sa_nil)) sa_nil)))) (sg_name (i := 2) sc_least_repeat.nd) (sss_cons (ss_set (i := 3) sc_least_repeat.nd (sv_d (sd_se (se_call (K := ⟨K, P, w⟩) (ps := ["draft", "across", "down"]) (m := m_corner) rfl c_corner hr hgd (sa_cons (se_pv 0) (sa_cons (se_pv 1) (sa_cons (se_pv 2) sa_nil))))))) (sss_one (ss_if (st_cmp (opEq rfl hr) vEq (se_call (K := ⟨K, P, w⟩) (ps := ["draft", "across", "down"]) (m := m_times_over) rfl c_times_over hr hgd (sa_cons (se_pv 3) (sa_cons (se_bin op_fdiv vDiv (se_call (K := ⟨K, P, w⟩) (ps := ["draft"]) (m := m_many_warps) rfl c_many_warps hr hgd (sa_cons (se_pv 0) sa_nil)) (se_pv 1)) (sa_cons (se_bin op_fdiv vDiv (se_call (K := ⟨K, P, w⟩) (ps := ["draft"]) (m := m_many_wefts) rfl c_many_wefts hr hgd (sa_cons (se_pv 0) sa_nil)) (se_pv 2)) sa_nil)))) (se_pv 0)) (sss_one (ss_ret (sv_d (sd_se (se_pv 3))))) sss_nil)))))) (sss_one (ss_ret (sv_d (sd_se (se_pv 0)))))))⟩
theorem g_strands_of {k : Nat} {f : Addr} {fd : FuncData} (F : Fun K "strands_of" "strands_of" s_strands_of f fd) (M : Md P w K mg ka_FOUR) {f_many_wefts : Addr} {fd_many_wefts : FuncData} (c_many_wefts : DL.Cal P w K mg base k "many_wefts" ["draft"] m_many_wefts f_many_wefts fd_many_wefts) {f_many_warps : Addr} {fd_many_warps : FuncData} (c_many_warps : DL.Cal P w K mg base k "many_warps" ["draft"] m_many_warps f_many_warps fd_many_warps) : FnG P w K mg base (k + 1) f fd ["draft"] m_strands_of :=
  fnG_of F sc_strands_of rfl fun cdv A outer s H hr hgd => ⟨_, (sss_cons (ss_setLc (i := 1) true [("at", 2)] [2] rfl sc_strands_of.nd (si_rng1 M.z_range (sa_cons (se_call (K := ⟨K, P, w⟩) (ps := ["draft"]) (m := m_many_warps) rfl c_many_warps hr hgd (sa_cons (se_pv 0) sa_nil)) sa_nil)) (by kernel_rfl) (fun _ _ _ _ _ => (sg_name (i := 2) sc_strands_of.nd)) (fun _ _ _ _ _ => sts_nil) (fun _ _ _ _ _ => (sd_se (se_tup (sa_cons (se_glob M.c_WARP) (sa_cons (se_pv 2) sa_nil))))) (sw_true rfl rfl rfl rfl)) (sss_one (ss_ret (sv_d (sd_se (se_bin (opAdd rfl) vAdd (se_pv 1) (se_sl (sl_lc [("at", 2)] [2] rfl sc_strands_of.nd (si_rng1 M.z_range (sa_cons (se_call (K := ⟨K, P, w⟩) (ps := ["draft"]) (m := m_many_wefts) rfl c_many_wefts hr hgd (sa_cons (se_pv 0) sa_nil)) sa_nil)) (by kernel_rfl) (fun _ _ _ _ _ => (sg_name (i := 2) sc_strands_of.nd)) (fun _ _ _ _ _ => sts_nil) (fun _ _ _ _ _ => (sd_se (se_tup (sa_cons (se_glob M.c_WEFT) (sa_cons (se_pv 2) sa_nil)))))))))))))⟩
theorem g_cell_between {k : Nat} {f : Addr} {fd : FuncData} (F : Fun K "cell_between" "cell_between" s_cell_between f fd) (M : Md P w K mg ka_FOUR) : FnG P w K mg base (k + 1) f fd ["strand", "other"] m_cell_between :=
  fnG_of F sc_cell_between rfl fun cdv A outer s H hr hgd => ⟨_, (sss_one (ss_ret (sv_d (sd_se (se_if (st_cmp (opEq rfl hr) vEq (se_ix (opIx rfl) vIx (se_pv 0) se_int) (se_glob M.c_WARP)) (se_tup (sa_cons (se_ix (opIx rfl) vIx (se_pv 1) se_int) (sa_cons (se_ix (opIx rfl) vIx (se_pv 0) se_int) sa_nil))) (se_tup (sa_cons (se_ix (opIx rfl) vIx (se_pv 0) se_int) (sa_cons (se_ix (opIx rfl) vIx (se_pv 1) se_int) sa_nil))))))))⟩
theorem g_lies_over {k : Nat} {f : Addr} {fd : FuncData} (F : Fun K "lies_over" "lies_over" s_lies_over f fd) (M : Md P w K mg ka_FOUR) {f_cell_between : Addr} {fd_cell_between : FuncData} (c_cell_between : DL.Cal P w K mg base k "cell_between" ["strand", "other"] m_cell_between f_cell_between fd_cell_between) : FnG P w K mg base (k + 1) f fd ["draft", "strand", "other"] m_lies_over :=
  fnG_of F sc_lies_over rfl fun cdv A outer s H hr hgd => ⟨_, (sss_cons (ss_if (st_cmp (opEq rfl hr) vEq (se_ix (opIx rfl) vIx (se_pv 1) se_int) (se_ix (opIx rfl) vIx (se_pv 2) se_int)) (sss_one (ss_ret (sv_d (sd_se se_bl)))) sss_nil) (sss_cons (ss_asg (sd_se (se_call (K := ⟨K, P, w⟩) (ps := ["strand", "other"]) (m := m_cell_between) rfl c_cell_between hr hgd (sa_cons (se_pv 1) (sa_cons (se_pv 2) sa_nil)))) (sg_tup rfl rfl (sgs_cons (sg_name (i := 3) sc_lies_over.nd) (sgs_cons (sg_name (i := 4) sc_lies_over.nd) sgs_nil)))) (sss_one (ss_ret (sv_d (sd_se (se_cmp (opEq rfl hr) vEq (se_cmp (opEq rfl hr) vEq (se_ix (opIx rfl) vIx (se_ix (opIx rfl) vIx (se_ix (opIx rfl) vIx (se_pv 0) se_int) (se_pv 3)) (se_pv 4)) se_int) (se_cmp (opEq rfl hr) vEq (se_ix (opIx rfl) vIx (se_pv 1) se_int) (se_glob M.c_WARP)))))))))⟩
theorem g_below {k : Nat} {f : Addr} {fd : FuncData} (F : Fun K "below" "below" s_below f fd) (M : Md P w K mg ka_FOUR) {f_strands_of : Addr} {fd_strands_of : FuncData} (c_strands_of : DL.Cal P w K mg base k "strands_of" ["draft"] m_strands_of f_strands_of fd_strands_of) {f_lies_over : Addr} {fd_lies_over : FuncData} (c_lies_over : DL.Cal P w K mg base k "lies_over" ["draft", "strand", "other"] m_lies_over f_lies_over fd_lies_over) : FnG P w K mg base (k + 1) f fd ["draft", "strand"] m_below :=
  fnG_of F sc_below rfl fun cdv A outer s H hr hgd => ⟨_, (sss_one (ss_ret (sv_l (sl_lc [("one", 2)] [2] rfl sc_below.nd (si_seq rfl (sd_se (se_call (K := ⟨K, P, w⟩) (ps := ["draft"]) (m := m_strands_of) rfl c_strands_of hr hgd (sa_cons (se_pv 0) sa_nil)))) (by kernel_rfl) (fun _ _ _ _ _ => (sg_name (i := 2) sc_below.nd)) (fun _ _ _ _ _ => (sts_one (st_val (se_call (K := ⟨K, P, w⟩) (ps := ["draft", "strand", "other"]) (m := m_lies_over) rfl c_lies_over hr hgd (sa_cons (se_pv 0) (sa_cons (se_pv 1) (sa_cons (se_pv 2) sa_nil))))))) (fun _ _ _ _ _ => (sd_se (se_pv 2)))))))⟩
theorem g_ways_from {k : Nat} {f : Addr} {fd : FuncData} (F : Fun K "ways_from" "ways_from" s_ways_from f fd) (M : Md P w K mg ka_FOUR) {f_below : Addr} {fd_below : FuncData} (c_below : DL.Cal P w K mg base k "below" ["draft", "strand"] m_below f_below fd_below) : FnG P w K mg base (k + 1) f fd ["draft", "strand"] m_ways_from :=
  fnG_of F sc_ways_from rfl fun cdv A outer s H hr hgd => ⟨_, (sss_cons (ss_par (i := 2) (j := 3) rfl sc_ways_from.nd (by decide) (sv_xdisp rfl hr (se_pv 1) (sd_se (se_sl (sl_lst (sa_cons (se_pv 1) sa_nil))))) (sv_d (sd_se (se_sl (sl_lst (sa_cons (se_pv 1) sa_nil)))))) (sss_cons (ss_while 100000 PassesOwn.never (st_cmp (opNe rfl hr) vNe (se_pv 3) (se_sl (sl_lst sa_nil))) (sss_cons (ss_set (i := 4) sc_ways_from.nd (sv_l (sl_lst sa_nil))) (sss_cons (ss_for PassesOwn.never rfl (si_seq rfl (sd_se (se_pv 3))) (sg_name (i := 5) sc_ways_from.nd) (sss_one (ss_for PassesOwn.never rfl (si_seq rfl (sd_se (se_call (K := ⟨K, P, w⟩) (ps := ["draft", "strand"]) (m := m_below) rfl c_below hr hgd (sa_cons (se_pv 0) (sa_cons (se_pv 5) sa_nil))))) (sg_name (i := 6) sc_ways_from.nd) (sss_one (ss_if (st_xnotin rfl hr (se_pv 2) (se_pv 6)) (sss_cons (ss_xput rfl hr (se_pv 2) (se_pv 6) (sd_se (se_bin (opAdd rfl) vAdd (se_xget rfl hr (se_pv 2) (se_pv 5)) (se_sl (sl_lst (sa_cons (se_pv 6) sa_nil)))))) (sss_one (ss_expr (se_append rfl (se_pv 4) (sa_cons (se_pv 6) sa_nil))))) sss_nil))))) (sss_one (ss_set (i := 3) sc_ways_from.nd (sv_d (sd_se (se_pv 4)))))))) (sss_one (ss_retV (se_pv 2)))))⟩
theorem g_above {k : Nat} {f : Addr} {fd : FuncData} (F : Fun K "above" "above" s_above f fd) (M : Md P w K mg ka_FOUR) {f_strands_of : Addr} {fd_strands_of : FuncData} (c_strands_of : DL.Cal P w K mg base k "strands_of" ["draft"] m_strands_of f_strands_of fd_strands_of) {f_lies_over : Addr} {fd_lies_over : FuncData} (c_lies_over : DL.Cal P w K mg base k "lies_over" ["draft", "strand", "other"] m_lies_over f_lies_over fd_lies_over) : FnG P w K mg base (k + 1) f fd ["draft", "strand"] m_above :=
  fnG_of F sc_above rfl fun cdv A outer s H hr hgd => ⟨_, (sss_one (ss_ret (sv_l (sl_lc [("one", 2)] [2] rfl sc_above.nd (si_seq rfl (sd_se (se_call (K := ⟨K, P, w⟩) (ps := ["draft"]) (m := m_strands_of) rfl c_strands_of hr hgd (sa_cons (se_pv 0) sa_nil)))) (by kernel_rfl) (fun _ _ _ _ _ => (sg_name (i := 2) sc_above.nd)) (fun _ _ _ _ _ => (sts_one (st_val (se_call (K := ⟨K, P, w⟩) (ps := ["draft", "strand", "other"]) (m := m_lies_over) rfl c_lies_over hr hgd (sa_cons (se_pv 0) (sa_cons (se_pv 2) (sa_cons (se_pv 1) sa_nil))))))) (fun _ _ _ _ _ => (sd_se (se_pv 2)))))))⟩
theorem g_ways_back {k : Nat} {f : Addr} {fd : FuncData} (F : Fun K "ways_back" "ways_back" s_ways_back f fd) (M : Md P w K mg ka_FOUR) {f_above : Addr} {fd_above : FuncData} (c_above : DL.Cal P w K mg base k "above" ["draft", "strand"] m_above f_above fd_above) : FnG P w K mg base (k + 1) f fd ["draft", "strand"] m_ways_back :=
  fnG_of F sc_ways_back rfl fun cdv A outer s H hr hgd => ⟨_, (sss_cons (ss_par (i := 2) (j := 3) rfl sc_ways_back.nd (by decide) (sv_l (sl_lst (sa_cons (se_pv 1) sa_nil))) (sv_l (sl_lst (sa_cons (se_pv 1) sa_nil)))) (sss_cons (ss_while 100000 PassesOwn.never (st_cmp (opNe rfl hr) vNe (se_pv 3) (se_sl (sl_lst sa_nil))) (sss_cons (ss_set (i := 4) sc_ways_back.nd (sv_d (sd_se (se_pop rfl (se_pv 3))))) (sss_one (ss_for PassesOwn.never rfl (si_seq rfl (sd_se (se_call (K := ⟨K, P, w⟩) (ps := ["draft", "strand"]) (m := m_above) rfl c_above hr hgd (sa_cons (se_pv 0) (sa_cons (se_pv 4) sa_nil))))) (sg_name (i := 5) sc_ways_back.nd) (sss_one (ss_if (st_cmp (opNotIn rfl hr) vNotIn (se_pv 5) (se_pv 2)) (sss_cons (ss_expr (se_append rfl (se_pv 2) (sa_cons (se_pv 5) sa_nil))) (sss_one (ss_expr (se_append rfl (se_pv 3) (sa_cons (se_pv 5) sa_nil))))) sss_nil)))))) (sss_one (ss_ret (sv_l (sl_cb (crSortA rfl hr) vSortA M.z_sorted bt_sorted (sa_cons (se_pv 2) sa_nil)))))))⟩
theorem g_are_held {k : Nat} {f : Addr} {fd : FuncData} (F : Fun K "are_held" "are_held" s_are_held f fd) (M : Md P w K mg ka_FOUR) {f_ways_back : Addr} {fd_ways_back : FuncData} (c_ways_back : DL.Cal P w K mg base k "ways_back" ["draft", "strand"] m_ways_back f_ways_back fd_ways_back) {f_ways_from : Addr} {fd_ways_from : FuncData} (c_ways_from : DL.Cal P w K mg base k "ways_from" ["draft", "strand"] m_ways_from f_ways_from fd_ways_from) {f_many_warps : Addr} {fd_many_warps : FuncData} (c_many_warps : DL.Cal P w K mg base k "many_warps" ["draft"] m_many_warps f_many_warps fd_many_warps) {f_many_wefts : Addr} {fd_many_wefts : FuncData} (c_many_wefts : DL.Cal P w K mg base k "many_wefts" ["draft"] m_many_wefts f_many_wefts fd_many_wefts) {f_strands_of : Addr} {fd_strands_of : FuncData} (c_strands_of : DL.Cal P w K mg base k "strands_of" ["draft"] m_strands_of f_strands_of fd_strands_of) : FnG P w K mg base (k + 1) f fd ["draft"] m_are_held :=
  fnG_of F sc_are_held rfl fun cdv A outer s H hr hgd => ⟨_, (sss_cons (ss_par (i := 1) (j := 2) rfl sc_are_held.nd (by decide) (sv_d (sd_se (se_bin (opAdd rfl) vAdd (se_call (K := ⟨K, P, w⟩) (ps := ["draft"]) (m := m_many_warps) rfl c_many_warps hr hgd (sa_cons (se_pv 0) sa_nil)) (se_call (K := ⟨K, P, w⟩) (ps := ["draft"]) (m := m_many_wefts) rfl c_many_wefts hr hgd (sa_cons (se_pv 0) sa_nil))))) (sv_d (sd_se (se_ix (opIx rfl) vIx (se_call (K := ⟨K, P, w⟩) (ps := ["draft"]) (m := m_strands_of) rfl c_strands_of hr hgd (sa_cons (se_pv 0) sa_nil)) se_int)))) (sss_one (ss_ret (sv_d (sd_se (se_and (se_cmp (opEq rfl hr) vEq (se_lenCall (K := ⟨K, P, w⟩) (ps := ["draft", "strand"]) (m := m_ways_from) rfl M.z_len bt_len c_ways_from hr hgd (sa_cons (se_pv 0) (sa_cons (se_pv 2) sa_nil))) (se_pv 1)) (se_one (se_cmp (opEq rfl hr) vEq (se_cb (crLen rfl) vLen M.z_len bt_len (sa_cons (se_call (K := ⟨K, P, w⟩) (ps := ["draft", "strand"]) (m := m_ways_back) rfl c_ways_back hr hgd (sa_cons (se_pv 0) (sa_cons (se_pv 2) sa_nil))) sa_nil)) (se_pv 1)))))))))⟩
theorem g_is_endless_one {k : Nat} {f : Addr} {fd : FuncData} (F : Fun K "is_endless_one" "is_endless_one" s_is_endless_one f fd) (M : Md P w K mg ka_FOUR) {f_are_held : Addr} {fd_are_held : FuncData} (c_are_held : DL.Cal P w K mg base k "are_held" ["draft"] m_are_held f_are_held fd_are_held) {f_want_draft : Addr} {fd_want_draft : FuncData} (c_want_draft : DL.Cal P w K mg base k "want_draft" ["draft"] m_want_draft f_want_draft fd_want_draft) : FnG P w K mg base (k + 1) f fd ["draft"] m_is_endless_one :=
  fnG_of F sc_is_endless_one rfl fun cdv A outer s H hr hgd => ⟨_, (sss_cons (ss_expr (se_call (K := ⟨K, P, w⟩) (ps := ["draft"]) (m := m_want_draft) rfl c_want_draft hr hgd (sa_cons (se_pv 0) sa_nil))) (sss_one (ss_ret (sv_d (sd_se (se_call (K := ⟨K, P, w⟩) (ps := ["draft"]) (m := m_are_held) rfl c_are_held hr hgd (sa_cons (se_pv 0) sa_nil)))))))⟩
theorem g_longest_round {k : Nat} {f : Addr} {fd : FuncData} (F : Fun K "longest_round" "longest_round" s_longest_round f fd) (M : Md P w K mg ka_FOUR) {f_strands_of : Addr} {fd_strands_of : FuncData} (c_strands_of : DL.Cal P w K mg base k "strands_of" ["draft"] m_strands_of f_strands_of fd_strands_of) {f_round_runs : Addr} {fd_round_runs : FuncData} (c_round_runs : DL.Cal P w K mg base k "round_runs" ["signs"] m_round_runs f_round_runs fd_round_runs) {f_signs_along : Addr} {fd_signs_along : FuncData} (c_signs_along : DL.Cal P w K mg base k "signs_along" ["draft", "strand"] m_signs_along f_signs_along fd_signs_along) : FnG P w K mg base (k + 1) f fd ["draft", "kind", "sign"] m_longest_round :=
  fnG_of F sc_longest_round rfl fun cdv A outer s H hr hgd => ⟨_, (sss_cons (ss_set (i := 3) sc_longest_round.nd (sv_d (sd_se se_int))) (sss_cons (ss_for PassesOwn.never rfl (si_seq rfl (sd_se (se_call (K := ⟨K, P, w⟩) (ps := ["draft"]) (m := m_strands_of) rfl c_strands_of hr hgd (sa_cons (se_pv 0) sa_nil)))) (sg_name (i := 4) sc_longest_round.nd) (sss_one (ss_for PassesOwn.never rfl (si_seq rfl (sd_se (se_if (st_cmp (opEq rfl hr) vEq (se_ix (opIx rfl) vIx (se_pv 4) se_int) (se_pv 1)) (se_call (K := ⟨K, P, w⟩) (ps := ["signs"]) (m := m_round_runs) rfl c_round_runs hr hgd (sa_cons (se_call (K := ⟨K, P, w⟩) (ps := ["draft", "strand"]) (m := m_signs_along) rfl c_signs_along hr hgd (sa_cons (se_pv 0) (sa_cons (se_pv 4) sa_nil))) sa_nil)) (se_sl (sl_lst sa_nil))))) (sg_tup rfl rfl (sgs_cons (sg_name (i := 5) sc_longest_round.nd) (sgs_cons (sg_name (i := 6) sc_longest_round.nd) sgs_nil))) (sss_one (ss_if (st_cmp (opEq rfl hr) vEq (se_pv 5) (se_pv 2)) (sss_cons (ss_if (st_cmp opIs vIs (se_pv 6) se_non) (sss_one (ss_ret (sv_d (sd_se se_non)))) sss_nil) (sss_one (ss_set (i := 3) sc_longest_round.nd (sv_d (sd_se (se_cb (crMax rfl rfl) vMax M.z_max bt_max (sa_cons (se_pv 3) (sa_cons (se_pv 6) sa_nil)))))))) sss_nil))))) (sss_one (ss_ret (sv_d (sd_se (se_pv 3)))))))⟩
theorem g_endless_longest {k : Nat} {f : Addr} {fd : FuncData} (F : Fun K "endless_longest" "endless_longest" s_endless_longest f fd) (M : Md P w K mg ka_FOUR) {f_longest_round : Addr} {fd_longest_round : FuncData} (c_longest_round : DL.Cal P w K mg base k "longest_round" ["draft", "kind", "sign"] m_longest_round f_longest_round fd_longest_round) {f_want_draft : Addr} {fd_want_draft : FuncData} (c_want_draft : DL.Cal P w K mg base k "want_draft" ["draft"] m_want_draft f_want_draft fd_want_draft) : FnG P w K mg base (k + 1) f fd ["draft"] m_endless_longest :=
  fnG_of F sc_endless_longest rfl fun cdv A outer s H hr hgd => ⟨_, (sss_cons (ss_expr (se_call (K := ⟨K, P, w⟩) (ps := ["draft"]) (m := m_want_draft) rfl c_want_draft hr hgd (sa_cons (se_pv 0) sa_nil))) (sss_one (ss_ret (sv_d (sd_se (se_ct (crTuple rfl) vTuple M.z_tuple bt_tuple (sa_cons (se_sl (sl_lc [("kind", 1), ("sign", 2)] [1, 2] rfl sc_endless_longest.nd (si_seq rfl (sd_se (se_glob M.c_FOUR))) (by kernel_rfl) (fun _ _ _ _ _ => (sg_tup rfl rfl (sgs_cons (sg_name (i := 1) sc_endless_longest.nd) (sgs_cons (sg_name (i := 2) sc_endless_longest.nd) sgs_nil)))) (fun _ _ _ _ _ => sts_nil) (fun _ _ _ _ _ => (sd_se (se_call (K := ⟨K, P, w⟩) (ps := ["draft", "kind", "sign"]) (m := m_longest_round) rfl c_longest_round hr hgd (sa_cons (se_pv 0) (sa_cons (se_pv 1) (sa_cons (se_pv 2) sa_nil)))))))) sa_nil)))))))⟩
theorem g__law_right {k : Nat} {f : Addr} {fd : FuncData} (F : Fun K "_law_right" "_law_right" s__law_right f fd) (M : Md P w K mg ka_FOUR) {f_endless_longest : Addr} {fd_endless_longest : FuncData} (c_endless_longest : DL.Cal P w K mg base k "endless_longest" ["draft"] m_endless_longest f_endless_longest fd_endless_longest) {f__law_strands : Addr} {fd__law_strands : FuncData} (c__law_strands : DL.Cal P w K mg base k "_law_strands" ["draft"] m__law_strands f__law_strands fd__law_strands) {f_endless_floats : Addr} {fd_endless_floats : FuncData} (c_endless_floats : DL.Cal P w K mg base k "endless_floats" ["draft", "strand"] m_endless_floats f_endless_floats fd_endless_floats) {f__law_round : Addr} {fd__law_round : FuncData} (c__law_round : DL.Cal P w K mg base k "_law_round" ["some"] m__law_round f__law_round fd__law_round) {f__law_signs : Addr} {fd__law_signs : FuncData} (c__law_signs : DL.Cal P w K mg base k "_law_signs" ["draft", "strand"] m__law_signs f__law_signs fd__law_signs) {f__law_is_one : Addr} {fd__law_is_one : FuncData} (c__law_is_one : DL.Cal P w K mg base k "_law_is_one" ["draft"] m__law_is_one f__law_is_one fd__law_is_one) {f_is_endless_one : Addr} {fd_is_endless_one : FuncData} (c_is_endless_one : DL.Cal P w K mg base k "is_endless_one" ["draft"] m_is_endless_one f_is_endless_one fd_is_endless_one) {f_least_repeat : Addr} {fd_least_repeat : FuncData} (c_least_repeat : DL.Cal P w K mg base k "least_repeat" ["draft"] m_least_repeat f_least_repeat fd_least_repeat) {f__law_least : Addr} {fd__law_least : FuncData} (c__law_least : DL.Cal P w K mg base k "_law_least" ["draft"] m__law_least f__law_least fd__law_least) {f_repeated : Addr} {fd_repeated : FuncData} (c_repeated : DL.Cal P w K mg base k "repeated" ["draft", "across", "down"] m_repeated f_repeated fd_repeated) {f__law_times : Addr} {fd__law_times : FuncData} (c__law_times : DL.Cal P w K mg base k "_law_times" ["draft", "across", "down"] m__law_times f__law_times fd__law_times) {f__law_draw : Addr} {fd__law_draw : FuncData} (c__law_draw : DL.Cal P w K mg base k "_law_draw" ["pot", "many"] m__law_draw f__law_draw fd__law_draw) {f__law_draft : Addr} {fd__law_draft : FuncData} (c__law_draft : DL.Cal P w K mg base k "_law_draft" ["pot", "most"] m__law_draft f__law_draft fd__law_draft) (kb_endless_floats_0_strand_draft : KwB K fd_endless_floats ["draft", "strand"] ["strand", "draft"] [1, 0]) (kb_endless_longest_0_draft : KwB K fd_endless_longest ["draft"] ["draft"] [0]) (kb_is_endless_one_0_draft : KwB K fd_is_endless_one ["draft"] ["draft"] [0]) (kb_least_repeat_0_draft : KwB K fd_least_repeat ["draft"] ["draft"] [0]) (kb_repeated_0_down_across_draft : KwB K fd_repeated ["draft", "across", "down"] ["down", "across", "draft"] [2, 1, 0]) : FnG P w K mg base (k + 1) f fd ["pot"] m__law_right :=
  fnG_of F sc__law_right rfl fun cdv A outer s H hr hgd => ⟨_, (sss_cons (ss_set (i := 1) sc__law_right.nd (sv_d (sd_se (se_call (K := ⟨K, P, w⟩) (ps := ["pot", "most"]) (m := m__law_draft) rfl c__law_draft hr hgd (sa_cons (se_pv 0) (sa_cons se_int sa_nil)))))) (sss_cons (ss_par3 (i := 2) (j := 3) (l := 4) rfl sc__law_right.nd (by decide) (by decide) (by decide) (sa_cons (se_cb (crRepr rfl hgd hr) vRepr M.z_repr bt_repr (sa_cons (se_pv 1) sa_nil)) (sa_cons (se_cb (crLen rfl) vLen M.z_len bt_len (sa_cons (se_ix (opIx rfl) vIx (se_ix (opIx rfl) vIx (se_pv 1) se_int) se_int) sa_nil)) (sa_cons (se_cb (crLen rfl) vLen M.z_len bt_len (sa_cons (se_ix (opIx rfl) vIx (se_pv 1) se_int) sa_nil)) sa_nil)))) (sss_cons (ss_par (i := 5) (j := 6) rfl sc__law_right.nd (by decide) (sv_d (sd_se (se_bin (opAdd rfl) vAdd se_int (se_call (K := ⟨K, P, w⟩) (ps := ["pot", "many"]) (m := m__law_draw) rfl c__law_draw hr hgd (sa_cons (se_pv 0) (sa_cons (se_bin op_fdiv vDiv se_int (se_pv 3)) sa_nil)))))) (sv_d (sd_se (se_bin (opAdd rfl) vAdd se_int (se_call (K := ⟨K, P, w⟩) (ps := ["pot", "many"]) (m := m__law_draw) rfl c__law_draw hr hgd (sa_cons (se_pv 0) (sa_cons (se_bin op_fdiv vDiv se_int (se_pv 4)) sa_nil))))))) (sss_cons (ss_set (i := 7) sc__law_right.nd (sv_d (sd_se (se_call (K := ⟨K, P, w⟩) (ps := ["draft", "across", "down"]) (m := m__law_times) rfl c__law_times hr hgd (sa_cons (se_pv 1) (sa_cons (se_pv 5) (sa_cons (se_pv 6) sa_nil))))))) (sss_cons (ss_if (st_cmp (opNe rfl hr) vNe (se_cb (crRepr rfl hgd hr) vRepr M.z_repr bt_repr (sa_cons (se_sl (sl_lst (sa_cons (se_call (K := ⟨K, P, w⟩) (ps := ["draft", "across", "down"]) (m := m_repeated) rfl c_repeated hr hgd (sa_cons (se_pv 1) (sa_cons (se_pv 5) (sa_cons (se_pv 6) sa_nil)))) (sa_cons (se_callK0 (K := ⟨K, P, w⟩) (ps := ["draft", "across", "down"]) (m := m_repeated) (ks := ["down", "across", "draft"]) (pm := [2, 1, 0]) rfl c_repeated kb_repeated_0_down_across_draft hr hgd (sk_cons (se_pv 6) (sk_cons (se_pv 5) (sk_cons (se_pv 1) sk_nil)))) sa_nil)))) sa_nil)) (se_cb (crRepr rfl hgd hr) vRepr M.z_repr bt_repr (sa_cons (se_sl (sl_lst (sa_cons (se_pv 7) (sa_cons (se_pv 7) sa_nil)))) sa_nil))) (sss_one (ss_ret (sv_d (sd_se se_bl)))) sss_nil) (sss_cons (ss_set (i := 8) sc__law_right.nd (sv_d (sd_se (se_call (K := ⟨K, P, w⟩) (ps := ["draft"]) (m := m__law_least) rfl c__law_least hr hgd (sa_cons (se_pv 1) sa_nil))))) (sss_cons (ss_if (st_cmp (opNe rfl hr) vNe (se_cb (crRepr rfl hgd hr) vRepr M.z_repr bt_repr (sa_cons (se_sl (sl_lst (sa_cons (se_call (K := ⟨K, P, w⟩) (ps := ["draft"]) (m := m_least_repeat) rfl c_least_repeat hr hgd (sa_cons (se_pv 1) sa_nil)) (sa_cons (se_callK0 (K := ⟨K, P, w⟩) (ps := ["draft"]) (m := m_least_repeat) (ks := ["draft"]) (pm := [0]) rfl c_least_repeat kb_least_repeat_0_draft hr hgd (sk_cons (se_pv 7) sk_nil)) sa_nil)))) sa_nil)) (se_cb (crRepr rfl hgd hr) vRepr M.z_repr bt_repr (sa_cons (se_sl (sl_lst (sa_cons (se_pv 8) (sa_cons (se_pv 8) sa_nil)))) sa_nil))) (sss_one (ss_ret (sv_d (sd_se se_bl)))) sss_nil) (sss_cons (ss_set (i := 9) sc__law_right.nd (sv_d (sd_se (se_call (K := ⟨K, P, w⟩) (ps := ["draft"]) (m := m__law_is_one) rfl c__law_is_one hr hgd (sa_cons (se_pv 1) sa_nil))))) (sss_cons (ss_if (st_cmp (opNe rfl hr) vNe (se_cb (crRepr rfl hgd hr) vRepr M.z_repr bt_repr (sa_cons (se_sl (sl_lst (sa_cons (se_call (K := ⟨K, P, w⟩) (ps := ["draft"]) (m := m_is_endless_one) rfl c_is_endless_one hr hgd (sa_cons (se_pv 1) sa_nil)) (sa_cons (se_callK0 (K := ⟨K, P, w⟩) (ps := ["draft"]) (m := m_is_endless_one) (ks := ["draft"]) (pm := [0]) rfl c_is_endless_one kb_is_endless_one_0_draft hr hgd (sk_cons (se_pv 7) sk_nil)) (sa_cons (se_call (K := ⟨K, P, w⟩) (ps := ["draft"]) (m := m__law_is_one) rfl c__law_is_one hr hgd (sa_cons (se_pv 7) sa_nil)) sa_nil))))) sa_nil)) (se_cb (crRepr rfl hgd hr) vRepr M.z_repr bt_repr (sa_cons (se_bin (opMulX rfl) vMulX (se_sl (sl_lst (sa_cons (se_pv 9) sa_nil))) se_int) sa_nil))) (sss_one (ss_ret (sv_d (sd_se se_bl)))) sss_nil) (sss_cons (ss_set (i := 10) sc__law_right.nd (sv_xnew rfl)) (sss_cons (ss_for PassesOwn.never rfl (si_seq rfl (sd_se (se_call (K := ⟨K, P, w⟩) (ps := ["draft"]) (m := m__law_strands) rfl c__law_strands hr hgd (sa_cons (se_pv 1) sa_nil)))) (sg_name (i := 11) sc__law_right.nd) (sss_cons (ss_set (i := 12) sc__law_right.nd (sv_d (sd_se (se_call (K := ⟨K, P, w⟩) (ps := ["some"]) (m := m__law_round) rfl c__law_round hr hgd (sa_cons (se_call (K := ⟨K, P, w⟩) (ps := ["draft", "strand"]) (m := m__law_signs) rfl c__law_signs hr hgd (sa_cons (se_pv 1) (sa_cons (se_pv 11) sa_nil))) sa_nil))))) (sss_cons (ss_set (i := 13) sc__law_right.nd (sv_l (sl_call (K := ⟨K, P, w⟩) (ps := ["draft", "strand"]) (m := m_endless_floats) rfl c_endless_floats hr hgd (sa_cons (se_pv 1) (sa_cons (se_pv 11) sa_nil))))) (sss_cons (ss_if (st_cmp (opNe rfl hr) vNe (se_reprL rfl hgd hr M.z_repr (sa_cons (se_pv 13) (sa_cons (se_callK0 (K := ⟨K, P, w⟩) (ps := ["draft", "strand"]) (m := m_endless_floats) (ks := ["strand", "draft"]) (pm := [1, 0]) rfl c_endless_floats kb_endless_floats_0_strand_draft hr hgd (sk_cons (se_pv 11) (sk_cons (se_pv 1) sk_nil))) sa_nil))) (se_cb (crRepr rfl hgd hr) vRepr M.z_repr bt_repr (sa_cons (se_sl (sl_lst (sa_cons (se_pv 12) (sa_cons (se_pv 12) sa_nil)))) sa_nil))) (sss_one (ss_ret (sv_d (sd_se se_bl)))) sss_nil) (sss_cons (ss_expr (se_append rfl (se_pv 13) (sa_cons se_non sa_nil))) (sss_cons (ss_if (st_cmp (opNe rfl hr) vNe (se_cb (crRepr rfl hgd hr) vRepr M.z_repr bt_repr (sa_cons (se_call (K := ⟨K, P, w⟩) (ps := ["draft", "strand"]) (m := m_endless_floats) rfl c_endless_floats hr hgd (sa_cons (se_pv 1) (sa_cons (se_pv 11) sa_nil))) sa_nil)) (se_cb (crRepr rfl hgd hr) vRepr M.z_repr bt_repr (sa_cons (se_pv 12) sa_nil))) (sss_one (ss_ret (sv_d (sd_se se_bl)))) sss_nil) (sss_one (ss_for PassesOwn.never rfl (si_seq rfl (sd_se (se_tup (sa_cons se_int (sa_cons se_int sa_nil))))) (sg_name (i := 14) sc__law_right.nd) (sss_cons (ss_set (i := 15) sc__law_right.nd (sv_d (sd_se (se_tup (sa_cons (se_ix (opIx rfl) vIx (se_pv 11) se_int) (sa_cons (se_pv 14) sa_nil)))))) (sss_one (ss_xput rfl hr (se_pv 10) (se_pv 15) (sd_se (se_bin (opAdd rfl) vAdd (se_xget2 rfl hr (se_pv 10) (se_pv 15) (sd_se (se_sl (sl_lst (sa_cons se_int sa_nil)))) ⟨rfl, rfl, rfl, rfl⟩) (se_sl (sl_lc [("one", 17), ("long", 18)] [17, 18] rfl sc__law_right.nd (si_seq rfl (sd_se (se_pv 12))) (by kernel_rfl) (fun _ _ _ _ _ => (sg_tup rfl rfl (sgs_cons (sg_name (i := 17) sc__law_right.nd) (sgs_cons (sg_name (i := 18) sc__law_right.nd) sgs_nil)))) (fun _ _ _ _ _ => (sts_one (st_cmp (opEq rfl hr) vEq (se_pv 17) (se_pv 14)))) (fun _ _ _ _ _ => (sd_se (se_pv 18)))))))))))))))))) (sss_cons (ss_setLc (i := 16) true [("key", 15)] [15] rfl sc__law_right.nd (si_seq rfl (sd_se (se_sl (sl_lst (sa_cons (se_tup (sa_cons se_str (sa_cons se_int sa_nil))) (sa_cons (se_tup (sa_cons se_str (sa_cons se_int sa_nil))) (sa_cons (se_tup (sa_cons se_str (sa_cons se_int sa_nil))) (sa_cons (se_tup (sa_cons se_str (sa_cons se_int sa_nil))) sa_nil)))))))) (by kernel_rfl) (fun _ _ _ _ _ => (sg_name (i := 15) sc__law_right.nd)) (fun _ _ _ _ _ => sts_nil) (fun _ _ _ _ _ => (sd_se (se_if (st_cmp (opIn rfl hr) vIn se_non (se_xget rfl hr (se_pv 10) (se_pv 15))) se_non (se_cb (crMax rfl rfl) vMax M.z_max bt_max (sa_cons (se_xget rfl hr (se_pv 10) (se_pv 15)) sa_nil))))) (sw_true rfl rfl rfl rfl)) (sss_cons (ss_if (st_cmp (opNe rfl hr) vNe (se_cb (crRepr rfl hgd hr) vRepr M.z_repr bt_repr (sa_cons (se_sl (sl_lst (sa_cons (se_call (K := ⟨K, P, w⟩) (ps := ["draft"]) (m := m_endless_longest) rfl c_endless_longest hr hgd (sa_cons (se_pv 1) sa_nil)) (sa_cons (se_callK0 (K := ⟨K, P, w⟩) (ps := ["draft"]) (m := m_endless_longest) (ks := ["draft"]) (pm := [0]) rfl c_endless_longest kb_endless_longest_0_draft hr hgd (sk_cons (se_pv 7) sk_nil)) sa_nil)))) sa_nil)) (se_cb (crRepr rfl hgd hr) vRepr M.z_repr bt_repr (sa_cons (se_bin (opMulX rfl) vMulX (se_sl (sl_lst (sa_cons (se_ct (crTuple rfl) vTuple M.z_tuple bt_tuple (sa_cons (se_pv 16) sa_nil)) sa_nil))) se_int) sa_nil))) (sss_one (ss_ret (sv_d (sd_se se_bl)))) sss_nil) (sss_one (ss_ret (sv_d (sd_se (se_cmp (opEq rfl hr) vEq (se_cb (crRepr rfl hgd hr) vRepr M.z_repr bt_repr (sa_cons (se_pv 1) sa_nil)) (se_pv 2)))))))))))))))))))⟩
theorem g_law {k : Nat} {f : Addr} {fd : FuncData} (F : Fun K "law" "law" s_law f fd) (M : Md P w K mg ka_FOUR) {f__law_right : Addr} {fd__law_right : FuncData} (c__law_right : DL.Cal P w K mg base k "_law_right" ["pot"] m__law_right f__law_right fd__law_right) {f__law_pot : Addr} {fd__law_pot : FuncData} (c__law_pot : DL.Cal P w K mg base k "_law_pot" ["script", "k"] m__law_pot f__law_pot fd__law_pot) : FnG P w K mg base (k + 1) f fd ["script"] m_law :=
  fnG_of F sc_law rfl fun cdv A outer s H hr hgd => ⟨_, (sss_cons (ss_for PassesOwn.never rfl (si_rng1 M.z_range (sa_cons (se_cb (crMax rfl rfl) vMax M.z_max bt_max (sa_cons se_int (sa_cons (se_cb (crMin rfl rfl) vMin M.z_min bt_min (sa_cons se_int (sa_cons (se_cb (crLen rfl) vLen M.z_len bt_len (sa_cons (se_pv 0) sa_nil)) sa_nil))) sa_nil))) sa_nil)) (sg_name (i := 1) sc_law.nd) (sss_cons (ss_set (i := 2) sc_law.nd (sv_l (sl_call (K := ⟨K, P, w⟩) (ps := ["script", "k"]) (m := m__law_pot) rfl c__law_pot hr hgd (sa_cons (se_pv 0) (sa_cons (se_pv 1) sa_nil))))) (sss_one (ss_if (st_not (st_val (se_cb (crAll rfl rfl) vAll M.z_all bt_all (sa_cons (se_sl (sl_lc [("turn", 3)] [3] rfl sc_law.nd (si_rng1 M.z_range (sa_cons se_int sa_nil)) (by kernel_rfl) (fun _ _ _ _ _ => (sg_name (i := 3) sc_law.nd)) (fun _ _ _ _ _ => sts_nil) (fun _ _ _ _ _ => (sd_se (se_call (K := ⟨K, P, w⟩) (ps := ["pot"]) (m := m__law_right) rfl c__law_right hr hgd (sa_cons (se_pv 2) sa_nil)))))) sa_nil)))) (sss_one (ss_ret (sv_d (sd_se se_bl)))) sss_nil)))) (sss_one (ss_ret (sv_d (sd_se se_bl)))))⟩
end
/-! ### the end -/
theorem all_mk {l : PySem.W.OpenLaw} {w : World} {K : PySem.W.Frag} {h : Heap} {mg : Str → Option Value} {fa f__law_pot f__law_draw f__law_draft f__law_times f__law_least f__law_strands f__law_over f__law_is_one f__law_round f_is_tuple f_is_headed f_is_integer f_is_within f_are_rows_of f_is_draft_value f_want_draft f_many_warps f_many_wefts f_is_strand_of f_want_strand f_round_runs f_signs_along f_endless_floats f__law_signs f_want_number f_with_rows f_times_over f_repeated f_divisors f_corner f_least_repeat f_strands_of f_cell_between f_lies_over f_below f_ways_from f_above f_ways_back f_are_held f_is_endless_one f_longest_round f_endless_longest f__law_right f_law : Addr} (X : K.In h) (G : h.Ns mainGlobals mg) (hfa : mg "law" = some (.ref fa))
    {od__law_pot an__law_pot od__law_draw an__law_draw od__law_draft an__law_draft od__law_times an__law_times od__law_least an__law_least od__law_strands an__law_strands od__law_over an__law_over od__law_is_one an__law_is_one od__law_round an__law_round od_is_tuple an_is_tuple od_is_headed an_is_headed od_is_integer an_is_integer od_is_within an_is_within od_are_rows_of an_are_rows_of od_is_draft_value an_is_draft_value od_want_draft an_want_draft od_many_warps an_many_warps od_many_wefts an_many_wefts od_is_strand_of an_is_strand_of od_want_strand an_want_strand od_round_runs an_round_runs od_signs_along an_signs_along od_endless_floats an_endless_floats od__law_signs an__law_signs od_want_number an_want_number od_with_rows an_with_rows od_times_over an_times_over od_repeated an_repeated od_divisors an_divisors od_corner an_corner od_least_repeat an_least_repeat od_strands_of an_strands_of od_cell_between an_cell_between od_lies_over an_lies_over od_below an_below od_ways_from an_ways_from od_above an_above od_ways_back an_ways_back od_are_held an_are_held od_is_endless_one an_is_endless_one od_longest_round an_longest_round od_endless_longest an_endless_longest od__law_right an__law_right od_law an_law : Option Addr} {sl__law_pot sl__law_draw sl__law_draft sl__law_times sl__law_least sl__law_strands sl__law_over sl__law_is_one sl__law_round sl_is_tuple sl_is_headed sl_is_integer sl_is_within sl_are_rows_of sl_is_draft_value sl_want_draft sl_many_warps sl_many_wefts sl_is_strand_of sl_want_strand sl_round_runs sl_signs_along sl_endless_floats sl__law_signs sl_want_number sl_with_rows sl_times_over sl_repeated sl_divisors sl_corner sl_least_repeat sl_strands_of sl_cell_between sl_lies_over sl_below sl_ways_from sl_above sl_ways_back sl_are_held sl_is_endless_one sl_longest_round sl_endless_longest sl__law_right sl_law : Array (Option Value)} {oc__law_pot kV__law_pot dc__law_pot pm__law_pot cd__law_pot ct__law_pot oc__law_draw kV__law_draw dc__law_draw pm__law_draw cd__law_draw ct__law_draw oc__law_draft kV__law_draft dc__law_draft pm__law_draft cd__law_draft ct__law_draft oc__law_times kV__law_times dc__law_times pm__law_times cd__law_times ct__law_times oc__law_least kV__law_least dc__law_least pm__law_least cd__law_least ct__law_least oc__law_strands kV__law_strands dc__law_strands pm__law_strands cd__law_strands ct__law_strands oc__law_over kV__law_over dc__law_over pm__law_over cd__law_over ct__law_over oc__law_is_one kV__law_is_one dc__law_is_one pm__law_is_one cd__law_is_one ct__law_is_one oc__law_round kV__law_round dc__law_round pm__law_round cd__law_round ct__law_round oc_is_tuple kV_is_tuple dc_is_tuple pm_is_tuple cd_is_tuple ct_is_tuple oc_is_headed kV_is_headed dc_is_headed pm_is_headed cd_is_headed ct_is_headed oc_is_integer kV_is_integer dc_is_integer pm_is_integer cd_is_integer ct_is_integer oc_is_within kV_is_within dc_is_within pm_is_within cd_is_within ct_is_within oc_are_rows_of kV_are_rows_of dc_are_rows_of pm_are_rows_of cd_are_rows_of ct_are_rows_of oc_is_draft_value kV_is_draft_value dc_is_draft_value pm_is_draft_value cd_is_draft_value ct_is_draft_value oc_want_draft kV_want_draft dc_want_draft pm_want_draft cd_want_draft ct_want_draft oc_many_warps kV_many_warps dc_many_warps pm_many_warps cd_many_warps ct_many_warps oc_many_wefts kV_many_wefts dc_many_wefts pm_many_wefts cd_many_wefts ct_many_wefts oc_is_strand_of kV_is_strand_of dc_is_strand_of pm_is_strand_of cd_is_strand_of ct_is_strand_of oc_want_strand kV_want_strand dc_want_strand pm_want_strand cd_want_strand ct_want_strand oc_round_runs kV_round_runs dc_round_runs pm_round_runs cd_round_runs ct_round_runs oc_signs_along kV_signs_along dc_signs_along pm_signs_along cd_signs_along ct_signs_along oc_endless_floats kV_endless_floats dc_endless_floats pm_endless_floats cd_endless_floats ct_endless_floats oc__law_signs kV__law_signs dc__law_signs pm__law_signs cd__law_signs ct__law_signs oc_want_number kV_want_number dc_want_number pm_want_number cd_want_number ct_want_number oc_with_rows kV_with_rows dc_with_rows pm_with_rows cd_with_rows ct_with_rows oc_times_over kV_times_over dc_times_over pm_times_over cd_times_over ct_times_over oc_repeated kV_repeated dc_repeated pm_repeated cd_repeated ct_repeated oc_divisors kV_divisors dc_divisors pm_divisors cd_divisors ct_divisors oc_corner kV_corner dc_corner pm_corner cd_corner ct_corner oc_least_repeat kV_least_repeat dc_least_repeat pm_least_repeat cd_least_repeat ct_least_repeat oc_strands_of kV_strands_of dc_strands_of pm_strands_of cd_strands_of ct_strands_of oc_cell_between kV_cell_between dc_cell_between pm_cell_between cd_cell_between ct_cell_between oc_lies_over kV_lies_over dc_lies_over pm_lies_over cd_lies_over ct_lies_over oc_below kV_below dc_below pm_below cd_below ct_below oc_ways_from kV_ways_from dc_ways_from pm_ways_from cd_ways_from ct_ways_from oc_above kV_above dc_above pm_above cd_above ct_above oc_ways_back kV_ways_back dc_ways_back pm_ways_back cd_ways_back ct_ways_back oc_are_held kV_are_held dc_are_held pm_are_held cd_are_held ct_are_held oc_is_endless_one kV_is_endless_one dc_is_endless_one pm_is_endless_one cd_is_endless_one ct_is_endless_one oc_longest_round kV_longest_round dc_longest_round pm_longest_round cd_longest_round ct_longest_round oc_endless_longest kV_endless_longest dc_endless_longest pm_endless_longest cd_endless_longest ct_endless_longest oc__law_right kV__law_right dc__law_right pm__law_right cd__law_right ct__law_right oc_law kV_law dc_law pm_law cd_law ct_law : Value} {t_MOST t_WARP t_WEFT : Tok} {t_FOUR_2 : Tok} {t_FOUR_3 : Tok} {a_FOUR_1 : Addr} {od_FOUR_1 : Option Addr} {n_FOUR_1 : Nat} {sl_FOUR_1 : Array (Option Value)} {t_FOUR_5 : Tok} {t_FOUR_6 : Tok} {a_FOUR_4 : Addr} {od_FOUR_4 : Option Addr} {n_FOUR_4 : Nat} {sl_FOUR_4 : Array (Option Value)} {t_FOUR_8 : Tok} {t_FOUR_9 : Tok} {a_FOUR_7 : Addr} {od_FOUR_7 : Option Addr} {n_FOUR_7 : Nat} {sl_FOUR_7 : Array (Option Value)} {t_FOUR_11 : Tok} {t_FOUR_12 : Tok} {a_FOUR_10 : Addr} {od_FOUR_10 : Option Addr} {n_FOUR_10 : Nat} {sl_FOUR_10 : Array (Option Value)} {a_FOUR_0 : Addr} {od_FOUR_0 : Option Addr} {n_FOUR_0 : Nat} {sl_FOUR_0 : Array (Option Value)}
    (a__law_pot : PySem.W.nsIn K mainGlobals "_law_pot" = some (some (.ref f__law_pot))) (l__law_pot : K.lookup f__law_pot = some ⟨oc__law_pot, od__law_pot, .func (PySem.W.fnOf "_law_pot" "_law_pot" (defArgs s__law_pot) (defBody s__law_pot) (defScope s__law_pot) .none kV__law_pot dc__law_pot pm__law_pot an__law_pot cd__law_pot ct__law_pot), sl__law_pot⟩) (d__law_pot : PySem.W.codeIn K cd__law_pot "_law_pot" = true) (k__law_pot : PySem.W.keepIn K (.ref f__law_pot) = true)
    (a__law_draw : PySem.W.nsIn K mainGlobals "_law_draw" = some (some (.ref f__law_draw))) (l__law_draw : K.lookup f__law_draw = some ⟨oc__law_draw, od__law_draw, .func (PySem.W.fnOf "_law_draw" "_law_draw" (defArgs s__law_draw) (defBody s__law_draw) (defScope s__law_draw) .none kV__law_draw dc__law_draw pm__law_draw an__law_draw cd__law_draw ct__law_draw), sl__law_draw⟩) (d__law_draw : PySem.W.codeIn K cd__law_draw "_law_draw" = true) (k__law_draw : PySem.W.keepIn K (.ref f__law_draw) = true)
    (a__law_draft : PySem.W.nsIn K mainGlobals "_law_draft" = some (some (.ref f__law_draft))) (l__law_draft : K.lookup f__law_draft = some ⟨oc__law_draft, od__law_draft, .func (PySem.W.fnOf "_law_draft" "_law_draft" (defArgs s__law_draft) (defBody s__law_draft) (defScope s__law_draft) .none kV__law_draft dc__law_draft pm__law_draft an__law_draft cd__law_draft ct__law_draft), sl__law_draft⟩) (d__law_draft : PySem.W.codeIn K cd__law_draft "_law_draft" = true) (k__law_draft : PySem.W.keepIn K (.ref f__law_draft) = true)
    (a__law_times : PySem.W.nsIn K mainGlobals "_law_times" = some (some (.ref f__law_times))) (l__law_times : K.lookup f__law_times = some ⟨oc__law_times, od__law_times, .func (PySem.W.fnOf "_law_times" "_law_times" (defArgs s__law_times) (defBody s__law_times) (defScope s__law_times) .none kV__law_times dc__law_times pm__law_times an__law_times cd__law_times ct__law_times), sl__law_times⟩) (d__law_times : PySem.W.codeIn K cd__law_times "_law_times" = true) (k__law_times : PySem.W.keepIn K (.ref f__law_times) = true)
    (a__law_least : PySem.W.nsIn K mainGlobals "_law_least" = some (some (.ref f__law_least))) (l__law_least : K.lookup f__law_least = some ⟨oc__law_least, od__law_least, .func (PySem.W.fnOf "_law_least" "_law_least" (defArgs s__law_least) (defBody s__law_least) (defScope s__law_least) .none kV__law_least dc__law_least pm__law_least an__law_least cd__law_least ct__law_least), sl__law_least⟩) (d__law_least : PySem.W.codeIn K cd__law_least "_law_least" = true) (k__law_least : PySem.W.keepIn K (.ref f__law_least) = true)
    (a__law_strands : PySem.W.nsIn K mainGlobals "_law_strands" = some (some (.ref f__law_strands))) (l__law_strands : K.lookup f__law_strands = some ⟨oc__law_strands, od__law_strands, .func (PySem.W.fnOf "_law_strands" "_law_strands" (defArgs s__law_strands) (defBody s__law_strands) (defScope s__law_strands) .none kV__law_strands dc__law_strands pm__law_strands an__law_strands cd__law_strands ct__law_strands), sl__law_strands⟩) (d__law_strands : PySem.W.codeIn K cd__law_strands "_law_strands" = true) (k__law_strands : PySem.W.keepIn K (.ref f__law_strands) = true)
    (a__law_over : PySem.W.nsIn K mainGlobals "_law_over" = some (some (.ref f__law_over))) (l__law_over : K.lookup f__law_over = some ⟨oc__law_over, od__law_over, .func (PySem.W.fnOf "_law_over" "_law_over" (defArgs s__law_over) (defBody s__law_over) (defScope s__law_over) .none kV__law_over dc__law_over pm__law_over an__law_over cd__law_over ct__law_over), sl__law_over⟩) (d__law_over : PySem.W.codeIn K cd__law_over "_law_over" = true) (k__law_over : PySem.W.keepIn K (.ref f__law_over) = true)
    (a__law_is_one : PySem.W.nsIn K mainGlobals "_law_is_one" = some (some (.ref f__law_is_one))) (l__law_is_one : K.lookup f__law_is_one = some ⟨oc__law_is_one, od__law_is_one, .func (PySem.W.fnOf "_law_is_one" "_law_is_one" (defArgs s__law_is_one) (defBody s__law_is_one) (defScope s__law_is_one) .none kV__law_is_one dc__law_is_one pm__law_is_one an__law_is_one cd__law_is_one ct__law_is_one), sl__law_is_one⟩) (d__law_is_one : PySem.W.codeIn K cd__law_is_one "_law_is_one" = true) (k__law_is_one : PySem.W.keepIn K (.ref f__law_is_one) = true)
    (a__law_round : PySem.W.nsIn K mainGlobals "_law_round" = some (some (.ref f__law_round))) (l__law_round : K.lookup f__law_round = some ⟨oc__law_round, od__law_round, .func (PySem.W.fnOf "_law_round" "_law_round" (defArgs s__law_round) (defBody s__law_round) (defScope s__law_round) .none kV__law_round dc__law_round pm__law_round an__law_round cd__law_round ct__law_round), sl__law_round⟩) (d__law_round : PySem.W.codeIn K cd__law_round "_law_round" = true) (k__law_round : PySem.W.keepIn K (.ref f__law_round) = true)
    (a_is_tuple : PySem.W.nsIn K mainGlobals "is_tuple" = some (some (.ref f_is_tuple))) (l_is_tuple : K.lookup f_is_tuple = some ⟨oc_is_tuple, od_is_tuple, .func (PySem.W.fnOf "is_tuple" "is_tuple" (defArgs s_is_tuple) (defBody s_is_tuple) (defScope s_is_tuple) .none kV_is_tuple dc_is_tuple pm_is_tuple an_is_tuple cd_is_tuple ct_is_tuple), sl_is_tuple⟩) (d_is_tuple : PySem.W.codeIn K cd_is_tuple "is_tuple" = true) (k_is_tuple : PySem.W.keepIn K (.ref f_is_tuple) = true)
    (a_is_headed : PySem.W.nsIn K mainGlobals "is_headed" = some (some (.ref f_is_headed))) (l_is_headed : K.lookup f_is_headed = some ⟨oc_is_headed, od_is_headed, .func (PySem.W.fnOf "is_headed" "is_headed" (defArgs s_is_headed) (defBody s_is_headed) (defScope s_is_headed) .none kV_is_headed dc_is_headed pm_is_headed an_is_headed cd_is_headed ct_is_headed), sl_is_headed⟩) (d_is_headed : PySem.W.codeIn K cd_is_headed "is_headed" = true) (k_is_headed : PySem.W.keepIn K (.ref f_is_headed) = true)
    (a_is_integer : PySem.W.nsIn K mainGlobals "is_integer" = some (some (.ref f_is_integer))) (l_is_integer : K.lookup f_is_integer = some ⟨oc_is_integer, od_is_integer, .func (PySem.W.fnOf "is_integer" "is_integer" (defArgs s_is_integer) (defBody s_is_integer) (defScope s_is_integer) .none kV_is_integer dc_is_integer pm_is_integer an_is_integer cd_is_integer ct_is_integer), sl_is_integer⟩) (d_is_integer : PySem.W.codeIn K cd_is_integer "is_integer" = true) (k_is_integer : PySem.W.keepIn K (.ref f_is_integer) = true)
    (a_is_within : PySem.W.nsIn K mainGlobals "is_within" = some (some (.ref f_is_within))) (l_is_within : K.lookup f_is_within = some ⟨oc_is_within, od_is_within, .func (PySem.W.fnOf "is_within" "is_within" (defArgs s_is_within) (defBody s_is_within) (defScope s_is_within) .none kV_is_within dc_is_within pm_is_within an_is_within cd_is_within ct_is_within), sl_is_within⟩) (d_is_within : PySem.W.codeIn K cd_is_within "is_within" = true) (k_is_within : PySem.W.keepIn K (.ref f_is_within) = true)
    (a_are_rows_of : PySem.W.nsIn K mainGlobals "are_rows_of" = some (some (.ref f_are_rows_of))) (l_are_rows_of : K.lookup f_are_rows_of = some ⟨oc_are_rows_of, od_are_rows_of, .func (PySem.W.fnOf "are_rows_of" "are_rows_of" (defArgs s_are_rows_of) (defBody s_are_rows_of) (defScope s_are_rows_of) .none kV_are_rows_of dc_are_rows_of pm_are_rows_of an_are_rows_of cd_are_rows_of ct_are_rows_of), sl_are_rows_of⟩) (d_are_rows_of : PySem.W.codeIn K cd_are_rows_of "are_rows_of" = true) (k_are_rows_of : PySem.W.keepIn K (.ref f_are_rows_of) = true)
    (a_is_draft_value : PySem.W.nsIn K mainGlobals "is_draft_value" = some (some (.ref f_is_draft_value))) (l_is_draft_value : K.lookup f_is_draft_value = some ⟨oc_is_draft_value, od_is_draft_value, .func (PySem.W.fnOf "is_draft_value" "is_draft_value" (defArgs s_is_draft_value) (defBody s_is_draft_value) (defScope s_is_draft_value) .none kV_is_draft_value dc_is_draft_value pm_is_draft_value an_is_draft_value cd_is_draft_value ct_is_draft_value), sl_is_draft_value⟩) (d_is_draft_value : PySem.W.codeIn K cd_is_draft_value "is_draft_value" = true) (k_is_draft_value : PySem.W.keepIn K (.ref f_is_draft_value) = true)
    (a_want_draft : PySem.W.nsIn K mainGlobals "want_draft" = some (some (.ref f_want_draft))) (l_want_draft : K.lookup f_want_draft = some ⟨oc_want_draft, od_want_draft, .func (PySem.W.fnOf "want_draft" "want_draft" (defArgs s_want_draft) (defBody s_want_draft) (defScope s_want_draft) .none kV_want_draft dc_want_draft pm_want_draft an_want_draft cd_want_draft ct_want_draft), sl_want_draft⟩) (d_want_draft : PySem.W.codeIn K cd_want_draft "want_draft" = true) (k_want_draft : PySem.W.keepIn K (.ref f_want_draft) = true)
    (a_many_warps : PySem.W.nsIn K mainGlobals "many_warps" = some (some (.ref f_many_warps))) (l_many_warps : K.lookup f_many_warps = some ⟨oc_many_warps, od_many_warps, .func (PySem.W.fnOf "many_warps" "many_warps" (defArgs s_many_warps) (defBody s_many_warps) (defScope s_many_warps) .none kV_many_warps dc_many_warps pm_many_warps an_many_warps cd_many_warps ct_many_warps), sl_many_warps⟩) (d_many_warps : PySem.W.codeIn K cd_many_warps "many_warps" = true) (k_many_warps : PySem.W.keepIn K (.ref f_many_warps) = true)
    (a_many_wefts : PySem.W.nsIn K mainGlobals "many_wefts" = some (some (.ref f_many_wefts))) (l_many_wefts : K.lookup f_many_wefts = some ⟨oc_many_wefts, od_many_wefts, .func (PySem.W.fnOf "many_wefts" "many_wefts" (defArgs s_many_wefts) (defBody s_many_wefts) (defScope s_many_wefts) .none kV_many_wefts dc_many_wefts pm_many_wefts an_many_wefts cd_many_wefts ct_many_wefts), sl_many_wefts⟩) (d_many_wefts : PySem.W.codeIn K cd_many_wefts "many_wefts" = true) (k_many_wefts : PySem.W.keepIn K (.ref f_many_wefts) = true)
    (a_is_strand_of : PySem.W.nsIn K mainGlobals "is_strand_of" = some (some (.ref f_is_strand_of))) (l_is_strand_of : K.lookup f_is_strand_of = some ⟨oc_is_strand_of, od_is_strand_of, .func (PySem.W.fnOf "is_strand_of" "is_strand_of" (defArgs s_is_strand_of) (defBody s_is_strand_of) (defScope s_is_strand_of) .none kV_is_strand_of dc_is_strand_of pm_is_strand_of an_is_strand_of cd_is_strand_of ct_is_strand_of), sl_is_strand_of⟩) (d_is_strand_of : PySem.W.codeIn K cd_is_strand_of "is_strand_of" = true) (k_is_strand_of : PySem.W.keepIn K (.ref f_is_strand_of) = true)
    (a_want_strand : PySem.W.nsIn K mainGlobals "want_strand" = some (some (.ref f_want_strand))) (l_want_strand : K.lookup f_want_strand = some ⟨oc_want_strand, od_want_strand, .func (PySem.W.fnOf "want_strand" "want_strand" (defArgs s_want_strand) (defBody s_want_strand) (defScope s_want_strand) .none kV_want_strand dc_want_strand pm_want_strand an_want_strand cd_want_strand ct_want_strand), sl_want_strand⟩) (d_want_strand : PySem.W.codeIn K cd_want_strand "want_strand" = true) (k_want_strand : PySem.W.keepIn K (.ref f_want_strand) = true)
    (a_round_runs : PySem.W.nsIn K mainGlobals "round_runs" = some (some (.ref f_round_runs))) (l_round_runs : K.lookup f_round_runs = some ⟨oc_round_runs, od_round_runs, .func (PySem.W.fnOf "round_runs" "round_runs" (defArgs s_round_runs) (defBody s_round_runs) (defScope s_round_runs) .none kV_round_runs dc_round_runs pm_round_runs an_round_runs cd_round_runs ct_round_runs), sl_round_runs⟩) (d_round_runs : PySem.W.codeIn K cd_round_runs "round_runs" = true) (k_round_runs : PySem.W.keepIn K (.ref f_round_runs) = true)
    (a_signs_along : PySem.W.nsIn K mainGlobals "signs_along" = some (some (.ref f_signs_along))) (l_signs_along : K.lookup f_signs_along = some ⟨oc_signs_along, od_signs_along, .func (PySem.W.fnOf "signs_along" "signs_along" (defArgs s_signs_along) (defBody s_signs_along) (defScope s_signs_along) .none kV_signs_along dc_signs_along pm_signs_along an_signs_along cd_signs_along ct_signs_along), sl_signs_along⟩) (d_signs_along : PySem.W.codeIn K cd_signs_along "signs_along" = true) (k_signs_along : PySem.W.keepIn K (.ref f_signs_along) = true)
    (a_endless_floats : PySem.W.nsIn K mainGlobals "endless_floats" = some (some (.ref f_endless_floats))) (l_endless_floats : K.lookup f_endless_floats = some ⟨oc_endless_floats, od_endless_floats, .func (PySem.W.fnOf "endless_floats" "endless_floats" (defArgs s_endless_floats) (defBody s_endless_floats) (defScope s_endless_floats) .none kV_endless_floats dc_endless_floats pm_endless_floats an_endless_floats cd_endless_floats ct_endless_floats), sl_endless_floats⟩) (d_endless_floats : PySem.W.codeIn K cd_endless_floats "endless_floats" = true) (k_endless_floats : PySem.W.keepIn K (.ref f_endless_floats) = true)
    (a__law_signs : PySem.W.nsIn K mainGlobals "_law_signs" = some (some (.ref f__law_signs))) (l__law_signs : K.lookup f__law_signs = some ⟨oc__law_signs, od__law_signs, .func (PySem.W.fnOf "_law_signs" "_law_signs" (defArgs s__law_signs) (defBody s__law_signs) (defScope s__law_signs) .none kV__law_signs dc__law_signs pm__law_signs an__law_signs cd__law_signs ct__law_signs), sl__law_signs⟩) (d__law_signs : PySem.W.codeIn K cd__law_signs "_law_signs" = true) (k__law_signs : PySem.W.keepIn K (.ref f__law_signs) = true)
    (a_want_number : PySem.W.nsIn K mainGlobals "want_number" = some (some (.ref f_want_number))) (l_want_number : K.lookup f_want_number = some ⟨oc_want_number, od_want_number, .func (PySem.W.fnOf "want_number" "want_number" (defArgs s_want_number) (defBody s_want_number) (defScope s_want_number) .none kV_want_number dc_want_number pm_want_number an_want_number cd_want_number ct_want_number), sl_want_number⟩) (d_want_number : PySem.W.codeIn K cd_want_number "want_number" = true) (k_want_number : PySem.W.keepIn K (.ref f_want_number) = true)
    (a_with_rows : PySem.W.nsIn K mainGlobals "with_rows" = some (some (.ref f_with_rows))) (l_with_rows : K.lookup f_with_rows = some ⟨oc_with_rows, od_with_rows, .func (PySem.W.fnOf "with_rows" "with_rows" (defArgs s_with_rows) (defBody s_with_rows) (defScope s_with_rows) .none kV_with_rows dc_with_rows pm_with_rows an_with_rows cd_with_rows ct_with_rows), sl_with_rows⟩) (d_with_rows : PySem.W.codeIn K cd_with_rows "with_rows" = true) (k_with_rows : PySem.W.keepIn K (.ref f_with_rows) = true)
    (a_times_over : PySem.W.nsIn K mainGlobals "times_over" = some (some (.ref f_times_over))) (l_times_over : K.lookup f_times_over = some ⟨oc_times_over, od_times_over, .func (PySem.W.fnOf "times_over" "times_over" (defArgs s_times_over) (defBody s_times_over) (defScope s_times_over) .none kV_times_over dc_times_over pm_times_over an_times_over cd_times_over ct_times_over), sl_times_over⟩) (d_times_over : PySem.W.codeIn K cd_times_over "times_over" = true) (k_times_over : PySem.W.keepIn K (.ref f_times_over) = true)
    (a_repeated : PySem.W.nsIn K mainGlobals "repeated" = some (some (.ref f_repeated))) (l_repeated : K.lookup f_repeated = some ⟨oc_repeated, od_repeated, .func (PySem.W.fnOf "repeated" "repeated" (defArgs s_repeated) (defBody s_repeated) (defScope s_repeated) .none kV_repeated dc_repeated pm_repeated an_repeated cd_repeated ct_repeated), sl_repeated⟩) (d_repeated : PySem.W.codeIn K cd_repeated "repeated" = true) (k_repeated : PySem.W.keepIn K (.ref f_repeated) = true)
    (a_divisors : PySem.W.nsIn K mainGlobals "divisors" = some (some (.ref f_divisors))) (l_divisors : K.lookup f_divisors = some ⟨oc_divisors, od_divisors, .func (PySem.W.fnOf "divisors" "divisors" (defArgs s_divisors) (defBody s_divisors) (defScope s_divisors) .none kV_divisors dc_divisors pm_divisors an_divisors cd_divisors ct_divisors), sl_divisors⟩) (d_divisors : PySem.W.codeIn K cd_divisors "divisors" = true) (k_divisors : PySem.W.keepIn K (.ref f_divisors) = true)
    (a_corner : PySem.W.nsIn K mainGlobals "corner" = some (some (.ref f_corner))) (l_corner : K.lookup f_corner = some ⟨oc_corner, od_corner, .func (PySem.W.fnOf "corner" "corner" (defArgs s_corner) (defBody s_corner) (defScope s_corner) .none kV_corner dc_corner pm_corner an_corner cd_corner ct_corner), sl_corner⟩) (d_corner : PySem.W.codeIn K cd_corner "corner" = true) (k_corner : PySem.W.keepIn K (.ref f_corner) = true)
    (a_least_repeat : PySem.W.nsIn K mainGlobals "least_repeat" = some (some (.ref f_least_repeat))) (l_least_repeat : K.lookup f_least_repeat = some ⟨oc_least_repeat, od_least_repeat, .func (PySem.W.fnOf "least_repeat" "least_repeat" (defArgs s_least_repeat) (defBody s_least_repeat) (defScope s_least_repeat) .none kV_least_repeat dc_least_repeat pm_least_repeat an_least_repeat cd_least_repeat ct_least_repeat), sl_least_repeat⟩) (d_least_repeat : PySem.W.codeIn K cd_least_repeat "least_repeat" = true) (k_least_repeat : PySem.W.keepIn K (.ref f_least_repeat) = true)
    (a_strands_of : PySem.W.nsIn K mainGlobals "strands_of" = some (some (.ref f_strands_of))) (l_strands_of : K.lookup f_strands_of = some ⟨oc_strands_of, od_strands_of, .func (PySem.W.fnOf "strands_of" "strands_of" (defArgs s_strands_of) (defBody s_strands_of) (defScope s_strands_of) .none kV_strands_of dc_strands_of pm_strands_of an_strands_of cd_strands_of ct_strands_of), sl_strands_of⟩) (d_strands_of : PySem.W.codeIn K cd_strands_of "strands_of" = true) (k_strands_of : PySem.W.keepIn K (.ref f_strands_of) = true)
    (a_cell_between : PySem.W.nsIn K mainGlobals "cell_between" = some (some (.ref f_cell_between))) (l_cell_between : K.lookup f_cell_between = some ⟨oc_cell_between, od_cell_between, .func (PySem.W.fnOf "cell_between" "cell_between" (defArgs s_cell_between) (defBody s_cell_between) (defScope s_cell_between) .none kV_cell_between dc_cell_between pm_cell_between an_cell_between cd_cell_between ct_cell_between), sl_cell_between⟩) (d_cell_between : PySem.W.codeIn K cd_cell_between "cell_between" = true) (k_cell_between : PySem.W.keepIn K (.ref f_cell_between) = true)
    (a_lies_over : PySem.W.nsIn K mainGlobals "lies_over" = some (some (.ref f_lies_over))) (l_lies_over : K.lookup f_lies_over = some ⟨oc_lies_over, od_lies_over, .func (PySem.W.fnOf "lies_over" "lies_over" (defArgs s_lies_over) (defBody s_lies_over) (defScope s_lies_over) .none kV_lies_over dc_lies_over pm_lies_over an_lies_over cd_lies_over ct_lies_over), sl_lies_over⟩) (d_lies_over : PySem.W.codeIn K cd_lies_over "lies_over" = true) (k_lies_over : PySem.W.keepIn K (.ref f_lies_over) = true)
    (a_below : PySem.W.nsIn K mainGlobals "below" = some (some (.ref f_below))) (l_below : K.lookup f_below = some ⟨oc_below, od_below, .func (PySem.W.fnOf "below" "below" (defArgs s_below) (defBody s_below) (defScope s_below) .none kV_below dc_below pm_below an_below cd_below ct_below), sl_below⟩) (d_below : PySem.W.codeIn K cd_below "below" = true) (k_below : PySem.W.keepIn K (.ref f_below) = true)
    (a_ways_from : PySem.W.nsIn K mainGlobals "ways_from" = some (some (.ref f_ways_from))) (l_ways_from : K.lookup f_ways_from = some ⟨oc_ways_from, od_ways_from, .func (PySem.W.fnOf "ways_from" "ways_from" (defArgs s_ways_from) (defBody s_ways_from) (defScope s_ways_from) .none kV_ways_from dc_ways_from pm_ways_from an_ways_from cd_ways_from ct_ways_from), sl_ways_from⟩) (d_ways_from : PySem.W.codeIn K cd_ways_from "ways_from" = true) (k_ways_from : PySem.W.keepIn K (.ref f_ways_from) = true)
    (a_above : PySem.W.nsIn K mainGlobals "above" = some (some (.ref f_above))) (l_above : K.lookup f_above = some ⟨oc_above, od_above, .func (PySem.W.fnOf "above" "above" (defArgs s_above) (defBody s_above) (defScope s_above) .none kV_above dc_above pm_above an_above cd_above ct_above), sl_above⟩) (d_above : PySem.W.codeIn K cd_above "above" = true) (k_above : PySem.W.keepIn K (.ref f_above) = true)
    (a_ways_back : PySem.W.nsIn K mainGlobals "ways_back" = some (some (.ref f_ways_back))) (l_ways_back : K.lookup f_ways_back = some ⟨oc_ways_back, od_ways_back, .func (PySem.W.fnOf "ways_back" "ways_back" (defArgs s_ways_back) (defBody s_ways_back) (defScope s_ways_back) .none kV_ways_back dc_ways_back pm_ways_back an_ways_back cd_ways_back ct_ways_back), sl_ways_back⟩) (d_ways_back : PySem.W.codeIn K cd_ways_back "ways_back" = true) (k_ways_back : PySem.W.keepIn K (.ref f_ways_back) = true)
    (a_are_held : PySem.W.nsIn K mainGlobals "are_held" = some (some (.ref f_are_held))) (l_are_held : K.lookup f_are_held = some ⟨oc_are_held, od_are_held, .func (PySem.W.fnOf "are_held" "are_held" (defArgs s_are_held) (defBody s_are_held) (defScope s_are_held) .none kV_are_held dc_are_held pm_are_held an_are_held cd_are_held ct_are_held), sl_are_held⟩) (d_are_held : PySem.W.codeIn K cd_are_held "are_held" = true) (k_are_held : PySem.W.keepIn K (.ref f_are_held) = true)
    (a_is_endless_one : PySem.W.nsIn K mainGlobals "is_endless_one" = some (some (.ref f_is_endless_one))) (l_is_endless_one : K.lookup f_is_endless_one = some ⟨oc_is_endless_one, od_is_endless_one, .func (PySem.W.fnOf "is_endless_one" "is_endless_one" (defArgs s_is_endless_one) (defBody s_is_endless_one) (defScope s_is_endless_one) .none kV_is_endless_one dc_is_endless_one pm_is_endless_one an_is_endless_one cd_is_endless_one ct_is_endless_one), sl_is_endless_one⟩) (d_is_endless_one : PySem.W.codeIn K cd_is_endless_one "is_endless_one" = true) (k_is_endless_one : PySem.W.keepIn K (.ref f_is_endless_one) = true)
    (a_longest_round : PySem.W.nsIn K mainGlobals "longest_round" = some (some (.ref f_longest_round))) (l_longest_round : K.lookup f_longest_round = some ⟨oc_longest_round, od_longest_round, .func (PySem.W.fnOf "longest_round" "longest_round" (defArgs s_longest_round) (defBody s_longest_round) (defScope s_longest_round) .none kV_longest_round dc_longest_round pm_longest_round an_longest_round cd_longest_round ct_longest_round), sl_longest_round⟩) (d_longest_round : PySem.W.codeIn K cd_longest_round "longest_round" = true) (k_longest_round : PySem.W.keepIn K (.ref f_longest_round) = true)
    (a_endless_longest : PySem.W.nsIn K mainGlobals "endless_longest" = some (some (.ref f_endless_longest))) (l_endless_longest : K.lookup f_endless_longest = some ⟨oc_endless_longest, od_endless_longest, .func (PySem.W.fnOf "endless_longest" "endless_longest" (defArgs s_endless_longest) (defBody s_endless_longest) (defScope s_endless_longest) .none kV_endless_longest dc_endless_longest pm_endless_longest an_endless_longest cd_endless_longest ct_endless_longest), sl_endless_longest⟩) (d_endless_longest : PySem.W.codeIn K cd_endless_longest "endless_longest" = true) (k_endless_longest : PySem.W.keepIn K (.ref f_endless_longest) = true)
    (a__law_right : PySem.W.nsIn K mainGlobals "_law_right" = some (some (.ref f__law_right))) (l__law_right : K.lookup f__law_right = some ⟨oc__law_right, od__law_right, .func (PySem.W.fnOf "_law_right" "_law_right" (defArgs s__law_right) (defBody s__law_right) (defScope s__law_right) .none kV__law_right dc__law_right pm__law_right an__law_right cd__law_right ct__law_right), sl__law_right⟩) (d__law_right : PySem.W.codeIn K cd__law_right "_law_right" = true) (k__law_right : PySem.W.keepIn K (.ref f__law_right) = true)
    (a_law : PySem.W.nsIn K mainGlobals "law" = some (some (.ref f_law))) (l_law : K.lookup f_law = some ⟨oc_law, od_law, .func (PySem.W.fnOf "law" "law" (defArgs s_law) (defBody s_law) (defScope s_law) .none kV_law dc_law pm_law an_law cd_law ct_law), sl_law⟩) (d_law : PySem.W.codeIn K cd_law "law" = true) (k_law : PySem.W.keepIn K (.ref f_law) = true)
    (z_abs : PySem.W.nsIn K mainGlobals "abs" = some none)
    (z_all : PySem.W.nsIn K mainGlobals "all" = some none)
    (z_any : PySem.W.nsIn K mainGlobals "any" = some none)
    (z_bool : PySem.W.nsIn K mainGlobals "bool" = some none)
    (z_divmod : PySem.W.nsIn K mainGlobals "divmod" = some none)
    (z_int : PySem.W.nsIn K mainGlobals "int" = some none)
    (z_isinstance : PySem.W.nsIn K mainGlobals "isinstance" = some none)
    (z_len : PySem.W.nsIn K mainGlobals "len" = some none)
    (z_max : PySem.W.nsIn K mainGlobals "max" = some none)
    (z_min : PySem.W.nsIn K mainGlobals "min" = some none)
    (z_range : PySem.W.nsIn K mainGlobals "range" = some none)
    (z_repr : PySem.W.nsIn K mainGlobals "repr" = some none)
    (z_set : PySem.W.nsIn K mainGlobals "set" = some none)
    (z_sorted : PySem.W.nsIn K mainGlobals "sorted" = some none)
    (z_str : PySem.W.nsIn K mainGlobals "str" = some none)
    (z_tuple : PySem.W.nsIn K mainGlobals "tuple" = some none)
    (q_FOUR : PySem.W.nsIn K mainGlobals "FOUR" = some (some (.ref a_FOUR_0)))
    (u_FOUR_0 : K.lookup a_FOUR_0 = some ⟨.type "tuple", od_FOUR_0, .seq #[(.ref a_FOUR_1), (.ref a_FOUR_4), (.ref a_FOUR_7), (.ref a_FOUR_10)] n_FOUR_0, sl_FOUR_0⟩)
    (u_FOUR_10 : K.lookup a_FOUR_10 = some ⟨.type "tuple", od_FOUR_10, .seq #[(.str "weft" t_FOUR_11), (.int 0 t_FOUR_12)] n_FOUR_10, sl_FOUR_10⟩)
    (u_FOUR_7 : K.lookup a_FOUR_7 = some ⟨.type "tuple", od_FOUR_7, .seq #[(.str "weft" t_FOUR_8), (.int 1 t_FOUR_9)] n_FOUR_7, sl_FOUR_7⟩)
    (u_FOUR_4 : K.lookup a_FOUR_4 = some ⟨.type "tuple", od_FOUR_4, .seq #[(.str "warp" t_FOUR_5), (.int 0 t_FOUR_6)] n_FOUR_4, sl_FOUR_4⟩)
    (u_FOUR_1 : K.lookup a_FOUR_1 = some ⟨.type "tuple", od_FOUR_1, .seq #[(.str "warp" t_FOUR_2), (.int 1 t_FOUR_3)] n_FOUR_1, sl_FOUR_1⟩)
    (q_MOST : PySem.W.nsIn K mainGlobals "MOST" = some (some (.int 12 t_MOST)))
    (q_WARP : PySem.W.nsIn K mainGlobals "WARP" = some (some (.str "warp" t_WARP)))
    (q_WEFT : PySem.W.nsIn K mainGlobals "WEFT" = some (some (.str "weft" t_WEFT)))
    : ∃ fd : FuncData, (∀ (s : Shared) (v : Value), BindsTo s fd ⟨[v], []⟩ [("script", v)]) ∧ ∀ base : Heap, K.In base → base.Ns mainGlobals mg → FnG l.prog w K mg base 8 fa fd ["script"] m_law := by
  have e := hfa.symm.trans (PySem.W.mg_of X G a_law)
  cases e
  have M : Md l.prog w K mg a_FOUR_0 := ⟨PySem.W.mg_none_of X G z_abs, PySem.W.mg_none_of X G z_all, PySem.W.mg_none_of X G z_any, PySem.W.mg_none_of X G z_bool, PySem.W.mg_none_of X G z_divmod, PySem.W.mg_none_of X G z_int, PySem.W.mg_none_of X G z_isinstance, PySem.W.mg_none_of X G z_len, PySem.W.mg_none_of X G z_max, PySem.W.mg_none_of X G z_min, PySem.W.mg_none_of X G z_range, PySem.W.mg_none_of X G z_repr, PySem.W.mg_none_of X G z_set, PySem.W.mg_none_of X G z_sorted, PySem.W.mg_none_of X G z_str, PySem.W.mg_none_of X G z_tuple, gk_tup (PySem.W.mg_of X G q_FOUR) (.tup u_FOUR_0 (by show 4 ≤ 1000; decide) (.cons (.tup u_FOUR_1 (by show 2 ≤ 1000; decide) (.cons (.str _ _) (.cons (.int _ _) .nil))) (.cons (.tup u_FOUR_4 (by show 2 ≤ 1000; decide) (.cons (.str _ _) (.cons (.int _ _) .nil))) (.cons (.tup u_FOUR_7 (by show 2 ≤ 1000; decide) (.cons (.str _ _) (.cons (.int _ _) .nil))) (.cons (.tup u_FOUR_10 (by show 2 ≤ 1000; decide) (.cons (.str _ _) (.cons (.int _ _) .nil))) .nil))))), ⟨⟨_, PySem.W.mg_of X G q_MOST, ⟨_, rfl⟩⟩, fun _ => .int _⟩, ⟨⟨_, PySem.W.mg_of X G q_WARP, ⟨_, rfl⟩⟩, fun _ => .str _⟩, ⟨⟨_, PySem.W.mg_of X G q_WEFT, ⟨_, rfl⟩⟩, fun _ => .str _⟩⟩
  have F__law_pot := fun_mk (st := s__law_pot) l__law_pot d__law_pot k__law_pot
  have b__law_pot := F__law_pot.binds (ps := ["script", "k"]) fun _ _ _ _ _ _ us hl => match us, hl with | [_, _], _ => rfl
  have F__law_draw := fun_mk (st := s__law_draw) l__law_draw d__law_draw k__law_draw
  have b__law_draw := F__law_draw.binds (ps := ["pot", "many"]) fun _ _ _ _ _ _ us hl => match us, hl with | [_, _], _ => rfl
  have F__law_draft := fun_mk (st := s__law_draft) l__law_draft d__law_draft k__law_draft
  have b__law_draft := F__law_draft.binds (ps := ["pot", "most"]) fun _ _ _ _ _ _ us hl => match us, hl with | [_, _], _ => rfl
  have F__law_times := fun_mk (st := s__law_times) l__law_times d__law_times k__law_times
  have b__law_times := F__law_times.binds (ps := ["draft", "across", "down"]) fun _ _ _ _ _ _ us hl => match us, hl with | [_, _, _], _ => rfl
  have F__law_least := fun_mk (st := s__law_least) l__law_least d__law_least k__law_least
  have b__law_least := F__law_least.binds (ps := ["draft"]) fun _ _ _ _ _ _ us hl => match us, hl with | [_], _ => rfl
  have F__law_strands := fun_mk (st := s__law_strands) l__law_strands d__law_strands k__law_strands
  have b__law_strands := F__law_strands.binds (ps := ["draft"]) fun _ _ _ _ _ _ us hl => match us, hl with | [_], _ => rfl
  have F__law_over := fun_mk (st := s__law_over) l__law_over d__law_over k__law_over
  have b__law_over := F__law_over.binds (ps := ["draft", "strand", "other"]) fun _ _ _ _ _ _ us hl => match us, hl with | [_, _, _], _ => rfl
  have F__law_is_one := fun_mk (st := s__law_is_one) l__law_is_one d__law_is_one k__law_is_one
  have b__law_is_one := F__law_is_one.binds (ps := ["draft"]) fun _ _ _ _ _ _ us hl => match us, hl with | [_], _ => rfl
  have F__law_round := fun_mk (st := s__law_round) l__law_round d__law_round k__law_round
  have b__law_round := F__law_round.binds (ps := ["some"]) fun _ _ _ _ _ _ us hl => match us, hl with | [_], _ => rfl
  have F_is_tuple := fun_mk (st := s_is_tuple) l_is_tuple d_is_tuple k_is_tuple
  have b_is_tuple := F_is_tuple.binds (ps := ["value", "many"]) fun _ _ _ _ _ _ us hl => match us, hl with | [_, _], _ => rfl
  have F_is_headed := fun_mk (st := s_is_headed) l_is_headed d_is_headed k_is_headed
  have b_is_headed := F_is_headed.binds (ps := ["value", "word"]) fun _ _ _ _ _ _ us hl => match us, hl with | [_, _], _ => rfl
  have F_is_integer := fun_mk (st := s_is_integer) l_is_integer d_is_integer k_is_integer
  have b_is_integer := F_is_integer.binds (ps := ["value"]) fun _ _ _ _ _ _ us hl => match us, hl with | [_], _ => rfl
  have F_is_within := fun_mk (st := s_is_within) l_is_within d_is_within k_is_within
  have b_is_within := F_is_within.binds (ps := ["value", "least", "most"]) fun _ _ _ _ _ _ us hl => match us, hl with | [_, _, _], _ => rfl
  have F_are_rows_of := fun_mk (st := s_are_rows_of) l_are_rows_of d_are_rows_of k_are_rows_of
  have b_are_rows_of := F_are_rows_of.binds (ps := ["value", "signs"]) fun _ _ _ _ _ _ us hl => match us, hl with | [_, _], _ => rfl
  have F_is_draft_value := fun_mk (st := s_is_draft_value) l_is_draft_value d_is_draft_value k_is_draft_value
  have b_is_draft_value := F_is_draft_value.binds (ps := ["value"]) fun _ _ _ _ _ _ us hl => match us, hl with | [_], _ => rfl
  have F_want_draft := fun_mk (st := s_want_draft) l_want_draft d_want_draft k_want_draft
  have b_want_draft := F_want_draft.binds (ps := ["draft"]) fun _ _ _ _ _ _ us hl => match us, hl with | [_], _ => rfl
  have F_many_warps := fun_mk (st := s_many_warps) l_many_warps d_many_warps k_many_warps
  have b_many_warps := F_many_warps.binds (ps := ["draft"]) fun _ _ _ _ _ _ us hl => match us, hl with | [_], _ => rfl
  have F_many_wefts := fun_mk (st := s_many_wefts) l_many_wefts d_many_wefts k_many_wefts
  have b_many_wefts := F_many_wefts.binds (ps := ["draft"]) fun _ _ _ _ _ _ us hl => match us, hl with | [_], _ => rfl
  have F_is_strand_of := fun_mk (st := s_is_strand_of) l_is_strand_of d_is_strand_of k_is_strand_of
  have b_is_strand_of := F_is_strand_of.binds (ps := ["draft", "value"]) fun _ _ _ _ _ _ us hl => match us, hl with | [_, _], _ => rfl
  have F_want_strand := fun_mk (st := s_want_strand) l_want_strand d_want_strand k_want_strand
  have b_want_strand := F_want_strand.binds (ps := ["draft", "strand"]) fun _ _ _ _ _ _ us hl => match us, hl with | [_, _], _ => rfl
  have F_round_runs := fun_mk (st := s_round_runs) l_round_runs d_round_runs k_round_runs
  have b_round_runs := F_round_runs.binds (ps := ["signs"]) fun _ _ _ _ _ _ us hl => match us, hl with | [_], _ => rfl
  have F_signs_along := fun_mk (st := s_signs_along) l_signs_along d_signs_along k_signs_along
  have b_signs_along := F_signs_along.binds (ps := ["draft", "strand"]) fun _ _ _ _ _ _ us hl => match us, hl with | [_, _], _ => rfl
  have F_endless_floats := fun_mk (st := s_endless_floats) l_endless_floats d_endless_floats k_endless_floats
  have b_endless_floats := F_endless_floats.binds (ps := ["draft", "strand"]) fun _ _ _ _ _ _ us hl => match us, hl with | [_, _], _ => rfl
  have F__law_signs := fun_mk (st := s__law_signs) l__law_signs d__law_signs k__law_signs
  have b__law_signs := F__law_signs.binds (ps := ["draft", "strand"]) fun _ _ _ _ _ _ us hl => match us, hl with | [_, _], _ => rfl
  have F_want_number := fun_mk (st := s_want_number) l_want_number d_want_number k_want_number
  have b_want_number := F_want_number.binds (ps := ["value", "least", "most"]) fun _ _ _ _ _ _ us hl => match us, hl with | [_, _, _], _ => rfl
  have F_with_rows := fun_mk (st := s_with_rows) l_with_rows d_with_rows k_with_rows
  have b_with_rows := F_with_rows.binds (ps := ["draft", "rows"]) fun _ _ _ _ _ _ us hl => match us, hl with | [_, _], _ => rfl
  have F_times_over := fun_mk (st := s_times_over) l_times_over d_times_over k_times_over
  have b_times_over := F_times_over.binds (ps := ["draft", "across", "down"]) fun _ _ _ _ _ _ us hl => match us, hl with | [_, _, _], _ => rfl
  have F_repeated := fun_mk (st := s_repeated) l_repeated d_repeated k_repeated
  have b_repeated := F_repeated.binds (ps := ["draft", "across", "down"]) fun _ _ _ _ _ _ us hl => match us, hl with | [_, _, _], _ => rfl
  have F_divisors := fun_mk (st := s_divisors) l_divisors d_divisors k_divisors
  have b_divisors := F_divisors.binds (ps := ["many"]) fun _ _ _ _ _ _ us hl => match us, hl with | [_], _ => rfl
  have F_corner := fun_mk (st := s_corner) l_corner d_corner k_corner
  have b_corner := F_corner.binds (ps := ["draft", "across", "down"]) fun _ _ _ _ _ _ us hl => match us, hl with | [_, _, _], _ => rfl
  have F_least_repeat := fun_mk (st := s_least_repeat) l_least_repeat d_least_repeat k_least_repeat
  have b_least_repeat := F_least_repeat.binds (ps := ["draft"]) fun _ _ _ _ _ _ us hl => match us, hl with | [_], _ => rfl
  have F_strands_of := fun_mk (st := s_strands_of) l_strands_of d_strands_of k_strands_of
  have b_strands_of := F_strands_of.binds (ps := ["draft"]) fun _ _ _ _ _ _ us hl => match us, hl with | [_], _ => rfl
  have F_cell_between := fun_mk (st := s_cell_between) l_cell_between d_cell_between k_cell_between
  have b_cell_between := F_cell_between.binds (ps := ["strand", "other"]) fun _ _ _ _ _ _ us hl => match us, hl with | [_, _], _ => rfl
  have F_lies_over := fun_mk (st := s_lies_over) l_lies_over d_lies_over k_lies_over
  have b_lies_over := F_lies_over.binds (ps := ["draft", "strand", "other"]) fun _ _ _ _ _ _ us hl => match us, hl with | [_, _, _], _ => rfl
  have F_below := fun_mk (st := s_below) l_below d_below k_below
  have b_below := F_below.binds (ps := ["draft", "strand"]) fun _ _ _ _ _ _ us hl => match us, hl with | [_, _], _ => rfl
  have F_ways_from := fun_mk (st := s_ways_from) l_ways_from d_ways_from k_ways_from
  have b_ways_from := F_ways_from.binds (ps := ["draft", "strand"]) fun _ _ _ _ _ _ us hl => match us, hl with | [_, _], _ => rfl
  have F_above := fun_mk (st := s_above) l_above d_above k_above
  have b_above := F_above.binds (ps := ["draft", "strand"]) fun _ _ _ _ _ _ us hl => match us, hl with | [_, _], _ => rfl
  have F_ways_back := fun_mk (st := s_ways_back) l_ways_back d_ways_back k_ways_back
  have b_ways_back := F_ways_back.binds (ps := ["draft", "strand"]) fun _ _ _ _ _ _ us hl => match us, hl with | [_, _], _ => rfl
  have F_are_held := fun_mk (st := s_are_held) l_are_held d_are_held k_are_held
  have b_are_held := F_are_held.binds (ps := ["draft"]) fun _ _ _ _ _ _ us hl => match us, hl with | [_], _ => rfl
  have F_is_endless_one := fun_mk (st := s_is_endless_one) l_is_endless_one d_is_endless_one k_is_endless_one
  have b_is_endless_one := F_is_endless_one.binds (ps := ["draft"]) fun _ _ _ _ _ _ us hl => match us, hl with | [_], _ => rfl
  have F_longest_round := fun_mk (st := s_longest_round) l_longest_round d_longest_round k_longest_round
  have b_longest_round := F_longest_round.binds (ps := ["draft", "kind", "sign"]) fun _ _ _ _ _ _ us hl => match us, hl with | [_, _, _], _ => rfl
  have F_endless_longest := fun_mk (st := s_endless_longest) l_endless_longest d_endless_longest k_endless_longest
  have b_endless_longest := F_endless_longest.binds (ps := ["draft"]) fun _ _ _ _ _ _ us hl => match us, hl with | [_], _ => rfl
  have F__law_right := fun_mk (st := s__law_right) l__law_right d__law_right k__law_right
  have b__law_right := F__law_right.binds (ps := ["pot"]) fun _ _ _ _ _ _ us hl => match us, hl with | [_], _ => rfl
  have F_law := fun_mk (st := s_law) l_law d_law k_law
  have kb_endless_floats_0_strand_draft : KwB K _ ["draft", "strand"] ["strand", "draft"] [1, 0] := kwb F_endless_floats fun _ _ _ _ _ _ us ws h1 h2 => match us, ws, h1, h2 with | [], [_, _], _, _ => rfl
  have kb_endless_longest_0_draft : KwB K _ ["draft"] ["draft"] [0] := kwb F_endless_longest fun _ _ _ _ _ _ us ws h1 h2 => match us, ws, h1, h2 with | [], [_], _, _ => rfl
  have kb_is_endless_one_0_draft : KwB K _ ["draft"] ["draft"] [0] := kwb F_is_endless_one fun _ _ _ _ _ _ us ws h1 h2 => match us, ws, h1, h2 with | [], [_], _, _ => rfl
  have kb_least_repeat_0_draft : KwB K _ ["draft"] ["draft"] [0] := kwb F_least_repeat fun _ _ _ _ _ _ us ws h1 h2 => match us, ws, h1, h2 with | [], [_], _, _ => rfl
  have kb_repeated_0_down_across_draft : KwB K _ ["draft", "across", "down"] ["down", "across", "draft"] [2, 1, 0] := kwb F_repeated fun _ _ _ _ _ _ us ws h1 h2 => match us, ws, h1, h2 with | [], [_, _, _], _, _ => rfl
  refine ⟨PySem.W.fnOf "law" "law" (defArgs s_law) (defBody s_law) (defScope s_law) .none kV_law dc_law pm_law an_law cd_law ct_law, fun s v => .of_eq rfl, fun base _ _ => ?_⟩
  have G__law_pot : FnG l.prog w K mg base 1 f__law_pot _ ["script", "k"] m__law_pot := g__law_pot (k := 0) F__law_pot M
  have G__law_draw : FnG l.prog w K mg base 1 f__law_draw _ ["pot", "many"] m__law_draw := g__law_draw (k := 0) F__law_draw M
  have G__law_draft : FnG l.prog w K mg base 2 f__law_draft _ ["pot", "most"] m__law_draft := g__law_draft (k := 1) F__law_draft M ⟨G__law_draw.mono (by decide), PySem.W.mg_of X G a__law_draw, F__law_draw.kp, b__law_draw⟩
  have G__law_times : FnG l.prog w K mg base 1 f__law_times _ ["draft", "across", "down"] m__law_times := g__law_times (k := 0) F__law_times M
  have G__law_least : FnG l.prog w K mg base 2 f__law_least _ ["draft"] m__law_least := g__law_least (k := 1) F__law_least M ⟨G__law_times.mono (by decide), PySem.W.mg_of X G a__law_times, F__law_times.kp, b__law_times⟩
  have G__law_strands : FnG l.prog w K mg base 1 f__law_strands _ ["draft"] m__law_strands := g__law_strands (k := 0) F__law_strands M
  have G__law_over : FnG l.prog w K mg base 1 f__law_over _ ["draft", "strand", "other"] m__law_over := g__law_over (k := 0) F__law_over M
  have G__law_is_one : FnG l.prog w K mg base 2 f__law_is_one _ ["draft"] m__law_is_one := g__law_is_one (k := 1) F__law_is_one M ⟨G__law_over.mono (by decide), PySem.W.mg_of X G a__law_over, F__law_over.kp, b__law_over⟩ ⟨G__law_strands.mono (by decide), PySem.W.mg_of X G a__law_strands, F__law_strands.kp, b__law_strands⟩
  have G__law_round : FnG l.prog w K mg base 1 f__law_round _ ["some"] m__law_round := g__law_round (k := 0) F__law_round M
  have G_is_tuple : FnG l.prog w K mg base 1 f_is_tuple _ ["value", "many"] m_is_tuple := g_is_tuple (k := 0) F_is_tuple M
  have G_is_headed : FnG l.prog w K mg base 2 f_is_headed _ ["value", "word"] m_is_headed := g_is_headed (k := 1) F_is_headed M ⟨G_is_tuple.mono (by decide), PySem.W.mg_of X G a_is_tuple, F_is_tuple.kp, b_is_tuple⟩
  have G_is_integer : FnG l.prog w K mg base 1 f_is_integer _ ["value"] m_is_integer := g_is_integer (k := 0) F_is_integer M
  have G_is_within : FnG l.prog w K mg base 2 f_is_within _ ["value", "least", "most"] m_is_within := g_is_within (k := 1) F_is_within M ⟨G_is_integer.mono (by decide), PySem.W.mg_of X G a_is_integer, F_is_integer.kp, b_is_integer⟩
  have G_are_rows_of : FnG l.prog w K mg base 3 f_are_rows_of _ ["value", "signs"] m_are_rows_of := g_are_rows_of (k := 2) F_are_rows_of M ⟨G_is_within.mono (by decide), PySem.W.mg_of X G a_is_within, F_is_within.kp, b_is_within⟩
  have G_is_draft_value : FnG l.prog w K mg base 4 f_is_draft_value _ ["value"] m_is_draft_value := g_is_draft_value (k := 3) F_is_draft_value M ⟨G_are_rows_of.mono (by decide), PySem.W.mg_of X G a_are_rows_of, F_are_rows_of.kp, b_are_rows_of⟩ ⟨G_is_headed.mono (by decide), PySem.W.mg_of X G a_is_headed, F_is_headed.kp, b_is_headed⟩
  have G_want_draft : FnG l.prog w K mg base 5 f_want_draft _ ["draft"] m_want_draft := g_want_draft (k := 4) F_want_draft M ⟨G_is_draft_value.mono (by decide), PySem.W.mg_of X G a_is_draft_value, F_is_draft_value.kp, b_is_draft_value⟩
  have G_many_warps : FnG l.prog w K mg base 1 f_many_warps _ ["draft"] m_many_warps := g_many_warps (k := 0) F_many_warps M
  have G_many_wefts : FnG l.prog w K mg base 1 f_many_wefts _ ["draft"] m_many_wefts := g_many_wefts (k := 0) F_many_wefts M
  have G_is_strand_of : FnG l.prog w K mg base 3 f_is_strand_of _ ["draft", "value"] m_is_strand_of := g_is_strand_of (k := 2) F_is_strand_of M ⟨G_is_within.mono (by decide), PySem.W.mg_of X G a_is_within, F_is_within.kp, b_is_within⟩ ⟨G_many_warps.mono (by decide), PySem.W.mg_of X G a_many_warps, F_many_warps.kp, b_many_warps⟩ ⟨G_many_wefts.mono (by decide), PySem.W.mg_of X G a_many_wefts, F_many_wefts.kp, b_many_wefts⟩ ⟨G_is_tuple.mono (by decide), PySem.W.mg_of X G a_is_tuple, F_is_tuple.kp, b_is_tuple⟩
  have G_want_strand : FnG l.prog w K mg base 4 f_want_strand _ ["draft", "strand"] m_want_strand := g_want_strand (k := 3) F_want_strand M ⟨G_is_strand_of.mono (by decide), PySem.W.mg_of X G a_is_strand_of, F_is_strand_of.kp, b_is_strand_of⟩
  have G_round_runs : FnG l.prog w K mg base 1 f_round_runs _ ["signs"] m_round_runs := g_round_runs (k := 0) F_round_runs M
  have G_signs_along : FnG l.prog w K mg base 1 f_signs_along _ ["draft", "strand"] m_signs_along := g_signs_along (k := 0) F_signs_along M
  have G_endless_floats : FnG l.prog w K mg base 6 f_endless_floats _ ["draft", "strand"] m_endless_floats := g_endless_floats (k := 5) F_endless_floats M ⟨G_round_runs.mono (by decide), PySem.W.mg_of X G a_round_runs, F_round_runs.kp, b_round_runs⟩ ⟨G_signs_along.mono (by decide), PySem.W.mg_of X G a_signs_along, F_signs_along.kp, b_signs_along⟩ ⟨G_want_strand.mono (by decide), PySem.W.mg_of X G a_want_strand, F_want_strand.kp, b_want_strand⟩ ⟨G_want_draft.mono (by decide), PySem.W.mg_of X G a_want_draft, F_want_draft.kp, b_want_draft⟩
  have G__law_signs : FnG l.prog w K mg base 1 f__law_signs _ ["draft", "strand"] m__law_signs := g__law_signs (k := 0) F__law_signs M
  have G_want_number : FnG l.prog w K mg base 3 f_want_number _ ["value", "least", "most"] m_want_number := g_want_number (k := 2) F_want_number M ⟨G_is_within.mono (by decide), PySem.W.mg_of X G a_is_within, F_is_within.kp, b_is_within⟩
  have G_with_rows : FnG l.prog w K mg base 1 f_with_rows _ ["draft", "rows"] m_with_rows := g_with_rows (k := 0) F_with_rows M
  have G_times_over : FnG l.prog w K mg base 2 f_times_over _ ["draft", "across", "down"] m_times_over := g_times_over (k := 1) F_times_over M ⟨G_with_rows.mono (by decide), PySem.W.mg_of X G a_with_rows, F_with_rows.kp, b_with_rows⟩
  have G_repeated : FnG l.prog w K mg base 6 f_repeated _ ["draft", "across", "down"] m_repeated := g_repeated (k := 5) F_repeated M ⟨G_times_over.mono (by decide), PySem.W.mg_of X G a_times_over, F_times_over.kp, b_times_over⟩ ⟨G_many_wefts.mono (by decide), PySem.W.mg_of X G a_many_wefts, F_many_wefts.kp, b_many_wefts⟩ ⟨G_many_warps.mono (by decide), PySem.W.mg_of X G a_many_warps, F_many_warps.kp, b_many_warps⟩ ⟨G_want_number.mono (by decide), PySem.W.mg_of X G a_want_number, F_want_number.kp, b_want_number⟩ ⟨G_want_draft.mono (by decide), PySem.W.mg_of X G a_want_draft, F_want_draft.kp, b_want_draft⟩
  have G_divisors : FnG l.prog w K mg base 1 f_divisors _ ["many"] m_divisors := g_divisors (k := 0) F_divisors M
  have G_corner : FnG l.prog w K mg base 2 f_corner _ ["draft", "across", "down"] m_corner := g_corner (k := 1) F_corner M ⟨G_with_rows.mono (by decide), PySem.W.mg_of X G a_with_rows, F_with_rows.kp, b_with_rows⟩
  have G_least_repeat : FnG l.prog w K mg base 6 f_least_repeat _ ["draft"] m_least_repeat := g_least_repeat (k := 5) F_least_repeat M ⟨G_divisors.mono (by decide), PySem.W.mg_of X G a_divisors, F_divisors.kp, b_divisors⟩ ⟨G_many_warps.mono (by decide), PySem.W.mg_of X G a_many_warps, F_many_warps.kp, b_many_warps⟩ ⟨G_many_wefts.mono (by decide), PySem.W.mg_of X G a_many_wefts, F_many_wefts.kp, b_many_wefts⟩ ⟨G_times_over.mono (by decide), PySem.W.mg_of X G a_times_over, F_times_over.kp, b_times_over⟩ ⟨G_corner.mono (by decide), PySem.W.mg_of X G a_corner, F_corner.kp, b_corner⟩ ⟨G_want_draft.mono (by decide), PySem.W.mg_of X G a_want_draft, F_want_draft.kp, b_want_draft⟩
  have G_strands_of : FnG l.prog w K mg base 2 f_strands_of _ ["draft"] m_strands_of := g_strands_of (k := 1) F_strands_of M ⟨G_many_wefts.mono (by decide), PySem.W.mg_of X G a_many_wefts, F_many_wefts.kp, b_many_wefts⟩ ⟨G_many_warps.mono (by decide), PySem.W.mg_of X G a_many_warps, F_many_warps.kp, b_many_warps⟩
  have G_cell_between : FnG l.prog w K mg base 1 f_cell_between _ ["strand", "other"] m_cell_between := g_cell_between (k := 0) F_cell_between M
  have G_lies_over : FnG l.prog w K mg base 2 f_lies_over _ ["draft", "strand", "other"] m_lies_over := g_lies_over (k := 1) F_lies_over M ⟨G_cell_between.mono (by decide), PySem.W.mg_of X G a_cell_between, F_cell_between.kp, b_cell_between⟩
  have G_below : FnG l.prog w K mg base 3 f_below _ ["draft", "strand"] m_below := g_below (k := 2) F_below M ⟨G_strands_of.mono (by decide), PySem.W.mg_of X G a_strands_of, F_strands_of.kp, b_strands_of⟩ ⟨G_lies_over.mono (by decide), PySem.W.mg_of X G a_lies_over, F_lies_over.kp, b_lies_over⟩
  have G_ways_from : FnG l.prog w K mg base 4 f_ways_from _ ["draft", "strand"] m_ways_from := g_ways_from (k := 3) F_ways_from M ⟨G_below.mono (by decide), PySem.W.mg_of X G a_below, F_below.kp, b_below⟩
  have G_above : FnG l.prog w K mg base 3 f_above _ ["draft", "strand"] m_above := g_above (k := 2) F_above M ⟨G_strands_of.mono (by decide), PySem.W.mg_of X G a_strands_of, F_strands_of.kp, b_strands_of⟩ ⟨G_lies_over.mono (by decide), PySem.W.mg_of X G a_lies_over, F_lies_over.kp, b_lies_over⟩
  have G_ways_back : FnG l.prog w K mg base 4 f_ways_back _ ["draft", "strand"] m_ways_back := g_ways_back (k := 3) F_ways_back M ⟨G_above.mono (by decide), PySem.W.mg_of X G a_above, F_above.kp, b_above⟩
  have G_are_held : FnG l.prog w K mg base 5 f_are_held _ ["draft"] m_are_held := g_are_held (k := 4) F_are_held M ⟨G_ways_back.mono (by decide), PySem.W.mg_of X G a_ways_back, F_ways_back.kp, b_ways_back⟩ ⟨G_ways_from.mono (by decide), PySem.W.mg_of X G a_ways_from, F_ways_from.kp, b_ways_from⟩ ⟨G_many_warps.mono (by decide), PySem.W.mg_of X G a_many_warps, F_many_warps.kp, b_many_warps⟩ ⟨G_many_wefts.mono (by decide), PySem.W.mg_of X G a_many_wefts, F_many_wefts.kp, b_many_wefts⟩ ⟨G_strands_of.mono (by decide), PySem.W.mg_of X G a_strands_of, F_strands_of.kp, b_strands_of⟩
  have G_is_endless_one : FnG l.prog w K mg base 6 f_is_endless_one _ ["draft"] m_is_endless_one := g_is_endless_one (k := 5) F_is_endless_one M ⟨G_are_held.mono (by decide), PySem.W.mg_of X G a_are_held, F_are_held.kp, b_are_held⟩ ⟨G_want_draft.mono (by decide), PySem.W.mg_of X G a_want_draft, F_want_draft.kp, b_want_draft⟩
  have G_longest_round : FnG l.prog w K mg base 3 f_longest_round _ ["draft", "kind", "sign"] m_longest_round := g_longest_round (k := 2) F_longest_round M ⟨G_strands_of.mono (by decide), PySem.W.mg_of X G a_strands_of, F_strands_of.kp, b_strands_of⟩ ⟨G_round_runs.mono (by decide), PySem.W.mg_of X G a_round_runs, F_round_runs.kp, b_round_runs⟩ ⟨G_signs_along.mono (by decide), PySem.W.mg_of X G a_signs_along, F_signs_along.kp, b_signs_along⟩
  have G_endless_longest : FnG l.prog w K mg base 6 f_endless_longest _ ["draft"] m_endless_longest := g_endless_longest (k := 5) F_endless_longest M ⟨G_longest_round.mono (by decide), PySem.W.mg_of X G a_longest_round, F_longest_round.kp, b_longest_round⟩ ⟨G_want_draft.mono (by decide), PySem.W.mg_of X G a_want_draft, F_want_draft.kp, b_want_draft⟩
  have G__law_right : FnG l.prog w K mg base 7 f__law_right _ ["pot"] m__law_right := g__law_right (k := 6) F__law_right M ⟨G_endless_longest.mono (by decide), PySem.W.mg_of X G a_endless_longest, F_endless_longest.kp, b_endless_longest⟩ ⟨G__law_strands.mono (by decide), PySem.W.mg_of X G a__law_strands, F__law_strands.kp, b__law_strands⟩ ⟨G_endless_floats.mono (by decide), PySem.W.mg_of X G a_endless_floats, F_endless_floats.kp, b_endless_floats⟩ ⟨G__law_round.mono (by decide), PySem.W.mg_of X G a__law_round, F__law_round.kp, b__law_round⟩ ⟨G__law_signs.mono (by decide), PySem.W.mg_of X G a__law_signs, F__law_signs.kp, b__law_signs⟩ ⟨G__law_is_one.mono (by decide), PySem.W.mg_of X G a__law_is_one, F__law_is_one.kp, b__law_is_one⟩ ⟨G_is_endless_one.mono (by decide), PySem.W.mg_of X G a_is_endless_one, F_is_endless_one.kp, b_is_endless_one⟩ ⟨G_least_repeat.mono (by decide), PySem.W.mg_of X G a_least_repeat, F_least_repeat.kp, b_least_repeat⟩ ⟨G__law_least.mono (by decide), PySem.W.mg_of X G a__law_least, F__law_least.kp, b__law_least⟩ ⟨G_repeated.mono (by decide), PySem.W.mg_of X G a_repeated, F_repeated.kp, b_repeated⟩ ⟨G__law_times.mono (by decide), PySem.W.mg_of X G a__law_times, F__law_times.kp, b__law_times⟩ ⟨G__law_draw.mono (by decide), PySem.W.mg_of X G a__law_draw, F__law_draw.kp, b__law_draw⟩ ⟨G__law_draft.mono (by decide), PySem.W.mg_of X G a__law_draft, F__law_draft.kp, b__law_draft⟩ kb_endless_floats_0_strand_draft kb_endless_longest_0_draft kb_is_endless_one_0_draft kb_least_repeat_0_draft kb_repeated_0_down_across_draft
  have G_law : FnG l.prog w K mg base 8 fa _ ["script"] m_law := g_law (k := 7) F_law M ⟨G__law_right.mono (by decide), PySem.W.mg_of X G a__law_right, F__law_right.kp, b__law_right⟩ ⟨G__law_pot.mono (by decide), PySem.W.mg_of X G a__law_pot, F__law_pot.kp, b__law_pot⟩
  exact G_law
end PK92

set_option Elab.async false
set_option linter.all false
set_option maxRecDepth 100000
set_option maxHeartbeats 4000000
/-! HP0: grids of cells. -/
namespace DL
open PySem L2
/-- a row: n cells -/
def rw1 (n : Nat) (g : Nat → Int) : List Int := (List.range n).map g
/-- a grid: m rows of n cells -/
def gd (m n : Nat) (f : Nat → Nat → Int) : List (List Int) := (List.range m).map fun w => rw1 n (f w)
section
variable {m n : Nat} {f g : Nat → Nat → Int} {a b : Nat → Int}
@[simp] theorem rw1_len : (rw1 n a).length = n := by simp [rw1]
@[simp] theorem gd_len : (gd m n f).length = m := by simp [gd]
theorem rw1_ext (h : ∀ p, p < n → a p = b p) : rw1 n a = rw1 n b := List.map_congr_left fun p hp => h p (List.mem_range.mp hp)
theorem rw1_inj (h : rw1 n a = rw1 n b) : ∀ p, p < n → a p = b p := fun p hp => by
  have := congrArg (fun l => l[p]?) h
  simpa [rw1, hp] using this
theorem gd_ext (h : ∀ w, w < m → ∀ p, p < n → f w p = g w p) : gd m n f = gd m n g := List.map_congr_left fun w hw => rw1_ext (h w (List.mem_range.mp hw))
theorem gd_inj (h : gd m n f = gd m n g) : ∀ w, w < m → ∀ p, p < n → f w p = g w p := fun w hw p hp => by
  have := congrArg (fun l => l[w]?) h
  have := this
  simp only [gd, List.getElem?_map, List.getElem?_range hw, Option.map_some, Option.some.injEq] at this
  exact rw1_inj this p hp
theorem mem_gd {r : List Int} (h : r ∈ gd m n f) : ∃ w, w < m ∧ r = rw1 n (f w) := by
  obtain ⟨w, hw, rfl⟩ := List.mem_map.mp h
  exact ⟨w, List.mem_range.mp hw, rfl⟩
theorem mem_rw1 {x : Int} (h : x ∈ rw1 n a) : ∃ p, p < n ∧ x = a p := by
  obtain ⟨w, hw, rfl⟩ := List.mem_map.mp h
  exact ⟨w, List.mem_range.mp hw, rfl⟩
theorem rw1_get {p : Nat} (h : p < n) : (rw1 n a)[p]? = some (a p) := by simp [rw1, h]
theorem gd_get {w : Nat} (h : w < m) : (gd m n f)[w]? = some (rw1 n (f w)) := by simp [gd, h]
theorem atI_rw1 {i : Int} (h1 : 0 ≤ i) (h2 : i < n) : atI (rw1 n a) i = some (a i.toNat) := by rw [atI_of h1, rw1_get (by omega)]
theorem atI_gd {i : Int} (h1 : 0 ≤ i) (h2 : i < m) : atI (gd m n f) i = some (rw1 n (f i.toNat)) := by rw [atI_of h1, gd_get (by omega)]
theorem atI_rw1N {i : Nat} (h : i < n) : atI (rw1 n a) (i : Nat) = some (a i) := by rw [atI_rw1 (by omega) (by omega), Int.toNat_natCast]
theorem atI_gdN {i : Nat} (h : i < m) : atI (gd m n f) (i : Nat) = some (rw1 n (f i)) := by rw [atI_gd (by omega) (by omega), Int.toNat_natCast]
theorem eq_bb (x y : Bool) : dEq (.bool x) (.bool y) = some (.bool (x == y)) := by
  unfold dEq
  show (if _ then _ else _) = _
  rw [if_pos ⟨fit_bool _ _, fit_bool _ _⟩]
  simp [PyData.eqv]
theorem nth_rw1 {p : Nat} (h : p < n) : nth (rw1 n a) (p : Int) = a p := by simp [nth, List.getD_eq_getElem?_getD, rw1_get h]
theorem nth_gd {p : Nat} (h : p < m) : nth (gd m n f) (p : Int) = rw1 n (f p) := by simp [nth, List.getD_eq_getElem?_getD, gd_get h]
/-- its cells are 0 or 1 -/
def Bits (m n : Nat) (f : Nat → Nat → Int) : Prop := ∀ w, w < m → ∀ p, p < n → f w p = 0 ∨ f w p = 1
structure Sz (m n : Nat) : Prop where
  m1 : 1 ≤ m
  m2 : m ≤ 12
  n1 : 1 ≤ n
  n2 : n ≤ 12
theorem gd_dr (z : Sz m n) (h : Bits m n f) : IsDr (gd m n f) n := by
  refine ⟨by simpa using z.m1, by simpa using z.m2, z.n1, z.n2, fun r hr => ?_, fun r hr x hx => ?_⟩
  · obtain ⟨w, _, rfl⟩ := mem_gd hr
    simp
  · obtain ⟨w, hw, rfl⟩ := mem_gd hr
    obtain ⟨p, hp, rfl⟩ := mem_rw1 hx
    have := h w hw p hp
    omega
/-- the cells of rows -/
def cellOf (rows : List (List Int)) (w p : Nat) : Int := nth (nth rows (w : Int)) (p : Int)
theorem dr_gd {rows : List (List Int)} (v : IsDr rows n) : rows = gd rows.length n (cellOf rows) := by
  apply List.ext_getElem (by simp)
  intro w h1 h2
  have hl := v.len _ (List.getElem_mem h1)
  apply List.ext_getElem (by simp [gd, hl])
  intro p h3 h4
  have h5 : p < n := by omega
  simp [gd, rw1, cellOf, nth, List.getD_eq_getElem?_getD, h1, h3]
theorem dr_bits {rows : List (List Int)} (v : IsDr rows n) : Bits rows.length n (cellOf rows) := fun w hw p hp => by
  have h1 : nth rows (w : Int) ∈ rows := nth_mem (by omega) (by omega)
  have := v.cell h1 (j := p) (by omega) (by omega)
  unfold cellOf
  omega
theorem dr_sz {rows : List (List Int)} (v : IsDr rows n) : Sz rows.length n := ⟨v.r1, v.r2, v.n1, v.n2⟩
/-! what is made of grids -/
theorem rw1_map (h : Int → Int) : (rw1 n a).map h = rw1 n fun p => h (a p) := by simp [rw1, Function.comp_def]
theorem gd_map (h : List Int → List Int) {n' : Nat} {f' : Nat → Nat → Int} (e : ∀ w, w < m → h (rw1 n (f w)) = rw1 n' (f' w)) : (gd m n f).map h = gd m n' f' := by
  unfold gd
  rw [List.map_map]
  exact List.map_congr_left fun w hw => e w (List.mem_range.mp hw)
theorem range_rev (n : Nat) : (List.range n).reverse = (List.range n).map fun p => n - 1 - p := by
  apply List.ext_getElem (by simp)
  intro i h1 h2
  simp
theorem rw1_rev : (rw1 n a).reverse = rw1 n fun p => a (n - 1 - p) := by
  unfold rw1
  rw [← List.map_reverse, range_rev, List.map_map]; rfl
theorem gd_rev : (gd m n f).reverse = gd m n fun w => f (m - 1 - w) := by
  unfold gd
  rw [← List.map_reverse, range_rev, List.map_map]; rfl
/-- so often -/
def rep {α : Type} (k : Nat) (xs : List α) : List α := (List.replicate k xs).flatten
@[simp] theorem repL_len {α : Type} (k : Nat) (xs : List α) : (rep k xs).length = k * xs.length := by simp [rep]
theorem rep_map {α β : Type} (e : α → β) (k : Nat) (xs : List α) : (List.replicate k (xs.map e)).flatten = (rep k xs).map e := by simp [rep, List.map_flatten]
theorem rep_get {α : Type} {xs : List α} (h : xs ≠ []) : ∀ (k i : Nat), i < k * xs.length → (rep k xs)[i]? = xs[i % xs.length]?
  | 0, i, hi => by omega
  | k + 1, i, hi => by
    have hp : 0 < xs.length := List.length_pos_iff.mpr h
    unfold rep
    rw [List.replicate_succ, List.flatten_cons]
    by_cases q : i < xs.length
    · rw [List.getElem?_append_left q, Nat.mod_eq_of_lt q]
    · rw [List.getElem?_append_right (by omega)]
      have := rep_get h k (i - xs.length) (by rw [Nat.add_mul] at hi; omega)
      unfold rep at this
      rw [this, ← Nat.mod_eq_sub_mod (by omega)]
theorem rep_rw1 (k : Nat) (h : 1 ≤ n) : rep k (rw1 n a) = rw1 (n * k) fun p => a (p % n) := by
  have hn : rw1 n a ≠ [] := fun q => by
    have := congrArg List.length q
    simp at this; omega
  apply List.ext_getElem? 
  intro i
  by_cases hi : i < n * k
  · rw [rep_get hn k i (by rw [rw1_len, Nat.mul_comm]; exact hi), rw1_get hi, rw1_len, rw1_get (Nat.mod_lt _ (by omega))]
  · rw [List.getElem?_eq_none (by rw [repL_len, rw1_len, Nat.mul_comm]; omega), List.getElem?_eq_none (by rw [rw1_len]; omega)]
theorem rep_gd (k : Nat) (h : 1 ≤ m) : rep k (gd m n f) = gd (m * k) n fun w => f (w % m) := by
  have hn : gd m n f ≠ [] := fun q => by
    have := congrArg List.length q
    simp at this; omega
  apply List.ext_getElem? 
  intro i
  by_cases hi : i < m * k
  · rw [rep_get hn k i (by rw [gd_len, Nat.mul_comm]; exact hi), gd_get hi, gd_len, gd_get (Nat.mod_lt _ (by omega))]
  · rw [List.getElem?_eq_none (by rw [repL_len, gd_len, Nat.mul_comm]; omega), List.getElem?_eq_none (by rw [gd_len]; omega)]
theorem rw1_take {k : Nat} (h : k ≤ n) : (rw1 n a).take k = rw1 k a := by
  unfold rw1
  rw [← List.map_take, List.take_range, Nat.min_eq_left h]
theorem gd_take {k : Nat} (h : k ≤ m) : (gd m n f).take k = gd k n f := by
  unfold gd
  rw [← List.map_take, List.take_range, Nat.min_eq_left h]
theorem colsOf_gd : colsOf n (gd m n f) = gd n m fun p w => f w p := by
  unfold colsOf gd upto
  rw [List.map_map]
  refine List.map_congr_left fun p hp => ?_
  have hp := List.mem_range.mp hp
  simp only [Function.comp_def, List.map_map]
  unfold rw1
  refine List.map_congr_left fun w hw => ?_
  show nth (rw1 n (f w)) (p : Int) = _
  rw [nth_rw1 hp]
end
end DL

set_option Elab.async false
set_option linter.all false
set_option maxRecDepth 100000
set_option maxHeartbeats 4000000
/-! HP1: divisors, periods, the least repeat. -/
namespace DL
open PySem L2
def divs (n : Nat) : List Nat := (List.range' 1 n).filter fun d => n % d = 0
theorem mem_divs {n d : Nat} (hn : 1 ≤ n) : d ∈ divs n ↔ d ∣ n := by
  unfold divs
  rw [List.mem_filter, List.mem_range'_1]
  constructor
  · rintro ⟨_, h⟩
    exact Nat.dvd_of_mod_eq_zero (by simpa using h)
  · intro h
    have h1 := Nat.le_of_dvd hn h
    have h2 := Nat.pos_of_dvd_of_pos h hn
    exact ⟨by omega, by simpa using Nat.mod_eq_zero_of_dvd h⟩
theorem divs_pw (n : Nat) : (divs n).Pairwise (· < ·) := List.Pairwise.filter _ (List.pairwise_lt_range' (s := 1) (n := n))
theorem divs_len (n : Nat) : (divs n).length ≤ n := by
  have := List.length_filter_le (fun d => decide (n % d = 0)) (List.range' 1 n)
  unfold divs
  simpa using this
theorem rngI_from1 {n : Nat} (h : n ≤ 100000) : rngI [.int 1, .int ((n : Int) + 1)] = some ((List.range' 1 n).map fun d => PyData.int (d : Nat)) := by
  unfold rngI
  simp only
  rw [if_pos ⟨by omega, by omega, by omega, by omega⟩]
  unfold rngD
  rw [show ((n : Int) + 1 - 1).toNat = n by omega, List.range'_eq_map_range, List.map_map]
  congr 1
/-- what lies behind a pair of periods -/
def Per (m n : Nat) (f : Nat → Nat → Int) (p q : Nat) : Prop := ∀ w, w < m → ∀ x, x < n → f (w % q) (x % p) = f w x
structure IsLeast (m n : Nat) (f : Nat → Nat → Int) (p q : Nat) : Prop where
  pn : p ∣ n
  qm : q ∣ m
  per : Per m n f p q
  minp : ∀ p', p' ∣ n → p' < p → ∀ q', q' ∣ m → ¬ Per m n f p' q'
  minq : ∀ q', q' ∣ m → q' < q → ¬ Per m n f p q'
theorem IsLeast.uniq {m n : Nat} {f : Nat → Nat → Int} {p q p' q' : Nat} (h : IsLeast m n f p q) (h' : IsLeast m n f p' q') : p = p' ∧ q = q' := by
  have e : p = p' := by
    rcases Nat.lt_trichotomy p p' with c | c | c
    · exact absurd h.per (h'.minp p h.pn c q h.qm)
    · exact c
    · exact absurd h'.per (h.minp p' h'.pn c q' h'.qm)
  subst e
  refine ⟨rfl, ?_⟩
  rcases Nat.lt_trichotomy q q' with c | c | c
  · exact absurd h.per (h'.minq q h.qm c)
  · exact c
  · exact absurd h'.per (h.minq q' h'.qm c)
/-- periods of a sequence without end -/
theorem per_gcd {α : Type} (h : Nat → α) (a b : Nat) (ha : ∀ x, h (x + a) = h x) (hb : ∀ x, h (x + b) = h x) : ∀ x, h (x + Nat.gcd a b) = h x := by
  have mul : ∀ (c k x : Nat), (∀ x, h (x + c) = h x) → h (x + c * k) = h x := by
    intro c k
    induction k with
    | zero => intro x _; simp
    | succ k ih => intro x hc; rw [Nat.mul_succ, ← Nat.add_assoc, hc, ih x hc]
  revert ha hb
  refine Nat.gcd.induction (P := fun a b => (∀ x, h (x + a) = h x) → (∀ x, h (x + b) = h x) → ∀ x, h (x + Nat.gcd a b) = h x) a b ?_ ?_
  · intro b _ hb; simpa using hb
  · intro a b hp ih ha hb
    rw [Nat.gcd_rec]
    refine ih (fun x => ?_) ha
    have e := mul a (b / a) (x + b % a) ha
    rw [Nat.add_assoc, Nat.add_comm (b % a), Nat.div_add_mod] at e
    rw [← e]; exact hb x
theorem per_mod {α : Type} (h : Nat → α) (a : Nat) (ha : ∀ x, h (x + a) = h x) : ∀ x, h (x % a) = h x := by
  intro x
  have mul : ∀ (k x : Nat), h (x + a * k) = h x := by
    intro k
    induction k with
    | zero => intro x; simp
    | succ k ih => intro x; rw [Nat.mul_succ, ← Nat.add_assoc, ha, ih x]
  have := mul (x / a) (x % a)
  rw [Nat.add_comm, Nat.div_add_mod] at this
  exact this.symm
/-- the repeat has the least repeat of what is repeated -/
theorem IsLeast.times {m n : Nat} {f : Nat → Nat → Int} {p q a b : Nat} (m1 : 1 ≤ m) (n1 : 1 ≤ n) (a1 : 1 ≤ a) (b1 : 1 ≤ b) (h : IsLeast m n f p q) : IsLeast (m * b) (n * a) (fun w x => f (w % m) (x % n)) p q := by
  have hP : ∀ p' q', Per m n f p' q' → p' ∣ n → q' ∣ m → Per (m * b) (n * a) (fun w x => f (w % m) (x % n)) p' q' := fun p' q' hp hn hm w hw x hx => by
    have hn0 := Nat.pos_of_dvd_of_pos hn n1
    have hm0 := Nat.pos_of_dvd_of_pos hm m1
    have e1 : w % q' % m = w % q' := Nat.mod_eq_of_lt (Nat.lt_of_lt_of_le (Nat.mod_lt _ hm0) (Nat.le_of_dvd m1 hm))
    have e2 : x % p' % n = x % p' := Nat.mod_eq_of_lt (Nat.lt_of_lt_of_le (Nat.mod_lt _ hn0) (Nat.le_of_dvd n1 hn))
    show f (w % q' % m) (x % p' % n) = f (w % m) (x % n)
    rw [e1, e2, ← hp (w % m) (Nat.mod_lt _ m1) (x % n) (Nat.mod_lt _ n1), Nat.mod_mod_of_dvd w hm, Nat.mod_mod_of_dvd x hn]
  -- periods of the repeat, brought to those that go into the sizes
  have key : ∀ p' q', p' ∣ n * a → q' ∣ m * b → Per (m * b) (n * a) (fun w x => f (w % m) (x % n)) p' q' → Per m n f (Nat.gcd p' n) m ∧ (p' = p → Per m n f p (Nat.gcd q' m)) := fun p' q' hn hm hp => by
    have na : 0 < n * a := Nat.mul_pos n1 a1
    have mb : 0 < m * b := Nat.mul_pos m1 b1
    -- for all places
    have all : ∀ w x, f (w % q' % m) (x % p' % n) = f (w % m) (x % n) := fun w x => by
      have := hp (w % (m * b)) (Nat.mod_lt _ mb) (x % (n * a)) (Nat.mod_lt _ na)
      simp only [Nat.mod_mod_of_dvd w hm, Nat.mod_mod_of_dvd x hn, Nat.mod_mod_of_dvd w (Nat.dvd_mul_right m b), Nat.mod_mod_of_dvd x (Nat.dvd_mul_right n a)] at this
      exact this
    have px : ∀ w x, f (w % m) ((x + p') % n) = f (w % m) (x % n) := fun w x => by
      have e1 := all w (x + p')
      have e2 := all w x
      rw [Nat.add_mod_right] at e1
      rw [← e1, e2]
    have qx : ∀ x w, f ((w + q') % m) (x % n) = f (w % m) (x % n) := fun x w => by
      have e1 := all (w + q') x
      have e2 := all w x
      rw [Nat.add_mod_right] at e1
      rw [← e1, e2]
    have gx : ∀ w x, f (w % m) (x % Nat.gcd p' n % n) = f (w % m) (x % n) := fun w =>
      per_mod (fun x => f (w % m) (x % n)) _ (per_gcd (fun x => f (w % m) (x % n)) p' n (px w) fun x => by rw [Nat.add_mod_right])
    have gy : ∀ x w, f (w % Nat.gcd q' m % m) (x % n) = f (w % m) (x % n) := fun x =>
      per_mod (fun w => f (w % m) (x % n)) _ (per_gcd (fun w => f (w % m) (x % n)) q' m (qx x) fun w => by rw [Nat.add_mod_right])
    have g1 : Nat.gcd p' n ∣ n := Nat.gcd_dvd_right _ _
    have g2 : Nat.gcd q' m ∣ m := Nat.gcd_dvd_right _ _
    have small : ∀ {g k x : Nat}, g ∣ k → 1 ≤ k → x % g % k = x % g := fun {g k x} hd hk => Nat.mod_eq_of_lt (Nat.lt_of_lt_of_le (Nat.mod_lt _ (Nat.pos_of_dvd_of_pos hd hk)) (Nat.le_of_dvd hk hd))
    constructor
    · intro w hw x hx
      have := gx w x
      rw [small g1 n1, Nat.mod_eq_of_lt hx] at this
      rw [this, Nat.mod_eq_of_lt hw]
    · rintro rfl w hw x hx
      have h1 := gy (x % p') w
      rw [small g2 m1, small h.pn n1] at h1
      rw [h1, Nat.mod_eq_of_lt hw]
      have e3 := h.per w hw x hx
      have e5 := h.per w hw (x % p') (Nat.lt_of_lt_of_le (Nat.mod_lt _ (Nat.pos_of_dvd_of_pos h.pn n1)) (Nat.le_of_dvd n1 h.pn))
      rw [Nat.mod_mod] at e5
      rw [← e5]; exact e3
  refine ⟨Nat.dvd_trans h.pn (Nat.dvd_mul_right n a), Nat.dvd_trans h.qm (Nat.dvd_mul_right m b), hP p q h.per h.pn h.qm, fun p' hp hlt q' hq hper => ?_, fun q' hq hlt hper => ?_⟩
  · have k := (key p' q' hp hq hper).1
    have hp0 : 0 < p' := Nat.pos_of_dvd_of_pos hp (Nat.mul_pos n1 a1)
    have := Nat.gcd_le_left n hp0
    exact h.minp _ (Nat.gcd_dvd_right _ _) (by omega) m (Nat.dvd_refl m) k
  · have k := (key p q' (Nat.dvd_trans h.pn (Nat.dvd_mul_right n a)) hq hper).2 rfl
    have hq0 : 0 < q' := Nat.pos_of_dvd_of_pos hq (Nat.mul_pos m1 b1)
    have := Nat.gcd_le_left m hq0
    exact h.minq _ (Nat.gcd_dvd_right _ _) (by omega) k
end DL

set_option Elab.async false
set_option linter.all false
set_option maxRecDepth 100000
set_option maxHeartbeats 4000000
/-! HP2: strands, what lies over what, one cloth. -/
namespace DL
open PySem L2
/-! ### ways -/
inductive RT {α : Type} (R : α → α → Prop) : α → α → Prop
  | refl (a : α) : RT R a a
  | tail {a b c : α} : RT R a b → R b c → RT R a c
namespace RT
variable {α β : Type} {R R' : α → α → Prop}
theorem one {a b : α} (h : R a b) : RT R a b := .tail (.refl a) h
theorem trans {a b c : α} (h : RT R a b) (g : RT R b c) : RT R a c := by
  induction g with
  | refl => exact h
  | tail _ q ih => exact .tail ih q
theorem mono {a b : α} (h : RT R a b) (i : ∀ a b, R a b → R' a b) : RT R' a b := by
  induction h with
  | refl => exact .refl _
  | tail _ q ih => exact .tail ih (i _ _ q)
theorem rev {a b : α} (h : RT R a b) : RT (fun x y => R y x) b a := by
  induction h with
  | refl => exact .refl _
  | tail _ q ih => exact (one (R := fun x y => R y x) q).trans ih
theorem map {S : β → β → Prop} (π : α → β) {a b : α} (h : RT R a b) (i : ∀ a b, R a b → S (π a) (π b)) : RT S (π a) (π b) := by
  induction h with
  | refl => exact .refl _
  | tail _ q ih => exact .tail ih (i _ _ q)
theorem closed {a b : α} (h : RT R a b) {P : α → Prop} (ha : P a) (hs : ∀ x y, P x → R x y → P y) : P b := by
  induction h with
  | refl => exact ha
  | tail _ q ih => exact hs _ _ ih q
end RT
/-- R between those of I -/
abbrev Rin {α : Type} (I : α → Prop) (R : α → α → Prop) (a b : α) : Prop := I a ∧ I b ∧ R a b
/-- a way from each to each -/
def SC {α : Type} (I : α → Prop) (R : α → α → Prop) : Prop := ∀ s t, I s → I t → RT (Rin I R) s t
section
variable {α β : Type} {I : α → Prop} {R : α → α → Prop} {J : β → Prop} {S : β → β → Prop}
theorem sc_rev : SC I (fun a b => R b a) ↔ SC I R := by
  have key : ∀ {R : α → α → Prop}, SC I R → SC I (fun a b => R b a) := fun {R} h s t hs ht => (h t s ht hs).rev.mono fun a b ⟨h1, h2, h3⟩ => ⟨h2, h1, h3⟩
  exact ⟨fun h => key h, key⟩
theorem sc_of {R' : α → α → Prop} (h : ∀ a b, I a → I b → (R a b ↔ R' a b)) : SC I R ↔ SC I R' :=
  ⟨fun k s t hs ht => (k s t hs ht).mono fun a b ⟨h1, h2, h3⟩ => ⟨h1, h2, (h a b h1 h2).mp h3⟩, fun k s t hs ht => (k s t hs ht).mono fun a b ⟨h1, h2, h3⟩ => ⟨h1, h2, (h a b h1 h2).mpr h3⟩⟩
/-- strands put over others: one cloth exactly together -/
theorem sc_pull (π : β → α) (hI : ∀ s, J s → I (π s)) (sur : ∀ t, I t → ∃ s, J s ∧ π s = t) (hR : ∀ a b, J a → J b → (S a b ↔ R (π a) (π b))) (two : ∀ t, I t → ∃ u, I u ∧ u ≠ t) : SC J S ↔ SC I R := by
  constructor
  · intro h s t hs ht
    obtain ⟨s', h1, rfl⟩ := sur s hs
    obtain ⟨t', h2, rfl⟩ := sur t ht
    exact (h s' t' h1 h2).map π fun a b ⟨k1, k2, k3⟩ => ⟨hI a k1, hI b k2, (hR a b k1 k2).mp k3⟩
  · intro h s t hs ht
    have lift : ∀ {a b : α}, RT (Rin I R) a b → ∀ a', J a' → π a' = a → a = b ∨ ∀ b', J b' → π b' = b → RT (Rin J S) a' b' := by
      intro a b k
      induction k with
      | refl => intro a' _ _; exact .inl rfl
      | @tail b c k q ih =>
        intro a' h1 h2
        refine .inr fun c' h3 h4 => ?_
        obtain ⟨q1, q2, q3⟩ := q
        rcases ih a' h1 h2 with e | e
        · subst e
          refine .one ⟨h1, h3, (hR a' c' h1 h3).mpr ?_⟩
          rw [h2, h4]; exact q3
        · obtain ⟨b', h5, h6⟩ := sur b q1
          refine .tail (e b' h5 h6) ⟨h5, h3, (hR b' c' h5 h3).mpr ?_⟩
          rw [h6, h4]; exact q3
    have far : ∀ s t, J s → J t → π s ≠ π t → RT (Rin J S) s t := fun s t hs ht ne => by
      rcases lift (h _ _ (hI s hs) (hI t ht)) s hs rfl with e | e
      · exact absurd e ne
      · exact e t ht rfl
    by_cases e : π s = π t
    · obtain ⟨u, hu, ne⟩ := two (π s) (hI s hs)
      obtain ⟨u', h1, rfl⟩ := sur u hu
      exact (far s u' hs h1 fun q => ne q.symm).trans (far u' t h1 ht fun q => ne (q.trans e.symm))
    · exact far s t hs ht e
end
/-! ### strands -/
/-- a strand: a warp (true) or a weft, its number -/
abbrev Sd := Bool × Nat
def Ins (m n : Nat) (s : Sd) : Prop := if s.1 = true then s.2 < n else s.2 < m
theorem ins_warp {m n p : Nat} : Ins m n (true, p) ↔ p < n := by simp [Ins]
theorem ins_weft {m n p : Nat} : Ins m n (false, p) ↔ p < m := by simp [Ins]
/-- s lies over t -/
def ov (f : Nat → Nat → Int) : Sd → Sd → Bool
  | (true, p), (false, w) => decide (f w p = 1)
  | (false, w), (true, p) => !decide (f w p = 1)
  | _, _ => false
/-- one cloth -/
def Held (m n : Nat) (f : Nat → Nat → Int) : Prop := SC (Ins m n) fun s t => ov f s t = true
noncomputable instance (m n : Nat) (f : Nat → Nat → Int) : Decidable (Held m n f) := Classical.propDecidable _
def stL (m n : Nat) : List Sd := (List.range n).map (fun p => (true, p)) ++ (List.range m).map fun w => (false, w)
@[simp] theorem stL_len (m n : Nat) : (stL m n).length = n + m := by simp [stL]
theorem mem_stL {m n : Nat} {s : Sd} : s ∈ stL m n ↔ Ins m n s := by
  obtain ⟨b, i⟩ := s
  unfold stL Ins
  cases b <;> simp
theorem nodup_stL (m n : Nat) : (stL m n).Nodup := by
  unfold stL
  rw [List.nodup_append]
  refine ⟨List.Pairwise.map _ (fun a b h => by simpa using h) List.nodup_range, List.Pairwise.map _ (fun a b h => by simpa using h) List.nodup_range, fun a ha b hb => ?_⟩
  obtain ⟨_, _, rfl⟩ := List.mem_map.mp ha
  obtain ⟨_, _, rfl⟩ := List.mem_map.mp hb
  simp
/-- as many as there are: all of them -/
theorem all_of_len {α : Type} [DecidableEq α] {xs L : List α} (h1 : xs.Nodup) (h2 : ∀ x ∈ xs, x ∈ L) (h3 : L.Nodup) : xs.length = L.length ↔ ∀ x ∈ L, x ∈ xs := by
  constructor
  · intro h x hx
    exact Classical.byContradiction fun hn => by
      have hs : ∀ y ∈ xs, y ∈ L.erase x := fun y hy => (List.mem_erase_of_ne (fun e : y = x => hn (by rw [← e]; exact hy))).mpr (h2 y hy)
      have hl : xs.length ≤ (L.erase x).length := by
        have := List.Nodup.length_le_of_subset h1 hs
        exact this
      rw [List.length_erase_of_mem hx] at hl
      have := List.length_pos_of_mem hx
      omega
  · intro h
    have a := List.Nodup.length_le_of_subset h1 h2
    have b := List.Nodup.length_le_of_subset h3 h
    omega
theorem two_Sd {m n : Nat} (m1 : 1 ≤ m) (n1 : 1 ≤ n) : ∀ t, Ins m n t → ∃ u, Ins m n u ∧ u ≠ t := by
  rintro ⟨b, i⟩ h
  cases b
  · exact ⟨(true, 0), by simp [Ins]; omega, by simp⟩
  · exact ⟨(false, 0), by simp [Ins]; omega, by simp⟩
theorem held_times {m n a b : Nat} {f : Nat → Nat → Int} (m1 : 1 ≤ m) (n1 : 1 ≤ n) (a1 : 1 ≤ a) (b1 : 1 ≤ b) : Held (m * b) (n * a) (fun w p => f (w % m) (p % n)) ↔ Held m n f := by
  refine sc_pull (fun s => (s.1, if s.1 = true then s.2 % n else s.2 % m)) ?_ ?_ ?_ (two_Sd m1 n1)
  · rintro ⟨b, i⟩ h
    cases b
    · simpa [Ins] using Nat.mod_lt _ m1
    · simpa [Ins] using Nat.mod_lt _ n1
  · rintro ⟨c, i⟩ h
    refine ⟨(c, i), ?_, ?_⟩
    · cases c
      · simp only [Ins, Bool.false_eq_true, if_false] at h ⊢
        exact Nat.lt_of_lt_of_le h (Nat.le_mul_of_pos_right m b1)
      · simp only [Ins, if_true] at h ⊢
        exact Nat.lt_of_lt_of_le h (Nat.le_mul_of_pos_right n a1)
    · cases c
      · simp only [Ins, Bool.false_eq_true, if_false] at h ⊢
        rw [Nat.mod_eq_of_lt h]
      · simp only [Ins, if_true] at h ⊢
        rw [Nat.mod_eq_of_lt h]
  · rintro ⟨c, i⟩ ⟨d, j⟩ _ _
    cases c <;> cases d <;> simp [ov]
theorem held_turned {m n : Nat} {f : Nat → Nat → Int} (hb : Bits m n f) (m1 : 1 ≤ m) (n1 : 1 ≤ n) : Held m n (fun w p => 1 - f w (n - 1 - p)) ↔ Held m n f := by
  unfold Held
  rw [← sc_rev]
  refine sc_pull (fun s => (s.1, if s.1 = true then n - 1 - s.2 else s.2)) ?_ ?_ ?_ (two_Sd m1 n1)
  · rintro ⟨b, i⟩ h
    cases b
    · simpa [Ins] using h
    · simp [Ins]; omega
  · rintro ⟨c, i⟩ h
    cases c
    · exact ⟨(false, i), h, rfl⟩
    · simp only [Ins, if_true] at h
      refine ⟨(true, n - 1 - i), by simp [Ins]; omega, ?_⟩
      simp; omega
  · rintro ⟨c, i⟩ ⟨d, j⟩ h1 h2
    cases c <;> cases d <;> simp only [ov, Ins, Bool.false_eq_true, if_false, if_true] at h1 h2 ⊢
    · have := hb i h1 (n - 1 - j) (by omega)
      simp; omega
    · have := hb j h2 (n - 1 - i) (by omega)
      simp; omega
theorem held_quartered {m n : Nat} {f : Nat → Nat → Int} (hb : Bits m n f) (m1 : 1 ≤ m) (n1 : 1 ≤ n) : Held n m (fun w p => 1 - f (m - 1 - p) w) ↔ Held m n f := by
  refine sc_pull (fun s => (!s.1, if s.1 = true then m - 1 - s.2 else s.2)) ?_ ?_ ?_ (two_Sd m1 n1)
  · rintro ⟨b, i⟩ h
    cases b
    · simpa [Ins] using h
    · simp [Ins]; omega
  · rintro ⟨c, i⟩ h
    cases c
    · simp only [Ins, Bool.false_eq_true, if_false] at h
      refine ⟨(true, m - 1 - i), by simp [Ins]; omega, ?_⟩
      simp; omega
    · exact ⟨(false, i), h, rfl⟩
  · rintro ⟨c, i⟩ ⟨d, j⟩ h1 h2
    cases c <;> cases d <;> simp only [ov, Ins, Bool.false_eq_true, if_false, if_true, Bool.not_false, Bool.not_true] at h1 h2 ⊢
    · have := hb (m - 1 - j) (by omega) i h1
      simp; omega
    · have := hb (m - 1 - i) (by omega) j h2
      simp; omega
end DL

set_option Elab.async false
set_option linter.all false
set_option maxRecDepth 100000
set_option maxHeartbeats 4000000
/-! HP3: strands put so often, quilts. -/
namespace DL
open PySem L2
theorem flat_range {α : Type} (g : Nat → Nat → α) (k : Nat) : ∀ n, (List.range n).flatMap (fun i => (List.range k).map (g i)) = (List.range (n * k)).map fun x => g (x / k) (x % k)
  | 0 => by simp
  | n + 1 => by
    rw [List.range_succ, List.flatMap_append, flat_range g k n, Nat.succ_mul, List.range_add, List.map_append]
    congr 1
    simp only [List.flatMap_cons, List.flatMap_nil, List.append_nil, List.map_map]
    refine List.map_congr_left fun x hx => ?_
    have hx := List.mem_range.mp hx
    have hk : 0 < k := by omega
    simp only [Function.comp_def]
    rw [show (n * k + x) % k = x by rw [Nat.mul_comm, Nat.mul_add_mod, Nat.mod_eq_of_lt hx], show (n * k + x) / k = n by rw [Nat.mul_comm, Nat.mul_add_div hk, Nat.div_eq_of_lt hx]; omega]
/-- each so often as told -/
def sprd {α : Type} (xs : List α) (ks : List Nat) : List α := (xs.zip ks).flatMap fun p => List.replicate p.2 p.1
theorem sprd_rep {α : Type} : ∀ (xs : List α) (k : Nat), sprd xs (List.replicate xs.length k) = xs.flatMap fun x => List.replicate k x
  | [], _ => rfl
  | x :: xs, k => by
    have ih := sprd_rep xs k
    unfold sprd at ih ⊢
    rw [List.length_cons, List.replicate_succ, List.zip_cons_cons, List.flatMap_cons, List.flatMap_cons, ih]
theorem rep_range {α : Type} (k : Nat) (x : α) : List.replicate k x = (List.range k).map fun _ => x := by
  apply List.ext_getElem (by simp)
  intro i h1 h2
  simp
theorem sprd_rw1 {n k : Nat} {a : Nat → Int} : sprd (rw1 n a) (List.replicate n k) = rw1 (n * k) fun p => a (p / k) := by
  have := sprd_rep (rw1 n a) k
  rw [rw1_len] at this
  rw [this]
  unfold rw1
  rw [List.flatMap_map]
  simp only [rep_range]
  exact flat_range (fun i _ => a i) k n
theorem sprd_gd {m n k : Nat} {f : Nat → Nat → Int} : sprd (gd m n f) (List.replicate m k) = gd (m * k) n fun w => f (w / k) := by
  have := sprd_rep (gd m n f) k
  rw [gd_len] at this
  rw [this]
  unfold gd
  rw [List.flatMap_map]
  simp only [rep_range]
  exact flat_range (fun i _ => rw1 n (f i)) k m
/-- blocks put for cells -/
def blkC (W H : Nat) (f F B : Nat → Nat → Int) (w p : Nat) : Int := if f (w / H) (p / W) = 1 then F (w % H) (p % W) else B (w % H) (p % W)
def qltOf (H : Nat) (full bare : Nat → List Int) (rows : List (List Int)) : List (List Int) := rows.flatMap fun r => (List.range H).map fun v => r.flatMap fun s => if s = 1 then full v else bare v
theorem qlt_gd {m n W H : Nat} {f F B : Nat → Nat → Int} : qltOf H (fun v => rw1 W (F v)) (fun v => rw1 W (B v)) (gd m n f) = gd (m * H) (n * W) (blkC W H f F B) := by
  unfold qltOf gd
  rw [List.flatMap_map]
  have e : ∀ i v : Nat, ((rw1 n (f i)).flatMap fun s => if s = 1 then rw1 W (F v) else rw1 W (B v)) = rw1 (n * W) fun p => if f i (p / W) = 1 then F v (p % W) else B v (p % W) := fun i v => by
    unfold rw1
    rw [List.flatMap_map]
    have : ∀ j, (if f i j = 1 then (List.range W).map (F v) else (List.range W).map (B v)) = (List.range W).map fun x => if f i j = 1 then F v x else B v x := fun j => by split <;> rfl
    simp only [this]
    exact flat_range (fun j x => if f i j = 1 then F v x else B v x) W n
  simp only [e]
  exact flat_range (fun i v => rw1 (n * W) fun p => if f i (p / W) = 1 then F v (p % W) else B v (p % W)) H m
theorem sum_rep (k c : Nat) : (List.replicate c k).sum = c * k := by simp
end DL

set_option Elab.async false
set_option linter.all false
set_option maxRecDepth 100000
set_option maxHeartbeats 4000000
/-! HP4: runs round a list. -/
namespace DL
open PySem L2
/-- one more sign: the last run is longer, or a new one begins -/
def stepG (acc : List (Int × Int)) (s : Int) : List (Int × Int) := match acc.getLast? with
  | some p => if p.1 = s then acc.dropLast ++ [(s, p.2 + 1)] else acc ++ [(s, 1)]
  | none => [(s, 1)]
def grp (xs : List Int) : List (Int × Int) := xs.foldl stepG []
theorem stepG_snoc (pre : List (Int × Int)) (x k s : Int) : stepG (pre ++ [(x, k)]) s = if x = s then pre ++ [(s, k + 1)] else pre ++ [(x, k)] ++ [(s, 1)] := by
  unfold stepG
  rw [List.getLast?_append]
  simp
theorem stepG_nil (s : Int) : stepG [] s = [(s, 1)] := rfl
theorem grp_snoc (xs : List Int) (s : Int) : grp (xs ++ [s]) = stepG (grp xs) s := by simp [grp, List.foldl_append]
theorem grp_ne {xs : List Int} (h : xs ≠ []) : grp xs ≠ [] := by
  rcases List.eq_nil_or_concat xs with rfl | ⟨ys, y, rfl⟩
  · exact absurd rfl h
  · rw [List.concat_eq_append, grp_snoc]
    unfold stepG
    split
    · split <;> simp
    · simp
theorem grp_len (xs : List Int) : (grp xs).length ≤ xs.length := by
  refine snoc_ind (P := fun xs => (grp xs).length ≤ xs.length) (by simp [grp]) (fun xs x ih => ?_) xs
  rw [grp_snoc]
  rcases List.eq_nil_or_concat (grp xs) with h | ⟨ys, y, h⟩
  · rw [h, stepG_nil]; simp
  · rw [h, List.concat_eq_append] at ih ⊢
    rw [stepG_snoc]
    split <;> simp at ih ⊢ <;> omega
def scG (K : Int) (p : Int × Int) : Int × Int := (p.1, p.2 * K)
theorem step_more (pre : List (Int × Int)) (s : Int) : ∀ (j : Nat) (c : Int), (List.replicate j s).foldl stepG (pre ++ [(s, c)]) = pre ++ [(s, c + j)]
  | 0, c => by simp
  | j + 1, c => by
    rw [List.replicate_succ, List.foldl_cons, stepG_snoc, if_pos rfl, step_more pre s j (c + 1)]
    congr 3
    omega
theorem step_rep {K : Nat} (hK : 1 ≤ K) (acc : List (Int × Int)) (s : Int) : (List.replicate K s).foldl stepG (acc.map (scG K)) = (stepG acc s).map (scG K) := by
  obtain ⟨j, rfl⟩ : ∃ j, K = j + 1 := ⟨K - 1, by omega⟩
  rcases List.eq_nil_or_concat acc with rfl | ⟨pre, ⟨x, k⟩, rfl⟩
  · rw [List.replicate_succ, List.foldl_cons]
    have := step_more [] s j 1
    simp only [List.nil_append] at this
    show (List.replicate j s).foldl stepG [(s, 1)] = _
    rw [this, stepG_nil]
    simp [scG]; omega
  · rw [List.concat_eq_append, stepG_snoc, List.map_append, List.map_cons, List.map_nil]
    by_cases q : x = s
    · subst q
      rw [if_pos rfl]
      show (List.replicate (j + 1) x).foldl stepG (pre.map (scG _) ++ [(x, k * _)]) = _
      rw [step_more]
      simp [scG, Int.add_mul]
    · rw [if_neg q, List.replicate_succ, List.foldl_cons]
      show (List.replicate j s).foldl stepG (stepG (pre.map (scG _) ++ [(x, k * _)]) s) = _
      rw [stepG_snoc, if_neg q, step_more]
      simp [scG]; omega
theorem grp_dup {K : Nat} (hK : 1 ≤ K) (xs : List Int) : grp (xs.flatMap fun x => List.replicate K x) = (grp xs).map (scG K) := by
  refine snoc_ind (P := fun xs => grp (xs.flatMap fun x => List.replicate K x) = (grp xs).map (scG K)) (by simp [grp]) (fun xs x ih => ?_) xs
  rw [List.flatMap_append, grp_snoc, ← step_rep hK, ← ih]
  simp [grp, List.foldl_append]
theorem grp_dupF {N K : Nat} (hK : 1 ≤ K) (c : Nat → Int) : grp (rw1 (N * K) fun i => c (i / K)) = (grp (rw1 N c)).map (scG K) := by
  rw [← grp_dup hK]
  congr 1
  unfold rw1
  rw [List.flatMap_map]
  simp only [rep_range]
  exact (flat_range (fun i _ => c i) K N).symm
/-! round the ends -/
def AllOne (N : Nat) (a : Nat → Int) : Prop := ∀ i, i < N → a i = a 0
instance (N : Nat) (a : Nat → Int) : Decidable (AllOne N a) := inferInstanceAs (Decidable (∀ i, i < N → a i = a 0))
/-- a change at i -/
def chg (N : Nat) (a : Nat → Int) (i : Nat) : Bool := !decide (a i = a ((i + (N - 1)) % N))
def chgs (N : Nat) (a : Nat → Int) : List Nat := (List.range N).filter (chg N a)
theorem chgs_ne {N : Nat} {a : Nat → Int} (hN : 1 ≤ N) (h : ¬ AllOne N a) : chgs N a ≠ [] := fun e => h fun i hi => by
  have no : ∀ i, i < N → a i = a ((i + (N - 1)) % N) := fun i hi => by
    have : ¬ i ∈ chgs N a := by rw [e]; simp
    unfold chgs at this
    rw [List.mem_filter] at this
    have q : ¬ chg N a i = true := fun z => this ⟨List.mem_range.mpr hi, z⟩
    unfold chg at q
    simpa using q
  induction i with
  | zero => rfl
  | succ i ih =>
    rw [no (i + 1) hi, show i + 1 + (N - 1) = i + N by omega, Nat.add_mod_right, Nat.mod_eq_of_lt (by omega)]
    exact ih (by omega)
/-- the first change -/
def fst1 (N : Nat) (a : Nat → Int) : Nat := (chgs N a).headD 0
theorem fst1_spec {N : Nat} {a : Nat → Int} (hN : 1 ≤ N) (h : ¬ AllOne N a) : fst1 N a < N ∧ chg N a (fst1 N a) = true ∧ ∀ i, i < fst1 N a → chg N a i = false := by
  have hne := chgs_ne hN h
  unfold fst1
  cases q : chgs N a with
  | nil => exact absurd q hne
  | cons b r =>
    have hb : b ∈ chgs N a := by rw [q]; simp
    obtain ⟨h1, h2⟩ := List.mem_filter.mp hb
    refine ⟨List.mem_range.mp h1, h2, fun i hi => ?_⟩
    have hi : i < b := hi
    cases z : chg N a i with
    | false => rfl
    | true =>
      exfalso
      have hbN := List.mem_range.mp h1
      have hm : i ∈ chgs N a := List.mem_filter.mpr ⟨List.mem_range.mpr (by omega), z⟩
      have pw : (chgs N a).Pairwise (· < ·) := List.Pairwise.filter _ List.pairwise_lt_range
      rw [q] at hm pw
      rcases List.mem_cons.mp hm with e | e
      · omega
      · have := (List.pairwise_cons.mp pw).1 i e; omega
theorem fst1_uniq {N : Nat} {a : Nat → Int} (hN : 1 ≤ N) (h : ¬ AllOne N a) {b : Nat} (h1 : chg N a b = true) (h2 : ∀ i, i < b → chg N a i = false) : fst1 N a = b := by
  obtain ⟨_, k1, k2⟩ := fst1_spec hN h
  rcases Nat.lt_trichotomy (fst1 N a) b with c | c | c
  · rw [h2 _ c] at k1; cases k1
  · exact c
  · rw [k2 _ c] at h1; cases h1
/-- the list from its first change on, round the end -/
def rot (N : Nat) (b : Nat) (a : Nat → Int) (i : Nat) : Int := a ((b + i) % N)
/-- the runs round the list -/
def rrun (N : Nat) (a : Nat → Int) : List (Int × Option Int) := if AllOne N a then [(a 0, none)] else (grp (rw1 N (rot N (fst1 N a) a))).map fun p => (p.1, some p.2)
def scR (K : Int) (p : Int × Option Int) : Int × Option Int := (p.1, p.2.map (· * K))
theorem rrun_dup {N K : Nat} (hN : 1 ≤ N) (hK : 1 ≤ K) (a : Nat → Int) : rrun (N * K) (fun i => a (i / K)) = (rrun N a).map (scR K) := by
  have hNK : 1 ≤ N * K := Nat.mul_pos hN hK
  have all : AllOne (N * K) (fun i => a (i / K)) ↔ AllOne N a := by
    constructor
    · intro h i hi
      have := h (i * K) (Nat.mul_lt_mul_of_pos_right hi hK)
      simp only [Nat.mul_div_cancel _ (show 0 < K from hK), Nat.zero_div] at this
      exact this
    · intro h i hi
      show a (i / K) = a (0 / K)
      rw [Nat.zero_div]
      exact h _ (Nat.div_lt_of_lt_mul (by rw [Nat.mul_comm]; exact hi))
  unfold rrun
  by_cases h : AllOne N a
  · rw [if_pos h, if_pos (all.mpr h)]
    simp [scR]
  · have h' : ¬ AllOne (N * K) (fun i => a (i / K)) := fun z => h (all.mp z)
    rw [if_neg h, if_neg h']
    obtain ⟨b1, b2, b3⟩ := fst1_spec hN h
    obtain ⟨b, hb⟩ : ∃ b, b = fst1 N a := ⟨_, rfl⟩
    rw [← hb] at b1 b2 b3 ⊢
    -- what stands ahead of a place, in the greater list
    have ahead : ∀ i r, i < N → r < K → (((i * K + r) + (N * K - 1)) % (N * K)) / K = if r = 0 then (i + (N - 1)) % N else i := fun i r hi hr => by
      by_cases hr0 : r = 0
      · subst hr0
        rw [if_pos rfl]
        by_cases hi0 : i = 0
        · subst hi0
          have e1 : (0 * K + 0 + (N * K - 1)) % (N * K) = N * K - 1 := by
            rw [Nat.zero_mul, Nat.zero_add, Nat.mod_eq_of_lt (by omega)]
          rw [e1, Nat.zero_add, Nat.mod_eq_of_lt (by omega)]
          have e2 : N * K - 1 = (N - 1) * K + (K - 1) := by
            rw [Nat.sub_mul, Nat.one_mul]
            have : K ≤ N * K := Nat.le_mul_of_pos_left K hN
            omega
          rw [e2, Nat.mul_comm, Nat.mul_add_div hK, Nat.div_eq_of_lt (by omega)]; omega
        · have e1 : (i * K + 0 + (N * K - 1)) % (N * K) = i * K - 1 := by
            have h1 : 1 ≤ i * K := Nat.mul_pos (by omega) hK
            have h2 : i * K < N * K := Nat.mul_lt_mul_of_pos_right hi hK
            rw [show i * K + 0 + (N * K - 1) = (i * K - 1) + N * K by omega, Nat.add_mod_right, Nat.mod_eq_of_lt (by omega)]
          rw [e1, show i + (N - 1) = (i - 1) + N by omega, Nat.add_mod_right, Nat.mod_eq_of_lt (by omega)]
          have e2 : i * K - 1 = (i - 1) * K + (K - 1) := by
            rw [Nat.sub_mul, Nat.one_mul]
            have : K ≤ i * K := Nat.le_mul_of_pos_left K (by omega)
            omega
          rw [e2, Nat.mul_comm, Nat.mul_add_div hK, Nat.div_eq_of_lt (by omega)]; omega
      · rw [if_neg hr0]
        have h2 : i * K + r < N * K := by
          have : (i + 1) * K ≤ N * K := Nat.mul_le_mul_right K hi
          rw [Nat.succ_mul] at this; omega
        rw [show i * K + r + (N * K - 1) = (i * K + (r - 1)) + N * K by omega, Nat.add_mod_right, Nat.mod_eq_of_lt (by omega), Nat.mul_comm, Nat.mul_add_div hK, Nat.div_eq_of_lt (by omega)]; omega
    have here : ∀ i r, r < K → (i * K + r) / K = i := fun i r hr => by rw [Nat.mul_comm, Nat.mul_add_div hK, Nat.div_eq_of_lt hr]; omega
    have cg : ∀ i r, i < N → r < K → chg (N * K) (fun i => a (i / K)) (i * K + r) = if r = 0 then chg N a i else false := fun i r hi hr => by
      unfold chg
      simp only [ahead i r hi hr, here i r hr]
      split <;> simp
    have hf : fst1 (N * K) (fun i => a (i / K)) = b * K := by
      refine fst1_uniq hNK h' ?_ fun i hi => ?_
      · have := cg b 0 b1 hK
        rw [if_pos rfl, Nat.add_zero] at this
        rw [this]; exact b2
      · have hq : i / K < b := Nat.div_lt_of_lt_mul (by rw [Nat.mul_comm]; exact hi)
        have := cg (i / K) (i % K) (by omega) (Nat.mod_lt _ hK)
        rw [Nat.mul_comm (i / K) K, Nat.div_add_mod] at this
        rw [this, b3 _ hq]
        split <;> rfl
    rw [hf]
    have er : rw1 (N * K) (rot (N * K) (b * K) fun i => a (i / K)) = rw1 (N * K) fun i => rot N b a (i / K) := rw1_ext fun i hi => by
      show a ((b * K + i) % (N * K) / K) = a ((b + i / K) % N)
      congr 1
      have e1 : b * K + i = (b + i / K) * K + i % K := by
        rw [Nat.add_mul, Nat.add_assoc, Nat.mul_comm (i / K) K, Nat.div_add_mod]
      rw [e1, Nat.mul_comm N K, Nat.mod_mul_right_div_self, Nat.mul_comm, Nat.mul_add_div hK, Nat.div_eq_of_lt (Nat.mod_lt _ hK)]; simp
    rw [er, grp_dupF hK, List.map_map, List.map_map]
    rfl
theorem rot_list {N b : Nat} {a : Nat → Int} (h : b < N) : (rw1 N a).drop b ++ (rw1 N a).take b = rw1 N (rot N b a) := by
  apply List.ext_getElem (by simp; omega)
  intro i h1 h2
  simp only [rw1_len] at h2
  by_cases q : i < N - b
  · rw [List.getElem_append_left (by simpa using q)]
    simp [rw1, rot, Nat.mod_eq_of_lt (show b + i < N by omega)]
  · rw [List.getElem_append_right (by simp; omega)]
    have e : (b + i) % N = i - (N - b) := by
      rw [show b + i = (i - (N - b)) + N by omega, Nat.add_mod_right, Nat.mod_eq_of_lt (by omega)]
    simp [rw1, rot, e]
end DL

set_option Elab.async false
set_option linter.all false
set_option maxRecDepth 100000
set_option maxHeartbeats 4000000
/-! HP5: runs, more: what they are the runs of; of repeats; longest ones. -/
namespace DL
open PySem L2
def flatR (L : List (Int × Int)) : List Int := L.flatMap fun p => List.replicate p.2.toNat p.1
/-- neighbours are unlike, none is empty -/
def VR (L : List (Int × Int)) : Prop := (∀ p ∈ L, 1 ≤ p.2) ∧ ∀ (pre post : List (Int × Int)) (p q : Int × Int), L = pre ++ p :: q :: post → p.1 ≠ q.1
theorem flatR_append (L M : List (Int × Int)) : flatR (L ++ M) = flatR L ++ flatR M := by simp [flatR]
theorem VR.init {L : List (Int × Int)} {p : Int × Int} (h : VR (L ++ [p])) : VR L :=
  ⟨fun q hq => h.1 q (List.mem_append_left _ hq), fun pre post a b e => h.2 pre (post ++ [p]) a b (by rw [e]; simp)⟩
theorem VR.snoc {L : List (Int × Int)} {p : Int × Int} (h : VR L) (hp : 1 ≤ p.2) (hl : ∀ q, L.getLast? = some q → q.1 ≠ p.1) : VR (L ++ [p]) := by
  refine ⟨fun q hq => ?_, fun pre post a b e => ?_⟩
  · rcases List.mem_append.mp hq with hq | hq
    · exact h.1 q hq
    · rw [List.mem_singleton.mp hq]; exact hp
  · rcases List.eq_nil_or_concat post with rfl | ⟨ps, x, rfl⟩
    · have e2 : L ++ [p] = (pre ++ [a]) ++ [b] := by rw [e]; simp
      obtain ⟨e3, e4⟩ := List.append_inj' e2 rfl
      simp only [List.cons.injEq, and_true] at e4
      rw [← e4]
      exact hl a (by rw [e3]; simp)
    · have e2 : L ++ [p] = (pre ++ a :: b :: ps) ++ [x] := by rw [e]; simp
      obtain ⟨e3, _⟩ := List.append_inj' e2 rfl
      exact h.2 pre ps a b e3
theorem VR.last {L : List (Int × Int)} {q p : Int × Int} (h : VR (L ++ [q] ++ [p])) : q.1 ≠ p.1 := h.2 L [] q p (by simp)
theorem grp_flat : ∀ L : List (Int × Int), VR L → grp (flatR L) = L := fun L => by
  refine snoc_ind (P := fun L => VR L → grp (flatR L) = L) (fun _ => rfl) (fun L p ih h => ?_) L
  have ih := ih h.init
  have hp : 1 ≤ p.2 := h.1 p (by simp)
  obtain ⟨s, k⟩ := p
  obtain ⟨j, hj⟩ : ∃ j : Nat, k.toNat = j + 1 := ⟨k.toNat - 1, by have : 1 ≤ k := hp; omega⟩
  have e : flatR (L ++ [(s, k)]) = flatR L ++ List.replicate k.toNat s := by rw [flatR_append]; simp [flatR]
  rw [e]
  unfold grp at ih ⊢
  rw [List.foldl_append, ih, hj, List.replicate_succ, List.foldl_cons]
  have h1 : stepG L s = L ++ [(s, 1)] := by
    rcases List.eq_nil_or_concat L with rfl | ⟨ys, ⟨x, y⟩, rfl⟩
    · rfl
    · rw [List.concat_eq_append] at h ⊢
      rw [stepG_snoc, if_neg h.last]
  rw [h1, step_more]
  congr 3
  have : 1 ≤ k := hp
  omega
theorem flat_grp (xs : List Int) : flatR (grp xs) = xs ∧ VR (grp xs) := by
  have v0 : VR (grp []) := ⟨fun p hp => by simp [grp] at hp, fun pre post p q e => by
    have := congrArg List.length e
    simp [grp] at this⟩
  refine snoc_ind (P := fun xs => flatR (grp xs) = xs ∧ VR (grp xs)) ⟨rfl, v0⟩ (fun xs x ih => ?_) xs
  rw [grp_snoc]
  obtain ⟨i1, i2⟩ := ih
  rcases List.eq_nil_or_concat (grp xs) with e | ⟨ys, ⟨y, k⟩, e⟩
  · rw [e] at i1 i2 ⊢
    rw [stepG_nil]
    refine ⟨by rw [← i1]; rfl, ?_⟩
    have := i2.snoc (p := (x, 1)) (Int.le_refl 1) (fun q hq => by cases hq)
    simpa using this
  · rw [List.concat_eq_append] at e
    rw [e] at i1 i2 ⊢
    have hk : 1 ≤ k := i2.1 (y, k) (by simp)
    rw [stepG_snoc]
    split
    · rename_i q
      subst q
      refine ⟨?_, ?_⟩
      · rw [← i1, flatR_append, flatR_append, List.append_assoc]
        congr 1
        simp only [flatR, List.flatMap_cons, List.flatMap_nil, List.append_nil]
        rw [show (k + 1).toNat = k.toNat + 1 by omega, List.replicate_succ']
      · refine i2.init.snoc (by show 1 ≤ k + 1; omega) fun q hq => ?_
        obtain ⟨zs, hz⟩ : ∃ zs, ys = zs ++ [q] := by
          rcases List.eq_nil_or_concat ys with rfl | ⟨zs, z, rfl⟩
          · cases hq
          · refine ⟨zs, ?_⟩
            rw [List.concat_eq_append] at hq ⊢
            simp at hq
            rw [hq]
        rw [hz] at i2
        exact i2.last
    · rename_i q
      refine ⟨?_, ?_⟩
      · rw [flatR_append, i1]; rfl
      · refine i2.snoc (Int.le_refl 1) fun z hz => ?_
        simp at hz
        rw [← hz]; exact q
theorem rep_succ {α : Type} (k : Nat) (xs : List α) : rep (k + 1) xs = xs ++ rep k xs := by
  unfold rep
  rw [List.replicate_succ, List.flatten_cons]
theorem flatR_rep (K : Nat) (L : List (Int × Int)) : flatR (rep K L) = rep K (flatR L) := by
  induction K with
  | zero => rfl
  | succ K ih => rw [rep_succ, rep_succ, flatR_append, ih]
theorem VR.append {L M : List (Int × Int)} (h : VR L) (g : VR M) (hn : ∀ p q, L.getLast? = some p → M.head? = some q → p.1 ≠ q.1) : VR (L ++ M) := by
  refine ⟨fun p hp => ?_, fun pre post p q e => ?_⟩
  · rcases List.mem_append.mp hp with hp | hp
    · exact h.1 p hp
    · exact g.1 p hp
  · rcases List.append_eq_append_iff.mp e with ⟨as, e1, e2⟩ | ⟨bs, e1, e2⟩
    · exact g.2 as post p q e2
    · cases bs with
      | nil => exact g.2 [] post p q (by simpa using e2.symm)
      | cons b1 bs =>
        cases bs with
        | nil =>
          simp only [List.cons_append, List.nil_append, List.cons.injEq] at e2
          exact hn p q (by rw [e1, ← e2.1]; simp) (by rw [← e2.2]; rfl)
        | cons b2 bs =>
          simp only [List.cons_append, List.cons.injEq] at e2
          exact h.2 pre bs p q (by rw [e1, e2.1, e2.2.1])
theorem VR.nil : VR [] := ⟨fun p hp => by simp at hp, fun pre post p q e => by
  have := congrArg List.length e
  simp at this⟩
theorem VR.rep {L : List (Int × Int)} (h : VR L) (hn : ∀ p q, L.head? = some p → L.getLast? = some q → p.1 ≠ q.1) : ∀ K, VR (DL.rep K L)
  | 0 => VR.nil
  | K + 1 => by
    rw [rep_succ]
    refine h.append (VR.rep h hn K) fun p q h1 h2 => ?_
    have : L.head? = some q := by
      cases K with
      | zero => cases h2
      | succ K =>
        rw [rep_succ] at h2
        cases L with
        | nil => cases h1
        | cons x L => simpa using h2
    exact fun e => hn q p this h1 e.symm
theorem flat_head {L : List (Int × Int)} (h : VR L) {p : Int × Int} (hp : L.head? = some p) : (flatR L).head? = some p.1 := by
  cases L with
  | nil => cases hp
  | cons x L =>
    cases hp
    have := h.1 p (by simp)
    obtain ⟨j, hj⟩ : ∃ j : Nat, p.2.toNat = j + 1 := ⟨p.2.toNat - 1, by omega⟩
    simp [flatR, hj, List.replicate_succ]
theorem flat_last {L : List (Int × Int)} (h : VR L) {p : Int × Int} (hp : L.getLast? = some p) : (flatR L).getLast? = some p.1 := by
  rcases List.eq_nil_or_concat L with rfl | ⟨ys, y, rfl⟩
  · cases hp
  · rw [List.concat_eq_append] at h hp ⊢
    simp at hp
    subst hp
    have := h.1 y (by simp)
    obtain ⟨j, hj⟩ : ∃ j : Nat, y.2.toNat = j + 1 := ⟨y.2.toNat - 1, by omega⟩
    rw [flatR_append]
    simp [flatR, hj, List.replicate_succ']
/-- repeated without end -/
theorem rrun_times {N K : Nat} (hN : 1 ≤ N) (hK : 1 ≤ K) (a : Nat → Int) : rrun (N * K) (fun i => a (i % N)) = if AllOne N a then rrun N a else rep K (rrun N a) := by
  have hNK : 1 ≤ N * K := Nat.mul_pos hN hK
  have le : N ≤ N * K := Nat.le_mul_of_pos_right N hK
  have all : AllOne (N * K) (fun i => a (i % N)) ↔ AllOne N a := by
    constructor
    · intro h i hi
      have := h i (by omega)
      simp only [Nat.mod_eq_of_lt hi, Nat.zero_mod] at this
      exact this
    · intro h i hi
      show a (i % N) = a (0 % N)
      rw [Nat.zero_mod]
      exact h _ (Nat.mod_lt _ hN)
  unfold rrun
  by_cases h : AllOne N a
  · simp only [h, all.mpr h, if_true, Nat.zero_mod]
  · have h' : ¬ AllOne (N * K) (fun i => a (i % N)) := fun z => h (all.mp z)
    simp only [h, h', if_false]
    obtain ⟨b1, b2, b3⟩ := fst1_spec hN h
    obtain ⟨b, hb⟩ : ∃ b, b = fst1 N a := ⟨_, rfl⟩
    rw [← hb] at b1 b2 b3 ⊢
    have prev : ∀ i, (i + (N * K - 1)) % (N * K) % N = (i % N + (N - 1)) % N := fun i => by
      rw [Nat.mod_mod_of_dvd _ (Nat.dvd_mul_right N K)]
      obtain ⟨J, rfl⟩ : ∃ J, K = J + 1 := ⟨K - 1, by omega⟩
      rw [Nat.mul_succ, show i + (N * J + N - 1) = (i + (N - 1)) + N * J by omega, Nat.add_mul_mod_self_left, Nat.mod_add_mod]
    have cg : ∀ i, chg (N * K) (fun i => a (i % N)) i = chg N a (i % N) := fun i => by
      unfold chg
      simp only [prev]
    have hf : fst1 (N * K) (fun i => a (i % N)) = b := by
      refine fst1_uniq hNK h' ?_ fun i hi => ?_
      · rw [cg, Nat.mod_eq_of_lt b1]; exact b2
      · rw [cg, Nat.mod_eq_of_lt (by omega)]; exact b3 i hi
    rw [hf]
    have er : rw1 (N * K) (rot (N * K) b fun i => a (i % N)) = rep K (rw1 N (rot N b a)) := by
      rw [rep_rw1 K hN]
      refine rw1_ext fun i hi => ?_
      show a ((b + i) % (N * K) % N) = a ((b + i % N) % N)
      rw [Nat.mod_mod_of_dvd _ (Nat.dvd_mul_right N K), Nat.add_mod_mod]
    rw [er]
    obtain ⟨L, hL⟩ : ∃ L, L = grp (rw1 N (rot N b a)) := ⟨_, rfl⟩
    obtain ⟨f1, f2⟩ := flat_grp (rw1 N (rot N b a))
    rw [← hL] at f1 f2
    have hy0 : (rw1 N (rot N b a)).head? = some (a b) := by
      obtain ⟨k, rfl⟩ : ∃ k, N = k + 1 := ⟨N - 1, by omega⟩
      simp [rw1, rot, List.range_succ_eq_map, Nat.mod_eq_of_lt b1]
    have hy1 : (rw1 N (rot N b a)).getLast? = some (a ((b + (N - 1)) % N)) := by
      obtain ⟨k, rfl⟩ : ∃ k, N = k + 1 := ⟨N - 1, by omega⟩
      simp [rw1, rot, List.range_succ]
    have b4 : ¬ a b = a ((b + (N - 1)) % N) := by
      unfold chg at b2
      simpa using b2
    have key : grp (rep K (rw1 N (rot N b a))) = rep K L := by
      rw [← f1, ← flatR_rep]
      apply grp_flat
      rw [← f1] at hy0 hy1
      refine VR.rep f2 (fun p q hp hq e => b4 ?_) K
      rw [flat_head f2 hp] at hy0
      rw [flat_last f2 hq] at hy1
      simp only [Option.some.injEq] at hy0 hy1
      rw [← hy0, ← hy1]; exact e
    rw [← hL, key]
    exact (rep_map (fun p : Int × Int => (p.1, some p.2)) K L).symm
end DL

set_option Elab.async false
set_option linter.all false
set_option maxRecDepth 100000
set_option maxHeartbeats 4000000
/-! HP6: runs round the ends as runs in three turns. -/
namespace DL
open PySem L2
theorem rngI_ab {a b : Nat} (h : a ≤ b) (hb : b ≤ 100000) : rngI [.int (a : Nat), .int (b : Nat)] = some ((List.range' a (b - a)).map fun d => PyData.int (d : Nat)) := by
  unfold rngI
  simp only
  rw [if_pos ⟨by omega, by omega, by omega, by omega⟩]
  unfold rngD
  rw [show ((b : Int) - (a : Int)).toNat = b - a by omega, List.range'_eq_map_range, List.map_map]
  congr 1
theorem count_all {N : Nat} {a : Nat → Int} (hN : 1 ≤ N) : (rw1 N a).count (a 0) = N ↔ AllOne N a := by
  have e : (rw1 N a).count (a 0) = (rw1 N a).length ↔ ∀ b ∈ rw1 N a, a 0 = b := List.count_eq_length
  rw [rw1_len] at e
  rw [e]
  constructor
  · intro h i hi
    exact (h _ (List.mem_map.mpr ⟨i, List.mem_range.mpr hi, rfl⟩)).symm
  · intro h b hb
    obtain ⟨i, hi, rfl⟩ := mem_rw1 hb
    exact (h i hi).symm
/-- without end -/
def cyc (N : Nat) (a : Nat → Int) (i : Nat) : Int := a (i % N)
theorem cyc_chg {N : Nat} {a : Nat → Int} (hN : 1 ≤ N) {i : Nat} (hi : 1 ≤ i) : chg N a (i % N) = !decide (cyc N a i = cyc N a (i - 1)) := by
  unfold chg cyc
  have : (i % N + (N - 1)) % N = (i - 1) % N := by
    rw [Nat.mod_add_mod, show i + (N - 1) = (i - 1) + N by omega, Nat.add_mod_right]
  rw [this]
structure Rd3 (N b : Nat) (a : Nat → Int) (at_ E : Nat) (L : List (Int × Int)) : Prop where
  e1 : at_ ≤ E
  e2 : b + N ≤ E
  e3 : E ≤ b + 2 * N
  fl : flatR L = rw1 (E - (b + N)) fun i => cyc N a (b + N + i)
  vr : VR L
  no : ∀ i, at_ ≤ i → i < E → cyc N a i = cyc N a (i - 1)
  ch : cyc N a E ≠ cyc N a (E - 1)
  ls : ∀ q, L.getLast? = some q → q.1 = cyc N a (E - 1)
  ln : L.length ≤ E - (b + N)
section
variable {N b at_ E : Nat} {a : Nat → Int} {L : List (Int × Int)}
theorem cyc_b (hN : 1 ≤ N) (h : ¬ AllOne N a) (hb : b = fst1 N a) (k : Nat) (hk : 1 ≤ k) : cyc N a (b + k * N) ≠ cyc N a (b + k * N - 1) ∧ ∀ i, k * N ≤ i → i < b + k * N → cyc N a i = cyc N a (i - 1) := by
  obtain ⟨b1, b2, b3⟩ := fst1_spec hN h
  rw [← hb] at b1 b2 b3
  have kN : N ≤ k * N := Nat.le_mul_of_pos_left N hk
  constructor
  · have := cyc_chg (a := a) hN (i := b + k * N) (by omega)
    rw [Nat.add_mul_mod_self_right, Nat.mod_eq_of_lt b1, b2] at this
    simpa using this.symm
  · intro i h1 h2
    have := cyc_chg (a := a) hN (i := i) (by omega)
    have e : i % N = i - k * N := by
      have h3 : i = (i - k * N) + k * N := by omega
      rw [h3, Nat.add_mul_mod_self_right, Nat.mod_eq_of_lt (by omega)]; omega
    rw [e, b3 _ (by omega)] at this
    simpa using this.symm
theorem Rd3.start (hN : 1 ≤ N) (h : ¬ AllOne N a) (hb : b = fst1 N a) : Rd3 N b a N (b + N) [] := by
  have := cyc_b hN h hb 1 (by omega)
  rw [Nat.one_mul] at this
  exact ⟨by omega, Nat.le_refl _, by omega, by simp [flatR, rw1], VR.nil, this.2, this.1, fun q hq => by simp at hq, by simp⟩
theorem Rd3.skip (r : Rd3 N b a at_ E L) (h : at_ < E) : Rd3 N b a (at_ + 1) E L := ⟨h, r.e2, r.e3, r.fl, r.vr, fun i h1 h2 => r.no i (by omega) h2, r.ch, r.ls, r.ln⟩
theorem Rd3.more (hN : 1 ≤ N) (r : Rd3 N b a at_ at_ L) {E' : Nat} (h1 : at_ < E') (h2 : E' ≤ b + 2 * N) (hs : ∀ i, at_ ≤ i → i < E' → cyc N a i = cyc N a at_) (hc : cyc N a E' ≠ cyc N a at_) : Rd3 N b a (at_ + 1) E' (L ++ [(cyc N a at_, ((E' - at_ : Nat) : Int))]) := by
  have h3 := r.e2
  refine ⟨h1, by omega, h2, ?_, ?_, ?_, ?_, ?_, ?_⟩
  · rw [flatR_append, r.fl]
    have e : E' - (b + N) = (at_ - (b + N)) + (E' - at_) := by omega
    rw [e]
    unfold rw1
    rw [List.range_add, List.map_append]
    congr 1
    simp only [flatR, List.flatMap_cons, List.flatMap_nil, List.append_nil, Int.toNat_natCast, rep_range, List.map_map]
    refine List.map_congr_left fun x hx => ?_
    have hx := List.mem_range.mp hx
    simp only [Function.comp_def]
    rw [show b + N + (at_ - (b + N) + x) = at_ + x by omega]
    exact (hs _ (by omega) (by omega)).symm
  · refine r.vr.snoc (by show (1 : Int) ≤ ((E' - at_ : Nat) : Int); omega) fun q hq => ?_
    rw [r.ls q hq]
    exact fun e => r.ch e.symm
  · intro i g1 g2
    rw [hs i (by omega) g2, hs (i - 1) (by omega) (by omega)]
  · rw [hs (E' - 1) (by omega) (by omega)]; exact hc
  · intro q hq
    simp at hq
    rw [← hq, hs (E' - 1) (by omega) (by omega)]
  · have := r.ln
    rw [List.length_append, List.length_singleton]
    omega
theorem Rd3.done (hN : 1 ≤ N) (h : ¬ AllOne N a) (hb : b = fst1 N a) (r : Rd3 N b a (2 * N) E L) : L = grp (rw1 N (rot N b a)) := by
  have k := cyc_b hN h hb 2 (by omega)
  have e : E = b + 2 * N := by
    have h1 := r.e1
    have h2 := r.e3
    rcases Nat.lt_or_ge E (b + 2 * N) with q | q
    · exact absurd (k.2 E h1 q) r.ch
    · omega
  have f := r.fl
  rw [e, show b + 2 * N - (b + N) = N by omega] at f
  have g : (rw1 N fun i => cyc N a (b + N + i)) = rw1 N (rot N b a) := rw1_ext fun i hi => by
    show a ((b + N + i) % N) = a ((b + i) % N)
    rw [show b + N + i = (b + i) + N by omega, Nat.add_mod_right]
  rw [g] at f
  rw [← f, grp_flat L r.vr]
end
end DL

set_option Elab.async false
set_option linter.all false
set_option maxRecDepth 100000
set_option maxHeartbeats 4000000
/-! HP7: small data have reprs; dicts with tuple keys; the longest of runs. -/
namespace DL
open PySem L2
/-- depth n at most, w signs of repr at most -/
structure Sm (n w : Nat) (d : PyData) : Prop where
  ok : okR d = true
  wt : DL.wt d ≤ w
  dp : d.depth ≤ n
theorem wtL_le {w : Nat} : ∀ {xs : List PyData}, (∀ x ∈ xs, DL.wt x ≤ w) → wtL xs ≤ (w + 2) * xs.length
  | [], _ => by simp [wtL]
  | x :: xs, h => by
    have h1 := h x (by simp)
    have h2 := wtL_le (xs := xs) fun y hy => h y (List.mem_cons_of_mem _ hy)
    simp only [wtL, List.length_cons, Nat.mul_succ]
    omega
theorem Sm.mono {n w n' w' : Nat} {d : PyData} (s : Sm n w d) (h1 : n ≤ n') (h2 : w ≤ w') : Sm n' w' d := ⟨s.ok, Nat.le_trans s.wt h2, Nat.le_trans s.dp h1⟩
theorem Sm.int {i : Int} (h : i.natAbs < 100000000000000000000) : Sm 0 21 (.int i) := ⟨by simp only [okR, decide_eq_true_eq]; exact h, by simp [DL.wt], by simp [PyData.depth]⟩
theorem Sm.none : Sm 0 21 .none := ⟨by simp [okR], by simp [DL.wt], by simp [PyData.depth]⟩
theorem Sm.bool (b : Bool) : Sm 0 21 (.bool b) := ⟨by simp [okR], by simp [DL.wt], by simp [PyData.depth]⟩
theorem Sm.list {n w k : Nat} {xs : List PyData} (h : ∀ x ∈ xs, Sm n w x) (hl : xs.length ≤ k) : Sm (n + 1) ((w + 2) * k + 3) (.list xs) := by
  refine ⟨by simp only [okR]; rw [okRL_all]; exact fun x hx => (h x hx).ok, ?_, depth_list fun x hx => (h x hx).dp⟩
  have := wtL_le (xs := xs) fun x hx => (h x hx).wt
  have h2 := Nat.mul_le_mul_left (w + 2) hl
  simp only [DL.wt]
  omega
theorem Sm.tuple {n w k : Nat} {xs : List PyData} (h : ∀ x ∈ xs, Sm n w x) (hl : xs.length ≤ k) : Sm (n + 1) ((w + 2) * k + 3) (.tuple xs) := by
  refine ⟨by simp only [okR]; rw [okRL_all]; exact fun x hx => (h x hx).ok, ?_, depth_tuple fun x hx => (h x hx).dp⟩
  have := wtL_le (xs := xs) fun x hx => (h x hx).wt
  have h2 := Nat.mul_le_mul_left (w + 2) hl
  simp only [DL.wt]
  omega
theorem Sm.list2 {n w : Nat} {x y : PyData} (h : Sm n w x) (g : Sm n w y) : Sm (n + 1) ((w + 2) * 2 + 3) (.list [x, y]) := Sm.list (fun z hz => by
  rcases List.mem_cons.mp hz with hz | hz
  · rw [hz]; exact h
  · rw [List.mem_singleton.mp hz]; exact g) (by simp)
theorem Sm.repr {n w : Nat} {d : PyData} (s : Sm n w d) (h1 : n ≤ 60) (h2 : w ≤ 1000000) : ∃ t : Str, dRepr [d] = some (.str t) := by
  refine ⟨d.shown, ?_⟩
  show (if _ then _ else _) = _
  rw [if_pos (reprOk_of s.ok (Nat.le_trans s.wt h2) (Nat.le_trans s.dp h1))]
/-! ### dicts -/
theorem mGet_nil (k : List Key) : mGet [] k = none := rfl
theorem mGet_cons (p : PyData × PyData) (kvs : ML) (k : List Key) : mGet (p :: kvs) k = if keyOf p.1 = some k then some p.2 else mGet kvs k := by
  unfold mGet
  rw [List.find?_cons]
  by_cases h : keyOf p.1 = some k <;> simp [h]
theorem mGet_map (kvs : ML) (k k' : List Key) (d : PyData) : mGet (kvs.map fun p => if keyOf p.1 = some k then (p.1, d) else p) k' = if k' = k then (mGet kvs k).map fun _ => d else mGet kvs k' := by
  induction kvs with
  | nil => simp [mGet_nil]
  | cons p kvs ih =>
    rw [List.map_cons, mGet_cons, mGet_cons, mGet_cons, ih]
    by_cases h1 : keyOf p.1 = some k
    · by_cases h2 : k' = k
      · subst h2; simp [h1]
      · have h3 : ¬ k = k' := fun q => h2 q.symm
        simp [h1, h2, h3]
    · by_cases h2 : k' = k
      · subst h2; simp [h1]
      · simp [h1, h2]
theorem mGet_append (kvs kvs' : ML) (k : List Key) : mGet (kvs ++ kvs') k = (mGet kvs k).or (mGet kvs' k) := by
  induction kvs with
  | nil => simp [mGet_nil]
  | cons p kvs ih =>
    rw [List.cons_append, mGet_cons, mGet_cons, ih]
    by_cases h : keyOf p.1 = some k <;> simp [h]
theorem mGet_put (kvs : ML) (k k' : List Key) (d : PyData) : mGet (mPut kvs k d) k' = if k' = k then some d else mGet kvs k' := by
  unfold mPut
  by_cases h : (mGet kvs k).isSome = true
  · rw [if_pos h, mGet_map]
    obtain ⟨x, hx⟩ := Option.isSome_iff_exists.mp h
    by_cases h2 : k' = k <;> simp [h2, hx]
  · rw [if_neg h, mGet_append, mGet_cons, keyOf_keyT, mGet_nil]
    by_cases h2 : k' = k
    · subst h2
      have : mGet kvs k' = none := by simpa using h
      simp [this]
    · have h3 : ¬ k = k' := fun q => h2 q.symm
      simp [h2, h3]
theorem mPut_len (kvs : ML) (k : List Key) (d : PyData) : (mPut kvs k d).length ≤ kvs.length + 1 := by
  unfold mPut
  split <;> simp
/-! ### the longest -/
theorem maxI_append : ∀ (l r : List Int) (m : Int), maxI m (l ++ r) = maxI (maxI m l) r
  | [], _, _ => rfl
  | x :: l, r, m => maxI_append l r (if x > m then x else m)
theorem maxI_le {l l' : List Int} (h : ∀ x ∈ l, x ∈ l') : maxI 0 l ≤ maxI 0 l' := by
  have g := maxI_ge l' 0
  rcases maxI_mem l 0 with q | q
  · rw [q]; exact g.1
  · exact g.2 _ (h _ q)
/-- the longest, none where one has no end -/
def mxo (l : List (Option Int)) : Option Int := if none ∈ l then none else some (maxI 0 (l.filterMap id))
theorem mxo_congr {l l' : List (Option Int)} (h : ∀ x, x ∈ l ↔ x ∈ l') : mxo l = mxo l' := by
  have e : maxI 0 (l.filterMap id) = maxI 0 (l'.filterMap id) := by
    apply Int.le_antisymm
    · exact maxI_le fun x hx => by
        obtain ⟨y, h1, h2⟩ := List.mem_filterMap.mp hx
        exact List.mem_filterMap.mpr ⟨y, (h y).mp h1, h2⟩
    · exact maxI_le fun x hx => by
        obtain ⟨y, h1, h2⟩ := List.mem_filterMap.mp hx
        exact List.mem_filterMap.mpr ⟨y, (h y).mpr h1, h2⟩
  unfold mxo
  by_cases q : none ∈ l
  · rw [if_pos q, if_pos ((h _).mp q)]
  · rw [if_neg q, if_neg fun z => q ((h _).mpr z), e]
/-- the lengths of the runs of a sign -/
def los (s : Int) (l : List (Int × Option Int)) : List (Option Int) := l.filterMap fun p => if p.1 = s then some p.2 else none
theorem los_append (s : Int) (l r : List (Int × Option Int)) : los s (l ++ r) = los s l ++ los s r := by simp [los]
theorem los_len (s : Int) (l : List (Int × Option Int)) : (los s l).length ≤ l.length := List.length_filterMap_le _ _
theorem mem_los {s : Int} {l : List (Int × Option Int)} {o : Option Int} : o ∈ los s l ↔ (s, o) ∈ l := by
  unfold los
  rw [List.mem_filterMap]
  constructor
  · rintro ⟨⟨x, y⟩, h1, h2⟩
    by_cases q : x = s
    · subst q; simp at h2; rw [← h2]; exact h1
    · simp [q] at h2
  · intro h
    exact ⟨_, h, by simp⟩
theorem mxo_snoc {l : List (Option Int)} (h : none ∉ l) (x : Int) : maxI 0 ((l ++ [some x]).filterMap id) = if x > maxI 0 (l.filterMap id) then x else maxI 0 (l.filterMap id) := by
  rw [List.filterMap_append, maxI_append]; rfl
theorem rep_mem {α : Type} {k : Nat} (hk : 1 ≤ k) {l : List α} {x : α} : x ∈ rep k l ↔ x ∈ l := by
  obtain ⟨j, rfl⟩ : ∃ j, k = j + 1 := ⟨k - 1, by omega⟩
  rw [rep_succ, List.mem_append]
  constructor
  · rintro (h | h)
    · exact h
    · induction j with
      | zero => simp [rep] at h
      | succ j ih =>
        rw [rep_succ, List.mem_append] at h
        rcases h with h | h
        · exact h
        · exact ih (by omega) h
  · exact .inl
theorem rrun_times_mem {N K : Nat} (hN : 1 ≤ N) (hK : 1 ≤ K) (a : Nat → Int) {p : Int × Option Int} : p ∈ rrun (N * K) (fun i => a (i % N)) ↔ p ∈ rrun N a := by
  rw [rrun_times hN hK]
  split
  · exact Iff.rfl
  · exact rep_mem hK
theorem rrun_len {N : Nat} {a : Nat → Int} (hN : 1 ≤ N) : (rrun N a).length ≤ N := by
  unfold rrun
  split
  · simpa using hN
  · rw [List.length_map]
    have := grp_len (rw1 N (rot N (fst1 N a) a))
    rw [rw1_len] at this
    exact this
theorem rrun_sgn {N : Nat} {a : Nat → Int} (hN : 1 ≤ N) (h : ∀ i, i < N → a i = 0 ∨ a i = 1) : ∀ p ∈ rrun N a, (p.1 = 0 ∨ p.1 = 1) ∧ (p.2 = none ∨ ∃ k : Int, p.2 = some k ∧ 1 ≤ k ∧ k ≤ N) := by
  intro p hp
  unfold rrun at hp
  split at hp
  · rw [List.mem_singleton.mp hp]
    exact ⟨h 0 (by omega), .inl rfl⟩
  · obtain ⟨q, hq, rfl⟩ := List.mem_map.mp hp
    obtain ⟨f1, f2⟩ := flat_grp (rw1 N (rot N (fst1 N a) a))
    have q1 := f2.1 q hq
    have hm : ∀ x ∈ List.replicate q.2.toNat q.1, x ∈ rw1 N (rot N (fst1 N a) a) := fun x hx => by
      rw [← f1]
      exact List.mem_flatMap.mpr ⟨q, hq, hx⟩
    have hl : q.2.toNat ≤ N := by
      have : (List.replicate q.2.toNat q.1).length ≤ (flatR (grp (rw1 N (rot N (fst1 N a) a)))).length := by
        obtain ⟨pre, post, e⟩ := List.append_of_mem hq
        rw [e, flatR_append]
        simp [flatR]
        omega
      rw [f1, rw1_len, List.length_replicate] at this
      exact this
    have h1 := hm q.1 (List.mem_replicate.mpr ⟨by omega, rfl⟩)
    obtain ⟨i, hi, e⟩ := mem_rw1 h1
    refine ⟨?_, .inr ⟨q.2, rfl, q1, by omega⟩⟩
    rw [e]
    exact h _ (Nat.mod_lt _ (by omega))
end DL

set_option Elab.async false
set_option linter.all false
set_option maxRecDepth 100000
set_option maxHeartbeats 4000000
namespace PK92
open PySem DL
@[simp] theorem e_is_integer {v : PyData} (h : okT v = true) : m_is_integer [.d v] = some (.d (.bool (isInt v)), [.d v]) := by
  cases v with
  | dict kvs => rw [okT_dict h]; simp [m_is_integer, defn, isInt, tgIs]
  | _ => simp [m_is_integer, defn, isInt, tgIs]
@[simp] theorem e_is_within {v : PyData} {a b : Int} (h : okT v = true) : m_is_within [.d v, .d (.int a), .d (.int b)] = some (.d (.bool (isIn a b v)), [.d v, .d (.int a), .d (.int b)]) := by
  simp [m_is_within, defn, e_is_integer h]
  cases v with
  | int i =>
    simp [isInt, isIn]
    by_cases h1 : a ≤ i
    · simp [h1]
    · simp [h1, Int.not_le.mp h1]
  | _ => simp [isInt, isIn]
/-- every item of xs within 0 .. n - 1 -/
def inAll (n : Int) (xs : List PyData) : Bool := xs.all (isIn 0 (n - 1))
def okTs (xs : List PyData) : Bool := xs.all okT
def okTT : PyData → Bool
  | .tuple xs => okTs xs
  | v => okT v
/-! rising -/
/-- a lift of n shafts -/
def isLot (n : Int) : PyData → Bool
  | .tuple xs => inAll n xs && rising (xs.filterMap fun x => match x with
    | .int i => some i
    | _ => none)
  | _ => false
theorem lot_ints {n : Int} {xs : List PyData} (h : inAll n xs = true) : ∃ ns : List Int, xs = ns.map .int ∧ (∀ k ∈ ns, 0 ≤ k ∧ k ≤ n - 1) := ints_of h
theorem un_ints (ns : List Int) : ((ns.map PyData.int).filterMap fun x => match x with
    | .int i => some i
    | _ => none) = ns := by
  induction ns with
  | nil => rfl
  | cons n ns ih => simp [ih]
def short (m : Nat) : PyData → Bool
  | .tuple xs => decide (xs.length ≤ m)
  | _ => true
def isTup (n : Int) : PyData → Bool
  | .tuple xs => decide ((xs.length : Int) = n)
  | _ => false
@[simp] theorem e_is_tuple {v : PyData} {n : Int} (h : okT v = true) : m_is_tuple [.d v, .d (.int n)] = some (.d (.bool (isTup n v)), [.d v, .d (.int n)]) := by
  cases v with
  | dict kvs => rw [okT_dict h]; simp [m_is_tuple, defn, tgIs, isTup]
  | _ => simp [m_is_tuple, defn, tgIs, isTup]
/-! drafts -/
theorem e_is_headed {c : PyData} {w : Str} : m_is_headed [.d (.tuple [.str w, c]), .d (.str w)] = some (.d (.bool true), [.d (.tuple [.str w, c]), .d (.str w)]) := by
  apply OV.eq
  have ht : isTup 2 (.tuple [.str w, c]) = true := rfl
  rw [m_is_headed, OV_defn]
  simp [ht, tgIs]
variable {rows : List (List Int)} {n : Nat}
theorem bits_all (v : IsDr rows n) {r : List Int} (h : r ∈ rows) : (r.map PyData.int).all (isIn 0 1) = true := by
  rw [List.all_eq_true]
  intro x hx
  obtain ⟨i, hi, rfl⟩ := List.mem_map.mp hx
  have := v.bit r h i hi
  simp [isIn]; omega
theorem e_are_rows_of (v : IsDr rows n) : m_are_rows_of [.d (tT rows), .d (.int 2)] = some (.d (.bool true), [.d (tT rows), .d (.int 2)]) := by
  apply OV.eq
  obtain ⟨r0, h0, hl0, hm0⟩ := v.at0
  have r1 := v.r1
  have r2 := v.r2
  have n1 := v.n1
  have n2 := v.n2
  have a1 : (1 : Int) ≤ rows.length := by omega
  have a2 : (rows.length : Int) ≤ 12 := by omega
  have a3 : rows.length < 100000 := by omega
  have a4 : (1 : Int) ≤ n := by omega
  have a5 : (n : Int) ≤ 12 := by omega
  rw [m_are_rows_of, OV_defn]
  simp [tgIs, a1, a2, a3]
  apply WLc.mapOf tI (fun _ => .bool true) (fun r hr => by simp [tgIs])
  simp [all_map, h0, hl0, a3, a4, a5]
  apply WLc.mapOf tI (fun _ => .bool false) (fun r hr => by simp [v.len r hr, h0, hl0])
  simp [any_map, a3]
  apply WLc.mapOf tI (fun r => .bool true) (fun r hr => by
    have := v.len r hr
    have : r.length < 100000 := by omega
    simp [this]
    apply WLc.mapOf PyData.int (fun x => .bool (isIn 0 1 (.int x))) (fun x hx => by simp)
    have : (r.all fun x => isIn 0 1 (.int x)) = true := by
      have := bits_all v hr
      rwa [List.all_map] at this
    simp [all_map, this])
  simp [all_map]
theorem e_is_draft_value (v : IsDr rows n) : m_is_draft_value [.d (drD rows)] = some (.d (.bool true), [.d (drD rows)]) := by
  apply OV.eq
  have h : m_is_headed [.d (drD rows), .d (.str "draft")] = some (.d (.bool true), [.d (drD rows), .d (.str "draft")]) := e_is_headed
  rw [m_is_draft_value, OV_defn]
  simp [h, e_are_rows_of v]
theorem e_want_draft (v : IsDr rows n) : m_want_draft [.d (drD rows)] = some (.d .none, [.d (drD rows)]) := by
  apply OV.eq
  rw [m_want_draft, OV_defn]
  simp [e_is_draft_value v]
theorem e_many_warps (v : IsDr rows n) : m_many_warps [.d (drD rows)] = some (.d (.int n), [.d (drD rows)]) := by
  apply OV.eq
  obtain ⟨r0, h0, hl0, hm0⟩ := v.at0
  rw [m_many_warps, OV_defn]
  simp [h0, hl0]
variable {rows ts : List (List Int)} {m n : Nat} {f g : Nat → Nat → Int}
theorem cmul {i j : Int} (h : -1000000 ≤ i ∧ i ≤ 1000000) : L2.CMul i j := .inl ⟨by omega, by omega⟩
theorem cdiv {i n : Int} (h1 : 0 < n) (h2 : n < 1000000) : L2.CDiv i n := ⟨h1, by omega⟩
@[simp] theorem e_with_rows_L (hl : ts.length < 100000) : m_with_rows [.d (drD rows), .d (.list (ts.map fun r => .list (r.map .int)))] = some (.d (drD ts), [.d (drD rows), .d (.list (ts.map fun r => .list (r.map .int)))]) := by
  apply OV.eq
  rw [m_with_rows, OV_defn]
  simp [hl]
  apply WLc.mapOf (fun r : List Int => PyData.list (r.map .int)) tI (fun r hr => by simp)
  simp
@[simp] theorem e_with_rows_T (hl : ts.length < 100000) : m_with_rows [.d (drD rows), .d (.list (ts.map tI))] = some (.d (drD ts), [.d (drD rows), .d (.list (ts.map tI))]) := by
  apply OV.eq
  rw [m_with_rows, OV_defn]
  simp [hl]
  apply WLc.mapOf tI tI (fun r hr => by simp)
  simp
theorem mul_tI {ns : List Int} {k : Nat} (h : ns.length ≤ 1000) (hk : k ≤ 1000) : dMulX (tI ns) (.int (k : Nat)) = some (tI (rep k ns)) := by
  show dMulX (.tuple (ns.map .int)) (.int k) = _
  rw [dMulX_t, if_pos ⟨by omega, by omega, by simpa using h⟩, Int.toNat_natCast, rep_map]; rfl
theorem mul_lT {ts : List (List Int)} {k : Nat} (h : ts.length ≤ 1000) (hk : k ≤ 1000) : dMulX (.list (ts.map tI)) (.int (k : Nat)) = some (.list ((rep k ts).map tI)) := by
  show (if (0 : Int) ≤ k ∧ (k : Int) ≤ 1000 ∧ (ts.map tI).length ≤ 1000 then some (PyData.list (List.replicate (k : Int).toNat (ts.map tI)).flatten) else none) = _
  rw [if_pos ⟨by omega, by omega, by simpa using h⟩, Int.toNat_natCast, rep_map]
theorem e_times_over (v : IsDr rows n) {a b : Nat} (ha : a ≤ 12) (hb : b ≤ 12) : m_times_over [.d (drD rows), .d (.int (a : Nat)), .d (.int (b : Nat))] = some (.d (drD (rep b (rows.map (rep a)))), [.d (drD rows), .d (.int (a : Nat)), .d (.int (b : Nat))]) := by
  apply OV.eq
  have r2 := v.r2
  have a3 : rows.length < 100000 := by omega
  rw [m_times_over, OV_defn]
  simp [a3]
  apply WLc.mapOf tI (fun r => tI (rep a r)) (fun r hr => by
    have := v.len r hr
    have := v.n2
    simp [mul_tI (show r.length ≤ 1000 by omega) (show a ≤ 1000 by omega)])
  have e : (rows.map fun r => tI (rep a r)) = (rows.map (rep a)).map tI := by rw [List.map_map]; rfl
  have hl : (rep b (rows.map (rep a))).length < 100000 := by
    have h4 : b * rows.length ≤ 12 * 12 := Nat.mul_le_mul hb r2
    simp; omega
  rw [e]
  simp [-List.map_map, mul_lT (show (rows.map (rep a)).length ≤ 1000 by simp; omega) (show b ≤ 1000 by omega), e_with_rows_T hl]
theorem e_times_gd (z : Sz m n) (h : Bits m n f) {a b : Nat} (ha : a ≤ 12) (hb : b ≤ 12) : m_times_over [.d (drD (gd m n f)), .d (.int (a : Nat)), .d (.int (b : Nat))] = some (.d (drD (gd (m * b) (n * a) fun w p => f (w % m) (p % n))), [.d (drD (gd m n f)), .d (.int (a : Nat)), .d (.int (b : Nat))]) := by
  rw [e_times_over (gd_dr z h) ha hb, gd_map (rep a) (fun w _ => rep_rw1 a z.n1), rep_gd b z.m1]
@[simp] theorem e_want_number {i a b : Int} (h1 : a ≤ i) (h2 : i ≤ b) : m_want_number [.d (.int i), .d (.int a), .d (.int b)] = some (.d .none, [.d (.int i), .d (.int a), .d (.int b)]) := by
  apply OV.eq
  rw [m_want_number, OV_defn]
  simp [isIn, h1, h2]
theorem e_many_wefts (rows : List (List Int)) : m_many_wefts [.d (drD rows)] = some (.d (.int rows.length), [.d (drD rows)]) := by
  apply OV.eq
  rw [m_many_wefts, OV_defn]
  simp
/-- repeated -/
def tmC (m n : Nat) (f : Nat → Nat → Int) (w p : Nat) : Int := f (w % m) (p % n)
theorem bits_tm (z : Sz m n) (h : Bits m n f) {M N : Nat} : Bits M N (tmC m n f) := fun w _ p _ => h _ (Nat.mod_lt _ z.m1) _ (Nat.mod_lt _ z.n1)
theorem mul_le {a b c : Nat} (h : a * b ≤ c) (ha : 1 ≤ a) : b ≤ c := Nat.le_trans (Nat.le_mul_of_pos_left b ha) h
theorem e_repeated (z : Sz m n) (h : Bits m n f) {a b : Nat} (a1 : 1 ≤ a) (b1 : 1 ≤ b) (ha : n * a ≤ 12) (hb : m * b ≤ 12) : m_repeated [.d (drD (gd m n f)), .d (.int (a : Nat)), .d (.int (b : Nat))] = some (.d (drD (gd (m * b) (n * a) (tmC m n f))), [.d (drD (gd m n f)), .d (.int (a : Nat)), .d (.int (b : Nat))]) := by
  apply OV.eq
  have a2 := mul_le ha z.n1
  have b2 := mul_le hb z.m1
  have v := gd_dr z h
  have n2 := z.n2
  have m2 := z.m2
  have k1 : (1 : Int) ≤ a := by omega
  have k2 : (a : Int) ≤ 12 := by omega
  have k3 : (1 : Int) ≤ b := by omega
  have k4 : (b : Int) ≤ 12 := by omega
  have k5 : (n : Int) * a ≤ 12 := by exact_mod_cast ha
  have k6 : (m : Int) * b ≤ 12 := by exact_mod_cast hb
  have c1 : L2.CMul (n : Int) a := cmul (by omega)
  have c2 : L2.CMul (m : Int) b := cmul (by omega)
  rw [m_repeated, OV_defn]
  simp [e_want_draft v, e_want_number k1 k2, e_want_number k3 k4, e_many_warps v, e_many_wefts, c1, c2, Int.not_lt.mpr k5, Int.not_lt.mpr k6, e_times_gd z h a2 b2]
  rfl
/-- contrary -/
def coC (f : Nat → Nat → Int) (w p : Nat) : Int := 1 - f w p
def toC (n : Nat) (f : Nat → Nat → Int) (w p : Nat) : Int := 1 - f w (n - 1 - p)
def quC (m : Nat) (f : Nat → Nat → Int) (w p : Nat) : Int := 1 - f (m - 1 - p) w
theorem bits_co (h : Bits m n f) : Bits m n (coC f) := fun w hw p hp => by
  have := h w hw p hp
  unfold coC; omega
theorem bits_to (h : Bits m n f) : Bits m n (toC n f) := fun w hw p hp => by
  have := h w hw (n - 1 - p) (by omega)
  unfold toC; omega
theorem bits_qu (h : Bits m n f) : Bits n m (quC m f) := fun w hw p hp => by
  have := h (m - 1 - p) (by omega) w hw
  unfold quC; omega
theorem Sz.sw (z : Sz m n) : Sz n m := ⟨z.n1, z.n2, z.m1, z.m2⟩
variable {rows ts : List (List Int)} {m n : Nat} {f g : Nat → Nat → Int}
theorem pints_map' (ns : List Int) : ((ns.map PyData.int).filterMap fun x => match x with
    | .int i => some i
    | _ => none) = ns := un_ints ns
theorem isLot_tI {k : Int} {ns : List Int} (h : LotI k ns) : isLot k (tI ns) = true := by
  show (inAll k (ns.map .int) && rising ((ns.map PyData.int).filterMap fun x => match x with
    | .int i => some i
    | _ => none)) = true
  have : inAll k (ns.map .int) = true := by
    unfold inAll
    rw [List.all_map, List.all_eq_true]
    intro x hx
    have := h.2 x hx
    simp [isIn]; omega
  rw [this]
  exact (congrArg rising (un_ints ns)).trans ((rising_pw ns).mpr h.1)
theorem okTT_tI (ns : List Int) : okTT (tI ns) = true := by
  show (ns.map PyData.int).all okT = true
  rw [List.all_map, List.all_eq_true]
  intro x hx; rfl
theorem short_tI {k : Nat} {ns : List Int} (h : ns.length ≤ k) : short k (tI ns) = true := by
  show decide ((ns.map PyData.int).length ≤ k) = true
  simpa using h
/-- what stands at the crossings of a lot -/
def partOf (rows : List (List Int)) (xs ys : List Int) : List (List Int) := ys.map fun w => xs.map fun p => nth (nth rows w) p
/-- k numbers from lo on -/
def span (lo k : Nat) : List Int := (List.range k).map fun i => ((lo + i : Nat) : Int)
theorem span_lot {lo k t : Nat} (h : lo + k ≤ t) : LotI t (span lo k) := by
  refine ⟨?_, fun x hx => ?_⟩
  · unfold span
    rw [List.pairwise_map]
    exact List.pairwise_lt_range.imp fun h => by omega
  · obtain ⟨i, hi, rfl⟩ := List.mem_map.mp hx
    have := List.mem_range.mp hi
    omega
theorem partOf_gd {M N lo k lo2 k2 : Nat} (h1 : lo + k ≤ N) (h2 : lo2 + k2 ≤ M) (f : Nat → Nat → Int) : partOf (gd M N f) (span lo k) (span lo2 k2) = gd k2 k fun w p => f (lo2 + w) (lo + p) := by
  unfold partOf span gd
  rw [List.map_map]
  refine List.map_congr_left fun w hw => ?_
  have hw := List.mem_range.mp hw
  simp only [Function.comp_def, List.map_map]
  unfold rw1
  refine List.map_congr_left fun p hp => ?_
  have hp := List.mem_range.mp hp
  have e1 := nth_gd (f := f) (n := N) (show lo2 + w < M by omega)
  show nth (nth (gd M N f) _) _ = _
  rw [e1, nth_rw1 (by omega)]
theorem rngD_span (lo k : Nat) : rngD (lo : Int) k = (span lo k).map .int := by
  unfold rngD span
  rw [List.map_map]
  refine List.map_congr_left fun i _ => ?_
  simp
/-! the least repeat -/
theorem e_divisors (h : n ≤ 1000) : m_divisors [.d (.int (n : Nat))] = some (.own false ((divs n).map fun d => PyData.int (d : Nat)), [.d (.int (n : Nat))]) := by
  apply OV.eq
  rw [m_divisors, OV_defn]
  simp [rngI_from1 (show n ≤ 100000 by omega)]
  refine ⟨by omega, ?_⟩
  apply WLc.fmapOf (fun d : Nat => PyData.int (d : Nat)) (fun d => if n % d = 0 then some (.int (d : Nat)) else none) (fun d hd => by
    have := List.mem_range'_1.mp hd
    have c : 0 < d := by omega
    have e : ((n : Int) % d = 0) ↔ n % d = 0 := by omega
    by_cases q : n % d = 0
    · simp [q, c, e.mpr q]
    · have q' : ¬ ((n : Int) % d = 0) := fun z => q (e.mp z)
      simp [q, c, q'])
  have e : (List.range' 1 n).filterMap (fun d => if n % d = 0 then some (PyData.int (d : Nat)) else none) = (divs n).map fun d => PyData.int (d : Nat) := by
    unfold divs
    generalize List.range' 1 n = l
    induction l with
    | nil => rfl
    | cons d l ih => by_cases q : n % d = 0 <;> simp [q, ih]
  simp [e]
theorem e_corner (z : Sz m n) (h : Bits m n f) {p q : Nat} (hp : p ≤ n) (hq : q ≤ m) : m_corner [.d (drD (gd m n f)), .d (.int (p : Nat)), .d (.int (q : Nat))] = some (.d (drD (gd q p f)), [.d (drD (gd m n f)), .d (.int (p : Nat)), .d (.int (q : Nat))]) := by
  apply OV.eq
  have m2 := z.m2
  have a1 : q < 100000 := by omega
  rw [m_corner, OV_defn]
  simp [cut_tT_to (gd m n f) (show (0 : Int) ≤ q by omega), gd_take hq, a1]
  apply WLc.mapOf tI (fun r => tI (r.take p)) (fun r hr => by
    simp [cut_tI_to r (show (0 : Int) ≤ p by omega)])
  have e : ((gd q n f).map fun r => tI (r.take p)) = (gd q p f).map tI := by
    rw [← gd_map (f := f) (fun r => r.take p) (fun w _ => rw1_take hp), List.map_map]; rfl
  rw [e]
  have a2 : (gd q p f).length < 100000 := by simpa using a1
  simp [-List.map_map, e_with_rows_T a2]
theorem w_least (z : Sz m n) (h : Bits m n f) {Q : SD × List SD → Prop} (k : ∀ p q, IsLeast m n f p q → Q (.d (drD (gd q p f)), [.d (drD (gd m n f))])) : OV (m_least_repeat [.d (drD (gd m n f))]) Q := by
  have m1 := z.m1
  have n1 := z.n1
  have m2 := z.m2
  have n2 := z.n2
  have v := gd_dr z h
  rw [m_least_repeat, OV_defn]
  simp [e_want_draft v, e_many_warps v, e_many_wefts, e_divisors (show n ≤ 1000 by omega)]
  apply WFor.invOfA (fun d : Nat => PyData.int (d : Nat)) (fun pre S => ∃ t1 t2 t3, S = [.d (drD (gd m n f)), t1, t2, t3] ∧ ∀ p ∈ pre, ∀ q, q ∣ m → ¬ Per m n f p q) ⟨_, _, _, rfl, by simp⟩
  · rintro pre p post S he ⟨t1, t2, t3, rfl, hno⟩
    have pp : p ∣ n := (mem_divs n1).mp (by rw [he]; simp)
    have p1 := Nat.pos_of_dvd_of_pos pp n1
    have p2 := Nat.le_of_dvd n1 pp
    have below : ∀ p', p' ∣ n → p' < p → p' ∈ pre := fun p' h1 h2 => by
      have h3 := (mem_divs n1).mpr h1
      have pw := divs_pw n
      rw [he] at h3 pw
      rcases List.mem_append.mp h3 with h3 | h3
      · exact h3
      · rcases List.mem_cons.mp h3 with h3 | h3
        · omega
        · have := (List.pairwise_cons.mp (List.pairwise_append.mp pw).2.1).1 p' h3
          omega
    simp [e_many_wefts, e_divisors (show m ≤ 1000 by omega)]
    apply WFor.invOfA (fun d : Nat => PyData.int (d : Nat)) (fun pre2 S => ∃ t2 t3, S = [.d (drD (gd m n f)), .d (.int (p : Nat)), t2, t3] ∧ ∀ q ∈ pre2, ¬ Per m n f p q) ⟨_, _, rfl, by simp⟩
    · rintro pre2 q post2 S he2 ⟨t2, t3, rfl, hno2⟩
      have qq : q ∣ m := (mem_divs m1).mp (by rw [he2]; simp)
      have q1 := Nat.pos_of_dvd_of_pos qq m1
      have q2 := Nat.le_of_dvd m1 qq
      have below2 : ∀ q', q' ∣ m → q' < q → q' ∈ pre2 := fun p' h1 h2 => by
        have h3 := (mem_divs m1).mpr h1
        have pw := divs_pw m
        rw [he2] at h3 pw
        rcases List.mem_append.mp h3 with h3 | h3
        · exact h3
        · rcases List.mem_cons.mp h3 with h3 | h3
          · omega
          · have := (List.pairwise_cons.mp (List.pairwise_append.mp pw).2.1).1 p' h3
            omega
      have zc : Sz q p := ⟨q1, by omega, p1, by omega⟩
      have hc : Bits q p f := fun w hw x hx => h w (by omega) x (by omega)
      obtain ⟨u, hu⟩ : ∃ u, u = n / p := ⟨_, rfl⟩
      obtain ⟨u', hu'⟩ : ∃ u', u' = m / q := ⟨_, rfl⟩
      have d1 : (n : Int) / p = (u : Int) := by rw [hu]; simp
      have d2 : (m : Int) / q = (u' : Int) := by rw [hu']; simp
      have c1 : L2.CDiv (n : Int) p := cdiv (by omega) (by omega)
      have c2 : L2.CDiv (m : Int) q := cdiv (by omega) (by omega)
      have e1 : n / p ≤ 12 := Nat.le_trans (Nat.div_le_self n p) n2
      have e2 : m / q ≤ 12 := Nat.le_trans (Nat.div_le_self m q) m2
      have e3 : q * (m / q) = m := Nat.mul_div_cancel' qq
      have e4 : p * (n / p) = n := Nat.mul_div_cancel' pp
      have et := e_times_gd zc hc e1 e2
      rw [e3, e4, ← hu, ← hu'] at et
      have eq : (gd m n fun w x => f (w % q) (x % p)) = gd m n f ↔ Per m n f p q := ⟨fun e => gd_inj e, fun hp => gd_ext hp⟩
      by_cases hp : Per m n f p q
      · simp [e_corner z h p2 q2, e_many_warps v, e_many_wefts, c1, c2, d1, d2, et, eq.mpr hp]
        exact k p q ⟨pp, qq, hp, fun p' h1 h2 => hno p' (below p' h1 h2), fun q' h1 h2 => hno2 q' (below2 q' h1 h2)⟩
      · have hp' : ¬ (gd m n fun w x => f (w % q) (x % p)) = gd m n f := fun z => hp (eq.mp z)
        simp [e_corner z h p2 q2, e_many_warps v, e_many_wefts, c1, c2, d1, d2, et, hp']
        refine ⟨_, _, rfl, fun q' hq' => ?_⟩
        rcases List.mem_append.mp hq' with hq' | hq'
        · exact hno2 q' hq'
        · rw [List.mem_singleton.mp hq']; exact hp
    · rintro S ⟨t2, t3, rfl, hno2⟩
      simp
      refine ⟨_, _, _, rfl, fun p' hp' q hq => ?_⟩
      rcases List.mem_append.mp hp' with hp' | hp'
      · exact hno p' hp' q hq
      · rw [List.mem_singleton.mp hp']; exact hno2 q ((mem_divs m1).mpr hq)
  · rintro S ⟨t1, t2, t3, rfl, hno⟩
    exact absurd (fun w hw x hx => by rw [Nat.mod_eq_of_lt hw, Nat.mod_eq_of_lt hx]) (hno n ((mem_divs n1).mpr (Nat.dvd_refl n)) m (Nat.dvd_refl m))
variable {rows ts : List (List Int)} {m n : Nat} {f g : Nat → Nat → Int}
def wd (b : Bool) : Str := if b = true then "warp" else "weft"
def stD (s : Sd) : PyData := .tuple [.str (wd s.1), .int (s.2 : Nat)]
@[simp] theorem ix_st0 (s : Sd) : dIx (stD s) (.int 0) = some (.str (wd s.1)) := by show L2.atI _ _ = _; simp [atI_of]
@[simp] theorem ix_st1 (s : Sd) : dIx (stD s) (.int 1) = some (.int (s.2 : Nat)) := by show L2.atI _ _ = _; simp [atI_of]
theorem fold_wp (i : Int) : PyData.tuple [.str "warp", .int i] = .tuple [.str (wd true), .int i] := rfl
theorem fold_wf (i : Int) : PyData.tuple [.str "weft", .int i] = .tuple [.str (wd false), .int i] := rfl
theorem wd_inj {a b : Bool} : wd a = wd b ↔ a = b := by
  have h : ("warp" : Str) ≠ "weft" := by decide +kernel
  cases a <;> cases b <;> simp [wd, h, h.symm]
theorem enc_st : IsEnc 1 stD := ⟨fun s => by
    unfold stD
    rw [fit_tuple]
    have h1 : PyData.strOk "warp" = true := by decide +kernel
    have h2 : PyData.strOk "weft" = true := by decide +kernel
    obtain ⟨b, i⟩ := s
    cases b <;> simp [fit_str, fit_int, wd, h1, h2], fun s t => by
    obtain ⟨b, i⟩ := s
    obtain ⟨c, j⟩ := t
    unfold stD
    simp only [PyData.eqv, PyData.eqvAll, Bool.and_true]
    rw [Bool.eq_iff_iff]
    simp only [Bool.and_eq_true, beq_iff_eq, decide_eq_true_eq, Prod.mk.injEq, wd_inj]
    exact and_congr Iff.rfl (by omega)⟩
theorem eq_st (s t : Sd) : dEq (stD s) (stD t) = some (.bool (decide (s = t))) := dEq_enc enc_st (by decide) _ _
theorem wd_warp (b : Bool) : (wd b = "warp") = (b = true) := propext ⟨fun h => wd_inj.mp (show wd b = wd true from h), fun h => by rw [h]; rfl⟩
theorem e_strands_of (v : IsDr rows n) : m_strands_of [.d (drD rows)] = some (.d (.list ((stL rows.length n).map stD)), [.d (drD rows)]) := by
  apply OV.eq
  have n2 := v.n2
  have r2 := v.r2
  have a1 := rngI_nat n (show n ≤ 100000 by omega)
  have a2 := rngI_nat rows.length (show rows.length ≤ 100000 by omega)
  rw [m_strands_of, OV_defn]
  simp [e_many_warps v, e_many_wefts, a1, a2]
  refine ⟨by omega, ?_⟩
  apply WLc.mapOf PyData.int (fun i => stD (true, i.toNat)) (fun i hi => by
    have := mem_upto.mp hi
    simp [stD, wd]
    omega)
  simp [e_many_wefts, a2]
  refine ⟨by omega, ?_⟩
  apply WLc.mapOf PyData.int (fun i => stD (false, i.toNat)) (fun i hi => by
    have := mem_upto.mp hi
    simp [stD, wd]
    omega)
  simp [show n + rows.length ≤ 100000 by omega]
  simp [stL, upto, Function.comp_def]
theorem e_cell_between (s t : Sd) : m_cell_between [.d (stD s), .d (stD t)] = some (.d (.tuple [.int (if s.1 = true then t.2 else s.2 : Nat), .int (if s.1 = true then s.2 else t.2 : Nat)]), [.d (stD s), .d (stD t)]) := by
  apply OV.eq
  rw [m_cell_between, OV_defn]
  obtain ⟨b, i⟩ := s
  cases b <;> simp [wd_warp]
theorem e_lies_over (z : Sz m n) (h : Bits m n f) {s t : Sd} (hs : Ins m n s) (ht : Ins m n t) : m_lies_over [.d (drD (gd m n f)), .d (stD s), .d (stD t)] = some (.d (.bool (ov f s t)), [.d (drD (gd m n f)), .d (stD s), .d (stD t)]) := by
  apply OV.eq
  rw [m_lies_over, OV_defn]
  obtain ⟨b, i⟩ := s
  obtain ⟨c, j⟩ := t
  cases b <;> cases c <;> simp only [Ins, Bool.false_eq_true, if_false, if_true] at hs ht
  · simp [ov]
  · have h1 := atI_gdN (f := f) (n := n) hs
    have h2 := atI_rw1N (a := f i) ht
    simp [wd_inj, e_cell_between, h1, h2, wd_warp, ov, eq_bb]
  · have h1 := atI_gdN (f := f) (n := n) ht
    have h2 := atI_rw1N (a := f j) hs
    simp [wd_inj, e_cell_between, h1, h2, wd_warp, ov, eq_bb]
  · simp [ov]
theorem e_below (z : Sz m n) (h : Bits m n f) {s : Sd} (hs : Ins m n s) : m_below [.d (drD (gd m n f)), .d (stD s)] = some (.own false (((stL m n).filter fun t => ov f s t).map stD), [.d (drD (gd m n f)), .d (stD s)]) := by
  apply OV.eq
  have m2 := z.m2
  have n2 := z.n2
  have v := gd_dr z h
  have e := e_strands_of v
  rw [gd_len] at e
  rw [m_below, OV_defn]
  simp [e]
  refine ⟨by omega, ?_⟩
  apply WLc.fmapOf stD (fun t => if ov f s t = true then some (stD t) else none) (fun t ht => by
    have ht := mem_stL.mp ht
    by_cases q : ov f s t = true
    · simp [e_lies_over z h hs ht, q]
    · simp [e_lies_over z h hs ht, q])
  have e : (stL m n).filterMap (fun t => if ov f s t = true then some (stD t) else none) = ((stL m n).filter fun t => ov f s t).map stD := by
    generalize stL m n = l
    induction l with
    | nil => rfl
    | cons d l ih => by_cases q : ov f s d = true <;> simp [q, ih]
  simp [e]
theorem e_above (z : Sz m n) (h : Bits m n f) {s : Sd} (hs : Ins m n s) : m_above [.d (drD (gd m n f)), .d (stD s)] = some (.own false (((stL m n).filter fun t => ov f t s).map stD), [.d (drD (gd m n f)), .d (stD s)]) := by
  apply OV.eq
  have m2 := z.m2
  have n2 := z.n2
  have v := gd_dr z h
  have e := e_strands_of v
  rw [gd_len] at e
  rw [m_above, OV_defn]
  simp [e]
  refine ⟨by omega, ?_⟩
  apply WLc.fmapOf stD (fun t => if ov f t s = true then some (stD t) else none) (fun t ht => by
    have ht := mem_stL.mp ht
    by_cases q : ov f t s = true
    · simp [e_lies_over z h ht hs, q]
    · simp [e_lies_over z h ht hs, q])
  have e : (stL m n).filterMap (fun t => if ov f t s = true then some (stD t) else none) = ((stL m n).filter fun t => ov f t s).map stD := by
    generalize stL m n = l
    induction l with
    | nil => rfl
    | cons d l ih => by_cases q : ov f d s = true <;> simp [q, ih]
  simp [e]
variable {rows ts : List (List Int)} {m n : Nat} {f g : Nat → Nat → Int}
def kk (s : Sd) : List L2.Key := [.inr (wd s.1), .inl (s.2 : Nat)]
theorem key_st (s : Sd) : keyOf (stD s) = some (kk s) := rfl
theorem keyT_kk (s : Sd) : keyT (kk s) = stD s := rfl
theorem kk_inj {s t : Sd} : kk s = kk t ↔ s = t := by
  obtain ⟨b, i⟩ := s
  obtain ⟨c, j⟩ := t
  unfold kk
  simp only [List.cons.injEq, Sum.inr.injEq, Sum.inl.injEq, and_true, wd_inj, Prod.mk.injEq]
  exact and_congr Iff.rfl (by omega)
abbrev En := Sd × List Sd
def enD (e : En) : PyData × PyData := (stD e.1, .list (e.2.map stD))
theorem get_en (es : List En) (s : Sd) : mGet (es.map enD) (kk s) = (es.find? fun e => decide (e.1 = s)).map fun e => .list (e.2.map stD) := by
  induction es with
  | nil => rfl
  | cons e es ih =>
    have ih' : ((es.map enD).find? fun p => decide (keyOf p.1 = some (kk s))).map (·.2) = (es.find? fun e => decide (e.1 = s)).map fun e => PyData.list (e.2.map stD) := ih
    show ((enD e :: es.map enD).find? fun p => decide (keyOf p.1 = some (kk s))).map (·.2) = _
    rw [List.find?_cons, List.find?_cons]
    by_cases q : e.1 = s
    · subst q
      simp [enD, key_st]
    · have q2 : ¬ keyOf (enD e).1 = some (kk s) := fun h => q (kk_inj.mp (Option.some.inj h))
      simp only [q, q2, decide_false, Bool.false_eq_true, if_false]
      exact ih'
theorem get_no {es : List En} {s : Sd} (h : s ∉ es.map (·.1)) : mGet (es.map enD) (kk s) = none := by
  rw [get_en]
  have : (es.find? fun e => decide (e.1 = s)) = none := by
    rw [List.find?_eq_none]
    intro e he
    simp only [decide_eq_true_eq]
    exact fun q => h (List.mem_map.mpr ⟨e, he, q⟩)
  rw [this]; rfl
theorem get_yes {es : List En} {s : Sd} (h : s ∈ es.map (·.1)) : ∃ e ∈ es, mGet (es.map enD) (kk s) = some (.list (e.2.map stD)) := by
  rw [get_en]
  obtain ⟨e0, h1, h2⟩ := List.mem_map.mp h
  cases q : es.find? fun e => decide (e.1 = s) with
  | none =>
    rw [List.find?_eq_none] at q
    exact absurd (decide_eq_true h2) (q e0 h1)
  | some e => exact ⟨e, List.mem_of_find?_eq_some q, rfl⟩
theorem put_new {es : List En} {s : Sd} {l : List Sd} (h : s ∉ es.map (·.1)) : mPut (es.map enD) (kk s) (.list (l.map stD)) = (es ++ [(s, l)]).map enD := by
  unfold mPut
  rw [get_no h]
  simp [enD, keyT_kk]
abbrev Rv (m n : Nat) (f : Nat → Nat → Int) : Sd → Sd → Prop := Rin (Ins m n) fun s t => ov f s t = true
structure Fnd (m n : Nat) (f : Nat → Nat → Int) (s0 : Sd) (es : List En) : Prop where
  nd : (es.map (·.1)).Nodup
  ins : ∀ s ∈ es.map (·.1), Ins m n s
  rt : ∀ s ∈ es.map (·.1), RT (Rv m n f) s0 s
  len : ∀ e ∈ es, e.2.length ≤ es.length
  has : s0 ∈ es.map (·.1)
theorem nd_len {xs : List Sd} (z : Sz m n) (h1 : xs.Nodup) (h2 : ∀ s ∈ xs, Ins m n s) : xs.length ≤ 24 := by
  have := List.Nodup.length_le_of_subset h1 (l₂ := stL m n) fun s hs => mem_stL.mpr (h2 s hs)
  have m2 := z.m2
  have n2 := z.n2
  simp at this
  omega
theorem Fnd.le {s0 : Sd} {es : List En} (z : Sz m n) (F : Fnd m n f s0 es) : es.length ≤ 24 := by
  have := nd_len z F.nd F.ins
  simpa using this
/-- one more -/
theorem Fnd.more {s0 s t : Sd} {es : List En} {l : List Sd} (F : Fnd m n f s0 es) (hs : s ∈ es.map (·.1)) (ht : Ins m n t) (ho : ov f s t = true) (hn : t ∉ es.map (·.1)) (hl : l.length ≤ es.length + 1) : Fnd m n f s0 (es ++ [(t, l)]) := by
  have e : (es ++ [(t, l)]).map (·.1) = es.map (·.1) ++ [t] := by simp
  refine ⟨?_, ?_, ?_, ?_, ?_⟩
  · rw [e, List.nodup_append]
    exact ⟨F.nd, by simp, fun a ha b hb q => hn (by rw [← List.mem_singleton.mp hb, ← q]; exact ha)⟩
  · rw [e]; intro x hx
    rcases List.mem_append.mp hx with hx | hx
    · exact F.ins x hx
    · rw [List.mem_singleton.mp hx]; exact ht
  · rw [e]; intro x hx
    rcases List.mem_append.mp hx with hx | hx
    · exact F.rt x hx
    · rw [List.mem_singleton.mp hx]; exact .tail (F.rt s hs) ⟨F.ins s hs, ht, ho⟩
  · intro x hx
    rw [List.length_append, List.length_singleton]
    rcases List.mem_append.mp hx with hx | hx
    · have := F.len x hx; omega
    · rw [List.mem_singleton.mp hx]; exact hl
  · rw [e]; exact List.mem_append_left _ F.has
theorem ne_nil_st (xs : List Sd) : dNe (.list (xs.map stD)) (.list []) = some (.bool (!decide (xs = []))) := ne_nil_enc enc_st (by decide) xs
def turnsLeft (es : List En) (L : List Sd) : Nat := 2 * (24 - es.length) + (if L = [] then 0 else 1)
theorem w_ways_from (z : Sz m n) (h : Bits m n f) {s0 : Sd} (h0 : Ins m n s0) {Q : SD × List SD → Prop}
    (k : ∀ es : List En, (es.map (·.1)).Nodup → (∀ s, s ∈ es.map (·.1) ↔ RT (Rv m n f) s0 s) → Q (.own false (.dct true (es.map enD)), [.d (drD (gd m n f)), .d (stD s0)])) : OV (m_ways_from [.d (drD (gd m n f)), .d (stD s0)]) Q := by
  rw [m_ways_from, OV_defn]
  simp [key_st]
  apply WWh.invA (fun k S => ∃ es L t4 t5 t6, S = [.d (drD (gd m n f)), .d (stD s0), .own false (.dct true (es.map enD)), .d (.list (L.map stD)), t4, t5, t6] ∧ Fnd m n f s0 es ∧ (∀ s ∈ L, s ∈ es.map (·.1)) ∧ (∀ s ∈ es.map (·.1), s ∉ L → ∀ t, Ins m n t → ov f s t = true → t ∈ es.map (·.1)) ∧ k = turnsLeft es L) 47
  · refine ⟨[(s0, [s0])], [s0], _, _, _, rfl, ⟨by simp, by simpa using h0, by simpa using RT.refl _, by simp, by simp⟩, by simp, by simp, by simp [turnsLeft]⟩
  · decide
  · rintro k S ⟨es, L, t4, t5, t6, rfl, F, hL, hcl, rfl⟩
    by_cases hn : L = []
    · subst hn
      simp
      refine k es F.nd fun s => ⟨F.rt s, fun hs => ?_⟩
      refine hs.closed F.has fun x y hx ⟨_, hy, ho⟩ => hcl x hx (by simp) y hy ho
    · simp [ne_nil_st, hn]
      apply WFor.invOfA stD (fun pre S => ∃ es' late t5 t6, S = [.d (drD (gd m n f)), .d (stD s0), .own false (.dct true (es'.map enD)), .d (.list (L.map stD)), .own false (.lst (late.map stD)), t5, t6] ∧ Fnd m n f s0 es' ∧ es'.map (·.1) = es.map (·.1) ++ late ∧ ∀ s ∈ pre, ∀ t, Ins m n t → ov f s t = true → t ∈ es'.map (·.1)) ⟨es, [], _, _, rfl, F, by simp, by simp⟩
      · rintro pre here post S he ⟨es1, late1, t5, t6, rfl, F1, hk1, hc1⟩
        have hh : here ∈ es.map (·.1) := hL here (by rw [he]; simp)
        have hi : Ins m n here := F.ins here hh
        simp [e_below z h hi]
        apply WFor.invOfA stD (fun pre2 S => ∃ es' late t6, S = [.d (drD (gd m n f)), .d (stD s0), .own false (.dct true (es'.map enD)), .d (.list (L.map stD)), .own false (.lst (late.map stD)), .d (stD here), t6] ∧ Fnd m n f s0 es' ∧ es'.map (·.1) = es.map (·.1) ++ late ∧ (∀ s ∈ pre, ∀ t, Ins m n t → ov f s t = true → t ∈ es'.map (·.1)) ∧ ∀ t ∈ pre2, t ∈ es'.map (·.1)) ⟨es1, late1, _, rfl, F1, hk1, hc1, by simp⟩
        · rintro pre2 there post2 S he2 ⟨es2, late2, t6, rfl, F2, hk2, hc2, hd2⟩
          have ht := (List.mem_filter.mp (show there ∈ (stL m n).filter fun t => ov f here t by rw [he2]; simp))
          have hti := mem_stL.mp ht.1
          have hh2 : here ∈ es2.map (·.1) := by rw [hk2]; exact List.mem_append_left _ hh
          have l2 := F2.le z
          by_cases hm : there ∈ es2.map (·.1)
          · obtain ⟨e, _, hg⟩ := get_yes hm
            simp [key_st, hg]
            refine ⟨es2, late2, _, rfl, F2, hk2, hc2, fun t ht => ?_⟩
            rcases List.mem_append.mp ht with ht | ht
            · exact hd2 t ht
            · rw [List.mem_singleton.mp ht]; exact hm
          · obtain ⟨e, he3, hg⟩ := get_yes hh2
            have hl := F2.len e he3
            have ll : late2.length ≤ 24 := by
              have := congrArg List.length hk2
              simp at this; omega
            have a1 : e.2.length + 1 ≤ 100000 := by omega
            have a2 : es2.length < 100000 := by omega
            have a3 : late2.length < 100000 := by omega
            have ep : mPut (es2.map enD) (kk there) (.list (e.2.map stD ++ [stD there])) = (es2 ++ [(there, e.2 ++ [there])]).map enD := by
              have := put_new (l := e.2 ++ [there]) hm
              simpa using this
            simp only [List.map_append, List.map_cons, List.map_nil] at ep
            simp [key_st, get_no hm, hg, a1, a2, a3, ep]
            refine ⟨es2 ++ [(there, e.2 ++ [there])], late2 ++ [there], _, by simp; rfl, F2.more hh2 hti ht.2 hm (by simp; omega), by simp [hk2], fun s hs t h1 h2 => ?_, fun t ht => ?_⟩
            · have := hc2 s hs t h1 h2
              simp only [List.map_append]; exact List.mem_append_left _ this
            · simp only [List.map_append]
              rcases List.mem_append.mp ht with ht | ht
              · exact List.mem_append_left _ (hd2 t ht)
              · rw [List.mem_singleton.mp ht]; simp
        · rintro S ⟨es2, late2, t6, rfl, F2, hk2, hc2, hd2⟩
          simp
          refine ⟨es2, late2, _, _, rfl, F2, hk2, fun s hs t h1 h2 => ?_⟩
          rcases List.mem_append.mp hs with hs | hs
          · exact hc2 s hs t h1 h2
          · rw [List.mem_singleton.mp hs] at h2
            exact hd2 t (List.mem_filter.mpr ⟨mem_stL.mpr h1, h2⟩)
      · rintro S ⟨es', late, t5, t6, rfl, F', hk', hc'⟩
        have l1 := F'.le z
        have l2 := F.le z
        have hlen := congrArg List.length hk'
        simp at hlen
        simp
        refine ⟨turnsLeft es' late, ?_, es', late, _, _, _, rfl, F', fun s hs => by rw [hk']; exact List.mem_append_right _ hs, fun s hs hn2 t h1 h2 => ?_, rfl⟩
        · unfold turnsLeft
          rw [if_neg hn]
          by_cases q : late = []
          · rw [if_pos q]; subst q; simp at hlen; omega
          · rw [if_neg q]
            have := List.length_pos_iff.mpr q
            omega
        · rw [hk'] at hs
          rcases List.mem_append.mp hs with hs | hs
          · by_cases hsL : s ∈ L
            · exact hc' s hsL t h1 h2
            · rw [hk']; exact List.mem_append_left _ (hcl s hs hsL t h1 h2)
          · exact absurd hs hn2
variable {rows ts : List (List Int)} {m n : Nat} {f g : Nat → Nat → Int}
structure Fnb (m n : Nat) (f : Nat → Nat → Int) (s0 : Sd) (es : List Sd) : Prop where
  nd : es.Nodup
  ins : ∀ s ∈ es, Ins m n s
  rt : ∀ s ∈ es, RT (Rv m n f) s s0
  has : s0 ∈ es
theorem Fnb.le {s0 : Sd} {es : List Sd} (z : Sz m n) (F : Fnb m n f s0 es) : es.length ≤ 24 := nd_len z F.nd F.ins
theorem Fnb.more {s0 s t : Sd} {es : List Sd} (F : Fnb m n f s0 es) (hs : s ∈ es) (ht : Ins m n t) (ho : ov f t s = true) (hn : t ∉ es) : Fnb m n f s0 (es ++ [t]) := by
  refine ⟨?_, ?_, ?_, List.mem_append_left _ F.has⟩
  · rw [List.nodup_append]
    exact ⟨F.nd, by simp, fun a ha b hb q => hn (by rw [← List.mem_singleton.mp hb, ← q]; exact ha)⟩
  · intro x hx
    rcases List.mem_append.mp hx with hx | hx
    · exact F.ins x hx
    · rw [List.mem_singleton.mp hx]; exact ht
  · intro x hx
    rcases List.mem_append.mp hx with hx | hx
    · exact F.rt x hx
    · rw [List.mem_singleton.mp hx]; exact (RT.one ⟨ht, F.ins s hs, ho⟩).trans (F.rt s hs)
theorem notIn_st (s : Sd) (xs : List Sd) : dNotIn (stD s) (.list (xs.map stD)) = some (.bool (!decide (s ∈ xs))) := (dNotIn_enc enc_st (by decide) s xs).2.trans (by congr)
theorem pop_st (xs : List Sd) (x : Sd) : mPop0 (xs.map stD ++ [stD x]) [] = some (stD x, xs.map stD) := by
  show ((xs.map stD ++ [stD x])[(xs.map stD ++ [stD x]).length - 1]?).map (fun y => (y, (xs.map stD ++ [stD x]).dropLast)) = _
  simp
theorem w_ways_back (z : Sz m n) (h : Bits m n f) {s0 : Sd} (h0 : Ins m n s0) {Q : SD × List SD → Prop}
    (k : ∀ (es : List Sd) (ds : List PyData), es.Nodup → (∀ s, s ∈ es ↔ RT (Rv m n f) s s0) → ds.length = es.length → Q (.own false (.lst ds), [.d (drD (gd m n f)), .d (stD s0)])) : OV (m_ways_back [.d (drD (gd m n f)), .d (stD s0)]) Q := by
  rw [m_ways_back, OV_defn]
  simp
  apply WWh.invA (fun k S => ∃ (es : List Sd) (L : List Sd) (t4 t5 : SD), S = [.d (drD (gd m n f)), .d (stD s0), .own false (.lst (es.map stD)), .own false (.lst (L.map stD)), t4, t5] ∧ Fnb m n f s0 es ∧ (∀ s ∈ L, s ∈ es) ∧ (∀ s ∈ es, s ∉ L → ∀ t, Ins m n t → ov f t s = true → t ∈ es) ∧ k = 2 * (24 - es.length) + L.length ∧ L.length ≤ es.length) 47
  · exact ⟨[s0], [s0], _, _, rfl, ⟨by simp, by simpa using h0, by simpa using RT.refl _, by simp⟩, by simp, by simp, by simp, by simp⟩
  · decide
  · rintro k S ⟨es, L, t4, t5, rfl, F, hL, hcl, rfl, hLl⟩
    have l0 := F.le z
    rcases List.eq_nil_or_concat L with rfl | ⟨L0, here, rfl⟩
    · have e1 := notIn_st
      have hal : ∃ ds, dSortXL [.list (es.map stD)] = some ds ∧ ds.length = es.length := by
        refine ⟨sortD (es.map stD), ?_, by rw [sortD_len]; simp⟩
        have h1 : dSortedL [.list (es.map stD)] = none := by
          cases es with
          | nil => exact absurd F.has (by simp)
          | cons s r => rfl
        have h2 : (es.map stD).all (fitN 60) = true := by
          rw [List.all_map, List.all_eq_true]
          intro s _
          exact (enc_st.mono (show 1 ≤ 60 by decide)).fit s
        have h3 : allAlikeB (es.map stD) = true := by
          unfold allAlikeB
          rw [List.all_map, List.all_eq_true]
          intro s _
          show ((es.map stD).all fun e => PySem.W.alike (stD s) e) = true
          rw [List.all_map, List.all_eq_true]
          intro t _
          rfl
        have h4 : (es.map stD).all isTupN = true := by
          rw [List.all_map, List.all_eq_true]
          intro s _
          rfl
        show (match dSortedL [.list (es.map stD)] with
          | some z => some z
          | none => dSortG (es.map stD)) = _
        rw [h1]
        show dSortG (es.map stD) = _
        unfold dSortG
        rw [if_pos ⟨h2, h3, .inl h4⟩]
      obtain ⟨ds, h1, h2⟩ := hal
      simp [h1]
      refine k es ds F.nd (fun s => ⟨F.rt s, fun hs => ?_⟩) h2
      refine hs.rev.closed F.has fun x y hx ⟨hy, _, ho⟩ => hcl x hx (by simp) y hy ho
    · have hh : here ∈ es := hL here (by simp)
      have hi : Ins m n here := F.ins here hh
      have p1 := pop_st L0 here
      have p2 := ne_nil_st (L0.concat here)
      simp at p2 hLl
      simp [p1, p2, e_above z h hi]
      apply WFor.invOfA stD (fun pre S => ∃ (es' : List Sd) (add : List Sd) (t5 : SD), S = [.d (drD (gd m n f)), .d (stD s0), .own false (.lst (es'.map stD)), .own false (.lst ((L0 ++ add).map stD)), .d (stD here), t5] ∧ Fnb m n f s0 es' ∧ es' = es ++ add ∧ ∀ s ∈ pre, s ∈ es') ⟨es, [], _, by simp; rfl, F, by simp, by simp⟩
      · rintro pre t post S he ⟨es', add, t5, rfl, F', rfl, hp⟩
        have ht := (List.mem_filter.mp (show t ∈ (stL m n).filter fun t => ov f t here by rw [he]; simp))
        have hti := mem_stL.mp ht.1
        have l1 := F'.le z
        simp at l1
        have e1 := notIn_st t (es ++ add)
        simp only [List.map_append] at e1
        by_cases hm : t ∈ es ++ add
        · have hm' := List.mem_append.mp hm
          simp [e1, hm']
          refine ⟨es ++ add, add, _, by rw [List.map_append, List.map_append], F', rfl, fun s hs => ?_⟩
          rcases List.mem_append.mp hs with hs | hs
          · exact hp s hs
          · rw [List.mem_singleton.mp hs]; exact hm
        · have hm' : ¬ (t ∈ es ∨ t ∈ add) := fun q => hm (List.mem_append.mpr q)
          have a1 : es.length + add.length < 100000 := by omega
          have a2 : L0.length + add.length < 100000 := by omega
          simp [e1, hm', a1, a2]
          refine ⟨es ++ add ++ [t], add ++ [t], _, by rw [List.map_append, List.map_append, List.map_append, List.map_append]; simp; rfl, F'.more (List.mem_append_left _ hh) hti ht.2 hm, by simp, fun s hs => ?_⟩
          rcases List.mem_append.mp hs with hs | hs
          · exact List.mem_append_left _ (hp s hs)
          · exact List.mem_append_right _ hs
      · rintro S ⟨es', add, t5, rfl, F', rfl, hp⟩
        have l1 := F'.le z
        simp at l1
        simp
        have hc : (L0.concat here).length = L0.length + 1 := by simp
        refine ⟨2 * (24 - (es.length + add.length)) + (L0.length + add.length), by rw [hc]; omega, es ++ add, L0 ++ add, _, _, by rw [List.map_append, List.map_append], F', fun s hs => ?_, fun s hs hn t h1 h2 => ?_, by simp, by simp; omega⟩
        · rcases List.mem_append.mp hs with hs | hs
          · exact List.mem_append_left _ (hL s (by simp [hs]))
          · exact List.mem_append_right _ hs
        · rcases List.mem_append.mp hs with hs | hs
          · by_cases q : s = here
            · subst q
              exact hp t (List.mem_filter.mpr ⟨mem_stL.mpr h1, h2⟩)
            · have hs2 : s ∉ L0.concat here := by
                simp only [List.concat_eq_append, List.mem_append, List.mem_singleton]
                rintro (h3 | h3)
                · exact hn (List.mem_append_left _ h3)
                · exact q h3
              exact List.mem_append_left _ (hcl s hs hs2 t h1 h2)
          · exact absurd (List.mem_append_right _ hs) hn
theorem e_are_held (z : Sz m n) (h : Bits m n f) : m_are_held [.d (drD (gd m n f))] = some (.d (.bool (decide (Held m n f))), [.d (drD (gd m n f))]) := by
  apply OV.eq
  have v := gd_dr z h
  have m1 := z.m1
  have n1 := z.n1
  have es := e_strands_of v
  rw [gd_len] at es
  have h0 : Ins m n (true, 0) := by simp [Ins]; omega
  have a0 : L2.atI ((stL m n).map stD) 0 = some (stD (true, 0)) := by
    rw [atI_of (by omega)]
    obtain ⟨k, rfl⟩ : ∃ k, n = k + 1 := ⟨n - 1, by omega⟩
    simp [stL, List.range_succ_eq_map]
  rw [m_are_held, OV_defn]
  simp [e_many_warps v, e_many_wefts, es, a0]
  refine OV.use (w_ways_from z h h0 (Q := fun q => ∃ ks : List En, (ks.map (·.1)).Nodup ∧ (∀ s, s ∈ ks.map (·.1) ↔ RT (Rv m n f) (true, 0) s) ∧ q = (.own false (.dct true (ks.map enD)), [.d (drD (gd m n f)), .d (stD (true, 0))])) fun ks h1 h2 => ⟨ks, h1, h2, rfl⟩) ?_
  rintro _ ⟨ks, nd1, r1, rfl⟩
  simp
  have tot : ∀ xs : List Sd, xs.Nodup → (∀ s ∈ xs, Ins m n s) → (((xs.length : Int) = (n : Int) + m) ↔ ∀ s, Ins m n s → s ∈ xs) := fun xs nd hi => by
    have := all_of_len nd (fun s hs => mem_stL.mpr (hi s hs)) (nodup_stL m n)
    rw [stL_len] at this
    constructor
    · intro e s hs; exact this.mp (by omega) s (mem_stL.mpr hs)
    · intro e
      have := this.mpr fun s hs => e s (mem_stL.mp hs)
      omega
  have insF : ∀ s, RT (Rv m n f) (true, 0) s → Ins m n s := fun s hs => hs.closed h0 fun _ _ _ q => q.2.1
  have insB : ∀ s, RT (Rv m n f) s (true, 0) → Ins m n s := fun s hs => hs.rev.closed h0 fun _ _ _ q => q.1
  have t1 := tot _ nd1 fun s hs => insF s ((r1 s).mp hs)
  simp only [List.length_map] at t1
  by_cases c1 : (ks.length : Int) = (n : Int) + m
  · simp [c1, e_many_warps v, es, a0]
    refine OV.use (w_ways_back z h h0 (Q := fun q => ∃ (bs : List Sd) (ds : List PyData), bs.Nodup ∧ (∀ s, s ∈ bs ↔ RT (Rv m n f) s (true, 0)) ∧ ds.length = bs.length ∧ q = (.own false (.lst ds), [.d (drD (gd m n f)), .d (stD (true, 0))])) fun bs ds h1 h2 h3 => ⟨bs, ds, h1, h2, h3, rfl⟩) ?_
    rintro _ ⟨bs, ds, nd2, r2, hl, rfl⟩
    simp [hl]
    have t2 := tot _ nd2 fun s hs => insB s ((r2 s).mp hs)
    have e : ((bs.length : Int) = (n : Int) + m) ↔ Held m n f := by
      rw [t2]
      constructor
      · intro hb s t hs ht
        exact ((r2 s).mp (hb s hs)).trans ((r1 t).mp (t1.mp c1 t ht))
      · intro hh s hs
        exact (r2 s).mpr (hh s _ hs h0)
    exact e
  · have no : ¬ Held m n f := fun hh => c1 (t1.mpr fun s hs => (r1 s).mpr (hh _ s h0 hs))
    simp [c1, no]
theorem e_endless_one (z : Sz m n) (h : Bits m n f) : m_is_endless_one [.d (drD (gd m n f))] = some (.d (.bool (decide (Held m n f))), [.d (drD (gd m n f))]) := by
  apply OV.eq
  rw [m_is_endless_one, OV_defn]
  simp [e_want_draft (gd_dr z h), e_are_held z h]
variable {rows ts : List (List Int)} {m n : Nat} {f g : Nat → Nat → Int}
def natD (k : Nat) : PyData := .int (k : Nat)
theorem mExt (xs ys : List PyData) : mExtend xs [.list ys] = if xs.length + ys.length ≤ 100000 then some (.none, xs ++ ys) else none := rfl
theorem mul_one {x : PyData} {k : Nat} (h : k ≤ 1000) : dMulX (.list [x]) (natD k) = some (.list (List.replicate k x)) := by
  show (if (0 : Int) ≤ k ∧ (k : Int) ≤ 1000 ∧ [x].length ≤ 1000 then some (PyData.list (List.replicate (k : Int).toNat [x]).flatten) else none) = _
  rw [if_pos ⟨by omega, by omega, by simp⟩, Int.toNat_natCast]
  simp
theorem sum_nats (ks : List Nat) : dSum [.list (ks.map natD)] = some (.int (ks.sum : Nat)) := by
  have : dInts (ks.map natD) = some (ks.map fun k : Nat => (k : Int)) := by
    have := dInts_map (ks.map fun k : Nat => (k : Int))
    rw [List.map_map] at this
    exact this
  show (dInts (ks.map natD)).map (fun bs => PyData.int bs.sum) = _
  rw [this]
  have key : ∀ ks : List Nat, (ks.map fun k : Nat => (k : Int)).sum = (ks.sum : Nat) := fun ks => by
    induction ks with
    | nil => rfl
    | cons k ks ih => simp [ih]
  simp [key]
theorem sprd_len {α : Type} : ∀ (xs : List α) (ks : List Nat), (sprd xs ks).length ≤ ks.sum
  | [], ks => by simp [sprd]
  | x :: xs, [] => by simp [sprd]
  | x :: xs, k :: ks => by
    have := sprd_len xs ks
    unfold sprd at this ⊢
    rw [List.zip_cons_cons, List.flatMap_cons, List.length_append, List.sum_cons]
    simp only [List.length_replicate]
    omega
/-- doubled evenly -/
def dbC (W H : Nat) (f : Nat → Nat → Int) (w p : Nat) : Int := f (w / H) (p / W)
variable {F B : Nat → Nat → Int} {W H : Nat}
theorem flat_len {α : Type} (c : α → List Int) (W : Nat) (h : ∀ x, (c x).length = W) : ∀ l : List α, (l.flatMap c).length = l.length * W
  | [] => by simp
  | x :: l => by rw [List.flatMap_cons, List.length_append, h, flat_len c W h l, List.length_cons, Nat.succ_mul]; omega
variable {rows ts : List (List Int)} {m n : Nat} {f g : Nat → Nat → Int}
def oD : Option Int → PyData
  | none => .none
  | some i => .int i
def runD (p : Int × Option Int) : PyData := .tuple [.int p.1, oD p.2]
theorem enc_oD : IsEnc 0 oD := ⟨fun a => by cases a; exact fit_none 0; exact fit_int 0 _, fun a b => by
  cases a <;> cases b <;> simp [oD, PyData.eqv] <;> rw [Bool.eq_iff_iff] <;> simp⟩
theorem enc_run : IsEnc 1 runD := (enc_int 0).pair enc_oD
theorem ne_runs (xs ys : List (Int × Option Int)) : dNe (.list (xs.map runD)) (.list (ys.map runD)) = some (.bool (!decide (xs = ys))) := dNe_enc enc_run.lst (by decide) xs ys
def pI (p : Int × Int) : PyData := .tuple [.int p.1, .int p.2]
theorem enc_pI : IsEnc 1 pI := (enc_int 0).pair (enc_int 0)
theorem ne_nil_pI (xs : List (Int × Int)) : dNe (.list (xs.map pI)) (.list []) = some (.bool (!decide (xs = []))) := ne_nil_enc enc_pI (by decide) xs
theorem atI_last {α : Type} (xs : List α) (x : α) : L2.atI (xs ++ [x]) (-1) = some x := by
  unfold L2.atI L2.ixN
  rw [if_neg (by decide), if_pos (by simp; omega)]
  have : (-1 + ((xs ++ [x]).length : Int)).toNat = xs.length := by simp; omega
  rw [this]
  simp
theorem ixN_last (k : Nat) : L2.ixN (k + 1) (-1) = some k := by
  unfold L2.ixN
  rw [if_neg (by decide), if_pos (by omega)]
  congr 1
  omega
theorem atI_prev {N : Nat} {a : Nat → Int} {i : Nat} (h : i < N) : L2.atI (rw1 N a) ((i : Int) - 1) = some (a ((i + (N - 1)) % N)) := by
  cases i with
  | zero =>
    obtain ⟨k, rfl⟩ : ∃ k, N = k + 1 := ⟨N - 1, by omega⟩
    have e : (((0 : Nat) : Int) - 1) = -1 := by omega
    rw [e]
    unfold L2.atI
    rw [rw1_len, ixN_last, Option.bind_some, rw1_get (by omega)]
    simp
  | succ i =>
    have e : (((i + 1 : Nat) : Int) - 1) = (i : Nat) := by omega
    rw [e, atI_rw1N (by omega)]
    rw [show i + 1 + (N - 1) = i + N by omega, Nat.add_mod_right, Nat.mod_eq_of_lt (by omega)]
theorem lenSet_rw1 {N : Nat} {a : Nat → Int} (h1 : 1 ≤ N) (h2 : N ≤ 1000) : ∃ k : Nat, dLenSet (.list ((rw1 N a).map .int)) = some (.int (k : Nat)) ∧ (k = 1 ↔ AllOne N a) := by
  refine ⟨(setI (rw1 N a)).length, ?_, ?_⟩
  · show (dInts ((rw1 N a).map .int)).bind (fun ns => if ns.length ≤ 4000 then some (PyData.int ((setI ns).length : Nat)) else none) = _
    rw [dInts_map, Option.bind_some, if_pos (by simp; omega)]
  · have m0 : a 0 ∈ setI (rw1 N a) := (setI_mem _ _).mpr (List.mem_map.mpr ⟨0, List.mem_range.mpr (by omega), rfl⟩)
    constructor
    · intro h i hi
      have mi : a i ∈ setI (rw1 N a) := (setI_mem _ _).mpr (List.mem_map.mpr ⟨i, List.mem_range.mpr hi, rfl⟩)
      obtain ⟨x, hx⟩ := List.length_eq_one_iff.mp h
      rw [hx] at m0 mi
      rw [List.mem_singleton.mp m0, List.mem_singleton.mp mi]
    · intro h
      have hs : setI (rw1 N a) = [a 0] := by
        have pw := setI_sorted (rw1 N a)
        have all : ∀ x ∈ setI (rw1 N a), x = a 0 := fun x hx => by
          obtain ⟨i, hi, rfl⟩ := mem_rw1 ((setI_mem _ _).mp hx)
          exact h i hi
        cases q : setI (rw1 N a) with
        | nil => rw [q] at m0; simp at m0
        | cons x r =>
          rw [q] at all pw
          cases r with
          | nil => rw [all x (by simp)]
          | cons y r =>
            have h1 := all x (by simp)
            have h2 := all y (by simp)
            have := (List.pairwise_cons.mp pw).1 y (by simp)
            omega
      rw [hs]; rfl
theorem e_round_runs {N : Nat} {a : Nat → Int} (h1 : 1 ≤ N) (h2 : N ≤ 1000) : m_round_runs [.d (.list ((rw1 N a).map .int))] = some (.own false (.lst ((rrun N a).map runD)), [.d (.list ((rw1 N a).map .int))]) := by
  apply OV.eq
  obtain ⟨k, hk, hk1⟩ := lenSet_rw1 (a := a) h1 h2
  have z0 := atI_rw1N (n := N) (a := a) (i := 0) (by omega)
  rw [m_round_runs, OV_defn]
  by_cases h : AllOne N a
  · have hk2 : k = 1 := hk1.mpr h
    subst hk2
    simp at z0
    simp [hk, z0]
    unfold rrun
    rw [if_pos h]
    rfl
  · have hk2 : ¬ (k : Int) = 1 := fun q => h (hk1.mp (by omega))
    obtain ⟨b1, b2, b3⟩ := fst1_spec h1 h
    simp [hk, hk2, rngI_nat N (show N ≤ 100000 by omega)]
    refine ⟨by omega, ?_⟩
    apply WLc.fmapOf PyData.int (fun i => if chg N a i.toNat = true then some (.int i) else none) (fun i hi => by
      obtain ⟨j, hj, rfl⟩ : ∃ j : Nat, j < N ∧ i = (j : Int) := ⟨i.toNat, by have := mem_upto.mp hi; omega, by have := mem_upto.mp hi; omega⟩
      have e1 := atI_rw1N (a := a) hj
      have e2 := atI_prev (a := a) hj
      have e3 : chg N a j = !decide (a j = a ((j + (N - 1)) % N)) := rfl
      by_cases q : a j = a ((j + (N - 1)) % N)
      · simp [e1, e2, e3, q]
      · simp [e1, e2, e3, q])
    have ec : (upto N).filterMap (fun i => if chg N a i.toNat = true then some (PyData.int i) else none) = (chgs N a).map fun i => .int (i : Nat) := by
      unfold upto chgs
      rw [List.filterMap_map]
      generalize List.range N = l
      induction l with
      | nil => rfl
      | cons d l ih => by_cases q : chg N a d = true <;> simp [q, ih]
    rw [ec]
    obtain ⟨r, hr⟩ : ∃ r, chgs N a = fst1 N a :: r := by
      cases q : chgs N a with
      | nil => exact absurd q (chgs_ne h1 h)
      | cons x r => exact ⟨r, by unfold fst1; rw [q]; rfl⟩
    obtain ⟨b, hb⟩ : ∃ b, b = fst1 N a := ⟨_, rfl⟩
    rw [hr, ← hb]
    rw [← hb] at b1
    have i0 : L2.atI (PyData.int (b : Nat) :: r.map fun i => PyData.int (i : Nat)) 0 = some (.int (b : Nat)) := by rw [atI_of (by omega)]; rfl
    have c1 := cutI_from (xs := (rw1 N a).map PyData.int) (show (0 : Int) ≤ (b : Nat) by omega)
    have c2 := cutI_to (xs := (rw1 N a).map PyData.int) (show (0 : Int) ≤ (b : Nat) by omega)
    rw [Int.toNat_natCast] at c1 c2
    have c3 : ((rw1 N a).map PyData.int).drop b ++ ((rw1 N a).map PyData.int).take b = (rw1 N (rot N b a)).map PyData.int := by
      rw [← List.map_drop, ← List.map_take, ← List.map_append, rot_list b1]
    simp [i0, c1, c2]
    refine ⟨by omega, ?_⟩
    rw [c3]
    apply WFor.invOfA PyData.int (fun pre S => ∃ t3 t4, S = [.d (.list ((rw1 N a).map .int)), .d (.int (b : Nat)), .own false (.lst ((grp pre).map pI)), t3, t4]) ⟨_, _, rfl⟩
    · rintro pre s post S he ⟨t3, t4, rfl⟩
      have hpl : pre.length ≤ N := by
        have := congrArg List.length he
        simp at this; omega
      have hgl := grp_len pre
      have a1 : (grp pre).length < 100000 := by omega
      by_cases hp : pre = []
      · subst hp
        simp [grp]
        exact ⟨.d (.int s), t4, by simp [stepG_nil, pI]⟩
      · rcases List.eq_nil_or_concat (grp pre) with q | ⟨ys, ⟨x, k⟩, q⟩
        · exact absurd q (grp_ne hp)
        · rw [List.concat_eq_append] at q
          have e0 := ne_nil_pI (grp pre)
          rw [q] at e0 a1
          simp at e0 a1
          have l1 : L2.atI (ys.map pI ++ [pI (x, k)]) (-1) = some (pI (x, k)) := atI_last _ _
          have l2 : L2.atI [PyData.int x, PyData.int k] 0 = some (.int x) := by simp [atI_of]
          have l3 : L2.atI [PyData.int x, PyData.int k] 1 = some (.int k) := by simp [atI_of]
          have l4 : dIx (pI (x, k)) (.int 0) = some (.int x) := l2
          have l5 : dIx (pI (x, k)) (.int 1) = some (.int k) := l3
          have l6 : L2.ixN (ys.length + 1) (-1) = some ys.length := ixN_last _
          rw [q]
          by_cases hx : x = s
          · subst hx
            simp [e0, l1, l4, l5, l6]
            exact ⟨.d (.int x), t4, by rw [grp_snoc, q, stepG_snoc, if_pos rfl]; simp [pI]⟩
          · simp [e0, l1, l4, l5, l6, hx, a1]
            exact ⟨.d (.int s), t4, by rw [grp_snoc, q, stepG_snoc, if_neg hx]; simp [pI]⟩
    · rintro S ⟨t3, t4, rfl⟩
      simp
      unfold rrun
      rw [if_neg h, ← hb, List.map_map]
      rfl
/-- the signs along a strand -/
def sgn (f : Nat → Nat → Int) (s : Sd) (i : Nat) : Int := if s.1 = true then f i s.2 else 1 - f s.2 i
def lng (m n : Nat) (s : Sd) : Nat := if s.1 = true then m else n
theorem e_signs_along (z : Sz m n) (h : Bits m n f) {s : Sd} (hs : Ins m n s) : m_signs_along [.d (drD (gd m n f)), .d (stD s)] = some (.own false (.lst ((rw1 (lng m n s) (sgn f s)).map .int)), [.d (drD (gd m n f)), .d (stD s)]) := by
  apply OV.eq
  have m2 := z.m2
  have n2 := z.n2
  have a1 : m < 100000 := by omega
  have a2 : n < 100000 := by omega
  obtain ⟨b, i⟩ := s
  rw [m_signs_along, OV_defn]
  cases b
  · simp only [Ins, Bool.false_eq_true, if_false] at hs
    have g1 := atI_gdN (f := f) (n := n) hs
    simp [wd_warp, g1, a2]
    apply WLc.mapOf PyData.int (fun x => .int (1 - x)) (fun x hx => by simp)
    have e : (rw1 n (f i)).map (fun x => PyData.int (1 - x)) = (rw1 n (sgn f (false, i))).map .int := by
      unfold rw1
      rw [List.map_map, List.map_map]; rfl
    simp [e, lng]
  · simp only [Ins, if_true] at hs
    simp [wd_warp, a1]
    apply WLc.mapOf tI (fun r => .int (nth r i)) (fun r hr => by
      obtain ⟨w, hw, rfl⟩ := mem_gd hr
      have g1 := atI_rw1N (a := f w) hs
      have g2 := nth_rw1 (a := f w) hs
      rw [show (fun q : Option PyData × List SD => q = (some (PyData.int (nth (rw1 n (f w)) i)), _)) = fun q => q = (some (PyData.int (f w i)), _) by rw [g2]]
      simp [g1])
    have e : (gd m n f).map (fun r => PyData.int (nth r i)) = (rw1 m (sgn f (true, i))).map .int := by
      unfold gd
      rw [List.map_map]
      show _ = ((List.range m).map (sgn f (true, i))).map PyData.int
      rw [List.map_map]
      refine List.map_congr_left fun w hw => ?_
      simp only [Function.comp_def]
      rw [nth_rw1 hs]
      rfl
    rw [e]
    simp [lng]
theorem e_want_strand (z : Sz m n) (h : Bits m n f) {s : Sd} (hs : Ins m n s) : m_want_strand [.d (drD (gd m n f)), .d (stD s)] = some (.d .none, [.d (drD (gd m n f)), .d (stD s)]) := by
  apply OV.eq
  have v := gd_dr z h
  have e : m_is_strand_of [.d (drD (gd m n f)), .d (stD s)] = some (.d (.bool true), [.d (drD (gd m n f)), .d (stD s)]) := by
    apply OV.eq
    have ht : isTup 2 (stD s) = true := rfl
    have e1 := e_is_tuple (v := stD s) (n := 2) rfl
    have sok : PyData.strOk (wd s.1) = true := by cases s.1 <;> decide +kernel
    have sall : (["warp", "weft"] : List Str).all PyData.strOk = true := by decide +kernel
    have e2 := (in_strs sok sall).2
    have e3 : wd s.1 ∈ (["warp", "weft"] : List Str) := by cases s.1 <;> simp [wd]
    simp only [e3, List.map_cons, List.map_nil] at e2
    obtain ⟨b, i⟩ := s
    rw [m_is_strand_of, OV_defn]
    cases b
    · simp only [Ins, Bool.false_eq_true, if_false] at hs
      have q : isIn 0 ((m : Int) - 1) (.int (i : Nat)) = true := by simp [isIn]; omega
      simp [e1, ht, tgIs, e2, wd_warp, e_many_warps v, e_many_wefts, q]
    · simp only [Ins, if_true] at hs
      have q : isIn 0 ((n : Int) - 1) (.int (i : Nat)) = true := by simp [isIn]; omega
      simp [e1, ht, tgIs, e2, wd_warp, e_many_warps v, e_many_wefts, q]
  rw [m_want_strand, OV_defn]
  simp [e]
theorem lng_sz (z : Sz m n) (s : Sd) : 1 ≤ lng m n s ∧ lng m n s ≤ 12 := by
  have := z.m1; have := z.m2; have := z.n1; have := z.n2
  unfold lng
  split <;> omega
theorem e_endless_floats (z : Sz m n) (h : Bits m n f) {s : Sd} (hs : Ins m n s) : m_endless_floats [.d (drD (gd m n f)), .d (stD s)] = some (.own false (.lst ((rrun (lng m n s) (sgn f s)).map runD)), [.d (drD (gd m n f)), .d (stD s)]) := by
  apply OV.eq
  have v := gd_dr z h
  have l := lng_sz z s
  have e := e_round_runs (a := sgn f s) l.1 (by omega)
  rw [m_endless_floats, OV_defn]
  simp [e_want_draft v, e_want_strand z h hs, e_signs_along z h hs, e]
variable {rows ts : List (List Int)} {m n : Nat} {f g : Nat → Nat → Int}
theorem ixN_0 : L2.ixN 2 0 = some 0 := by decide
theorem ixN_1 : L2.ixN 2 1 = some 1 := by decide
theorem w_draw {a b n : Int} (h1 : 0 < n) (h2 : n < 1000) {Q : SD × List SD → Prop} (k : ∀ r a' b', 0 ≤ r → r < n → Q (.d (.int r), [P a' b', .d (.int n)])) : OV (m__law_draw [P a b, .d (.int n)]) Q := by
  have c1 : L2.CDiv a n := cdiv h1 (by omega)
  have c2 : L2.CMul b 40692 := .inr ⟨by decide, by decide⟩
  have hb1 : 0 ≤ (b * 40692 + 10069) % 2147483587 := Int.emod_nonneg _ (by decide)
  have hb2 : (b * 40692 + 10069) % 2147483587 < 2147483587 := Int.emod_lt_of_pos _ (by decide)
  have c3 : L2.CMul ((b * 40692 + 10069) % 2147483587) ((b * 40692 + 10069) % 2147483587) := .inl ⟨by omega, by omega⟩
  have c4 : ∀ t, L2.CDiv (t % 2147483549) 17 := fun t => cdiv (by decide) (by decide)
  rw [m__law_draw, OV_defn]
  by_cases ha : 0 < a
  · simp [ha, c1, ixN_0]
    exact k _ _ _ (Int.emod_nonneg _ (by omega)) (Int.emod_lt_of_pos _ h1)
  · simp [ha, c2, ixN_1, c3, c4, h1]
    exact k _ _ _ (Int.emod_nonneg _ (by omega)) (Int.emod_lt_of_pos _ h1)
theorem w_draft {a b : Int} {k : Nat} (k1 : 1 ≤ k) (k2 : k ≤ 12) {Q : SD × List SD → Prop} (kk : ∀ m n f a' b', 1 ≤ m → m ≤ k → 1 ≤ n → n ≤ k → Bits m n f → Q (.d (drD (gd m n f)), [P a' b', .d (.int (k : Nat))])) : OV (m__law_draft [P a b, .d (.int (k : Nat))]) Q := by
  rw [m__law_draft, OV_defn]
  simp
  apply w_draw (by omega) (by omega)
  intro r1 a b p1 p2
  simp
  apply w_draw (by omega) (by omega)
  intro r2 a b q1 q2
  simp
  apply w_draw (by omega) (by omega)
  intro w a b w1 w2
  simp
  obtain ⟨n, hn⟩ : ∃ n : Nat, (n : Int) = 1 + r1 := ⟨(1 + r1).toNat, by omega⟩
  obtain ⟨m, hm⟩ : ∃ m : Nat, (m : Int) = 1 + r2 := ⟨(1 + r2).toNat, by omega⟩
  have e1 := rngI_nat m (show m ≤ 100000 by omega)
  have e2 := rngI_nat n (show n ≤ 100000 by omega)
  have e3 : n < 100000 := by omega
  rw [← hn, ← hm]
  simp [e1]
  apply WFor.invOfA PyData.int (fun pre S => ∃ (a b : Int) (L : List (List Int)) (t6 t7 : SD), S = [P a b, .d (.int (k : Nat)), .d (.int (n : Nat)), .d (.int (m : Nat)), .d (.int w), .own false (.lst (L.map tI)), t6, t7] ∧ L.length = pre.length ∧ ∀ r ∈ L, r.length = n ∧ ∀ x ∈ r, x = 0 ∨ x = 1) ⟨_, _, [], _, _, rfl, rfl, by simp⟩
  · rintro pre i post S he ⟨a, b, L, t6, t7, rfl, hl, hL⟩
    have hpl : pre.length ≤ m := by
      have := congrArg List.length he
      simp at this; omega
    have a1 : L.length < 100000 := by omega
    have fin : ∀ (a b : Int) (r : List Int), r.length = n → (∀ x ∈ r, x = 0 ∨ x = 1) → ∃ (a' b' : Int) (L' : List (List Int)) (u6 u7 : SD), [P a b, .d (.int (k : Nat)), .d (.int (n : Nat)), .d (.int (m : Nat)), .d (.int w), .own false (.lst (L.map tI ++ [tI r])), .d (.int i), t7] = [P a' b', .d (.int (k : Nat)), .d (.int (n : Nat)), .d (.int (m : Nat)), .d (.int w), .own false (.lst (L'.map tI)), u6, u7] ∧ L'.length = (pre ++ [i]).length ∧ ∀ r ∈ L', r.length = n ∧ ∀ x ∈ r, x = 0 ∨ x = 1 := fun a b r h1 h2 =>
      ⟨a, b, L ++ [r], .d (.int i), t7, by simp, by simp [hl], fun q hq => by
        rcases List.mem_append.mp hq with hq | hq
        · exact hL q hq
        · rw [List.mem_singleton.mp hq]; exact ⟨h1, h2⟩⟩
    by_cases hw0 : w = 0
    · subst hw0
      simp [e2, e3]
      apply WLc.mapOf PyData.int (fun x => .int ((i + x) % 2)) (fun x hx => by simp)
      simp [a1]
      exact fin a b ((upto n).map fun y => (i + y) % 2) (by simp) (fun x hx => by
        obtain ⟨y, _, rfl⟩ := List.mem_map.mp hx
        omega)
    · by_cases hw1 : w = 1
      · subst hw1
        simp [e2, e3]
        apply WLc.potE (α := Int) PyData.int (fun x => x = 0 ∨ x = 1) (fun x hx a b => by
          simp
          apply w_draw (by omega) (by omega)
          intro r a' b' h1 h2
          simp
          omega)
        intro ys a b l1 l2
        simp at l1
        simp [a1]
        exact fin a b ys l1 l2
      · simp [hw0, hw1, e2, e3]
        apply WLc.potE (α := Int) PyData.int (fun x => x = 0 ∨ x = 1) (fun x hx a b => by
          simp
          apply w_draw (by omega) (by omega)
          intro r a' b' h1 h2
          simp
          omega)
        intro ys a b l1 l2
        simp at l1
        simp [a1]
        exact fin a b ys l1 l2
  · rintro S ⟨a, b, L, t6, t7, rfl, hl, hL⟩
    simp at hl
    have v : IsDr L n := ⟨by omega, by omega, by omega, by omega, fun r hr => (hL r hr).1, fun r hr x hx => by have := (hL r hr).2 x hx; omega⟩
    simp
    have e := dr_gd v
    have hb := dr_bits v
    rw [hl] at e hb
    rw [e]
    exact kk m n _ _ _ (by omega) (by omega) (by omega) (by omega) hb
end PK92

set_option Elab.async false
set_option linter.all false
set_option maxRecDepth 100000
set_option maxHeartbeats 4000000
/-! JX0: one cloth by a law's own search. -/
namespace PK92
open PySem DL
variable {rows ts : List (List Int)} {m n : Nat} {f g : Nat → Nat → Int}
theorem dAddL_l (x y : List PyData) : dAddL (.list x) (.list y) = if x.length + y.length ≤ 100000 then some (x ++ y) else none := rfl
theorem e_law_strands (v : IsDr rows n) : m__law_strands [.d (drD rows)] = some (.own false (.lst ((stL rows.length n).map stD)), [.d (drD rows)]) := by
  apply OV.eq
  have n2 := v.n2
  have r2 := v.r2
  obtain ⟨r0, h0, hl0, hm0⟩ := v.at0
  have a1 := rngI_nat n (show n ≤ 100000 by omega)
  have a2 := rngI_nat rows.length (show rows.length ≤ 100000 by omega)
  rw [m__law_strands, OV_defn]
  simp [h0, hl0, a1, a2]
  refine ⟨by omega, ?_⟩
  apply WLc.mapOf PyData.int (fun i => stD (true, i.toNat)) (fun i hi => by
    have := mem_upto.mp hi
    simp [stD, wd]
    omega)
  simp [a2]
  refine ⟨by omega, ?_⟩
  apply WLc.mapOf PyData.int (fun i => stD (false, i.toNat)) (fun i hi => by
    have := mem_upto.mp hi
    simp [stD, wd]
    omega)
  simp [dAddL_l, show n + rows.length ≤ 100000 by omega]
  simp [stL, upto, Function.comp_def]
theorem e_law_over (z : Sz m n) (h : Bits m n f) {s t : Sd} (hs : Ins m n s) (ht : Ins m n t) : m__law_over [.d (drD (gd m n f)), .d (stD s), .d (stD t)] = some (.d (.bool (ov f s t)), [.d (drD (gd m n f)), .d (stD s), .d (stD t)]) := by
  apply OV.eq
  rw [m__law_over, OV_defn]
  obtain ⟨b, i⟩ := s
  obtain ⟨c, j⟩ := t
  cases b <;> cases c <;> simp only [Ins, Bool.false_eq_true, if_false, if_true] at hs ht
  · simp [ov]
  · have h1 := atI_gdN (f := f) (n := n) hs
    have h2 := atI_rw1N (a := f i) ht
    have hb := h i hs j ht
    rcases hb with q | q <;> simp [wd_inj, h1, h2, wd_warp, ov, q]
  · have h1 := atI_gdN (f := f) (n := n) ht
    have h2 := atI_rw1N (a := f j) hs
    simp [wd_inj, h1, h2, wd_warp, ov]
  · simp [ov]
/-- below, or above -/
def dirR (f : Nat → Nat → Int) (up : Bool) (s t : Sd) : Prop := (if up = true then ov f t s else ov f s t) = true
structure Fnl (m n : Nat) (R : Sd → Sd → Prop) (s0 : Sd) (es : List Sd) : Prop where
  nd : es.Nodup
  ins : ∀ s ∈ es, Ins m n s
  rt : ∀ s ∈ es, RT (Rin (Ins m n) R) s0 s
  has : s0 ∈ es
theorem Fnl.le {R : Sd → Sd → Prop} {s0 : Sd} {es : List Sd} (z : Sz m n) (F : Fnl m n R s0 es) : es.length ≤ 24 := nd_len z F.nd F.ins
theorem Fnl.more {R : Sd → Sd → Prop} {s0 s t : Sd} {es : List Sd} (F : Fnl m n R s0 es) (hs : s ∈ es) (ht : Ins m n t) (ho : R s t) (hn : t ∉ es) : Fnl m n R s0 (es ++ [t]) := by
  refine ⟨?_, ?_, ?_, List.mem_append_left _ F.has⟩
  · rw [List.nodup_append]
    exact ⟨F.nd, by simp, fun a ha b hb q => hn (by rw [← List.mem_singleton.mp hb, ← q]; exact ha)⟩
  · intro x hx
    rcases List.mem_append.mp hx with hx | hx
    · exact F.ins x hx
    · rw [List.mem_singleton.mp hx]; exact ht
  · intro x hx
    rcases List.mem_append.mp hx with hx | hx
    · exact F.rt x hx
    · rw [List.mem_singleton.mp hx]; exact .tail (F.rt s hs) ⟨F.ins s hs, ht, ho⟩
/-- all strands are met -/
def AllR (m n : Nat) (f : Nat → Nat → Int) (up : Bool) : Prop := ∀ s, Ins m n s → RT (Rin (Ins m n) (dirR f up)) (true, 0) s
theorem held_allR (n1 : 1 ≤ n) : Held m n f ↔ ∀ up ∈ [false, true], AllR m n f up := by
  have h0 : Ins m n (true, 0) := by simp [Ins]; omega
  have e1 : (fun s t => dirR f false s t) = fun s t => ov f s t = true := by funext s t; simp [dirR]
  have e2 : (fun s t => dirR f true s t) = fun s t => ov f t s = true := by funext s t; simp [dirR]
  constructor
  · intro h up _ s hs
    cases up
    · exact (h _ s h0 hs).mono fun a b ⟨x, y, z⟩ => ⟨x, y, by simpa [dirR] using z⟩
    · exact (h s _ hs h0).rev.mono fun a b ⟨x, y, z⟩ => ⟨y, x, by simpa [dirR] using z⟩
  · intro h s t hs ht
    have a := (h true (by simp) s hs).rev.mono (R' := Rin (Ins m n) fun s t => ov f s t = true) fun a b ⟨x, y, z⟩ => ⟨y, x, by simpa [dirR] using z⟩
    have b := (h false (by simp) t ht).mono (R' := Rin (Ins m n) fun s t => ov f s t = true) fun a b ⟨x, y, z⟩ => ⟨x, y, by simpa [dirR] using z⟩
    exact a.trans b
theorem e_law_is_one (z : Sz m n) (h : Bits m n f) : m__law_is_one [.d (drD (gd m n f))] = some (.d (.bool (decide (Held m n f))), [.d (drD (gd m n f))]) := by
  apply OV.eq
  have v := gd_dr z h
  have m1 := z.m1
  have n1 := z.n1
  have es := e_law_strands v
  rw [gd_len] at es
  have h0 : Ins m n (true, 0) := by simp [Ins]; omega
  have a0 : L2.atI (stL m n) 0 = some (true, 0) := by
    rw [atI_of (by omega)]
    obtain ⟨k, rfl⟩ : ∃ k, n = k + 1 := ⟨n - 1, by omega⟩
    simp [stL, List.range_succ_eq_map]
  have he := held_allR (m := m) (f := f) n1
  rw [m__law_is_one, OV_defn]
  simp [-w_forCons, es]
  rw [show [PyData.bool false, PyData.bool true] = [false, true].map PyData.bool from rfl]
  apply WFor.invOfA PyData.bool (fun pre S => ∃ t2 t3 t4 t5 t6, S = [.d (drD (gd m n f)), .d (.list ((stL m n).map stD)), t2, t3, t4, t5, t6] ∧ ∀ up ∈ pre, AllR m n f up) ⟨_, _, _, _, _, rfl, by simp⟩
  · rintro pre up post S he0 ⟨t2, t3, t4, t5, t6, rfl, hpre⟩
    have hup : up ∈ [false, true] := by rw [he0]; simp
    simp [a0]
    apply WWh.invA (fun k S => ∃ (es : List Sd) (L : List Sd) (t5 t6 : SD), S = [.d (drD (gd m n f)), .d (.list ((stL m n).map stD)), .d (.bool up), .own false (.lst (es.map stD)), .own false (.lst (L.map stD)), t5, t6] ∧ Fnl m n (dirR f up) (true, 0) es ∧ (∀ s ∈ L, s ∈ es) ∧ (∀ s ∈ es, s ∉ L → ∀ t, Ins m n t → dirR f up s t → t ∈ es) ∧ k = 2 * (24 - es.length) + L.length ∧ L.length ≤ es.length) 47
    · exact ⟨[(true, 0)], [(true, 0)], _, _, rfl, ⟨by simp, by simpa using h0, by simpa using RT.refl _, by simp⟩, by simp, by simp, by simp, by simp⟩
    · decide
    · rintro k S ⟨es, L, t5, t6, rfl, F, hL, hcl, rfl, hLl⟩
      have l0 := F.le z
      rcases List.eq_nil_or_concat L with rfl | ⟨L0, here, rfl⟩
      · have cl : ∀ s, RT (Rin (Ins m n) (dirR f up)) (true, 0) s → s ∈ es := fun s hs => hs.closed F.has fun x y hx ⟨_, hy, ho⟩ => hcl x hx (by simp) y hy ho
        have al := all_of_len F.nd (fun s hs => mem_stL.mpr (F.ins s hs)) (nodup_stL m n)
        rw [stL_len] at al
        by_cases q : (es.length : Int) = (n : Int) + m
        · simp [q]
          refine ⟨_, _, _, _, _, rfl, fun u hu => ?_⟩
          rcases List.mem_append.mp hu with hu | hu
          · exact hpre u hu
          · rw [List.mem_singleton.mp hu]
            exact fun s hs => F.rt s (al.mp (by omega) s (mem_stL.mpr hs))
        · have no : ¬ Held m n f := fun hh => q (by
            have := al.mpr fun s hs => cl s (he.mp hh up hup s (mem_stL.mp hs))
            omega)
          simp [q, no]
      · have hh : here ∈ es := hL here (by simp)
        have hi : Ins m n here := F.ins here hh
        have p1 := pop_st L0 here
        have p2 := ne_nil_st (L0.concat here)
        simp at p2 hLl
        simp [p1, p2]
        apply WFor.invOfA stD (fun pre S => ∃ (es' : List Sd) (add : List Sd) (t6 : SD), S = [.d (drD (gd m n f)), .d (.list ((stL m n).map stD)), .d (.bool up), .own false (.lst (es'.map stD)), .own false (.lst ((L0 ++ add).map stD)), .d (stD here), t6] ∧ Fnl m n (dirR f up) (true, 0) es' ∧ es' = es ++ add ∧ ∀ s ∈ pre, dirR f up here s → s ∈ es') ⟨es, [], _, by simp; rfl, F, by simp, by simp⟩
        · rintro pre t post S he2 ⟨es', add, t6, rfl, F', rfl, hp⟩
          have hti := mem_stL.mp (show t ∈ stL m n by rw [he2]; simp)
          have l1 := F'.le z
          simp at l1
          have e1 := notIn_st t (es ++ add)
          simp only [List.map_append] at e1
          have o1 := e_law_over z h hti hi
          have o2 := e_law_over z h hi hti
          have stay : ∀ S, (dirR f up here t → t ∈ es ++ add) → S = [.d (drD (gd m n f)), .d (.list ((stL m n).map stD)), .d (.bool up), .own false (.lst ((es ++ add).map stD)), .own false (.lst ((L0 ++ add).map stD)), .d (stD here), .d (stD t)] → ∃ (es' : List Sd) (add : List Sd) (t6 : SD), S = [.d (drD (gd m n f)), .d (.list ((stL m n).map stD)), .d (.bool up), .own false (.lst (es'.map stD)), .own false (.lst ((L0 ++ add).map stD)), .d (stD here), t6] ∧ Fnl m n (dirR f up) (true, 0) es' ∧ es' = es ++ add ∧ ∀ s ∈ pre ++ [t], dirR f up here s → s ∈ es' := fun S hd e => ⟨es ++ add, add, _, e, F', rfl, fun s hs ho => by
            rcases List.mem_append.mp hs with hs | hs
            · exact hp s hs ho
            · rw [List.mem_singleton.mp hs] at ho ⊢; exact hd ho⟩
          have grow : ∀ S, t ∉ es ++ add → dirR f up here t → S = [.d (drD (gd m n f)), .d (.list ((stL m n).map stD)), .d (.bool up), .own false (.lst (es.map stD ++ (add.map stD ++ [stD t]))), .own false (.lst (L0.map stD ++ (add.map stD ++ [stD t]))), .d (stD here), .d (stD t)] → ∃ (es' : List Sd) (add : List Sd) (t6 : SD), S = [.d (drD (gd m n f)), .d (.list ((stL m n).map stD)), .d (.bool up), .own false (.lst (es'.map stD)), .own false (.lst ((L0 ++ add).map stD)), .d (stD here), t6] ∧ Fnl m n (dirR f up) (true, 0) es' ∧ es' = es ++ add ∧ ∀ s ∈ pre ++ [t], dirR f up here s → s ∈ es' := fun S hm ho e => ⟨es ++ add ++ [t], add ++ [t], .d (stD t), by rw [e]; simp, F'.more (List.mem_append_left _ hh) hti ho hm, by simp, fun s hs ho => by
            rcases List.mem_append.mp hs with hs | hs
            · exact List.mem_append_left _ (hp s hs ho)
            · exact List.mem_append_right _ hs⟩
          by_cases hm : t ∈ es ++ add
          · have hm' := List.mem_append.mp hm
            simp [e1, hm']
            exact stay _ (fun _ => hm) (by simp)
          · have hm' : ¬ (t ∈ es ∨ t ∈ add) := fun q => hm (List.mem_append.mpr q)
            have a1 : es.length + add.length < 100000 := by omega
            have a2 : L0.length + add.length < 100000 := by omega
            cases up
            · by_cases q : ov f here t = true
              · simp [e1, hm', o2, q, a1, a2]
                exact grow _ hm (by simpa [dirR] using q) (by simp)
              · simp [e1, hm', o2, q]
                exact stay _ (fun z => absurd (by simpa [dirR] using z) q) (by simp)
            · by_cases q : ov f t here = true
              · simp [e1, hm', o1, q, a1, a2]
                exact grow _ hm (by simpa [dirR] using q) (by simp)
              · simp [e1, hm', o1, q]
                exact stay _ (fun z => absurd (by simpa [dirR] using z) q) (by simp)
        · rintro S ⟨es', add, t6, rfl, F', rfl, hp⟩
          have l1 := F'.le z
          simp at l1
          simp
          have hc : (L0.concat here).length = L0.length + 1 := by simp
          refine ⟨2 * (24 - (es.length + add.length)) + (L0.length + add.length), by rw [hc]; omega, es ++ add, L0 ++ add, _, _, by rw [List.map_append, List.map_append], F', fun s hs => ?_, fun s hs hn t h1 h2 => ?_, by simp, by simp; omega⟩
          · rcases List.mem_append.mp hs with hs | hs
            · exact List.mem_append_left _ (hL s (by simp [hs]))
            · exact List.mem_append_right _ hs
          · rcases List.mem_append.mp hs with hs | hs
            · by_cases q : s = here
              · subst q
                exact hp t (mem_stL.mpr h1) h2
              · have hs2 : s ∉ L0.concat here := by
                  simp only [List.concat_eq_append, List.mem_append, List.mem_singleton]
                  rintro (h3 | h3)
                  · exact hn (List.mem_append_left _ h3)
                  · exact q h3
                exact List.mem_append_left _ (hcl s hs hs2 t h1 h2)
            · exact absurd (List.mem_append_right _ hs) hn
  · rintro S ⟨t2, t3, t4, t5, t6, rfl, hall⟩
    have yes : Held m n f := he.mpr hall
    simp [yes]
end PK92

set_option Elab.async false
set_option linter.all false
set_option maxRecDepth 100000
set_option maxHeartbeats 4000000
/-! JX1: repeats and least repeats by the law's own hand. -/
namespace PK92
open PySem DL
variable {rows ts : List (List Int)} {m n : Nat} {f g : Nat → Nat → Int}
theorem mul_tT {ts : List (List Int)} {k : Nat} (h : ts.length ≤ 1000) (hk : k ≤ 1000) : dMulX (tT ts) (.int (k : Nat)) = some (tT (rep k ts)) := by
  show dMulX (.tuple (ts.map tI)) (.int k) = _
  rw [dMulX_t, if_pos ⟨by omega, by omega, by simpa using h⟩, Int.toNat_natCast, rep_map]; rfl
theorem e_law_times (z : Sz m n) (h : Bits m n f) {a b : Nat} (ha : a ≤ 12) (hb : b ≤ 12) : m__law_times [.d (drD (gd m n f)), .d (.int (a : Nat)), .d (.int (b : Nat))] = some (.d (drD (gd (m * b) (n * a) (tmC m n f))), [.d (drD (gd m n f)), .d (.int (a : Nat)), .d (.int (b : Nat))]) := by
  apply OV.eq
  have m2 := z.m2
  have n2 := z.n2
  have v := gd_dr z h
  have a3 : m < 100000 := by omega
  rw [m__law_times, OV_defn]
  simp [a3]
  apply WLc.mapOf tI (fun r => tI (rep a r)) (fun r hr => by
    have := v.len r hr
    simp [mul_tI (show r.length ≤ 1000 by omega) (show a ≤ 1000 by omega)])
  have e : ((gd m n f).map fun r => tI (rep a r)) = (gd m (n * a) fun w p => f w (p % n)).map tI := by
    rw [← gd_map (f := f) (rep a) (fun w _ => rep_rw1 a z.n1), List.map_map]; rfl
  rw [e]
  have u := mul_tT (ts := gd m (n * a) fun w p => f w (p % n)) (k := b) (by simp; omega) (by omega)
  rw [rep_gd b z.m1] at u
  simp [u]
  rfl
theorem w_law_least (z : Sz m n) (h : Bits m n f) {Q : SD × List SD → Prop} (k : ∀ p q, IsLeast m n f p q → Q (.d (drD (gd q p f)), [.d (drD (gd m n f))])) : OV (m__law_least [.d (drD (gd m n f))]) Q := by
  have m1 := z.m1
  have n1 := z.n1
  have m2 := z.m2
  have n2 := z.n2
  have v := gd_dr z h
  obtain ⟨r0, h0, hl0, hm0⟩ := v.at0
  rw [m__law_least, OV_defn]
  simp [h0, hl0, rngI_from1 (show n ≤ 100000 by omega)]
  apply WFor.invOfA (fun d : Nat => PyData.int (d : Nat)) (fun pre S => ∃ t3 t4 t5 t6, S = [.d (drD (gd m n f)), .d (.int (n : Nat)), .d (.int (m : Nat)), t3, t4, t5, t6] ∧ ∀ p ∈ pre, p ∣ n → ∀ q, q ∣ m → ¬ Per m n f p q) ⟨_, _, _, _, rfl, by simp⟩
  · rintro pre p post S he ⟨t3, t4, t5, t6, rfl, hno⟩
    have hp0 := List.mem_range'_1.mp (show p ∈ List.range' 1 n by rw [he]; simp)
    have p1 := hp0.1
    have p2 : p ≤ n := by omega
    have below : ∀ p', p' ∣ n → p' < p → p' ∈ pre := fun p' h1 h2 => by
      have h4 := Nat.pos_of_dvd_of_pos h1 n1
      have h3 : p' ∈ List.range' 1 n := List.mem_range'_1.mpr ⟨h4, by omega⟩
      have pw : (List.range' 1 n).Pairwise (· < ·) := List.pairwise_lt_range'
      rw [he] at h3 pw
      rcases List.mem_append.mp h3 with h3 | h3
      · exact h3
      · rcases List.mem_cons.mp h3 with h3 | h3
        · omega
        · have := (List.pairwise_cons.mp (List.pairwise_append.mp pw).2.1).1 p' h3
          omega
    simp [rngI_from1 (show m ≤ 100000 by omega)]
    apply WFor.invOfA (fun d : Nat => PyData.int (d : Nat)) (fun pre2 S => ∃ t4 t5 t6, S = [.d (drD (gd m n f)), .d (.int (n : Nat)), .d (.int (m : Nat)), .d (.int (p : Nat)), t4, t5, t6] ∧ (p ∣ n → ∀ q ∈ pre2, q ∣ m → ¬ Per m n f p q)) ⟨_, _, _, rfl, by simp⟩
    · rintro pre2 q post2 S he2 ⟨t4, t5, t6, rfl, hno2⟩
      have hq0 := List.mem_range'_1.mp (show q ∈ List.range' 1 m by rw [he2]; simp)
      have q1 := hq0.1
      have q2 : q ≤ m := by omega
      have below2 : ∀ q', q' ∣ m → q' < q → q' ∈ pre2 := fun p' h1 h2 => by
        have h4 := Nat.pos_of_dvd_of_pos h1 m1
        have h3 : p' ∈ List.range' 1 m := List.mem_range'_1.mpr ⟨h4, by omega⟩
        have pw : (List.range' 1 m).Pairwise (· < ·) := List.pairwise_lt_range'
        rw [he2] at h3 pw
        rcases List.mem_append.mp h3 with h3 | h3
        · exact h3
        · rcases List.mem_cons.mp h3 with h3 | h3
          · omega
          · have := (List.pairwise_cons.mp (List.pairwise_append.mp pw).2.1).1 p' h3
            omega
      have zc : Sz q p := ⟨q1, by omega, p1, by omega⟩
      have hc : Bits q p f := fun w hw x hx => h w (by omega) x (by omega)
      have e0 : ((n : Int) % p = 0) ↔ p ∣ n := by omega
      have e0' : ((m : Int) % q = 0) ↔ q ∣ m := by omega
      have c5 : 0 < p := p1
      have c6 : 0 < q := q1
      have next : ∀ (S : List SD) (t4 t5 t6 : SD), ¬ (p ∣ n ∧ q ∣ m ∧ Per m n f p q) → S = [.d (drD (gd m n f)), .d (.int (n : Nat)), .d (.int (m : Nat)), .d (.int (p : Nat)), t4, t5, t6] → ∃ t4 t5 t6, S = [.d (drD (gd m n f)), .d (.int (n : Nat)), .d (.int (m : Nat)), .d (.int (p : Nat)), t4, t5, t6] ∧ (p ∣ n → ∀ q' ∈ pre2 ++ [q], q' ∣ m → ¬ Per m n f p q') := fun S t4 t5 t6 hn e => ⟨t4, t5, t6, e, fun hpn q' hq' hqm hper => by
        rcases List.mem_append.mp hq' with hq' | hq'
        · exact hno2 hpn q' hq' hqm hper
        · rw [List.mem_singleton.mp hq'] at hqm hper; exact hn ⟨hpn, hqm, hper⟩⟩
      by_cases pp : p ∣ n
      · by_cases qq : q ∣ m
        · obtain ⟨u, hu⟩ : ∃ u, u = n / p := ⟨_, rfl⟩
          obtain ⟨u', hu'⟩ : ∃ u', u' = m / q := ⟨_, rfl⟩
          have d1 : (n : Int) / p = (u : Int) := by rw [hu]; simp
          have d2 : (m : Int) / q = (u' : Int) := by rw [hu']; simp
          have c1 : L2.CDiv (n : Int) p := cdiv (by omega) (by omega)
          have c2 : L2.CDiv (m : Int) q := cdiv (by omega) (by omega)
          have e1 : n / p ≤ 12 := Nat.le_trans (Nat.div_le_self n p) n2
          have e2 : m / q ≤ 12 := Nat.le_trans (Nat.div_le_self m q) m2
          have e3 : q * (m / q) = m := Nat.mul_div_cancel' qq
          have e4 : p * (n / p) = n := Nat.mul_div_cancel' pp
          have et := e_law_times zc hc e1 e2
          rw [e3, e4, ← hu, ← hu'] at et
          have eq : gd m n (tmC q p f) = gd m n f ↔ Per m n f p q := ⟨fun e => gd_inj e, fun hp => gd_ext hp⟩
          have a1 : q < 100000 := by omega
          have ec : ((gd q n f).map fun r => tI (r.take p)) = (gd q p f).map tI := by
            rw [← gd_map (f := f) (fun r => r.take p) (fun w _ => rw1_take p2), List.map_map]; rfl
          simp [e0.mpr pp, e0'.mpr qq, c5, c6, cut_tT_to (gd m n f) (show (0 : Int) ≤ q by omega), gd_take q2, a1]
          apply WLc.mapOf tI (fun r => tI (r.take p)) (fun r hr => by
            simp [cut_tI_to r (show (0 : Int) ≤ p by omega)])
          rw [ec]
          by_cases hp : Per m n f p q
          · simp [c1, c2, d1, d2, et, eq.mpr hp]
            exact k p q ⟨pp, qq, hp, fun p' h1 h2 => hno p' (below p' h1 h2) h1, fun q' h1 h2 => hno2 pp q' (below2 q' h1 h2) h1⟩
          · have hp' : ¬ gd m n (tmC q p f) = gd m n f := fun z => hp (eq.mp z)
            simp [c1, c2, d1, d2, et, hp']
            exact next _ _ _ _ (fun z => hp z.2.2) rfl
        · have q' : ¬ ((m : Int) % q = 0) := fun z => qq (e0'.mp z)
          simp [e0.mpr pp, q', c5, c6]
          exact next _ _ _ _ (fun z => qq z.2.1) rfl
      · have q' : ¬ ((n : Int) % p = 0) := fun z => pp (e0.mp z)
        simp [q', c5]
        exact next _ _ _ _ (fun z => pp z.1) rfl
    · rintro S ⟨t4, t5, t6, rfl, hno2⟩
      simp
      refine ⟨_, _, _, _, rfl, fun p' hp' hpn q hq => ?_⟩
      rcases List.mem_append.mp hp' with hp' | hp'
      · exact hno p' hp' hpn q hq
      · rw [List.mem_singleton.mp hp'] at hpn ⊢
        have h4 := Nat.pos_of_dvd_of_pos hq m1
        have h5 := Nat.le_of_dvd m1 hq
        exact hno2 hpn q (List.mem_range'_1.mpr ⟨h4, by omega⟩) hq
  · rintro S ⟨t3, t4, t5, t6, rfl, hno⟩
    exact absurd (fun w hw x hx => by rw [Nat.mod_eq_of_lt hw, Nat.mod_eq_of_lt hx]) (hno n (List.mem_range'_1.mpr ⟨n1, by omega⟩) (Nat.dvd_refl n) m (Nat.dvd_refl m))
end PK92

set_option Elab.async false
set_option linter.all false
set_option maxRecDepth 100000
set_option maxHeartbeats 4000000
/-! JX2: signs along strands and runs round the ends by the law's own hand. -/
namespace PK92
open PySem DL
variable {rows ts : List (List Int)} {m n : Nat} {f g : Nat → Nat → Int}
theorem e_law_signs (z : Sz m n) (h : Bits m n f) {s : Sd} (hs : Ins m n s) : m__law_signs [.d (drD (gd m n f)), .d (stD s)] = some (.own false (.lst ((rw1 (lng m n s) (sgn f s)).map .int)), [.d (drD (gd m n f)), .d (stD s)]) := by
  apply OV.eq
  have m2 := z.m2
  have n2 := z.n2
  have a1 : m < 100000 := by omega
  have a2 : n < 100000 := by omega
  obtain ⟨b, i⟩ := s
  rw [m__law_signs, OV_defn]
  cases b
  · simp only [Ins, Bool.false_eq_true, if_false] at hs
    have g1 := atI_gdN (f := f) (n := n) hs
    simp [wd_warp, g1, a2]
    apply WLc.mapOf PyData.int (fun x => .int (1 - x)) (fun x hx => by
      obtain ⟨j, hj, rfl⟩ := mem_rw1 hx
      rcases h i hs j hj with q | q <;> simp [q])
    have e : (rw1 n (f i)).map (fun x => PyData.int (1 - x)) = (rw1 n (sgn f (false, i))).map .int := by
      unfold rw1
      rw [List.map_map, List.map_map]; rfl
    simp [e, lng]
  · simp only [Ins, if_true] at hs
    simp [wd_warp, a1]
    apply WLc.mapOf tI (fun r => .int (nth r i)) (fun r hr => by
      obtain ⟨w, hw, rfl⟩ := mem_gd hr
      have g1 := atI_rw1N (a := f w) hs
      have g2 := nth_rw1 (a := f w) hs
      rw [show (fun q : Option PyData × List SD => q = (some (PyData.int (nth (rw1 n (f w)) i)), _)) = fun q => q = (some (PyData.int (f w i)), _) by rw [g2]]
      simp [g1])
    have e : (gd m n f).map (fun r => PyData.int (nth r i)) = (rw1 m (sgn f (true, i))).map .int := by
      unfold gd
      rw [List.map_map]
      show _ = ((List.range m).map (sgn f (true, i))).map PyData.int
      rw [List.map_map]
      refine List.map_congr_left fun w hw => ?_
      simp only [Function.comp_def]
      rw [nth_rw1 hs]
      rfl
    rw [e]
    simp [lng]
theorem rw1_add (A B : Nat) (a : Nat → Int) : rw1 (A + B) a = rw1 A a ++ rw1 B fun i => a (A + i) := by
  unfold rw1
  rw [List.range_add, List.map_append, List.map_map]; rfl
theorem cyc3 (N : Nat) (a : Nat → Int) : rw1 N a ++ (rw1 N a ++ rw1 N a) = rw1 (N + (N + N)) (cyc N a) := by
  rw [rw1_add, rw1_add]
  congr 1
  · exact rw1_ext fun i hi => by show _ = a (i % N); rw [Nat.mod_eq_of_lt hi]
  · congr 1
    · exact rw1_ext fun i hi => by show _ = a ((N + i) % N); rw [Nat.add_mod_left, Nat.mod_eq_of_lt hi]
    · exact rw1_ext fun i hi => by show _ = a ((N + (N + i)) % N); rw [Nat.add_mod_left, Nat.add_mod_left, Nat.mod_eq_of_lt hi]
theorem rngI_2 {N : Nat} (h : N ≤ 1000) : rngI [.int (N : Nat), .int (2 * (N : Int))] = some ((List.range' N N).map fun d => PyData.int (d : Nat)) := by
  have := rngI_ab (a := N) (b := 2 * N) (by omega) (by omega)
  rw [show 2 * N - N = N by omega] at this
  rw [← this]
  congr 3
theorem dAdd_ll (x y : List PyData) : dAdd (.list x) (.list y) = if x.length + y.length ≤ 100000 then some (.list (x ++ y)) else none := rfl
theorem range'_split {A N : Nat} {pre post : List Nat} {x : Nat} (h : List.range' A N = pre ++ x :: post) : x = A + pre.length ∧ pre.length < N := by
  have hl := congrArg List.length h
  simp at hl
  have hx : (List.range' A N)[pre.length]? = some x := by rw [h]; simp
  rw [List.getElem?_range' (by omega)] at hx
  simp at hx
  omega
theorem e_law_round {N : Nat} {a : Nat → Int} (h1 : 1 ≤ N) (h2 : N ≤ 1000) : m__law_round [.d (.list ((rw1 N a).map .int))] = some (.own false (.lst ((rrun N a).map runD)), [.d (.list ((rw1 N a).map .int))]) := by
  apply OV.eq
  have z0 := atI_rw1N (n := N) (a := a) (i := 0) (by omega)
  have ec := count_all (N := N) (a := a) h1
  rw [m__law_round, OV_defn]
  by_cases h : AllOne N a
  · have hk := ec.mpr h
    simp at z0
    simp [z0, hk]
    unfold rrun
    rw [if_pos h]
    rfl
  · have hk : ¬ ((rw1 N a).count (a 0) : Int) = N := fun q => h (ec.mp (by omega))
    obtain ⟨b, hb⟩ : ∃ b, b = fst1 N a := ⟨_, rfl⟩
    have bN := (fst1_spec h1 h).1
    rw [← hb] at bN
    have c0 : L2.CMul 2 (N : Int) := .inr ⟨by omega, by omega⟩
    have d1 : ((rw1 N a).map PyData.int) ++ (((rw1 N a).map PyData.int) ++ ((rw1 N a).map PyData.int)) = (rw1 (N + (N + N)) (cyc N a)).map PyData.int := by rw [← List.map_append, ← List.map_append, cyc3]
    simp at z0
    simp [z0, hk, dAdd_ll, show N + N ≤ 100000 by omega, show N + N + N ≤ 100000 by omega, c0, rngI_2 h2, d1]
    apply WFor.invOfA (fun d : Nat => PyData.int (d : Nat)) (fun pre S => ∃ E L t3 t4, S = [.d (.list ((rw1 N a).map .int)), .d (.list ((rw1 (N + (N + N)) (cyc N a)).map .int)), .own false (.lst (L.map pI)), t3, t4] ∧ Rd3 N b a (N + pre.length) E L) ⟨_, [], _, _, rfl, Rd3.start h1 h hb⟩
    · rintro pre at_ post S he ⟨E, L, t3, t4, rfl, r⟩
      obtain ⟨e1, e2⟩ := range'_split he
      have g1 := atI_rw1N (n := N + (N + N)) (a := cyc N a) (i := at_) (by omega)
      have g2 := atI_rw1N (n := N + (N + N)) (a := cyc N a) (i := at_ - 1) (by omega)
      rw [show ((at_ - 1 : Nat) : Int) = (at_ : Int) - 1 by omega] at g2
      rw [← e1] at r
      have e3 : N + (pre ++ [at_]).length = at_ + 1 := by simp; omega
      rcases Nat.lt_or_eq_of_le r.e1 with q | q
      · have no := r.no at_ (Nat.le_refl _) q
        rw [← no] at g2
        simp [g1, g2]
        exact ⟨E, L, .d (.int (at_ : Nat)), t4, rfl, by rw [e3]; exact r.skip q⟩
      · subst q
        have ch := r.ch
        have ll : L.length < 100000 := by have := r.ln; have := r.e3; omega
        simp [g1, g2, ch]
        apply WWh.invA (fun k S => ∃ en : Nat, S = [.d (.list ((rw1 N a).map .int)), .d (.list ((rw1 (N + (N + N)) (cyc N a)).map .int)), .own false (.lst (L.map pI)), .d (.int (at_ : Nat)), .d (.int (en : Nat))] ∧ at_ ≤ en ∧ en ≤ b + 2 * N ∧ (∀ i, at_ ≤ i → i < en → cyc N a i = cyc N a at_) ∧ k = b + 2 * N - en) (b + 2 * N - at_)
        · exact ⟨at_, rfl, Nat.le_refl _, by omega, fun i q1 q2 => by omega, rfl⟩
        · omega
        · rintro k S ⟨en, rfl, k1, k2, k3, rfl⟩
          have g3 := atI_rw1N (n := N + (N + N)) (a := cyc N a) (i := en) (by omega)
          by_cases q : cyc N a en = cyc N a at_
          · have k4 : en ≠ b + 2 * N := fun z => by
              have k5 := (cyc_b h1 h hb 2 (by omega)).1
              rw [← z, q, k3 (en - 1) (by omega) (by omega)] at k5
              exact k5 rfl
            simp [g1, g3, q]
            refine ⟨_, ?_, en + 1, rfl, by omega, by omega, fun i q1 q2 => ?_, rfl⟩
            · omega
            · rcases Nat.lt_or_eq_of_le (Nat.le_of_lt_succ q2) with q3 | q3
              · exact k3 i q1 q3
              · rw [q3, q]
          · have k4 : at_ < en := by
              rcases Nat.lt_or_eq_of_le k1 with k4 | k4
              · exact k4
              · rw [k4] at q; exact absurd rfl q
            simp [g1, g3, q, ll]
            refine ⟨en, L ++ [(cyc N a at_, ((en - at_ : Nat) : Int))], .d (.int (at_ : Nat)), .d (.int (en : Nat)), ?_, ?_⟩
            · simp [pI]
              omega
            · rw [e3]
              exact r.more h1 k4 k2 k3 q
    · rintro S ⟨E, L, t3, t4, rfl, r⟩
      rw [List.length_range', show N + N = 2 * N by omega] at r
      have := r.done h1 h hb
      simp
      unfold rrun
      rw [if_neg h, ← hb, List.map_map, ← this]
      rfl
end PK92

set_option Elab.async false
set_option linter.all false
set_option maxRecDepth 100000
set_option maxHeartbeats 4000000
/-! JX3: the longest floats without end. -/
namespace PK92
open PySem DL
variable {rows ts : List (List Int)} {m n : Nat} {f g : Nat → Nat → Int}
/-- the runs of a strand -/
def rnS (m n : Nat) (f : Nat → Nat → Int) (t : Sd) : List (Int × Option Int) := rrun (lng m n t) (sgn f t)
/-- the runs of the strands of a kind -/
def knd (m n : Nat) (f : Nat → Nat → Int) (c : Bool) (l : List Sd) : List (Int × Option Int) := l.flatMap fun t => if t.1 = c then rnS m n f t else []
def krun (m n : Nat) (f : Nat → Nat → Int) (c : Bool) : List (Int × Option Int) := knd m n f c (stL m n)
theorem knd_snoc (c : Bool) (l : List Sd) (t : Sd) : knd m n f c (l ++ [t]) = knd m n f c l ++ if t.1 = c then rnS m n f t else [] := by simp [knd]
theorem dTup_run (p : Int × Option Int) : dTup (runD p) = some [.int p.1, oD p.2] := rfl
theorem e_longest_round (z : Sz m n) (h : Bits m n f) (c : Bool) (s : Int) : m_longest_round [.d (drD (gd m n f)), .d (.str (wd c)), .d (.int s)] = some (.d (oD (mxo (los s (krun m n f c)))), [.d (drD (gd m n f)), .d (.str (wd c)), .d (.int s)]) := by
  apply OV.eq
  have v := gd_dr z h
  have es := e_strands_of v
  rw [gd_len] at es
  rw [m_longest_round, OV_defn]
  simp [es]
  apply WFor.invOfA stD (fun pre S => ∃ t4 t5 t6, S = [.d (drD (gd m n f)), .d (.str (wd c)), .d (.int s), .d (.int (maxI 0 ((los s (knd m n f c pre)).filterMap id))), t4, t5, t6] ∧ none ∉ los s (knd m n f c pre)) ⟨_, _, _, rfl, by simp [knd, los]⟩
  · rintro pre ⟨b, i⟩ post S he ⟨t4, t5, t6, rfl, hn⟩
    have hi : Ins m n (b, i) := mem_stL.mp (show (b, i) ∈ stL m n by rw [he]; simp)
    have l := lng_sz z (b, i)
    by_cases q : b = c
    · subst q
      have e1 := e_signs_along z h hi
      have e2 := e_round_runs (a := sgn f (b, i)) l.1 (by omega)
      simp [e1, e2]
      apply WFor.invOfA runD (fun pre2 S => ∃ t5 t6, S = [.d (drD (gd m n f)), .d (.str (wd b)), .d (.int s), .d (.int (maxI 0 ((los s (knd m n f b pre ++ pre2)).filterMap id))), .d (stD (b, i)), t5, t6] ∧ none ∉ los s (knd m n f b pre ++ pre2)) ⟨t5, t6, by simp, by simpa using hn⟩
      · rintro pre2 ⟨x, o⟩ post2 S he2 ⟨t5, t6, rfl, hn2⟩
        by_cases qs : x = s
        · subst qs
          cases o with
          | none =>
            have hm : none ∈ los x (krun m n f b) := mem_los.mpr (List.mem_flatMap.mpr ⟨(b, i), by rw [he]; simp, by
              rw [if_pos rfl]
              show (x, none) ∈ rrun _ _
              rw [he2]; simp⟩)
            simp [dTup_run, oD, mxo, hm]
          | some k =>
            simp [dTup_run, oD]
            refine ⟨.d (.int x), .d (.int k), ?_, ?_⟩
            · rw [← List.append_assoc, los_append x (knd m n f b pre ++ pre2)]
              have : los x [(x, some k)] = [some k] := by simp [los]
              rw [this, mxo_snoc hn2]
            · rw [← List.append_assoc, los_append x (knd m n f b pre ++ pre2)]
              have : los x [(x, some k)] = [some k] := by simp [los]
              rw [this, List.mem_append]
              rintro (hh | hh)
              · exact hn2 hh
              · simp at hh
        · have e3 : los s [(x, o)] = [] := by simp [los, qs]
          simp [dTup_run, qs]
          refine ⟨.d (.int x), .d (oD o), ?_, ?_⟩
          · rw [← List.append_assoc, los_append s (knd m n f b pre ++ pre2), e3, List.append_nil]
          · rw [← List.append_assoc, los_append s (knd m n f b pre ++ pre2), e3, List.append_nil]
            exact hn2
      · rintro S ⟨t5, t6, rfl, hn2⟩
        have e4 : knd m n f b (pre ++ [(b, i)]) = knd m n f b pre ++ rrun (lng m n (b, i)) (sgn f (b, i)) := by rw [knd_snoc, if_pos rfl]; rfl
        simp
        exact ⟨_, _, _, by rw [e4], by rw [e4]; exact hn2⟩
    · have e4 : knd m n f c (pre ++ [(b, i)]) = knd m n f c pre := by rw [knd_snoc, if_neg q, List.append_nil]
      simp [wd_inj, q]
      exact ⟨.d (stD (b, i)), t5, t6, by rw [e4], by rw [e4]; exact hn⟩
  · rintro S ⟨t4, t5, t6, rfl, hn⟩
    have : mxo (los s (krun m n f c)) = some (maxI 0 ((los s (knd m n f c (stL m n))).filterMap id)) := by
      unfold mxo krun
      rw [if_neg hn]
    simp [this, oD]
def mostL (m n : Nat) (f : Nat → Nat → Int) : List (Option Int) := [mxo (los 1 (krun m n f true)), mxo (los 0 (krun m n f true)), mxo (los 1 (krun m n f false)), mxo (los 0 (krun m n f false))]
theorem e_endless_longest (z : Sz m n) (h : Bits m n f) : m_endless_longest [.d (drD (gd m n f))] = some (.d (.tuple ((mostL m n f).map oD)), [.d (drD (gd m n f))]) := by
  apply OV.eq
  have v := gd_dr z h
  have l1 := e_longest_round z h true 1
  have l2 := e_longest_round z h true 0
  have l3 := e_longest_round z h false 1
  have l4 := e_longest_round z h false 0
  rw [show wd true = "warp" from rfl] at l1 l2
  rw [show wd false = "weft" from rfl] at l3 l4
  rw [m_endless_longest, OV_defn]
  simp [e_want_draft v, l1, l2, l3, l4, mostL]
theorem krun_tm (m1 : 1 ≤ m) (n1 : 1 ≤ n) {a b : Nat} (a1 : 1 ≤ a) (b1 : 1 ≤ b) (c : Bool) (p : Int × Option Int) : p ∈ krun (m * b) (n * a) (tmC m n f) c ↔ p ∈ krun m n f c := by
  have key : ∀ i, (if c = true then i < n else i < m) → (p ∈ rnS (m * b) (n * a) (tmC m n f) (c, i) ↔ p ∈ rnS m n f (c, i)) := fun i hi => by
    cases c
    · simp only [Bool.false_eq_true, if_false] at hi
      have e := rrun_times_mem n1 a1 (sgn f (false, i)) (p := p)
      rw [← show rnS m n f (false, i) = rrun n (sgn f (false, i)) from rfl] at e
      rw [← e]
      have : sgn (tmC m n f) (false, i) = fun j => sgn f (false, i) (j % n) := by
        funext j
        show 1 - f (i % m) (j % n) = 1 - f i (j % n)
        rw [Nat.mod_eq_of_lt hi]
      unfold rnS
      rw [this]; exact Iff.rfl
    · simp only [if_true] at hi
      have e := rrun_times_mem m1 b1 (sgn f (true, i)) (p := p)
      rw [← show rnS m n f (true, i) = rrun m (sgn f (true, i)) from rfl] at e
      rw [← e]
      have : sgn (tmC m n f) (true, i) = fun j => sgn f (true, i) (j % m) := by
        funext j
        show f (j % m) (i % n) = f (j % m) i
        rw [Nat.mod_eq_of_lt hi]
      unfold rnS
      rw [this]; exact Iff.rfl
  have per : ∀ i, rnS (m * b) (n * a) (tmC m n f) (c, i) = rnS (m * b) (n * a) (tmC m n f) (c, if c = true then i % n else i % m) := fun i => by
    have : sgn (tmC m n f) (c, i) = sgn (tmC m n f) (c, if c = true then i % n else i % m) := by
      funext j
      cases c
      · show 1 - f (i % m) (j % n) = 1 - f (i % m % m) (j % n)
        rw [Nat.mod_mod]
      · show f (j % m) (i % n) = f (j % m) (i % n % n)
        rw [Nat.mod_mod]
    unfold rnS
    rw [this]
    cases c <;> rfl
  have mm : ∀ (M N : Nat) (F : Nat → Nat → Int), p ∈ krun M N F c ↔ ∃ i, (if c = true then i < N else i < M) ∧ p ∈ rnS M N F (c, i) := fun M N F => by
    unfold krun knd
    rw [List.mem_flatMap]
    constructor
    · rintro ⟨⟨d, i⟩, h1, h2⟩
      have h1 := mem_stL.mp h1
      by_cases q : d = c
      · subst q
        rw [if_pos rfl] at h2
        exact ⟨i, by simpa [Ins] using h1, h2⟩
      · rw [if_neg q] at h2; simp at h2
    · rintro ⟨i, h1, h2⟩
      exact ⟨(c, i), mem_stL.mpr (by simpa [Ins] using h1), by rw [if_pos rfl]; exact h2⟩
  rw [mm, mm]
  constructor
  · rintro ⟨i, h1, h2⟩
    rw [per] at h2
    have h3 : if c = true then (if c = true then i % n else i % m) < n else (if c = true then i % n else i % m) < m := by
      cases c <;> simp [Nat.mod_lt, m1, n1] <;> exact Nat.mod_lt _ (by omega)
    exact ⟨_, h3, (key _ h3).mp h2⟩
  · rintro ⟨i, h1, h2⟩
    refine ⟨i, ?_, (key _ h1).mpr h2⟩
    have := Nat.le_mul_of_pos_right n a1
    have := Nat.le_mul_of_pos_right m b1
    cases c <;> simp at h1 ⊢ <;> omega
theorem most_tm (m1 : 1 ≤ m) (n1 : 1 ≤ n) {a b : Nat} (a1 : 1 ≤ a) (b1 : 1 ≤ b) : mostL (m * b) (n * a) (tmC m n f) = mostL m n f := by
  have e : ∀ (c : Bool) (s : Int), mxo (los s (krun (m * b) (n * a) (tmC m n f) c)) = mxo (los s (krun m n f c)) := fun c s => mxo_congr fun x => by
    rw [mem_los, mem_los, krun_tm m1 n1 a1 b1]
  unfold mostL
  rw [e, e, e, e]
end PK92

set_option Elab.async false
set_option linter.all false
set_option maxRecDepth 100000
set_option maxHeartbeats 4000000
/-! JX4: k92's law. -/
namespace PK92
open PySem DL
variable {rows ts : List (List Int)} {m n : Nat} {f g : Nat → Nat → Int}
theorem ne_str (a : Str) : dNe (.str a) (.str a) = some (.bool false) := by
  show some (PyData.bool (!decide (a = a))) = _
  simp
theorem eq_strS (a : Str) : dEq (.str a) (.str a) = some (.bool true) := by
  show some (PyData.bool (decide (a = a))) = _
  simp
theorem mul_one' {x : PyData} {k : Nat} (h : k ≤ 1000) : dMulX (.list [x]) (.int (k : Nat)) = some (.list (List.replicate k x)) := mul_one h
@[simp] theorem fold_st (b : Bool) (i : Nat) : PyData.tuple [.str (wd b), .int (i : Nat)] = stD (b, i) := rfl
theorem sm_str (c : Str) (h : (reprText c).length ≤ 300) : Sm 1 300 (.str c) := ⟨by simp [okR], by simpa [DL.wt] using h, by simp [PyData.depth]⟩
theorem sm_gd (z : Sz m n) (h : Bits m n f) : Sm 3 4000 (drD (gd m n f)) := by
  have m2 := z.m2
  have n2 := z.n2
  have r : ∀ x ∈ (gd m n f).map tI, Sm 1 300 x := fun x hx => by
    obtain ⟨r, hr, rfl⟩ := List.mem_map.mp hx
    obtain ⟨w, hw, rfl⟩ := mem_gd hr
    refine (Sm.tuple (n := 0) (w := 21) (k := 12) (fun x hx => ?_) (by simp; omega)).mono (by decide) (by decide)
    obtain ⟨y, hy, rfl⟩ := List.mem_map.mp hx
    obtain ⟨j, hj, rfl⟩ := mem_rw1 hy
    exact Sm.int (by rcases h w hw j hj with q | q <;> rw [q] <;> decide)
  have t : Sm 2 3700 (tT (gd m n f)) := (Sm.tuple (k := 12) r (by simp; omega)).mono (by decide) (by decide)
  refine ⟨?_, ?_, ?_⟩
  · have e : okR (drD (gd m n f)) = (okR (.str "draft") && (okR (tT (gd m n f)) && true)) := by simp only [drD, okR, okRL]
    rw [e, t.ok]; rfl
  · have h1 : (reprText "draft").length ≤ 20 := by decide +kernel
    have := t.wt
    simp only [drD, DL.wt, wtL]
    omega
  · refine depth_tuple fun x hx => ?_
    rcases List.mem_cons.mp hx with hx | hx
    · rw [hx]; simp [PyData.depth]
    · rw [List.mem_singleton.mp hx]; exact t.dp
theorem sm_oD {o : Option Int} (h : o = none ∨ ∃ k : Int, o = some k ∧ 1 ≤ k ∧ k ≤ (12 : Nat)) : Sm 0 21 (oD o) := by
  rcases h with h | ⟨k, h, h1, h2⟩
  · rw [h]; exact Sm.none
  · rw [h]; exact Sm.int (by omega)
theorem sgn_bits (h : Bits m n f) {t : Sd} (ht : Ins m n t) {i : Nat} (hi : i < lng m n t) : sgn f t i = 0 ∨ sgn f t i = 1 := by
  obtain ⟨b, j⟩ := t
  cases b
  · simp only [Ins, lng, Bool.false_eq_true, if_false] at ht hi
    show 1 - f j i = 0 ∨ 1 - f j i = 1
    rcases h j ht i hi with q | q <;> simp [q]
  · simp only [Ins, lng, if_true] at ht hi
    exact h i hi j ht
theorem run_ok (z : Sz m n) (h : Bits m n f) {t : Sd} (ht : Ins m n t) {p : Int × Option Int} (hp : p ∈ rnS m n f t) : (p.1 = 0 ∨ p.1 = 1) ∧ (p.2 = none ∨ ∃ k : Int, p.2 = some k ∧ 1 ≤ k ∧ k ≤ (12 : Nat)) := by
  have l := lng_sz z t
  have := rrun_sgn l.1 (a := sgn f t) (fun i hi => sgn_bits h ht hi) p hp
  refine ⟨this.1, ?_⟩
  rcases this.2 with q | ⟨k, q1, q2, q3⟩
  · exact .inl q
  · exact .inr ⟨k, q1, q2, by omega⟩
theorem rn_len (z : Sz m n) (t : Sd) : (rnS m n f t).length ≤ 12 := by
  have l := lng_sz z t
  have := rrun_len l.1 (a := sgn f t)
  exact Nat.le_trans this l.2
theorem sm_runs (z : Sz m n) (h : Bits m n f) {t : Sd} (ht : Ins m n t) : Sm 2 1000 (.list ((rnS m n f t).map runD)) := by
  refine (Sm.list (n := 1) (w := 49) (k := 12) (fun x hx => ?_) (by simpa using rn_len z t)).mono (by decide) (by decide)
  obtain ⟨p, hp, rfl⟩ := List.mem_map.mp hx
  have := run_ok z h ht hp
  refine (Sm.tuple (n := 0) (w := 21) (k := 2) (fun x hx => ?_) (by simp)).mono (by decide) (by decide)
  rcases List.mem_cons.mp hx with hx | hx
  · rw [hx]; exact Sm.int (by rcases this.1 with q | q <;> rw [q] <;> decide)
  · rw [List.mem_singleton.mp hx]; exact sm_oD this.2
theorem knd_len (z : Sz m n) (c : Bool) : ∀ l : List Sd, (knd m n f c l).length ≤ 12 * l.length
  | [] => by simp [knd]
  | t :: l => by
    have h1 := knd_len z c l
    have h2 := rn_len (f := f) z t
    have e : knd m n f c (t :: l) = (if t.1 = c then rnS m n f t else []) ++ knd m n f c l := by simp [knd]
    rw [e, List.length_append, List.length_cons]
    split
    · omega
    · simp; omega
theorem mxo_ok (z : Sz m n) (h : Bits m n f) (c : Bool) (s : Int) : mxo (los s (krun m n f c)) = none ∨ ∃ k : Int, mxo (los s (krun m n f c)) = some k ∧ 0 ≤ k ∧ k ≤ (12 : Nat) := by
  unfold mxo
  split
  · exact .inl rfl
  · refine .inr ⟨_, rfl, (maxI_ge _ 0).1, ?_⟩
    rcases maxI_mem ((los s (krun m n f c)).filterMap id) 0 with q | q
    · rw [q]; decide
    · obtain ⟨o, h1, h2⟩ := List.mem_filterMap.mp q
      obtain ⟨t, h3, h4⟩ := List.mem_flatMap.mp (mem_los.mp h1)
      split at h4
      · rcases (run_ok z h (mem_stL.mp h3) h4).2 with q2 | ⟨k, q2, q3, q4⟩
        · simp only at q2; rw [q2] at h2; cases h2
        · simp only at q2; rw [q2] at h2
          have : k = maxI 0 ((los s (krun m n f c)).filterMap id) := Option.some.inj h2
          omega
      · simp at h4
theorem sm_most (z : Sz m n) (h : Bits m n f) : Sm 1 200 (.tuple ((mostL m n f).map oD)) := by
  have key : ∀ c s, Sm 0 21 (oD (mxo (los s (krun m n f c)))) := fun c s => by
    rcases mxo_ok z h c s with q | ⟨k, q, q1, q2⟩
    · rw [q]; exact Sm.none
    · rw [q]; exact Sm.int (by omega)
  refine (Sm.tuple (n := 0) (w := 21) (k := 4) (fun x hx => ?_) (by simp [mostL])).mono (by decide) (by decide)
  simp only [mostL, List.map_cons, List.map_nil, List.mem_cons, List.not_mem_nil, or_false] at hx
  rcases hx with q | q | q | q <;> rw [q] <;> exact key _ _
end PK92

set_option Elab.async false
set_option linter.all false
set_option maxRecDepth 100000
set_option maxHeartbeats 4000000
/-! JX5: k92's law. -/
namespace PK92
open PySem DL
variable {rows ts : List (List Int)} {m n : Nat} {f g : Nat → Nat → Int}
/-- what the law's dict holds -/
structure Kv (m n : Nat) (f : Nat → Nat → Int) (l : List Sd) (kvs : ML) : Prop where
  get : ∀ c s, (s = 0 ∨ s = 1) → (mGet kvs [.inr (wd c), .inl s]).getD (.list [.int 0]) = .list ((some 0 :: los s (knd m n f c l)).map oD)
  has : ∀ c s, (s = 0 ∨ s = 1) → (∃ t ∈ l, t.1 = c) → (mGet kvs [.inr (wd c), .inl s]).isSome = true
  len : kvs.length ≤ 2 * l.length
theorem Kv.yes {l : List Sd} {kvs : ML} (k : Kv m n f l kvs) {c : Bool} {s : Int} (hs : s = 0 ∨ s = 1) (h : ∃ t ∈ l, t.1 = c) : mGet kvs [.inr (wd c), .inl s] = some (.list ((some 0 :: los s (knd m n f c l)).map oD)) := by
  obtain ⟨x, hx⟩ := Option.isSome_iff_exists.mp (k.has c s hs h)
  have := k.get c s hs
  rw [hx] at this ⊢
  exact congrArg some this
theorem ky_inj {a b : Bool} {s t : Int} : ([.inr (wd a), .inl s] : List L2.Key) = [.inr (wd b), .inl t] ↔ a = b ∧ s = t := by
  simp [wd_inj]
theorem Kv.more {l : List Sd} {kvs : ML} (k : Kv m n f l kvs) (t : Sd) : Kv m n f (l ++ [t]) (mPut (mPut kvs [.inr (wd t.1), .inl 0] (.list ((some 0 :: los 0 (knd m n f t.1 (l ++ [t]))).map oD))) [.inr (wd t.1), .inl 1] (.list ((some 0 :: los 1 (knd m n f t.1 (l ++ [t]))).map oD))) := by
  have oth : ∀ c, c ≠ t.1 → knd m n f c (l ++ [t]) = knd m n f c l := fun c hc => by
    rw [knd_snoc, if_neg fun q => hc q.symm, List.append_nil]
  refine ⟨fun c s hs => ?_, fun c s hs ht => ?_, ?_⟩
  · rw [mGet_put, mGet_put]
    by_cases hc : c = t.1
    · rcases hs with q | q <;> subst q <;> simp [ky_inj, hc]
    · rw [if_neg fun q => hc (ky_inj.mp q).1, if_neg fun q => hc (ky_inj.mp q).1, oth c hc]
      exact k.get c s hs
  · rw [mGet_put, mGet_put]
    by_cases hc : c = t.1
    · rcases hs with q | q <;> subst q <;> simp [ky_inj, hc]
    · rw [if_neg fun q => hc (ky_inj.mp q).1, if_neg fun q => hc (ky_inj.mp q).1]
      refine k.has c s hs ?_
      obtain ⟨u, hu, e⟩ := ht
      rcases List.mem_append.mp hu with hu | hu
      · exact ⟨u, hu, e⟩
      · rw [List.mem_singleton.mp hu] at e; exact absurd e.symm hc
  · refine Nat.le_trans (mPut_len _ _ _) (Nat.le_trans (Nat.succ_le_succ (mPut_len _ _ _)) ?_)
    have := k.len
    rw [List.length_append, List.length_singleton]
    omega
theorem dMax_oD {l : List (Option Int)} (h : none ∉ l) : dMax [.list (.int 0 :: l.map oD)] = some (.int (maxI 0 (l.filterMap id))) := by
  have e : ∀ l : List (Option Int), none ∉ l → l.map oD = (l.filterMap id).map .int := by
    intro l
    induction l with
    | nil => intro _; rfl
    | cons o l ih =>
      intro h
      cases o with
      | none => exact absurd (by simp) h
      | some i => simp [oD, ih (fun q => h (List.mem_cons_of_mem _ q))]
  rw [e l h]
  show (dInts ((0 :: l.filterMap id).map .int)).bind _ = _
  rw [dInts_map]; rfl
theorem in_none (l : List (Option Int)) : dIn .none (.list (.int 0 :: l.map oD)) = some (.bool (decide (none ∈ l))) := by
  have := (dIn_enc enc_oD (by decide) none (some 0 :: l)).2
  simpa [oD] using this
theorem ky_of (c : Bool) (s : Int) : keyOf (.tuple [.str (wd c), .int s]) = some [.inr (wd c), .inl s] := rfl
theorem los_map (s : Int) (R : List (Int × Option Int)) : (R.filterMap fun p => if p.1 = s then some (oD p.2) else none) = (los s R).map oD := by
  unfold los
  rw [List.map_filterMap]
  congr 1
  funext p
  by_cases q : p.1 = s <;> simp [q]
theorem w_right (a b : Int) : OV (m__law_right [P a b]) fun q => ∃ a' b', q = (.d (.bool true), [P a' b']) := by
  rw [m__law_right, OV_defn]
  simp
  have wd6 := fun {a b : Int} {Q : SD × List SD → Prop} => w_draft (a := a) (b := b) (k := 6) (by decide) (by decide) (Q := Q)
  apply wd6
  intro m n f a b m1 m4 n1 n4 h
  have z : Sz m n := ⟨m1, by omega, n1, by omega⟩
  have v := gd_dr z h
  obtain ⟨r0, h0, hl0, hm0⟩ := v.at0
  have dn : (1 : Int) ≤ 12 / n := by
    have : (2 : Int) ≤ 12 / n := Int.le_ediv_of_mul_le (by omega) (by omega)
    omega
  have dm : (1 : Int) ≤ 12 / m := by
    have : (2 : Int) ≤ 12 / m := Int.le_ediv_of_mul_le (by omega) (by omega)
    omega
  have dn2 : (12 : Int) / n ≤ 12 := Int.ediv_le_self _ (by decide)
  have dm2 : (12 : Int) / m ≤ 12 := Int.ediv_le_self _ (by decide)
  have cn : L2.CDiv 12 (n : Int) := cdiv (by omega) (by omega)
  have cm : L2.CDiv 12 (m : Int) := cdiv (by omega) (by omega)
  obtain ⟨sh, hsh⟩ := (sm_gd z h).repr (by decide) (by decide)
  simp [h0, hl0, hsh, cn, cm]
  apply w_draw (by omega) (by omega)
  intro r1 a b p1 p2
  simp [cm]
  apply w_draw (by omega) (by omega)
  intro r2 a b q1 q2
  simp
  obtain ⟨A, hA⟩ : ∃ A : Nat, (A : Int) = 1 + r1 := ⟨(1 + r1).toNat, by omega⟩
  obtain ⟨B, hB⟩ : ∃ B : Nat, (B : Int) = 1 + r2 := ⟨(1 + r2).toNat, by omega⟩
  rw [← hA, ← hB]
  have A1 : 1 ≤ A := by omega
  have B1 : 1 ≤ B := by omega
  have ha : n * A ≤ 12 := by
    have h1 : (A : Int) ≤ 12 / n := by omega
    have h2 : (n : Int) * A ≤ 12 := by
      have := Int.mul_le_mul_of_nonneg_left h1 (show (0 : Int) ≤ n by omega)
      have h3 : (n : Int) * (12 / n) ≤ 12 := Int.mul_ediv_self_le (by omega)
      omega
    exact_mod_cast h2
  have hb : m * B ≤ 12 := by
    have h1 : (B : Int) ≤ 12 / m := by omega
    have h2 : (m : Int) * B ≤ 12 := by
      have := Int.mul_le_mul_of_nonneg_left h1 (show (0 : Int) ≤ m by omega)
      have h3 : (m : Int) * (12 / m) ≤ 12 := Int.mul_ediv_self_le (by omega)
      omega
    exact_mod_cast h2
  have A2 : A ≤ 12 := Nat.le_trans (Nat.le_mul_of_pos_left A n1) ha
  have B2 : B ≤ 12 := Nat.le_trans (Nat.le_mul_of_pos_left B m1) hb
  have zL : Sz (m * B) (n * A) := ⟨Nat.mul_pos m1 B1, hb, Nat.mul_pos n1 A1, ha⟩
  have hL : Bits (m * B) (n * A) (tmC m n f) := bits_tm z h
  have vL := gd_dr zL hL
  have e1 := e_repeated z h A1 B1 ha hb
  have e2 := e_law_times z h A2 B2
  obtain ⟨t1, ht1⟩ := (Sm.list2 (sm_gd zL hL) (sm_gd zL hL)).repr (by decide) (by decide)
  simp [e1, e2, ht1, ne_str, perm]
  apply w_law_least z h
  intro p q hl
  simp
  apply w_least z h
  intro p' q' hl'
  obtain ⟨rfl, rfl⟩ := hl.uniq hl'
  simp [perm]
  apply w_least zL hL
  intro p' q' hl2
  have hu := hl2.uniq (hl.times m1 n1 A1 B1)
  have hq := Nat.le_of_dvd m1 hl.qm
  have hp := Nat.le_of_dvd n1 hl.pn
  have s5 : gd q' p' (tmC m n f) = gd q p f := by
    rw [hu.1, hu.2]
    refine gd_ext fun w hw x hx => ?_
    simp only [tmC, Nat.mod_eq_of_lt (show w < m by omega), Nat.mod_eq_of_lt (show x < n by omega)]
  have zl : Sz q p := ⟨Nat.pos_of_dvd_of_pos hl.qm m1, by omega, Nat.pos_of_dvd_of_pos hl.pn n1, by omega⟩
  have hbl : Bits q p f := fun w hw x hx => h w (by omega) x (by omega)
  obtain ⟨t2, ht2⟩ := (Sm.list2 (sm_gd zl hbl) (sm_gd zl hbl)).repr (by decide) (by decide)
  -- one cloth
  obtain ⟨c, hc⟩ : ∃ c : Bool, c = decide (Held m n f) := ⟨_, rfl⟩
  have k1 : Held (m * B) (n * A) (tmC m n f) ↔ Held m n f := held_times m1 n1 A1 B1
  have f1 := e_endless_one z h
  have f2 := e_endless_one zL hL
  have f3 := e_law_is_one z h
  have f4 := e_law_is_one zL hL
  rw [← hc] at f1 f3
  rw [show decide (Held (m * B) (n * A) (tmC m n f)) = c by rw [hc]; exact decide_eq_decide.mpr k1] at f2 f4
  obtain ⟨t3, ht3⟩ := (Sm.list (n := 0) (w := 21) (k := 3) (xs := [.bool c, .bool c, .bool c]) (fun x hx => by simp at hx; rw [hx]; exact Sm.bool c) (by simp)).repr (by decide) (by decide)
  have u3 : dMulX (.list [.bool c]) (.int 3) = some (.list [.bool c, .bool c, .bool c]) := mul_one' (x := .bool c) (k := 3) (by decide)
  have es := e_law_strands v
  rw [gd_len] at es
  simp [s5, ht2, ne_str, f1, f2, f3, f4, u3, ht3, es, perm]
  apply WFor.invOfA stD (fun pre S => ∃ kvs t11 t12 t13 t14 t15 t16 t17 t18, S = [P a b, .d (drD (gd m n f)), .d (.str sh), .d (.int (n : Nat)), .d (.int (m : Nat)), .d (.int (A : Nat)), .d (.int (B : Nat)), .d (drD (gd (m * B) (n * A) (tmC m n f))), .d (drD (gd q p f)), .d (.bool c), .own false (.dct true kvs), t11, t12, t13, t14, t15, t16, t17, t18] ∧ Kv m n f pre kvs) ⟨[], _, _, _, _, _, _, _, _, rfl, ⟨fun c s hs => by simp [mGet_nil, knd, los, oD], fun c s hs ht => by simp at ht, by simp⟩⟩
  · rintro pre ⟨d, i⟩ post S he ⟨kvs, t11, t12, t13, t14, t15, t16, t17, t18, rfl, K⟩
    have hi : Ins m n (d, i) := mem_stL.mp (show (d, i) ∈ stL m n by rw [he]; simp)
    have l := lng_sz z (d, i)
    have g1 := e_law_signs z h hi
    have g2 := e_law_round (a := sgn f (d, i)) l.1 (by omega)
    have g3 := e_endless_floats z h hi
    obtain ⟨R, hR⟩ : ∃ R, R = rnS m n f (d, i) := ⟨_, rfl⟩
    rw [show rrun (lng m n (d, i)) (sgn f (d, i)) = R from hR.symm] at g2 g3
    have sR := sm_runs z h hi
    rw [← hR] at sR
    have lR : R.length ≤ 12 := by rw [hR]; exact rn_len z _
    obtain ⟨w1, hw1⟩ := sR.repr (by decide) (by decide)
    obtain ⟨w2, hw2⟩ := (Sm.list2 sR sR).repr (by decide) (by decide)
    have lR2 : R.length < 100000 := by omega
    have kg0 := K.get d 0 (.inl rfl)
    have kg1 := K.get d 1 (.inr rfl)
    have nl := knd_len (f := f) z d pre
    have pl : pre.length ≤ 24 := by
      have := congrArg List.length he
      have m2 := z.m2
      have n2 := z.n2
      simp at this; omega
    have ll : ∀ s : Int, (los s (knd m n f d pre)).length ≤ 300 := fun s => Nat.le_trans (los_len s _) (by omega)
    have lr : ∀ s : Int, (los s R).length ≤ 12 := fun s => Nat.le_trans (los_len s _) lR
    have kn : ∀ s : Int, los s (knd m n f d (pre ++ [(d, i)])) = los s (knd m n f d pre) ++ los s R := fun s => by
      rw [knd_snoc, if_pos rfl, los_append, hR]
    have kl := K.len
    simp only [List.map_cons, oD] at kg0 kg1
    simp [g1, g2, g3, hw1, hw2, perm, ne_str, lR2, ky_of, kg0]
    apply WLc.fmapOf runD (fun p => if p.1 = 0 then some (oD p.2) else none) (fun p hp => by
      by_cases q : p.1 = 0 <;> simp [dTup_run, q])
    rw [los_map]
    have c1 : (los 0 (knd m n f d pre)).length + 1 + (los 0 R).length ≤ 100000 := by have := ll 0; have := lr 0; omega
    have c2 : kvs.length < 100000 := by omega
    simp [dAdd_ll, ky_of, c1, c2, mGet_put, kg1]
    refine ⟨lR2, ?_⟩
    apply WLc.fmapOf runD (fun p => if p.1 = 1 then some (oD p.2) else none) (fun p hp => by
      by_cases q : p.1 = 1 <;> simp [dTup_run, q])
    rw [los_map]
    have c3 : (los 1 (knd m n f d pre)).length + 1 + (los 1 R).length ≤ 100000 := by have := ll 1; have := lr 1; omega
    have c4 : ∀ k x, (mPut kvs k x).length < 100000 := fun k x => by have := mPut_len kvs k x; omega
    simp [dAdd_ll, ky_of, c3, c4]
    have Km := K.more (d, i)
    simp only [kn, List.map_cons, List.map_append, oD, List.cons_append] at Km
    exact ⟨_, _, _, _, _, _, _, _, _, rfl, Km⟩
  · rintro S ⟨kvs, t11, t12, t13, t14, t15, t16, t17, t18, rfl, K⟩
    have hT : ∀ c : Bool, ∃ t ∈ stL m n, t.1 = c := fun c => ⟨(c, 0), mem_stL.mpr (by cases c <;> simp [Ins] <;> omega), rfl⟩
    have y : ∀ (c : Bool) (s : Int), (s = 0 ∨ s = 1) → mGet kvs [.inr (wd c), .inl s] = some (.list (.int 0 :: (los s (krun m n f c)).map oD)) := fun c s hs => K.yes hs (hT c)
    have g1 := e_endless_longest z h
    have g2 := e_endless_longest zL hL
    rw [most_tm m1 n1 A1 B1] at g2
    obtain ⟨w1, hw1⟩ := (Sm.list2 (sm_most z h) (sm_most z h)).repr (by decide) (by decide)
    have u4 : dMulX (.list [.tuple ((mostL m n f).map oD)]) (.int 2) = some (.list [.tuple ((mostL m n f).map oD), .tuple ((mostL m n f).map oD)]) := mul_one' (k := 2) (by decide)
    simp [-w_lcCons]
    rw [show [PyData.tuple [.str "warp", .int 1], .tuple [.str "warp", .int 0], .tuple [.str "weft", .int 1], .tuple [.str "weft", .int 0]] = [(true, (1 : Int)), (true, 0), (false, 1), (false, 0)].map fun p : Bool × Int => PyData.tuple [.str (wd p.1), .int p.2] from rfl]
    apply WLc.mapOf (fun p : Bool × Int => PyData.tuple [.str (wd p.1), .int p.2]) (fun p => oD (mxo (los p.2 (krun m n f p.1)))) (fun p hp => by
      have hs : p.2 = 0 ∨ p.2 = 1 := by
        simp at hp
        rcases hp with q | q | q | q <;> simp [q]
      have yy := y p.1 p.2 hs
      by_cases q : none ∈ los p.2 (krun m n f p.1)
      · simp [ky_of, yy, in_none, q, mxo, oD]
      · simp [ky_of, yy, in_none, q, mxo, oD, dMax_oD q])
    rw [show [(true, (1 : Int)), (true, 0), (false, 1), (false, 0)].map (fun p : Bool × Int => oD (mxo (los p.2 (krun m n f p.1)))) = (mostL m n f).map oD from rfl]
    simp [g1, g2, perm, hw1, u4, ne_str, hsh, eq_strS]
end PK92

set_option Elab.async false
set_option linter.all false
set_option maxRecDepth 100000
set_option maxHeartbeats 4000000
/-! JX6: k92's law. -/
namespace PK92
open PySem DL
theorem w_pot (ns : List Int) (k : Int) (h : 0 ≤ k) {Q : SD × List SD → Prop} (hQ : ∀ x y, Q (.own false (.lst [.int x, .int y]), [.d (scrD ns), .d (.int k)])) : OV (m__law_pot [.d (scrD ns), .d (.int k)]) Q := by
  have p1 : L2.CPow 10 18 := ⟨by decide, by decide, by decide⟩
  have p2 : L2.CMul 1367 k := .inl ⟨by decide, by decide⟩
  have p3 : L2.CMul 6967 k := .inl ⟨by decide, by decide⟩
  have p4 (t : Int) : L2.CMul t 40014 := .inr ⟨by decide, by decide⟩
  have l1 : dLen [scrD ns] = some (.int ns.length) := by show some (PyData.int (ns.map PyData.int).length) = _; rw [List.length_map]
  have l2 : dIx (scrD ns) (.int k) = (L2.atI ns k).map .int := atI_map _ _ _
  rw [m__law_pot, OV_defn]
  by_cases hk : k < ns.length
  · simp [p1, p2, p3, p4, l1, l2, hk, atI_nth h hk]
    exact hQ _ _
  · simp [p1, p2, p3, p4, l1, hk]
    exact hQ _ _
theorem lawM : DL.LawM 63 m_law := fun ns hn => by
  apply OV.eq
  have l1 : dLen [scrD ns] = some (.int ns.length) := by show some (PyData.int (ns.map PyData.int).length) = _; rw [List.length_map]
  obtain ⟨N, hN1, hN2⟩ : ∃ N : Int, (0 ≤ N ∧ N ≤ 100) ∧ dMax [.int 1, .int (if (ns.length : Int) < 3 then (ns.length : Int) else 3)] = some (.int N) := by
    refine ⟨_, ?_, dMax_ii _ _⟩
    split <;> split <;> omega
  have r3 := rngI_int (j := 2) (by decide) (by decide)
  rw [m_law, OV_defn]
  simp [-dMax_ii, l1, hN2, rngI_int hN1.1 (show N ≤ 100000 by omega)]
  apply WFor.invOfA PyData.int (fun pre S => ∃ t1 t2 t3, S = [.d (scrD ns), t1, t2, t3]) ⟨_, _, _, rfl⟩
  · rintro pre k post S he ⟨t1, t2, t3, rfl⟩
    have hk := mem_upto.mp (show k ∈ upto N.toNat by rw [he]; simp)
    simp
    apply w_pot ns k hk.1
    intro x y
    simp [r3]
    apply WLc.invA (fun pre ys S => ∃ a b, S = [.d (scrD ns), .d (.int k), .own false (.lst [.int a, .int b]), t3] ∧ ys = List.replicate pre.length (.bool true)) ⟨_, _, rfl, rfl⟩
    · rintro pre x post ys S he2 ⟨a, b, rfl, rfl⟩
      simp
      refine OV.use (w_right a b) ?_
      rintro q ⟨a', b', rfl⟩
      simp
      exact ⟨a', b', rfl, by rw [List.length_append, List.length_singleton, List.replicate_succ']⟩
    · rintro ys S ⟨a, b, rfl, rfl⟩
      have al : dAll [.list (List.replicate 2 (.bool true))] = some (.bool true) := all_map (fun _ : Nat => true) [0, 0]
      rw [show (List.replicate ((upto 2).map PyData.int).length (PyData.bool true)) = List.replicate 2 (.bool true) from rfl]
      simp [-List.reduceReplicate, al]
      exact ⟨_, _, _, rfl⟩
  · rintro S ⟨t1, t2, t3, rfl⟩
    simp
end PK92

open PySem PySem.W PyProof.Rows
set_option maxHeartbeats 0 in
theorem PySem.Challenge.cw_onecloth_k92_whole_repeats_and_floats_wi_holds : PySem.Challenge.rw_onecloth_k92_whole_repeats_and_floats_wi.Holds := by
  w_on; o_law; k_head; (case hw => w_witness2)
  k_fill
  refine DL.walkG (l := PySem.Challenge.rw_onecloth_k92_whole_repeats_and_floats_wi) (n := 63) (k := 8) (x := "script") (m := PK92.m_law) rfl (by decide) rfl ⟨rfl, by decide, by decide⟩ (fun w h Y => PySem.W.kIn_of Y) ?F PK92.lawM
  case F =>
    intro w mg fa h KX G hmg
    refine' PK92.all_mk KX G hmg ?a__law_pot ?l__law_pot ?d__law_pot ?k__law_pot ?a__law_draw ?l__law_draw ?d__law_draw ?k__law_draw ?a__law_draft ?l__law_draft ?d__law_draft ?k__law_draft ?a__law_times ?l__law_times ?d__law_times ?k__law_times ?a__law_least ?l__law_least ?d__law_least ?k__law_least ?a__law_strands ?l__law_strands ?d__law_strands ?k__law_strands ?a__law_over ?l__law_over ?d__law_over ?k__law_over ?a__law_is_one ?l__law_is_one ?d__law_is_one ?k__law_is_one ?a__law_round ?l__law_round ?d__law_round ?k__law_round ?a_is_tuple ?l_is_tuple ?d_is_tuple ?k_is_tuple ?a_is_headed ?l_is_headed ?d_is_headed ?k_is_headed ?a_is_integer ?l_is_integer ?d_is_integer ?k_is_integer ?a_is_within ?l_is_within ?d_is_within ?k_is_within ?a_are_rows_of ?l_are_rows_of ?d_are_rows_of ?k_are_rows_of ?a_is_draft_value ?l_is_draft_value ?d_is_draft_value ?k_is_draft_value ?a_want_draft ?l_want_draft ?d_want_draft ?k_want_draft ?a_many_warps ?l_many_warps ?d_many_warps ?k_many_warps ?a_many_wefts ?l_many_wefts ?d_many_wefts ?k_many_wefts ?a_is_strand_of ?l_is_strand_of ?d_is_strand_of ?k_is_strand_of ?a_want_strand ?l_want_strand ?d_want_strand ?k_want_strand ?a_round_runs ?l_round_runs ?d_round_runs ?k_round_runs ?a_signs_along ?l_signs_along ?d_signs_along ?k_signs_along ?a_endless_floats ?l_endless_floats ?d_endless_floats ?k_endless_floats ?a__law_signs ?l__law_signs ?d__law_signs ?k__law_signs ?a_want_number ?l_want_number ?d_want_number ?k_want_number ?a_with_rows ?l_with_rows ?d_with_rows ?k_with_rows ?a_times_over ?l_times_over ?d_times_over ?k_times_over ?a_repeated ?l_repeated ?d_repeated ?k_repeated ?a_divisors ?l_divisors ?d_divisors ?k_divisors ?a_corner ?l_corner ?d_corner ?k_corner ?a_least_repeat ?l_least_repeat ?d_least_repeat ?k_least_repeat ?a_strands_of ?l_strands_of ?d_strands_of ?k_strands_of ?a_cell_between ?l_cell_between ?d_cell_between ?k_cell_between ?a_lies_over ?l_lies_over ?d_lies_over ?k_lies_over ?a_below ?l_below ?d_below ?k_below ?a_ways_from ?l_ways_from ?d_ways_from ?k_ways_from ?a_above ?l_above ?d_above ?k_above ?a_ways_back ?l_ways_back ?d_ways_back ?k_ways_back ?a_are_held ?l_are_held ?d_are_held ?k_are_held ?a_is_endless_one ?l_is_endless_one ?d_is_endless_one ?k_is_endless_one ?a_longest_round ?l_longest_round ?d_longest_round ?k_longest_round ?a_endless_longest ?l_endless_longest ?d_endless_longest ?k_endless_longest ?a__law_right ?l__law_right ?d__law_right ?k__law_right ?a_law ?l_law ?d_law ?k_law ?z_abs ?z_all ?z_any ?z_bool ?z_divmod ?z_int ?z_isinstance ?z_len ?z_max ?z_min ?z_range ?z_repr ?z_set ?z_sorted ?z_str ?z_tuple ?q_FOUR ?u_FOUR_0 ?u_FOUR_10 ?u_FOUR_7 ?u_FOUR_4 ?u_FOUR_1 ?q_MOST ?q_WARP ?q_WEFT
    (case a__law_pot => k_is); (case l__law_pot => k_is); (case d__law_pot => k_is); (case k__law_pot => k_is); (case a__law_draw => k_is); (case l__law_draw => k_is); (case d__law_draw => k_is); (case k__law_draw => k_is)
    (case a__law_draft => k_is); (case l__law_draft => k_is); (case d__law_draft => k_is); (case k__law_draft => k_is); (case a__law_times => k_is); (case l__law_times => k_is); (case d__law_times => k_is); (case k__law_times => k_is)
    (case a__law_least => k_is); (case l__law_least => k_is); (case d__law_least => k_is); (case k__law_least => k_is); (case a__law_strands => k_is); (case l__law_strands => k_is); (case d__law_strands => k_is); (case k__law_strands => k_is)
    (case a__law_over => k_is); (case l__law_over => k_is); (case d__law_over => k_is); (case k__law_over => k_is); (case a__law_is_one => k_is); (case l__law_is_one => k_is); (case d__law_is_one => k_is); (case k__law_is_one => k_is)
    (case a__law_round => k_is); (case l__law_round => k_is); (case d__law_round => k_is); (case k__law_round => k_is); (case a_is_tuple => k_is); (case l_is_tuple => k_is); (case d_is_tuple => k_is); (case k_is_tuple => k_is)
    (case a_is_headed => k_is); (case l_is_headed => k_is); (case d_is_headed => k_is); (case k_is_headed => k_is); (case a_is_integer => k_is); (case l_is_integer => k_is); (case d_is_integer => k_is); (case k_is_integer => k_is)
    (case a_is_within => k_is); (case l_is_within => k_is); (case d_is_within => k_is); (case k_is_within => k_is); (case a_are_rows_of => k_is); (case l_are_rows_of => k_is); (case d_are_rows_of => k_is); (case k_are_rows_of => k_is)
    (case a_is_draft_value => k_is); (case l_is_draft_value => k_is); (case d_is_draft_value => k_is); (case k_is_draft_value => k_is); (case a_want_draft => k_is); (case l_want_draft => k_is); (case d_want_draft => k_is); (case k_want_draft => k_is)
    (case a_many_warps => k_is); (case l_many_warps => k_is); (case d_many_warps => k_is); (case k_many_warps => k_is); (case a_many_wefts => k_is); (case l_many_wefts => k_is); (case d_many_wefts => k_is); (case k_many_wefts => k_is)
    (case a_is_strand_of => k_is); (case l_is_strand_of => k_is); (case d_is_strand_of => k_is); (case k_is_strand_of => k_is); (case a_want_strand => k_is); (case l_want_strand => k_is); (case d_want_strand => k_is); (case k_want_strand => k_is)
    (case a_round_runs => k_is); (case l_round_runs => k_is); (case d_round_runs => k_is); (case k_round_runs => k_is); (case a_signs_along => k_is); (case l_signs_along => k_is); (case d_signs_along => k_is); (case k_signs_along => k_is)
    (case a_endless_floats => k_is); (case l_endless_floats => k_is); (case d_endless_floats => k_is); (case k_endless_floats => k_is); (case a__law_signs => k_is); (case l__law_signs => k_is); (case d__law_signs => k_is); (case k__law_signs => k_is)
    (case a_want_number => k_is); (case l_want_number => k_is); (case d_want_number => k_is); (case k_want_number => k_is); (case a_with_rows => k_is); (case l_with_rows => k_is); (case d_with_rows => k_is); (case k_with_rows => k_is)
    (case a_times_over => k_is); (case l_times_over => k_is); (case d_times_over => k_is); (case k_times_over => k_is); (case a_repeated => k_is); (case l_repeated => k_is); (case d_repeated => k_is); (case k_repeated => k_is)
    (case a_divisors => k_is); (case l_divisors => k_is); (case d_divisors => k_is); (case k_divisors => k_is); (case a_corner => k_is); (case l_corner => k_is); (case d_corner => k_is); (case k_corner => k_is)
    (case a_least_repeat => k_is); (case l_least_repeat => k_is); (case d_least_repeat => k_is); (case k_least_repeat => k_is); (case a_strands_of => k_is); (case l_strands_of => k_is); (case d_strands_of => k_is); (case k_strands_of => k_is)
    (case a_cell_between => k_is); (case l_cell_between => k_is); (case d_cell_between => k_is); (case k_cell_between => k_is); (case a_lies_over => k_is); (case l_lies_over => k_is); (case d_lies_over => k_is); (case k_lies_over => k_is)
    (case a_below => k_is); (case l_below => k_is); (case d_below => k_is); (case k_below => k_is); (case a_ways_from => k_is); (case l_ways_from => k_is); (case d_ways_from => k_is); (case k_ways_from => k_is)
    (case a_above => k_is); (case l_above => k_is); (case d_above => k_is); (case k_above => k_is); (case a_ways_back => k_is); (case l_ways_back => k_is); (case d_ways_back => k_is); (case k_ways_back => k_is)
    (case a_are_held => k_is); (case l_are_held => k_is); (case d_are_held => k_is); (case k_are_held => k_is); (case a_is_endless_one => k_is); (case l_is_endless_one => k_is); (case d_is_endless_one => k_is); (case k_is_endless_one => k_is)
    (case a_longest_round => k_is); (case l_longest_round => k_is); (case d_longest_round => k_is); (case k_longest_round => k_is); (case a_endless_longest => k_is); (case l_endless_longest => k_is); (case d_endless_longest => k_is); (case k_endless_longest => k_is)
    (case a__law_right => k_is); (case l__law_right => k_is); (case d__law_right => k_is); (case k__law_right => k_is); (case a_law => k_is); (case l_law => k_is); (case d_law => k_is); (case k_law => k_is)
    (case z_abs => k_is); (case z_all => k_is); (case z_any => k_is); (case z_bool => k_is); (case z_divmod => k_is); (case z_int => k_is); (case z_isinstance => k_is); (case z_len => k_is)
    (case z_max => k_is); (case z_min => k_is); (case z_range => k_is); (case z_repr => k_is); (case z_set => k_is); (case z_sorted => k_is); (case z_str => k_is); (case z_tuple => k_is)
    (case q_FOUR => k_is); (case u_FOUR_0 => k_is); (case u_FOUR_10 => k_is); (case u_FOUR_7 => k_is); (case u_FOUR_4 => k_is); (case u_FOUR_1 => k_is); (case q_MOST => k_is); (case q_WARP => k_is)
    (case q_WEFT => k_is)

