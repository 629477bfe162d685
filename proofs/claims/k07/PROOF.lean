import PyProof.Rows.All
import Wide.All
import OpenK.AllK
import Wide.FinOn
import HandS.ForMost
import HandS.Exc
import HandS.TryOnly
import HandS.ExcOwn
import HandS.WordsExc
import HandS.Wide
import HandS.WideBits
import HandS.Star
import HandS.SortInts
import HandS.TupAny
import HandS.Ends
import HandS.EndBits
import HandS.Words
import PyProof.ReprRoads
import PyProof.CallFns
import HandS.Text
import HandS.List
import HandS.ExcInit
import HandS.ExcField
import KE.KExcTry
import KE.KExcSuper
import HandS.Dict
import HandS.Style
import HandS.WordsDict
import HandS.Lambda
import HandS.EndTab
import HandS.HeadWalk
import PySem.Challenge.RW_lotsofn_k07_rests_of_numbers_over_far
set_option Elab.async false
set_option linter.all false
set_option maxRecDepth 100000
set_option maxHeartbeats 2000000
/-! # A layer of plain data over the hand layer: values as trees of data, heaps out of sight -/
namespace DL
open PySem L2

abbrev D := PyData
def Ext (F H : Hp) : Prop := ∀ a o, F a = some o → H a = some o
theorem Ext.refl (H : Hp) : Ext H H := fun _ _ h => h
theorem Ext.trans {A B C : Hp} (x : Ext A B) (y : Ext B C) : Ext A C := fun a o h => y a o (x a o h)
theorem Ext.upd {F : Hp} {p : Addr} {o : HO} (h : F p = none) : Ext F (upd F p o) := fun a u e => by
  rw [upd_ne (ne_of_none e h)]
  exact e
theorem Ext.rd {F H : Hp} {a : Addr} {u : HO} (e : Ext F H) (h : Rd F a u) : Rd H a u := by
  rcases h with h | ⟨o, h⟩
  · exact .inl (e _ _ h)
  · exact .inr ⟨o, e _ _ h⟩
section
variable {K : PySem.W.Frag} {F H : Hp}
theorem Ext.sql {a : Addr} {xs : List V} (e : Ext F H) (h : SqL K F a xs) : SqL K H a xs := by
  rcases h with h | h
  · exact .inl (e.rd h)
  · exact .inr h
theorem Ext.sqt {a : Addr} {xs : List V} (e : Ext F H) (h : SqT K F a xs) : SqT K H a xs := by
  rcases h with h | h
  · exact .inl (e.rd h)
  · exact .inr h
mutual
theorem dp_ext (e : Ext F H) : ∀ (d : D) (v : V), Dp K F v d → Dp K H v d
  | .none, _, h => by cases h; exact .non
  | .bool b, _, h => by cases h; exact .bl b
  | .int i, _, h => by cases h; exact .int i
  | .str x, _, h => by cases h; exact .str x
  | .list ds, _, h => by
    cases h with
    | lst hs ha => exact .lst (e.sql hs) (dpAll_ext e ds _ ha)
  | .tuple ds, _, h => by
    cases h with
    | tup hs ha => exact .tup (e.sqt hs) (dpAll_ext e ds _ ha)
  | .dict _, _, h => by cases h
theorem dpAll_ext (e : Ext F H) : ∀ (ds : List D) (vs : List V), DpAll K F vs ds → DpAll K H vs ds
  | [], _, h => by cases h; exact .nil
  | d :: ds, _, h => by
    cases h with
    | cons h1 h2 => exact .cons (dp_ext e d _ h1) (dpAll_ext e ds _ h2)
end
theorem Ext.dp {v : V} {d : D} (e : Ext F H) (h : Dp K F v d) : Dp K H v d := dp_ext e d v h
theorem Ext.all {vs : List V} {ds : List D} (e : Ext F H) (h : DpAll K F vs ds) : DpAll K H vs ds := dpAll_ext e ds vs h
end
end DL
namespace L2
open PySem
section
variable {K : PySem.W.Frag} {F H : Hp}
theorem DpAll.len : ∀ {vs : List V} {ds : List PyData}, DpAll K F vs ds → vs.length = ds.length
  | _, _, .nil => rfl
  | _, _, .cons _ t => congrArg (· + 1) (DpAll.len t)
theorem DpAll.get : ∀ {vs : List V} {ds : List PyData} {i : Nat} {d : PyData}, DpAll K F vs ds → ds[i]? = some d → ∃ v, vs[i]? = some v ∧ Dp K F v d
  | _, _, i, d, .nil, e => by simp at e
  | _, _, 0, d, .cons r _, e => by simp at e; subst e; exact ⟨_, rfl, r⟩
  | _, _, i + 1, d, .cons _ t, e => by
    obtain ⟨v, h1, h2⟩ := DpAll.get (i := i) (d := d) t (by simpa using e)
    exact ⟨v, by simpa using h1, h2⟩
theorem DpAll.app : ∀ {vs ws : List V} {ds es : List PyData}, DpAll K F vs ds → DpAll K F ws es → DpAll K F (vs ++ ws) (ds ++ es)
  | _, _, _, _, .nil, h => h
  | _, _, _, _, .cons a b, h => .cons a (DpAll.app b h)
theorem DpAll.take : ∀ {vs : List V} {ds : List PyData} (n : Nat), DpAll K F vs ds → DpAll K F (vs.take n) (ds.take n)
  | _, _, 0, _ => .nil
  | _, _, _ + 1, .nil => .nil
  | _, _, n + 1, .cons a b => .cons a (DpAll.take n b)
theorem DpAll.drop : ∀ {vs : List V} {ds : List PyData} (n : Nat), DpAll K F vs ds → DpAll K F (vs.drop n) (ds.drop n)
  | _, _, 0, h => h
  | _, _, _ + 1, .nil => .nil
  | _, _, n + 1, .cons a b => DpAll.drop n b
theorem DpAll.set {v : V} {d : PyData} (r : Dp K F v d) : ∀ {vs : List V} {ds : List PyData} (n : Nat), DpAll K F vs ds → DpAll K F (vs.set n v) (ds.set n d)
  | _, _, _, .nil => .nil
  | _, _, 0, .cons _ t => .cons r t
  | _, _, n + 1, .cons q t => .cons q (DpAll.set r n t)
theorem DpAll.eraseIdx : ∀ {vs : List V} {ds : List PyData} (n : Nat), DpAll K F vs ds → DpAll K F (vs.eraseIdx n) (ds.eraseIdx n)
  | _, _, _, .nil => by simp; exact .nil
  | _, _, 0, .cons _ t => by simpa using t
  | _, _, n + 1, .cons q t => by simpa using DpAll.cons q (DpAll.eraseIdx n t)
theorem DpAll.dropLast {vs : List V} {ds : List PyData} (h : DpAll K F vs ds) : DpAll K F vs.dropLast ds.dropLast := by
  rw [List.dropLast_eq_take, List.dropLast_eq_take, h.len]
  exact h.take _
theorem DpAll.ints : ∀ (ns : List Int), DpAll K F (ns.map V.int) (ns.map PyData.int)
  | [] => .nil
  | n :: ns => .cons (.int n) (DpAll.ints ns)
theorem DpAll.ints_inv : ∀ {vs : List V} {ns : List Int}, DpAll K F vs (ns.map PyData.int) → vs = ns.map V.int
  | _, [], h => by cases h; rfl
  | _, n :: ns, h => by
    cases h with
    | cons h1 h2 =>
      cases h1
      exact congrArg (V.int n :: ·) (DpAll.ints_inv h2)
theorem DpAll.bools_inv : ∀ {vs : List V} {ns : List Bool}, DpAll K F vs (ns.map PyData.bool) → vs = ns.map V.bl
  | _, [], h => by cases h; rfl
  | _, n :: ns, h => by
    cases h with
    | cons h1 h2 =>
      cases h1
      exact congrArg (V.bl n :: ·) (DpAll.bools_inv h2)
theorem DpAll.strs_inv : ∀ {vs : List V} {ns : List Str}, DpAll K F vs (ns.map PyData.str) → vs = ns.map V.str
  | _, [], h => by cases h; rfl
  | _, n :: ns, h => by
    cases h with
    | cons h1 h2 =>
      cases h1
      exact congrArg (V.str n :: ·) (DpAll.strs_inv h2)
end
end L2
namespace DL
open PySem L2

/-- what is one's own to change -/
inductive OC where
  | lst (ds : List D)
  | dk (kvs : List (Key × D))
  | dt (kvs : List (List Key × D))
/-- a slot: frozen data, one's own, a value as it is, nothing known -/
inductive SV where
  | dat (d : D)
  | own (c : OC)
  | raw (v : V)
  | emp
/-- a part of the heap that others may change, under an invariant -/
structure Wd where
  inv : Hp → Prop
  fp : Addr → Prop
  trk : ∀ H a, inv H → fp a → H a ≠ none
  stay : ∀ H H', inv H → (∀ a, fp a → H' a = H a) → inv H'
def Wd.nil : Wd := ⟨fun _ => True, fun _ => False, fun _ _ _ h => h.elim, fun _ _ _ _ => trivial⟩
structure Ctx where
  B : Hp
  F0 : Hp
  W : Wd
def CellOk (K : PySem.W.Frag) (F : Hp) : OC → HO → Prop
  | .lst ds, .lst vs => DpAll K F vs ds
  | .dk kvs, .dK ws => Paired (fun (p : Key × D) (q : Key × V) => p.1 = q.1 ∧ Dp K F q.2 p.2) kvs ws
  | .dt kvs, .dT ws => Paired (fun (p : List Key × D) (q : List Key × V) => p.1 = q.1 ∧ Dp K F q.2 p.2) kvs ws
  | _, _ => False
def SlotOk (K : PySem.W.Frag) (F : Hp) (O : Addr → Option OC) : SV → Option V → Prop
  | .dat d, o => ∃ v, o = some v ∧ Dp K F v d
  | .own c, o => ∃ a, o = some (.ref a) ∧ O a = some c
  | .raw v, o => o = some v
  | .emp, _ => True
theorem Paired.imp2 {α β : Type} {P Q : α → β → Prop} (h : ∀ a b, P a b → Q a b) : ∀ {xs : List α} {ys : List β}, Paired P xs ys → Paired Q xs ys
  | _, _, .nil => .nil
  | _, _, .cons a b => .cons (h _ _ a) (Paired.imp2 h b)
theorem CellOk.ext {K : PySem.W.Frag} {F F' : Hp} {c : OC} {o : HO} (e : Ext F F') (h : CellOk K F c o) : CellOk K F' c o := by
  cases c <;> cases o <;> first
    | exact h.elim
    | exact Ext.all e h
    | exact Paired.imp2 (fun _ _ q => ⟨q.1, e.dp q.2⟩) h
theorem SlotOk.ext {K : PySem.W.Frag} {F F' : Hp} {O : Addr → Option OC} {s : SV} {o : Option V} (e : Ext F F') (h : SlotOk K F O s o) : SlotOk K F' O s o := by
  cases s with
  | dat d => obtain ⟨v, h1, h2⟩ := h; exact ⟨v, h1, e.dp h2⟩
  | own c => exact h
  | raw v => exact h
  | emp => trivial
def updO (O : Addr → Option OC) (a : Addr) (c : OC) : Addr → Option OC := fun b => if b = a then some c else O b
def delO (O : Addr → Option OC) (a : Addr) : Addr → Option OC := fun b => if b = a then none else O b
theorem updO_same {O : Addr → Option OC} {a : Addr} {c : OC} : updO O a c a = some c := if_pos rfl
theorem updO_ne {O : Addr → Option OC} {a b : Addr} {c : OC} (h : b ≠ a) : updO O a c b = O b := if_neg h
theorem delO_same {O : Addr → Option OC} {a : Addr} : delO O a a = none := if_pos rfl
theorem delO_ne {O : Addr → Option OC} {a b : Addr} (h : b ≠ a) : delO O a b = O b := if_neg h
theorem del_updO {O : Addr → Option OC} {a : Addr} {c : OC} (h : O a = none) : delO (updO O a c) a = O := by
  funext b
  by_cases e : b = a
  · subst e; rw [delO_same, h]
  · rw [delO_ne e, updO_ne e]
theorem upd_updO {O : Addr → Option OC} {a : Addr} {c c' : OC} : updO (updO O a c) a c' = updO O a c' := by
  funext b
  by_cases e : b = a
  · subst e; rw [updO_same, updO_same]
  · rw [updO_ne e, updO_ne e, updO_ne e]
def isOwnAt (δ : List SV) (σ : St) (i : Nat) (a : Addr) : Prop := (∃ c, δ[i]? = some (.own c)) ∧ σ[i]? = some (some (.ref a))

/-- the state of a body: F frozen, O one's own, by slots -/
structure R (K : PySem.W.Frag) (G : Ctx) (F : Hp) (O : Addr → Option OC) (σ : St) (H : Hp) (δ : List SV) : Prop where
  len : δ.length = σ.length
  ext : Ext F H
  ext0 : Ext G.F0 F
  new : ∀ a o, F a = some o → G.F0 a = some o ∨ G.B a = none
  bas : ∀ a o, G.B a = some o → ¬ G.W.fp a → H a = some o
  inv : G.W.inv H
  fpF : ∀ a, G.W.fp a → F a = none
  own : ∀ a c, O a = some c → F a = none ∧ G.B a = none ∧ ¬ G.W.fp a ∧ ∃ ho, H a = some ho ∧ CellOk K F c ho
  slot : ∀ (i : Nat) (s : SV) (o : Option V), δ[i]? = some s → σ[i]? = some o → SlotOk K F O s o
  sep : ∀ (i j : Nat) (a : Addr), isOwnAt δ σ i a → isOwnAt δ σ j a → i = j
/-- an object that nobody bears -/
structure Loose (G : Ctx) (F : Hp) (O : Addr → Option OC) (H : Hp) (p : Addr) (ho : HO) : Prop where
  f : F p = none
  o : O p = none
  b : G.B p = none
  w : ¬ G.W.fp p
  h : H p = some ho
section
variable {K : PySem.W.Frag} {G : Ctx} {F F' : Hp} {O : Addr → Option OC} {σ : St} {H H' : Hp} {δ : List SV} {p : Addr} {ho : HO}
theorem R.notFp (r : R K G F O σ H δ) (h : H p = none) : ¬ G.W.fp p := fun z => G.W.trk H p r.inv z h
theorem R.notB (r : R K G F O σ H δ) (h : H p = none) : G.B p = none := by
  cases e : G.B p with
  | none => rfl
  | some o =>
    have := r.bas p o e (r.notFp h)
    rw [h] at this
    cases this
theorem R.notF (r : R K G F O σ H δ) (h : H p = none) : F p = none := by
  cases e : F p with
  | none => rfl
  | some o =>
    have := r.ext p o e
    rw [h] at this
    cases this
theorem R.notO (r : R K G F O σ H δ) (h : H p = none) : O p = none := by
  cases e : O p with
  | none => rfl
  | some c =>
    obtain ⟨_, _, _, u, q, _⟩ := r.own p c e
    rw [h] at q
    cases q
/-- a new object, of nobody -/
theorem R.alloc (r : R K G F O σ H δ) (h : H p = none) (ho : HO) : R K G F O σ (upd H p ho) δ where
  len := r.len
  ext := r.ext.trans (Ext.upd h)
  ext0 := r.ext0
  new := r.new
  bas := fun a o e n => (Ext.upd h) a o (r.bas a o e n)
  inv := G.W.stay H _ r.inv fun a fa => upd_ne fun z => r.notFp h (z ▸ fa)
  fpF := r.fpF
  own := fun a c e => by
    obtain ⟨h1, h2, h3, u, q, z⟩ := r.own a c e
    exact ⟨h1, h2, h3, u, (Ext.upd h) a u q, z⟩
  slot := r.slot
  sep := r.sep
theorem R.loose (r : R K G F O σ H δ) (h : H p = none) (ho : HO) : Loose G F O (upd H p ho) p ho := ⟨r.notF h, r.notO h, r.notB h, r.notFp h, upd_same⟩
/-- it is frozen -/
theorem R.freeze (r : R K G F O σ H δ) (l : Loose G F O H p ho) : R K G (upd F p ho) O σ H δ where
  len := r.len
  ext := fun a o e => by
    by_cases z : a = p
    · subst z
      rw [upd_same] at e
      cases e
      exact l.h
    · rw [upd_ne z] at e
      exact r.ext a o e
  ext0 := r.ext0.trans (Ext.upd l.f)
  new := fun a o e => by
    by_cases z : a = p
    · subst z
      exact .inr l.b
    · rw [upd_ne z] at e
      exact r.new a o e
  bas := r.bas
  inv := r.inv
  fpF := fun a fa => by
    have z : a ≠ p := fun z => l.w (by rw [← z]; exact fa)
    rw [upd_ne z]
    exact r.fpF a fa
  own := fun a c e => by
    obtain ⟨h1, h2, h3, u, q, z⟩ := r.own a c e
    refine ⟨?_, h2, h3, u, q, z.ext (Ext.upd l.f)⟩
    rw [upd_ne fun z => by rw [z, l.o] at e; cases e]
    exact h1
  slot := fun i s o h1 h2 => (r.slot i s o h1 h2).ext (Ext.upd l.f)
  sep := r.sep
/-- it is taken as one's own -/
theorem R.take (r : R K G F O σ H δ) (l : Loose G F O H p ho) {c : OC} (hc : CellOk K F c ho) : R K G F (updO O p c) σ H δ where
  len := r.len
  ext := r.ext
  ext0 := r.ext0
  new := r.new
  bas := r.bas
  inv := r.inv
  fpF := r.fpF
  own := fun a c' e => by
    by_cases z : a = p
    · subst z
      rw [updO_same] at e
      cases e
      exact ⟨l.f, l.b, l.w, ho, l.h, hc⟩
    · rw [updO_ne z] at e
      exact r.own a c' e
  slot := fun i s o h1 h2 => by
    have q := r.slot i s o h1 h2
    cases s with
    | own c' =>
      obtain ⟨a, e1, e2⟩ := q
      refine ⟨a, e1, ?_⟩
      rw [updO_ne fun z => by rw [z, l.o] at e2; cases e2]
      exact e2
    | dat d => exact q
    | raw v => exact q
    | emp => trivial
  sep := r.sep
/-- one's own is changed; who bears it is told -/
theorem R.write (r : R K G F O σ H δ) {c c' : OC} {ho' : HO} (e : O p = some c) (hc : CellOk K F c' ho') {δ' : List SV} (hl : δ'.length = δ.length)
    (hs : ∀ (i : Nat) (s : SV), δ'[i]? = some s → (σ[i]? = some (some (.ref p)) ∧ s = .own c' ∧ ∃ c2, δ[i]? = some (.own c2)) ∨ (δ[i]? = some s ∧ (∀ c2, s = .own c2 → σ[i]? ≠ some (some (.ref p))))) : R K G F (updO O p c') σ (upd H p ho') δ' := by
  obtain ⟨o1, o2, o3, u, o4, o5⟩ := r.own p c e
  refine ⟨hl.trans r.len, fun a o ea => ?_, r.ext0, r.new, fun a o ea n => ?_, ?_, r.fpF, fun a c2 ea => ?_, fun i s o h1 h2 => ?_, fun i j a hi hj => ?_⟩
  · rw [upd_ne fun z => by rw [z, o1] at ea; cases ea]
    exact r.ext a o ea
  · rw [upd_ne fun z => by rw [z, o2] at ea; cases ea]
    exact r.bas a o ea n
  · exact G.W.stay H _ r.inv fun a fa => upd_ne fun z => o3 (z ▸ fa)
  · by_cases z : a = p
    · subst z
      rw [updO_same] at ea
      cases ea
      exact ⟨o1, o2, o3, ho', upd_same, hc⟩
    · rw [updO_ne z] at ea
      obtain ⟨h1, h2, h3, w, q, y⟩ := r.own a c2 ea
      exact ⟨h1, h2, h3, w, by rw [upd_ne z]; exact q, y⟩
  · rcases hs i s h1 with ⟨q1, q2, _⟩ | ⟨q1, q2⟩
    · rw [h2] at q1
      cases q1
      subst q2
      exact ⟨p, rfl, updO_same⟩
    · have q := r.slot i s o q1 h2
      cases s with
      | own c3 =>
        obtain ⟨a, e1, e2⟩ := q
        subst e1
        refine ⟨a, rfl, ?_⟩
        rw [updO_ne fun z => q2 c3 rfl (by rw [h2, z])]
        exact e2
      | dat d => exact q
      | raw v => exact q
      | emp => trivial
  · have back : ∀ i, isOwnAt δ' σ i a → isOwnAt δ σ i a := fun i ⟨⟨c3, h1⟩, h2⟩ => by
      rcases hs i _ h1 with ⟨_, _, q⟩ | ⟨q1, _⟩
      · exact ⟨q, h2⟩
      · exact ⟨⟨c3, q1⟩, h2⟩
    exact r.sep i j a (back i hi) (back j hj)
/-- nobody's slot bears p -/
def NoSlot (σ : St) (δ : List SV) (p : Addr) : Prop := ∀ i, ¬ isOwnAt δ σ i p
theorem R.noSlot (r : R K G F O σ H δ) (h : O p = none) : NoSlot σ δ p := fun i ⟨⟨c, h1⟩, h2⟩ => by
  obtain ⟨a, e1, e2⟩ := r.slot i _ _ h1 h2
  cases e1
  rw [h] at e2
  cases e2
theorem R.write0 (r : R K G F O σ H δ) {c c' : OC} {ho' : HO} (e : O p = some c) (hc : CellOk K F c' ho') (n : NoSlot σ δ p) : R K G F (updO O p c') σ (upd H p ho') δ :=
  r.write e hc rfl fun i s h => .inr ⟨h, fun c2 z q => n i ⟨⟨c2, by rw [h, z]⟩, q⟩⟩
theorem R.own_at (r : R K G F O σ H δ) {i : Nat} {c : OC} (h : δ[i]? = some (.own c)) : ∃ p, σ[i]? = some (some (.ref p)) ∧ O p = some c := by
  have hi : i < σ.length := by rw [← r.len]; exact (List.getElem?_eq_some_iff.mp h).1
  obtain ⟨a, e1, e2⟩ := r.slot i _ _ h (List.getElem?_eq_getElem hi)
  exact ⟨a, by rw [List.getElem?_eq_getElem hi, e1], e2⟩
theorem R.writeAt (r : R K G F O σ H δ) {i : Nat} {c c' : OC} {ho' : HO} (h : δ[i]? = some (.own c)) (hp : σ[i]? = some (some (.ref p))) (e : O p = some c) (hc : CellOk K F c' ho') :
    R K G F (updO O p c') σ (upd H p ho') (δ.set i (.own c')) := by
  refine r.write e hc (List.length_set ..) fun j s hj => ?_
  by_cases z : j = i
  · subst z
    have hi := (List.getElem?_eq_some_iff.mp h).1
    rw [List.getElem?_set_self hi] at hj
    cases hj
    exact .inl ⟨hp, rfl, c, h⟩
  · rw [List.getElem?_set_ne (Ne.symm z)] at hj
    exact .inr ⟨hj, fun c2 e2 q => z (r.sep j i p ⟨⟨c2, by rw [hj, e2]⟩, q⟩ ⟨⟨c, h⟩, hp⟩)⟩
/-- one's own is let go -/
theorem R.drop (r : R K G F O σ H δ) {c : OC} (e : O p = some c) (n : NoSlot σ δ p) : R K G F (delO O p) σ H δ where
  len := r.len
  ext := r.ext
  ext0 := r.ext0
  new := r.new
  bas := r.bas
  inv := r.inv
  fpF := r.fpF
  own := fun a c' ea => by
    by_cases z : a = p
    · subst z
      rw [delO_same] at ea
      cases ea
    · rw [delO_ne z] at ea
      exact r.own a c' ea
  slot := fun i s o h1 h2 => by
    have q := r.slot i s o h1 h2
    cases s with
    | own c' =>
      obtain ⟨a, e1, e2⟩ := q
      refine ⟨a, e1, ?_⟩
      rw [delO_ne fun z => n i ⟨⟨c', h1⟩, by rw [h2, e1, z]⟩]
      exact e2
    | dat d => exact q
    | raw v => exact q
    | emp => trivial
  sep := r.sep
theorem R.loose_of (r : R K G F O σ H δ) {c : OC} (e : O p = some c) : ∃ ho, Loose G F (delO O p) H p ho ∧ CellOk K F c ho := by
  obtain ⟨h1, h2, h3, ho, h4, h5⟩ := r.own p c e
  exact ⟨ho, ⟨h1, delO_same, h2, h3, h4⟩, h5⟩
/-- the slots are other ones -/
theorem R.slots (r : R K G F O σ H δ) {σ' : St} {δ' : List SV} (hl : δ'.length = σ'.length) (hs : ∀ (i : Nat) (s : SV) (o : Option V), δ'[i]? = some s → σ'[i]? = some o → SlotOk K F O s o)
    (hp : ∀ i j a, isOwnAt δ' σ' i a → isOwnAt δ' σ' j a → i = j) : R K G F O σ' H δ' :=
  ⟨hl, r.ext, r.ext0, r.new, r.bas, r.inv, r.fpF, r.own, hs, hp⟩
theorem R.setSlot (r : R K G F O σ H δ) {i : Nat} {s : SV} {o : Option V} (hs : SlotOk K F O s o) (hn : ∀ c a, s = .own c → o = some (.ref a) → ∀ j, j ≠ i → ¬ isOwnAt δ σ j a) : R K G F O (σ.set i o) H (δ.set i s) := by
  refine r.slots (by rw [List.length_set, List.length_set]; exact r.len) (fun j s' o' h1 h2 => ?_) fun j k a hj hk => ?_
  · by_cases z : i = j
    · subst z
      have b1 := (List.getElem?_eq_some_iff.mp h1).1
      have b2 := (List.getElem?_eq_some_iff.mp h2).1
      rw [List.length_set] at b1 b2
      rw [List.getElem?_set_self b1] at h1
      rw [List.getElem?_set_self b2] at h2
      cases h1
      cases h2
      exact hs
    · rw [List.getElem?_set_ne z] at h1 h2
      exact r.slot j s' o' h1 h2
  · have at_ : ∀ j, j ≠ i → isOwnAt (δ.set i s) (σ.set i o) j a → isOwnAt δ σ j a := fun j z ⟨⟨c, h1⟩, h2⟩ => by
      rw [List.getElem?_set_ne (Ne.symm z)] at h1 h2
      exact ⟨⟨c, h1⟩, h2⟩
    have here : ∀ j, j = i → isOwnAt (δ.set i s) (σ.set i o) j a → ∃ c, s = .own c ∧ o = some (.ref a) := fun j z ⟨⟨c, h1⟩, h2⟩ => by
      subst z
      have b1 := (List.getElem?_eq_some_iff.mp h1).1
      have b2 := (List.getElem?_eq_some_iff.mp h2).1
      rw [List.length_set] at b1 b2
      rw [List.getElem?_set_self b1] at h1
      rw [List.getElem?_set_self b2] at h2
      exact ⟨c, Option.some.inj h1, Option.some.inj h2⟩
    by_cases zj : j = i
    · by_cases zk : k = i
      · rw [zj, zk]
      · obtain ⟨c, e1, e2⟩ := here j zj hj
        exact absurd (at_ k zk hk) (hn c a e1 e2 k zk)
    · by_cases zk : k = i
      · obtain ⟨c, e1, e2⟩ := here k zk hk
        exact absurd (at_ j zj hj) (hn c a e1 e2 j zj)
      · exact r.sep j k a (at_ j zj hj) (at_ k zk hk)
theorem R.setDat (r : R K G F O σ H δ) {i : Nat} {v : V} {d : D} (h : Dp K F v d) : R K G F O (σ.set i (some v)) H (δ.set i (.dat d)) :=
  r.setSlot ⟨v, rfl, h⟩ fun _ _ z => by cases z
theorem R.setRaw (r : R K G F O σ H δ) {i : Nat} {v : V} : R K G F O (σ.set i (some v)) H (δ.set i (.raw v)) :=
  r.setSlot rfl fun _ _ z => by cases z
theorem R.setEmp (r : R K G F O σ H δ) {i : Nat} {o : Option V} : R K G F O (σ.set i o) H (δ.set i .emp) :=
  r.setSlot trivial fun _ _ z => by cases z
theorem R.setOwn (r : R K G F O σ H δ) {i : Nat} {c : OC} (l : Loose G F O H p ho) (hc : CellOk K F c ho) : R K G F (updO O p c) (σ.set i (some (.ref p))) H (δ.set i (.own c)) :=
  (r.take l hc).setSlot ⟨p, rfl, updO_same⟩ fun c2 a _ e j _ h => by
    cases e
    exact r.noSlot l.o j h
theorem set_same {α : Type} {l : List α} {i : Nat} {a : α} (h : l[i]? = some a) : l.set i a = l := by
  apply List.ext_getElem?
  intro j
  by_cases z : i = j
  · subst z
    rw [List.getElem?_set_self (List.getElem?_eq_some_iff.mp h).1, h]
  · rw [List.getElem?_set_ne z]
theorem R.slot_at (r : R K G F O σ H δ) {i : Nat} {s : SV} (h : δ[i]? = some s) : ∃ o, σ[i]? = some o ∧ SlotOk K F O s o := by
  have hi : i < σ.length := by rw [← r.len]; exact (List.getElem?_eq_some_iff.mp h).1
  exact ⟨_, List.getElem?_eq_getElem hi, r.slot i _ _ h (List.getElem?_eq_getElem hi)⟩
/-- a slot's own list is frozen -/
theorem R.freezeAt (r : R K G F O σ H δ) {i : Nat} {ds : List D} (h : δ[i]? = some (.own (.lst ds))) : ∃ F' O', Ext F F' ∧ R K G F' O' σ H (δ.set i (.dat (.list ds))) := by
  obtain ⟨p, hp, hO⟩ := r.own_at h
  have r1 := r.setEmp (i := i) (o := some (.ref p))
  rw [set_same hp] at r1
  have n : NoSlot σ (δ.set i .emp) p := fun j ⟨⟨c, h1⟩, h2⟩ => by
    by_cases z : i = j
    · subst z
      rw [List.getElem?_set_self (List.getElem?_eq_some_iff.mp h).1] at h1
      cases h1
    · rw [List.getElem?_set_ne z] at h1
      exact z (r.sep i j p ⟨⟨_, h⟩, hp⟩ ⟨⟨c, h1⟩, h2⟩)
  obtain ⟨ho, l, hc⟩ := r1.loose_of hO
  have r2 := (r1.drop hO n).freeze l
  cases ho with
  | lst vs =>
    have hd : DpAll K F vs ds := hc
    have e := Ext.upd (o := HO.lst vs) l.f
    have r3 := r2.setDat (i := i) (v := .ref p) (d := .list ds) (.lst (SqL.of upd_same) (e.all hd))
    rw [set_same hp, List.set_set] at r3
    exact ⟨_, _, e, r3⟩
  | _ => exact hc.elim
/-- the world moves on -/
theorem R.world (r : R K G F O σ H δ) (hk : ∀ a o, H a = some o → ¬ G.W.fp a → H' a = some o) (hi : G.W.inv H') : R K G F O σ H' δ where
  len := r.len
  ext := fun a o e => hk a o (r.ext a o e) fun z => by rw [r.fpF a z] at e; cases e
  ext0 := r.ext0
  new := r.new
  bas := fun a o e n => hk a o (r.bas a o e n) n
  inv := hi
  fpF := r.fpF
  own := fun a c e => by
    obtain ⟨h1, h2, h3, u, q, z⟩ := r.own a c e
    exact ⟨h1, h2, h3, u, hk a u q h3, z⟩
  slot := r.slot
  sep := r.sep
/-- more is frozen: new things of a callee -/
theorem R.grow (r : R K G F O σ H δ) (e : Ext F F') (e2 : Ext F' H) (hn : ∀ a o, F' a = some o → F a = some o ∨ (G.B a = none ∧ ¬ G.W.fp a ∧ O a = none)) : R K G F' O σ H δ where
  len := r.len
  ext := e2
  ext0 := r.ext0.trans e
  new := fun a o q => (hn a o q).elim (fun z => r.new a o z) fun z => .inr z.1
  bas := r.bas
  inv := r.inv
  fpF := fun a fa => by
    cases q : F' a with
    | none => rfl
    | some o =>
      rcases hn a o q with z | z
      · rw [r.fpF a fa] at z; cases z
      · exact absurd fa z.2.1
  own := fun a c q => by
    obtain ⟨h1, h2, h3, u, w, z⟩ := r.own a c q
    refine ⟨?_, h2, h3, u, w, z.ext e⟩
    cases q2 : F' a with
    | none => rfl
    | some o =>
      rcases hn a o q2 with y | y
      · rw [h1] at y; cases y
      · rw [q] at y; cases y.2.2
  slot := fun i s o h1 h2 => (r.slot i s o h1 h2).ext e
  sep := r.sep
end
end DL
set_option Elab.async false
set_option linter.all false
set_option maxRecDepth 100000
set_option maxHeartbeats 2000000
/-! judgements over plain data: expressions, tests, arguments -/
namespace DL
open PySem L2

abbrev DSt := List SV
/-- a value: data, as it is, a slot's own -/
inductive AV where
  | dat (d : D)
  | raw (v : V)
  | bor (i : Nat)
abbrev DE := DSt → (AV → DSt → Prop) → Prop
abbrev DB := DSt → (Bool → DSt → Prop) → Prop
abbrev DAs := DSt → (List AV → DSt → Prop) → Prop
abbrev DNw := DSt → (OC → DSt → Prop) → Prop
def AVok (K : PySem.W.Frag) (F : Hp) (σ : L2.St) : AV → V → Prop
  | .dat d, v => Dp K F v d
  | .raw w, v => v = w
  | .bor i, v => σ[i]? = some (some v)
theorem AVok.ext {K : PySem.W.Frag} {F F' : Hp} {σ : L2.St} {a : AV} {v : V} (e : Ext F F') (h : AVok K F σ a v) : AVok K F' σ a v := by
  cases a with
  | dat d => exact e.dp h
  | raw w => exact h
  | bor i => exact h
abbrev AVs (K : PySem.W.Frag) (F : Hp) (σ : L2.St) : List AV → List V → Prop := Paired (AVok K F σ)
theorem AVs.ext {K : PySem.W.Frag} {F F' : Hp} {σ : L2.St} {as : List AV} {vs : List V} (e : Ext F F') (h : AVs K F σ as vs) : AVs K F' σ as vs := Paired.imp2 (fun _ _ q => AVok.ext e q) h
/-- what a step leaves as it was -/
structure Stp (σ : L2.St) (O : Addr → Option OC) (δ : DSt) (O' : Addr → Option OC) (δ' : DSt) : Prop where
  keep : ∀ a c, O a = some c → NoSlot σ δ a → O' a = some c
  slots : ∀ (i : Nat) (c' : OC), δ'[i]? = some (.own c') → ∃ c, δ[i]? = some (.own c)
theorem Stp.refl {σ : L2.St} {O : Addr → Option OC} {δ : DSt} : Stp σ O δ O δ := ⟨fun _ _ h _ => h, fun i c h => ⟨c, h⟩⟩
theorem Stp.noSlot {σ : L2.St} {O O' : Addr → Option OC} {δ δ' : DSt} (s : Stp σ O δ O' δ') {a : Addr} (n : NoSlot σ δ a) : NoSlot σ δ' a := fun i ⟨⟨c, h1⟩, h2⟩ => n i ⟨s.slots i c h1, h2⟩
theorem Stp.trans {σ : L2.St} {O O' O2 : Addr → Option OC} {δ δ' δ2 : DSt} (a : Stp σ O δ O' δ') (b : Stp σ O' δ' O2 δ2) : Stp σ O δ O2 δ2 :=
  ⟨fun x c h n => b.keep x c (a.keep x c h n) (a.noSlot n), fun i c h => let ⟨c', h'⟩ := b.slots i c h; a.slots i c' h'⟩

def Fin (K : PySem.W.Frag) (G : Ctx) (F : Hp) (σ : L2.St) (O : Addr → Option OC) (δ : DSt) (Q : AV → DSt → Prop) : VK := fun v H' =>
  ∃ F' O' δ' av, Ext F F' ∧ R K G F' O' σ H' δ' ∧ Stp σ O δ O' δ' ∧ AVok K F' σ av v ∧ Q av δ'
def FinB (K : PySem.W.Frag) (G : Ctx) (F : Hp) (σ : L2.St) (O : Addr → Option OC) (δ : DSt) (Q : Bool → DSt → Prop) : Bool → Hp → Prop := fun b H' =>
  ∃ F' O' δ', Ext F F' ∧ R K G F' O' σ H' δ' ∧ Stp σ O δ O' δ' ∧ Q b δ'
def FinA (K : PySem.W.Frag) (G : Ctx) (F : Hp) (σ : L2.St) (O : Addr → Option OC) (δ : DSt) (Q : List AV → DSt → Prop) : List V → Hp → Prop := fun vs H' =>
  ∃ F' O' δ' as, Ext F F' ∧ R K G F' O' σ H' δ' ∧ Stp σ O δ O' δ' ∧ AVs K F' σ as vs ∧ Q as δ'
def FinN (K : PySem.W.Frag) (G : Ctx) (F : Hp) (σ : L2.St) (O : Addr → Option OC) (δ : DSt) (Q : OC → DSt → Prop) : VK := fun v H' =>
  ∃ F' O' δ' p ho c, Ext F F' ∧ R K G F' O' σ H' δ' ∧ Stp σ O δ O' δ' ∧ v = .ref p ∧ Loose G F' O' H' p ho ∧ CellOk K F' c ho ∧ Q c δ'

def tSem (X : Cx) (e : Expr) : TE := fun σ H Q => ∀ (pins : List (Addr × Obj)) (s : Shared), Inv X pins σ H s → wpAny (model X.prog X.w) X.A (eval e X.env) (EP X pins σ Q) X.xe s
def tSemT (X : Cx) (e : Expr) : TT := fun σ H Q => ∀ (pins : List (Addr × Obj)) (s : Shared), Inv X pins σ H s → wpAny (model X.prog X.w) X.A (isTrue e X.env (eval e X.env)) (TP X pins σ Q) X.xe s
def tSemW (X : Cx) (e : Expr) : TT := fun σ H Q => ∀ (whole : Sem Value) (pins : List (Addr × Obj)) (s : Shared), Inv X pins σ H s → wpAny (model X.prog X.w) X.A (isTrue e X.env whole) (TP X pins σ Q) X.xe s
def tSemA (X : Cx) (es : List Expr) : TA := fun σ H Q => ∀ (pos : Pos) (pins : List (Addr × Obj)) (s : Shared), Inv X pins σ H s → wpAny (model X.prog X.w) X.A (spliced (backTo pos (starEach es X.env))) (AP X pins σ Q) X.xe s
section
variable {X : Cx} {G : Ctx} {e a b c : Expr} {es : List Expr} {t ta tb : DE} {tc tc' : DB} {σ : L2.St} {H : Hp} {pos : Pos}
theorem pe_sem : PE X e (tSem X e) := ⟨fun pins s σ H Q I h => h pins s I⟩
theorem pt_sem : PT X e (tSemT X e) := ⟨fun pins s σ H Q I h => h pins s I⟩
theorem pw_sem : PW X e (tSemW X e) := ⟨fun w pins s σ H Q I h => h w pins s I⟩
theorem pa_sem : PA X es (tSemA X es) := ⟨fun pos pins s σ H Q I h => h pos pins s I⟩
theorem sem_of {te : TE} {Q : VK} (h : PE X e te) (q : te σ H Q) : tSem X e σ H Q := fun pins s I => h.run pins s σ H Q I q
theorem semT_of {te : TT} {Q : Bool → Hp → Prop} (h : PT X e te) (q : te σ H Q) : tSemT X e σ H Q := fun pins s I => h.run pins s σ H Q I q
theorem semW_of {te : TT} {Q : Bool → Hp → Prop} (h : PW X e te) (q : te σ H Q) : tSemW X e σ H Q := fun w pins s I => h.run w pins s σ H Q I q
theorem semA_of {te : TA} {Q : List V → Hp → Prop} (h : PA X es te) (q : te σ H Q) : tSemA X es σ H Q := fun pos pins s I => h.run pos pins s σ H Q I q
theorem sem_mono {Q Q' : VK} (q : tSem X e σ H Q) (k : ∀ v H', Q v H' → Q' v H') : tSem X e σ H Q' := fun pins s I => thn (q pins s I) fun _ _ ⟨v, H', I', r, z⟩ => ⟨v, H', I', r, k v H' z⟩
theorem semT_mono {Q Q' : Bool → Hp → Prop} (q : tSemT X e σ H Q) (k : ∀ v H', Q v H' → Q' v H') : tSemT X e σ H Q' := fun pins s I => thn (q pins s I) fun b _ ⟨H', I', z⟩ => ⟨H', I', k b H' z⟩
theorem semW_mono {Q Q' : Bool → Hp → Prop} (q : tSemW X e σ H Q) (k : ∀ v H', Q v H' → Q' v H') : tSemW X e σ H Q' := fun w pins s I => thn (q w pins s I) fun b _ ⟨H', I', z⟩ => ⟨H', I', k b H' z⟩
theorem semA_mono {Q Q' : List V → Hp → Prop} (q : tSemA X es σ H Q) (k : ∀ v H', Q v H' → Q' v H') : tSemA X es σ H Q' := fun pos pins s I => thn (q pos pins s I) fun _ _ ⟨v, H', I', r, z⟩ => ⟨v, H', I', r, k v H' z⟩

def DX (X : Cx) (G : Ctx) (e : Expr) (t : DE) : Prop := ∀ (F : Hp) (O : Addr → Option OC) (σ : L2.St) (H : Hp) (δ : DSt) (Q : AV → DSt → Prop), R X.K G F O σ H δ → t δ Q → tSem X e σ H (Fin X.K G F σ O δ Q)
def DT (X : Cx) (G : Ctx) (e : Expr) (t : DB) : Prop := ∀ (F : Hp) (O : Addr → Option OC) (σ : L2.St) (H : Hp) (δ : DSt) (Q : Bool → DSt → Prop), R X.K G F O σ H δ → t δ Q → tSemT X e σ H (FinB X.K G F σ O δ Q)
def DW (X : Cx) (G : Ctx) (e : Expr) (t : DB) : Prop := ∀ (F : Hp) (O : Addr → Option OC) (σ : L2.St) (H : Hp) (δ : DSt) (Q : Bool → DSt → Prop), R X.K G F O σ H δ → t δ Q → tSemW X e σ H (FinB X.K G F σ O δ Q)
def DA (X : Cx) (G : Ctx) (es : List Expr) (t : DAs) : Prop := ∀ (F : Hp) (O : Addr → Option OC) (σ : L2.St) (H : Hp) (δ : DSt) (Q : List AV → DSt → Prop), R X.K G F O σ H δ → t δ Q → tSemA X es σ H (FinA X.K G F σ O δ Q)
def DN (X : Cx) (G : Ctx) (e : Expr) (t : DNw) : Prop := ∀ (F : Hp) (O : Addr → Option OC) (σ : L2.St) (H : Hp) (δ : DSt) (Q : OC → DSt → Prop), R X.K G F O σ H δ → t δ Q → tSem X e σ H (FinN X.K G F σ O δ Q)

section
variable {K : PySem.W.Frag} {F F' : Hp} {O O' : Addr → Option OC} {δ δ' : DSt} {Q : AV → DSt → Prop}
theorem Fin.here {v : V} {av : AV} (r : R K G F O σ H δ) (h : AVok K F σ av v) (q : Q av δ) : Fin K G F σ O δ Q v H := ⟨F, O, δ, av, Ext.refl F, r, Stp.refl, h, q⟩
theorem Fin.ok {v : V} {d : D} {H' : Hp} (e : Ext F F') (r : R K G F' O' σ H' δ') (s : Stp σ O δ O' δ') (h : Dp K F' v d) (q : Q (.dat d) δ') : Fin K G F σ O δ Q v H' := ⟨F', O', δ', .dat d, e, r, s, h, q⟩
theorem Fin.back {v : V} {H' : Hp} (e : Ext F F') (s : Stp σ O δ O' δ') (h : Fin K G F' σ O' δ' Q v H') : Fin K G F σ O δ Q v H' := by
  obtain ⟨F2, O2, δ2, av, e2, r2, s2, h2, q⟩ := h
  exact ⟨F2, O2, δ2, av, e.trans e2, r2, s.trans s2, h2, q⟩
theorem FinB.back {Q : Bool → DSt → Prop} {v : Bool} {H' : Hp} (e : Ext F F') (s : Stp σ O δ O' δ') (h : FinB K G F' σ O' δ' Q v H') : FinB K G F σ O δ Q v H' := by
  obtain ⟨F2, O2, δ2, e2, r2, s2, q⟩ := h
  exact ⟨F2, O2, δ2, e.trans e2, r2, s.trans s2, q⟩
theorem FinA.back {Q : List AV → DSt → Prop} {v : List V} {H' : Hp} (e : Ext F F') (s : Stp σ O δ O' δ') (h : FinA K G F' σ O' δ' Q v H') : FinA K G F σ O δ Q v H' := by
  obtain ⟨F2, O2, δ2, as, e2, r2, s2, h2, q⟩ := h
  exact ⟨F2, O2, δ2, as, e.trans e2, r2, s.trans s2, h2, q⟩
theorem FinN.back {Q : OC → DSt → Prop} {v : V} {H' : Hp} (e : Ext F F') (s : Stp σ O δ O' δ') (h : FinN K G F' σ O' δ' Q v H') : FinN K G F σ O δ Q v H' := by
  obtain ⟨F2, O2, δ2, p, ho, c, e2, r2, s2, h2, h3, h4, q⟩ := h
  exact ⟨F2, O2, δ2, p, ho, c, e.trans e2, r2, s.trans s2, h2, h3, h4, q⟩
end
/-! ### names, constants -/
def dC (d : D) : DE := fun δ Q => Q (.dat d) δ
def slotV (i : Nat) : SV → (AV → Prop) → Prop
  | .dat d, Q => Q (.dat d)
  | .raw v, Q => Q (.raw v)
  | .own _, Q => Q (.bor i)
  | .emp, _ => False
def dVar (i : Nat) : DE := fun δ Q => match δ[i]? with
  | some s => slotV i s fun av => Q av δ
  | none => False
theorem dx_c {v : V} {d : D} (h : PE X e (tC v)) (hd : ∀ F, Dp X.K F v d) : DX X G e (dC d) := fun F O σ H δ Q r q => sem_of h (Fin.here (av := .dat d) r (hd F) q)
theorem dx_int {i : Int} {j pos} : DX X G (.Constant (.int i) j pos) (dC (.int i)) := dx_c pe_int fun _ => .int i
theorem dx_bool {i : Bool} {j pos} : DX X G (.Constant (.bool i) j pos) (dC (.bool i)) := dx_c pe_bl fun _ => .bl i
theorem dx_none {j pos} : DX X G (.Constant .none j pos) (dC .none) := dx_c pe_non fun _ => .non
theorem dx_str {x : Str} {j pos} : DX X G (.Constant (.str x) j pos) (dC (.str x)) := dx_c pe_str fun _ => .str x
theorem dx_glob {x : Str} {v : V} {u : Value} {d : D} {pos : Pos} (hm : X.mg x = some u) (r : RelV v u) (hd : ∀ F, Dp X.K F v d) (hg : Gl X x := by rfl) (hb : (x == ("__debug__" : Str)) = false := by decide) : DX X G (.Name x pos) (dC d) :=
  dx_c (pe_glob hg hm r hb) hd
theorem dx_var (i : Nat) {x : Str} {pos : Pos} (hN : X.N[i]? = some x := by rfl) (hv : Vis X.env.scope x := by first | exact Or.inl rfl | exact Or.inr (Or.inl rfl) | exact Or.inr (Or.inr rfl)) (hd : (x == ("__debug__" : Str)) = false := by decide)
    (hcd : (x == ("__classdict__" : Str)) = false := by decide) : DX X G (.Name x pos) (dVar i) := fun F O σ H δ Q r q => by
  refine sem_of (pe_var hN hv hd hcd) ?_
  unfold dVar at q
  split at q
  · rename_i s hs
    obtain ⟨o, ho, hk⟩ := r.slot_at hs
    cases s with
    | dat d =>
      obtain ⟨v, e1, h1⟩ := hk
      subst e1
      exact ⟨v, ho, Fin.here (av := .dat d) r h1 q⟩
    | raw v =>
      have e1 : o = some v := hk
      subst e1
      exact ⟨v, ho, Fin.here (av := .raw v) r rfl q⟩
    | own c =>
      obtain ⟨p, e1, h1⟩ := hk
      subst e1
      exact ⟨.ref p, ho, Fin.here r (av := .bor i) ho q⟩
    | emp => exact q.elim
  · exact q.elim
/-- a global that is taken as it is -/
theorem dx_globR {x : Str} {v : V} {u : Value} {pos : Pos} (hm : X.mg x = some u) (r : RelV v u) (hg : Gl X x := by rfl) (hb : (x == ("__debug__" : Str)) = false := by decide) : DX X G (.Name x pos) (fun δ Q => Q (.raw v) δ) :=
  fun F O σ H δ Q r' q => sem_of (pe_glob hg hm r hb) (Fin.here (av := .raw v) r' rfl q)

/-! ### what is read of a value -/
def rs (δ : DSt) : AV → Option D
  | .dat d => some d
  | .raw _ => none
  | .bor i => match δ[i]? with
    | some (.own (.lst ds)) => some (.list ds)
    | _ => none
/-- data as far as it is looked at: the outermost list may be one's own -/
def Shal (K : PySem.W.Frag) (F H : Hp) (v : V) (d : D) : Prop := Dp K F v d ∨ ∃ l vs ds, v = .ref l ∧ d = .list ds ∧ H l = some (.lst vs) ∧ DpAll K F vs ds
section
variable {K : PySem.W.Frag} {F F' : Hp} {O O' : Addr → Option OC} {δ δ' : DSt} {Q : AV → DSt → Prop}
theorem R.shal (r : R K G F O σ H δ) {av : AV} {v : V} {d : D} (h : AVok K F σ av v) (e : rs δ av = some d) : Shal K F H v d := by
  cases av with
  | dat d' => cases e; exact .inl h
  | raw w => cases e
  | bor i =>
    change (match δ[i]? with | some (.own (.lst ds)) => some (PyData.list ds) | _ => none) = some d at e
    split at e
    · rename_i ds hs
      cases e
      obtain ⟨p, hp, hO⟩ := r.own_at hs
      have h' : σ[i]? = some (some v) := h
      rw [hp] at h'
      cases h'
      obtain ⟨_, _, _, ho, h4, h5⟩ := r.own p _ hO
      cases ho with
      | lst vs => exact .inr ⟨p, vs, ds, rfl, rfl, h4, h5⟩
      | _ => exact h5.elim
    · cases e
theorem Shal.dp {v : V} {d : D} (e : Ext F H) (h : Shal K F H v d) : Dp K H v d := by
  rcases h with h | ⟨l, vs, ds, rfl, rfl, h1, h2⟩
  · exact e.dp h
  · exact .lst (SqL.of h1) (e.all h2)
theorem Shal.list {v : V} {ds : List D} (e : Ext F H) (h : Shal K F H v (.list ds)) : ∃ l vs, v = .ref l ∧ SqL K H l vs ∧ DpAll K F vs ds := by
  rcases h with h | ⟨l, vs, ds', rfl, e1, h1, h2⟩
  · cases h with
    | lst hs ha => exact ⟨_, _, rfl, e.sql hs, ha⟩
  · cases e1
    exact ⟨l, vs, rfl, SqL.of h1, h2⟩
theorem Shal.tuple {v : V} {ds : List D} (e : Ext F H) (h : Shal K F H v (.tuple ds)) : ∃ l vs, v = .ref l ∧ SqT K H l vs ∧ DpAll K F vs ds := by
  rcases h with h | ⟨l, vs, ds', rfl, e1, h1, h2⟩
  · cases h with
    | tup hs ha => exact ⟨_, _, rfl, e.sqt hs, ha⟩
  · cases e1
theorem Shal.int {v : V} {i : Int} (h : Shal K F H v (.int i)) : v = .int i := by
  rcases h with h | ⟨l, vs, ds', rfl, e1, h1, h2⟩
  · cases h; rfl
  · cases e1
theorem Shal.str {v : V} {i : Str} (h : Shal K F H v (.str i)) : v = .str i := by
  rcases h with h | ⟨l, vs, ds', rfl, e1, h1, h2⟩
  · cases h; rfl
  · cases e1
theorem Shal.bool {v : V} {i : Bool} (h : Shal K F H v (.bool i)) : v = .bl i := by
  rcases h with h | ⟨l, vs, ds', rfl, e1, h1, h2⟩
  · cases h; rfl
  · cases e1
theorem Shal.none {v : V} (h : Shal K F H v .none) : v = .non := by
  rcases h with h | ⟨l, vs, ds', rfl, e1, h1, h2⟩
  · cases h; rfl
  · cases e1
/-- a new list, a new tuple, frozen at once -/
theorem R.newTup (r : R K G F O σ H δ) {p : Addr} {vs : List V} {ds : List D} (h : H p = none) (hd : DpAll K F vs ds) (q : Q (.dat (.tuple ds)) δ) : Fin K G F σ O δ Q (.ref p) (upd H p (.tup vs)) := by
  have e := Ext.upd (o := HO.tup vs) (r.notF h)
  exact ⟨_, O, δ, .dat (.tuple ds), e, (r.alloc h _).freeze (r.loose h _), Stp.refl, .tup (SqT.of upd_same) (e.all hd), q⟩
theorem R.newLst (r : R K G F O σ H δ) {p : Addr} {vs : List V} {ds : List D} (h : H p = none) (hd : DpAll K F vs ds) (q : Q (.dat (.list ds)) δ) : Fin K G F σ O δ Q (.ref p) (upd H p (.lst vs)) := by
  have e := Ext.upd (o := HO.lst vs) (r.notF h)
  exact ⟨_, O, δ, .dat (.list ds), e, (r.alloc h _).freeze (r.loose h _), Stp.refl, .lst (SqL.of upd_same) (e.all hd), q⟩
theorem R.ownLst (r : R K G F O σ H δ) {Q : OC → DSt → Prop} {p : Addr} {vs : List V} {ds : List D} (h : H p = none) (hd : DpAll K F vs ds) (q : Q (.lst ds) δ) : FinN K G F σ O δ Q (.ref p) (upd H p (.lst vs)) :=
  ⟨F, O, δ, p, .lst vs, .lst ds, Ext.refl F, r.alloc h _, Stp.refl, rfl, r.loose h _, hd, q⟩
/-- a slot set, told cell by cell -/
def withSet : DSt → Nat → SV → (DSt → Prop) → Prop
  | [], _, _, k => k []
  | _ :: xs, 0, s, k => k (s :: xs)
  | x :: xs, n + 1, s, k => withSet xs n s fun ys => k (x :: ys)
theorem withSet_eq : ∀ {δ : DSt} {i : Nat} {s : SV} {k : DSt → Prop}, withSet δ i s k = k (δ.set i s)
  | [], _, _, _ => rfl
  | _ :: _, 0, _, _ => rfl
  | x :: xs, n + 1, s, k => withSet_eq (δ := xs) (i := n) (s := s) (k := fun ys => k (x :: ys))
theorem withSet_ok {δ : DSt} {i : Nat} {s : SV} {k : DSt → Prop} (h : withSet δ i s k) : k (δ.set i s) := by
  rw [withSet_eq] at h
  exact h
/-- frozen, so that it may be kept -/
def toD : AV → DSt → (D → DSt → Prop) → Prop
  | .dat d, δ, Q => Q d δ
  | .raw _, _, _ => False
  | .bor i, δ, Q => match δ[i]? with
    | some (.own (.lst ds)) => withSet δ i (.dat (.list ds)) (Q (.list ds))
    | _ => False
theorem R.toD (r : R K G F O σ H δ) {av : AV} {v : V} {Q : D → DSt → Prop} (h : AVok K F σ av v) (q : toD av δ Q) : ∃ F' O' δ' d, Ext F F' ∧ R K G F' O' σ H δ' ∧ Stp σ O δ O' δ' ∧ Dp K F' v d ∧ Q d δ' := by
  cases av with
  | dat d => exact ⟨F, O, δ, d, Ext.refl F, r, Stp.refl, h, q⟩
  | raw w => exact q.elim
  | bor i =>
    change (match δ[i]? with | some (.own (.lst ds)) => withSet δ i (.dat (.list ds)) (Q (.list ds)) | _ => False) at q
    split at q
    · rename_i ds hs
      rw [withSet_eq] at q
      obtain ⟨p, hp, hO⟩ := r.own_at hs
      have h' : σ[i]? = some (some v) := h
      rw [hp] at h'
      cases h'
      have r1 := r.setEmp (i := i) (o := some (.ref p))
      rw [set_same hp] at r1
      have hi := (List.getElem?_eq_some_iff.mp hs).1
      have n : NoSlot σ (δ.set i .emp) p := fun j ⟨⟨c, h1⟩, h2⟩ => by
        by_cases z : i = j
        · subst z
          rw [List.getElem?_set_self hi] at h1
          cases h1
        · rw [List.getElem?_set_ne z] at h1
          exact z (r.sep i j p ⟨⟨_, hs⟩, hp⟩ ⟨⟨c, h1⟩, h2⟩)
      obtain ⟨ho, l, hc⟩ := r1.loose_of hO
      have r2 := (r1.drop hO n).freeze l
      cases ho with
      | lst vs =>
        have hd : DpAll K F vs ds := hc
        have e := Ext.upd (o := HO.lst vs) l.f
        have dp : Dp K (upd F p (HO.lst vs)) (.ref p) (.list ds) := .lst (SqL.of upd_same) (e.all hd)
        have r3 := r2.setDat (i := i) dp
        rw [set_same hp, List.set_set] at r3
        refine ⟨_, _, _, _, e, r3, ⟨fun a c ha hn => ?_, fun j c' hj => ?_⟩, dp, q⟩
        · have z : a ≠ p := fun z => hn i ⟨⟨_, hs⟩, by rw [z]; exact hp⟩
          rw [delO_ne z]
          exact ha
        · by_cases z : i = j
          · subst z
            exact ⟨_, hs⟩
          · rw [List.getElem?_set_ne z] at hj
            exact ⟨c', hj⟩
      | _ => exact hc.elim
    · exact q.elim
def toDs : List AV → DSt → (List D → DSt → Prop) → Prop
  | [], δ, Q => Q [] δ
  | a :: as, δ, Q => toD a δ fun d δ1 => toDs as δ1 fun ds δ2 => Q (d :: ds) δ2
theorem R.toDs : ∀ {as : List AV} {vs : List V} {F : Hp} {O : Addr → Option OC} {δ : DSt} {Q : List D → DSt → Prop}, R K G F O σ H δ → AVs K F σ as vs → toDs as δ Q → ∃ F' O' δ' ds, Ext F F' ∧ R K G F' O' σ H δ' ∧ Stp σ O δ O' δ' ∧ DpAll K F' vs ds ∧ Q ds δ'
  | [], _, F, O, δ, Q, r, .nil, q => ⟨F, O, δ, [], Ext.refl F, r, Stp.refl, .nil, q⟩
  | a :: as, _, F, O, δ, Q, r, .cons h t, q => by
    obtain ⟨F1, O1, δ1, d, e1, r1, s1, h1, q1⟩ := r.toD h q
    obtain ⟨F2, O2, δ2, ds, e2, r2, s2, h2, q2⟩ := R.toDs (Q := fun ds δ2 => Q (d :: ds) δ2) r1 (AVs.ext e1 t) q1
    exact ⟨F2, O2, δ2, d :: ds, e1.trans e2, r2, s1.trans s2, .cons (e2.dp h1) h2, q2⟩
end

/-! ### operators -/
abbrev F2 := D → D → (D → Prop) → Prop
def two (δ : DSt) (x y : AV) (f : D → D → Prop) : Prop := match rs δ x, rs δ y with
  | some d, some e => f d e
  | _, _ => False
def dOp (f : F2) (ta tb : DE) : DE := fun δ Q => ta δ fun x δ1 => tb δ1 fun y δ2 => two δ2 x y fun d e => f d e fun z => Q (.dat z) δ2
def DOp (K : PySem.W.Frag) (r : R2) (f : F2) : Prop := ∀ (G : Ctx) (F : Hp) (O : Addr → Option OC) (σ : L2.St) (H : Hp) (δ : DSt) (v w : V) (d e : D) (Q : AV → DSt → Prop) (Qv : VK), R K G F O σ H δ → Shal K F H v d → Shal K F H w e → f d e (fun z => Q (.dat z) δ) → (∀ z H', Fin K G F σ O δ Q z H' → Qv z H') → r v w H Qv
theorem DX.two {r : R2} {f : F2} (hd : DOp X.K r f) (ha : DX X G a ta) (hb : DX X G b tb) {F : Hp} {O : Addr → Option OC} {δ : DSt} {Q : AV → DSt → Prop} (rr : R X.K G F O σ H δ) (q : dOp f ta tb δ Q) {Qv : VK} (k : ∀ z H', Fin X.K G F σ O δ Q z H' → Qv z H') : tOp r (tSem X a) (tSem X b) σ H Qv := by
  refine sem_mono (ha F O σ H δ _ rr q) fun v H1 ⟨F1, O1, δ1, av, e1, r1, s1, h1, q1⟩ => ?_
  refine sem_mono (hb F1 O1 σ H1 δ1 _ r1 q1) fun w H2 ⟨F2, O2, δ2, bv, e2, r2, s2, h2, q2⟩ => ?_
  change (match rs δ2 av, rs δ2 bv with | some d, some e => f d e fun z => Q (AV.dat z) δ2 | _, _ => False) at q2
  split at q2
  · rename_i d e hd' he'
    exact hd G F2 O2 σ H2 δ2 v w d e Q _ r2 (r2.shal (h1.ext e2) hd') (r2.shal h2 he') q2 fun z H' h => k z H' (h.back (e1.trans e2) (s1.trans s2))
  · exact q2.elim
theorem dx_op {op : Operator} {r : R2} {f : F2} (ho : OpR X (binaryOp op) r) (hd : DOp X.K r f) (ha : DX X G a ta) (hb : DX X G b tb) : DX X G (.BinOp a op b pos) (dOp f ta tb) := fun F O σ H δ Q rr q =>
  sem_of (pe_op ho pe_sem pe_sem) (DX.two hd ha hb rr q fun _ _ h => h)
theorem dx_cmp {op : CmpOp} {r : R2} {f : F2} (ho : OpR X (compareOp op) r) (hd : DOp X.K r f) (ha : DX X G a ta) (hb : DX X G b tb) (hm : behindInMarks op b = false := by first | exact nomark _ | rfl) : DX X G (.Compare a [op] [b] pos) (dOp f ta tb) := fun F O σ H δ Q rr q =>
  sem_of (pe_cmpR ho pe_sem pe_sem hm) (DX.two hd ha hb rr q fun _ _ h => h)
/-- a comparison as a test -/
def ofB (Q : Bool → DSt → Prop) : AV → DSt → Prop
  | .dat (.bool b), δ => Q b δ
  | _, _ => False
theorem ofB_fin {K : PySem.W.Frag} {F : Hp} {O : Addr → Option OC} {δ : DSt} {Q : Bool → DSt → Prop} {z : V} {H' : Hp} (h : Fin K G F σ O δ (ofB Q) z H') : ∃ b, z = .bl b ∧ FinB K G F σ O δ Q b H' := by
  obtain ⟨F', O', δ', av, e, r, s, hv, q⟩ := h
  cases av with
  | dat d =>
    cases d with
    | bool b =>
      cases (show Dp K F' z (.bool b) from hv)
      exact ⟨b, rfl, F', O', δ', e, r, s, q⟩
    | _ => exact q.elim
  | raw w => exact q.elim
  | bor i => exact q.elim
def dTst (t : DE) : DB := fun δ Q => t δ (ofB Q)
theorem dt_cmp {op : CmpOp} {r : R2} {f : F2} (ho : OpR X (compareOp op) r) (hd : DOp X.K r f) (ha : DX X G a ta) (hb : DX X G b tb) (hm : behindInMarks op b = false := by first | exact nomark _ | rfl) : DT X G (.Compare a [op] [b] pos) (dTst (dOp f ta tb)) := fun F O σ H δ Q rr q =>
  semT_of (pt_cmpR ho pe_sem pe_sem hm) (DX.two hd ha hb rr q fun _ _ h => ofB_fin h)
end
end DL
set_option Elab.async false
set_option linter.all false
set_option maxRecDepth 100000
set_option maxHeartbeats 2000000
/-! more expressions: tests, displays, subscripts, slices, calls -/
namespace DL
open PySem L2
section
variable {X : Cx} {G : Ctx} {e a b c : Expr} {es rest : List Expr} {t ta tb : DE} {tc tc' : DB} {σ : L2.St} {H : Hp} {pos : Pos} {tas : DAs}
/-! ### tests -/
def truD : D → Option Bool
  | .none => some false
  | .bool b => some b
  | .int i => some (i != 0)
  | .str s => some ((s.length : Int) != 0)
  | .list ds => some (!ds.isEmpty)
  | .tuple ds => some (!ds.isEmpty)
  | .dict _ => none
def szD : D → Prop
  | .str s => s.length ≤ sizeLine
  | _ => True
def dTru (t : DE) : DB := fun δ Q => t δ fun av δ1 => match rs δ1 av with
  | some d => szD d ∧ match truD d with
    | some b => Q b δ1
    | none => False
  | none => False
theorem isEmpty_all {K : PySem.W.Frag} {F : Hp} : ∀ {vs : List V} {ds : List D}, DpAll K F vs ds → (!vs.isEmpty) = (!ds.isEmpty)
  | _, _, .nil => rfl
  | _, _, .cons _ _ => rfl
theorem dt_truth (ha : DX X G a t) (he : ∀ whole, isTrue a X.env whole = (do let v ← whole; standAt a.pos; holding [v] (truthy v)) := by intro _; rfl) : DT X G a (dTru t) := fun F O σ H δ Q rr q => by
  refine semT_of (pt_truth pe_sem he) (sem_mono (ha F O σ H δ _ rr q) fun v H1 ⟨F1, O1, δ1, av, e1, r1, s1, h1, q1⟩ => ?_)
  change (match rs δ1 av with | some d => szD d ∧ (match truD d with | some b => Q b δ1 | none => False) | none => False) at q1
  split at q1
  · rename_i d hd
    obtain ⟨z, q1⟩ := q1
    have sh := r1.shal h1 hd
    have fin : ∀ b, Q b δ1 → FinB X.K G F σ O δ Q b H1 := fun b q => ⟨F1, O1, δ1, e1, r1, s1, q⟩
    cases d with
    | none => cases sh.none; exact ⟨false, rfl, fin _ q1⟩
    | bool b => cases sh.bool; exact ⟨b, rfl, fin _ q1⟩
    | int i => cases sh.int; exact ⟨i != 0, rfl, fin _ q1⟩
    | str s => cases sh.str; exact ⟨_, ⟨z, rfl⟩, fin _ q1⟩
    | list ds =>
      obtain ⟨l, vs, rfl, h2, h3⟩ := sh.list r1.ext
      exact ⟨_, .inl ⟨vs, h2, rfl⟩, by rw [isEmpty_all h3]; exact fin _ q1⟩
    | tuple ds =>
      obtain ⟨l, vs, rfl, h2, h3⟩ := sh.tuple r1.ext
      exact ⟨_, .inr (.inl ⟨vs, h2, rfl⟩), by rw [isEmpty_all h3]; exact fin _ q1⟩
    | dict _ => exact q1.elim
  · exact q1.elim
/-- an expression whose value is True or False, as a test -/
theorem dt_val (ha : DX X G a t) (he : ∀ whole, isTrue a X.env whole = (do let v ← whole; standAt a.pos; holding [v] (truthy v)) := by intro _; rfl) : DT X G a (dTst t) := fun F O σ H δ Q rr q =>
  semT_of (pt_val pe_sem he) (sem_mono (ha F O σ H δ _ rr q) fun v H1 h => ofB_fin h)
def dAnd (tc tc' : DB) : DB := fun δ Q => tc δ fun b δ1 => (b = true → tc' δ1 Q) ∧ (b = false → Q false δ1)
def dOr (tc tc' : DB) : DB := fun δ Q => tc δ fun b δ1 => (b = true → Q true δ1) ∧ (b = false → tc' δ1 Q)
def dNot (tc : DB) : DB := fun δ Q => tc δ fun b δ1 => Q (!b) δ1
theorem dt_w (h : DW X G a tc) : DT X G a tc := fun F O σ H δ Q rr q => semT_of (PW.pt pw_sem) (h F O σ H δ Q rr q)
theorem dw_and1 (h : DT X G a tc) : DW X G (.BoolOp .And [a] pos) tc := fun F O σ H δ Q rr q => semW_of (pw_and1 pt_sem) (h F O σ H δ Q rr q)
theorem dw_or1 (h : DT X G a tc) : DW X G (.BoolOp .Or [a] pos) tc := fun F O σ H δ Q rr q => semW_of (pw_or1 pt_sem) (h F O σ H δ Q rr q)
theorem dw_and (h : DT X G a tc) (h' : DW X G (.BoolOp .And (b :: rest) pos) tc') : DW X G (.BoolOp .And (a :: b :: rest) pos) (dAnd tc tc') := fun F O σ H δ Q rr q => by
  refine semW_of (pw_and pt_sem pw_sem) (semT_mono (h F O σ H δ _ rr q) fun k H1 ⟨F1, O1, δ1, e1, r1, s1, q1⟩ => ?_)
  cases k with
  | true =>
    rw [if_pos rfl]
    exact semW_mono (h' F1 O1 σ H1 δ1 Q r1 (q1.1 rfl)) fun _ _ z => z.back e1 s1
  | false =>
    rw [if_neg Bool.false_ne_true]
    exact ⟨F1, O1, δ1, e1, r1, s1, q1.2 rfl⟩
theorem dw_or (h : DT X G a tc) (h' : DW X G (.BoolOp .Or (b :: rest) pos) tc') : DW X G (.BoolOp .Or (a :: b :: rest) pos) (dOr tc tc') := fun F O σ H δ Q rr q => by
  refine semW_of (pw_or pt_sem pw_sem) (semT_mono (h F O σ H δ _ rr q) fun k H1 ⟨F1, O1, δ1, e1, r1, s1, q1⟩ => ?_)
  cases k with
  | true =>
    rw [if_pos rfl]
    exact ⟨F1, O1, δ1, e1, r1, s1, q1.1 rfl⟩
  | false =>
    rw [if_neg Bool.false_ne_true]
    exact semW_mono (h' F1 O1 σ H1 δ1 Q r1 (q1.2 rfl)) fun _ _ z => z.back e1 s1
theorem dt_not (h : DT X G a tc) : DT X G (.UnaryOp .Not a pos) (dNot tc) := fun F O σ H δ Q rr q =>
  semT_of (pt_not pt_sem) (semT_mono (h F O σ H δ _ rr q) fun k H1 ⟨F1, O1, δ1, e1, r1, s1, q1⟩ => ⟨F1, O1, δ1, e1, r1, s1, q1⟩)
/-! ### the same as values -/
def boolK (k : Bool → DSt → Prop) : AV → DSt → Prop := ofB k
def dAndV (ta tb : DE) : DE := fun δ Q => ta δ (ofB fun b δ1 => (b = true → tb δ1 Q) ∧ (b = false → Q (.dat (.bool false)) δ1))
def dOrV (ta tb : DE) : DE := fun δ Q => ta δ (ofB fun b δ1 => (b = true → Q (.dat (.bool true)) δ1) ∧ (b = false → tb δ1 Q))
def dNotV (ta : DE) : DE := fun δ Q => ta δ (ofB fun b δ1 => Q (.dat (.bool !b)) δ1)
theorem dx_one {op} (h : DX X G a t) : DX X G (.BoolOp op [a] pos) t := fun F O σ H δ Q rr q => sem_of (pe_one pe_sem) (h F O σ H δ Q rr q)
theorem dx_and (h : DX X G a ta) (h' : DX X G (.BoolOp .And (b :: rest) pos) tb) : DX X G (.BoolOp .And (a :: b :: rest) pos) (dAndV ta tb) := fun F O σ H δ Q rr q => by
  refine sem_of (pe_and pe_sem pe_sem) (sem_mono (h F O σ H δ _ rr q) fun v H1 hv => ?_)
  obtain ⟨k, rfl, F1, O1, δ1, e1, r1, s1, q1⟩ := ofB_fin hv
  refine ⟨k, rfl, ?_⟩
  cases k with
  | true =>
    rw [if_pos rfl]
    exact sem_mono (h' F1 O1 σ H1 δ1 Q r1 (q1.1 rfl)) fun _ _ z => z.back e1 s1
  | false =>
    rw [if_neg Bool.false_ne_true]
    exact Fin.ok e1 r1 s1 (Dp.bl false) (q1.2 rfl)
theorem dx_or (h : DX X G a ta) (h' : DX X G (.BoolOp .Or (b :: rest) pos) tb) : DX X G (.BoolOp .Or (a :: b :: rest) pos) (dOrV ta tb) := fun F O σ H δ Q rr q => by
  refine sem_of (pe_or pe_sem pe_sem) (sem_mono (h F O σ H δ _ rr q) fun v H1 hv => ?_)
  obtain ⟨k, rfl, F1, O1, δ1, e1, r1, s1, q1⟩ := ofB_fin hv
  refine ⟨k, rfl, ?_⟩
  cases k with
  | true =>
    rw [if_pos rfl]
    exact Fin.ok e1 r1 s1 (Dp.bl true) (q1.1 rfl)
  | false =>
    rw [if_neg Bool.false_ne_true]
    exact sem_mono (h' F1 O1 σ H1 δ1 Q r1 (q1.2 rfl)) fun _ _ z => z.back e1 s1
theorem dx_not (h : DX X G a ta) : DX X G (.UnaryOp .Not a pos) (dNotV ta) := fun F O σ H δ Q rr q => by
  refine sem_of (pe_not pe_sem) (sem_mono (h F O σ H δ _ rr q) fun v H1 hv => ?_)
  obtain ⟨k, rfl, F1, O1, δ1, e1, r1, s1, q1⟩ := ofB_fin hv
  exact ⟨k, rfl, Fin.ok e1 r1 s1 (Dp.bl (!k)) q1⟩
def dIf (tc : DB) (ta tb : DE) : DE := fun δ Q => tc δ fun b δ1 => (b = true → ta δ1 Q) ∧ (b = false → tb δ1 Q)
theorem dx_if (h : DT X G c tc) (h1 : DX X G a ta) (h2 : DX X G b tb) : DX X G (.IfExp c a b pos) (dIf tc ta tb) := fun F O σ H δ Q rr q => by
  refine sem_of (pe_ifExp pt_sem pe_sem pe_sem) (semT_mono (h F O σ H δ _ rr q) fun k H1 ⟨F1, O1, δ1, e1, r1, s1, q1⟩ => ?_)
  cases k with
  | true =>
    rw [if_pos rfl]
    exact sem_mono (h1 F1 O1 σ H1 δ1 Q r1 (q1.1 rfl)) fun _ _ z => z.back e1 s1
  | false =>
    rw [if_neg Bool.false_ne_true]
    exact sem_mono (h2 F1 O1 σ H1 δ1 Q r1 (q1.2 rfl)) fun _ _ z => z.back e1 s1
/-- a one-place operation -/
def one (δ : DSt) (x : AV) (f : D → Prop) : Prop := match rs δ x with
  | some d => f d
  | none => False
def dUn (f : D → (D → Prop) → Prop) (ta : DE) : DE := fun δ Q => ta δ fun x δ1 => one δ1 x fun d => f d fun z => Q (.dat z) δ1
def opNeg : D → (D → Prop) → Prop
  | .int i, Q => Q (.int (-i))
  | _, _ => False
theorem dx_neg (h : DX X G a ta) : DX X G (.UnaryOp .USub a pos) (dUn opNeg ta) := fun F O σ H δ Q rr q => by
  refine sem_of (pe_un un_neg pe_sem) (sem_mono (h F O σ H δ _ rr q) fun v H1 ⟨F1, O1, δ1, av, e1, r1, s1, h1, q1⟩ => ?_)
  change (match rs δ1 av with | some d => opNeg d (fun z => Q (.dat z) δ1) | none => False) at q1
  split at q1
  · rename_i d hd
    have sh := r1.shal h1 hd
    cases d with
    | int i => cases sh.int; exact ⟨i, rfl, Fin.ok e1 r1 s1 (Dp.int (-i)) q1⟩
    | _ => exact q1.elim
  · exact q1.elim
/-! ### arguments, displays -/
def dNil : DAs := fun δ Q => Q [] δ
def dCons (t : DE) (tas : DAs) : DAs := fun δ Q => t δ fun av δ1 => tas δ1 fun avs δ2 => Q (av :: avs) δ2
theorem da_nil : DA X G [] dNil := fun F O σ H δ Q rr q => semA_of pa_nil ⟨F, O, δ, [], Ext.refl F, rr, Stp.refl, .nil, q⟩
theorem da_cons (h : DX X G e t) (h' : DA X G es tas) (hs : starEach (e :: es) X.env = (false, eval e X.env) :: starEach es X.env := by rfl) : DA X G (e :: es) (dCons t tas) := fun F O σ H δ Q rr q => by
  refine semA_of (pa_cons pe_sem pa_sem hs) (sem_mono (h F O σ H δ _ rr q) fun v H1 ⟨F1, O1, δ1, av, e1, r1, s1, h1, q1⟩ => ?_)
  refine semA_mono (h' F1 O1 σ H1 δ1 _ r1 q1) fun vs H2 ⟨F2, O2, δ2, as, e2, r2, s2, h2, q2⟩ => ?_
  exact ⟨F2, O2, δ2, av :: as, e1.trans e2, r2, s1.trans s2, .cons (h1.ext e2) h2, q2⟩
def dTup (tas : DAs) : DE := fun δ Q => tas δ fun as δ1 => toDs as δ1 fun ds δ2 => ds.length ≤ 100000 ∧ Q (.dat (.tuple ds)) δ2
theorem sz_le {n : Nat} (h : n ≤ 100000) : n ≤ sizeLine := Nat.le_trans h (by decide)
theorem dx_tup {x1} (h : DA X G es tas) : DX X G (.Tuple es x1 pos) (dTup tas) := fun F O σ H δ Q rr q => by
  refine sem_of (pe_tup pa_sem) (semA_mono (h F O σ H δ _ rr q) fun vs H1 ⟨F1, O1, δ1, as, e1, r1, s1, h1, q1⟩ => ?_)
  obtain ⟨F2, O2, δ2, ds, e2, r2, s2, h2, hz, q2⟩ := r1.toDs h1 q1
  exact ⟨by rw [h2.len]; exact sz_le hz, fun p hp => (r2.newTup hp h2 q2).back (e1.trans e2) (s1.trans s2)⟩
def dLst (tas : DAs) : DNw := fun δ Q => tas δ fun as δ1 => toDs as δ1 fun ds δ2 => ds.length ≤ 100000 ∧ Q (.lst ds) δ2
theorem dn_lst (h : DA X G es tas) : DN X G (.List es pos) (dLst tas) := fun F O σ H δ Q rr q => by
  refine sem_of (pe_lst pa_sem) (semA_mono (h F O σ H δ _ rr q) fun vs H1 ⟨F1, O1, δ1, as, e1, r1, s1, h1, q1⟩ => ?_)
  obtain ⟨F2, O2, δ2, ds, e2, r2, s2, h2, hz, q2⟩ := r1.toDs h1 q1
  exact ⟨by rw [h2.len]; exact sz_le hz, fun p hp => (r2.ownLst hp h2 q2).back (e1.trans e2) (s1.trans s2)⟩
/-- a new list, frozen at once -/
def dFz (t : DNw) : DE := fun δ Q => t δ fun c δ1 => match c with
  | .lst ds => Q (.dat (.list ds)) δ1
  | _ => False
theorem dx_new {t : DNw} (h : DN X G e t) : DX X G e (dFz t) := fun F O σ H δ Q rr q => by
  refine sem_mono (h F O σ H δ _ rr q) fun v H1 ⟨F1, O1, δ1, p, ho, c, e1, r1, s1, ev, l, hc, q1⟩ => ?_
  subst ev
  cases c with
  | lst ds =>
    cases ho with
    | lst vs =>
      have hd : DpAll X.K F1 vs ds := hc
      have e2 := Ext.upd (o := HO.lst vs) l.f
      exact ⟨_, O1, δ1, .dat (.list ds), e1.trans e2, r1.freeze l, s1, .lst (SqL.of upd_same) (e2.all hd), q1⟩
    | _ => exact hc.elim
  | dk _ => exact q1.elim
  | dt _ => exact q1.elim
/-! ### subscripts, slices -/
def opIx : F2
  | .list ds, .int i, Q => ∃ d, atI ds i = some d ∧ Q d
  | .tuple ds, .int i, Q => ∃ d, atI ds i = some d ∧ Q d
  | .str s, .int i, Q => s.length ≤ sizeLine ∧ ∃ c, atI s.cps.toList i = some c ∧ Q (.str ⟨#[c]⟩)
  | _, _, _ => False
theorem atI_all {K : PySem.W.Frag} {F : Hp} {vs : List V} {ds : List D} {i : Int} {d : D} (h : DpAll K F vs ds) (e : atI ds i = some d) : ∃ v, atI vs i = some v ∧ Dp K F v d := by
  unfold atI at e ⊢
  rw [h.len]
  cases q : ixN ds.length i with
  | none => rw [q] at e; cases e
  | some j =>
    rw [q] at e
    obtain ⟨v, h1, h2⟩ := h.get (i := j) (d := d) e
    exact ⟨v, h1, h2⟩
theorem dop_ix {K : PySem.W.Frag} : DOp K (rIx K) opIx := fun G F O σ H δ v w d e Q Qv r hv hw q k => by
  have here : ∀ {z : V} {d : D}, Dp K F z d → Q (.dat d) δ → Qv z H := fun {z d} h q => k _ _ (Fin.here (av := .dat d) r h q)
  cases d with
  | list ds =>
    cases e with
    | int i =>
      cases hw.int
      obtain ⟨l, vs, rfl, h1, h2⟩ := hv.list r.ext
      obtain ⟨d, hd, q⟩ := q
      obtain ⟨z, h3, h4⟩ := atI_all h2 hd
      exact .inl ⟨l, vs, i, z, rfl, rfl, h1, h3, here h4 q⟩
    | _ => exact q.elim
  | tuple ds =>
    cases e with
    | int i =>
      cases hw.int
      obtain ⟨l, vs, rfl, h1, h2⟩ := hv.tuple r.ext
      obtain ⟨d, hd, q⟩ := q
      obtain ⟨z, h3, h4⟩ := atI_all h2 hd
      exact .inr (.inl ⟨l, vs, i, z, rfl, rfl, h1, h3, here h4 q⟩)
    | _ => exact q.elim
  | str s =>
    cases e with
    | int i =>
      cases hw.int
      cases hv.str
      obtain ⟨hz, d, hd, q⟩ := q
      exact .inr (.inr ⟨s, i, d, rfl, rfl, hz, hd, here (.str _) q⟩)
    | _ => exact q.elim
  | _ => exact q.elim
theorem dx_ix (ha : DX X G a ta) (hb : DX X G b tb) (hs : PlainIx b := by exact fun _ _ => rfl) : DX X G (.Subscript a b pos) (dOp opIx ta tb) := fun F O σ H δ Q rr q =>
  sem_of (pe_ix ix_seq pe_sem pe_sem hs) (DX.two dop_ix ha hb rr q fun _ _ h => h)
end
end DL
set_option Elab.async false
set_option linter.all false
set_option maxRecDepth 100000
set_option maxHeartbeats 2000000
/-! calls, defs, targets, statements, loops -/
namespace DL
open PySem L2
/-! ### exceptions, promises -/
structure DXn where
  cls : Value
  fs : List (Str × D)
def XRep (K : PySem.W.Frag) (F : Hp) (x : DXn) : Option Addr → Prop
  | none => x.fs = []
  | some d => ∃ vs, F d = some (.xd vs) ∧ Paired (fun (p : Str × D) (q : Str × V) => p.1 = q.1 ∧ Dp K F q.2 p.2) x.fs vs
abbrev DSp := List AV → (D → Prop) → (DXn → Prop) → Prop
abbrev Wsh := DXn → DSt → Prop
structure After (W : Wd) (F H F' H' : Hp) : Prop where
  keep : ∀ a o, H a = some o → ¬ W.fp a → H' a = some o
  inv : W.inv H'
  ext : Ext F F'
  in_ : Ext F' H'
  new : ∀ a o, F' a = some o → F a = some o ∨ H a = none
def spX (K : PySem.W.Frag) (W : Wd) (sp : DSp) : Sp := fun vs H Q E => ∃ F as, Ext F H ∧ AVs K F [] as vs ∧ W.inv H ∧ (∀ a, W.fp a → F a = none) ∧
  ∃ (Qd : D → Prop) (Ed : DXn → Prop), sp as Qd Ed ∧ (∀ d, Qd d → ∀ v H' F', After W F H F' H' → Dp K F' v d → Q v H') ∧ (∀ x, Ed x → ∀ dd H' F', After W F H F' H' → XRep K F' x dd → E x.cls dd H')
def WOk (K : PySem.W.Frag) (G : Ctx) (W : WX) (we : Wsh) : Prop := ∀ (F : Hp) (O : Addr → Option OC) (σ : L2.St) (H : Hp) (δ : DSt) (x : DXn) (dd : Option Addr), R K G F O σ H δ → XRep K F x dd → we x δ → W x.cls dd σ H
theorem wo0 {K : PySem.W.Frag} {G : Ctx} : WOk K G (fun _ _ _ _ => False) (fun _ _ => False) := fun _ _ _ _ _ _ _ _ _ h => h
section
variable {K : PySem.W.Frag} {G : Ctx} {F F' : Hp} {O : Addr → Option OC} {σ : L2.St} {H H' : Hp} {δ : DSt}
/-- behind a call of a def that touches nothing -/
theorem R.after (r : R K G F O σ H δ) (a : After Wd.nil F H F' H') : R K G F' O σ H' δ := by
  have hk : ∀ b o, H b = some o → H' b = some o := fun b o e => a.keep b o e fun z => z
  have r1 : R K G F O σ H' δ := r.world (fun b o e _ => hk b o e) (G.W.stay H H' r.inv fun b fb => by
    cases e : H b with
    | none => exact absurd e (G.W.trk H b r.inv fb)
    | some o => exact hk b o e)
  refine r1.grow a.ext a.in_ fun b o e => (a.new b o e).elim .inl fun z => .inr ⟨r.notB z, r.notFp z, r.notO z⟩
/-- behind one that moves the same world -/
theorem R.afterW (r : R K G F O σ H δ) (a : After G.W F H F' H') : R K G F' O σ H' δ :=
  (r.world a.keep a.inv).grow a.ext a.in_ fun b o e => (a.new b o e).elim .inl fun z => .inr ⟨r.notB z, r.notFp z, r.notO z⟩
/-- what is handed on: data, values as they are -/
def toA : AV → DSt → (AV → DSt → Prop) → Prop
  | .raw v, δ, Q => Q (.raw v) δ
  | av, δ, Q => toD av δ fun d δ' => Q (.dat d) δ'
def toAs : List AV → DSt → (List AV → DSt → Prop) → Prop
  | [], δ, Q => Q [] δ
  | a :: as, δ, Q => toA a δ fun d δ1 => toAs as δ1 fun ds δ2 => Q (d :: ds) δ2
def noBor : AV → Prop
  | .bor _ => False
  | _ => True
theorem AVok.nob {a : AV} {v : V} {σ' : L2.St} (n : noBor a) (h : AVok K F σ a v) : AVok K F σ' a v := by
  cases a with
  | dat d => exact h
  | raw w => exact h
  | bor i => exact n.elim
theorem R.toA (r : R K G F O σ H δ) {av : AV} {v : V} {Q : AV → DSt → Prop} (h : AVok K F σ av v) (q : DL.toA av δ Q) : ∃ F' O' δ' av', Ext F F' ∧ R K G F' O' σ H δ' ∧ Stp σ O δ O' δ' ∧ AVok K F' [] av' v ∧ Q av' δ' := by
  cases av with
  | raw w => exact ⟨F, O, δ, .raw w, Ext.refl F, r, Stp.refl, h, q⟩
  | dat d => exact ⟨F, O, δ, .dat d, Ext.refl F, r, Stp.refl, h, q⟩
  | bor i =>
    obtain ⟨F1, O1, δ1, d, e1, r1, s1, h1, q1⟩ := r.toD (Q := fun d δ' => Q (.dat d) δ') h q
    exact ⟨F1, O1, δ1, .dat d, e1, r1, s1, h1, q1⟩
theorem R.toAs : ∀ {as : List AV} {vs : List V} {F : Hp} {O : Addr → Option OC} {δ : DSt} {Q : List AV → DSt → Prop}, R K G F O σ H δ → AVs K F σ as vs → DL.toAs as δ Q → ∃ F' O' δ' bs, Ext F F' ∧ R K G F' O' σ H δ' ∧ Stp σ O δ O' δ' ∧ AVs K F' [] bs vs ∧ Q bs δ'
  | [], _, F, O, δ, Q, r, .nil, q => ⟨F, O, δ, [], Ext.refl F, r, Stp.refl, .nil, q⟩
  | a :: as, _, F, O, δ, Q, r, .cons h t, q => by
    obtain ⟨F1, O1, δ1, d, e1, r1, s1, h1, q1⟩ := r.toA h q
    obtain ⟨F2, O2, δ2, ds, e2, r2, s2, h2, q2⟩ := R.toAs (Q := fun ds δ2 => Q (d :: ds) δ2) r1 (AVs.ext e1 t) q1
    exact ⟨F2, O2, δ2, d :: ds, e1.trans e2, r2, s1.trans s2, .cons (h1.ext e2) h2, q2⟩
end
section
variable {X : Cx} {G : Ctx} {e a b c : Expr} {es rest : List Expr} {t ta tb : DE} {tc tc' : DB} {pos p : Pos} {tas : DAs}
def dCall (sp : DSp) (we : Wsh) (tas : DAs) : DE := fun δ Q => tas δ fun as δ1 => toAs as δ1 fun bs δ2 => sp bs (fun d => Q (.dat d) δ2) (fun x => we x δ2)
theorem dx_call {x : Str} {k : Nat} {f : Addr} {fd : FuncData} {ps : List Str} {sp : DSp} {W : WX} {we : Wsh} (Fn : FnOk X.prog X.w X.K X.mg X.base (L2.CX X.prog X.w) k f fd ps (spX X.K Wd.nil sp)) (hr : Room k X.A) (hm : X.mg x = some (.ref f)) (hk : PySem.W.keepIn X.K (.ref f) = true)
    (hb : Binds X.K fd ps []) (tk : Takes X W) (wo : WOk X.K G W we) (ha : DA X G (e :: es) tas) (hg : Gl X x := by rfl) (hdb : (x == ("__debug__" : Str)) = false := by decide) (he : starEach (e :: es) X.env = (false, eval e X.env) :: starEach es X.env := by rfl)
    (hpl : (backTo pos (starEach es X.env)).any (·.1) = false := by rfl) : DX X G (.Call (.Name x p) (e :: es) [] pos) (dCall sp we tas) := fun F O σ H δ Q rr q => by
  refine sem_of (pe_callS Fn hr hg hm hk hb (fun σ => passAt tk σ) pa_sem hdb he hpl) (semA_mono (ha F O σ H δ _ rr q) fun vs H1 ⟨F1, O1, δ1, as, e1, r1, s1, h1, q1⟩ => ?_)
  obtain ⟨F2, O2, δ2, bs, e2, r2, s2, h2, q2⟩ := r1.toAs h1 q1
  refine ⟨F2, bs, r2.ext, h2, trivial, fun _ z => z.elim, _, _, q2, fun d q v H' F' a h => ?_, fun x q dd H' F' a h => ?_⟩
  · exact Fin.ok ((e1.trans e2).trans a.ext) (r2.after a) (s1.trans s2) h q
  · exact wo F' O2 σ H' δ2 x dd (r2.after a) h q
/-- .. of one that moves the same world, told by an address -/
def spS (K : PySem.W.Frag) (Wf : Addr → Addr → Wd) (sp : Addr → DSp) : Sp := fun vs H Q E => ∃ a c, spX K (Wf a c) (sp a) vs H Q E
theorem dx_callS {x : Str} {k : Nat} {f : Addr} {fd : FuncData} {ps : List Str} {Wf : Addr → Addr → Wd} {sp : Addr → DSp} {W : WX} {we : Wsh} {sa sc : Addr} (Fn : FnOk X.prog X.w X.K X.mg X.base (L2.CX X.prog X.w) k f fd ps (spS X.K Wf sp)) (hr : Room k X.A) (hm : X.mg x = some (.ref f)) (hk : PySem.W.keepIn X.K (.ref f) = true)
    (hb : Binds X.K fd ps []) (tk : Takes X W) (wo : WOk X.K G W we) (hW : G.W = Wf sa sc) (ha : DA X G (e :: es) tas) (hg : Gl X x := by rfl) (hdb : (x == ("__debug__" : Str)) = false := by decide) (he : starEach (e :: es) X.env = (false, eval e X.env) :: starEach es X.env := by rfl)
    (hpl : (backTo pos (starEach es X.env)).any (·.1) = false := by rfl) : DX X G (.Call (.Name x p) (e :: es) [] pos) (dCall (sp sa) we tas) := fun F O σ H δ Q rr q => by
  refine sem_of (pe_callS Fn hr hg hm hk hb (fun σ => passAt tk σ) pa_sem hdb he hpl) (semA_mono (ha F O σ H δ _ rr q) fun vs H1 ⟨F1, O1, δ1, as, e1, r1, s1, h1, q1⟩ => ?_)
  obtain ⟨F2, O2, δ2, bs, e2, r2, s2, h2, q2⟩ := r1.toAs h1 q1
  refine ⟨sa, sc, ?_⟩
  rw [← hW]
  refine ⟨F2, bs, r2.ext, h2, r2.inv, r2.fpF, _, _, q2, fun d q v H' F' a h => ?_, fun x q dd H' F' a h => ?_⟩
  · exact Fin.ok ((e1.trans e2).trans a.ext) (r2.afterW a) (s1.trans s2) h q
  · exact wo F' O2 σ H' δ2 x dd (r2.afterW a) h q
/-- a built-in by its name: what is looked at is told -/
def rss (δ : DSt) : List AV → Option (List D)
  | [] => some []
  | a :: as => match rs δ a, rss δ as with
    | some d, some ds => some (d :: ds)
    | _, _ => none
abbrev FB := List D → (D → Prop) → Prop
abbrev FBN := List D → (OC → Prop) → Prop
abbrev ShalAll (K : PySem.W.Frag) (F H : Hp) : List D → List V → Prop := Paired fun d v => Shal K F H v d
theorem R.shalAll {K : PySem.W.Frag} {F : Hp} {O : Addr → Option OC} {σ : L2.St} {H : Hp} {δ : DSt} (r : R K G F O σ H δ) : ∀ {as : List AV} {vs : List V} {ds : List D}, AVs K F σ as vs → rss δ as = some ds → ShalAll K F H ds vs
  | [], _, ds, .nil, e => by cases e; exact .nil
  | a :: as, _, ds, .cons h t, e => by
    change (match rs δ a, rss δ as with | some d, some ds => some (d :: ds) | _, _ => none) = some ds at e
    split at e
    · rename_i d ds' h1 h2
      cases e
      exact .cons (r.shal h h1) (r.shalAll t h2)
    · cases e
def dB (f : FB) (tas : DAs) : DE := fun δ Q => tas δ fun as δ1 => match rss δ1 as with
  | some ds => f ds fun d => Q (.dat d) δ1
  | none => False
def dBN (f : FBN) (tas : DAs) : DNw := fun δ Q => tas δ fun as δ1 => match rss δ1 as with
  | some ds => f ds fun c => Q c δ1
  | none => False
def DCl (K : PySem.W.Frag) (r : List V → Hp → VK → Prop) (f : FB) : Prop := ∀ (G : Ctx) (F : Hp) (O : Addr → Option OC) (σ : L2.St) (H : Hp) (δ : DSt) (ds : List D) (vs : List V) (Q : AV → DSt → Prop) (Qv : VK), R K G F O σ H δ → ShalAll K F H ds vs → f ds (fun z => Q (.dat z) δ) → (∀ z H', Fin K G F σ O δ Q z H' → Qv z H') → r vs H Qv
def DClN (K : PySem.W.Frag) (r : List V → Hp → VK → Prop) (f : FBN) : Prop := ∀ (G : Ctx) (F : Hp) (O : Addr → Option OC) (σ : L2.St) (H : Hp) (δ : DSt) (ds : List D) (vs : List V) (Q : OC → DSt → Prop) (Qv : VK), R K G F O σ H δ → ShalAll K F H ds vs → f ds (fun z => Q z δ) → (∀ z H', FinN K G F σ O δ Q z H' → Qv z H') → r vs H Qv
theorem dx_b {x : Str} {id : String} {r : List V → Hp → VK → Prop} {f : FB} (hc : CallR X (.builtin id) r) (hd : DCl X.K r f) (hm : X.mg x = none) (ha : DA X G (e :: es) tas) (hg : Gl X x := by rfl) (hv : bootBuiltins x = some (.builtin id) := by decide +kernel) (hn : x ≠ "__name__" := by decide) (hdb : (x == ("__debug__" : Str)) = false := by decide)
    (he : starEach (e :: es) X.env = (false, eval e X.env) :: starEach es X.env := by rfl) (hpl : (backTo pos (starEach es X.env)).any (·.1) = false := by rfl) : DX X G (.Call (.Name x p) (e :: es) [] pos) (dB f tas) := fun F O σ H δ Q rr q => by
  refine sem_of (pe_callB hc hg hm hv pa_sem hn hdb he hpl) (semA_mono (ha F O σ H δ _ rr q) fun vs H1 ⟨F1, O1, δ1, as, e1, r1, s1, h1, q1⟩ => ?_)
  change (match rss δ1 as with | some ds => f ds (fun d => Q (.dat d) δ1) | none => False) at q1
  split at q1
  · rename_i ds hds
    exact hd G F1 O1 σ H1 δ1 ds vs Q _ r1 (r1.shalAll h1 hds) q1 fun z H' h => h.back e1 s1
  · exact q1.elim
theorem dx_ty {x : Str} {T : String} {r : List V → Hp → VK → Prop} {f : FB} (hc : CallR X (.type T) r) (hd : DCl X.K r f) (hm : X.mg x = none) (ha : DA X G (e :: es) tas) (hg : Gl X x := by rfl) (hv : bootBuiltins x = some (.type T) := by decide +kernel) (hn : x ≠ "__name__" := by decide) (hdb : (x == ("__debug__" : Str)) = false := by decide)
    (he : starEach (e :: es) X.env = (false, eval e X.env) :: starEach es X.env := by rfl) (hpl : (backTo pos (starEach es X.env)).any (·.1) = false := by rfl) : DX X G (.Call (.Name x p) (e :: es) [] pos) (dB f tas) := fun F O σ H δ Q rr q => by
  refine sem_of (pe_callTy hc hg hm hv pa_sem hn hdb he hpl) (semA_mono (ha F O σ H δ _ rr q) fun vs H1 ⟨F1, O1, δ1, as, e1, r1, s1, h1, q1⟩ => ?_)
  change (match rss δ1 as with | some ds => f ds (fun d => Q (.dat d) δ1) | none => False) at q1
  split at q1
  · rename_i ds hds
    exact hd G F1 O1 σ H1 δ1 ds vs Q _ r1 (r1.shalAll h1 hds) q1 fun z H' h => h.back e1 s1
  · exact q1.elim
theorem dn_b {x : Str} {id : String} {r : List V → Hp → VK → Prop} {f : FBN} (hc : CallR X (.builtin id) r) (hd : DClN X.K r f) (hm : X.mg x = none) (ha : DA X G (e :: es) tas) (hg : Gl X x := by rfl) (hv : bootBuiltins x = some (.builtin id) := by decide +kernel) (hn : x ≠ "__name__" := by decide) (hdb : (x == ("__debug__" : Str)) = false := by decide)
    (he : starEach (e :: es) X.env = (false, eval e X.env) :: starEach es X.env := by rfl) (hpl : (backTo pos (starEach es X.env)).any (·.1) = false := by rfl) : DN X G (.Call (.Name x p) (e :: es) [] pos) (dBN f tas) := fun F O σ H δ Q rr q => by
  refine sem_of (pe_callB hc hg hm hv pa_sem hn hdb he hpl) (semA_mono (ha F O σ H δ _ rr q) fun vs H1 ⟨F1, O1, δ1, as, e1, r1, s1, h1, q1⟩ => ?_)
  change (match rss δ1 as with | some ds => f ds (fun d => Q d δ1) | none => False) at q1
  split at q1
  · rename_i ds hds
    exact hd G F1 O1 σ H1 δ1 ds vs Q _ r1 (r1.shalAll h1 hds) q1 fun z H' h => h.back e1 s1
  · exact q1.elim
theorem dn_ty {x : Str} {T : String} {r : List V → Hp → VK → Prop} {f : FBN} (hc : CallR X (.type T) r) (hd : DClN X.K r f) (hm : X.mg x = none) (ha : DA X G (e :: es) tas) (hg : Gl X x := by rfl) (hv : bootBuiltins x = some (.type T) := by decide +kernel) (hn : x ≠ "__name__" := by decide) (hdb : (x == ("__debug__" : Str)) = false := by decide)
    (he : starEach (e :: es) X.env = (false, eval e X.env) :: starEach es X.env := by rfl) (hpl : (backTo pos (starEach es X.env)).any (·.1) = false := by rfl) : DN X G (.Call (.Name x p) (e :: es) [] pos) (dBN f tas) := fun F O σ H δ Q rr q => by
  refine sem_of (pe_callTy hc hg hm hv pa_sem hn hdb he hpl) (semA_mono (ha F O σ H δ _ rr q) fun vs H1 ⟨F1, O1, δ1, as, e1, r1, s1, h1, q1⟩ => ?_)
  change (match rss δ1 as with | some ds => f ds (fun d => Q d δ1) | none => False) at q1
  split at q1
  · rename_i ds hds
    exact hd G F1 O1 σ H1 δ1 ds vs Q _ r1 (r1.shalAll h1 hds) q1 fun z H' h => h.back e1 s1
  · exact q1.elim
end

/-! ### statements -/
structure DEnds where
  nx : DSt → Prop
  rt : D → Prop
  bk : DSt → Prop := fun _ => False
  ct : DSt → Prop := fun _ => False
abbrev DTS := DEnds → DSt → Prop
def LnkS (K : PySem.W.Frag) (G : Ctx) (F : Hp) (q : DSt → Prop) : L2.St → Hp → Prop := fun σ' H' => ∃ F' O' δ', Ext F F' ∧ R K G F' O' σ' H' δ' ∧ q δ'
def Lnk (K : PySem.W.Frag) (G : Ctx) (F : Hp) (D : DEnds) : Ends where
  nx := LnkS K G F D.nx
  rt := fun v H' => ∃ F' O' σ' δ' d, Ext F F' ∧ R K G F' O' σ' H' δ' ∧ Dp K F' v d ∧ D.rt d
  bk := LnkS K G F D.bk
  ct := LnkS K G F D.ct
def tSemS (X : Cx) (st : Stmt) : TS := fun D σ H => ∀ (pins : List (Addr × Obj)) (s : Shared), Inv X pins σ H s → wpAny (model X.prog X.w) X.A (exec st X.env) (SP X pins D) X.xe s
def tSemSs (X : Cx) (st : List Stmt) : TS := fun D σ H => ∀ (pins : List (Addr × Obj)) (s : Shared), Inv X pins σ H s → wpAny (model X.prog X.w) X.A (execs st X.env) (SP X pins D) X.xe s
def tSemG (X : Cx) (tg : Expr) : TG := fun v σ H Q => ∀ (pins : List (Addr × Obj)) (s : Shared) (u : Value), Inv X pins σ H s → RelV v u → wpAny (model X.prog X.w) X.A (assign tg X.env u) (fun _ s' => ∃ σ' H', Inv X pins σ' H' s' ∧ Q σ' H') X.xe s
def tSemI (X : Cx) (tg iter : Expr) : TI := fun σ H Rr => ∀ (pins : List (Addr × Obj)) (s : Shared), Inv X pins σ H s → wpAny (model X.prog X.w) X.A (eval iter X.env) (fun v s1 => wpAny (model X.prog X.w) X.A (pyIter v) (PIE X pins σ tg Rr) X.xe s1) X.xe s
structure Ends.Le (D D' : Ends) : Prop where
  nx : ∀ σ H, D.nx σ H → D'.nx σ H
  rt : ∀ v H, D.rt v H → D'.rt v H
  bk : ∀ σ H, D.bk σ H → D'.bk σ H
  ct : ∀ σ H, D.ct σ H → D'.ct σ H
theorem sp_le {X : Cx} {pins : List (Addr × Obj)} {D D' : Ends} (h : Ends.Le D D') {f : Flow} {s : Shared} (q : SP X pins D f s) : SP X pins D' f s := by
  cases f with
  | next => obtain ⟨σ, H, I, q⟩ := q; exact ⟨σ, H, I, h.nx _ _ q⟩
  | brk => obtain ⟨σ, H, I, q⟩ := q; exact ⟨σ, H, I, h.bk _ _ q⟩
  | cont => obtain ⟨σ, H, I, q⟩ := q; exact ⟨σ, H, I, h.ct _ _ q⟩
  | ret u => obtain ⟨v, σ, H, I, r, q⟩ := q; exact ⟨v, σ, H, I, r, h.rt _ _ q⟩
section
variable {X : Cx} {G : Ctx} {e a b c : Expr} {es rest : List Expr} {t ta tb : DE} {tc tc' : DB} {σ : L2.St} {H : Hp} {pos p : Pos} {tas : DAs} {st : Stmt} {sts : List Stmt}
theorem ps_sem : PS X st (tSemS X st) := ⟨fun pins s σ H D I h => h pins s I⟩
theorem pss_sem : PSs X sts (tSemSs X sts) := ⟨fun pins s σ H D I h => h pins s I⟩
theorem pg_sem : PG X e (tSemG X e) := ⟨fun pins s σ H v u Q I r h => h pins s u I r⟩
theorem pi_sem : PI X a e (tSemI X a e) := ⟨fun pins s σ H Rr I h => h pins s I⟩
theorem semS_of {ts : TS} {D : Ends} (h : PS X st ts) (q : ts D σ H) : tSemS X st D σ H := fun pins s I => h.run pins s σ H D I q
theorem semSs_of {ts : TS} {D : Ends} (h : PSs X sts ts) (q : ts D σ H) : tSemSs X sts D σ H := fun pins s I => h.run pins s σ H D I q
theorem semG_of {tg : TG} {v : V} {Q : L2.St → Hp → Prop} (h : PG X e tg) (q : tg v σ H Q) : tSemG X e v σ H Q := fun pins s u I r => h.run pins s σ H v u Q I r q
theorem semI_of {ti : TI} {Rr : It → Hp → Prop} (h : PI X a e ti) (q : ti σ H Rr) : tSemI X a e σ H Rr := fun pins s I => h.run pins s σ H Rr I q
theorem semS_le {D D' : Ends} (q : tSemS X st D σ H) (h : Ends.Le D D') : tSemS X st D' σ H := fun pins s I => thn (q pins s I) fun _ _ z => sp_le h z
theorem semSs_le {D D' : Ends} (q : tSemSs X sts D σ H) (h : Ends.Le D D') : tSemSs X sts D' σ H := fun pins s I => thn (q pins s I) fun _ _ z => sp_le h z
theorem semG_mono {v : V} {Q Q' : L2.St → Hp → Prop} (q : tSemG X e v σ H Q) (k : ∀ σ' H', Q σ' H' → Q' σ' H') : tSemG X e v σ H Q' := fun pins s u I r => thn (q pins s u I r) fun _ _ ⟨σ', H', I', z⟩ => ⟨σ', H', I', k _ _ z⟩
theorem pie_mono {pins : List (Addr × Obj)} {Rr Rr' : It → Hp → Prop} (k : ∀ J H', Rr J H' → Rr' J H') {v : Value} {s : Shared} (h : PIE X pins σ a Rr v s) : PIE X pins σ a Rr' v s := by
  obtain ⟨it, fp, tn, J, H', h1, h2, h3, h4, h5, h6⟩ := h
  exact ⟨it, fp, tn, J, H', h1, h2, h3, h4, h5, k _ _ h6⟩
theorem semI_mono {Rr Rr' : It → Hp → Prop} (q : tSemI X a e σ H Rr) (k : ∀ J H', Rr J H' → Rr' J H') : tSemI X a e σ H Rr' := fun pins s I => thn (q pins s I) fun _ _ z => thn z fun _ _ y => pie_mono k y

def DS (X : Cx) (G : Ctx) (st : Stmt) (t : DTS) : Prop := ∀ (F : Hp) (O : Addr → Option OC) (σ : L2.St) (H : Hp) (δ : DSt) (D : DEnds), R X.K G F O σ H δ → t D δ → tSemS X st (Lnk X.K G F D) σ H
def DSs (X : Cx) (G : Ctx) (st : List Stmt) (t : DTS) : Prop := ∀ (F : Hp) (O : Addr → Option OC) (σ : L2.St) (H : Hp) (δ : DSt) (D : DEnds), R X.K G F O σ H δ → t D δ → tSemSs X st (Lnk X.K G F D) σ H
theorem LnkS.back {K : PySem.W.Frag} {F F' : Hp} {q : DSt → Prop} {σ : L2.St} {H : Hp} (e : Ext F F') (h : LnkS K G F' q σ H) : LnkS K G F q σ H := by
  obtain ⟨F2, O2, δ2, e2, r2, q2⟩ := h
  exact ⟨F2, O2, δ2, e.trans e2, r2, q2⟩
theorem Lnk.le {K : PySem.W.Frag} {F F' : Hp} {D : DEnds} (e : Ext F F') : Ends.Le (Lnk K G F' D) (Lnk K G F D) :=
  ⟨fun _ _ h => h.back e, fun _ _ ⟨F2, O2, σ2, δ2, d, e2, r2, h2, q2⟩ => ⟨F2, O2, σ2, δ2, d, e.trans e2, r2, h2, q2⟩, fun _ _ h => h.back e, fun _ _ h => h.back e⟩
def dNext : DTS := fun D δ => D.nx δ
def dSeq (t u : DTS) : DTS := fun D δ => t { D with nx := u D } δ
variable {t1 t2 : DTS}
theorem dss_nil : DSs X G [] dNext := fun F O σ H δ D rr q => semSs_of pss_nil ⟨F, O, δ, Ext.refl F, rr, q⟩
theorem dss_cons (h1 : DS X G st t1) (h2 : DSs X G sts t2) : DSs X G (st :: sts) (dSeq t1 t2) := fun F O σ H δ D rr q => by
  refine semSs_of (pss_cons ps_sem pss_sem) (semS_le (h1 F O σ H δ _ rr q) ⟨fun σ' H' h => ?_, fun _ _ h => h, fun _ _ h => h, fun _ _ h => h⟩)
  obtain ⟨F2, O2, δ2, e2, r2, q2⟩ := h
  exact semSs_le (h2 F2 O2 σ' H' δ2 D r2 q2) (Lnk.le e2)
theorem dss_one (h1 : DS X G st t1) : DSs X G [st] t1 := fun F O σ H δ D rr q => semSs_of (pss_one ps_sem) (h1 F O σ H δ D rr q)
def dBrk : DTS := fun D δ => D.bk δ
def dCnt : DTS := fun D δ => D.ct δ
theorem ds_pass : DS X G (.Pass pos) dNext := fun F O σ H δ D rr q => semS_of ps_pass ⟨F, O, δ, Ext.refl F, rr, q⟩
theorem ds_break : DS X G (.Break pos) dBrk := fun F O σ H δ D rr q => semS_of ps_break ⟨F, O, δ, Ext.refl F, rr, q⟩
theorem ds_continue : DS X G (.Continue pos) dCnt := fun F O σ H δ D rr q => semS_of ps_continue ⟨F, O, δ, Ext.refl F, rr, q⟩
def dDrop (t : DE) : DTS := fun D δ => t δ fun _ δ1 => D.nx δ1
theorem ds_expr (h : DX X G e t) (hs : swapsWith e none pos.line X.env = pure false := by rfl) : DS X G (.Expr e pos) (dDrop t) := fun F O σ H δ D rr q =>
  semS_of (ps_expr pe_sem hs) (sem_mono (h F O σ H δ _ rr q) fun v H1 ⟨F1, O1, δ1, av, e1, r1, s1, h1, q1⟩ => ⟨F1, O1, δ1, e1, r1, q1⟩)
def dRet (t : DE) : DTS := fun D δ => t δ fun av δ1 => toD av δ1 fun d _ => D.rt d
theorem ds_ret (h : DX X G e t) : DS X G (.Return (some e) pos) (dRet t) := fun F O σ H δ D rr q => by
  refine semS_of (ps_ret pe_sem) (sem_mono (h F O σ H δ _ rr q) fun v H1 ⟨F1, O1, δ1, av, e1, r1, s1, h1, q1⟩ => ?_)
  obtain ⟨F2, O2, δ2, d, e2, r2, s2, h2, q2⟩ := r1.toD h1 q1
  exact ⟨F2, O2, σ, δ2, d, e1.trans e2, r2, h2, q2⟩
def dRetN : DTS := fun D _ => D.rt .none
theorem ds_retN : DS X G (.Return none pos) dRetN := fun F O σ H δ D rr q => semS_of ps_retN ⟨F, O, σ, δ, .none, Ext.refl F, rr, .non, q⟩
def dIfS (tc : DB) (t u : DTS) : DTS := fun D δ => tc δ fun b δ1 => (b = true → t D δ1) ∧ (b = false → u D δ1)
theorem ds_if {s1 s2 : List Stmt} (hc : DT X G c tc) (h1 : DSs X G s1 t1) (h2 : DSs X G s2 t2) : DS X G (.If c s1 s2 pos) (dIfS tc t1 t2) := fun F O σ H δ D rr q => by
  refine semS_of (ps_if pt_sem pss_sem pss_sem) (semT_mono (hc F O σ H δ _ rr q) fun k H1 ⟨F1, O1, δ1, e1, r1, s1, q1⟩ => ?_)
  cases k with
  | true =>
    rw [if_pos rfl]
    exact semSs_le (h1 F1 O1 σ H1 δ1 D r1 (q1.1 rfl)) (Lnk.le e1)
  | false =>
    rw [if_neg Bool.false_ne_true]
    exact semSs_le (h2 F1 O1 σ H1 δ1 D r1 (q1.2 rfl)) (Lnk.le e1)
/-! ### while, for -/
def dWhN (tc : DB) (tb : DTS) (D : DEnds) : Nat → DSt → Prop
  | 0, _ => False
  | n + 1, δ => tc δ fun b δ1 => (b = true → tb { D with nx := dWhN tc tb D n, ct := dWhN tc tb D n, bk := D.nx } δ1) ∧ (b = false → D.nx δ1)
structure DWhile (tc : DB) (tb : DTS) (D : DEnds) (δ : DSt) : Prop where
  ex : ∃ n, dWhN tc tb D n δ
def dWh (tc : DB) (tb : DTS) : DTS := fun D δ => DWhile tc tb D δ
theorem ds_while {body : List Stmt} {tb : DTS} (hp : PassesOwn (model X.prog X.w) X.A X.env X.xe) (hc : DT X G c tc) (hb : DSs X G body tb) : DS X G (.While c body [] pos) (dWh tc tb) := fun F O σ H δ D rr ⟨n, q⟩ => by
  refine semS_of (ps_while hp pt_sem pss_sem) ?_
  refine ⟨fun m σ' H' => LnkS X.K G F (dWhN tc tb D m) σ' H', ⟨n, F, O, δ, Ext.refl F, rr, q⟩, fun m σ' H' ⟨F1, O1, δ1, e1, r1, q1⟩ => ?_⟩
  cases m with
  | zero => exact q1.elim
  | succ m =>
    refine semT_mono (hc F1 O1 σ' H' δ1 _ r1 q1) fun k H2 ⟨F2, O2, δ2, e2, r2, s2, q2⟩ => ?_
    cases k with
    | true =>
      rw [if_pos rfl]
      refine ⟨fun σ' H' => LnkS X.K G F (dWhN tc tb D m) σ' H', fun σ3 H3 h => ⟨m, Nat.lt_succ_self m, h⟩, ?_⟩
      exact semSs_le (hb F2 O2 σ' H2 δ2 _ r2 (q2.1 rfl)) (Lnk.le (D := { D with nx := dWhN tc tb D m, ct := dWhN tc tb D m, bk := D.nx }) (e1.trans e2))
    | false =>
      rw [if_neg Bool.false_ne_true]
      exact ⟨F2, O2, δ2, e1.trans e2, r2, q2.2 rfl⟩
abbrev DIt := DSt → (List D → DSt → Prop) → Prop
abbrev DTg := D → DSt → (DSt → Prop) → Prop
def Walks (K : PySem.W.Frag) (G : Ctx) (J : It) (F : Hp) (items : List D) : Prop := ∀ (i : Nat) (F2 : Hp) (O2 : Addr → Option OC) (σ2 : L2.St) (H2 : Hp) (δ2 : DSt), Ext F F2 → R K G F2 O2 σ2 H2 δ2 →
  (items.length ≤ i → J.stop i H2) ∧ ∀ d, items[i]? = some d → J.go i H2 ∧ ∀ x H3, J.yld i H2 x H3 → ∃ F3, Ext F2 F3 ∧ R K G F3 O2 σ2 H3 δ2 ∧ Dp K F3 x d
def DI (X : Cx) (G : Ctx) (tg iter : Expr) (it : DIt) : Prop := ∀ (F : Hp) (O : Addr → Option OC) (σ : L2.St) (H : Hp) (δ : DSt) (Q : List D → DSt → Prop), R X.K G F O σ H δ → it δ Q →
  tSemI X tg iter σ H fun J H' => ∃ F' O' δ' items, Ext F F' ∧ R X.K G F' O' σ H' δ' ∧ Stp σ O δ O' δ' ∧ Walks X.K G J F' items ∧ Q items δ'
def DG (X : Cx) (G : Ctx) (tg : Expr) (js : List Nat) (g : DTg) : Prop := ∀ (F : Hp) (O : Addr → Option OC) (σ : L2.St) (H : Hp) (δ : DSt) (v : V) (d : D) (Q : DSt → Prop), R X.K G F O σ H δ → Dp X.K F v d → g d δ Q →
  tSemG X tg v σ H fun σ' H' => ∃ F' δ', Ext F F' ∧ R X.K G F' O σ' H' δ' ∧ (σ'.length = σ.length ∧ ∀ i, i ∉ js → σ'[i]? = σ[i]? ∧ δ'[i]? = δ[i]?) ∧ (∀ i ∈ js, ∀ c, δ'[i]? ≠ some (.own c)) ∧ Q δ'
def forWp (g : DTg) (tb : DTS) (Z : DEnds) : List D → DSt → Prop
  | [], δ => Z.nx δ
  | d :: ds, δ => g d δ fun δ1 => tb { Z with nx := forWp g tb Z ds, ct := forWp g tb Z ds, bk := Z.nx } δ1
def dFor (it : DIt) (g : DTg) (tb : DTS) : DTS := fun D δ => it δ fun items δ1 => forWp g tb D items δ1
theorem ds_for {tg iter : Expr} {it : DIt} {js : List Nat} {g : DTg} {body : List Stmt} {tb : DTS} (hp : PassesOwn (model X.prog X.w) X.A X.env X.xe) (hi : DI X G tg iter it) (hg : DG X G tg js g) (hb : DSs X G body tb) (hc : X.calm = true := by rfl) (hs : ∀ x, foldedSetIterable iter X.env x = pure x := by intro _; rfl) :
    DS X G (.For tg iter body [] pos) (dFor it g tb) := fun F O σ H δ D rr q => by
  refine semS_of (ps_for hp hc pi_sem pg_sem pss_sem hs) ?_
  refine semI_mono (hi F O σ H δ _ rr q) fun J H1 ⟨F1, O1, δ1, items, e1, r1, s1, wk, q1⟩ => ?_
  refine ⟨fun i m σ' H' => i ≤ items.length ∧ m = items.length - i ∧ LnkS X.K G F1 (forWp g tb D (items.drop i)) σ' H', ⟨items.length, Nat.zero_le _, rfl, F1, O1, δ1, Ext.refl F1, r1, q1⟩, fun i m σ' H' ⟨hi, hm, F2, O2, δ2, e2, r2, q2⟩ => ?_⟩
  have w := wk i F2 O2 σ' H' δ2 e2 r2
  by_cases hlt : i < items.length
  · obtain ⟨d, hd⟩ : ∃ d, items[i]? = some d := ⟨_, List.getElem?_eq_getElem hlt⟩
    obtain ⟨go, hy⟩ := w.2 d hd
    have hdrop : items.drop i = d :: items.drop (i + 1) := by
      rw [List.drop_eq_getElem_cons hlt]
      rw [List.getElem?_eq_getElem hlt] at hd
      cases hd
      rfl
    rw [hdrop] at q2
    refine .inr ⟨go, fun σ' H' => LnkS X.K G F1 (forWp g tb D (items.drop (i + 1))) σ' H', fun σ3 H3 h => ⟨items.length - (i + 1), by omega, hlt, rfl, h⟩, fun x H3 y => ?_⟩
    obtain ⟨F3, e3, r3, dp⟩ := hy x H3 y
    refine semG_mono (hg F3 O2 σ' H3 δ2 x d _ r3 dp q2) fun σ4 H4 ⟨F4, δ4, e4, r4, _, _, q4⟩ => ?_
    refine semSs_le (hb F4 O2 σ4 H4 δ4 _ r4 q4) ?_
    have ee := (e2.trans e3).trans e4
    exact ⟨fun _ _ h => h.back ee, fun _ _ ⟨F2, O2, σ2, δ2, d, a2, b2, c2, d2⟩ => ⟨F2, O2, σ2, δ2, d, (e1.trans ee).trans a2, b2, c2, d2⟩, fun _ _ h => h.back (e1.trans ee), fun _ _ h => h.back ee⟩
  · have e : i = items.length := by omega
    subst e
    rw [List.drop_length] at q2
    exact .inl ⟨w.1 (Nat.le_refl _), F2, O2, δ2, e1.trans e2, r2, q2⟩
/-! ### targets, stores -/
def gSet (i : Nat) : DTg := fun d δ Q => withSet δ i (.dat d) Q
theorem dg_name (i : Nat) {x : Str} (hN : X.N.Nodup) (hi : X.N[i]? = some x := by rfl) (hx : Loc X.env.scope x := by first | exact Or.inl rfl | exact Or.inr rfl) (hf : X.fn x = true ∨ X.env.scope.names.lookup x = some .local := by first | exact .inl rfl | exact .inr rfl | assumption) : DG X G (.Name x pos) [i] (gSet i) := fun F O σ H δ v d Q rr h q =>
  semG_of (pg_name hN hi hx hf) ⟨F, δ.set i (.dat d), Ext.refl F, rr.setDat h, ⟨List.length_set .., fun j hj => by
    have z : i ≠ j := fun z => hj (by simp [z])
    exact ⟨List.getElem?_set_ne z, List.getElem?_set_ne z⟩⟩, (fun j hj c h => by
      have z : j = i := by simpa using hj
      subst z
      have hi := (List.getElem?_eq_some_iff.mp h).1
      rw [List.length_set] at hi
      rw [List.getElem?_set_self hi] at h
      cases h), (by unfold gSet at q; rw [withSet_eq] at q; exact q)⟩
end
end DL
set_option Elab.async false
set_option linter.all false
set_option maxRecDepth 100000
set_option maxHeartbeats 2000000
/-! targets, stores, comprehensions, what is walked -/
namespace DL
open PySem L2
section
variable {X : Cx} {G : Ctx} {e a b c : Expr} {es rest : List Expr} {t ta tb : DE} {tc tc' : DB} {σ : L2.St} {H : Hp} {pos p : Pos} {tas : DAs} {st : Stmt} {sts : List Stmt}
/-! ### several targets -/
abbrev DTgs := List D → DSt → (DSt → Prop) → Prop
def tSemGs (X : Cx) (tgs : List Expr) : TGs := fun vs σ H Q => ∀ (pins : List (Addr × Obj)) (s : Shared) (us : List Value), Inv X pins σ H s → Vals vs us →
  wpAny (model X.prog X.w) X.A (assignInOrder ((assignEach tgs X.env).map (·.2)) us) (fun _ s' => ∃ σ' H', Inv X pins σ' H' s' ∧ Q σ' H') X.xe s
theorem pgs_sem {tgs : List Expr} : PGs X tgs (tSemGs X tgs) := ⟨fun pins s σ H vs us Q I r h => h pins s us I r⟩
theorem semGs_of {tgs : List Expr} {tg : TGs} {vs : List V} {Q : L2.St → Hp → Prop} (h : PGs X tgs tg) (q : tg vs σ H Q) : tSemGs X tgs vs σ H Q := fun pins s us I r => h.run pins s σ H vs us Q I r q
theorem semGs_mono {tgs : List Expr} {vs : List V} {Q Q' : L2.St → Hp → Prop} (q : tSemGs X tgs vs σ H Q) (k : ∀ σ' H', Q σ' H' → Q' σ' H') : tSemGs X tgs vs σ H Q' := fun pins s us I r => thn (q pins s us I r) fun _ _ ⟨σ', H', I', z⟩ => ⟨σ', H', I', k _ _ z⟩
def DGs (X : Cx) (G : Ctx) (tgs : List Expr) (js : List Nat) (g : DTgs) : Prop := ∀ (F : Hp) (O : Addr → Option OC) (σ : L2.St) (H : Hp) (δ : DSt) (vs : List V) (ds : List D) (Q : DSt → Prop), R X.K G F O σ H δ → DpAll X.K F vs ds → g ds δ Q →
  tSemGs X tgs vs σ H fun σ' H' => ∃ F' δ', Ext F F' ∧ R X.K G F' O σ' H' δ' ∧ (σ'.length = σ.length ∧ ∀ i, i ∉ js → σ'[i]? = σ[i]? ∧ δ'[i]? = δ[i]?) ∧ (∀ i ∈ js, ∀ c, δ'[i]? ≠ some (.own c)) ∧ Q δ'
def gsNil : DTgs := fun ds δ Q => match ds with
  | [] => Q δ
  | _ => False
def gsCons (g : DTg) (gs : DTgs) : DTgs := fun ds δ Q => match ds with
  | d :: r => g d δ fun δ1 => gs r δ1 Q
  | [] => False
theorem dgs_nil : DGs X G [] [] gsNil := fun F O σ H δ vs ds Q rr h q => by
  cases h with
  | nil => exact semGs_of pgs_nil ⟨rfl, F, δ, Ext.refl F, rr, ⟨rfl, fun _ _ => ⟨rfl, rfl⟩⟩, fun _ z => absurd z (by simp), q⟩
  | cons _ _ => exact q.elim
theorem dgs_cons {js js' : List Nat} {g : DTg} {gs : DTgs} {tgs : List Expr} (h1 : DG X G e js g) (h2 : DGs X G tgs js' gs) (hs : (assignEach (e :: tgs) X.env).map (·.2) = assign e X.env :: (assignEach tgs X.env).map (·.2) := by rfl) : DGs X G (e :: tgs) (js ++ js') (gsCons g gs) := fun F O σ H δ vs ds Q rr h q => by
  cases h with
  | nil => exact q.elim
  | cons hd ht =>
    rename_i v vs d ds
    refine semGs_of (pgs_cons pg_sem pgs_sem hs) ⟨v, vs, rfl, semG_mono (h1 F O σ H δ v d _ rr hd q) fun σ1 H1 ⟨F1, δ1, e1, r1, k1, n1, q1⟩ => ?_⟩
    refine semGs_mono (h2 F1 O σ1 H1 δ1 vs ds Q r1 (e1.all ht) q1) fun σ2 H2 ⟨F2, δ2, e2, r2, k2, n2, q2⟩ => ⟨F2, δ2, e1.trans e2, r2, ⟨k2.1.trans k1.1, fun i hi => ?_⟩, fun i hi c z => ?_, q2⟩
    · have h1 : i ∉ js := fun z => hi (List.mem_append_left _ z)
      have h2 : i ∉ js' := fun z => hi (List.mem_append_right _ z)
      exact ⟨(k2.2 i h2).1.trans (k1.2 i h1).1, (k2.2 i h2).2.trans (k1.2 i h1).2⟩
    · by_cases h2 : i ∈ js'
      · exact n2 i h2 c z
      · rw [(k2.2 i h2).2] at z
        exact n1 i ((List.mem_append.mp hi).resolve_right h2) c z
def gTupD (gs : DTgs) (n : Nat) : DTg := fun d δ Q => match d with
  | .tuple ds => ds.length = n ∧ gs ds δ Q
  | _ => False
theorem dg_tup {js : List Nat} {gs : DTgs} {tgs : List Expr} {k n : Nat} (h : DGs X G tgs js gs) (hc : X.calm = true := by rfl) (hn : (assignEach tgs X.env).length = n := by rfl) (hst : (assignEach tgs X.env).findIdx? (·.1) = none := by rfl) : DG X G (.Tuple tgs k pos) js (gTupD gs n) := fun F O σ H δ v d Q rr hd q => by
  cases d with
  | tuple ds =>
    cases hd with
    | tup hs ha => exact semG_of (pg_tup hc pgs_sem hn hst) ⟨_, _, rfl, rr.ext.sqt hs, ha.len.trans q.1, h F O σ H δ _ ds Q rr ha q.2⟩
  | _ => exact q.elim
/-! ### stores -/
def dAsg (t : DE) (g : DTg) : DTS := fun N δ => t δ fun av δ1 => toD av δ1 fun d δ2 => g d δ2 N.nx
theorem ds_asg {tg : Expr} {js : List Nat} {g : DTg} (h : DX X G e t) (hg : DG X G tg js g) (hs : swapsWithSole [tg] e pos.line X.env = pure false := by rfl) (hw : swappedStores [tg] e X.env = pure none := by rfl)
    (h1 : (assignEach [tg] X.env).map (·.2) = [assign tg X.env] := by rfl) : DS X G (.Assign [tg] e pos) (dAsg t g) := fun F O σ H δ N rr q => by
  refine semS_of (ps_asg pe_sem pg_sem hs hw h1) (sem_mono (h F O σ H δ _ rr q) fun v H1 ⟨F1, O1, δ1, av, e1, r1, s1, h1, q1⟩ => ?_)
  obtain ⟨F2, O2, δ2, d, e2, r2, s2, h2, q2⟩ := r1.toD h1 q1
  exact semG_mono (hg F2 O2 σ H1 δ2 v d _ r2 h2 q2) fun σ3 H3 ⟨F3, δ3, e3, r3, _, _, q3⟩ => ⟨F3, O2, δ3, (e1.trans e2).trans e3, r3, q3⟩
/-- name = e: data is frozen, a value as it is stays -/
def dSet (i : Nat) (t : DE) : DTS := fun N δ => t δ fun av δ1 => match av with
  | .raw v => withSet δ1 i (.raw v) N.nx
  | .dat d => withSet δ1 i (.dat d) N.nx
  | .bor j => toD (.bor j) δ1 fun d δ2 => withSet δ2 i (.dat d) N.nx
theorem ds_set (i : Nat) {x : Str} {pos' : Pos} (hN : X.N.Nodup) (h : DX X G e t) (hi : X.N[i]? = some x := by rfl) (hx : Loc X.env.scope x := by first | exact Or.inl rfl | exact Or.inr rfl) (hs : swapsWith e (some (.Name x pos')) pos.line X.env = pure false := by rfl) (hf : X.fn x = true ∨ X.env.scope.names.lookup x = some .local := by first | exact .inl rfl | exact .inr rfl | assumption) :
    DS X G (.Assign [.Name x pos'] e pos) (dSet i t) := fun F O σ H δ N rr q => by
  refine semS_of (ps_set hN hi hx pe_sem hs hf) (sem_mono (h F O σ H δ _ rr q) fun v H1 ⟨F1, O1, δ1, av, e1, r1, s1, h1, q1⟩ => ?_)
  cases av with
  | raw w =>
    cases (show v = w from h1)
    exact ⟨F1, O1, _, e1, r1.setRaw, withSet_ok q1⟩
  | dat d => exact ⟨F1, O1, _, e1, r1.setDat h1, withSet_ok q1⟩
  | bor j =>
    obtain ⟨F2, O2, δ2, d, e2, r2, s2, h2, q2⟩ := r1.toD h1 q1
    exact ⟨F2, O2, _, e1.trans e2, r2.setDat h2, withSet_ok q2⟩
/-- name = a new list, to be changed -/
def dOwn (i : Nat) (t : DNw) : DTS := fun N δ => t δ fun c δ1 => withSet δ1 i (.own c) N.nx
theorem ds_own (i : Nat) {x : Str} {t : DNw} {pos' : Pos} (hN : X.N.Nodup) (h : DN X G e t) (hi : X.N[i]? = some x := by rfl) (hx : Loc X.env.scope x := by first | exact Or.inl rfl | exact Or.inr rfl) (hs : swapsWith e (some (.Name x pos')) pos.line X.env = pure false := by rfl) (hf : X.fn x = true ∨ X.env.scope.names.lookup x = some .local := by first | exact .inl rfl | exact .inr rfl | assumption) :
    DS X G (.Assign [.Name x pos'] e pos) (dOwn i t) := fun F O σ H δ N rr q => by
  refine semS_of (ps_set hN hi hx pe_sem hs hf) (sem_mono (h F O σ H δ _ rr q) fun v H1 ⟨F1, O1, δ1, p, ho, c, e1, r1, s1, ev, l, hc, q1⟩ => ?_)
  subst ev
  exact ⟨F1, _, _, e1, r1.setOwn l hc, withSet_ok q1⟩
/-- x, y = e1, e2 (two names) -/
def dPar (i j : Nat) (tas : DAs) : DTS := fun N δ => tas δ fun as δ1 => toDs as δ1 fun ds δ2 => match ds with
  | [x, y] => withSet δ2 i (.dat x) fun δ3 => withSet δ3 j (.dat y) N.nx
  | _ => False
theorem ds_par (i j : Nat) {x y : Str} {px py pt : Pos} {kt k2 pt2} (hN : X.N.Nodup) (ha : DA X G [a, b] tas) (hi : X.N[i]? = some x := by rfl) (hj : X.N[j]? = some y := by rfl) (hij : i ≠ j := by decide) (hx : X.env.scope.names.lookup x = some .local := by rfl) (hy : X.env.scope.names.lookup y = some .local := by rfl)
    (hw : swappedStores [.Tuple [.Name x px, .Name y py] kt pt] (.Tuple [a, b] k2 pt2) X.env = pure (some [x, y]) := by rfl) (hs : swapsWithSole [.Tuple [.Name x px, .Name y py] kt pt] (.Tuple [a, b] k2 pt2) pos.line X.env = pure false := by rfl) (hc : X.calm = true := by rfl) :
    DS X G (.Assign [.Tuple [.Name x px, .Name y py] kt pt] (.Tuple [a, b] k2 pt2) pos) (dPar i j tas) := fun F O σ H δ N rr q => by
  refine semS_of (ps_par hc hN hi hj hij hx hy pa_sem hw hs) (semA_mono (ha F O σ H δ _ rr q) fun vs H1 ⟨F1, O1, δ1, as, e1, r1, s1, h1, q1⟩ => ?_)
  obtain ⟨F2, O2, δ2, ds, e2, r2, s2, h2, q2⟩ := r1.toDs h1 q1
  match ds, vs, h2, q2 with
  | [dx, dy], _, .cons hx (.cons hy .nil), q2 => exact ⟨_, _, rfl, F2, O2, _, e1.trans e2, (r2.setDat hx).setDat hy, by have q3 := q2; simp only [withSet_eq] at q3; exact q3⟩
/-- name op= e -/
def dAug (i : Nat) (f : F2) (t : DE) : DTS := fun N δ => match δ[i]? with
  | some (.dat d) => t δ fun av δ1 => one δ1 av fun e => f d e fun z => withSet δ1 i (.dat z) N.nx
  | _ => False
def DIp (K : PySem.W.Frag) (r : TIp) (f : F2) : Prop := DOp K r f
theorem ds_aug (i : Nat) {x : Str} {op : Operator} {r : TIp} {f : F2} {pos' : Pos} (hN : X.N.Nodup) (ho : PIp X op r) (hd : DOp X.K r f) (h : DX X G e t) (hi : X.N[i]? = some x := by rfl) (hx : Loc X.env.scope x := by first | exact Or.inl rfl | exact Or.inr rfl) (hf : X.fn x = true ∨ X.env.scope.names.lookup x = some .local := by first | exact .inl rfl | exact .inr rfl | assumption) :
    DS X G (.AugAssign (.Name x pos') op e pos) (dAug i f t) := fun F O σ H δ N rr q => by
  unfold dAug at q
  split at q
  · rename_i d hs
    obtain ⟨o, hσ, w, e0, hw⟩ := rr.slot_at hs
    subst e0
    refine semS_of (ps_aug hN hi hx pe_sem ho hf) ⟨w, hσ, sem_mono (h F O σ H δ _ rr q) fun v H1 ⟨F1, O1, δ1, av, e1, r1, s1, h1, q1⟩ => ?_⟩
    change (match rs δ1 av with | some e => f d e (fun z => withSet δ1 i (.dat z) N.nx) | none => False) at q1
    simp only [withSet_eq] at q1
    split at q1
    · rename_i d2 hd2
      refine hd G F1 O1 σ H1 δ1 w v d d2 (fun av δ' => match av with | .dat z => N.nx (δ'.set i (.dat z)) | _ => False) _ r1 (.inl (e1.dp hw)) (r1.shal h1 hd2) q1 fun z H2 ⟨F2, O2, δ2, av2, e2, r2, s2, h2, q2⟩ => ?_
      cases av2 with
      | dat z => exact ⟨F2, O2, _, e1.trans e2, r2.setDat h2, q2⟩
      | raw _ => exact q2.elim
      | bor _ => exact q2.elim
    · exact q1.elim
  · exact q.elim
/-! ### what is walked -/
def dSeqI (t : DE) : DIt := fun δ Q => t δ fun av δ1 => toD av δ1 fun d δ2 => match d with
  | .list ds => Q ds δ2
  | .tuple ds => Q ds δ2
  | .str s => Q (s.cps.toList.map fun c => .str ⟨#[c]⟩) δ2
  | _ => False
def iSeq (K : PySem.W.Frag) (te : TE) : TI := fun σ H Rr => te σ H fun v H1 => (∃ a, v = .ref a ∧ (∃ xs, SqL K H1 a xs) ∧ Rr (Itl K a) H1) ∨ (∃ a, v = .ref a ∧ (∃ xs, SqT K H1 a xs) ∧ Rr (Itt K a) H1) ∨ ∃ x, v = .str x ∧ Rr (Its x) H1
theorem pi_seq {tg : Expr} {te : TE} (he : PE X e te) : PI X tg e (iSeq X.K te) := by
  refine ⟨fun pins s σ H Rr I h => ?_⟩
  refine thn (he.run pins s σ H _ I h) fun v s1 ⟨x, H1, I1, r1, q1⟩ => ?_
  rcases q1 with ⟨a, e, ⟨xs, hq⟩, q⟩ | ⟨a, e, ⟨xs, hq⟩, q⟩ | ⟨x, ex, q⟩
  · subst e
    cases r1
    obtain ⟨its, rv, p, hz⟩ := I1.list hq
    refine wpAny_pyIter_list p.isList ?_
    refine ⟨s1.heap.objs.size, [s1.heap.objs.size], _, _, H1, rfl, I1.kept (t' := s1.toks) fun b o e => Heap.get?_push_of_some _ e, turn_list a _, ⟨_, Heap.get?_push_size _ rfl, rfl, rfl⟩, fun b hb => ?_, q⟩
    have e : b = s1.heap.objs.size := by simpa using hb
    subst e
    exact I1.fpOk (Nat.le_refl _) (I1.hok.fresh (Nat.le_refl _))
  · subst e
    cases r1
    obtain ⟨its, rv, p, hz⟩ := I1.tuple hq
    refine wpAny_pyIter_tuple (show s1.heap.IsTuple a its.toArray from p) ?_
    refine ⟨s1.heap.objs.size, [s1.heap.objs.size], _, _, H1, rfl, I1.kept (t' := s1.toks) fun b o e => Heap.get?_push_of_some _ e, turn_tuple a _, ⟨_, Heap.get?_push_size _ rfl, rfl, rfl⟩, fun b hb => ?_, q⟩
    have e : b = s1.heap.objs.size := by simpa using hb
    subst e
    exact I1.fpOk (Nat.le_refl _) (I1.hok.fresh (Nat.le_refl _))
  · subst ex
    obtain ⟨t, rfl⟩ := r1
    cases ha : x.cps.all (· < 128)
    · exact wpAny_pyIter_wide ha (pi_one (tk := s1.toks) I1 _ (turn_str _ x t "str_iterator" (.inr rfl)) ⟨_, Heap.get?_push_size _ rfl, rfl, rfl⟩ q)
    · exact wpAny_pyIter_ascii ha (pi_one (tk := s1.toks) I1 _ (turn_str _ x t "str_ascii_iterator" (.inl rfl)) ⟨_, Heap.get?_push_size _ rfl, rfl, rfl⟩ q)
theorem di_seq {tg : Expr} (h : DX X G e t) : DI X G tg e (dSeqI t) := fun F O σ H δ Q rr q => by
  refine semI_of (pi_seq pe_sem) (sem_mono (h F O σ H δ _ rr q) fun v H1 ⟨F1, O1, δ1, av, e1, r1, s1, h1, q1⟩ => ?_)
  obtain ⟨F2, O2, δ2, d, e2, r2, s2, h2, q2⟩ := r1.toD h1 q1
  cases d with
  | list ds =>
    cases h2 with
    | @lst l xs _ hs ha =>
      refine .inl ⟨l, rfl, ⟨xs, r2.ext.sql hs⟩, F2, O2, δ2, ds, e1.trans e2, r2, s1.trans s2, fun i F3 O3 σ3 H3 δ3 e3 r3 => ⟨fun hi => ⟨xs, (e3.trans r3.ext).sql hs, by rw [ha.len]; exact hi⟩, fun d hd => ?_⟩, q2⟩
      obtain ⟨z, hz, dz⟩ := ha.get hd
      refine ⟨⟨xs, z, (e3.trans r3.ext).sql hs, hz⟩, fun x H4 ⟨e4, hx⟩ => ?_⟩
      subst e4
      have := hx xs ((e3.trans r3.ext).sql hs)
      rw [hz] at this
      cases this
      exact ⟨F3, Ext.refl F3, r3, e3.dp dz⟩
  | tuple ds =>
    cases h2 with
    | @tup l xs _ hs ha =>
      refine .inr (.inl ⟨l, rfl, ⟨xs, r2.ext.sqt hs⟩, F2, O2, δ2, ds, e1.trans e2, r2, s1.trans s2, fun i F3 O3 σ3 H3 δ3 e3 r3 => ⟨fun hi => ⟨xs, (e3.trans r3.ext).sqt hs, by rw [ha.len]; exact hi⟩, fun d hd => ?_⟩, q2⟩)
      obtain ⟨z, hz, dz⟩ := ha.get hd
      refine ⟨⟨xs, z, (e3.trans r3.ext).sqt hs, hz⟩, fun x H4 ⟨e4, hx⟩ => ?_⟩
      subst e4
      have := hx xs ((e3.trans r3.ext).sqt hs)
      rw [hz] at this
      cases this
      exact ⟨F3, Ext.refl F3, r3, e3.dp dz⟩
  | str s =>
    cases h2
    refine .inr (.inr ⟨s, rfl, F2, O2, δ2, _, e1.trans e2, r2, s1.trans s2, fun i F3 O3 σ3 H3 δ3 e3 r3 => ⟨fun hi => (show s.cps.size ≤ i by simpa using hi), fun d hd => ?_⟩, q2⟩)
    rw [List.getElem?_map] at hd
    cases hc : s.cps.toList[i]? with
    | none => rw [hc] at hd; cases hd
    | some cc =>
      rw [hc] at hd
      cases hd
      have hc' : s.cps[i]? = some cc := by simpa using hc
      refine ⟨(Array.getElem?_eq_some_iff.mp hc').1, fun x H4 ⟨e4, c2, hx, ex⟩ => ?_⟩
      subst e4
      subst ex
      rw [hc'] at hx
      cases hx
      exact ⟨F3, Ext.refl F3, r3, .str _⟩
  | _ => exact q2.elim
/-- lo, lo + c, .. (n of them) -/
def rngD (lo c : Int) (n : Nat) : List D := (List.range n).map fun (i : Nat) => PyData.int (lo + (i : Int) * c)
theorem rngD_get {lo c : Int} {n i : Nat} {d : D} (h : (rngD lo c n)[i]? = some d) : i < n ∧ d = .int (lo + (i : Int) * c) := by
  unfold rngD at h
  rw [List.getElem?_map] at h
  by_cases hi : i < n
  · rw [List.getElem?_range hi] at h
    exact ⟨hi, (Option.some.inj h).symm⟩
  · rw [List.getElem?_eq_none (by simp; omega)] at h
    cases h
theorem rngD_len (lo c : Int) (n : Nat) : (rngD lo c n).length = n := by unfold rngD; simp
def dRng1 (tas : DAs) : DIt := fun δ Q => tas δ fun as δ1 => match rss δ1 as with
  | some [.int j] => -(2 ^ 62) ≤ j ∧ j < 2 ^ 62 ∧ Q (rngD 0 1 j.toNat) δ1
  | _ => False
def dRng2 (tas : DAs) : DIt := fun δ Q => tas δ fun as δ1 => match rss δ1 as with
  | some [.int i, .int j] => (-(2 ^ 62) ≤ i ∧ i < 2 ^ 62 ∧ -(2 ^ 62) ≤ j ∧ j < 2 ^ 62) ∧ Q (rngD i 1 (j - i).toNat) δ1
  | _ => False
def dRng3 (tas : DAs) : DIt := fun δ Q => tas δ fun as δ1 => match rss δ1 as with
  | some [.int i, .int j, .int k] => ∃ n, RgC i j k n ∧ Q (rngD i k n) δ1
  | _ => False
theorem walks_rng {K : PySem.W.Frag} {lo : Int} {n : Nat} {F : Hp} : Walks K G (Itr lo n) F (rngD lo 1 n) := fun i F3 O3 σ3 H3 δ3 e3 r3 => ⟨fun hi => by rw [rngD_len] at hi; exact hi, fun d hd => by
  obtain ⟨h1, h2⟩ := rngD_get hd
  refine ⟨h1, fun x H4 ⟨e4, ex⟩ => ?_⟩
  subst e4; subst ex; subst h2
  exact ⟨F3, Ext.refl F3, r3, by rw [Int.mul_one]; exact .int _⟩⟩
theorem walks_rngC {K : PySem.W.Frag} {lo c : Int} {n : Nat} {F : Hp} : Walks K G (Itc lo c n) F (rngD lo c n) := fun i F3 O3 σ3 H3 δ3 e3 r3 => ⟨fun hi => by rw [rngD_len] at hi; exact hi, fun d hd => by
  obtain ⟨h1, h2⟩ := rngD_get hd
  refine ⟨h1, fun x H4 ⟨e4, ex⟩ => ?_⟩
  subst e4; subst ex; subst h2
  exact ⟨F3, Ext.refl F3, r3, .int _⟩⟩
theorem shal_int {K : PySem.W.Frag} {F H : Hp} {i : Int} {vs : List V} {ds : List D} (h : ShalAll K F H (.int i :: ds) vs) : ∃ ws, vs = .int i :: ws ∧ ShalAll K F H ds ws := by
  cases h with
  | cons h t => cases h.int; exact ⟨_, rfl, t⟩
theorem shal_nil {K : PySem.W.Frag} {F H : Hp} {vs : List V} (h : ShalAll K F H [] vs) : vs = [] := by cases h; rfl
theorem di_rng1 {tg : Expr} (h : DA X G [a] tas) (hm : X.mg "range" = none) (hg : Gl X "range" := by rfl) (hs : starEach [a] X.env = [(false, eval a X.env)] := by rfl) : DI X G tg (.Call (.Name "range" p) [a] [] pos) (dRng1 tas) := fun F O σ H δ Q rr q => by
  refine semI_of (pi_range1 hg hm pa_sem hs) (semA_mono (h F O σ H δ _ rr q) fun vs H1 ⟨F1, O1, δ1, as, e1, r1, s1, h1, q1⟩ => ?_)
  change (match rss δ1 as with | some [.int j] => -(2 ^ 62) ≤ j ∧ j < 2 ^ 62 ∧ Q (rngD 0 1 j.toNat) δ1 | _ => False) at q1
  split at q1
  · rename_i j hj
    obtain ⟨ws, e2, h2⟩ := shal_int (r1.shalAll h1 hj)
    cases shal_nil h2
    exact ⟨j, e2, q1.1, q1.2.1, F1, O1, δ1, _, e1, r1, s1, walks_rng, q1.2.2⟩
  · exact q1.elim
theorem di_rng2 {tg : Expr} (h : DA X G [a, b] tas) (hm : X.mg "range" = none) (hg : Gl X "range" := by rfl) (hs : starEach [a, b] X.env = [(false, eval a X.env), (false, eval b X.env)] := by rfl) (hs2 : starEach [b] X.env = [(false, eval b X.env)] := by rfl) : DI X G tg (.Call (.Name "range" p) [a, b] [] pos) (dRng2 tas) := fun F O σ H δ Q rr q => by
  refine semI_of (pi_range2 hg hm pa_sem hs hs2) (semA_mono (h F O σ H δ _ rr q) fun vs H1 ⟨F1, O1, δ1, as, e1, r1, s1, h1, q1⟩ => ?_)
  change (match rss δ1 as with | some [.int i, .int j] => (-(2 ^ 62) ≤ i ∧ i < 2 ^ 62 ∧ -(2 ^ 62) ≤ j ∧ j < 2 ^ 62) ∧ Q (rngD i 1 (j - i).toNat) δ1 | _ => False) at q1
  split at q1
  · rename_i i j hj
    obtain ⟨ws, e2, h2⟩ := shal_int (r1.shalAll h1 hj)
    obtain ⟨ws2, e3, h3⟩ := shal_int h2
    cases shal_nil h3
    subst e3
    exact ⟨i, j, e2, q1.1, F1, O1, δ1, _, e1, r1, s1, walks_rng, q1.2⟩
  · exact q1.elim
theorem di_rng3 {tg : Expr} (h : DA X G [a, b, c] tas) (hm : X.mg "range" = none) (hg : Gl X "range" := by rfl) (hs : starEach [a, b, c] X.env = (false, eval a X.env) :: starEach [b, c] X.env := by rfl) (hpl : (backTo pos (starEach [b, c] X.env)).any (·.1) = false := by rfl) : DI X G tg (.Call (.Name "range" p) [a, b, c] [] pos) (dRng3 tas) := fun F O σ H δ Q rr q => by
  refine semI_of (pi_range3 hg hm pa_sem hs hpl) (semA_mono (h F O σ H δ _ rr q) fun vs H1 ⟨F1, O1, δ1, as, e1, r1, s1, h1, q1⟩ => ?_)
  change (match rss δ1 as with | some [.int i, .int j, .int k] => ∃ n, RgC i j k n ∧ Q (rngD i k n) δ1 | _ => False) at q1
  split at q1
  · rename_i i j k hj
    obtain ⟨n, hn, q1⟩ := q1
    obtain ⟨ws, e2, h2⟩ := shal_int (r1.shalAll h1 hj)
    obtain ⟨ws2, e3, h3⟩ := shal_int h2
    obtain ⟨ws3, e4, h4⟩ := shal_int h3
    cases shal_nil h4
    subst e4; subst e3
    exact ⟨i, j, k, n, e2, hn, F1, O1, δ1, _, e1, r1, s1, walks_rngC, q1⟩
  · exact q1.elim
end
end DL
set_option Elab.async false
set_option linter.all false
set_option maxRecDepth 100000
set_option maxHeartbeats 2000000
/-! list comprehensions -/
namespace DL
open PySem L2
def wipeD (δ : DSt) : List Nat → DSt
  | [] => δ
  | v :: vs => (wipeD δ vs).set v .emp
def unwipe (δ1 δ2 : DSt) : List Nat → DSt
  | [] => δ2
  | v :: vs => match δ1[v]? with
    | some s => (unwipe δ1 δ2 vs).set v s
    | none => unwipe δ1 δ2 vs
theorem wipeD_len (δ : DSt) : ∀ vs : List Nat, (wipeD δ vs).length = δ.length
  | [] => rfl
  | v :: vs => by unfold wipeD; rw [List.length_set, wipeD_len δ vs]
theorem unwipe_len (δ1 δ2 : DSt) : ∀ vs : List Nat, (unwipe δ1 δ2 vs).length = δ2.length
  | [] => rfl
  | v :: vs => by
    unfold unwipe
    split
    · rw [List.length_set, unwipe_len δ1 δ2 vs]
    · exact unwipe_len δ1 δ2 vs
theorem wipeD_out {δ : DSt} {i : Nat} : ∀ {vs : List Nat}, i ∉ vs → (wipeD δ vs)[i]? = δ[i]?
  | [], _ => rfl
  | v :: vs, h => by
    have h1 : v ≠ i := fun e => h (by rw [e]; exact List.mem_cons_self)
    have h2 : i ∉ vs := fun m => h (List.mem_cons_of_mem _ m)
    unfold wipeD
    rw [List.getElem?_set_ne h1]
    exact wipeD_out h2
theorem wipeD_in {δ : DSt} {i : Nat} {s : SV} : ∀ {vs : List Nat}, i ∈ vs → (wipeD δ vs)[i]? = some s → s = .emp
  | v :: vs, h, e => by
    unfold wipeD at e
    by_cases z : v = i
    · subst z
      have hi := (List.getElem?_eq_some_iff.mp e).1
      rw [List.length_set] at hi
      rw [List.getElem?_set_self hi] at e
      exact (Option.some.inj e).symm
    · rw [List.getElem?_set_ne z] at e
      exact wipeD_in ((List.mem_cons.mp h).resolve_left (Ne.symm z)) e
theorem unwipe_out {δ1 δ2 : DSt} {i : Nat} : ∀ {vs : List Nat}, i ∉ vs → (unwipe δ1 δ2 vs)[i]? = δ2[i]?
  | [], _ => rfl
  | v :: vs, h => by
    have h1 : v ≠ i := fun e => h (by rw [e]; exact List.mem_cons_self)
    have h2 : i ∉ vs := fun m => h (List.mem_cons_of_mem _ m)
    unfold unwipe
    split
    · rw [List.getElem?_set_ne h1]
      exact unwipe_out h2
    · exact unwipe_out h2
theorem unwipe_in {δ1 δ2 : DSt} {i : Nat} {s : SV} (hl : δ1.length = δ2.length) : ∀ {vs : List Nat}, i ∈ vs → (unwipe δ1 δ2 vs)[i]? = some s → δ1[i]? = some s
  | v :: vs, h, e => by
    unfold unwipe at e
    by_cases z : v = i
    · subst z
      split at e
      · rename_i s' hs'
        have hi := (List.getElem?_eq_some_iff.mp e).1
        rw [List.length_set] at hi
        rw [List.getElem?_set_self hi] at e
        cases e
        exact hs'
      · rename_i hn
        have hi := (List.getElem?_eq_some_iff.mp e).1
        rw [unwipe_len, ← hl] at hi
        rw [List.getElem?_eq_getElem hi] at hn
        cases hn
    · have hm := (List.mem_cons.mp h).resolve_left (Ne.symm z)
      split at e
      · rw [List.getElem?_set_ne z] at e
        exact unwipe_in hl hm e
      · exact unwipe_in hl hm e
/-- the block's turns, one item after another -/
def lcWp0 (g : DTg) (tc : DB) (te : DE) (vs : List Nat) : List D → List D → DSt → (List D → DSt → Prop) → Prop
  | [], acc, δ, Q => Q acc δ
  | d :: ds, acc, δ, Q => g d δ fun δ1 => tc δ1 fun b δ2 => (b = true → te δ2 fun av δ3 => toD av δ3 fun y δ4 => acc.length < 100000 ∧ lcWp0 g tc te vs ds (acc ++ [y]) (wipeD δ4 vs) Q) ∧ (b = false → lcWp0 g tc te vs ds acc (wipeD δ2 vs) Q)
def dLc0 (it : DIt) (g : DTg) (tc : DB) (te : DE) (vs : List Nat) : DNw := fun δ Q => it δ fun items δ1 => (∀ i ∈ vs, ∀ c, δ1[i]? ≠ some (.own c)) ∧ lcWp0 g tc te vs items [] (wipeD δ1 vs) fun acc δ2 => Q (.lst acc) (unwipe δ1 δ2 vs)
def dYes : DB := fun δ Q => Q true δ
/-- the same, told cell by cell -/
def wipeK (δ : DSt) : List Nat → (DSt → Prop) → Prop
  | [], k => k δ
  | v :: vs, k => wipeK δ vs fun δ' => withSet δ' v .emp k
theorem wipeK_eq {δ : DSt} : ∀ {vs : List Nat} {k : DSt → Prop}, wipeK δ vs k = k (wipeD δ vs)
  | [], _ => rfl
  | v :: vs, k => by
    unfold wipeK wipeD
    rw [wipeK_eq, withSet_eq]
def unwipeK (δ1 δ2 : DSt) : List Nat → (DSt → Prop) → Prop
  | [], k => k δ2
  | v :: vs, k => match δ1[v]? with
    | some s => unwipeK δ1 δ2 vs fun δ' => withSet δ' v s k
    | none => unwipeK δ1 δ2 vs k
theorem unwipeK_eq {δ1 δ2 : DSt} : ∀ {vs : List Nat} {k : DSt → Prop}, unwipeK δ1 δ2 vs k = k (unwipe δ1 δ2 vs)
  | [], _ => rfl
  | v :: vs, k => by
    unfold unwipeK unwipe
    split
    · rw [unwipeK_eq, withSet_eq]
    · rw [unwipeK_eq]
def noOwnK (δ : DSt) : List Nat → Prop → Prop
  | [], k => k
  | v :: vs, k => match δ[v]? with
    | some (.own _) => False
    | _ => noOwnK δ vs k
theorem noOwnK_ok {δ : DSt} : ∀ {vs : List Nat} {k : Prop}, noOwnK δ vs k → (∀ i ∈ vs, ∀ c, δ[i]? ≠ some (.own c)) ∧ k
  | [], _, h => ⟨fun _ z => absurd z (by simp), h⟩
  | v :: vs, k, h => by
    unfold noOwnK at h
    split at h
    · exact h.elim
    · rename_i hn
      obtain ⟨h1, h2⟩ := noOwnK_ok h
      refine ⟨fun i hi c z => ?_, h2⟩
      rcases List.mem_cons.mp hi with e | hi
      · subst e
        exact hn c z
      · exact h1 i hi c z
def lcWp (g : DTg) (tc : DB) (te : DE) (vs : List Nat) : List D → List D → DSt → (List D → DSt → Prop) → Prop
  | [], acc, δ, Q => Q acc δ
  | d :: ds, acc, δ, Q => g d δ fun δ1 => tc δ1 fun b δ2 => (b = true → te δ2 fun av δ3 => toD av δ3 fun y δ4 => acc.length < 100000 ∧ wipeK δ4 vs fun δ5 => lcWp g tc te vs ds (acc ++ [y]) δ5 Q) ∧ (b = false → wipeK δ2 vs fun δ5 => lcWp g tc te vs ds acc δ5 Q)
theorem lcWp_eq {g : DTg} {tc : DB} {te : DE} {vs : List Nat} {Q : List D → DSt → Prop} : ∀ {ds acc : List D} {δ : DSt}, lcWp g tc te vs ds acc δ Q = lcWp0 g tc te vs ds acc δ Q
  | [], _, _ => rfl
  | d :: ds, acc, δ => by
    unfold lcWp lcWp0
    simp only [wipeK_eq, lcWp_eq]
def dLc (it : DIt) (g : DTg) (tc : DB) (te : DE) (vs : List Nat) : DNw := fun δ Q => it δ fun items δ1 => noOwnK δ1 vs (wipeK δ1 vs fun δw => lcWp g tc te vs items [] δw fun acc δ2 => unwipeK δ1 δ2 vs (Q (.lst acc)))
section
variable {K : PySem.W.Frag} {G : Ctx} {F : Hp} {O : Addr → Option OC} {σ σ2 : L2.St} {H : Hp} {δ δ2 : DSt}
/-- back to the wiped slots -/
theorem R.rewipe {vs : List Nat} (r : R K G F O σ2 H δ2) (hl : σ2.length = σ.length) (hk : ∀ i, i ∉ vs → σ2[i]? = (wipe σ vs)[i]?) : R K G F O (wipe σ vs) H (wipeD δ2 vs) := by
  have back : ∀ i a, isOwnAt (wipeD δ2 vs) (wipe σ vs) i a → isOwnAt δ2 σ2 i a := fun i a ⟨⟨c, h1⟩, h2⟩ => by
    by_cases z : i ∈ vs
    · cases wipeD_in z h1
    · rw [wipeD_out z] at h1
      rw [← hk i z] at h2
      exact ⟨⟨c, h1⟩, h2⟩
  refine r.slots (by rw [wipeD_len, wipe_length, r.len, hl]) (fun i s o h1 h2 => ?_) fun i j a hi hj => r.sep i j a (back i a hi) (back j a hj)
  by_cases z : i ∈ vs
  · cases wipeD_in z h1
    trivial
  · rw [wipeD_out z] at h1
    rw [← hk i z] at h2
    exact r.slot i s o h1 h2
end
section
variable {X : Cx} {G : Ctx} {elt tg iter e : Expr} {ifs : List Expr} {scope : Scope} {own : List (Str × Nat)} {pos : Pos} {it : DIt} {g : DTg} {tc : DB} {te : DE} {js : List Nat}
abbrev Bk (X : Cx) (scope : Scope) (s : Shared) (H : Hp) (C : Addr) (cl : List (Str × Addr)) (fp : List Addr) : Cx := X.blk s H scope (compEnvC scope cl C X.env) fp
/-- the readings of a block's parts, whatever the block -/
def uG (X : Cx) (scope : Scope) (tg : Expr) : TG := fun v σ H Q => ∀ s0 H0 C cl fp, tSemG (Bk X scope s0 H0 C cl fp) tg v σ H Q
def uE (X : Cx) (scope : Scope) (e : Expr) : TE := fun σ H Q => ∀ s0 H0 C cl fp, tSem (Bk X scope s0 H0 C cl fp) e σ H Q
def uT (X : Cx) (scope : Scope) (e : Expr) : TT := fun σ H Q => ∀ s0 H0 C cl fp, tSemT (Bk X scope s0 H0 C cl fp) e σ H Q
theorem pg_u : ∀ s0 H0 C cl fp, PG (Bk X scope s0 H0 C cl fp) tg (uG X scope tg) := fun s0 H0 C cl fp => ⟨fun pins s σ H v u Q I r h => h s0 H0 C cl fp pins s u I r⟩
theorem pe_u : ∀ s0 H0 C cl fp, PE (Bk X scope s0 H0 C cl fp) e (uE X scope e) := fun s0 H0 C cl fp => ⟨fun pins s σ H Q I h => h s0 H0 C cl fp pins s I⟩
theorem pt_u : ∀ s0 H0 C cl fp, PT (Bk X scope s0 H0 C cl fp) e (uT X scope e) := fun s0 H0 C cl fp => ⟨fun pins s σ H Q I h => h s0 H0 C cl fp pins s I⟩
def DTu (X : Cx) (G : Ctx) (tt : TT) (tc : DB) : Prop := ∀ (F : Hp) (O : Addr → Option OC) (σ : L2.St) (H : Hp) (δ : DSt) (Q : Bool → DSt → Prop) (Qv : Bool → Hp → Prop), R X.K G F O σ H δ → tc δ Q → (∀ b H', FinB X.K G F σ O δ Q b H' → Qv b H') → tt σ H Qv
theorem dtu_yes : DTu X G tYes dYes := fun F O σ H δ Q Qv rr q k => k _ _ ⟨F, O, δ, Ext.refl F, rr, Stp.refl, q⟩
theorem dtu_one (h : ∀ s0 H0 C cl fp, DT (Bk X scope s0 H0 C cl fp) G e tc) : DTu X G (uT X scope e) tc := fun F O σ H δ Q Qv rr q k s0 H0 C cl fp => semT_mono (h s0 H0 C cl fp F O σ H δ Q rr q) k
theorem lc_read {tt : TT} (hi : DI X G tg iter it) (hg : ∀ s0 H0 C cl fp, DG (Bk X scope s0 H0 C cl fp) G tg js g) (ht : DTu X G tt tc) (he : ∀ s0 H0 C cl fp, DX (Bk X scope s0 H0 C cl fp) G elt te) {vs : List Nat} (hjs : ∀ j ∈ js, j ∈ vs)
    {F : Hp} {O : Addr → Option OC} {σ : L2.St} {H : Hp} {δ : DSt} {Q : OC → DSt → Prop} (rr : R X.K G F O σ H δ) (q : dLc it g tc te vs δ Q) {Qv : VK} (kf : ∀ v H', FinN X.K G F σ O δ Q v H' → Qv v H') : tLc (tSemI X tg iter) (uG X scope tg) tt (uE X scope elt) vs σ H Qv := by
  refine semI_mono (hi F O σ H δ _ rr q) fun J H1 ⟨F1, O1, δ1, items, e1, r1, s1, wk, q0⟩ => ?_
  obtain ⟨hno, q1⟩ := noOwnK_ok q0
  rw [wipeK_eq, lcWp_eq] at q1
  simp only [unwipeK_eq] at q1
  intro L hL
  have oL : O1 L = none := r1.notO hL
  have nsL : NoSlot σ δ1 L := r1.noSlot oL
  have rA := (r1.alloc hL (.lst [])).take (r1.loose hL (.lst [])) (c := .lst []) (show DpAll X.K F1 [] [] from .nil)
  have rW : R X.K G F1 (updO O1 L (.lst [])) (wipe σ vs) (upd H1 L (.lst [])) (wipeD δ1 vs) := by
    have back : ∀ i a, isOwnAt (wipeD δ1 vs) (wipe σ vs) i a → isOwnAt δ1 σ i a := fun i a ⟨⟨c, h1⟩, h2⟩ => by
      by_cases z : i ∈ vs
      · cases wipeD_in z h1
      · rw [wipeD_out z] at h1
        rw [wipe_out z] at h2
        exact ⟨⟨c, h1⟩, h2⟩
    refine rA.slots (by rw [wipeD_len, wipe_length]; exact r1.len) (fun i s o h1 h2 => ?_) fun i j a hi hj => rA.sep i j a (back i a hi) (back j a hj)
    by_cases z : i ∈ vs
    · cases wipeD_in z h1
      trivial
    · rw [wipeD_out z] at h1
      rw [wipe_out z] at h2
      exact rA.slot i s o h1 h2
  -- what a turn leaves
  let Inv_ : (List D → List D → DSt → Prop) → Hp → Prop := fun P H' => ∃ F' O' δ' acc, Ext F1 F' ∧ R X.K G F' O' (wipe σ vs) H' δ' ∧ O' L = some (.lst acc) ∧ NoSlot (wipe σ vs) δ' L ∧
    (∀ a c, a ≠ L → O1 a = some c → NoSlot σ δ1 a → O' a = some c) ∧ (∀ (i : Nat) (c' : OC), δ'[i]? = some (.own c') → ∃ c, δ1[i]? = some (.own c)) ∧ P acc acc δ'
  refine ⟨fun i m H' => i ≤ items.length ∧ m = items.length - i ∧ Inv_ (fun acc _ δ' => lcWp0 g tc te vs (items.drop i) acc δ' fun acc δ2 => Q (.lst acc) (unwipe δ1 δ2 vs)) H', ⟨items.length, Nat.zero_le _, rfl, F1, _, _, [], Ext.refl F1, rW, updO_same, fun i hi => ?_, fun a c ha h _ => ?_, fun i c' h => ?_, q1⟩, fun i m H2 ⟨hi, hm, F2, O2, δ2, acc, e2, r2, oL2, ns2, kp2, sl2, q2⟩ => ?_⟩
  · obtain ⟨⟨c, h1⟩, h2⟩ := hi
    by_cases z : i ∈ vs
    · cases wipeD_in z h1
    · rw [wipeD_out z] at h1
      rw [wipe_out z] at h2
      exact nsL i ⟨⟨c, h1⟩, h2⟩
  · rw [updO_ne ha]
    exact h
  · by_cases z : i ∈ vs
    · cases wipeD_in z h
    · rw [wipeD_out z] at h
      exact ⟨c', h⟩
  have w := wk i F2 O2 (wipe σ vs) H2 δ2 e2 r2
  by_cases hlt : i < items.length
  · obtain ⟨d, hd⟩ : ∃ d, items[i]? = some d := ⟨_, List.getElem?_eq_getElem hlt⟩
    obtain ⟨go, hy⟩ := w.2 d hd
    have hdrop : items.drop i = d :: items.drop (i + 1) := by
      rw [List.drop_eq_getElem_cons hlt]
      rw [List.getElem?_eq_getElem hlt] at hd
      cases hd
      rfl
    rw [hdrop] at q2
    refine .inr ⟨go, Inv_ (fun acc _ δ' => lcWp0 g tc te vs (items.drop (i + 1)) acc δ' fun acc δ2 => Q (.lst acc) (unwipe δ1 δ2 vs)), fun H' h => ⟨items.length - (i + 1), by omega, hlt, rfl, h⟩, fun x H3 y => ?_⟩
    obtain ⟨F3, e3, r3, dp⟩ := hy x H3 y
    intro s0 H0 C cl fp
    refine semG_mono (hg s0 H0 C cl fp F3 O2 (wipe σ vs) H3 δ2 x d _ r3 dp q2) fun σ4 H4 ⟨F4, δ4, e4, r4, k4, n4, q4⟩ => ?_
    have l4 : σ4.length = σ.length := k4.1.trans (wipe_length σ vs)
    have k4' : ∀ i, i ∉ vs → σ4[i]? = (wipe σ vs)[i]? := fun i hi => (k4.2 i fun z => hi (hjs i z)).1
    have ns4 : NoSlot σ4 δ4 L := fun i ⟨⟨c, h1⟩, h2⟩ => by
      by_cases z : i ∈ js
      · exact n4 i z c h1
      · rw [(k4.2 i z).2] at h1
        rw [(k4.2 i z).1] at h2
        exact ns2 i ⟨⟨c, h1⟩, h2⟩
    have sl4 : ∀ (i : Nat) (c' : OC), δ4[i]? = some (.own c') → ∃ c, δ1[i]? = some (.own c) := fun i c' h => by
      by_cases z : i ∈ js
      · exact absurd h (n4 i z c')
      · rw [(k4.2 i z).2] at h
        exact sl2 i c' h
    -- a slot of the block that bears a bears it outside too
    have own4 : ∀ a, NoSlot σ δ1 a → NoSlot σ4 δ4 a := fun a n i ⟨⟨c, h1⟩, h2⟩ => by
      obtain ⟨c1, h3⟩ := sl4 i c h1
      have z : i ∉ vs := fun z => hno i z c1 h3
      rw [k4' i z, wipe_out z] at h2
      exact n i ⟨⟨c1, h3⟩, h2⟩
    have w4 : wipe σ4 vs = wipe σ vs := by
      apply List.ext_getElem?
      intro i
      by_cases z : i ∈ vs
      · have inw : ∀ (τ : L2.St), τ.length = σ.length → (wipe τ vs)[i]? = if i < σ.length then some none else none := by
          intro τ hτ
          clear q2 q1 hdrop
          have gen : ∀ (ws : List Nat), i ∈ ws → (wipe τ ws)[i]? = if i < σ.length then some none else none := by
            intro ws
            induction ws with
            | nil => intro h; cases h
            | cons v ws ih =>
              intro h
              unfold wipe
              by_cases zv : v = i
              · subst zv
                by_cases hb : v < σ.length
                · rw [List.getElem?_set_self (by rw [wipe_length, hτ]; exact hb), if_pos hb]
                · rw [List.getElem?_eq_none (by rw [List.length_set, wipe_length, hτ]; omega), if_neg hb]
              · rw [List.getElem?_set_ne zv]
                exact ih ((List.mem_cons.mp h).resolve_left (Ne.symm zv))
          exact gen vs z
        rw [inw σ4 l4, inw σ rfl]
      · rw [wipe_out z, k4' i z]
    refine ⟨w4, ht F4 O2 σ4 H4 δ4 _ _ r4 q4 fun b H5 ⟨F5, O5, δ5, e5, r5, s5, q5⟩ => ?_⟩
    have oL5 : O5 L = some (.lst acc) := s5.keep L _ oL2 ns4
    have ns5 : NoSlot σ4 δ5 L := s5.noSlot ns4
    cases b with
    | true =>
      rw [if_pos rfl]
      intro s0 H0 C cl fp
      refine sem_mono (he s0 H0 C cl fp F5 O5 σ4 H5 δ5 _ r5 (q5.1 rfl)) fun v H6 ⟨F6, O6, δ6, av, e6, r6, s6, h6, q6⟩ => ?_
      obtain ⟨F7, O7, δ7, d7, e7, r7, s7, h7, hz, q7⟩ := r6.toD h6 q6
      have st : Stp σ4 O5 δ5 O7 δ7 := s6.trans s7
      have oL7 : O7 L = some (.lst acc) := st.keep L _ oL5 ns5
      have ns7 : NoSlot σ4 δ7 L := st.noSlot ns5
      obtain ⟨_, _, _, ho, hH, hc⟩ := r7.own L _ oL7
      cases ho with
      | lst ws =>
        have hd7 : DpAll X.K F7 ws acc := hc
        refine ⟨ws, hH, Nat.lt_of_lt_of_le (by rw [hd7.len]; exact hz) (by decide), ?_⟩
        have r8 := r7.write0 (c' := .lst (acc ++ [d7])) (ho' := .lst (ws ++ [v])) oL7 (show DpAll X.K F7 (ws ++ [v]) (acc ++ [d7]) from hd7.app (.cons h7 .nil)) ns7
        have r9 := r8.rewipe (vs := vs) l4 k4'
        refine ⟨F7, _, _, acc ++ [d7], ((((e2.trans e3).trans e4).trans e5).trans e6).trans e7, r9, updO_same, fun i hi => ?_, fun a c ha h n => ?_, fun i c' h => ?_, q7⟩
        · obtain ⟨⟨c, h1⟩, h2⟩ := hi
          by_cases z : i ∈ vs
          · cases wipeD_in z h1
          · rw [wipeD_out z] at h1
            rw [← k4' i z] at h2
            exact ns7 i ⟨⟨c, h1⟩, h2⟩
        · rw [updO_ne ha]
          exact (s5.trans st).keep a c (kp2 a c ha h n) (own4 a n)
        · by_cases z : i ∈ vs
          · cases wipeD_in z h
          · rw [wipeD_out z] at h
            obtain ⟨c5, h5⟩ := (s5.trans st).slots i c' h
            exact sl4 i c5 h5
      | _ => exact hc.elim
    | false =>
      rw [if_neg Bool.false_ne_true]
      have r9 := r5.rewipe (vs := vs) l4 k4'
      refine ⟨F5, O5, _, acc, (((e2.trans e3).trans e4).trans e5), r9, oL5, fun i hi => ?_, fun a c ha h n => ?_, fun i c' h => ?_, q5.2 rfl⟩
      · obtain ⟨⟨c, h1⟩, h2⟩ := hi
        by_cases z : i ∈ vs
        · cases wipeD_in z h1
        · rw [wipeD_out z] at h1
          rw [← k4' i z] at h2
          exact ns5 i ⟨⟨c, h1⟩, h2⟩
      · exact s5.keep a c (kp2 a c ha h n) (own4 a n)
      · by_cases z : i ∈ vs
        · cases wipeD_in z h
        · rw [wipeD_out z] at h
          obtain ⟨c5, h5⟩ := s5.slots i c' h
          exact sl4 i c5 h5
  · have e : i = items.length := by omega
    subst e
    rw [List.drop_length] at q2
    refine .inl ⟨w.1 (Nat.le_refl _), ?_⟩
    have rD := r2.drop oL2 ns2
    obtain ⟨ho, lo, hc⟩ := r2.loose_of oL2
    have hlen : δ1.length = δ2.length := by
      have a1 := r1.len
      have a2 := r2.len
      rw [wipe_length] at a2
      omega
    have back : ∀ i a, isOwnAt (unwipe δ1 δ2 vs) σ i a → isOwnAt δ2 (wipe σ vs) i a := fun i a ⟨⟨c, h1⟩, h2⟩ => by
      by_cases z : i ∈ vs
      · exact absurd (unwipe_in hlen z h1) (hno i z c)
      · rw [unwipe_out z] at h1
        exact ⟨⟨c, h1⟩, by rw [wipe_out z]; exact h2⟩
    have rZ : R X.K G F2 (delO O2 L) σ H2 (unwipe δ1 δ2 vs) := by
      refine rD.slots (by rw [unwipe_len, ← hlen]; exact r1.len) (fun i s o h1 h2 => ?_) fun i j a hi hj => rD.sep i j a (back i a hi) (back j a hj)
      by_cases z : i ∈ vs
      · have h3 := unwipe_in hlen z h1
        have q := r1.slot i s o h3 h2
        cases s with
        | own c => exact absurd h3 (hno i z c)
        | dat d => exact q.ext e2
        | raw v => exact q
        | emp => trivial
      · rw [unwipe_out z] at h1
        rw [← wipe_out z] at h2
        exact rD.slot i s o h1 h2
    refine kf _ _ ⟨F2, delO O2 L, unwipe δ1 δ2 vs, L, ho, .lst acc, e1.trans e2, rZ, s1.trans ⟨fun a c h n => ?_, fun i c' h => ?_⟩, rfl, lo, hc, q2⟩
    · have ha : a ≠ L := fun z => by rw [z, oL] at h; cases h
      rw [delO_ne ha]
      exact kp2 a c ha h n
    · by_cases z : i ∈ vs
      · exact absurd (unwipe_in hlen z h) (hno i z c')
      · rw [unwipe_out z] at h
        exact sl2 i c' h
theorem dn_lc (own : List (Str × Nat)) (hN : X.N.Nodup) (hi : DI X G tg iter it) (ok : blkC X.N X.env.scope scope own = true) (hg : ∀ s0 H0 C cl fp, DG (Bk X scope s0 H0 C cl fp) G tg js g) (he : ∀ s0 H0 C cl fp, DX (Bk X scope s0 H0 C cl fp) G elt te)
    (hjs : ∀ j ∈ js, j ∈ own.map (·.2) := by decide) (hc : X.calm = true := by rfl) (hs : ∀ x, foldedSetIterable iter X.env x = pure x := by intro _; rfl) : DN X G (.ListComp elt [⟨tg, iter, [], 0⟩] scope pos) (dLc it g dYes te (own.map (·.2))) := fun F O σ H δ Q rr q =>
  sem_of (pe_lc hc hN pi_sem (blkOk_by ok) pg_u (fun _ _ _ _ _ => pts_nil) pe_u hs) (lc_read hi hg dtu_yes he hjs rr q fun _ _ h => h)
theorem dn_lcIf {c : Expr} (own : List (Str × Nat)) (hN : X.N.Nodup) (hi : DI X G tg iter it) (ok : blkC X.N X.env.scope scope own = true) (hg : ∀ s0 H0 C cl fp, DG (Bk X scope s0 H0 C cl fp) G tg js g) (ht : ∀ s0 H0 C cl fp, DT (Bk X scope s0 H0 C cl fp) G c tc) (he : ∀ s0 H0 C cl fp, DX (Bk X scope s0 H0 C cl fp) G elt te)
    (hjs : ∀ j ∈ js, j ∈ own.map (·.2) := by decide) (hc : X.calm = true := by rfl) (hs : ∀ x, foldedSetIterable iter X.env x = pure x := by intro _; rfl) : DN X G (.ListComp elt [⟨tg, iter, [c], 0⟩] scope pos) (dLc it g tc te (own.map (·.2))) := fun F O σ H δ Q rr q =>
  sem_of (pe_lc hc hN pi_sem (blkOk_by ok) pg_u (fun s0 H0 C cl fp => pts_one (pt_u s0 H0 C cl fp)) pe_u hs) (lc_read hi hg (dtu_one ht) he hjs rr q fun _ _ h => h)
/-- name = a comprehension; kept as one's own, or frozen -/
def dSetN (i : Nat) (t : DNw) : DTS := fun N δ => t δ fun c δ1 => match c with
  | .lst ds => withSet δ1 i (.dat (.list ds)) N.nx
  | _ => False
theorem setN_ok {N : DEnds} {K : PySem.W.Frag} {F : Hp} {O : Addr → Option OC} {σ : L2.St} {δ : DSt} {i : Nat} {v : V} {H' : Hp} (h : FinN K G F σ O δ (fun c δ1 => match c with
  | .lst ds => withSet δ1 i (.dat (.list ds)) N.nx
  | _ => False) v H') : LnkS K G F N.nx (σ.set i (some v)) H' := by
  obtain ⟨F1, O1, δ1, p, ho, c, e1, r1, s1, ev, l, hc, q1⟩ := h
  subst ev
  cases c with
  | lst ds =>
    cases ho with
    | lst vs =>
      have hd : DpAll K F1 vs ds := hc
      have e2 := Ext.upd (o := HO.lst vs) l.f
      exact ⟨_, O1, _, e1.trans e2, (r1.freeze l).setDat (.lst (SqL.of upd_same) (e2.all hd)), withSet_ok q1⟩
    | _ => exact hc.elim
  | dk _ => exact q1.elim
  | dt _ => exact q1.elim
theorem setO_ok {N : DEnds} {K : PySem.W.Frag} {F : Hp} {O : Addr → Option OC} {σ : L2.St} {δ : DSt} {i : Nat} {v : V} {H' : Hp} (h : FinN K G F σ O δ (fun c δ1 => withSet δ1 i (.own c) N.nx) v H') : LnkS K G F N.nx (σ.set i (some v)) H' := by
  obtain ⟨F1, O1, δ1, p, ho, c, e1, r1, s1, ev, l, hc, q1⟩ := h
  subst ev
  exact ⟨F1, _, _, e1, r1.setOwn l hc, withSet_ok q1⟩
section
variable {y : Str} {py spos : Pos} {c : Expr}
theorem ds_setLc (i : Nat) (own : List (Str × Nat)) (hN : X.N.Nodup) (hi : DI X G tg iter it) (ok : blkC X.N X.env.scope scope own = true) (hg : ∀ s0 H0 C cl fp, DG (Bk X scope s0 H0 C cl fp) G tg js g) (he : ∀ s0 H0 C cl fp, DX (Bk X scope s0 H0 C cl fp) G elt te)
    (hsw : swapsWith (.ListComp elt [⟨tg, iter, [], 0⟩] scope pos) (some (.Name y py)) spos.line X.env = pure true := by exact sw_true rfl rfl rfl (by decide +kernel)) (hy : X.N[i]? = some y := by rfl) (hyl : X.env.scope.names.lookup y = some .local := by rfl)
    (hjs : ∀ j ∈ js, j ∈ own.map (·.2) := by decide) (hc : X.calm = true := by rfl) (hs : ∀ x, foldedSetIterable iter X.env x = pure x := by intro _; rfl) : DS X G (.Assign [.Name y py] (.ListComp elt [⟨tg, iter, [], 0⟩] scope pos) spos) (dSetN i (dLc it g dYes te (own.map (·.2)))) := fun F O σ H δ N rr q =>
  semS_of (ps_setLc hc hN hy hyl hsw pi_sem (blkOk_by ok) pg_u (fun _ _ _ _ _ => pts_nil) pe_u hs) (lc_read hi hg dtu_yes he hjs rr q fun _ _ h => setN_ok h)
theorem ds_ownLc (i : Nat) (own : List (Str × Nat)) (hN : X.N.Nodup) (hi : DI X G tg iter it) (ok : blkC X.N X.env.scope scope own = true) (hg : ∀ s0 H0 C cl fp, DG (Bk X scope s0 H0 C cl fp) G tg js g) (he : ∀ s0 H0 C cl fp, DX (Bk X scope s0 H0 C cl fp) G elt te)
    (hsw : swapsWith (.ListComp elt [⟨tg, iter, [], 0⟩] scope pos) (some (.Name y py)) spos.line X.env = pure true := by exact sw_true rfl rfl rfl (by decide +kernel)) (hy : X.N[i]? = some y := by rfl) (hyl : X.env.scope.names.lookup y = some .local := by rfl)
    (hjs : ∀ j ∈ js, j ∈ own.map (·.2) := by decide) (hc : X.calm = true := by rfl) (hs : ∀ x, foldedSetIterable iter X.env x = pure x := by intro _; rfl) : DS X G (.Assign [.Name y py] (.ListComp elt [⟨tg, iter, [], 0⟩] scope pos) spos) (dOwn i (dLc it g dYes te (own.map (·.2)))) := fun F O σ H δ N rr q =>
  semS_of (ps_setLc hc hN hy hyl hsw pi_sem (blkOk_by ok) pg_u (fun _ _ _ _ _ => pts_nil) pe_u hs) (lc_read hi hg dtu_yes he hjs rr q fun _ _ h => setO_ok h)
theorem ds_setLcIf (i : Nat) (own : List (Str × Nat)) (hN : X.N.Nodup) (hi : DI X G tg iter it) (ok : blkC X.N X.env.scope scope own = true) (hg : ∀ s0 H0 C cl fp, DG (Bk X scope s0 H0 C cl fp) G tg js g) (ht : ∀ s0 H0 C cl fp, DT (Bk X scope s0 H0 C cl fp) G c tc) (he : ∀ s0 H0 C cl fp, DX (Bk X scope s0 H0 C cl fp) G elt te)
    (hsw : swapsWith (.ListComp elt [⟨tg, iter, [c], 0⟩] scope pos) (some (.Name y py)) spos.line X.env = pure true := by exact sw_true rfl rfl rfl (by decide +kernel)) (hy : X.N[i]? = some y := by rfl) (hyl : X.env.scope.names.lookup y = some .local := by rfl)
    (hjs : ∀ j ∈ js, j ∈ own.map (·.2) := by decide) (hc : X.calm = true := by rfl) (hs : ∀ x, foldedSetIterable iter X.env x = pure x := by intro _; rfl) : DS X G (.Assign [.Name y py] (.ListComp elt [⟨tg, iter, [c], 0⟩] scope pos) spos) (dSetN i (dLc it g tc te (own.map (·.2)))) := fun F O σ H δ N rr q =>
  semS_of (ps_setLc hc hN hy hyl hsw pi_sem (blkOk_by ok) pg_u (fun s0 H0 C cl fp => pts_one (pt_u s0 H0 C cl fp)) pe_u hs) (lc_read hi hg (dtu_one ht) he hjs rr q fun _ _ h => setN_ok h)
theorem ds_ownLcIf (i : Nat) (own : List (Str × Nat)) (hN : X.N.Nodup) (hi : DI X G tg iter it) (ok : blkC X.N X.env.scope scope own = true) (hg : ∀ s0 H0 C cl fp, DG (Bk X scope s0 H0 C cl fp) G tg js g) (ht : ∀ s0 H0 C cl fp, DT (Bk X scope s0 H0 C cl fp) G c tc) (he : ∀ s0 H0 C cl fp, DX (Bk X scope s0 H0 C cl fp) G elt te)
    (hsw : swapsWith (.ListComp elt [⟨tg, iter, [c], 0⟩] scope pos) (some (.Name y py)) spos.line X.env = pure true := by exact sw_true rfl rfl rfl (by decide +kernel)) (hy : X.N[i]? = some y := by rfl) (hyl : X.env.scope.names.lookup y = some .local := by rfl)
    (hjs : ∀ j ∈ js, j ∈ own.map (·.2) := by decide) (hc : X.calm = true := by rfl) (hs : ∀ x, foldedSetIterable iter X.env x = pure x := by intro _; rfl) : DS X G (.Assign [.Name y py] (.ListComp elt [⟨tg, iter, [c], 0⟩] scope pos) spos) (dOwn i (dLc it g tc te (own.map (·.2)))) := fun F O σ H δ N rr q =>
  semS_of (ps_setLc hc hN hy hyl hsw pi_sem (blkOk_by ok) pg_u (fun s0 H0 C cl fp => pts_one (pt_u s0 H0 C cl fp)) pe_u hs) (lc_read hi hg (dtu_one ht) he hjs rr q fun _ _ h => setO_ok h)
end
end
end DL
set_option Elab.async false
set_option linter.all false
set_option maxRecDepth 100000
set_option maxHeartbeats 2000000
/-! defs with the guards told: their promise, their rule, the head -/
namespace DL
open PySem L2 PyProof.Rows
structure FG (P : Program) (w : World) (K : PySem.W.Frag) (mg : Str → Option Value) (base : Heap) (k : Nat) (f : Addr) (fd : FuncData) (ps : List Str) (sp : Sp) : Prop where
  len : ∀ vs H Q E, sp vs H Q E → vs.length = ps.length
  run : ∀ (A : Around) (outer : List Env) (s : Shared) (H : Hp) (args : Args) (us : List Value) (vs : List V) (Q : VK) (E : XK), Room k A → A.guards = some [] → Env0 P w K mg base A outer s H → BindsTo s fd args (ps.zip us) → Vals vs us → sp vs H Q E →
    codeAny (model P w) A (.call (.ref f) args) (CR (L2.CX P w) outer P w H s Q E) s
theorem FG.mono {P : Program} {w : World} {K : PySem.W.Frag} {mg : Str → Option Value} {base : Heap} {j k : Nat} {f : Addr} {fd : FuncData} {ps : List Str} {sp : Sp} (F : FG P w K mg base j f fd ps sp) (h : j ≤ k) :
    FG P w K mg base k f fd ps sp := ⟨F.len, fun A outer s H args us vs Q E hr hg => F.run A outer s H args us vs Q E (hr.mono h) hg⟩
section
variable {X : Cx} {k : Nat} {f : Addr} {fd : FuncData} {ps : List Str} {sp : Sp} {E : L2.St → XK} {x : Str} {p pos : Pos} {e : Expr} {es : List Expr} {t : TA} {σ : L2.St}
theorem run_fnG {pins : List (Addr × Obj)} {H : Hp} {s : Shared} {Q : VK} {us : List Value} {vs : List V} (F : FG X.prog X.w X.K X.mg X.base k f fd ps sp) (hr : Room k X.A) (hgd : X.A.guards = some []) (hb : Binds X.K fd ps []) (hx : PassesAt (L2.CX X.prog X.w) X σ (E σ))
    (I : Inv X pins σ H s) (r : Vals vs us) (h : sp vs H Q (E σ)) : wpAny (model X.prog X.w) X.A (call (.ref f) us) (EP X pins σ Q) X.xe s := by
  have hl : us.length = ps.length := by rw [← r.length]; exact F.len _ _ _ _ h
  have b := hb s us I.kIn (by rw [List.append_nil]; exact hl)
  rw [List.append_nil] at b
  refine wpAny_call (codeAny_mono (F.run X.A X.stack s H ⟨us, []⟩ us vs Q (E σ) hr hgd I.env0 b r h) fun r s' hq => ?_)
  cases r with
  | error e => exact hx pins H s e s' I hq
  | ok fl =>
    cases fl with
    | ret u => exact I.after hq
    | next => exact False.elim hq
    | brk => exact False.elim hq
    | cont => exact False.elim hq
theorem pe_callG (F : FG X.prog X.w X.K X.mg X.base k f fd ps sp) (hr : Room k X.A) (hgd : X.A.guards = some []) (hg : Gl X x) (hm : X.mg x = some (.ref f)) (hk : PySem.W.keepIn X.K (.ref f) = true) (hb : Binds X.K fd ps []) (hx : ∀ σ, PassesAt (L2.CX X.prog X.w) X σ (E σ))
    (ha : PA X (e :: es) t) (hdb : (x == ("__debug__" : Str)) = false := by decide) (he : starEach (e :: es) X.env = (false, eval e X.env) :: starEach es X.env := by rfl) (hpl : (backTo pos (starEach es X.env)).any (·.1) = false := by rfl) :
    PE X (.Call (.Name x p) (e :: es) [] pos) (tCallS sp E t) := by
  refine ⟨fun pins s σ H Q I h => ?_⟩
  refine wpAny_Call_Name_kw (ld_glob I hg hm ?_ hdb)
  refine PySem.W.callWith_K (h₀ := X.base) I.ok.mod.kin hk (thn (ha.run pos pins s σ H _ I h) fun us s1 ⟨vs, H1, I1, r, q⟩ => ⟨I1.kIn, ?_⟩) he hpl
  exact run_fnG F hr hgd hb (hx σ) I1 r q
end
/-- a def of the module, by its body -/
theorem fg_of {P : Program} {w : World} {K : PySem.W.Frag} {mg : Str → Option Value} {base : Heap} {k : Nat} {f : Addr} {name qual : Str} {params : Arguments} {body : List Stmt} {scope : Scope} {dV kV doc pm cdv ct oc : Value} {an od : Option Addr}
    {osl : Array (Option Value)} {N ps : List Str} {sp : Sp} (lk : K.lookup f = some ⟨oc, od, .func (PySem.W.fnOf name qual params body scope dV kV doc pm an cdv ct), osl⟩) (hcd : PySem.W.codeIn K cdv qual = true) (S : FnScope N ps scope)
    (len : ∀ vs H Q E, sp vs H Q E → vs.length = ps.length)
    (hbody : ∀ (A : Around) (outer : List Env) (s : Shared) (H : Hp) (vs : List V) (Q : VK) (E : XK), Room k (A.deeper (envOfC qual scope s.heap.objs.size f cdv)) → A.guards = some [] → sp vs H Q E →
      ∃ t, PSs (cxOf (L2.CX P w) P w K mg base N qual scope f cdv A outer s H E) body t ∧ t { nx := fun _ H' => Q .non H', rt := Q } (start N vs) H) :
    FG P w K mg base (k + 1) f (PySem.W.fnOf name qual params body scope dV kV doc pm an cdv ct) ps sp := by
  refine ⟨len, fun A outer s H args us vs Q E hr hgd e0 hb r hsp => ?_⟩
  have hl := len _ _ _ _ hsp
  have KX : K.In s.heap := e0.mod.kin.keeps fun b o e => (e0.bs b o e).1
  have lim : s.heap.NoLimit := e0.mod.nolimit.keeps fun b o e => (e0.bs b o e).1
  have hkind : ∀ y ∈ ps.zip us, scope.names.lookup y.1 = some .local ∨ (scope.names.lookup y.1 = some .cell ∧ ((cellsFrom (s.heap.objs.size + 1) scope.names []).lookup y.1).isSome = true) := fun ⟨n, v⟩ hy => by
    rcases S.par n (List.of_mem_zip hy).1 with q | q
    · exact .inl q
    · exact .inr ⟨q, PySem.W.cellsFrom_some _ _ _ (.inl q)⟩
  refine codeAny_call_function hr.depth (KX _ _ lk) rfl S.co S.gen rfl (PySem.W.codeRec_of KX hcd) (hb _ _ _ _ ?_)
  refine wpAny_newFunctionEnv_cells S.kind hkind fun env he s1 x => ?_
  subst he
  refine ⟨lim.keeps x.toInCall.keep, codeAny_func ?_⟩
  obtain ⟨t, ht, hq⟩ := hbody A outer s H vs Q E (hr.deeper _) hgd hsp
  have I : Inv (cxOf (L2.CX P w) P w K mg base N qual scope f cdv A outer s H E) [] (start N vs) H s1 := inv_start S hr.hd e0 hl r x
  refine wpAny_mono (ht.run [] s1 (start N vs) H _ I hq) (fun fl s' hs => ?_) fun e s' hs => hs
  have fin : ∀ {σ' : L2.St} {H' : Hp} {v : V} {u : Value}, Inv (cxOf (L2.CX P w) P w K mg base N qual scope f cdv A outer s H E) [] σ' H' s' → RelV v u → Q v H' → CE outer P w H s Q u s' :=
    fun {σ' H' v u} J rv q => ⟨v, H', J.os, J.bare, J.base, J.hok, rv, q⟩
  cases fl with
  | ret u =>
    obtain ⟨v, σ', H', J, rv, q⟩ := hs
    exact fin J rv q
  | next =>
    obtain ⟨σ', H', J, q⟩ := hs
    exact fin (v := V.non) (u := Value.none) J rfl q
  | brk =>
    obtain ⟨_, _, _, q⟩ := hs
    exact False.elim q
  | cont =>
    obtain ⟨_, _, _, q⟩ := hs
    exact False.elim q
/-! ### a def over plain data -/
def svOf : AV → SV
  | .dat d => .dat d
  | .raw v => .raw v
  | .bor _ => .emp
def startD (N : List Str) (as : List AV) : DSt := as.map svOf ++ List.replicate (N.length - as.length) .emp
abbrev BodyX (P : Program) (w : World) (K : PySem.W.Frag) (mg : Str → Option Value) (base : Heap) (N : List Str) (qual : Str) (st : Stmt) (f : Addr) (cdv : Value) (A : Around) (outer : List Env) (s : Shared) (H : Hp) (E : XK) : Cx :=
  cxOf (L2.CX P w) P w K mg base N qual (defScope st) f cdv A outer s H E
/-- what a body's derivation may use -/
structure AtN (X : Cx) (G : Ctx) (k : Nat) (W : WX) (we : Wsh) : Prop where
  room : Room k X.A
  tk : Takes X W
  wo : WOk X.K G W we
structure At (X : Cx) (G : Ctx) (k : Nat) (W : WX) (we : Wsh) : Prop extends AtN X G k W we where
  gd : X.A.guards = some []
/-- W is a part of the world V -/
structure SubW (W V : Wd) : Prop where
  inv : ∀ H, V.inv H → W.inv H
  fp : ∀ a, W.fp a → V.fp a
  back : ∀ H H', V.inv H → W.inv H' → (∀ a o, H a = some o → ¬ W.fp a → H' a = some o) → V.inv H'
theorem SubW.refl (W : Wd) : SubW W W := ⟨fun _ h => h, fun _ h => h, fun _ _ _ h _ => h⟩
theorem SubW.of {W V : Wd} (e : V = W) : SubW W V := e ▸ SubW.refl V
theorem R.afterS {K : PySem.W.Frag} {G : Ctx} {F F' : Hp} {O : Addr → Option OC} {σ : L2.St} {H H' : Hp} {δ : DSt} {W : Wd} (r : R K G F O σ H δ) (hW : SubW W G.W) (a : After W F H F' H') : R K G F' O σ H' δ :=
  (r.world (fun b o e n => a.keep b o e fun z => n (hW.fp b z)) (hW.back H H' r.inv a.inv a.keep)).grow a.ext a.in_ fun b o e => (a.new b o e).elim .inl fun z => .inr ⟨r.notB z, r.notFp z, r.notO z⟩
theorem AtN.hu {X : Cx} {G : Ctx} {k : Nat} {W : WX} {we : Wsh} (a : AtN X G k W we) : X.A.units + 65 < cLine := by
  have := a.room.un
  omega
theorem AVs.len {K : PySem.W.Frag} {F : Hp} {σ : L2.St} : ∀ {as : List AV} {vs : List V}, AVs K F σ as vs → as.length = vs.length
  | _, _, .nil => rfl
  | _, _, .cons _ t => congrArg (· + 1) (AVs.len t)
theorem start_ok {K : PySem.W.Frag} {F H : Hp} {N : List Str} {as : List AV} {vs : List V} {W : Wd} (hl : vs.length ≤ N.length) (ha : AVs K F [] as vs) (e : Ext F H) (hi : W.inv H) (hf : ∀ a, W.fp a → F a = none) : R K ⟨H, F, W⟩ F (fun _ => none) (start N vs) H (startD N as) := by
  have hlen := ha.len
  have get : ∀ {as : List AV} {vs : List V}, AVs K F [] as vs → ∀ (i : Nat) (s : SV) (o : Option V) (m : Nat), (as.map svOf ++ List.replicate m SV.emp)[i]? = some s → (vs.map some ++ List.replicate m none)[i]? = some o → SlotOk K F (fun _ => none) s o := by
    intro as vs h
    induction h with
    | nil =>
      intro i s o m h1 h2
      simp only [List.map_nil, List.nil_append, List.getElem?_replicate] at h1
      split at h1
      · cases h1; trivial
      · cases h1
    | cons h1 h2 ih =>
      rename_i a v as vs
      intro i s o m e1 e2
      cases i with
      | zero =>
        simp at e1 e2
        subst e1; subst e2
        cases a with
        | dat d => exact ⟨_, rfl, h1⟩
        | raw w => cases h1; exact rfl
        | bor j => trivial
      | succ i => exact ih i s o m (by simpa using e1) (by simpa using e2)
  refine ⟨?_, e, Ext.refl F, fun a o h => .inl h, fun a o h _ => h, hi, hf, fun a c h => (by cases h), fun i s o h1 h2 => ?_, fun i j a h => ?_⟩
  · unfold startD L2.start
    simp [hlen]
  · unfold startD at h1
    unfold L2.start at h2
    rw [hlen] at h1
    exact get ha i s o _ h1 h2
  · obtain ⟨⟨c, h1⟩, _⟩ := h
    unfold startD at h1
    exfalso
    rw [List.getElem?_append] at h1
    split at h1
    · rw [List.getElem?_map] at h1
      cases q : as[i]? with
      | none => rw [q] at h1; cases h1
      | some a => rw [q] at h1; cases a <;> simp [svOf] at h1
    · rw [List.getElem?_replicate] at h1
      split at h1 <;> simp at h1
theorem R.toAfter {K : PySem.W.Frag} {H F F' H' : Hp} {W : Wd} {O : Addr → Option OC} {σ : L2.St} {δ : DSt} (r : R K ⟨H, F, W⟩ F' O σ H' δ) : After W F H F' H' := ⟨r.bas, r.inv, r.ext0, r.ext, r.new⟩
section
variable {P : Program} {w : World} {K : PySem.W.Frag} {mg : Str → Option Value} {base : Heap} {x qual : Str} {st : Stmt} {f : Addr} {fd : FuncData} {N ps : List Str} {k : Nat}
theorem fg_okS {Wf : Addr → Addr → Wd} {sp : Addr → DSp} {t : Addr → (DXn → Prop) → DTS} (F : Fun K x qual st f fd) (S : FnScope N ps (defScope st)) (len : ∀ a as Q E, sp a as Q E → as.length = ps.length)
    (hbody : ∀ (sa sc : Addr) (cdv : Value) (A : Around) (outer : List Env) (s : Shared) (H : Hp) (E : XK) (G : Ctx) (W : WX) (Ed : DXn → Prop), SubW (Wf sa sc) G.W → At (BodyX P w K mg base N qual st f cdv A outer s H E) G k W (fun x _ => Ed x) → PassesOwn (model P w) (BodyX P w K mg base N qual st f cdv A outer s H E).A (BodyX P w K mg base N qual st f cdv A outer s H E).env (BodyX P w K mg base N qual st f cdv A outer s H E).xe → DSs (BodyX P w K mg base N qual st f cdv A outer s H E) G (defBody st) (t sa Ed))
    (law : ∀ a as Q E, sp a as Q E → t a E { nx := fun _ => Q .none, rt := Q } (startD N as)) : FG P w K mg base (k + 1) f fd ps (spS K Wf sp) := by
  have hlen : ∀ vs H Q E, spS K Wf sp vs H Q E → vs.length = ps.length := fun vs H Q E ⟨a, c, F, as, _, ha, _, _, Qd, Ed, h, _⟩ => by
    have hl := len a as Qd Ed h
    rw [← ha.len, hl]
  obtain ⟨oc, od, kV, doc, pm, an, cdv, ct, osl, rfl, lk, hcd⟩ := F.ex
  refine fg_of lk hcd S hlen fun A outer s H vs Q E hr hgd hsp => ?_
  have hl := hlen vs H Q E hsp
  have hpl : ps.length ≤ N.length := by have := congrArg List.length S.pre; rw [List.length_take] at this; omega
  obtain ⟨a, c, F, as, e, ha, hi, hf, Qd, Ed, h, hQ, hE⟩ := hsp
  refine ⟨_, pss_sem, ?_⟩
  have r := start_ok (N := N) (by rw [hl]; exact hpl) ha e hi hf
  have At0 : At (BodyX P w K mg base N qual st f cdv A outer s H E) ⟨H, F, Wf a c⟩ k (fun cls d _ H => E cls d H) (fun x _ => Ed x) :=
    ⟨⟨hr, takes_of rfl rfl rfl rfl, fun F' O σ H' δ x dd r hx h => hE x h dd H' F' r.toAfter hx⟩, hgd⟩
  have q := hbody a c cdv A outer s H E ⟨H, F, Wf a c⟩ _ Ed (SubW.refl _) At0 (passes_of rfl) F (fun _ => none) (start N vs) H (startD N as) { nx := fun _ => Qd .none, rt := Qd } r (law a as Qd Ed h)
  refine semSs_le q ⟨fun σ' H' ⟨F', O', δ', e', r', h'⟩ => hQ .none h' .non H' F' r'.toAfter .non, fun v H' ⟨F', O', σ', δ', d, e', r', hd, h'⟩ => hQ d h' v H' F' r'.toAfter hd, fun σ' H' ⟨F', O', δ', e', r', h'⟩ => h'.elim, fun σ' H' ⟨F', O', δ', e', r', h'⟩ => h'.elim⟩
theorem fg_ok {sp : DSp} {t : (DXn → Prop) → DTS} (F : Fun K x qual st f fd) (S : FnScope N ps (defScope st)) (len : ∀ as Q E, sp as Q E → as.length = ps.length)
    (hbody : ∀ (cdv : Value) (A : Around) (outer : List Env) (s : Shared) (H : Hp) (E : XK) (G : Ctx) (W : WX) (Ed : DXn → Prop), SubW Wd.nil G.W → At (BodyX P w K mg base N qual st f cdv A outer s H E) G k W (fun x _ => Ed x) → PassesOwn (model P w) (BodyX P w K mg base N qual st f cdv A outer s H E).A (BodyX P w K mg base N qual st f cdv A outer s H E).env (BodyX P w K mg base N qual st f cdv A outer s H E).xe → DSs (BodyX P w K mg base N qual st f cdv A outer s H E) G (defBody st) (t Ed))
    (law : ∀ as Q E, sp as Q E → t E { nx := fun _ => Q .none, rt := Q } (startD N as)) : FG P w K mg base (k + 1) f fd ps (spX K Wd.nil sp) := by
  have q := fg_okS (Wf := fun _ _ => Wd.nil) (sp := fun _ => sp) (t := fun _ => t) (mg := mg) (base := base) (P := P) (w := w) (k := k) F S (fun _ => len) (fun _ _ cdv A outer s H E G W Ed hW at_ po => hbody cdv A outer s H E G W Ed hW at_ po) fun _ => law
  exact ⟨fun vs H Q E h => q.len vs H Q E ⟨0, 0, h⟩, fun A outer s H args us vs Q E hr hg e0 b r h => q.run A outer s H args us vs Q E hr hg e0 b r ⟨0, 0, h⟩⟩
end
/-! ### calls of such defs -/
section
variable {X : Cx} {G : Ctx} {e a b c : Expr} {es rest : List Expr} {t ta tb : DE} {pos p : Pos} {tas : DAs} {k : Nat} {W : WX} {we : Wsh}
theorem dx_fn {x : Str} {f : Addr} {fd : FuncData} {ps : List Str} {sp : DSp} (at_ : At X G k W we) (Fn : FG X.prog X.w X.K X.mg X.base k f fd ps (spX X.K Wd.nil sp)) (hm : X.mg x = some (.ref f)) (hk : PySem.W.keepIn X.K (.ref f) = true)
    (hb : Binds X.K fd ps []) (ha : DA X G (e :: es) tas) (hg : Gl X x := by rfl) (hdb : (x == ("__debug__" : Str)) = false := by decide) (he : starEach (e :: es) X.env = (false, eval e X.env) :: starEach es X.env := by rfl)
    (hpl : (backTo pos (starEach es X.env)).any (·.1) = false := by rfl) : DX X G (.Call (.Name x p) (e :: es) [] pos) (dCall sp we tas) := fun F O σ H δ Q rr q => by
  refine sem_of (pe_callG Fn at_.room at_.gd hg hm hk hb (fun σ => passAt at_.tk σ) pa_sem hdb he hpl) (semA_mono (ha F O σ H δ _ rr q) fun vs H1 ⟨F1, O1, δ1, as, e1, r1, s1, h1, q1⟩ => ?_)
  obtain ⟨F2, O2, δ2, bs, e2, r2, s2, h2, q2⟩ := r1.toAs h1 q1
  refine ⟨F2, bs, r2.ext, h2, trivial, fun _ z => z.elim, _, _, q2, fun d q v H' F' a h => ?_, fun x q dd H' F' a h => ?_⟩
  · exact Fin.ok ((e1.trans e2).trans a.ext) (r2.after a) (s1.trans s2) h q
  · exact at_.wo F' O2 σ H' δ2 x dd (r2.after a) h q
theorem dx_fnS {x : Str} {f : Addr} {fd : FuncData} {ps : List Str} {Wf : Addr → Addr → Wd} {sp : Addr → DSp} {sa sc : Addr} (at_ : At X G k W we) (hW : SubW (Wf sa sc) G.W) (Fn : FG X.prog X.w X.K X.mg X.base k f fd ps (spS X.K Wf sp)) (hm : X.mg x = some (.ref f)) (hk : PySem.W.keepIn X.K (.ref f) = true)
    (hb : Binds X.K fd ps []) (ha : DA X G (e :: es) tas) (hg : Gl X x := by rfl) (hdb : (x == ("__debug__" : Str)) = false := by decide) (he : starEach (e :: es) X.env = (false, eval e X.env) :: starEach es X.env := by rfl)
    (hpl : (backTo pos (starEach es X.env)).any (·.1) = false := by rfl) : DX X G (.Call (.Name x p) (e :: es) [] pos) (dCall (sp sa) we tas) := fun F O σ H δ Q rr q => by
  refine sem_of (pe_callG Fn at_.room at_.gd hg hm hk hb (fun σ => passAt at_.tk σ) pa_sem hdb he hpl) (semA_mono (ha F O σ H δ _ rr q) fun vs H1 ⟨F1, O1, δ1, as, e1, r1, s1, h1, q1⟩ => ?_)
  obtain ⟨F2, O2, δ2, bs, e2, r2, s2, h2, q2⟩ := r1.toAs h1 q1
  refine ⟨sa, sc, ?_⟩
  refine ⟨F2, bs, r2.ext, h2, hW.inv _ r2.inv, fun a z => r2.fpF a (hW.fp a z), _, _, q2, fun d q v H' F' a h => ?_, fun x q dd H' F' a h => ?_⟩
  · exact Fin.ok ((e1.trans e2).trans a.ext) (r2.afterS hW a) (s1.trans s2) h q
  · exact at_.wo F' O2 σ H' δ2 x dd (r2.afterS hW a) h q
end
theorem FG.of {P : Program} {w : World} {K : PySem.W.Frag} {mg : Str → Option Value} {base : Heap} {k : Nat} {f : Addr} {fd : FuncData} {ps : List Str} {sp : Sp} (F : FnOk P w K mg base (L2.CX P w) k f fd ps sp) : FG P w K mg base k f fd ps sp :=
  ⟨F.len, fun A outer s H args us vs Q E hr _ => F.run A outer s H args us vs Q E hr⟩
/-- a def that asks nothing of the guards, called -/
theorem dx_fnN {X : Cx} {G : Ctx} {e : Expr} {es : List Expr} {pos p : Pos} {tas : DAs} {k : Nat} {W : WX} {we : Wsh} {x : Str} {f : Addr} {fd : FuncData} {ps : List Str} {sp : DSp} (at_ : AtN X G k W we) (Fn : FnOk X.prog X.w X.K X.mg X.base (L2.CX X.prog X.w) k f fd ps (spX X.K Wd.nil sp)) (hm : X.mg x = some (.ref f)) (hk : PySem.W.keepIn X.K (.ref f) = true)
    (hb : Binds X.K fd ps []) (ha : DA X G (e :: es) tas) (hg : Gl X x := by rfl) (hdb : (x == ("__debug__" : Str)) = false := by decide) (he : starEach (e :: es) X.env = (false, eval e X.env) :: starEach es X.env := by rfl)
    (hpl : (backTo pos (starEach es X.env)).any (·.1) = false := by rfl) : DX X G (.Call (.Name x p) (e :: es) [] pos) (dCall sp we tas) := dx_call Fn at_.room hm hk hb at_.tk at_.wo ha hg hdb he hpl
theorem fn_okD {P : Program} {w : World} {K : PySem.W.Frag} {mg : Str → Option Value} {base : Heap} {x qual : Str} {st : Stmt} {f : Addr} {fd : FuncData} {N ps : List Str} {k : Nat} {sp : DSp} {t : (DXn → Prop) → DTS} (F : Fun K x qual st f fd) (S : FnScope N ps (defScope st)) (len : ∀ as Q E, sp as Q E → as.length = ps.length)
    (hbody : ∀ (cdv : Value) (A : Around) (outer : List Env) (s : Shared) (H : Hp) (E : XK) (G : Ctx) (W : WX) (Ed : DXn → Prop), SubW Wd.nil G.W → AtN (BodyX P w K mg base N qual st f cdv A outer s H E) G k W (fun x _ => Ed x) → PassesOwn (model P w) (BodyX P w K mg base N qual st f cdv A outer s H E).A (BodyX P w K mg base N qual st f cdv A outer s H E).env (BodyX P w K mg base N qual st f cdv A outer s H E).xe → DSs (BodyX P w K mg base N qual st f cdv A outer s H E) G (defBody st) (t Ed))
    (law : ∀ as Q E, sp as Q E → t E { nx := fun _ => Q .none, rt := Q } (startD N as)) : FnOk P w K mg base (L2.CX P w) (k + 1) f fd ps (spX K Wd.nil sp) := by
  have hlen : ∀ vs H Q E, spX K Wd.nil sp vs H Q E → vs.length = ps.length := fun vs H Q E ⟨F, as, _, ha, _, _, Qd, Ed, h, _⟩ => by
    have hl := len as Qd Ed h
    rw [← ha.len, hl]
  refine F.okX S hlen fun cdv A outer s H vs Q E hr hsp => ?_
  have hl := hlen vs H Q E hsp
  have hpl : ps.length ≤ N.length := by have := congrArg List.length S.pre; rw [List.length_take] at this; omega
  obtain ⟨F, as, e, ha, hi, hf, Qd, Ed, h, hQ, hE⟩ := hsp
  refine ⟨_, pss_sem, ?_⟩
  have r := start_ok (N := N) (by rw [hl]; exact hpl) ha e hi hf
  have At0 : AtN (BodyX P w K mg base N qual st _ cdv A outer s H E) ⟨H, F, Wd.nil⟩ k (fun cls d _ H => E cls d H) (fun x _ => Ed x) :=
    ⟨hr, takes_of rfl rfl rfl rfl, fun F' O σ H' δ x dd r hx h => hE x h dd H' F' r.toAfter hx⟩
  have q := hbody cdv A outer s H E ⟨H, F, Wd.nil⟩ _ Ed (SubW.refl _) At0 (passes_of rfl) F (fun _ => none) (start N vs) H (startD N as) { nx := fun _ => Qd .none, rt := Qd } r (law as Qd Ed h)
  refine semSs_le q ⟨fun σ' H' ⟨F', O', δ', e', r', h'⟩ => hQ .none h' .non H' F' r'.toAfter .non, fun v H' ⟨F', O', σ', δ', d, e', r', hd, h'⟩ => hQ d h' v H' F' r'.toAfter hd, fun σ' H' ⟨F', O', δ', e', r', h'⟩ => h'.elim, fun σ' H' ⟨F', O', δ', e', r', h'⟩ => h'.elim⟩
/-- what may be used inside a block -/
theorem At.blk {X : Cx} {G : Ctx} {k : Nat} {W : WX} {we : Wsh} (a : At X G k W we) (scope : Scope) (s0 : Shared) (H0 : Hp) (C : Addr) (cl : List (Str × Addr)) (fp : List Addr) : At (Bk X scope s0 H0 C cl fp) G k (fun _ _ _ _ => False) (fun _ _ => False) := by
  exact ⟨⟨a.room, takes0, wo0⟩, a.gd⟩
end DL
set_option Elab.async false
set_option linter.all false
set_option maxRecDepth 100000
set_option maxHeartbeats 2000000
/-! operations and built-ins over plain data -/
namespace L2
open PySem PyProof.Rows
section
variable {X : Cx}
/-- list + list, whatever lists -/
def rAddL (K : PySem.W.Frag) : R2 := fun x y H Q => ∃ l b xs zs, x = .ref l ∧ y = .ref b ∧ SqL K H l xs ∧ SqL K H b zs ∧ xs.length + zs.length ≤ sizeLine ∧ ∀ p, H p = none → Q (.ref p) (upd H p (.lst (xs ++ zs)))
theorem op_addL : OpR X (binaryOp .Add) (rAddL X.K) := by
  intro pins s σ H x y v u Q I rx ry h
  obtain ⟨l, b, xs, zs, rfl, rfl, hH, hB, hz, q⟩ := h
  cases rx
  cases ry
  obtain ⟨its, r, p1, z1⟩ := I.list hH
  obtain ⟨its2, r2, p2, z2⟩ := I.list hB
  have hl := r.length
  have hl2 := r2.length
  obtain ⟨⟨cls, dd, data, sl⟩, n, ho, hc, hdd, hd⟩ := p1
  obtain ⟨⟨cls2, dd2, data2, sl2⟩, n2, ho2, hc2, hdd2, hd2⟩ := p2
  simp only at hc hd hc2 hd2
  subst hc hd hc2 hd2
  have e : its.toArray ++ its2.toArray = (its ++ its2).toArray := by simp
  refine concat_meets ⟨_, ho, rfl⟩ ⟨_, ho2, rfl⟩ noFill_list_add seq_list_add PySem.F.slot_list_add PySem.F.entry_list_add (PySem.F.args_list_add_2 _ _) (list_addW l b its.toArray its2.toArray n n2 dd dd2 sl sl2 (by simp; omega)) ⟨ho, ho2, ?_⟩
  rw [e]
  exact ⟨.ref _, _, I.lnew (t' := s.toks) (r.append r2) (by rw [List.length_append]; omega), rfl, q _ I.fresh⟩
/-- how great a product may be: one factor small, or both together below 2 ^ 27 bits -/
def MulOk (i j : Int) : Prop := CMul i j ∨ CMulX i j
theorem MulOk.ok {i j : Int} (h : MulOk i j) : IntMulOk i j := h.elim CMul.ok CMulX.ok
theorem op_mulD : OpR X (binaryOp .Mult) (rI MulOk fun i j => .int (i * j)) := opI fun _ _ _ _ _ _ _ hc q => mul_int q hc.ok
/-- a text, so often -/
def repS (x : Str) (n : Nat) : Str := ⟨(List.replicate n x.cps).foldl (· ++ ·) #[]⟩
def rMulS : R2 := fun x y H Q => ∃ (i : Str) (n : Int), x = .str i ∧ y = .int n ∧ (2 ≤ n ∧ n ≤ 1000000 ∧ 1 ≤ i.length ∧ i.length * n.toNat ≤ 1000000 ∧ (repS i n.toNat).length ≤ sizeLine) ∧ Q (.str (repS i n.toNat)) H
theorem op_mulStr : OpR X (binaryOp .Mult) rMulS := by
  intro pins s σ H x y v u Q I r1 r2 h
  obtain ⟨i, n, rfl, rfl, ⟨h1, h2, h3, h4, h5⟩, q⟩ := h
  obtain ⟨t, rfl⟩ := r1
  obtain ⟨t', rfl⟩ := r2
  have hs : sizeLine = 16777216 := sizeLine_eq
  have hb : (n == 1 || i.length == 0) = false := by
    simp only [Bool.or_eq_false_iff, beq_eq_false_iff_ne, ne_eq]
    omega
  have hn : ¬ n < 1 := by omega
  have hm : ((i.length * n.toNat : Nat) : Int) ≤ 1000000 := Int.ofNat_le.mpr h4
  have hr : (decide (n < -(2 ^ 63 : Int)) || decide (n ≥ 2 ^ 63)) = false := by
    rw [decide_eq_false (by omega), decide_eq_false (by omega)]
    rfl
  refine PySem.P.mul_str hr (fun _ _ => ?_) (fun _ _ => ?_) ?_
  · have hl : (i.length : Int) ≤ 1000000 := by
      have : i.length ≤ i.length * n.toNat := Nat.le_mul_of_pos_right _ (by omega)
      omega
    have : (9223372036854 : Int) ≤ (2 ^ 63 - 1) / n := by
      rw [Int.le_ediv_iff_mul_le (by omega)]
      have : (2 : Int) ^ 63 - 1 = 9223372036854775807 := by decide
      omega
    omega
  · unfold Builtin.Str.tooLong
    rw [decide_eq_false_iff_not, hs]
    omega
  · rw [if_neg hn, if_neg (by rw [hb]; exact Bool.false_ne_true)]
    exact ⟨h5, .str _, H, I.tok _, ⟨_, rfl⟩, q⟩
theorem ip_mul : PIp X .Mult (fun x y H Q => ∃ i j, x = .int i ∧ y = .int j ∧ MulOk i j ∧ Q (.int (i * j)) H) := by
  intro pins s σ H x y v u Q I r1 r2 h
  obtain ⟨i, j, e1, e2, hc, q⟩ := h
  subst e1; subst e2
  obtain ⟨t, rfl⟩ := r1
  obtain ⟨t', rfl⟩ := r2
  exact imul_int ⟨.int _, H, I.tok _, ⟨_, rfl⟩, q⟩ hc.ok
/-- repr(x) of plain data -/
def canShow (d : PyData) : Prop := d.showable = true ∧ d.hasDict = false ∧ d.depth ≤ 64 ∧ d.shown.length ≤ sizeLine
def rRepr (K : PySem.W.Frag) : List V → Hp → VK → Prop := fun xs H Q => ∃ x d, xs = [x] ∧ Dp K H x d ∧ canShow d ∧ Q (.str d.shown) H
theorem cr_repr (hg : X.A.guards = some []) (hu : X.A.units + 65 < cLine) : CallR X (.builtin "repr") (rRepr X.K) := by
  intro pins s σ H xs us Q I r h
  obtain ⟨x, d, rfl, hd, ⟨h1, h2, h3, h4⟩, q⟩ := h
  obtain ⟨u, rfl, rx⟩ := vals1 r
  have fin : ∀ tk, EP X pins σ Q (.str d.shown tk) { s with toks := s.toks + 1 } := fun tk => ⟨.str d.shown, H, I.tok _, ⟨_, rfl⟩, q⟩
  have big : (∃ a, u = .ref a) → wpAny (model X.prog X.w) X.A (call (.builtin "repr") [u]) (EP X pins σ Q) X.xe s := by
    rintro ⟨a, rfl⟩
    obtain ⟨as, rd⟩ := Dp.reads I d x _ hd rx
    exact repr_of_reads' rd h1 (PyData.noDict_hsm h2) hg (by omega) (fun _ _ e => e) (fun h' u tk hk => ⟨.str d.shown, H, I.kept hk, ⟨_, rfl⟩, q⟩) h4
  cases d with
  | none => cases hd; cases rx; exact PySem.P.repr_of_none (fin _)
  | bool b => cases hd; cases rx; exact PySem.P.repr_of_bool (by cases b <;> exact fin _)
  | int i => cases hd; obtain ⟨t, rfl⟩ := rx; exact PySem.P.repr_of_int (by simpa [PyData.showable] using h1) (fin _)
  | str i => cases hd; obtain ⟨t, rfl⟩ := rx; exact PySem.P.repr_of_str (fin _) h4
  | list ds => cases hd; cases rx; exact big ⟨_, rfl⟩
  | tuple ds => cases hd; cases rx; exact big ⟨_, rfl⟩
  | dict _ => cases hd
end
end L2
namespace DL
open PySem L2 PyProof.Rows
section
variable {K : PySem.W.Frag} {X : Cx} {G : Ctx}
/-! ### ints -/
theorem dop_int {r : R2} {f : F2} (hf : ∀ d e Q, f d e Q → ∃ i j, d = .int i ∧ e = .int j)
    (hr : ∀ i j H (Q : VK) (Qd : D → Prop), f (.int i) (.int j) Qd → (∀ z, Qd (.int z) → Q (.int z) H) → (∀ b, Qd (.bool b) → Q (.bl b) H) → r (.int i) (.int j) H Q) : DOp K r f := fun G F O σ H δ v w d e Q Qv rr hv hw q k => by
  obtain ⟨i, j, rfl, rfl⟩ := hf _ _ _ q
  cases hv.int
  cases hw.int
  exact hr i j H Qv _ q (fun z q => k _ _ (Fin.here (av := .dat (.int z)) rr (.int z) q)) fun b q => k _ _ (Fin.here (av := .dat (.bool b)) rr (.bl b) q)
def opSub : F2
  | .int i, .int j, Q => Q (.int (i - j))
  | _, _, _ => False
def opMul : F2
  | .int i, .int j, Q => MulOk i j ∧ Q (.int (i * j))
  | _, _, _ => False
def opMulS : F2
  | .str i, .int n, Q => (2 ≤ n ∧ n ≤ 1000000 ∧ 1 ≤ i.length ∧ i.length * n.toNat ≤ 1000000 ∧ (repS i n.toNat).length ≤ sizeLine) ∧ Q (.str (repS i n.toNat))
  | _, _, _ => False
theorem dop_mulS : DOp K rMulS opMulS := fun G F O σ H δ v w d e Q Qv rr hv hw q k => by
  cases d with
  | str i =>
    cases e with
    | int n => cases hv.str; cases hw.int; exact ⟨i, n, rfl, rfl, q.1, k _ _ (Fin.here (av := .dat (.str _)) rr (.str _) q.2)⟩
    | _ => exact q.elim
  | _ => exact q.elim
def opDiv : F2
  | .int i, .int j, Q => (0 < j ∧ j.natAbs.log2 < 9000) ∧ Q (.int (i / j))
  | _, _, _ => False
def opMod : F2
  | .int i, .int j, Q => 0 < j ∧ Q (.int (i % j))
  | _, _, _ => False
def opPow : F2
  | .int i, .int j, Q => (0 ≤ j ∧ j ≤ 1000000 ∧ i.natAbs < 2 ^ 64) ∧ Q (.int (i ^ j.toNat))
  | _, _, _ => False
def opLt : F2
  | .int i, .int j, Q => Q (.bool (decide (i < j)))
  | _, _, _ => False
def opLe : F2
  | .int i, .int j, Q => Q (.bool (decide (i ≤ j)))
  | _, _, _ => False
def opGt : F2
  | .int i, .int j, Q => Q (.bool (decide (j < i)))
  | _, _, _ => False
def opGe : F2
  | .int i, .int j, Q => Q (.bool (decide (j ≤ i)))
  | _, _, _ => False
section
local macro_rules | `(tactic| decreasing_tactic) => `(tactic| (intro d e Q h; cases d <;> cases e <;> first | exact ⟨_, _, rfl, rfl⟩ | exact False.elim h))
theorem int_sub : ∀ d e Q, opSub d e Q → ∃ i j, d = .int i ∧ e = .int j := by decreasing_tactic
theorem int_mul : ∀ d e Q, opMul d e Q → ∃ i j, d = .int i ∧ e = .int j := by decreasing_tactic
theorem int_div : ∀ d e Q, opDiv d e Q → ∃ i j, d = .int i ∧ e = .int j := by decreasing_tactic
theorem int_mod : ∀ d e Q, opMod d e Q → ∃ i j, d = .int i ∧ e = .int j := by decreasing_tactic
theorem int_pow : ∀ d e Q, opPow d e Q → ∃ i j, d = .int i ∧ e = .int j := by decreasing_tactic
theorem int_lt : ∀ d e Q, opLt d e Q → ∃ i j, d = .int i ∧ e = .int j := by decreasing_tactic
theorem int_le : ∀ d e Q, opLe d e Q → ∃ i j, d = .int i ∧ e = .int j := by decreasing_tactic
theorem int_gt : ∀ d e Q, opGt d e Q → ∃ i j, d = .int i ∧ e = .int j := by decreasing_tactic
theorem int_ge : ∀ d e Q, opGe d e Q → ∃ i j, d = .int i ∧ e = .int j := by decreasing_tactic
end
theorem dop_sub : DOp K (rI0 fun i j => .int (i - j)) opSub := dop_int int_sub fun i j H Q Qd q h1 h2 => ⟨i, j, rfl, rfl, h1 _ q⟩
theorem dop_mul : DOp K (rI MulOk fun i j => .int (i * j)) opMul := dop_int int_mul fun i j H Q Qd q h1 h2 => ⟨i, j, rfl, rfl, q.1, h1 _ q.2⟩
theorem dop_div : DOp K (rI CDivW fun i j => .int (i / j)) opDiv := dop_int int_div fun i j H Q Qd q h1 h2 => ⟨i, j, rfl, rfl, q.1, h1 _ q.2⟩
theorem dop_mod : DOp K (rI (fun _ j => 0 < j) fun i j => .int (i % j)) opMod := dop_int int_mod fun i j H Q Qd q h1 h2 => ⟨i, j, rfl, rfl, q.1, h1 _ q.2⟩
theorem dop_pow : DOp K (rI CPow fun i j => .int (i ^ j.toNat)) opPow := dop_int int_pow fun i j H Q Qd q h1 h2 => ⟨i, j, rfl, rfl, q.1, h1 _ q.2⟩
theorem dop_lt : DOp K (rI0 fun i j => .bl (decide (i < j))) opLt := dop_int int_lt fun i j H Q Qd q h1 h2 => ⟨i, j, rfl, rfl, h2 _ q⟩
theorem dop_le : DOp K (rI0 fun i j => .bl (decide (i ≤ j))) opLe := dop_int int_le fun i j H Q Qd q h1 h2 => ⟨i, j, rfl, rfl, h2 _ q⟩
theorem dop_gt : DOp K (rI0 fun i j => .bl (decide (j < i))) opGt := dop_int int_gt fun i j H Q Qd q h1 h2 => ⟨i, j, rfl, rfl, h2 _ q⟩
theorem dop_ge : DOp K (rI0 fun i j => .bl (decide (j ≤ i))) opGe := dop_int int_ge fun i j H Q Qd q h1 h2 => ⟨i, j, rfl, rfl, h2 _ q⟩
theorem dip_sub : DOp K (ipI fun i j => i - j) opSub := dop_int int_sub fun i j H Q Qd q h1 h2 => ⟨i, j, rfl, rfl, h1 _ q⟩
theorem dip_mul : DOp K (fun x y H Q => ∃ i j, x = .int i ∧ y = .int j ∧ MulOk i j ∧ Q (.int (i * j)) H) opMul := dop_int int_mul fun i j H Q Qd q h1 h2 => ⟨i, j, rfl, rfl, q.1, h1 _ q.2⟩
def opAddI : F2
  | .int i, .int j, Q => Q (.int (i + j))
  | _, _, _ => False
theorem dip_add : DOp K (ipI fun i j => i + j) opAddI := dop_int (by intro d e Q h; cases d <;> cases e <;> first | exact ⟨_, _, rfl, rfl⟩ | exact False.elim h) fun i j H Q Qd q h1 h2 => ⟨i, j, rfl, rfl, h1 _ q⟩
/-! ### +, a list made by it -/
def opAdd : F2
  | .int i, .int j, Q => Q (.int (i + j))
  | .str i, .str j, Q => i.length + j.length ≤ 16777216 ∧ Q (.str (i ++ j))
  | .list xs, .list ys, Q => xs.length + ys.length ≤ 1000000 ∧ Q (.list (xs ++ ys))
  | .tuple xs, .tuple ys, Q => xs.length + ys.length ≤ 1000000 ∧ Q (.tuple (xs ++ ys))
  | _, _, _ => False
def rAdd (K : PySem.W.Frag) : R2 := fun x y H Q => rI0 (fun i j => .int (i + j)) x y H Q ∨ (∃ i j, x = .str i ∧ y = .str j ∧ i.length + j.length ≤ sizeLine ∧ Q (.str (i ++ j)) H) ∨ rAddL K x y H Q ∨ rCatA K x y H Q
theorem op_addD : OpR X (binaryOp .Add) (rAdd X.K) := op_add.or (op_add_str.or (op_addL.or op_catA))
theorem DpAll.nil_iff {F : Hp} {vs : List V} {ds : List D} (h : DpAll K F vs ds) : vs = [] ↔ ds = [] := by
  cases h <;> simp
theorem dop_add : DOp K (rAdd K) opAdd := fun G F O σ H δ v w d e Q Qv rr hv hw q k => by
  cases d with
  | int i =>
    cases e with
    | int j => cases hv.int; cases hw.int; exact .inl ⟨i, j, rfl, rfl, k _ _ (Fin.here (av := .dat (.int (i + j))) rr (.int _) q)⟩
    | _ => exact q.elim
  | str i =>
    cases e with
    | str j => cases hv.str; cases hw.str; exact .inr (.inl ⟨i, j, rfl, rfl, q.1, k _ _ (Fin.here (av := .dat (.str (i ++ j))) rr (.str _) q.2)⟩)
    | _ => exact q.elim
  | list xs =>
    cases e with
    | list ys =>
      obtain ⟨l, vs, rfl, h1, h2⟩ := hv.list rr.ext
      obtain ⟨b, ws, rfl, h3, h4⟩ := hw.list rr.ext
      exact .inr (.inr (.inl ⟨l, b, vs, ws, rfl, rfl, h1, h3, by rw [h2.len, h4.len]; exact Nat.le_trans q.1 (by decide), fun p hp => k _ _ (rr.newLst hp (h2.app h4) q.2)⟩))
    | _ => exact q.elim
  | tuple xs =>
    cases e with
    | tuple ys =>
      obtain ⟨l, vs, rfl, h1, h2⟩ := hv.tuple rr.ext
      obtain ⟨b, ws, rfl, h3, h4⟩ := hw.tuple rr.ext
      have dv : xs = [] → Dp K F (.ref b) (.tuple (xs ++ ys)) := fun e => by
        subst e
        rcases hw with hw | ⟨_, _, _, _, e1, _, _⟩
        · exact hw
        · cases e1
      have dw : ys = [] → Dp K F (.ref l) (.tuple (xs ++ ys)) := fun e => by
        subst e
        rw [List.append_nil]
        rcases hv with hw | ⟨_, _, _, _, e1, _, _⟩
        · exact hw
        · cases e1
      exact .inr (.inr (.inr ⟨l, b, vs, ws, rfl, rfl, h1, h3, by rw [h2.len, h4.len]; exact Nat.le_trans q.1 (by decide),
        fun z => k _ _ (Fin.here (av := .dat _) rr (dv ((DpAll.nil_iff h2).mp z)) q.2), fun _ z => k _ _ (Fin.here (av := .dat _) rr (dw ((DpAll.nil_iff h4).mp z)) q.2), fun _ _ p hp => k _ _ (rr.newTup hp (h2.app h4) q.2)⟩))
    | _ => exact q.elim
  | _ => exact q.elim
/-! ### ==, !=, is None -/
def opEq : F2
  | .str i, .str j, Q => Q (.bool (PyData.eqv (.str i) (.str j)))
  | d, e, Q => (SeqAt.shaped d = true ∧ SeqAt.shaped e = true) ∧ Q (.bool (PyData.eqv d e))
def opNe : F2
  | .str i, .str j, Q => Q (.bool (!PyData.eqv (.str i) (.str j)))
  | d, e, Q => (SeqAt.shaped d = true ∧ SeqAt.shaped e = true) ∧ Q (.bool (!PyData.eqv d e))
def rEqS : R2 := fun x y H Q => ∃ i j, x = .str i ∧ y = .str j ∧ Q (.bl (i == j)) H
def rNeS : R2 := fun x y H Q => ∃ i j, x = .str i ∧ y = .str j ∧ Q (.bl (!(i == j))) H
theorem dec_strV (i j : Str) : decide (V.str i = V.str j) = (i == j) := by
  rw [Bool.eq_iff_iff]
  simp
theorem op_eqS : OpR X (compareOp .Eq) rEqS := fun pins s σ H x y v u Q I rx ry h => by
  obtain ⟨i, j, rfl, rfl, q⟩ := h
  exact op_eq pins s σ H _ _ v u Q I rx ry ⟨rfl, by rw [dec_strV]; exact q⟩
theorem op_neS : OpR X (compareOp .NotEq) rNeS := fun pins s σ H x y v u Q I rx ry h => by
  obtain ⟨i, j, rfl, rfl, q⟩ := h
  exact op_ne pins s σ H _ _ v u Q I rx ry ⟨rfl, by rw [dec_strV]; exact q⟩
def rEqE (K : PySem.W.Frag) : R2 := fun x y H Q => rEqD K x y H Q ∨ rEqS x y H Q
def rNeE (K : PySem.W.Frag) : R2 := fun x y H Q => rNeD K x y H Q ∨ rNeS x y H Q
theorem op_eqE (hu : X.A.units + 64 < cLine) : OpR X (compareOp .Eq) (rEqE X.K) := (op_eqD hu).or op_eqS
theorem op_neE (hu : X.A.units + 64 < cLine) : OpR X (compareOp .NotEq) (rNeE X.K) := (op_neD hu).or op_neS
theorem dop_eq : DOp K (rEqE K) opEq := fun G F O σ H δ v w d e Q Qv rr hv hw q k => by
  have gen : (SeqAt.shaped d = true ∧ SeqAt.shaped e = true) ∧ Q (.dat (.bool (PyData.eqv d e))) δ → rEqE K v w H Qv := fun q =>
    .inl ⟨d, e, hv.dp rr.ext, hw.dp rr.ext, q.1.1, q.1.2, k _ _ (Fin.here (av := .dat (.bool (PyData.eqv d e))) rr (.bl _) q.2)⟩
  match d, e, q with
  | .str i, .str j, q =>
    cases hv.str; cases hw.str
    have q' : Q (.dat (.bool (PyData.eqv (.str i) (.str j)))) δ := q
    rw [show PyData.eqv (.str i) (.str j) = (i == j) by simp [PyData.eqv]] at q'
    exact .inr ⟨i, j, rfl, rfl, k _ _ (Fin.here (av := .dat (.bool (i == j))) rr (.bl _) q')⟩
  | .str i, .none, q | .str i, .bool _, q | .str i, .int _, q | .str i, .list _, q | .str i, .tuple _, q | .str i, .dict _, q => exact gen q
  | .none, e, q | .bool _, e, q | .int _, e, q | .list _, e, q | .tuple _, e, q | .dict _, e, q => exact gen q
theorem dop_ne : DOp K (rNeE K) opNe := fun G F O σ H δ v w d e Q Qv rr hv hw q k => by
  have gen : (SeqAt.shaped d = true ∧ SeqAt.shaped e = true) ∧ Q (.dat (.bool (!PyData.eqv d e))) δ → rNeE K v w H Qv := fun q =>
    .inl ⟨d, e, hv.dp rr.ext, hw.dp rr.ext, q.1.1, q.1.2, k _ _ (Fin.here (av := .dat (.bool (!PyData.eqv d e))) rr (.bl _) q.2)⟩
  match d, e, q with
  | .str i, .str j, q =>
    cases hv.str; cases hw.str
    have q' : Q (.dat (.bool (!PyData.eqv (.str i) (.str j)))) δ := q
    rw [show PyData.eqv (.str i) (.str j) = (i == j) by simp [PyData.eqv]] at q'
    exact .inr ⟨i, j, rfl, rfl, k _ _ (Fin.here (av := .dat (.bool !(i == j))) rr (.bl _) q')⟩
  | .str i, .none, q | .str i, .bool _, q | .str i, .int _, q | .str i, .list _, q | .str i, .tuple _, q | .str i, .dict _, q => exact gen q
  | .none, e, q | .bool _, e, q | .int _, e, q | .list _, e, q | .tuple _, e, q | .dict _, e, q => exact gen q
def isNone : D → Bool
  | .none => true
  | _ => false
def opIs : F2
  | d, .none, Q => Q (.bool (isNone d))
  | _, _, _ => False
def opIsNot : F2
  | d, .none, Q => Q (.bool (!isNone d))
  | _, _, _ => False
theorem Shal.isNone {F H : Hp} {v : V} {d : D} (h : Shal K F H v d) : decide (v = .non) = DL.isNone d := by
  rcases h with h | ⟨l, vs, ds, rfl, rfl, _, _⟩
  · cases h <;> simp [DL.isNone]
  · simp [DL.isNone]
def rIsD : R2 := fun x y H Q => y = .non ∧ Q (.bl (decide (x = .non))) H
def rNotD : R2 := fun x y H Q => y = .non ∧ Q (.bl (!decide (x = .non))) H
theorem op_isD : OpR X (compareOp .Is) rIsD := op_isN
theorem op_notD : OpR X (compareOp .IsNot) rNotD := op_notN
theorem dop_is : DOp K rIsD opIs := fun G F O σ H δ v w d e Q Qv rr hv hw q k => by
  cases e with
  | none =>
    cases hw.none
    refine ⟨rfl, ?_⟩
    rw [hv.isNone]
    exact k _ _ (Fin.here (av := .dat (.bool (DL.isNone d))) rr (.bl _) q)
  | _ => exact q.elim
theorem dop_isNot : DOp K rNotD opIsNot := fun G F O σ H δ v w d e Q Qv rr hv hw q k => by
  cases e with
  | none =>
    cases hw.none
    refine ⟨rfl, ?_⟩
    rw [hv.isNone]
    exact k _ _ (Fin.here (av := .dat (.bool (!DL.isNone d))) rr (.bl _) q)
  | _ => exact q.elim
/-! ### built-ins -/
theorem shal_one {F H : Hp} {d : D} {vs : List V} (h : ShalAll K F H [d] vs) : ∃ v, vs = [v] ∧ Shal K F H v d := by
  cases h with
  | cons h t => cases t; exact ⟨_, rfl, h⟩
def fAbs : FB
  | [.int i], Q => Q (.int (i.natAbs : Int))
  | _, _ => False
theorem abs_eq (i : Int) : (if i < 0 then -i else i) = (i.natAbs : Int) := by
  split <;> omega
theorem dc_abs : DCl K (fun xs H Q => ∃ i, xs = [.int i] ∧ Q (.int (if i < 0 then -i else i)) H) fAbs := fun G F O σ H δ ds vs Q Qv rr hv q k => by
  match ds, q with
  | [.int i], q =>
    obtain ⟨v, rfl, h⟩ := shal_one hv
    cases h.int
    refine ⟨i, rfl, ?_⟩
    rw [abs_eq]
    exact k _ _ (Fin.here (av := .dat (.int _)) rr (.int _) q)
def fLen : FB
  | [.list ds], Q => Q (.int (ds.length : Int))
  | [.tuple ds], Q => Q (.int (ds.length : Int))
  | [.str x], Q => x.length ≤ sizeLine ∧ Q (.int (x.length : Int))
  | _, _ => False
theorem dc_len : DCl K (fun xs H Q => ∃ x n, xs = [x] ∧ LenV K x H n ∧ Q (.int n) H) fLen := fun G F O σ H δ ds vs Q Qv rr hv q k => by
  match ds, q with
  | [.list ds], q =>
    obtain ⟨v, rfl, h⟩ := shal_one hv
    obtain ⟨l, vs, rfl, h1, h2⟩ := h.list rr.ext
    exact ⟨_, ds.length, rfl, .inl ⟨vs, h1, h2.len.symm⟩, k _ _ (Fin.here (av := .dat (.int _)) rr (.int _) q)⟩
  | [.tuple ds], q =>
    obtain ⟨v, rfl, h⟩ := shal_one hv
    obtain ⟨l, vs, rfl, h1, h2⟩ := h.tuple rr.ext
    exact ⟨_, ds.length, rfl, .inr ⟨vs, h1, h2.len.symm⟩, k _ _ (Fin.here (av := .dat (.int _)) rr (.int _) q)⟩
  | [.str x], q =>
    obtain ⟨v, rfl, h⟩ := shal_one hv
    cases h.str
    exact ⟨_, x.length, rfl, ⟨q.1, rfl⟩, k _ _ (Fin.here (av := .dat (.int _)) rr (.int _) q.2)⟩
def fMax : FB
  | [.int i, .int j], Q => Q (.int (max i j))
  | _, _ => False
def fMin : FB
  | [.int i, .int j], Q => Q (.int (min i j))
  | _, _ => False
theorem dc_max : DCl K (fun xs H Q => ∃ i j, xs = [.int i, .int j] ∧ Q (.int (if j > i then j else i)) H) fMax := fun G F O σ H δ ds vs Q Qv rr hv q k => by
  match ds, q with
  | [.int i, .int j], q =>
    obtain ⟨ws, rfl, h2⟩ := shal_int hv
    obtain ⟨ws2, rfl, h3⟩ := shal_int h2
    cases shal_nil h3
    refine ⟨i, j, rfl, ?_⟩
    rw [show (if j > i then j else i) = max i j by split <;> omega]
    exact k _ _ (Fin.here (av := .dat (.int _)) rr (.int _) q)
theorem dc_min : DCl K (fun xs H Q => ∃ i j, xs = [.int i, .int j] ∧ Q (.int (if j < i then j else i)) H) fMin := fun G F O σ H δ ds vs Q Qv rr hv q k => by
  match ds, q with
  | [.int i, .int j], q =>
    obtain ⟨ws, rfl, h2⟩ := shal_int hv
    obtain ⟨ws2, rfl, h3⟩ := shal_int h2
    cases shal_nil h3
    refine ⟨i, j, rfl, ?_⟩
    rw [show (if j < i then j else i) = min i j by split <;> omega]
    exact k _ _ (Fin.here (av := .dat (.int _)) rr (.int _) q)
theorem CallR.or {f : Value} {r r' : List V → Hp → VK → Prop} (h : CallR X f r) (h' : CallR X f r') : CallR X f (fun xs H Q => r xs H Q ∨ r' xs H Q) := by
  intro pins s σ H xs us Q I rx q
  rcases q with q | q
  · exact h pins s σ H xs us Q I rx q
  · exact h' pins s σ H xs us Q I rx q
def fInt : FB
  | [.int i], Q => Q (.int i)
  | [.bool b], Q => Q (.int (if b then 1 else 0))
  | [.str a], Q => ∃ n, (PySem.intText? a = some n ∧ a.length ≤ 640) ∧ Q (.int n)
  | _, _ => False
def rInt : List V → Hp → VK → Prop := fun xs H Q => ((∃ i, xs = [.int i] ∧ Q (.int i) H) ∨ ∃ k, xs = [.bl k] ∧ Q (.int (if k then 1 else 0)) H) ∨ (∃ a n, xs = [.str a] ∧ PySem.intText? a = some n ∧ a.length ≤ 640 ∧ Q (.int n) H)
theorem call_intD : CallR X (.type "int") rInt := CallR.or call_int1 call_int_str
theorem dc_int : DCl K rInt fInt := fun G F O σ H δ ds vs Q Qv rr hv q k => by
  match ds, q with
  | [.int i], q =>
    obtain ⟨v, rfl, h⟩ := shal_one hv
    cases h.int
    exact .inl (.inl ⟨i, rfl, k _ _ (Fin.here (av := .dat (.int _)) rr (.int _) q)⟩)
  | [.bool i], q =>
    obtain ⟨v, rfl, h⟩ := shal_one hv
    cases h.bool
    exact .inl (.inr ⟨i, rfl, k _ _ (Fin.here (av := .dat (.int _)) rr (.int _) q)⟩)
  | [.str a], ⟨n, ⟨h1, h2⟩, q⟩ =>
    obtain ⟨v, rfl, h⟩ := shal_one hv
    cases h.str
    exact .inr ⟨a, n, rfl, h1, h2, k _ _ (Fin.here (av := .dat (.int _)) rr (.int _) q)⟩
def fStr : FB
  | [.int i], Q => i.natAbs.log2 < 1920 ∧ Q (.str (toString i))
  | _, _ => False
theorem dc_str : DCl K (fun xs H Q => ∃ i, xs = [.int i] ∧ i.natAbs.log2 < 1920 ∧ Q (.str (toString i)) H) fStr := fun G F O σ H δ ds vs Q Qv rr hv q k => by
  match ds, q with
  | [.int i], q =>
    obtain ⟨v, rfl, h⟩ := shal_one hv
    cases h.int
    exact ⟨i, rfl, q.1, k _ _ (Fin.here (av := .dat (.str _)) rr (.str _) q.2)⟩
def fRepr : FB
  | [d], Q => canShow d ∧ Q (.str d.shown)
  | _, _ => False
theorem dc_repr : DCl K (rRepr K) fRepr := fun G F O σ H δ ds vs Q Qv rr hv q k => by
  match ds, q with
  | [d], q =>
    obtain ⟨v, rfl, h⟩ := shal_one hv
    exact ⟨v, d, rfl, h.dp rr.ext, q.1, k _ _ (Fin.here (av := .dat (.str _)) rr (.str _) q.2)⟩
def fTuple : FB
  | [.list ds], Q => Q (.tuple ds)
  | [.tuple ds], Q => Q (.tuple ds)
  | _, _ => False
theorem dc_tuple : DCl K (fun xs H Q => ∃ p ys, xs = [.ref p] ∧ ((SqL K H p ys ∧ ∀ l, H l = none → Q (.ref l) (upd H l (.tup ys))) ∨ (SqT K H p ys ∧ Q (.ref p) H))) fTuple := fun G F O σ H δ ds vs Q Qv rr hv q k => by
  match ds, q with
  | [.list ds], q =>
    obtain ⟨v, rfl, h⟩ := shal_one hv
    obtain ⟨l, vs, rfl, h1, h2⟩ := h.list rr.ext
    exact ⟨l, vs, rfl, .inl ⟨h1, fun p hp => k _ _ (rr.newTup hp h2 q)⟩⟩
  | [.tuple ds], q =>
    obtain ⟨v, rfl, h⟩ := shal_one hv
    obtain ⟨l, vs, rfl, h1, h2⟩ := h.tuple rr.ext
    refine ⟨l, vs, rfl, .inr ⟨h1, k _ _ (Fin.here (av := .dat (.tuple ds)) rr ?_ q)⟩⟩
    rcases h with h | ⟨_, _, _, _, e1, _, _⟩
    · exact h
    · cases e1
def fList : FBN
  | [.list ds], Q => Q (.lst ds)
  | [.tuple ds], Q => Q (.lst ds)
  | _, _ => False
theorem dc_list : DClN K (fun xs H Q => ∃ p ys, xs = [.ref p] ∧ (SqL K H p ys ∨ SqT K H p ys) ∧ ∀ l, H l = none → Q (.ref l) (upd H l (.lst ys))) fList := fun G F O σ H δ ds vs Q Qv rr hv q k => by
  match ds, q with
  | [.list ds], q =>
    obtain ⟨v, rfl, h⟩ := shal_one hv
    obtain ⟨l, vs, rfl, h1, h2⟩ := h.list rr.ext
    exact ⟨l, vs, rfl, .inl h1, fun p hp => k _ _ (rr.ownLst hp h2 q)⟩
  | [.tuple ds], q =>
    obtain ⟨v, rfl, h⟩ := shal_one hv
    obtain ⟨l, vs, rfl, h1, h2⟩ := h.tuple rr.ext
    exact ⟨l, vs, rfl, .inr h1, fun p hp => k _ _ (rr.ownLst hp h2 q)⟩
/-- sorted of a list of ints: asked is what is so of every sorted order of it -/
def fSorted : FBN
  | [.list ds], Q => ∃ ns : List Int, ds = ns.map PyData.int ∧ ∀ ns' : List Int, ns'.Perm ns → ns'.Pairwise (· ≤ ·) → Q (.lst (ns'.map PyData.int))
  | _, _ => False
theorem dc_sorted : DClN K (rSortedI K) fSorted := fun G F O σ H δ ds vs Q Qv rr hv q k => by
  match ds, q with
  | [.list ds], ⟨ns, e, q⟩ =>
    subst e
    obtain ⟨v, rfl, h⟩ := shal_one hv
    obtain ⟨l, vs, rfl, h1, h2⟩ := h.list rr.ext
    cases h2.ints_inv
    exact ⟨l, ns, rfl, h1, fun ns' p hp hs hn => k _ _ (rr.ownLst hn (DpAll.ints ns') (q ns' hp hs))⟩
def fSum : FB
  | [.list ds], Q => ∃ ns : List Int, ds = ns.map PyData.int ∧ Q (.int ns.sum)
  | _, _ => False
theorem dc_sum : DCl K (rSum K) fSum := fun G F O σ H δ ds vs Q Qv rr hv q k => by
  match ds, q with
  | [.list ds], ⟨ns, e, q⟩ =>
    subst e
    obtain ⟨v, rfl, h⟩ := shal_one hv
    obtain ⟨l, vs, rfl, h1, h2⟩ := h.list rr.ext
    cases h2.ints_inv
    exact ⟨l, ns, rfl, h1, k _ _ (Fin.here (av := .dat (.int _)) rr (.int _) q)⟩
def fAll : FB
  | [.list ds], Q => ∃ bs : List Bool, ds = bs.map PyData.bool ∧ Q (.bool (bs.all id))
  | _, _ => False
def fAny : FB
  | [.list ds], Q => ∃ bs : List Bool, ds = bs.map PyData.bool ∧ Q (.bool (bs.any id))
  | _, _ => False
theorem dc_all : DCl K (rAll K) fAll := fun G F O σ H δ ds vs Q Qv rr hv q k => by
  match ds, q with
  | [.list ds], ⟨ns, e, q⟩ =>
    subst e
    obtain ⟨v, rfl, h⟩ := shal_one hv
    obtain ⟨l, vs, rfl, h1, h2⟩ := h.list rr.ext
    cases h2.bools_inv
    exact ⟨l, ns, rfl, h1, k _ _ (Fin.here (av := .dat (.bool _)) rr (.bl _) q)⟩
theorem dc_any : DCl K (rAny K) fAny := fun G F O σ H δ ds vs Q Qv rr hv q k => by
  match ds, q with
  | [.list ds], ⟨ns, e, q⟩ =>
    subst e
    obtain ⟨v, rfl, h⟩ := shal_one hv
    obtain ⟨l, vs, rfl, h1, h2⟩ := h.list rr.ext
    cases h2.bools_inv
    exact ⟨l, ns, rfl, h1, k _ _ (Fin.here (av := .dat (.bool _)) rr (.bl _) q)⟩
end
theorem mul_r {i j : Int} (h1 : -(2 ^ 64) < j) (h2 : j < 2 ^ 64) : MulOk i j := .inl (.inr ⟨h1, h2⟩)
theorem mul_l {i j : Int} (h1 : -(2 ^ 64) < i) (h2 : i < 2 ^ 64) : MulOk i j := .inl (.inl ⟨h1, h2⟩)
theorem mul_bits {i j : Int} {a b : Nat} (h1 : i.natAbs < 2 ^ a) (h2 : j.natAbs < 2 ^ b) (h : a + b ≤ 134217728) : MulOk i j := by
  refine .inr ?_
  have b1 := PyProof.Rows.intBits_le h1
  have b2 := PyProof.Rows.intBits_le h2
  unfold CMulX
  omega
end DL
set_option Elab.async false
set_option linter.all false
set_option maxRecDepth 100000
set_option maxHeartbeats 2000000
/-! methods of one's own lists; methods of numbers -/
namespace DL
open PySem L2 PyProof.Rows
theorem Stp.setOwn {K : PySem.W.Frag} {G : Ctx} {F : Hp} {O : Addr → Option OC} {σ : L2.St} {H : Hp} {δ : DSt} {i : Nat} {c c' : OC} {p : Addr} (r : R K G F O σ H δ) (h : δ[i]? = some (.own c)) (hp : σ[i]? = some (some (.ref p))) : Stp σ O δ (updO O p c') (δ.set i (.own c')) := by
  refine ⟨fun a d e n => ?_, fun j d hj => ?_⟩
  · rw [updO_ne fun z => n i ⟨⟨c, h⟩, by rw [z]; exact hp⟩]
    exact e
  · by_cases z : i = j
    · subst z
      exact ⟨c, h⟩
    · rw [List.getElem?_set_ne z] at hj
      exact ⟨d, hj⟩
section
variable {X : Cx} {G : Ctx} {e a b : Expr} {es : List Expr} {t : DE} {tas : DAs} {pos p apos cpos : Pos}
def dAppend (i : Nat) (t : DE) : DE := fun δ Q => t δ fun av δ1 => toD av δ1 fun d δ2 => match δ2[i]? with
  | some (.own (.lst ds)) => ds.length < 1000000 ∧ withSet δ2 i (.own (.lst (ds ++ [d]))) (Q (.dat .none))
  | _ => False
theorem own_back {K : PySem.W.Frag} {F F1 F2 : Hp} {O O1 O2 : Addr → Option OC} {σ : L2.St} {H2 : Hp} {δ δ1 δ2 : DSt} {i : Nat} {c : OC} (s : Stp σ O δ O2 δ2) (h : δ2[i]? = some (.own c)) : ∃ c0, δ[i]? = some (.own c0) := s.slots i c h
theorem own_lst {K : PySem.W.Frag} {F : Hp} {O : Addr → Option OC} {σ : L2.St} {H : Hp} {δ : DSt} {i : Nat} {ds : List D} (r : R K G F O σ H δ) (h : δ[i]? = some (.own (.lst ds))) : ∃ p vs, σ[i]? = some (some (.ref p)) ∧ O p = some (.lst ds) ∧ H p = some (.lst vs) ∧ DpAll K F vs ds := by
  obtain ⟨p, hp, hO⟩ := r.own_at h
  obtain ⟨_, _, _, ho, h4, h5⟩ := r.own p _ hO
  cases ho with
  | lst vs => exact ⟨p, vs, hp, hO, h4, h5⟩
  | _ => exact h5.elim
/-- the list at slot i, ahead of its method: who it is -/
def hasLst (i : Nat) : DSt → Prop := fun δ => match δ[i]? with
  | some (.own (.lst _)) => True
  | _ => False
theorem hasLst_of {δ : DSt} {i : Nat} (h : hasLst i δ) : ∃ ds, δ[i]? = some (.own (.lst ds)) := by
  unfold hasLst at h
  split at h
  · exact ⟨_, by assumption⟩
  · exact h.elim
def dMeth (i : Nat) (t : DE) : DE := fun δ Q => match δ[i]? with
  | some (.own (.lst _)) => t δ Q
  | _ => False
theorem dx_append (i : Nat) {x : Str} (h : DX X G e t) (hN : X.N[i]? = some x := by rfl) (hv : Vis X.env.scope x := by first | exact Or.inl rfl | exact Or.inr (Or.inl rfl) | exact Or.inr (Or.inr rfl)) (hd : (x == ("__debug__" : Str)) = false := by decide)
    (hcd : (x == ("__classdict__" : Str)) = false := by decide) (hs : starEach [e] X.env = (false, eval e X.env) :: starEach [] X.env := by rfl)
    (hfew : ((backTo cpos (starEach [e] X.env)).all (fun x => !x.1) && (backToKw cpos (keywordEach [] X.env)).all (fun x => x.1.isSome)
      && decide (([e] : List Expr).length + ([] : List Keyword).length + (if ([] : List Keyword).isEmpty then 0 else 1) < 30)) = true := by rfl)
    (hline : (apos.endLine == cpos.line) = true := by rfl) (hbase : attributeBase (.Name x p) "append" X.env (eval (.Name x p) X.env) = eval (.Name x p) X.env := by rfl) : DX X G (.Call (.Attribute (.Name x p) "append" apos) [e] [] cpos) (dMeth i (dAppend i t)) := fun F O σ H δ Q rr q => by
  unfold dMeth at q
  split at q
  · rename_i ds0 h0
    obtain ⟨l, vs0, hσ, _, hH0, _⟩ := own_lst rr h0
    refine sem_of (pe_bm PySem.F.plainAttrs_list PySem.F.slot_list_append PySem.F.type_list_append mt_append (pe_var hN hv hd hcd) (pa_cons pe_sem pa_nil hs) hbase hfew hline hs) ⟨.ref l, hσ, Or.inl ⟨rfl, _, SqL.of hH0⟩, ?_⟩
    refine sem_mono (h F O σ H δ _ rr q) fun v H1 ⟨F1, O1, δ1, av, e1, r1, s1, h1, q1⟩ => ?_
    obtain ⟨F2, O2, δ2, d, e2, r2, s2, h2, q2⟩ := r1.toD h1 q1
    split at q2
    · rename_i ds hds
      obtain ⟨l2, vs, hσ2, hO, hH, hd⟩ := own_lst r2 hds
      rw [hσ] at hσ2
      cases hσ2
      have q3 := withSet_ok q2.2
      refine ⟨l, vs, v, rfl, rfl, hH, by rw [hd.len]; exact Nat.lt_trans q2.1 (by decide), ?_⟩
      have r3 := r2.writeAt (c' := .lst (ds ++ [d])) (ho' := .lst (vs ++ [v])) hds hσ hO (show DpAll X.K F2 (vs ++ [v]) (ds ++ [d]) from hd.app (.cons h2 .nil))
      exact Fin.ok (e1.trans e2) r3 ((s1.trans s2).trans (Stp.setOwn r2 hds hσ)) .non q3
    · exact q2.elim
  · exact q.elim
/-- x.pop() -/
def dPop (i : Nat) : DE := fun δ Q => match δ[i]? with
  | some (.own (.lst ds)) => ∃ d, ds[ds.length - 1]? = some d ∧ withSet δ i (.own (.lst ds.dropLast)) (Q (.dat d))
  | _ => False
theorem dx_pop (i : Nat) {x : Str} (hN : X.N[i]? = some x := by rfl) (hv : Vis X.env.scope x := by first | exact Or.inl rfl | exact Or.inr (Or.inl rfl) | exact Or.inr (Or.inr rfl)) (hd : (x == ("__debug__" : Str)) = false := by decide)
    (hcd : (x == ("__classdict__" : Str)) = false := by decide)
    (hline : (apos.endLine == cpos.line) = true := by rfl) (hbase : attributeBase (.Name x p) "pop" X.env (eval (.Name x p) X.env) = eval (.Name x p) X.env := by rfl) : DX X G (.Call (.Attribute (.Name x p) "pop" apos) [] [] cpos) (dPop i) := fun F O σ H δ Q rr q => by
  unfold dPop at q
  split at q
  · rename_i ds h0
    obtain ⟨l, vs, hσ, hO, hH, hd⟩ := own_lst rr h0
    obtain ⟨d, hlast, q⟩ := q
    obtain ⟨v, hv2, dv⟩ := hd.get hlast
    refine sem_of (pe_bm0 PySem.F.plainAttrs_list PySem.F.slot_list_pop PySem.F.type_list_pop mt_pop (pe_var hN hv ‹_› hcd) hbase hline) ⟨.ref l, hσ, Or.inl ⟨rfl, _, SqL.of hH⟩, l, vs, v, rfl, rfl, hH, by rw [hd.len]; exact hv2, ?_⟩
    have r3 := rr.writeAt (c' := .lst ds.dropLast) (ho' := .lst vs.dropLast) h0 hσ hO (show DpAll X.K F vs.dropLast ds.dropLast from hd.dropLast)
    exact Fin.ok (Ext.refl F) r3 (Stp.setOwn rr h0 hσ) dv (withSet_ok q)
  · exact q.elim
/-- x.pop(e) -/
def dPopAt (i : Nat) (t : DE) : DE := fun δ Q => t δ fun av δ1 => one δ1 av fun j => match j with
  | .int j => match δ1[i]? with
    | some (.own (.lst ds)) => ∃ k d, (seqIndex? j ds.length = some k ∧ ds[k]? = some d ∧ -(2 ^ 63) ≤ j ∧ j < 2 ^ 63) ∧ withSet δ1 i (.own (.lst (ds.eraseIdx k))) (Q (.dat d))
    | _ => False
  | _ => False
theorem dx_popAt (i : Nat) {x : Str} (h : DX X G e t) (hN : X.N[i]? = some x := by rfl) (hv : Vis X.env.scope x := by first | exact Or.inl rfl | exact Or.inr (Or.inl rfl) | exact Or.inr (Or.inr rfl)) (hd : (x == ("__debug__" : Str)) = false := by decide)
    (hcd : (x == ("__classdict__" : Str)) = false := by decide) (hs : starEach [e] X.env = (false, eval e X.env) :: starEach [] X.env := by rfl)
    (hfew : ((backTo cpos (starEach [e] X.env)).all (fun x => !x.1) && (backToKw cpos (keywordEach [] X.env)).all (fun x => x.1.isSome)
      && decide (([e] : List Expr).length + ([] : List Keyword).length + (if ([] : List Keyword).isEmpty then 0 else 1) < 30)) = true := by rfl)
    (hline : (apos.endLine == cpos.line) = true := by rfl) (hbase : attributeBase (.Name x p) "pop" X.env (eval (.Name x p) X.env) = eval (.Name x p) X.env := by rfl) : DX X G (.Call (.Attribute (.Name x p) "pop" apos) [e] [] cpos) (dMeth i (dPopAt i t)) := fun F O σ H δ Q rr q => by
  unfold dMeth at q
  split at q
  · rename_i ds0 h0
    obtain ⟨l, vs0, hσ, _, hH0, _⟩ := own_lst rr h0
    refine sem_of (pe_bm PySem.F.plainAttrs_list PySem.F.slot_list_pop PySem.F.type_list_pop mt_popAt (pe_var hN hv hd hcd) (pa_cons pe_sem pa_nil hs) hbase hfew hline hs) ⟨.ref l, hσ, Or.inl ⟨rfl, _, SqL.of hH0⟩, ?_⟩
    refine sem_mono (h F O σ H δ _ rr q) fun v H1 ⟨F1, O1, δ1, av, e1, r1, s1, h1, q1⟩ => ?_
    simp only [one] at q1
    split at q1
    · rename_i dj hdj
      have sh := r1.shal h1 hdj
      split at q1
      · rename_i j
        cases sh.int
        split at q1
        · rename_i ds hds
          obtain ⟨l2, vs, hσ2, hO, hH, hd⟩ := own_lst r1 hds
          rw [hσ] at hσ2
          cases hσ2
          obtain ⟨k, d, ⟨hk, hdk, b1, b2⟩, q1⟩ := q1
          obtain ⟨v, hv2, dv⟩ := hd.get hdk
          refine ⟨l, vs, j, k, v, rfl, rfl, hH, b1, b2, by rw [hd.len]; exact hk, hv2, ?_⟩
          have r3 := r1.writeAt (c' := .lst (ds.eraseIdx k)) (ho' := .lst (vs.eraseIdx k)) hds hσ hO (show DpAll X.K F1 (vs.eraseIdx k) (ds.eraseIdx k) from hd.eraseIdx k)
          exact Fin.ok e1 r3 (s1.trans (Stp.setOwn r1 hds hσ)) dv (withSet_ok q1)
        · exact q1.elim
      · exact q1.elim
    · exact q1.elim
  · exact q.elim
/-- x.bit_length() -/
def opBits : D → (D → Prop) → Prop
  | .int i, Q => Q (.int (Builtin.Int.intBits i : Nat))
  | _, _ => False
theorem dx_bits (h : DX X G a t) (hbase : attributeBase a "bit_length" X.env (eval a X.env) = eval a X.env := by rfl) (hline : (apos.endLine == pos.line) = true := by rfl) : DX X G (.Call (.Attribute a "bit_length" apos) [] [] pos) (dUn opBits t) := fun F O σ H δ Q rr q => by
  refine sem_of (pe_bits pe_sem hbase hline) (sem_mono (h F O σ H δ _ rr q) fun v H1 ⟨F1, O1, δ1, av, e1, r1, s1, h1, q1⟩ => ?_)
  change (match rs δ1 av with | some d => opBits d (fun z => Q (.dat z) δ1) | none => False) at q1
  split at q1
  · rename_i d hd
    have sh := r1.shal h1 hd
    cases d with
    | int i => cases sh.int; exact ⟨i, rfl, Fin.ok e1 r1 s1 (Dp.int _) q1⟩
    | _ => exact q1.elim
  · exact q1.elim
/-- a < b < c -/
def dChain (f f' : F2) (ta tb tc : DE) : DE := fun δ Q => ta δ fun x δ1 => tb δ1 fun y δ2 => two δ2 x y fun d e => f d e fun z => match z with
  | .bool true => tc δ2 fun w δ3 => two δ3 y w fun e2 g => e2 = e ∧ f' e g fun z => Q (.dat z) δ3
  | .bool false => Q (.dat (.bool false)) δ2
  | _ => False
theorem chain_read {r r' : R2} {f f' : F2} {ta tb tc : DE} {c : Expr} (hd : DOp X.K r f) (hd' : DOp X.K r' f') (ha : DX X G a ta) (hb : DX X G b tb) (hc : DX X G c tc) {F : Hp} {O : Addr → Option OC} {σ : L2.St} {H : Hp} {δ : DSt} {Q : AV → DSt → Prop} (rr : R X.K G F O σ H δ) (q : dChain f f' ta tb tc δ Q)
    {Qv : VK} (k : ∀ z H', Fin X.K G F σ O δ Q z H' → Qv z H') : tChain r r' (tSem X a) (tSem X b) (tSem X c) σ H Qv := by
  refine sem_mono (ha F O σ H δ _ rr q) fun v H1 ⟨F1, O1, δ1, av, e1, r1, s1, h1, q1⟩ => ?_
  refine sem_mono (hb F1 O1 σ H1 δ1 _ r1 q1) fun w H2 ⟨F2, O2, δ2, bv, e2, r2, s2, h2, q2⟩ => ?_
  change two δ2 av bv _ at q2
  unfold two at q2
  split at q2
  · rename_i d e hd1 he1
    refine hd G F2 O2 σ H2 δ2 v w d e (fun av δ' => match av with
      | .dat (.bool true) => tc δ' fun w δ3 => two δ3 bv w fun e2 g => e2 = e ∧ f' e g fun z => Q (.dat z) δ3
      | .dat (.bool false) => Q (.dat (.bool false)) δ'
      | _ => False) _ r2 (r2.shal (h1.ext e2) hd1) (r2.shal h2 he1) ?_ fun z H3 ⟨F3, O3, δ3, zv, e3, r3, s3, h3, q3⟩ => ?_
    · refine cast ?_ q2
      congr 1
      funext z
      cases z with
      | bool k => cases k <;> rfl
      | _ => rfl
    · cases zv with
      | dat zd =>
        cases zd with
        | bool k0 =>
          cases (show Dp X.K F3 z (.bool k0) from h3)
          refine ⟨k0, rfl, ?_⟩
          cases k0 with
          | true =>
            rw [if_pos rfl]
            refine sem_mono (hc F3 O3 σ H3 δ3 _ r3 q3) fun u H4 ⟨F4, O4, δ4, cv, e4, r4, s4, h4, q4⟩ => ?_
            change two δ4 bv cv _ at q4
            unfold two at q4
            split at q4
            · rename_i d2 g hd2 hg2
              obtain ⟨ed, q4⟩ := q4
              subst ed
              exact hd' G F4 O4 σ H4 δ4 w u d2 g Q _ r4 (r4.shal ((h2.ext e3).ext e4) hd2) (r4.shal h4 hg2) q4 fun z H5 h => k z H5 (h.back (((e1.trans e2).trans e3).trans e4) (((s1.trans s2).trans s3).trans s4))
            · exact q4.elim
          | false =>
            rw [if_neg Bool.false_ne_true]
            exact k _ _ (Fin.ok ((e1.trans e2).trans e3) r3 ((s1.trans s2).trans s3) (Dp.bl false) q3)
        | _ => exact q3.elim
      | raw _ => exact q3.elim
      | bor _ => exact q3.elim
  · exact q2.elim
theorem dx_chain {op op' : CmpOp} {r r' : R2} {f f' : F2} {ta tb tc : DE} {c : Expr} (ho : OpR X (compareOp op) r) (ho' : OpR X (compareOp op') r') (hd : DOp X.K r f) (hd' : DOp X.K r' f') (ha : DX X G a ta) (hb : DX X G b tb) (hc : DX X G c tc)
    (hm : lastMarks [op, op'] [b, c] = false := by with_unfolding_all rfl) : DX X G (.Compare a [op, op'] [b, c] pos) (dChain f f' ta tb tc) := fun F O σ H δ Q rr q =>
  sem_of (pe_chain ho ho' pe_sem pe_sem pe_sem hm) (chain_read hd hd' ha hb hc rr q fun _ _ h => h)
theorem dt_chain {op op' : CmpOp} {r r' : R2} {f f' : F2} {ta tb tc : DE} {c : Expr} (ho : OpR X (compareOp op) r) (ho' : OpR X (compareOp op') r') (hd : DOp X.K r f) (hd' : DOp X.K r' f') (ha : DX X G a ta) (hb : DX X G b tb) (hc : DX X G c tc)
    (hm : lastMarks [op, op'] [b, c] = false := by with_unfolding_all rfl) : DT X G (.Compare a [op, op'] [b, c] pos) (dTst (dChain f f' ta tb tc)) := fun F O σ H δ Q rr q =>
  semT_of (pt_chain ho ho' pe_sem pe_sem pe_sem hm) (chain_read hd hd' ha hb hc rr q fun _ _ h => ofB_fin h)
end
end DL
set_option Elab.async false
set_option linter.all false
set_option maxRecDepth 100000
set_option maxHeartbeats 2000000
/-! own exceptions: super().__init__(..), fields; raise; try -/
namespace DL
open PySem L2 PyProof.Rows
theorem lookup_mem {α : Type} {x : Str} {a : α} : ∀ {l : List (Str × α)}, (l.map (·.1)).Nodup → (x, a) ∈ l → l.lookup x = some a
  | [], _, h => by cases h
  | (y, b) :: l, hn, h => by
    have hn' := List.nodup_cons.mp hn
    rcases List.mem_cons.mp h with e | h
    · cases e
      simp [List.lookup]
    · have : (x == y) = false := by
        simp only [beq_eq_false_iff_ne, ne_eq]
        intro e
        rw [← e] at hn'
        exact hn'.1 (List.mem_map.mpr ⟨(x, a), h, rfl⟩)
      simp only [List.lookup, this]
      exact lookup_mem hn'.2 h
theorem zip_look {ps : List Str} {us : List Value} {i : Nat} {y : Str} {u : Value} (hn : ps.Nodup) (hl : us.length = ps.length) (h1 : ps[i]? = some y) (h2 : us[i]? = some u) : (ps.zip us).reverse.lookup y = some u := by
  refine lookup_mem ?_ (List.mem_reverse.mpr (List.mem_of_getElem? (i := i) ?_))
  · rw [List.map_reverse]
    have e : (ps.zip us).map (·.1) = ps := List.map_fst_zip (by omega)
    have : (List.map (fun x => x.fst) (ps.zip us)) = ps := e
    rw [this]
    exact (List.reverse_perm ps).nodup_iff.mpr hn
  · rw [List.getElem?_zip_eq_some]
    exact ⟨h1, h2⟩
/-- names of such an __init__ -/
structure SupScope (N ps : List Str) (sc : Scope) : Prop where
  kind : sc.kind = .function
  co : sc.isCoroutine = false
  gen : sc.isGenerator = false
  nd : N.Nodup
  pre : N.take ps.length = ps
  par : ∀ x ∈ ps, sc.names.lookup x = some .local
  nocell : ∀ y ∈ sc.names, y.2 ≠ .cell
  free : ∀ y ∈ sc.names, y.2 = .free → y.1 = "__class__"
  sup : sc.names.lookup ("super" : Str) = some .globalImplicit
  cls : sc.names.lookup ("__class__" : Str) = some .free
/-- such a class: C, its __init__ at fI, the statement ini -/
structure SupC (P : Program) (K : PySem.W.Frag) (C fI : Addr) (qual : Str) (ini : Stmt) (fd : FuncData) : Prop where
  oex : OexC K C
  iC : PySem.W.findIn K (.ref C) "__init__" = some (some (.ref fI))
  tI : PySem.W.typeIn K (.ref fI) = some (.type "function")
  sup : PySem.W.ks_superIn K C C "__init__" = some (some (.builtin "ValueError.__init__"))
  opq : PySem.W.nsIn K PySem.cStatics "thirdparty.any" = some none
  sub : PySem.W.subIn K (.ref C) (.type "ValueError") = some true
  mro : PySem.W.mroIn K C (.ref C) = some true
  top : (P.main.scope.names.lookup ("super" : Str)).isSome = false
  fn : ∃ (oc : Value) (od : Option Addr) (kV doc pm : Value) (an : Option Addr) (cda cc : Addr) (ct : Value) (osl : Array (Option Value)) (cl ccl : Value) (cld cdd : Option Addr) (csl ccs : Array (Option Value)) (vs : Array Value) (file : Str) (tf : Tok),
    fd = PySem.W.fnX "__init__" qual (defArgs ini) (defBody ini) (defScope ini) [("__class__", cc)] .none kV doc pm an (.ref cda) ct ∧ K.lookup fI = some ⟨oc, od, .func fd, osl⟩ ∧ PySem.W.codeIn K (.ref cda) qual = true ∧
    K.lookup cda = some ⟨ccl, cdd, .fields vs, ccs⟩ ∧ vs[2]? = some (.str file tf) ∧ ((P.main.file : Str) == file) = true ∧ K.lookup cc = some ⟨cl, cld, .cell (some (.ref C)), csl⟩
/-- the context of its body -/
def icx (P : Program) (w : World) (K : PySem.W.Frag) (mg : Str → Option Value) (base : Heap) (N : List Str) (qual : Str) (sc : Scope) (f : Addr) (cd : Value) (cc : Addr) (A : Around) (outer : List Env) (s : Shared) (H : Hp) : Cx where
  prog := P
  w := w
  K := K
  mg := mg
  base := base
  A := A.deeper (PySem.W.envX qual sc s.heap.objs.size f cd [("__class__", cc)])
  N := N
  s_0 := s
  H_0 := H
  env := PySem.W.envX qual sc s.heap.objs.size f cd [("__class__", cc)]
  outer := outer
  stack := PySem.W.envX qual sc s.heap.objs.size f cd [("__class__", cc)] :: outer
  ex := []
  calm := true
  fn := fun y => !(y == ("__class__" : Str))
  pn := []
  xe := fun _ _ => False
theorem one_look {cc c : Addr} {x : Str} (h : [(("__class__" : Str), cc)].lookup x = some c) : x = "__class__" ∧ c = cc := by
  by_cases e : x = "__class__"
  · subst e
    simp [List.lookup] at h
    exact ⟨rfl, h.symm⟩
  · have : (x == ("__class__" : Str)) = false := by simpa using e
    simp [List.lookup, this] at h
section
variable {P : Program} {w : World} {K : PySem.W.Frag} {mg : Str → Option Value} {base : Heap} {C fI : Addr} {qual : Str} {ini : Stmt} {fd : FuncData} {N ps : List Str} {k : Nat}
theorem inv_init {cd : Value} {cc : Addr} {cl : Value} {cld : Option Addr} {csl : Array (Option Value)} {A : Around} {outer : List Env} {s : Shared} {H : Hp} {us : List Value} {vs : List V} {sc : Scope} {h₁ : Heap} {tk : Tok}
    (S : SupScope N ps sc) (hr : Room (k + 1) A) (e0 : Env0 P w K mg base A outer s H) (hcc : K.lookup cc = some ⟨cl, cld, .cell (some (.ref C)), csl⟩) (hl : vs.length = ps.length) (rv : Vals vs us)
    (hns : h₁.Ns s.heap.objs.size (fun x => (ps.zip us).reverse.lookup x)) (hk : ∀ b o, s.heap.get? b = some o → h₁.get? b = some o) :
    Inv (icx P w K mg base N qual sc fI cd cc A outer s H) [] (start N vs) H { s with heap := h₁, toks := tk } := by
  have hpl : ps.length ≤ N.length := by have := congrArg List.length S.pre; rw [List.length_take] at this; omega
  have hul : us.length = ps.length := rv.length.symm.trans hl
  have bcc := e0.bs cc _ (e0.mod.kin cc _ hcc)
  have fresh : H s.heap.objs.size = none := e0.hok.fresh (Nat.le_refl _)
  have ndP : ps.Nodup := by rw [← S.pre]; exact S.nd.sublist (List.take_sublist _ _)
  refine ⟨⟨e0.mod, S.kind, rfl, rfl, Nat.le_refl _, fun y z c h1 h2 => ?_, fun y hy => ?_, fun y c hy h => ?_, fun _ => hr.hd, Around.frames_deeper e0.frames, .inr ⟨rfl, rfl⟩, fun b z => absurd (show b ∈ ([] : List Addr) from z) (by simp), e0.bs, e0.bsz, fun b _ _ => (fun z => absurd (show b ∈ ([] : List Addr) from z) (by simp)), fun b z => absurd (show b ∈ ([] : List Addr) from z) (by simp), e0.funs, e0.frf⟩,
    rfl, e0.bare, Un.kept hk, ⟨_, hns, fun i y v h1 h2 h3 => ?_⟩, fun y c h => ?_, fresh, fun y c h => ?_, fun p hp => absurd (show p ∈ ([] : List (Addr × Obj)) from hp) (by simp), e0.hok.kept hk, ?_⟩
  · exact (one_look h1).1.trans (one_look h2).1.symm
  · have hy : sc.names.lookup y = some .cell ∨ sc.names.lookup y = some .free := hy
    have e : y = "__class__" := by
      rcases hy with hy | hy
      · exact absurd rfl (S.nocell _ (PySem.mem_of_lookup hy))
      · exact S.free _ (PySem.mem_of_lookup hy) rfl
    exact ⟨cc, by rw [e]; rfl⟩
  · obtain ⟨e, _⟩ := one_look h
    subst e
    exact absurd (show (!((("__class__" : Str)) == ("__class__" : Str))) = true from hy) (by decide)
  · have hi : i < vs.length := by
      unfold L2.start at h2
      by_cases hi : i < vs.length
      · exact hi
      · rw [List.getElem?_append_right (by simpa using hi)] at h2
        rw [List.getElem?_replicate] at h2
        split at h2 <;> cases h2
    have ha : vs[i]? = some v := by
      unfold L2.start at h2
      rw [List.getElem?_append_left (by simpa using hi), List.getElem?_map] at h2
      cases e : vs[i]? with
      | none => rw [e] at h2; cases h2
      | some a => rw [e] at h2; cases h2; rfl
    obtain ⟨u, hu, ru⟩ := rv.get ha
    have hp : ps[i]? = some y := by
      rw [← S.pre, List.getElem?_take_of_lt (by omega)]; exact h1
    exact ⟨u, ru, .inl ⟨S.par y (List.mem_of_getElem? hp), zip_look ndP hul hp hu⟩⟩
  · obtain ⟨_, e⟩ := one_look h
    subst e
    exact ⟨_, _, hk _ _ bcc.1, rfl⟩
  · obtain ⟨_, e⟩ := one_look h
    subst e
    exact bcc.2
  · unfold L2.start
    show _ = N.length
    rw [List.length_append, List.length_map, List.length_replicate]
    omega

/-- the promise of such an __init__: fields told by f, of n arguments -/
def spIni (C : Addr) (n : Nat) (f : List V → List (Str × V)) : Sp := fun vs H Q E => ∃ (a : Addr) (ws : List V), vs = .ref a :: ws ∧ ws.length = n ∧ H a = some (exo a C none) ∧
  ∀ (dx : Addr) (H2 : Hp), H dx = none → dx ≠ a → H2 a = some (exo a C (some dx)) → H2 dx = some (exd dx (f ws)) → (∀ b, b ≠ a → b ≠ dx → H2 b = H b) → Q .non H2
theorem init_run {n : Nat} {fs : List V → List (Str × V)} {ar : Arg} {e : Expr} {es : List Expr} {rest : List Stmt} {ta : TA} {t : TS} {p0 p1 ap cp pp : Pos} (T : SupC P K C fI qual ini fd) (S : SupScope N ps (defScope ini)) (hn : ps.length = n + 1) (hsz : n ≤ 1000) (hmg : mg "super" = none)
    (hp : ((defArgs ini).posonlyargs ++ (defArgs ini).args).head? = some ar) (h0 : ps[0]? = some ar.arg) (hb : defBody ini = .Expr (.Call (.Attribute (.Call (.Name "super" p0) [] [] p1) "__init__" ap) (e :: es) [] cp) pp :: rest)
    (hta : ∀ (vs : List V) (H : Hp) (Q : List V → Hp → Prop), vs.length = n + 1 → (∀ ws, ws.length ≤ 1000 → Q ws H) → ta (start N vs) H Q)
    (ha : ∀ (cd : Value) (cc : Addr) (A : Around) (outer : List Env) (s : Shared) (H : Hp), PA (icx P w K mg base N qual (defScope ini) fI cd cc A outer s H) (e :: es) ta)
    (hr0 : ∀ (cd : Value) (cc : Addr) (A : Around) (outer : List Env) (s : Shared) (H : Hp), Room k (A.deeper (PySem.W.envX qual (defScope ini) s.heap.objs.size fI cd [("__class__", cc)])) → PSs (icx P w K mg base N qual (defScope ini) fI cd cc A outer s H) rest t)
    (law : ∀ vs H Q E, spIni C n fs vs H Q E → t { nx := fun _ H' => Q .non H', rt := Q } (start N vs) H)
    (he : ∀ (cd : Value) (cc : Addr) (L : Addr), starEach (e :: es) (PySem.W.envX qual (defScope ini) L fI cd [("__class__", cc)]) = (false, eval e (PySem.W.envX qual (defScope ini) L fI cd [("__class__", cc)])) :: starEach es (PySem.W.envX qual (defScope ini) L fI cd [("__class__", cc)]) := by intro _ _ _; rfl)
    (hpl : ∀ (cd : Value) (cc : Addr) (L : Addr), (backTo cp (starEach es (PySem.W.envX qual (defScope ini) L fI cd [("__class__", cc)]))).any (·.1) = false := by intro _ _ _; rfl)
    (hint : ∀ (cd : Value) (cc : Addr) (L : Addr), interactive (PySem.W.envX qual (defScope ini) L fI cd [("__class__", cc)]) = false := by intro _ _ _; rfl)
    (pl : Value → Addr → Addr → Sem Bool)
    (hev : ∀ (cd : Value) (cc : Addr) (L : Addr), eval (.Call (.Attribute (.Call (.Name "super" p0) [] [] p1) "__init__" ap) (e :: es) [] cp) (PySem.W.envX qual (defScope ini) L fI cd [("__class__", cc)]) = (do
      let ov ← attributeBase (.Call (.Name "super" p0) [] [] p1) "__init__" (PySem.W.envX qual (defScope ini) L fI cd [("__class__", cc)]) (eval (.Call (.Name "super" p0) [] [] p1) (PySem.W.envX qual (defScope ini) L fI cd [("__class__", cc)]))
      standAt ap.atName
      let (f, first) ← holding [ov] (getMethod ov "__init__" (pl cd cc L))
      callWith cp f first (backTo cp (starEach (e :: es) (PySem.W.envX qual (defScope ini) L fI cd [("__class__", cc)]))) []))
    (hsw : ∀ (cd : Value) (cc : Addr) (L : Addr), swapsWith (.Call (.Attribute (.Call (.Name "super" p0) [] [] p1) "__init__" ap) (e :: es) [] cp) none pp.line (PySem.W.envX qual (defScope ini) L fI cd [("__class__", cc)]) = pure false := by intro _ _ _; rfl) :
    FnOk P w K mg base (L2.CX P w) (k + 1) fI fd ps (spIni C n fs) := by
  have hlen : ∀ vs H Q E, spIni C n fs vs H Q E → vs.length = ps.length := fun vs H Q E ⟨a, ws, e, h, _⟩ => by rw [e, List.length_cons, h, hn]
  refine ⟨hlen, fun A outer s H args us vs Q E hr e0 hbd rv hsp => ?_⟩
  have hl := hlen _ _ _ _ hsp
  have hq := law vs H Q E hsp
  obtain ⟨a, ws, ev, hw, eH, _⟩ := hsp
  obtain ⟨oc, od, kV, doc, pm, an, cda, cc, ct, osl, cl, ccl, cld, cdd, csl, ccs, cvs, file, tf, rfl, lk, hcd, hcode, hvs, hfile, hcc⟩ := T.fn
  obtain ⟨nm, q, Ns, bs, bm, sn, sub, ab, col, dd, k0, k1, k2, k3, k5, hC, hbm⟩ := T.oex.cls
  have KX : K.In s.heap := e0.mod.kin.keeps fun b o e => (e0.bs b o e).1
  have lim : s.heap.NoLimit := e0.mod.nolimit.keeps fun b o e => (e0.bs b o e).1
  refine PySem.ks_codeAny_call_defAt (binds := ps.zip us) hr.depth (KX _ _ lk) rfl lim (PySem.W.codeRec_of KX hcd) rfl hbd S.nocell (fun y hy => S.par y.1 (List.of_mem_zip (a := y.1) (b := y.2) hy).1) (fun h₁ hns hk => ?_) S.co S.gen S.kind
  have I0 : Inv (icx P w K mg base N qual (defScope ini) fI (.ref cda) cc A outer s H) [] (start N vs) H { s with heap := h₁, toks := s.toks + (ps.zip us).length } := inv_init S hr e0 hcc hl rv hns hk
  have X1 : K.In h₁ := I0.kIn
  have hcls : PySem.W.clsIn K C = some { name := nm, bases := bs, mro := .ref C :: bm, ns := Ns, qualname := q, hasDict := true, slotNames := sn, subclasses := sub, abstract := ab, collection := col, hasDel := false } := by unfold PySem.W.clsIn; rw [hC] <;> rfl
  obtain ⟨t0, hx⟩ := exo_at I0.hok eH
  have hus : ∃ u', us[0]? = some u' ∧ u' = .ref a := by
    rw [ev] at rv
    cases rv with
    | @cons _ u0 _ ur ra rw' => exact ⟨u0, rfl, ra⟩
  obtain ⟨u0, hu0, rfl⟩ := hus
  have ndP : ps.Nodup := by rw [← S.pre]; exact S.nd.sublist (List.take_sublist _ _)
  have hself : (ps.zip us).reverse.lookup ar.arg = some (Value.ref a) := zip_look ndP (rv.length.symm.trans hl) h0 hu0
  obtain ⟨env, henv⟩ : ∃ env, env = PySem.W.envX qual (defScope ini) s.heap.objs.size fI (.ref cda) [("__class__", cc)] := ⟨_, rfl⟩
  show PySem.wpAt (model P w) (A.deeper (PySem.W.envX qual (defScope ini) s.heap.objs.size fI (.ref cda) [("__class__", cc)])) (.func (defBody ini) (PySem.W.envX qual (defScope ini) s.heap.objs.size fI (.ref cda) [("__class__", cc)])) (execs (defBody ini) (PySem.W.envX qual (defScope ini) s.heap.objs.size fI (.ref cda) [("__class__", cc)])) _ _ _
  rw [show execs (defBody ini) (PySem.W.envX qual (defScope ini) s.heap.objs.size fI (.ref cda) [("__class__", cc)]) = execs (.Expr (.Call (.Attribute (.Call (.Name "super" p0) [] [] p1) "__init__" ap) (e :: es) [] cp) pp :: rest) (PySem.W.envX qual (defScope ini) s.heap.objs.size fI (.ref cda) [("__class__", cc)]) by rw [hb]]
  refine PySem.ks_wpAt_execs_cons (PySem.ks_wpAt_Expr_any (PySem.ks_wpAt_MethodCall (pl := pl (.ref cda) cc s.heap.objs.size) ?_ (hev _ _ _)) (hint _ _ _) (hsw _ _ _))
  refine PySem.ks_wpAt_super_base (env := PySem.W.envX qual (defScope ini) s.heap.objs.size fI (.ref cda) [("__class__", cc)]) S.sup S.cls (by decide) rfl (X1 _ _ lk) rfl hp rfl (X1 _ _ hcode) rfl hvs hfile T.top ?_
  obtain ⟨mb, hb1, hb2⟩ := I0.ok.mod.blt
  have kb := I0.bk
  refine PySem.W.ks_loadName_global S.kind S.sup (Calls.loadGlobal_builtin (I0.mod.glob.keeps I0.bk) hmg (hb1.keeps I0.bk) ((hb2 _ (by decide)).trans PyProof.Rows.Boot.«super») ⟨rfl, ?_⟩)
  refine wpAny_loadName_free S.kind S.cls rfl ⟨_, X1 _ _ hcc, rfl⟩ ?_
  refine wpAny_loadName_local S.kind (S.par _ (List.mem_of_getElem? h0)) hns hself ?_
  refine PySem.ks_wpAny_isType_cls (X1 _ _ hC) rfl ⟨rfl, ?_⟩
  refine PySem.ks_wpAny_call_super (X1 _ _ hC) rfl hx rfl (fun c z => by cases z) (PySem.W.looks_mroIn X1 T.mro) (fun h2 hso hk2 => ?_)
  have I2 : Inv (icx P w K mg base N qual (defScope ini) fI (.ref cda) cc A outer s H) [] (start N vs) H { s with heap := h2, toks := s.toks + (ps.zip us).length } := I0.kept (t' := s.toks + (ps.zip us).length) hk2
  have X2 : K.In h2 := I2.kIn
  have hx2 := hk2 _ _ hx
  have inst : PySem.W.InstAt h2 a _ C none := ⟨hx2, rfl, rfl, trivial⟩
  have haC : a ≠ C := PySem.W.ks_ne X2 inst hcls
  have hsup := T.sup
  unfold PySem.W.ks_superIn at hsup
  rw [hcls] at hsup
  refine PySem.W.kxs_getMethod PySem.W.kxs_ValueError hso (PySem.W.looks_opaque X2 T.opq) ((PySem.W.looks_clsIn X2 hcls).andThen .now) rfl X2 hsup (inst.type.andThen (PySem.W.looks_subIn X2 T.sub)) haC (by decide) ?_
  -- the wrapper stands at the next address
  have eu : (h2.push (PySem.W.kxs_mw "ValueError.__init__" a)).get? h2.objs.size = some (PySem.W.kxs_mw "ValueError.__init__" a) := Heap.get?_push_at rfl rfl
  have nu : H h2.objs.size = none := I2.hok.fresh (Nat.le_refl _)
  have I3 : Inv (icx P w K mg base N qual (defScope ini) fI (.ref cda) cc A outer s H) [] (start N vs) H { s with heap := h2.push (PySem.W.kxs_mw "ValueError.__init__" a), toks := s.toks + (ps.zip us).length + 1 } := I2.kept (t' := s.toks + (ps.zip us).length + 1) fun b o e => Heap.get?_push_of_some _ e
  have Ip : Inv (icx P w K mg base N qual (defScope ini) fI (.ref cda) cc A outer s H) [(h2.objs.size, PySem.W.kxs_mw "ValueError.__init__" a)] (start N vs) H { s with heap := h2.push (PySem.W.kxs_mw "ValueError.__init__" a), toks := s.toks + (ps.zip us).length + 1 } := I3.pins_of fun p hp => by
    have e : p = (h2.objs.size, PySem.W.kxs_mw "ValueError.__init__" a) := by simpa using hp
    subst e
    exact ⟨eu, nu, Nat.ne_of_gt I2.lt, I2.nofs (Nat.le_refl _), fun v z => by cases z⟩
  refine PySem.W.kxs_callWith (i := "ValueError.__init__") (u := h2.objs.size) (x := a) (by rw [he]; show (false || (backTo cp (starEach es _)).any (·.1)) = false; rw [hpl]; rfl) ?_
  rw [he]
  refine Calls.evalArgs_plain ?_
  have har := ha (.ref cda) cc A outer s H
  have run := har.run cp [(h2.objs.size, PySem.W.kxs_mw "ValueError.__init__" a)] _ (start N vs) H (fun ws H1 => ws.length ≤ 1000 ∧ H1 = H) Ip (hta vs H _ (by rw [hl, hn]) fun ws h => ⟨h, rfl⟩)
  rw [show starEach (e :: es) (icx P w K mg base N qual (defScope ini) fI (.ref cda) cc A outer s H).env = (false, eval e (PySem.W.envX qual (defScope ini) s.heap.objs.size fI (.ref cda) [("__class__", cc)])) :: starEach es (PySem.W.envX qual (defScope ini) s.heap.objs.size fI (.ref cda) [("__class__", cc)]) from he _ _ _] at run
  refine wpAny_mono run (fun rest_ s4 ⟨ws', H4, I4, rv4, hw4, e4⟩ => ?_) fun _ _ z => z.elim
  subst e4
  have pu := (I4.pin _ (List.mem_append_right _ (List.mem_singleton.mpr rfl))).1
  refine ⟨pu, ?_⟩
  have I5 : Inv (icx P w K mg base N qual (defScope ini) fI (.ref cda) cc A outer s H4) [] (start N vs) H4 s4 := I4.pins_of fun p hp => absurd hp (by simp)
  obtain ⟨t4, hx4⟩ := exo_at I5.hok eH
  have X4 : K.In s4.heap := I5.kIn
  have hz : rest_.length ≤ sizeLine := by
    rw [← rv4.length, sizeLine_eq]
    omega
  obtain ⟨hh, g, d, tk, os⟩ := s4
  refine wpAny_call (codeAny_of_tree ?_)
  show wpAny _ _ (callAny (.ref h2.objs.size) ⟨rest_, []⟩) _ _ _
  simp only [callAny]
  refine wpAny_bind (wpAny_load pu ?_)
  simp only [PySem.W.kxs_mw, show (Value.type "method-wrapper" == Value.type "method" || Value.type "method-wrapper" == Value.type "builtin_function_or_method" || Value.type "method-wrapper" == Value.type "method-wrapper") = true by decide, if_true]
  refine PySem.W.KFB.if_so (by decide) ?_
  refine wpAny_bind (PySem.W.check_bound_init F.excBase_ValueError.toExcCallFacts (X4 _ _ hC) hx4 rfl ?_)
  refine wpAny_bind (wpAny_pure (wpAny_pure ?_))
  refine ⟨PySem.plainId_quiet F.excBase_ValueError.init.plain _, codeAny_builtin F.excBase_ValueError.initEntry ?_⟩
  refine PySem.W.exc_init_tree (cls := .ref C) (t0 := t4) (dv := none) (c2 := .none) (c3 := .none) (b4 := .bool false) hx4 hz fun h6 k6 e6 _ => ?_
  have J := I5.write (t' := tk) (h' := h6) (x := a) (e := a) (o := exo a C none) (by rw [eH]; exact True.intro) (.inl rfl) k6 ⟨_, e6⟩ (exo_ok e6)
  have eu : upd H4 a (exo a C none) = H4 := by
    funext b
    by_cases hb : b = a
    · rw [hb, upd_same, eH]
    · rw [upd_ne hb]
  rw [eu] at J
  refine PySem.wpAt_of_wpAny (wpAny_mono ((hr0 (.ref cda) cc A outer s H4 (hr.deeper _)).run [] _ (start N vs) H4 _ J hq) (fun fl s' hs => ?_) fun e s' hs => hs.elim)
  have fin : ∀ {σ' : L2.St} {H' : Hp} {v : V} {u : Value}, Inv (icx P w K mg base N qual (defScope ini) fI (.ref cda) cc A outer s H4) [] σ' H' s' → RelV v u → Q v H' → CE outer P w H4 s Q u s' :=
    fun {σ' H' v u} J rv q => ⟨v, H', J.os, J.bare, J.base, J.hok, rv, q⟩
  cases fl with
  | ret u =>
    obtain ⟨v, σ', H', J, rv, q⟩ := hs
    exact fin J rv q
  | next =>
    obtain ⟨σ', H', J, q⟩ := hs
    exact fin (v := V.non) (u := Value.none) J rfl q
  | brk =>
    obtain ⟨_, _, _, q⟩ := hs
    exact False.elim q
  | cont =>
    obtain ⟨_, _, _, q⟩ := hs
    exact False.elim q
end
end DL
set_option Elab.async false
set_option linter.all false
set_option maxRecDepth 100000
set_option maxHeartbeats 2000000
/-! raise, try, over plain data -/
namespace DL
open PySem L2 PyProof.Rows
abbrev vT (i : Nat) : TE := fun σ H Q => ∃ v, σ[i]? = some (some v) ∧ Q v H
/-! ### fields: the last one stored comes first -/
theorem get_start {N : List Str} {vs : List V} {i : Nat} {v : V} (h : vs[i]? = some v) : (start N vs)[i]? = some (some v) := by
  have hi : i < vs.length := (List.getElem?_eq_some_iff.mp h).1
  unfold L2.start
  rw [List.getElem?_append_left (by simpa using hi), List.getElem?_map, h]
  rfl
theorem ini_law1 {K : PySem.W.Frag} {C : Addr} {N : List Str} {f : Str} (T : OexC K C) (hno : PySem.W.findIn K (.ref C) f = some none) : ∀ vs H Q E, spIni C 1 (fun ws => match ws with | [v] => [(f, v)] | _ => []) vs H Q E → tOst K f (vT 0) (vT 1) { nx := fun _ H' => Q .non H', rt := Q } (start N vs) H := by
  rintro vs H Q E ⟨a, ws, rfl, hw, eH, q⟩
  match ws, hw with
  | [v], _ =>
    refine ⟨v, get_start rfl, .ref a, get_start rfl, a, C, rfl, T, hno, .inl ⟨eH, fun dx n d => q dx _ n d upd_same ?_ fun b h1 h2 => ?_⟩⟩
    · rw [upd_ne d]; exact upd_same
    · rw [upd_ne h1, upd_ne h2]
theorem ini_law2 {K : PySem.W.Frag} {C : Addr} {N : List Str} {f g : Str} (T : OexC K C) (hno : PySem.W.findIn K (.ref C) f = some none) (hno2 : PySem.W.findIn K (.ref C) g = some none) :
    ∀ vs H Q E, spIni C 2 (fun ws => match ws with | [v, u] => [(g, u), (f, v)] | _ => []) vs H Q E → tOst K f (vT 0) (vT 1) { nx := fun σ' H' => tOst K g (vT 0) (vT 2) { nx := fun _ H' => Q .non H', rt := Q } σ' H', rt := Q } (start N vs) H := by
  rintro vs H Q E ⟨a, ws, rfl, hw, eH, q⟩
  match ws, hw with
  | [v, u], _ =>
    refine ⟨v, get_start rfl, .ref a, get_start rfl, a, C, rfl, T, hno, .inl ⟨eH, fun dx n d => ?_⟩⟩
    have a1 : (upd (upd H dx (exd dx [(f, v)])) a (exo a C (some dx))) dx = some (exd dx [(f, v)]) := by rw [upd_ne d]; exact upd_same
    refine ⟨u, get_start rfl, .ref a, get_start rfl, a, C, rfl, T, hno2, .inr ⟨dx, [(f, v)], upd_same, a1, by simp, q dx _ n d ?_ upd_same fun b h1 h2 => ?_⟩⟩
    · rw [upd_ne (Ne.symm d)]; exact upd_same
    · rw [upd_ne h2, upd_ne h1, upd_ne h2]
/-! ### raise C(..) -/
def dRaise (C : Addr) (n : Nat) (fd : List D → List (Str × D)) (we : Wsh) (tas : DAs) : DTS := fun _ δ => tas δ fun as δ1 => toDs as δ1 fun ds δ2 => ds.length = n ∧ we ⟨.ref C, fd ds⟩ δ2
section
variable {X : Cx} {G : Ctx} {e : Expr} {es : List Expr} {tas : DAs} {k : Nat} {W : WX} {we : Wsh} {x : Str} {p pos pos' : Pos}
theorem ds_raiseI {C fI : Addr} {fd : FuncData} {ps : List Str} {n : Nat} {fs : List V → List (Str × V)} {fsd : List D → List (Str × D)} (at_ : AtN X G (k + 1) W we) (T : OexC X.K C) (iC : PySem.W.findIn X.K (.ref C) "__init__" = some (some (.ref fI))) (tI : PySem.W.typeIn X.K (.ref fI) = some (.type "function"))
    (F1 : FnOk X.prog X.w X.K X.mg X.base (L2.CX X.prog X.w) k fI fd ps (spIni C n fs)) (hb : Binds X.K fd ps []) (hm : X.mg x = some (.ref C)) (ha : DA X G (e :: es) tas) (hn : n ≤ 1000)
    (hrel : ∀ (F : Hp) (vs : List V) (ds : List D), DpAll X.K F vs ds → ds.length = n → Paired (fun (p : Str × D) (q : Str × V) => p.1 = q.1 ∧ Dp X.K F q.2 p.2) (fsd ds) (fs vs))
    (hg : Gl X x := by rfl) (hc : X.calm = true := by rfl) (hdb : (x == ("__debug__" : Str)) = false := by decide) (he : starEach (e :: es) X.env = (false, eval e X.env) :: starEach es X.env := by rfl) (hpl : (backTo pos (starEach es X.env)).any (·.1) = false := by rfl) :
    DS X G (.Raise (some (.Call (.Name x p) (e :: es) [] pos)) none pos') (dRaise C n fsd we tas) := fun F O σ H δ N rr q => by
  refine semS_of (ps_raise hc at_.tk (pmk_oex T iC tI F1 at_.room hb .nil passL hg hm pa_sem hdb he hpl)) ?_
  refine semA_mono (ha F O σ H δ _ rr q) fun vs H1 ⟨F1, O1, δ1, as, e1, r1, s1, h1, q1⟩ => ?_
  obtain ⟨F2, O2, δ2, ds, e2, r2, s2, h2, hz, q2⟩ := r1.toDs h1 q1
  refine ⟨by rw [h2.len, hz]; exact hn, fun a na => ?_⟩
  rw [List.append_nil]
  refine ⟨a, vs, rfl, by rw [h2.len, hz], upd_same, fun dx H2 n1 n2 x1 x2 x3 => ⟨rfl, dx, fs vs, x1, x2, ?_, ?_⟩⟩
  · rw [upd_ne n2] at n1
    exact n1
  · have n1' : H1 dx = none := by
      rw [upd_ne n2] at n1
      exact n1
    have eH : upd (L2.del H2 a) dx (.xd (fs vs)) = upd H1 dx (.xd (fs vs)) := by
      funext b
      by_cases hb : b = dx
      · subst hb
        rw [upd_same, upd_same]
      · rw [upd_ne hb, upd_ne hb]
        by_cases hba : b = a
        · subst hba
          rw [L2.del_same, na]
        · rw [L2.del_ne hba, x3 b hba hb, upd_ne hba]
    rw [eH]
    have r3 := (r2.alloc n1' (.xd (fs vs))).freeze (r2.loose n1' _)
    have e3 := Ext.upd (o := HO.xd (fs vs)) (r2.notF n1')
    exact at_.wo _ O2 σ _ δ2 ⟨.ref C, fsd ds⟩ (some dx) r3 ⟨fs vs, upd_same, hrel _ vs ds (e3.all h2) hz⟩ q2
end
/-! ### try: .. except C as e: .. -/
theorem R.reF0 {K : PySem.W.Frag} {G : Ctx} {F F' : Hp} {O O' : Addr → Option OC} {σ σ' : L2.St} {H H' : Hp} {δ δ' : DSt} (r : R K G F O σ H δ) (r' : R K { G with F0 := F } F' O' σ' H' δ') : R K G F' O' σ' H' δ' where
  len := r'.len
  ext := r'.ext
  ext0 := r.ext0.trans r'.ext0
  new := fun a o h => (r'.new a o h).elim (fun z => r.new a o z) .inr
  bas := r'.bas
  inv := r'.inv
  fpF := r'.fpF
  own := r'.own
  slot := r'.slot
  sep := r'.sep
theorem R.toF0 {K : PySem.W.Frag} {G : Ctx} {F : Hp} {O : Addr → Option OC} {σ : L2.St} {H : Hp} {δ : DSt} (r : R K G F O σ H δ) : R K { G with F0 := F } F O σ H δ where
  len := r.len
  ext := r.ext
  ext0 := Ext.refl F
  new := fun a o h => .inl h
  bas := r.bas
  inv := r.inv
  fpF := r.fpF
  own := r.own
  slot := r.slot
  sep := r.sep
theorem XRep.ext {K : PySem.W.Frag} {F F' : Hp} {x : DXn} {d : Option Addr} (e : Ext F F') (h : XRep K F x d) : XRep K F' x d := by
  cases d with
  | none => exact h
  | some d =>
    obtain ⟨vs, h1, h2⟩ := h
    exact ⟨vs, e _ _ h1, Paired.imp2 (fun _ _ q => ⟨q.1, e.dp q.2⟩) h2⟩
def dTry (m : Value → Option Bool) (i : Nat) (tb : Wsh → DTS) (ts : Addr → DXn → DTS) (we : Wsh) : DTS := fun D δ =>
  tb (fun x δ1 => ∃ b, m x.cls = some b ∧ (b = true → ∀ a, withSet δ1 i (.raw (.ref a)) (ts a x { nx := fun δ2 => withSet δ2 i .emp D.nx, rt := D.rt, bk := fun δ2 => withSet δ2 i .emp D.bk, ct := fun δ2 => withSet δ2 i .emp D.ct })) ∧ (b = false → we x δ1)) D δ
section
variable {X : Cx} {G : Ctx} {k : Nat} {W : WX} {we : Wsh} {x n : Str} {c : Value} {i : Nat} {body suite : List Stmt} {b₀ : Stmt} {np pos pos' : Pos} {tb : Wsh → DTS} {ts : Addr → DXn → DTS}
theorem ds_try (i : Nat) (at_ : At X G k W we) (hN : X.N.Nodup) (hc : Names X x c)
    (hb : ∀ (W1 : WX) (we1 : Wsh) (pn : List (Addr × Obj)) (xe : Value → Shared → Prop) (G1 : Ctx), G1.W = G.W → At (X.tr pn xe) G1 k W1 we1 → PassesOwn (model X.prog X.w) X.A X.env xe → DSs (X.tr pn xe) G1 body (tb we1))
    (hsu : ∀ (a : Addr) (oe : Obj) (x : DXn) (d : Option Addr) (pn : List (Addr × Obj)) (G1 : Ctx), G1.W = G.W → XRep X.K G1.F0 x d → Zc x.cls d oe → (∃ vs, oe.data = .fields vs) → DSs (X.suite a ((a, oe) :: pn)) G1 (b₀ :: suite) (ts a x))
    (hi : X.N[i]? = some n := by rfl) (hln : X.env.kindOf n = some .local := by rfl) (hs : X.stack = X.env :: X.outer := by rfl) (hf : X.env.frame = some X.env.locals := by rfl) :
    DS X G (.Try body [.ExceptHandler (some (.Name x np)) (some n) (b₀ :: suite) pos'] [] [] pos) (dTry (fun cls => PySem.W.exmOne X.K cls c) i tb ts we) := fun F O σ H δ D rr q => by
  let tb' : WX → TS := fun W1 D' σ' H' => ∀ (pn : List (Addr × Obj)) (xe : Value → Shared → Prop), Takes (X.tr pn xe) W1 → PassesOwn (model X.prog X.w) X.A X.env xe → tSemSs (X.tr pn xe) body D' σ' H'
  let ts' : Addr → Value → Option Addr → TS := fun a cls d D' σ' H' => ∀ (oe : Obj) (pn : List (Addr × Obj)), Zc cls d oe → (∃ vs, oe.data = .fields vs) → tSemSs (X.suite a ((a, oe) :: pn)) (b₀ :: suite) D' σ' H'
  refine semS_of (ps_try_as (tb := tb') (ts := ts') hs hf hN hi hln hc at_.tk (fun W1 pn xe tk po => ⟨fun pins s σ H D I h => h pn xe tk po pins s I⟩) (fun a oe cls d pn z f => ⟨fun pins s σ H D I h => h oe pn z f pins s I⟩)) ?_
  intro pn xe tk po
  have wo : WOk X.K { G with F0 := F } (wAs X.K c i ts' W (Lnk X.K G F D)) (fun x δ1 => ∃ b, PySem.W.exmOne X.K x.cls c = some b ∧ (b = true → ∀ a, withSet δ1 i (.raw (.ref a)) (ts a x { nx := fun δ2 => withSet δ2 i .emp D.nx, rt := D.rt, bk := fun δ2 => withSet δ2 i .emp D.bk, ct := fun δ2 => withSet δ2 i .emp D.ct })) ∧ (b = false → we x δ1)) := by
    rintro F1 O1 σ1 H1 δ1 x dd r1 hx ⟨b, hm, h1, h2⟩
    have rG := rr.reF0 r1
    refine ⟨b, hm, fun hb a na oe pn z f => ?_, fun hb => at_.wo F1 O1 σ1 H1 δ1 x dd rG hx (h2 hb)⟩
    have q1 := withSet_ok (h1 hb a)
    have r2 := (rG.toF0).setRaw (i := i) (v := .ref a)
    have q2 := hsu a oe x dd pn { G with F0 := F1 } rfl hx z f F1 O1 _ H1 _ _ r2 q1
    have back : ∀ {qd : DSt → Prop} {σ' : L2.St} {H' : Hp}, LnkS X.K { G with F0 := F1 } F1 (fun δ2 => withSet δ2 i .emp qd) σ' H' → LnkS X.K G F qd (σ'.set i none) H' := fun ⟨F2, O2, δ2, e2, r3, q3⟩ =>
      ⟨F2, O2, _, r1.ext0.trans e2, (rG.reF0 r3).setEmp, withSet_ok q3⟩
    exact semSs_le q2 ⟨fun _ _ h => back h, fun v H' ⟨F2, O2, σ2, δ2, d, e2, r3, hd, q3⟩ => ⟨F2, O2, σ2, δ2, d, r1.ext0.trans e2, rG.reF0 r3, hd, q3⟩, fun _ _ h => back h, fun _ _ h => back h⟩
  have atB : At (X.tr pn xe) { G with F0 := F } k (wAs X.K c i ts' W (Lnk X.K G F D)) _ := ⟨⟨at_.room, tk, wo⟩, at_.gd⟩
  refine semSs_le (hb _ _ pn xe { G with F0 := F } rfl atB po F O σ H δ D rr.toF0 q) ?_
  have back : ∀ {qd : DSt → Prop} {σ' : L2.St} {H' : Hp}, LnkS X.K { G with F0 := F } F qd σ' H' → LnkS X.K G F qd σ' H' := fun ⟨F2, O2, δ2, e2, r3, q3⟩ => ⟨F2, O2, _, e2, rr.reF0 r3, q3⟩
  exact ⟨fun _ _ h => back h, fun v H' ⟨F2, O2, σ2, δ2, d, e2, r3, hd, q3⟩ => ⟨F2, O2, σ2, δ2, d, e2, rr.reF0 r3, hd, q3⟩, fun _ _ h => back h, fun _ _ h => back h⟩
end
/-- e.f in an except suite -/
def dFld (i : Nat) (a : Addr) (x : DXn) (C : Addr) (f : Str) : DE := fun δ Q => match δ[i]? with
  | some (.raw v) => (v = .ref a ∧ x.cls = .ref C) ∧ ∃ d, x.fs.lookup f = some d ∧ Q (.dat d) δ
  | _ => False
theorem paired_lookup {K : PySem.W.Frag} {F : Hp} {f : Str} {d : D} : ∀ {fs : List (Str × D)} {vs : List (Str × V)}, Paired (fun (p : Str × D) (q : Str × V) => p.1 = q.1 ∧ Dp K F q.2 p.2) fs vs → fs.lookup f = some d → ∃ v, vs.lookup f = some v ∧ Dp K F v d
  | _, _, .nil, h => by cases h
  | (x, d') :: fs, (y, v) :: vs, .cons ⟨h1, h2⟩ t, h => by
    simp only at h1
    subst h1
    by_cases e : f = x
    · subst e
      simp [List.lookup] at h ⊢
      subst h
      exact h2
    · have : (f == x) = false := by simpa using e
      simp only [List.lookup, this] at h ⊢
      exact paired_lookup t h
theorem dx_fld {X : Cx} {G : Ctx} {a C : Addr} {oe : Obj} {x : DXn} {d : Option Addr} {pn : List (Addr × Obj)} {pos p : Pos} {n f : Str} (i : Nat) (T : XfC X.K C) (hno : PySem.W.findIn X.K (.ref C) f = some none) (hx : XRep X.K G.F0 x d) (hz : Zc x.cls d oe) (hf : ∃ vs, oe.data = .fields vs)
    (hN : X.N[i]? = some n := by rfl) (hv : Vis X.env.scope n := by first | exact Or.inl rfl | exact Or.inr (Or.inl rfl) | exact Or.inr (Or.inr rfl)) (hd : (n == ("__debug__" : Str)) = false := by decide) (hcd : (n == ("__classdict__" : Str)) = false := by decide)
    (hb : attributeBase (.Name n p) f X.env (eval (.Name n p) X.env) = eval (.Name n p) X.env := by rfl) : DX (X.suite a ((a, oe) :: pn)) G (.Attribute (.Name n p) f pos) (dFld i a x C f) := fun F O σ H δ Q rr q => by
  unfold dFld at q
  split at q
  · rename_i v hs
    obtain ⟨o, ho, hk⟩ := rr.slot_at hs
    obtain rfl : o = some v := hk
    obtain ⟨⟨rfl, ec⟩, dv, hl, q⟩ := q
    cases d with
    | none =>
      have hx' : x.fs = [] := hx
      rw [hx'] at hl
      cases hl
    | some dd =>
      obtain ⟨vs, h1, h2⟩ := hx
      obtain ⟨u, hu, du⟩ := paired_lookup h2 hl
      refine sem_of (pe_xf T hno hz hf (pe_var (X := X.suite a ((a, oe) :: pn)) hN hv ‹_› hcd) hb) ⟨.ref a, ho, rfl, ec, dd, vs, u, rfl, rr.ext _ _ (rr.ext0 _ _ h1), hu, Fin.here (av := .dat dv) rr (rr.ext0.dp du) q⟩
  · exact q.elim
end DL
set_option Elab.async false
set_option linter.all false
set_option maxRecDepth 100000
set_option maxHeartbeats 2000000
/-! the source of the law's numbers: a dict and a list that its defs change -/
namespace DL
open PySem L2 PyProof.Rows
def srcKv (c : Addr) (l m t : Int) : List (Key × V) := [(.inr "cells", .ref c), (.inr "left", .int l), (.inr "mixed", .int m), (.inr "turn", .int t)]
structure SrcAt (src c : Addr) (H : Hp) (cells : List Int) (l m t : Int) : Prop where
  dict : H src = some (.dK (srcKv c l m t))
  list : H c = some (.lst (cells.map V.int))
def srcW (src c : Addr) : Wd where
  inv := fun H => src ≠ c ∧ ∃ cells l m t, SrcAt src c H cells l m t
  fp := fun a => a = src ∨ a = c
  trk := fun H a ⟨_, cells, l, m, t, s⟩ h => by
    rcases h with e | e
    · subst e; rw [s.dict]; simp
    · subst e; rw [s.list]; simp
  stay := fun H H' ⟨n, cells, l, m, t, s⟩ h => ⟨n, cells, l, m, t, ⟨(h _ (.inl rfl)).trans s.dict, (h _ (.inr rfl)).trans s.list⟩⟩
theorem val_cells {c : Addr} {l m t : Int} : valV (srcKv c l m t) (.inr "cells") = some (.ref c) := by
  unfold srcKv valV; rfl
theorem val_left {c : Addr} {l m t : Int} : valV (srcKv c l m t) (.inr "left") = some (.int l) := by
  unfold srcKv valV; rfl
theorem val_mixed {c : Addr} {l m t : Int} : valV (srcKv c l m t) (.inr "mixed") = some (.int m) := by
  unfold srcKv valV; rfl
theorem val_turn {c : Addr} {l m t : Int} : valV (srcKv c l m t) (.inr "turn") = some (.int t) := by
  unfold srcKv valV; rfl
theorem put_left {c : Addr} {l m t n : Int} : putK (srcKv c l m t) (.inr "left") (.int n) = srcKv c n m t := by
  unfold srcKv putK; rfl
theorem put_mixed {c : Addr} {l m t n : Int} : putK (srcKv c l m t) (.inr "mixed") (.int n) = srcKv c l n t := by
  unfold srcKv putK; rfl
theorem put_turn {c : Addr} {l m t n : Int} : putK (srcKv c l m t) (.inr "turn") (.int n) = srcKv c l m n := by
  unfold srcKv putK; rfl
inductive SrcKey : Str → Prop where
  | left : SrcKey "left"
  | mixed : SrcKey "mixed"
  | turn : SrcKey "turn"
theorem SrcKey.get {x : Str} (k : SrcKey x) (c : Addr) (l m t : Int) : ∃ n, valV (srcKv c l m t) (.inr x) = some (.int n) := by
  cases k with
  | left => exact ⟨l, val_left⟩
  | mixed => exact ⟨m, val_mixed⟩
  | turn => exact ⟨t, val_turn⟩
theorem SrcKey.put {x : Str} (k : SrcKey x) (c : Addr) (l m t n : Int) : ∃ l' m' t', putK (srcKv c l m t) (.inr x) (.int n) = srcKv c l' m' t' := by
  cases k with
  | left => exact ⟨n, m, t, put_left⟩
  | mixed => exact ⟨l, n, t, put_mixed⟩
  | turn => exact ⟨l, m, n, put_turn⟩
theorem SrcAt.put {src c : Addr} {H : Hp} {cells : List Int} {l m t l' m' t' : Int} (s : SrcAt src c H cells l m t) (n : src ≠ c) : SrcAt src c (upd H src (.dK (srcKv c l' m' t'))) cells l' m' t' :=
  ⟨upd_same, by rw [upd_ne (Ne.symm n)]; exact s.list⟩
section
variable {K : PySem.W.Frag} {G : Ctx} {F : Hp} {O : Addr → Option OC} {σ : L2.St} {H : Hp} {δ : DSt} {sa sc : Addr}
theorem R.srcPut (r : R K G F O σ H δ) (hW : SubW (srcW sa sc) G.W) {cells : List Int} {l m t l' m' t' : Int} (s : SrcAt sa sc H cells l m t) (n : sa ≠ sc) : R K G F O σ (upd H sa (.dK (srcKv sc l' m' t'))) δ := by
  have keep : ∀ a o, H a = some o → ¬ (srcW sa sc).fp a → upd H sa (.dK (srcKv sc l' m' t')) a = some o := fun a o e nf => by
    rw [upd_ne fun z => nf (.inl z)]
    exact e
  exact r.world (fun a o e nf => keep a o e fun z => nf (hW.fp a z)) (hW.back _ _ r.inv ⟨n, cells, l', m', t', s.put n⟩ keep)
theorem R.srcAt (r : R K G F O σ H δ) (hW : SubW (srcW sa sc) G.W) : sa ≠ sc ∧ ∃ cells l m t, SrcAt sa sc H cells l m t := by
  exact hW.inv _ r.inv
theorem R.raw_at (r : R K G F O σ H δ) {i : Nat} {v : V} (h : δ[i]? = some (.raw v)) : σ[i]? = some (some v) := by
  obtain ⟨o, h1, h2⟩ := r.slot_at h
  have h2' : o = some v := h2
  rw [h1, h2']
end
section
variable {X : Cx} {G : Ctx} {sa sc : Addr} {e : Expr} {t : DE} {pos pos' p p2 : Pos} {x : Str} {j : Nat}
/-- source['left'] and its like: some number -/
def dSrcI (i : Nat) (sa : Addr) : DE := fun δ Q => match δ[i]? with
  | some (.raw v) => v = .ref sa ∧ ∀ n : Int, Q (.dat (.int n)) δ
  | _ => False
theorem dx_src (i : Nat) {key : Str} (k : SrcKey key) (hW : SubW (srcW sa sc) G.W) (hu : X.A.units + 65 < cLine) (hN : X.N[i]? = some x := by rfl) (hv : Vis X.env.scope x := by first | exact Or.inl rfl | exact Or.inr (Or.inl rfl) | exact Or.inr (Or.inr rfl)) (hd : (x == ("__debug__" : Str)) = false := by decide)
    (hcd : (x == ("__classdict__" : Str)) = false := by decide) : DX X G (.Subscript (.Name x p) (.Constant (.str key) j p2) pos) (dSrcI i sa) := fun F O σ H δ Q rr q => by
  unfold dSrcI at q
  split at q
  · rename_i v hs
    obtain ⟨rfl, q⟩ := q
    obtain ⟨ne, cells, l, m, t, s⟩ := rr.srcAt hW
    obtain ⟨n, hn⟩ := k.get sc l m t
    have g := DGet.k (k := .inr key) s.dict
    rw [hn] at g
    exact sem_of (pe_dget (by omega) (pe_var hN hv hd hcd) pe_str (fun _ _ => rfl)) ⟨_, rr.raw_at hs, sa, _, rfl, g, Fin.here (av := .dat (.int n)) rr (.int n) (q n)⟩
  · exact q.elim
/-- source['left'] = e and its like -/
def dSrcSet (i : Nat) (sa : Addr) (t : DE) : DTS := fun D δ => t δ fun av δ1 => match av with
  | .dat (.int _) => match δ1[i]? with
    | some (.raw v) => v = .ref sa ∧ D.nx δ1
    | _ => False
  | _ => False
theorem ds_srcSet (i : Nat) {key : Str} (k : SrcKey key) (hW : SubW (srcW sa sc) G.W) (hu : X.A.units + 65 < cLine) (h : DX X G e t) (hN : X.N[i]? = some x := by rfl) (hv : Vis X.env.scope x := by first | exact Or.inl rfl | exact Or.inr (Or.inl rfl) | exact Or.inr (Or.inr rfl)) (hd : (x == ("__debug__" : Str)) = false := by decide)
    (hcd : (x == ("__classdict__" : Str)) = false := by decide) (hs : swapsWith e (some (.Subscript (.Name x p) (.Constant (.str key) j p2) pos')) pos.line X.env = pure false := by rfl) : DS X G (.Assign [.Subscript (.Name x p) (.Constant (.str key) j p2) pos'] e pos) (dSrcSet i sa t) := fun F O σ H δ D rr q => by
  refine semS_of (ps_dput (by omega) (pe_var hN hv hd hcd) pe_str pe_sem hs) (sem_mono (h F O σ H δ _ rr q) fun v H1 ⟨F1, O1, δ1, av, e1, r1, s1, h1, q1⟩ => ?_)
  cases av with
  | dat d =>
    cases d with
    | int z =>
      cases (show Dp X.K F1 v (.int z) from h1)
      change (match δ1[i]? with | some (.raw v) => v = .ref sa ∧ D.nx δ1 | _ => False) at q1
      split at q1
      · rename_i w hs
        obtain ⟨rfl, q1⟩ := q1
        obtain ⟨ne, cells, l, m, t, s⟩ := r1.srcAt hW
        obtain ⟨l', m', t', hp⟩ := k.put sc l m t z
        have g := DPut.k (k := .inr key) (v := .int z) s.dict (by rw [sizeLine_eq]; show 4 < _; decide)
        rw [hp] at g
        exact ⟨_, r1.raw_at hs, sa, _, rfl, g, F1, O1, δ1, e1, r1.srcPut hW s ne, q1⟩
      · exact q1.elim
    | _ => exact q1.elim
  | raw _ => exact q1.elim
  | bor _ => exact q1.elim
/-- while many > 1 and source['left'] < 2 and len(source['cells']) > 0: source['left'] = source['cells'].pop() -/
def dSrcLoop (i j : Nat) (sa : Addr) : DTS := fun D δ => match δ[i]?, δ[j]? with
  | some (.raw v), some (.dat (.int _)) => v = .ref sa ∧ D.nx δ
  | _, _ => False

theorem ds_srcLoop (i j : Nat) {q1 q2 q3 q4 q5 q6 q7 q8 q9 q10 q11 q12 q13 q14 q15 q16 q17 q18 q19 q20 q21 q22 q23 q24 q25 q26 : Pos} {k1 k2 k3 k4 k5 k6 k7 : Nat} (hW : SubW (srcW sa sc) G.W) (hu : X.A.units + 65 < cLine) (po : PassesOwn (model X.prog X.w) X.A X.env X.xe) (hlen : X.mg "len" = none)
    (hi : X.N[i]? = some ("source" : Str) := by rfl) (hj : X.N[j]? = some ("many" : Str) := by rfl) (vi : Vis X.env.scope "source" := by first | exact Or.inl rfl | exact Or.inr (Or.inl rfl) | exact Or.inr (Or.inr rfl)) (vj : Vis X.env.scope "many" := by first | exact Or.inl rfl | exact Or.inr (Or.inl rfl) | exact Or.inr (Or.inr rfl)) (hgl : Gl X "len" := by rfl)
    (he : starEach [.Subscript (.Name "source" q10) (.Constant (.str "cells") k4 q11) q12] X.env = (false, eval (.Subscript (.Name "source" q10) (.Constant (.str "cells") k4 q11) q12) X.env) :: starEach [] X.env := by rfl)
    (hs : swapsWith (.Call (.Attribute (.Subscript (.Name "source" q20) (.Constant (.str "cells") k7 q21) q22) "pop" q23) [] [] q24) (some (.Subscript (.Name "source" q17) (.Constant (.str "left") k6 q18) q19)) q25.line X.env = pure false := by rfl)
    (hbase : attributeBase (.Subscript (.Name "source" q20) (.Constant (.str "cells") k7 q21) q22) "pop" X.env (eval (.Subscript (.Name "source" q20) (.Constant (.str "cells") k7 q21) q22) X.env) = eval (.Subscript (.Name "source" q20) (.Constant (.str "cells") k7 q21) q22) X.env := by rfl)
    (hline : (q23.endLine == q24.line) = true := by rfl) :
    DS X G (.While (.BoolOp .And [.Compare (.Name "many" q1) [.Gt] [.Constant (.int 1) k1 q2] q3, .Compare (.Subscript (.Name "source" q4) (.Constant (.str "left") k2 q5) q6) [.Lt] [.Constant (.int 2) k3 q7] q8, .Compare (.Call (.Name "len" q9) [.Subscript (.Name "source" q10) (.Constant (.str "cells") k4 q11) q12] [] q13) [.Gt] [.Constant (.int 0) k5 q14] q15] q16)
      [.Assign [.Subscript (.Name "source" q17) (.Constant (.str "left") k6 q18) q19] (.Call (.Attribute (.Subscript (.Name "source" q20) (.Constant (.str "cells") k7 q21) q22) "pop" q23) [] [] q24) q25] [] q26) (dSrcLoop i j sa) := fun F O σ H δ D rr q => by
  unfold dSrcLoop at q
  split at q
  · rename_i v m hi0 hj0
    obtain ⟨rfl, q⟩ := q
    obtain ⟨om, hj1, vm, rfl, hm⟩ := rr.slot_at hj0
    cases hm
    have si := rr.raw_at hi0
    have hu1 : X.A.units + 1 < cLine := by omega
    have pv : PE X (.Name "source" q4) _ := pe_var hi vi
    refine semS_of (ps_while po (PW.pt (pw_and (pt_cmpR op_gt (pe_var hj vj) pe_int (nomark _)) (pw_and (pt_cmpR op_lt (pe_dget hu1 (pe_var hi vi) pe_str (fun _ _ => rfl)) pe_int (nomark _)) (pw_and1 (pt_cmpR op_gt (pe_callB call_len hgl hlen boot_len (pa_cons (pe_dget hu1 (pe_var hi vi) pe_str (fun _ _ => rfl)) pa_nil he)) pe_int (nomark _))))))
      (pss_one (ps_dput hu1 (pe_var hi vi) pe_str (pe_bm0 PySem.F.plainAttrs_list PySem.F.slot_list_pop PySem.F.type_list_pop mt_pop (pe_dget hu1 (pe_var hi vi) pe_str (fun _ _ => rfl)) hbase hline) hs))) ?_
    obtain ⟨ne, cells, l, mi, tu, s⟩ := rr.srcAt hW
    refine ⟨fun n σ' H' => σ' = σ ∧ R X.K G F O σ H' δ ∧ ∃ cells l mi tu, cells.length = n ∧ SrcAt sa sc H' cells l mi tu, ⟨cells.length, rfl, rr, cells, l, mi, tu, rfl, s⟩, ?_⟩
    rintro n σ' H' ⟨rfl, r1, cells, l, mi, tu, hn, s⟩
    have stop : LnkS X.K G F D.nx σ' H' := ⟨F, O, δ, Ext.refl F, r1, q⟩
    refine ⟨_, hj1, _, _, rfl, rfl, _, rfl, ?_⟩
    show (if _ = true then _ else _)
    split
    · have g1 := DGet.k (k := .inr "left") s.dict
      rw [val_left] at g1
      refine ⟨_, si, sa, _, rfl, g1, _, _, rfl, rfl, _, rfl, ?_⟩
      show (if _ = true then _ else _)
      split
      · have g2 := DGet.k (k := .inr "cells") s.dict
        rw [val_cells] at g2
        refine ⟨_, si, sa, _, rfl, g2, _, cells.length, rfl, .inl ⟨_, SqL.of s.list, by simp⟩, _, _, rfl, rfl, _, rfl, ?_⟩
        show (if _ = true then _ else _)
        split
        · rename_i hpos
          have hpos := of_decide_eq_true hpos
          refine ⟨fun σ2 H2 => ∃ m', m' < n ∧ (σ2 = σ' ∧ R X.K G F O σ' H2 δ ∧ ∃ cells l mi tu, cells.length = m' ∧ SrcAt sa sc H2 cells l mi tu), fun _ _ h => h, ?_⟩
          obtain ⟨c0, hc0⟩ : ∃ c0, cells[cells.length - 1]? = some c0 := ⟨_, List.getElem?_eq_getElem (by omega)⟩
          refine ⟨_, si, sa, _, rfl, g2, Or.inl ⟨rfl, _, SqL.of s.list⟩, sc, cells.map V.int, .int c0, rfl, rfl, s.list, ?_, ?_⟩
          · rw [List.length_map, List.getElem?_map, hc0]; rfl
          have s2 : SrcAt sa sc (upd H' sc (.lst (cells.map V.int).dropLast)) cells.dropLast l mi tu := ⟨by rw [upd_ne ne]; exact s.dict, by rw [upd_same, List.map_dropLast]⟩
          have keep : ∀ a o, H' a = some o → ¬ (srcW sa sc).fp a → upd H' sc (.lst (cells.map V.int).dropLast) a = some o := fun a o e nf => by
            rw [upd_ne fun z => nf (.inr z)]
            exact e
          have r2 : R X.K G F O σ' (upd H' sc (.lst (cells.map V.int).dropLast)) δ := r1.world (fun a o e nf => keep a o e fun z => nf (hW.fp a z)) (hW.back _ _ r1.inv ⟨ne, _, _, _, _, s2⟩ keep)
          have g3 := DPut.k (k := .inr "left") (v := .int c0) s2.dict (by rw [sizeLine_eq]; show 4 < _; decide)
          rw [put_left] at g3
          exact ⟨_, si, sa, _, rfl, g3, cells.length - 1, by omega, rfl, r2.srcPut hW s2 ne, cells.dropLast, c0, mi, tu, by rw [List.length_dropLast], s2.put ne⟩
        · exact stop
      · exact stop
    · exact stop
  · exact q.elim
end
end DL
set_option Elab.async false
set_option linter.all false
set_option maxRecDepth 100000
set_option maxHeartbeats 2000000
/-! x, y = e1, e2 and x, y, z = e1, e2, e3 where new lists may be among the values -/
namespace DL
open PySem L2 PyProof.Rows
inductive IV where
  | dat (d : D)
  | own (c : OC)
def IV.sv : IV → SV
  | .dat d => .dat d
  | .own c => .own c
def IVok (K : PySem.W.Frag) (F : Hp) (O : Addr → Option OC) (σ : L2.St) (δ : DSt) : IV → V → Prop
  | .dat d, v => Dp K F v d
  | .own c, v => ∃ p, v = .ref p ∧ O p = some c ∧ NoSlot σ δ p
/-- the new ones are none of ps, and differ -/
def Apart : List IV → List V → List Addr → Prop
  | .own _ :: as, v :: vs, ps => ∃ p, v = .ref p ∧ p ∉ ps ∧ Apart as vs (p :: ps)
  | .dat _ :: as, _ :: vs, ps => Apart as vs ps
  | _, _, _ => True
abbrev DMs := DSt → (List IV → DSt → Prop) → Prop
def FinM (K : PySem.W.Frag) (G : Ctx) (F : Hp) (σ : L2.St) (O : Addr → Option OC) (δ : DSt) (ps : List Addr) (Q : List IV → DSt → Prop) : List V → Hp → Prop := fun vs H' =>
  ∃ F' O' δ' as, Ext F F' ∧ R K G F' O' σ H' δ' ∧ Stp σ O δ O' δ' ∧ Paired (IVok K F' O' σ δ') as vs ∧ Apart as vs ps ∧ Q as δ'
def DM (X : Cx) (G : Ctx) (es : List Expr) (t : DMs) : Prop := ∀ (F : Hp) (O : Addr → Option OC) (σ : L2.St) (H : Hp) (δ : DSt) (ps : List Addr) (Q : List IV → DSt → Prop), R X.K G F O σ H δ → (∀ p ∈ ps, ∃ c, O p = some c ∧ NoSlot σ δ p) → t δ Q → tSemA X es σ H (FinM X.K G F σ O δ ps Q)
def mNil : DMs := fun δ Q => Q [] δ
def mDat (t : DE) (ts : DMs) : DMs := fun δ Q => t δ fun av δ1 => toD av δ1 fun d δ2 => ts δ2 fun as δ3 => Q (.dat d :: as) δ3
def mOwn (t : DNw) (ts : DMs) : DMs := fun δ Q => t δ fun c δ1 => ts δ1 fun as δ2 => Q (.own c :: as) δ2
section
variable {X : Cx} {G : Ctx} {e : Expr} {es : List Expr} {t : DE} {tn : DNw} {ts : DMs}
theorem keepAll {O O' : Addr → Option OC} {σ : L2.St} {δ δ' : DSt} {ps : List Addr} (s : Stp σ O δ O' δ') (h : ∀ p ∈ ps, ∃ c, O p = some c ∧ NoSlot σ δ p) : ∀ p ∈ ps, ∃ c, O' p = some c ∧ NoSlot σ δ' p := fun p hp => by
  obtain ⟨c, h1, h2⟩ := h p hp
  exact ⟨c, s.keep p c h1 h2, s.noSlot h2⟩
theorem dm_nil : DM X G [] mNil := fun F O σ H δ ps Q rr _ q => semA_of pa_nil ⟨F, O, δ, [], Ext.refl F, rr, Stp.refl, .nil, trivial, q⟩
theorem dm_dat (h : DX X G e t) (h' : DM X G es ts) (hs : starEach (e :: es) X.env = (false, eval e X.env) :: starEach es X.env := by rfl) : DM X G (e :: es) (mDat t ts) := fun F O σ H δ ps Q rr hp q => by
  refine semA_of (pa_cons pe_sem pa_sem hs) (sem_mono (h F O σ H δ _ rr q) fun v H1 ⟨F1, O1, δ1, av, e1, r1, s1, h1, q1⟩ => ?_)
  obtain ⟨F2, O2, δ2, d, e2, r2, s2, h2, q2⟩ := r1.toD h1 q1
  refine semA_mono (h' F2 O2 σ H1 δ2 ps _ r2 (keepAll (s1.trans s2) hp) q2) fun vs H2 ⟨F3, O3, δ3, as, e3, r3, s3, h3, ap, q3⟩ => ?_
  exact ⟨F3, O3, δ3, .dat d :: as, (e1.trans e2).trans e3, r3, (s1.trans s2).trans s3, .cons (e3.dp h2) h3, ap, q3⟩
theorem dm_own (h : DN X G e tn) (h' : DM X G es ts) (hs : starEach (e :: es) X.env = (false, eval e X.env) :: starEach es X.env := by rfl) : DM X G (e :: es) (mOwn tn ts) := fun F O σ H δ ps Q rr hp q => by
  refine semA_of (pa_cons pe_sem pa_sem hs) (sem_mono (h F O σ H δ _ rr q) fun v H1 ⟨F1, O1, δ1, p, ho, c, e1, r1, s1, ev, l, hc, q1⟩ => ?_)
  subst ev
  have hp1 := keepAll s1 hp
  have np : p ∉ ps := fun z => by
    obtain ⟨c', h1, _⟩ := hp1 p z
    rw [l.o] at h1
    cases h1
  have ns : NoSlot σ δ1 p := r1.noSlot l.o
  have r2 := r1.take l hc
  have s2 : Stp σ O1 δ1 (updO O1 p c) δ1 := ⟨fun a c' h _ => by rw [updO_ne fun z => by rw [z, l.o] at h; cases h]; exact h, fun i c h => ⟨c, h⟩⟩
  refine semA_mono (h' F1 _ σ H1 δ1 (p :: ps) _ r2 (fun a ha => ?_) q1) fun vs H2 ⟨F3, O3, δ3, as, e3, r3, s3, h3, ap, q3⟩ => ?_
  · rcases List.mem_cons.mp ha with e | ha
    · subst e
      exact ⟨c, updO_same, ns⟩
    · exact keepAll s2 hp1 a ha
  · exact ⟨F3, O3, δ3, .own c :: as, e1.trans e3, r3, (s1.trans s2).trans s3, .cons ⟨p, rfl, s3.keep p c updO_same ns, s3.noSlot ns⟩ h3, ⟨p, rfl, np, ap⟩, q3⟩
/-- a slot is given what it may bear -/
theorem R.setIV {K : PySem.W.Frag} {F : Hp} {O : Addr → Option OC} {σ : L2.St} {H : Hp} {δ : DSt} {i : Nat} {a : IV} {v : V} (r : R K G F O σ H δ) (h : IVok K F O σ δ a v) : R K G F O (σ.set i (some v)) H (δ.set i a.sv) := by
  cases a with
  | dat d => exact r.setDat h
  | own c =>
    obtain ⟨p, rfl, h2, h3⟩ := h
    exact r.setSlot (s := .own c) ⟨p, rfl, h2⟩ fun c2 a _ e j _ hj => by
      cases e
      exact h3 j hj
theorem IVok.set {K : PySem.W.Frag} {F : Hp} {O : Addr → Option OC} {σ : L2.St} {δ : DSt} {i : Nat} {s : SV} {o : Option V} {a : IV} {v : V} (h : IVok K F O σ δ a v) (hn : ∀ p, v = .ref p → (∀ c, a = .own c → ¬ (o = some (.ref p) ∧ ∃ c, s = .own c))) : IVok K F O (σ.set i o) (δ.set i s) a v := by
  cases a with
  | dat d => exact h
  | own c =>
    obtain ⟨p, rfl, h2, h3⟩ := h
    refine ⟨p, rfl, h2, fun j ⟨⟨c', h4⟩, h5⟩ => ?_⟩
    by_cases z : i = j
    · subst z
      have b1 := (List.getElem?_eq_some_iff.mp h4).1
      have b2 := (List.getElem?_eq_some_iff.mp h5).1
      rw [List.length_set] at b1 b2
      rw [List.getElem?_set_self b1] at h4
      rw [List.getElem?_set_self b2] at h5
      exact hn p rfl c rfl ⟨Option.some.inj h5, c', Option.some.inj h4⟩
    · rw [List.getElem?_set_ne z] at h4 h5
      exact h3 j ⟨⟨c', h4⟩, h5⟩
theorem apart_ne {K : PySem.W.Frag} {F : Hp} {O : Addr → Option OC} {σ : L2.St} {δ : DSt} {a b : IV} {v w : V} {as : List IV} {vs : List V} {ps : List Addr} (ha : IVok K F O σ δ a v) (h : Apart (a :: b :: as) (v :: w :: vs) ps) : ∀ p, w = .ref p → ∀ c, b = .own c → ¬ (some v = some (.ref p) ∧ ∃ c, a.sv = .own c) := fun p ew c eb ⟨ev, c', ea⟩ => by
  cases a with
  | dat d => cases ea
  | own ca =>
    subst eb
    obtain ⟨p1, e1, n1, p2, e2, n2, _⟩ := h
    cases ev
    cases e1
    subst ew
    cases e2
    exact n2 List.mem_cons_self
def setIV (δ : DSt) (i : Nat) (x : IV) (k : DSt → Prop) : Prop := match x with
  | .dat d => withSet δ i (.dat d) k
  | .own c => withSet δ i (.own c) k
theorem setIV_ok {δ : DSt} {i : Nat} {x : IV} {k : DSt → Prop} (h : setIV δ i x k) : k (δ.set i x.sv) := by
  cases x <;> exact withSet_ok h
def dPar2 (i j : Nat) (ts : DMs) : DTS := fun N δ => ts δ fun as δ1 => match as with
  | [x, y] => setIV δ1 i x fun δ2 => setIV δ2 j y N.nx
  | _ => False
theorem ds_par2 (i j : Nat) {a b : Expr} {x y : Str} {px py pt pos : Pos} {kt k2 pt2} (hN : X.N.Nodup) (ha : DM X G [a, b] ts) (hi : X.N[i]? = some x := by rfl) (hj : X.N[j]? = some y := by rfl) (hij : i ≠ j := by decide) (hx : X.env.scope.names.lookup x = some .local := by rfl) (hy : X.env.scope.names.lookup y = some .local := by rfl)
    (hw : swappedStores [.Tuple [.Name x px, .Name y py] kt pt] (.Tuple [a, b] k2 pt2) X.env = pure (some [x, y]) := by rfl) (hs : swapsWithSole [.Tuple [.Name x px, .Name y py] kt pt] (.Tuple [a, b] k2 pt2) pos.line X.env = pure false := by rfl) (hc : X.calm = true := by rfl) :
    DS X G (.Assign [.Tuple [.Name x px, .Name y py] kt pt] (.Tuple [a, b] k2 pt2) pos) (dPar2 i j ts) := fun F O σ H δ N rr q => by
  refine semS_of (ps_par hc hN hi hj hij hx hy pa_sem hw hs) (semA_mono (ha F O σ H δ [] _ rr (fun _ z => absurd z (by simp)) q) fun vs H1 ⟨F1, O1, δ1, as, e1, r1, s1, h1, ap, q1⟩ => ?_)
  match as, vs, h1, ap, q1 with
  | [a1, a2], [v1, v2], .cons h1 (.cons h2 .nil), ap, q1 =>
    exact ⟨v1, v2, rfl, F1, O1, _, e1, (r1.setIV h1).setIV (h2.set (apart_ne h1 ap)), setIV_ok (setIV_ok q1)⟩
def dPar3 (i j k : Nat) (ts : DMs) : DTS := fun N δ => ts δ fun as δ1 => match as with
  | [x, y, z] => setIV δ1 i x fun δ2 => setIV δ2 j y fun δ3 => setIV δ3 k z N.nx
  | _ => False
theorem ds_par3 (i j l : Nat) {a b c : Expr} {x y z : Str} {px py pz pt pos : Pos} {kt k2 pt2} (hN : X.N.Nodup) (ha : DM X G [a, b, c] ts) (hi : X.N[i]? = some x := by rfl) (hj : X.N[j]? = some y := by rfl) (hl : X.N[l]? = some z := by rfl) (hij : i ≠ j := by decide) (hil : i ≠ l := by decide) (hjl : j ≠ l := by decide)
    (hx : X.env.scope.names.lookup x = some .local := by rfl) (hy : X.env.scope.names.lookup y = some .local := by rfl) (hz : X.env.scope.names.lookup z = some .local := by rfl)
    (hw : swappedStores [.Tuple [.Name x px, .Name y py, .Name z pz] kt pt] (.Tuple [a, b, c] k2 pt2) X.env = pure (some [x, y, z]) := by rfl) (hs : swapsWithSole [.Tuple [.Name x px, .Name y py, .Name z pz] kt pt] (.Tuple [a, b, c] k2 pt2) pos.line X.env = pure false := by rfl) (hc : X.calm = true := by rfl) :
    DS X G (.Assign [.Tuple [.Name x px, .Name y py, .Name z pz] kt pt] (.Tuple [a, b, c] k2 pt2) pos) (dPar3 i j l ts) := fun F O σ H δ N rr q => by
  refine semS_of (ps_par3 hc hN hi hj hl hij hil hjl hx hy hz pa_sem hw hs) (semA_mono (ha F O σ H δ [] _ rr (fun _ z => absurd z (by simp)) q) fun vs H1 ⟨F1, O1, δ1, as, e1, r1, s1, h1, ap, q1⟩ => ?_)
  match as, vs, h1, ap, q1 with
  | [a1, a2, a3], [v1, v2, v3], .cons h1 (.cons h2 (.cons h3 .nil)), ap, q1 =>
    have n12 := apart_ne h1 ap
    have n13 : ∀ p, v3 = .ref p → ∀ c, a3 = .own c → ¬ (some v1 = some (.ref p) ∧ ∃ c, a1.sv = .own c) := by
      cases a1 with
      | dat d => exact fun p _ c _ ⟨_, c', z⟩ => by cases z
      | own c1 =>
        obtain ⟨p1, rfl, _, ap⟩ := ap
        intro p e3 c ec ⟨ev, _⟩
        subst ec
        cases ev
        subst e3
        cases a2 with
        | dat d =>
          obtain ⟨p3, e4, n4, _⟩ := ap
          cases e4
          exact n4 List.mem_cons_self
        | own c2 =>
          obtain ⟨p2, rfl, n2, p3, e4, n4, _⟩ := ap
          cases e4
          exact n4 (List.mem_cons_of_mem _ List.mem_cons_self)
    have n23 : ∀ p, v3 = .ref p → ∀ c, a3 = .own c → ¬ (some v2 = some (.ref p) ∧ ∃ c, a2.sv = .own c) := by
      cases a1 with
      | dat d => exact apart_ne h2 ap
      | own c1 =>
        obtain ⟨p1, rfl, _, ap⟩ := ap
        exact apart_ne h2 ap
    exact ⟨v1, v2, v3, rfl, F1, O1, _, e1, ((r1.setIV h1).setIV (h2.set n12)).setIV ((h3.set n13).set n23), setIV_ok (setIV_ok (setIV_ok q1))⟩
end
end DL
set_option Elab.async false
set_option linter.all false
set_option maxRecDepth 100000
set_option maxHeartbeats 2000000
/-! what a law's text needs besides: facts of the top, the source made, the head -/
namespace DL
open PySem L2 PyProof.Rows
theorem AtN.mono {X : Cx} {G : Ctx} {j k : Nat} {W : WX} {we : Wsh} (a : AtN X G k W we) (h : j ≤ k) : AtN X G j W we := ⟨a.room.mono h, a.tk, a.wo⟩
/-- a def of the module -/
structure Df (K : PySem.W.Frag) (mg : Str → Option Value) (x : Str) (st : Stmt) (ps : List Str) where
  f : Addr
  fd : FuncData
  F : Fun K x x st f fd
  m : mg x = some (.ref f)
  b : Binds K fd ps []
/-- an exception class of one field -/
structure X1 (P : Program) (w : World) (K : PySem.W.Frag) (mg : Str → Option Value) (base : Heap) (x f : Str) where
  C : Addr
  fI : Addr
  fd : FuncData
  ps : List Str
  oex : OexC K C
  iC : PySem.W.findIn K (.ref C) "__init__" = some (some (.ref fI))
  tI : PySem.W.typeIn K (.ref fI) = some (.type "function")
  run : FnOk P w K mg base (L2.CX P w) 1 fI fd ps (spIni C 1 (fun ws => match ws with | [v] => [(f, v)] | _ => []))
  b : Binds K fd ps []
  m : mg x = some (.ref C)
  fld : XfC K C
  no : PySem.W.findIn K (.ref C) f = some none
  self : PySem.W.exmOne K (.ref C) (.ref C) = some true
def fsd1 (f : Str) : List D → List (Str × D) := fun ds => match ds with | [d] => [(f, d)] | _ => []
theorem fsd1_rel {K : PySem.W.Frag} {f : Str} : ∀ (F : Hp) (vs : List V) (ds : List D), DpAll K F vs ds → ds.length = 1 → Paired (fun (p : Str × D) (q : Str × V) => p.1 = q.1 ∧ Dp K F q.2 p.2) (fsd1 f ds) (match vs with | [v] => [(f, v)] | _ => []) := fun F vs ds h e => by
  match ds, vs, h, e with
  | [d], [v], .cons h .nil, _ => exact .cons ⟨rfl, h⟩ .nil
section
variable {X : Cx} {G : Ctx}
theorem dx_globI {x : Str} {i : Int} {pos : Pos} (h : ∃ t, X.mg x = some (.int i t)) (hg : Gl X x := by rfl) (hb : (x == ("__debug__" : Str)) = false := by decide) : DX X G (.Name x pos) (dC (.int i)) := by
  obtain ⟨t, h⟩ := h
  exact dx_glob (v := .int i) h ⟨t, rfl⟩ (fun _ => .int i) hg hb
theorem dx_globS {x : Str} {i : Str} {pos : Pos} (h : ∃ t, X.mg x = some (.str i t)) (hg : Gl X x := by rfl) (hb : (x == ("__debug__" : Str)) = false := by decide) : DX X G (.Name x pos) (dC (.str i)) := by
  obtain ⟨t, h⟩ := h
  exact dx_glob (v := .str i) h ⟨t, rfl⟩ (fun _ => .str i) hg hb
theorem ds_never {st : Stmt} : DS X G st (fun _ _ => False) := fun F O σ H δ N rr q => q.elim
end
/-- two worlds apart from one another -/
def Wd.and (V W : Wd) : Wd where
  inv := fun H => V.inv H ∧ W.inv H ∧ ∀ a, V.fp a → ¬ W.fp a
  fp := fun a => V.fp a ∨ W.fp a
  trk := fun H a h z => z.elim (V.trk H a h.1) (W.trk H a h.2.1)
  stay := fun H H' h z => ⟨V.stay H H' h.1 fun a f => z a (.inl f), W.stay H H' h.2.1 fun a f => z a (.inr f), h.2.2⟩
/-- what is told of places that stand stays, where they stay -/
theorem stay_of {V : Wd} {H H' : Hp} (hi : V.inv H) (k : ∀ a o, H a = some o → V.fp a → H' a = some o) : V.inv H' := V.stay H H' hi fun a f => by
  cases e : H a with
  | none => exact absurd e (V.trk H a hi f)
  | some o => exact k a o e f
theorem SubW.right {V W : Wd} : SubW W (V.and W) := ⟨fun H h => h.2.1, fun a h => .inr h, fun H H' h hi k => ⟨stay_of h.1 fun a o e f => k a o e (h.2.2 a f), hi, h.2.2⟩⟩
theorem SubW.left {V W : Wd} : SubW V (V.and W) := ⟨fun H h => h.1, fun a h => .inl h, fun H H' h hi k => ⟨hi, stay_of h.2.1 fun a o e f => k a o e fun z => h.2.2 a z f, h.2.2⟩⟩
theorem SubW.nil {V : Wd} : SubW Wd.nil V := ⟨fun _ _ => trivial, fun _ h => h.elim, fun H H' h _ k => stay_of h fun a o e _ => k a o e fun z => z⟩
/-! ### the source is made -/
def spSrc (K : PySem.W.Frag) : Sp := fun vs H Q _ => ∃ (a : Addr) (ns : List Int), vs = [.ref a] ∧ SqL K H a (ns.map V.int) ∧ ns.length ≤ 1000 ∧
  ∀ (src c : Addr) (H' : Hp), H src = none → H c = none → (∀ b o, H b = some o → H' b = some o) → (srcW src c).inv H' → Q (.ref src) H'
theorem R.leaveW {K : PySem.W.Frag} {G : Ctx} {W : Wd} {F : Hp} {O : Addr → Option OC} {σ : L2.St} {H : Hp} {δ : DSt} (hf : ∀ a, W.fp a → G.B a = none) (r : R K { G with W := G.W.and W } F O σ H δ) : R K G F O σ H δ where
  len := r.len
  ext := r.ext
  ext0 := r.ext0
  new := r.new
  bas := fun a o h n => r.bas a o h fun z => z.elim n fun z => by rw [hf a z] at h; cases h
  inv := r.inv.1
  fpF := fun a z => r.fpF a (.inl z)
  own := fun a c h => by
    obtain ⟨h1, h2, h3, h4⟩ := r.own a c h
    exact ⟨h1, h2, fun z => h3 (.inl z), h4⟩
  slot := r.slot
  sep := r.sep
theorem R.enterW {K : PySem.W.Frag} {G : Ctx} {F : Hp} {O : Addr → Option OC} {σ : L2.St} {H H' : Hp} {δ : DSt} {src c : Addr} (r : R K G F O σ H δ) (h1 : H src = none) (h2 : H c = none) (hk : ∀ b o, H b = some o → H' b = some o) (hi : (srcW src c).inv H') : R K { G with W := G.W.and (srcW src c) } F O σ H' δ := by
  have nf : ∀ {a : Addr} {o : HO}, H a = some o → ¬ (a = src ∨ a = c) := fun {a o} e z => by
    rcases z with z | z
    · rw [z, h1] at e; cases e
    · rw [z, h2] at e; cases e
  exact {
    len := r.len
    ext := fun a o e => hk a o (r.ext a o e)
    ext0 := r.ext0
    new := r.new
    bas := fun a o e n => hk a o (r.bas a o e fun z => n (.inl z))
    inv := ⟨stay_of r.inv fun a o e _ => hk a o e, hi, fun a f z => by
      rcases z with z | z
      · rw [z] at f; exact r.notFp h1 f
      · rw [z] at f; exact r.notFp h2 f⟩
    fpF := fun a z => by
      rcases z with z | z | z
      · exact r.fpF a z
      · rw [z]; exact r.notF h1
      · rw [z]; exact r.notF h2
    own := fun a c' e => by
      obtain ⟨a1, a2, a3, ho, a4, a5⟩ := r.own a c' e
      exact ⟨a1, a2, fun z => z.elim a3 (nf a4), ho, hk a ho a4, a5⟩
    slot := r.slot
    sep := r.sep }
/-- source = _law_source(script), then the rest, in the new world -/
def dSrcNew (i j : Nat) (rest : Addr → DTS) : DTS := fun D δ => ∃ ns : List Int, δ[j]? = some (.dat (.list (ns.map PyData.int))) ∧ ns.length ≤ 1000 ∧ ∀ sa, withSet δ i (.raw (.ref sa)) (rest sa D)
section
variable {X : Cx} {G : Ctx} {k : Nat} {W : WX} {we : Wsh} {x y : Str} {p p2 pos pos' : Pos} {sts : List Stmt} {rest : Addr → DTS}
theorem dss_srcNew (i j : Nat) {d : Df X.K X.mg "_law_source" x' ps} (at_ : At X G k W we) (Fn : FG X.prog X.w X.K X.mg X.base k d.f d.fd ps (spSrc X.K)) (hN : X.N.Nodup)
    (hr : ∀ (sa sc : Addr) (G1 : Ctx), G1.B = G.B → G1.W = G.W.and (srcW sa sc) → At X G1 k W we → DSs X G1 sts (rest sa))
    (hi : X.N[i]? = some x := by rfl) (hj : X.N[j]? = some y := by rfl) (hx : Loc X.env.scope x := by first | exact Or.inl rfl | exact Or.inr rfl) (hv : Vis X.env.scope y := by first | exact Or.inl rfl | exact Or.inr (Or.inl rfl) | exact Or.inr (Or.inr rfl)) (hd : (y == ("__debug__" : Str)) = false := by decide) (hcd : (y == ("__classdict__" : Str)) = false := by decide)
    (hs : swapsWith (.Call (.Name "_law_source" p) [.Name y p2] [] pos') (some (.Name x p1)) pos.line X.env = pure false := by rfl) (hf : X.fn x = true ∨ X.env.scope.names.lookup x = some .local := by first | exact .inl rfl | exact .inr rfl | assumption)
    (hg : Gl X "_law_source" := by rfl) (he : starEach [.Name y p2] X.env = (false, eval (.Name y p2) X.env) :: starEach [] X.env := by rfl) :
    DSs X G (.Assign [.Name x p1] (.Call (.Name "_law_source" p) [.Name y p2] [] pos') pos :: sts) (dSrcNew i j rest) := fun F O σ H δ D rr ⟨ns, hns, hl, q⟩ => by
  obtain ⟨o, ho, v, rfl, hv1⟩ := rr.slot_at hns
  cases hv1 with
  | @lst a xs _ hs1 ha1 =>
    cases ha1.ints_inv
    refine semSs_of (pss_cons (ps_set hN hi hx (pe_callG (E := WE W) Fn at_.room at_.gd hg d.m d.F.kp d.b (fun σ => passAt at_.tk σ) (pa_cons (pe_var hj hv hd hcd) pa_nil he)) hs hf) pss_sem) ?_
    refine ⟨_, ho, a, ns, rfl, rr.ext.sql hs1, hl, fun src c H' h1 h2 hk hi' => ?_⟩
    have r1 := rr.enterW h1 h2 hk hi'
    have r2 := r1.setRaw (i := i) (v := .ref src)
    have fpB : ∀ a, (srcW src c).fp a → G.B a = none := fun a z => by
      rcases z with z | z
      · rw [z]; exact rr.notB h1
      · rw [z]; exact rr.notB h2
    have at1 : At X { G with W := G.W.and (srcW src c) } k W we := ⟨⟨at_.room, at_.tk, fun F O σ H δ x dd r hx q => at_.wo F O σ H δ x dd (r.leaveW fpB) hx q⟩, at_.gd⟩
    refine semSs_le (hr src c { G with W := G.W.and (srcW src c) } rfl rfl at1 F O _ H' _ D r2 (withSet_ok (q src))) ?_
    have back : ∀ {qd : DSt → Prop} {σ' : L2.St} {H' : Hp}, LnkS X.K { G with W := G.W.and (srcW src c) } F qd σ' H' → LnkS X.K G F qd σ' H' := fun ⟨F2, O2, δ2, e2, r3, q3⟩ => ⟨F2, O2, δ2, e2, r3.leaveW fpB, q3⟩
    exact ⟨fun _ _ h => back h, fun v H' ⟨F2, O2, σ2, δ2, d, e2, r3, hd, q3⟩ => ⟨F2, O2, σ2, δ2, d, e2, r3.leaveW fpB, hd, q3⟩, fun _ _ h => back h, fun _ _ h => back h⟩
end
end DL
set_option Elab.async false
set_option linter.all false
set_option maxRecDepth 100000
set_option maxHeartbeats 2000000
/-! loops over plain data, by invariants -/
namespace DL
open PySem L2 PyProof.Rows
theorem dWh_inv {tc : DB} {tb : DTS} {D : DEnds} {δ : DSt} (I : Nat → DSt → Prop) (m : Nat) (h0 : I m δ)
    (step : ∀ (m : Nat) (δ : DSt) (P : DSt → Prop), I m δ → (∀ k, k < m → ∀ δ', I k δ' → P δ') → tc δ fun b δ1 => (b = true → tb { D with nx := P, ct := P, bk := D.nx } δ1) ∧ (b = false → D.nx δ1)) : DWhile tc tb D δ := by
  have key : ∀ (n m : Nat) (δ : DSt), m ≤ n → I m δ → dWhN tc tb D (n + 1) δ := by
    intro n
    induction n with
    | zero =>
      intro m δ hm h
      exact step m δ _ h fun k hk => by omega
    | succ n ih =>
      intro m δ hm h
      exact step m δ _ h fun k hk δ' h' => ih k δ' (by omega) h'
  exact ⟨⟨m + 1, key m m δ (Nat.le_refl _) h0⟩⟩
theorem forWp_inv {g : DTg} {tb : DTS} {Z : DEnds} (I : List D → DSt → Prop) : ∀ {items : List D} {δ : DSt}, I items δ →
    (∀ (d : D) (ds : List D) (δ : DSt) (P : DSt → Prop), I (d :: ds) δ → (∀ δ', I ds δ' → P δ') → g d δ fun δ1 => tb { Z with nx := P, ct := P, bk := Z.nx } δ1) → (∀ δ, I [] δ → Z.nx δ) → forWp g tb Z items δ
  | [], δ, h, _, hn => hn δ h
  | d :: ds, δ, h, step, hn => step d ds δ _ h fun δ' h' => forWp_inv I h' step hn
theorem lcWp_inv {g : DTg} {tc : DB} {te : DE} {vs : List Nat} {Q : List D → DSt → Prop} (I : List D → List D → DSt → Prop) : ∀ {items acc : List D} {δ : DSt}, I items acc δ →
    (∀ (d : D) (ds acc : List D) (δ : DSt) (P : List D → DSt → Prop), I (d :: ds) acc δ → (∀ acc' δ', I ds acc' δ' → P acc' δ') →
      g d δ fun δ1 => tc δ1 fun b δ2 => (b = true → te δ2 fun av δ3 => toD av δ3 fun y δ4 => acc.length < 100000 ∧ wipeK δ4 vs fun δ5 => P (acc ++ [y]) δ5) ∧ (b = false → wipeK δ2 vs fun δ5 => P acc δ5)) →
    (∀ acc δ, I [] acc δ → Q acc δ) → lcWp g tc te vs items acc δ Q
  | [], acc, δ, h, _, hn => hn acc δ h
  | d :: ds, acc, δ, h, step, hn => step d ds acc δ (fun acc' δ' => lcWp g tc te vs ds acc' δ' Q) h fun acc' δ' h' => lcWp_inv I h' step hn
theorem rngD_cons (lo : Int) (n : Nat) : rngD lo 1 (n + 1) = .int lo :: rngD (lo + 1) 1 n := by
  unfold rngD
  rw [List.range_succ_eq_map, List.map_cons, List.map_map]
  congr 1
  · simp
  · apply List.map_congr_left
    intro a _
    simp only [Function.comp]
    congr 1
    omega
/-- a loop over a range -/
theorem forRng_inv {g : DTg} {tb : DTS} {Z : DEnds} {lo : Int} {n : Nat} (I : Nat → DSt → Prop) {δ : DSt} (h0 : I 0 δ)
    (step : ∀ (j : Nat) (δ : DSt) (P : DSt → Prop), j < n → I j δ → (∀ δ', I (j + 1) δ' → P δ') → g (.int (lo + (j : Int))) δ fun δ1 => tb { Z with nx := P, ct := P, bk := Z.nx } δ1) (hn : ∀ δ, I n δ → Z.nx δ) : forWp g tb Z (rngD lo 1 n) δ := by
  have key : ∀ (k j : Nat) (δ : DSt), j + k = n → I j δ → forWp g tb Z (rngD (lo + (j : Int)) 1 k) δ := by
    intro k
    induction k with
    | zero =>
      intro j δ hj h
      have : j = n := by omega
      subst this
      exact hn δ h
    | succ k ih =>
      intro j δ hj h
      rw [rngD_cons]
      refine step j δ _ (by omega) h fun δ' h' => ?_
      have := ih (j + 1) δ' (by omega) h'
      rw [show lo + ((j + 1 : Nat) : Int) = lo + (j : Int) + 1 by omega] at this
      exact this
  have := key n 0 δ (by omega) h0
  rw [show lo + ((0 : Nat) : Int) = lo by omega] at this
  exact this
/-- a comprehension over a range -/
theorem lcRng_inv {g : DTg} {tc : DB} {te : DE} {vs : List Nat} {Q : List D → DSt → Prop} {lo : Int} {n : Nat} (I : Nat → List D → DSt → Prop) {acc : List D} {δ : DSt} (h0 : I 0 acc δ)
    (step : ∀ (j : Nat) (acc : List D) (δ : DSt) (P : List D → DSt → Prop), j < n → I j acc δ → (∀ acc' δ', I (j + 1) acc' δ' → P acc' δ') →
      g (.int (lo + (j : Int))) δ fun δ1 => tc δ1 fun b δ2 => (b = true → te δ2 fun av δ3 => toD av δ3 fun y δ4 => acc.length < 100000 ∧ wipeK δ4 vs fun δ5 => P (acc ++ [y]) δ5) ∧ (b = false → wipeK δ2 vs fun δ5 => P acc δ5))
    (hn : ∀ acc δ, I n acc δ → Q acc δ) : lcWp g tc te vs (rngD lo 1 n) acc δ Q := by
  have key : ∀ (k j : Nat) (acc : List D) (δ : DSt), j + k = n → I j acc δ → lcWp g tc te vs (rngD (lo + (j : Int)) 1 k) acc δ Q := by
    intro k
    induction k with
    | zero =>
      intro j acc δ hj h
      have : j = n := by omega
      subst this
      exact hn acc δ h
    | succ k ih =>
      intro j acc δ hj h
      rw [rngD_cons]
      refine step j acc δ (fun acc' δ' => lcWp g tc te vs (rngD (lo + (j : Int) + 1) 1 k) acc' δ' Q) (by omega) h fun acc' δ' h' => ?_
      have := ih (j + 1) acc' δ' (by omega) h'
      rw [show lo + ((j + 1 : Nat) : Int) = lo + (j : Int) + 1 by omega] at this
      exact this
  have := key n 0 acc δ (by omega) h0
  rw [show lo + ((0 : Nat) : Int) = lo by omega] at this
  exact this
end DL
set_option Elab.async false
set_option linter.all false
set_option maxRecDepth 100000
set_option maxHeartbeats 2000000
/-! k07: what each def promises -/
namespace DL
open PySem L2 PyProof.Rows
/-- the source's number -/
def sp__law_pick (sa : Addr) : DSp := fun as Q _ => ∃ many : Int, as = [.raw (.ref sa), .dat (.int many)] ∧ many.natAbs.log2 < 9000 ∧ ∀ n : Int, 0 ≤ n → n < max 1 many → Q (.int n)
def sp__law_of (sa : Addr) : DSp := fun as Q _ => ∃ ds : List D, as = [.raw (.ref sa), .dat (.list ds)] ∧ 1 ≤ ds.length ∧ ds.length ≤ 1000 ∧ ∀ d ∈ ds, Q d
namespace K07
def isLong (i : Int) : Bool := decide ((997 : Int) < ((Builtin.Int.intBits i : Nat) : Int)) || decide ((300 : Int) < (((toString ((i.natAbs : Nat) : Int) : Str).length : Nat) : Int))
def sp_is_long : DSp := fun as Q _ => ∃ i : Int, as = [.dat (.int i)] ∧ Q (.bool (isLong i))
def sp_not_long (C : Addr) : DSp := fun as Q E => ∃ i : Int, as = [.dat (.int i)] ∧ (isLong i = true → E ⟨.ref C, [("number", .int 0)]⟩) ∧ (isLong i = false → Q (.int i))
/-- how many ways k of n are taken -/
def binom : Nat → Nat → Nat
  | _, 0 => 1
  | 0, _ + 1 => 0
  | n + 1, k + 1 => binom n k + binom n (k + 1)
def sp_number_over : DSp := fun as Q _ => ∃ n k : Nat, as = [.dat (.int n), .dat (.int k)] ∧ n < 2 ^ 2000 ∧ k ≤ 1000 ∧ Q (.int (binom n k))
def sp__law_over : DSp := sp_number_over
def sp_over_rest : DSp := fun as Q _ => ∃ n k m : Nat, as = [.dat (.int n), .dat (.int k), .dat (.int m)] ∧ n < 2 ^ 2000 ∧ k ≤ 1000 ∧ 1 ≤ m ∧ Q (.int ((binom n k : Int) % m))
def sp_power_of : DSp := fun as Q _ => ∃ (b : Int) (n : Nat), as = [.dat (.int b), .dat (.int n)] ∧ (∃ A, (b.natAbs + 1) ^ n < 2 ^ A ∧ A ≤ 60000000) ∧ Q (.int (b ^ n))
def sp_power_rest : DSp := fun as Q _ => ∃ (b : Int) (n m : Nat), as = [.dat (.int b), .dat (.int n), .dat (.int m)] ∧ 1 ≤ m ∧ m < 2 ^ 4000 ∧ Q (.int (b ^ n % m))
def sp_common_part : DSp := fun as Q _ => ∃ a b : Int, as = [.dat (.int a), .dat (.int b)] ∧ Q (.int (Int.gcd a b : Int))
def sp__law_part : DSp := sp_common_part
def sp_common_multiple : DSp := fun as Q _ => ∃ a b : Nat, as = [.dat (.int a), .dat (.int b)] ∧ 1 ≤ a ∧ 1 ≤ b ∧ a < 2 ^ 4000 ∧ b < 2 ^ 4000 ∧ Q (.int ((a / Nat.gcd a b * b : Nat) : Int))
def sp_rest_undone : DSp := fun as Q _ => ∃ (a : Int) (m : Nat), as = [.dat (.int a), .dat (.int m)] ∧ 1 ≤ m ∧ m < 2 ^ 4000 ∧ (Int.gcd a m ≠ 1 → Q .none) ∧ ∀ x : Int, 0 ≤ x → x < m → (m : Int) ∣ x * a - 1 → Q (.int x)
def resD (p : Int × Nat) : D := .tuple [.int p.1, .int p.2]
def sp_rests_joined : DSp := fun as Q _ => ∃ (r s : Int) (m k : Nat), as = [.dat (resD (r, m)), .dat (resD (s, k))] ∧ (1 ≤ m ∧ 1 ≤ k ∧ m < 2 ^ 1000 ∧ k < 2 ^ 1000 ∧ r.natAbs < 2 ^ 1000 ∧ s.natAbs < 2 ^ 1000) ∧
  (¬ ((Nat.gcd m k : Nat) : Int) ∣ s - r → Q .none) ∧ ∀ x : Int, 0 ≤ x → x < (Nat.lcm m k : Nat) → (m : Int) ∣ x - r → (k : Int) ∣ x - s → Q (resD (x, Nat.lcm m k))
/-- x, M tell all numbers that have the rests -/
def Joined (rs : List (Int × Nat)) (x : Int) (M : Nat) : Prop := 0 ≤ x ∧ x < M ∧ ∀ n : Int, (∀ p ∈ rs, (p.2 : Int) ∣ n - p.1) ↔ (M : Int) ∣ n - x
def sp_row_joined : DSp := fun as Q _ => ∃ rs : List (Int × Nat), (as = [.dat (.list (rs.map resD))] ∨ as = [.dat (.tuple (rs.map resD))]) ∧ rs.length ≤ 20 ∧ (∀ p ∈ rs, 1 ≤ p.2 ∧ p.2 ≤ 60 ∧ 0 ≤ p.1 ∧ p.1 < 60) ∧
  ((∀ x M, ¬ Joined rs x M) → Q .none) ∧ ∀ x M, Joined rs x M → Q (resD (x, M))
def sp__law_far (sa : Addr) : DSp := fun as Q _ => as = [.raw (.ref sa)] ∧ ∀ n : Nat, n < 2 ^ 1000 → Q (.int n)
def sp__law_by (sa : Addr) : DSp := fun as Q _ => as = [.raw (.ref sa)] ∧ ∀ m : Nat, 1 ≤ m → m ≤ 2 ^ 1000 → Q (.int m)
def sp__law_over_right (sa : Addr) : DSp := fun as Q _ => as = [.raw (.ref sa)] ∧ Q (.bool true)
def sp__law_powers_right (sa : Addr) : DSp := fun as Q _ => as = [.raw (.ref sa)] ∧ Q (.bool true)
def sp__law_joined_right (sa : Addr) : DSp := fun as Q _ => as = [.raw (.ref sa)] ∧ Q (.bool true)
end K07
end DL
set_option Elab.async false
set_option linter.all false
set_option maxRecDepth 100000
set_option maxHeartbeats 2000000
/-! k07: the readings of the defs -/
namespace DL.K07
open PySem L2 PyProof.Rows
/-- is_long: number -/
def t_is_long (Ed : DXn → Prop) : DTS := (dRet (dOrV (dOp opGt (dUn opBits (dVar 0)) (dC (.int 997))) (dOp opGt (dB fLen (dCons (dB fStr (dCons (dB fAbs (dCons (dVar 0) dNil)) dNil)) dNil)) (dC (.int 300)))))
/-- number_over: n, k, found, step -/
def t_number_over (Ed : DXn → Prop) : DTS := (dSeq (dSet 2 (dC (.int 1))) (dSeq (dFor (dRng1 (dCons (dVar 1) dNil)) (gSet 3) (dSet 2 (dOp opDiv (dOp opMul (dVar 2) (dOp opSub (dVar 0) (dVar 3))) (dOp opAdd (dVar 3) (dC (.int 1)))))) (dRet (dVar 2))))
/-- power_of: base, often, found, here, left -/
def t_power_of (Ed : DXn → Prop) : DTS := (dSeq (dPar3 2 3 4 (mDat (dC (.int 1)) (mDat (dVar 0) (mDat (dVar 1) mNil)))) (dSeq (dWh (dTst (dOp opGt (dVar 4) (dC (.int 0)))) (dSeq (dIfS (dTst (dOp opEq (dOp opMod (dVar 4) (dC (.int 2))) (dC (.int 1)))) (dAug 2 opMul (dVar 3)) dNext) (dPar2 3 4 (mDat (dIf (dTst (dOp opGt (dVar 4) (dC (.int 1)))) (dOp opMul (dVar 3) (dVar 3)) (dVar 3)) (mDat (dOp opDiv (dVar 4) (dC (.int 2))) mNil))))) (dRet (dVar 2))))
/-- power_rest: base, often, m, found, here, left -/
def t_power_rest (Ed : DXn → Prop) : DTS := (dSeq (dPar3 3 4 5 (mDat (dOp opMod (dC (.int 1)) (dVar 2)) (mDat (dOp opMod (dVar 0) (dVar 2)) (mDat (dVar 1) mNil)))) (dSeq (dWh (dTst (dOp opGt (dVar 5) (dC (.int 0)))) (dSeq (dIfS (dTst (dOp opEq (dOp opMod (dVar 5) (dC (.int 2))) (dC (.int 1)))) (dSet 3 (dOp opMod (dOp opMul (dVar 3) (dVar 4)) (dVar 2))) dNext) (dPar2 4 5 (mDat (dOp opMod (dOp opMul (dVar 4) (dVar 4)) (dVar 2)) (mDat (dOp opDiv (dVar 5) (dC (.int 2))) mNil))))) (dRet (dVar 3))))
/-- common_part: one, other, here, there -/
def t_common_part (Ed : DXn → Prop) : DTS := (dSeq (dPar2 2 3 (mDat (dB fAbs (dCons (dVar 0) dNil)) (mDat (dB fAbs (dCons (dVar 1) dNil)) mNil))) (dSeq (dWh (dTst (dOp opGt (dVar 3) (dC (.int 0)))) (dPar2 2 3 (mDat (dVar 3) (mDat (dOp opMod (dVar 2) (dVar 3)) mNil)))) (dRet (dVar 2))))
/-- rest_undone: number, m, here, one, there, other, often -/
def t_rest_undone (Ed : DXn → Prop) : DTS := (dSeq (dAsg (dTup (dCons (dTup (dCons (dVar 1) (dCons (dC (.int 0)) dNil))) (dCons (dTup (dCons (dOp opMod (dVar 0) (dVar 1)) (dCons (dC (.int 1)) dNil))) dNil))) (gTupD (gsCons (gTupD (gsCons (gSet 2) (gsCons (gSet 3) gsNil)) 2) (gsCons (gTupD (gsCons (gSet 4) (gsCons (gSet 5) gsNil)) 2) gsNil)) 2)) (dSeq (dWh (dTst (dOp opGt (dVar 4) (dC (.int 0)))) (dSeq (dSet 6 (dOp opDiv (dVar 2) (dVar 4))) (dAsg (dTup (dCons (dTup (dCons (dVar 4) (dCons (dVar 5) dNil))) (dCons (dTup (dCons (dOp opSub (dVar 2) (dOp opMul (dVar 6) (dVar 4))) (dCons (dOp opSub (dVar 3) (dOp opMul (dVar 6) (dVar 5))) dNil))) dNil))) (gTupD (gsCons (gTupD (gsCons (gSet 2) (gsCons (gSet 3) gsNil)) 2) (gsCons (gTupD (gsCons (gSet 4) (gsCons (gSet 5) gsNil)) 2) gsNil)) 2)))) (dRet (dIf (dTst (dOp opEq (dVar 2) (dC (.int 1)))) (dOp opMod (dVar 3) (dVar 1)) (dC .none)))))
/-- _law_pick: source, many, left, mixed -/
def t__law_pick (sa : Addr) (Ed : DXn → Prop) : DTS := (dSeq (dSrcLoop 0 1 sa) (dSeq (dSet 2 (dSrcI 0 sa)) (dSeq (dIfS (dOr (dTst (dOp opLt (dVar 1) (dC (.int 2)))) (dTst (dOp opGt (dVar 2) (dC (.int 1))))) (dSeq (dSrcSet 0 sa (dOp opDiv (dVar 2) (dB fMax (dCons (dC (.int 1)) (dCons (dVar 1) dNil))))) (dRet (dOp opMod (dB fInt (dCons (dVar 2) dNil)) (dB fMax (dCons (dC (.int 1)) (dCons (dVar 1) dNil)))))) dNext) (dSeq (dSrcSet 0 sa (dOp opAdd (dSrcI 0 sa) (dC (.int 1)))) (dSeq (dSet 3 (dOp opMod (dB fInt (dCons (dOp opAdd (dSrcI 0 sa) (dOp opMul (dSrcI 0 sa) (dC (.int 104729)))) dNil)) (dC (.int 998244353)))) (dSeq (dSet 3 (dOp opMod (dB fInt (dCons (dOp opAdd (dOp opMul (dVar 3) (dVar 3)) (dOp opMul (dSrcI 0 sa) (dC (.int 17)))) dNil)) (dC (.int 2147483647)))) (dSeq (dSrcSet 0 sa (dVar 3)) (dRet (dOp opMod (dB fInt (dCons (dOp opDiv (dVar 3) (dC (.int 16))) dNil)) (dVar 1))))))))))
/-- _law_over: n, k, found, j -/
def t__law_over (Ed : DXn → Prop) : DTS := (dSeq (dSet 2 (dC (.int 1))) (dSeq (dFor (dRng1 (dCons (dVar 1) dNil)) (gSet 3) (dSet 2 (dOp opDiv (dOp opMul (dVar 2) (dOp opSub (dVar 0) (dVar 3))) (dOp opAdd (dVar 3) (dC (.int 1)))))) (dRet (dVar 2))))
/-- _law_part: one, other -/
def t__law_part (Ed : DXn → Prop) : DTS := (dSeq (dPar2 0 1 (mDat (dB fAbs (dCons (dVar 0) dNil)) (mDat (dB fAbs (dCons (dVar 1) dNil)) mNil))) (dSeq (dWh (dTst (dOp opGt (dVar 1) (dC (.int 0)))) (dPar2 0 1 (mDat (dVar 1) (mDat (dOp opMod (dB fInt (dCons (dVar 0) dNil)) (dVar 1)) mNil)))) (dRet (dVar 0))))
/-- over_rest: n, k, m -/
def t_over_rest (Ed : DXn → Prop) : DTS := (dRet (dOp opMod (dCall sp_number_over (fun x _ => Ed x) (dCons (dVar 0) (dCons (dVar 1) dNil))) (dVar 2)))
/-- common_multiple: one, other -/
def t_common_multiple (Ed : DXn → Prop) : DTS := (dRet (dOp opMul (dOp opDiv (dVar 0) (dCall sp_common_part (fun x _ => Ed x) (dCons (dVar 0) (dCons (dVar 1) dNil)))) (dVar 1)))
/-- _law_of: source, some -/
def t__law_of (sa : Addr) (Ed : DXn → Prop) : DTS := (dRet (dOp opIx (dVar 1) (dCall (sp__law_pick sa) (fun x _ => Ed x) (dCons (dVar 0) (dCons (dB fLen (dCons (dVar 1) dNil)) dNil)))))
/-- not_long: number -/
def t_not_long (C : Addr) (Ed : DXn → Prop) : DTS := (dSeq (dIfS (dTru (dCall sp_is_long (fun x _ => Ed x) (dCons (dVar 0) dNil))) (dRaise C 1 (fsd1 "number") (fun x _ => Ed x) (dCons (dC (.int 0)) dNil)) dNext) (dRet (dVar 0)))
/-- rests_joined: one, other, first, m, late, more, part, whole, step -/
def t_rests_joined (Ed : DXn → Prop) : DTS := (dSeq (dAsg (dTup (dCons (dVar 0) (dCons (dVar 1) dNil))) (gTupD (gsCons (gTupD (gsCons (gSet 2) (gsCons (gSet 3) gsNil)) 2) (gsCons (gTupD (gsCons (gSet 4) (gsCons (gSet 5) gsNil)) 2) gsNil)) 2)) (dSeq (dSet 6 (dCall sp_common_part (fun x _ => Ed x) (dCons (dVar 3) (dCons (dVar 5) dNil)))) (dSeq (dIfS (dTst (dOp opNe (dOp opMod (dOp opSub (dVar 4) (dVar 2)) (dVar 6)) (dC (.int 0)))) (dRet (dC .none)) dNext) (dSeq (dSet 7 (dCall sp_common_multiple (fun x _ => Ed x) (dCons (dVar 3) (dCons (dVar 5) dNil)))) (dSeq (dSet 8 (dCall sp_rest_undone (fun x _ => Ed x) (dCons (dOp opDiv (dVar 3) (dVar 6)) (dCons (dOp opDiv (dVar 5) (dVar 6)) dNil)))) (dRet (dTup (dCons (dOp opMod (dOp opAdd (dVar 2) (dOp opMul (dVar 3) (dOp opMod (dOp opMul (dOp opDiv (dOp opSub (dVar 4) (dVar 2)) (dVar 6)) (dVar 8)) (dOp opDiv (dVar 5) (dVar 6))))) (dVar 7)) (dCons (dVar 7) dNil)))))))))
/-- _law_far: source, found, lap -/
def t__law_far (sa : Addr) (Ed : DXn → Prop) : DTS := (dSeq (dSet 1 (dCall (sp__law_pick sa) (fun x _ => Ed x) (dCons (dVar 0) (dCons (dC (.int 50)) dNil)))) (dSeq (dFor (dRng1 (dCons (dCall (sp__law_of sa) (fun x _ => Ed x) (dCons (dVar 0) (dCons (dFz (dLst (dCons (dC (.int 0)) (dCons (dC (.int 0)) (dCons (dC (.int 1)) (dCons (dC (.int 5)) (dCons (dC (.int 30)) dNil))))))) dNil))) dNil)) (gSet 2) (dSet 1 (dOp opAdd (dOp opMul (dVar 1) (dC (.int 1000000007))) (dCall (sp__law_pick sa) (fun x _ => Ed x) (dCons (dVar 0) (dCons (dC (.int 1000000)) dNil)))))) (dRet (dVar 1))))
/-- row_joined: rests, found, one -/
def t_row_joined (Ed : DXn → Prop) : DTS := (dSeq (dSet 1 (dTup (dCons (dC (.int 0)) (dCons (dC (.int 1)) dNil)))) (dSeq (dFor (dSeqI (dVar 0)) (gSet 2) (dIfS (dTst (dOp opIsNot (dVar 1) (dC .none))) (dSet 1 (dCall sp_rests_joined (fun x _ => Ed x) (dCons (dVar 1) (dCons (dVar 2) dNil)))) dNext)) (dRet (dVar 1))))
/-- _law_by: source -/
def t__law_by (sa : Addr) (Ed : DXn → Prop) : DTS := (dRet (dOp opAdd (dC (.int 1)) (dCall (sp__law_of sa) (fun x _ => Ed x) (dCons (dVar 0) (dCons (dFz (dLst (dCons (dCall (sp__law_pick sa) (fun x _ => Ed x) (dCons (dVar 0) (dCons (dC (.int 60)) dNil))) (dCons (dCall (sp__law_pick sa) (fun x _ => Ed x) (dCons (dVar 0) (dCons (dC (.int 60)) dNil))) (dCons (dCall (sp__law_far sa) (fun x _ => Ed x) (dCons (dVar 0) dNil)) dNil))))) dNil)))))
/-- _law_over_right: source, n, k, m, due, j, small -/
def t__law_over_right (sa : Addr) (Ed : DXn → Prop) : DTS := (dSeq (dPar3 1 2 3 (mDat (dCall (sp__law_far sa) (fun x _ => Ed x) (dCons (dVar 0) dNil)) (mDat (dCall (sp__law_of sa) (fun x _ => Ed x) (dCons (dVar 0) (dCons (dFz (dLst (dCons (dC (.int 0)) (dCons (dC (.int 1)) (dCons (dC (.int 2)) (dCons (dC (.int 3)) (dCons (dC (.int 7)) (dCons (dC (.int 40)) dNil)))))))) dNil))) (mDat (dCall (sp__law_by sa) (fun x _ => Ed x) (dCons (dVar 0) dNil)) mNil)))) (dSeq (dSet 4 (dCall sp__law_over (fun x _ => Ed x) (dCons (dVar 1) (dCons (dVar 2) dNil)))) (dSeq (dIfS (dOr (dTst (dOp opNe (dCall sp_number_over (fun x _ => Ed x) (dCons (dVar 1) (dCons (dVar 2) dNil))) (dVar 4))) (dTst (dOp opNe (dCall sp_over_rest (fun x _ => Ed x) (dCons (dVar 1) (dCons (dVar 2) (dCons (dVar 3) dNil)))) (dOp opMod (dB fInt (dCons (dVar 4) dNil)) (dVar 3))))) (dRet (dC (.bool false))) dNext) (dSeq (dIfS (dTst (dOp opNe (dCall sp_number_over (fun x _ => Ed x) (dCons (dOp opAdd (dVar 1) (dC (.int 1))) (dCons (dOp opAdd (dVar 2) (dC (.int 1))) dNil))) (dOp opAdd (dVar 4) (dCall sp_number_over (fun x _ => Ed x) (dCons (dVar 1) (dCons (dOp opAdd (dVar 2) (dC (.int 1))) dNil)))))) (dRet (dC (.bool false))) dNext) (dSeq (dSet 5 (dCall (sp__law_pick sa) (fun x _ => Ed x) (dCons (dVar 0) (dCons (dOp opAdd (dVar 2) (dC (.int 1))) dNil)))) (dSeq (dIfS (dAnd (dTst (dOp opGe (dVar 1) (dVar 2))) (dTst (dOp opNe (dOp opMul (dVar 4) (dCall sp_number_over (fun x _ => Ed x) (dCons (dVar 2) (dCons (dVar 5) dNil)))) (dOp opMul (dCall sp_number_over (fun x _ => Ed x) (dCons (dVar 1) (dCons (dVar 5) dNil))) (dCall sp_number_over (fun x _ => Ed x) (dCons (dOp opSub (dVar 1) (dVar 5)) (dCons (dOp opSub (dVar 2) (dVar 5)) dNil))))))) (dRet (dC (.bool false))) dNext) (dSeq (dSet 6 (dCall (sp__law_pick sa) (fun x _ => Ed x) (dCons (dVar 0) (dCons (dC (.int 9)) dNil)))) (dRet (dAndV (dOp opEq (dCall sp_number_over (fun x _ => Ed x) (dCons (dVar 6) (dCons (dOp opAdd (dOp opAdd (dVar 6) (dC (.int 1))) (dCall (sp__law_pick sa) (fun x _ => Ed x) (dCons (dVar 0) (dCons (dC (.int 5)) dNil)))) dNil))) (dC (.int 0))) (dOp opEq (dCall sp_number_over (fun x _ => Ed x) (dCons (dVar 6) (dCons (dVar 6) dNil))) (dC (.int 1))))))))))))
/-- _law_powers_right: source, base, m, few, often, more, due, lap, both, side -/
def t__law_powers_right (sa : Addr) (Ed : DXn → Prop) : DTS := (dSeq (dPar2 1 2 (mDat (dOp opMul (dCall (sp__law_of sa) (fun x _ => Ed x) (dCons (dVar 0) (dCons (dFz (dLst (dCons (dUn opNeg (dC (.int 1))) (dCons (dC (.int 1)) (dCons (dC (.int 1)) dNil))))) dNil))) (dCall (sp__law_far sa) (fun x _ => Ed x) (dCons (dVar 0) dNil))) (mDat (dCall (sp__law_by sa) (fun x _ => Ed x) (dCons (dVar 0) dNil)) mNil))) (dSeq (dPar3 3 4 5 (mDat (dCall (sp__law_pick sa) (fun x _ => Ed x) (dCons (dVar 0) (dCons (dC (.int 40)) dNil))) (mDat (dCall (sp__law_far sa) (fun x _ => Ed x) (dCons (dVar 0) dNil)) (mDat (dCall (sp__law_far sa) (fun x _ => Ed x) (dCons (dVar 0) dNil)) mNil)))) (dSeq (dSet 6 (dC (.int 1))) (dSeq (dFor (dRng1 (dCons (dVar 3) dNil)) (gSet 7) (dSet 6 (dOp opMul (dVar 6) (dVar 1)))) (dSeq (dIfS (dOr (dTst (dOp opNe (dCall sp_power_of (fun x _ => Ed x) (dCons (dVar 1) (dCons (dVar 3) dNil))) (dVar 6))) (dTst (dOp opNe (dCall sp_power_rest (fun x _ => Ed x) (dCons (dVar 1) (dCons (dVar 3) (dCons (dVar 2) dNil)))) (dOp opMod (dB fInt (dCons (dVar 6) dNil)) (dVar 2))))) (dRet (dC (.bool false))) dNext) (dSeq (dSet 8 (dOp opMul (dCall sp_power_rest (fun x _ => Ed x) (dCons (dVar 1) (dCons (dVar 4) (dCons (dVar 2) dNil)))) (dCall sp_power_rest (fun x _ => Ed x) (dCons (dVar 1) (dCons (dVar 5) (dCons (dVar 2) dNil)))))) (dSeq (dIfS (dTst (dOp opNe (dCall sp_power_rest (fun x _ => Ed x) (dCons (dVar 1) (dCons (dOp opAdd (dVar 4) (dVar 5)) (dCons (dVar 2) dNil)))) (dOp opMod (dB fInt (dCons (dVar 8) dNil)) (dVar 2)))) (dRet (dC (.bool false))) dNext) (dSeq (dIfS (dTst (dOp opNe (dCall sp_power_rest (fun x _ => Ed x) (dCons (dOp opMod (dB fInt (dCons (dVar 1) dNil)) (dVar 2)) (dCons (dVar 4) (dCons (dVar 2) dNil)))) (dCall sp_power_rest (fun x _ => Ed x) (dCons (dVar 1) (dCons (dVar 4) (dCons (dVar 2) dNil)))))) (dRet (dC (.bool false))) dNext) (dSeq (dIfS (dOr (dTst (dOp opNe (dCall sp_power_rest (fun x _ => Ed x) (dCons (dVar 1) (dCons (dVar 4) (dCons (dC (.int 1)) dNil)))) (dC (.int 0)))) (dOr (dTst (dOp opNe (dCall sp_power_rest (fun x _ => Ed x) (dCons (dC (.int 0)) (dCons (dC (.int 0)) (dCons (dVar 2) dNil)))) (dOp opMod (dB fInt (dCons (dC (.int 1)) dNil)) (dVar 2)))) (dTst (dOp opNe (dCall sp_power_of (fun x _ => Ed x) (dCons (dC (.int 0)) (dCons (dC (.int 0)) dNil))) (dC (.int 1)))))) (dRet (dC (.bool false))) dNext) (dSeq (dSet 9 (dIf (dTst (dOp opEq (dOp opMod (dB fInt (dCons (dVar 4) dNil)) (dC (.int 2))) (dC (.int 0)))) (dC (.int 1)) (dUn opNeg (dC (.int 1))))) (dRet (dAndV (dOp opEq (dCall sp_power_of (fun x _ => Ed x) (dCons (dC (.int 0)) (dCons (dOp opAdd (dC (.int 1)) (dVar 3)) dNil))) (dC (.int 0))) (dOp opEq (dCall sp_power_rest (fun x _ => Ed x) (dCons (dUn opNeg (dC (.int 1))) (dCons (dVar 4) (dCons (dVar 2) dNil)))) (dOp opMod (dB fInt (dCons (dVar 9) dNil)) (dVar 2)))))))))))))))
/-- _law_joined_right: source, m, k, r, s, part, multiple, some, n, due, number, rests, whole, lap, by, bad -/
def t__law_joined_right (sa : Addr) (Ed : DXn → Prop) : DTS := (dSeq (dAsg (dTup (dCons (dOp opAdd (dC (.int 1)) (dCall (sp__law_pick sa) (fun x _ => Ed x) (dCons (dVar 0) (dCons (dC (.int 30)) dNil)))) (dCons (dOp opAdd (dC (.int 1)) (dCall (sp__law_pick sa) (fun x _ => Ed x) (dCons (dVar 0) (dCons (dC (.int 30)) dNil)))) dNil))) (gTupD (gsCons (gSet 1) (gsCons (gSet 2) gsNil)) 2)) (dSeq (dAsg (dTup (dCons (dCall (sp__law_pick sa) (fun x _ => Ed x) (dCons (dVar 0) (dCons (dVar 1) dNil))) (dCons (dCall (sp__law_pick sa) (fun x _ => Ed x) (dCons (dVar 0) (dCons (dVar 2) dNil))) dNil))) (gTupD (gsCons (gSet 3) (gsCons (gSet 4) gsNil)) 2)) (dSeq (dSet 5 (dCall sp__law_part (fun x _ => Ed x) (dCons (dVar 1) (dCons (dVar 2) dNil)))) (dSeq (dSet 6 (dOp opDiv (dOp opMul (dVar 1) (dVar 2)) (dVar 5))) (dSeq (dSetN 7 (dLc (dRng1 (dCons (dVar 6) dNil)) (gSet 8) (dAnd (dTst (dOp opEq (dOp opMod (dB fInt (dCons (dVar 8) dNil)) (dVar 1)) (dVar 3))) (dTst (dOp opEq (dOp opMod (dB fInt (dCons (dVar 8) dNil)) (dVar 2)) (dVar 4)))) (dVar 8) [8])) (dSeq (dSet 9 (dIf (dTst (dOp opNe (dVar 7) (dFz (dLst dNil)))) (dTup (dCons (dOp opIx (dVar 7) (dC (.int 0))) (dCons (dVar 6) dNil))) (dC .none))) (dSeq (dIfS (dOr (dTst (dOp opNe (dB fRepr (dCons (dCall sp_rests_joined (fun x _ => Ed x) (dCons (dTup (dCons (dVar 3) (dCons (dVar 1) dNil))) (dCons (dTup (dCons (dVar 4) (dCons (dVar 2) dNil))) dNil))) dNil)) (dB fRepr (dCons (dVar 9) dNil)))) (dTst (dOp opNe (dOp opIsNot (dVar 9) (dC .none)) (dOp opEq (dOp opMod (dB fInt (dCons (dOp opSub (dVar 3) (dVar 4)) dNil)) (dVar 5)) (dC (.int 0)))))) (dRet (dC (.bool false))) dNext) (dSeq (dPar3 10 11 12 (mDat (dCall (sp__law_far sa) (fun x _ => Ed x) (dCons (dVar 0) dNil)) (mOwn (dLst dNil) (mDat (dC (.int 1)) mNil)))) (dSeq (dFor (dRng1 (dCons (dCall (sp__law_pick sa) (fun x _ => Ed x) (dCons (dVar 0) (dCons (dC (.int 6)) dNil))) dNil)) (gSet 13) (dSeq (dSet 14 (dOp opAdd (dC (.int 1)) (dCall (sp__law_pick sa) (fun x _ => Ed x) (dCons (dVar 0) (dCons (dC (.int 40)) dNil))))) (dSeq (dDrop (dMeth 11 (dAppend 11 (dTup (dCons (dOp opMod (dB fInt (dCons (dVar 10) dNil)) (dVar 14)) (dCons (dVar 14) dNil)))))) (dSet 12 (dOp opDiv (dOp opMul (dVar 12) (dVar 14)) (dCall sp__law_part (fun x _ => Ed x) (dCons (dVar 12) (dCons (dVar 14) dNil)))))))) (dSeq (dSet 9 (dTup (dCons (dOp opMod (dB fInt (dCons (dVar 10) dNil)) (dVar 12)) (dCons (dVar 12) dNil)))) (dSeq (dIfS (dTst (dOp opNe (dB fRepr (dCons (dFz (dLst (dCons (dCall sp_row_joined (fun x _ => Ed x) (dCons (dVar 11) dNil)) (dCons (dCall sp_row_joined (fun x _ => Ed x) (dCons (dB fTuple (dCons (dVar 11) dNil)) dNil)) dNil)))) dNil)) (dB fRepr (dCons (dFz (dLst (dCons (dVar 9) (dCons (dVar 9) dNil)))) dNil)))) (dRet (dC (.bool false))) dNext) (dSeq (dSet 15 (dOp opAdd (dVar 11) (dFz (dLst (dCons (dTup (dCons (dC (.int 0)) (dCons (dC (.int 7)) dNil))) (dCons (dTup (dCons (dC (.int 1)) (dCons (dC (.int 7)) dNil))) dNil)))))) (dRet (dOp opIs (dCall sp_row_joined (fun x _ => Ed x) (dCons (dVar 15) dNil)) (dC .none)))))))))))))))
/-- law: script, source, lap, one, other, part, late, m, told, far, due -/
def t_law_0 (sa : Addr) (Ed : DXn → Prop) : DTS := (dFor (dRng1 (dCons (dC (.int 3)) dNil)) (gSet 2) (dIfS (dOr (dNot (dTru (dCall (sp__law_over_right sa) (fun x _ => Ed x) (dCons (dVar 1) dNil)))) (dOr (dNot (dTru (dCall (sp__law_powers_right sa) (fun x _ => Ed x) (dCons (dVar 1) dNil)))) (dNot (dTru (dCall (sp__law_joined_right sa) (fun x _ => Ed x) (dCons (dVar 1) dNil)))))) (dRet (dC (.bool false))) dNext))
def t_law_1 (sa : Addr) (Ed : DXn → Prop) : DTS := (dPar2 3 4 (mDat (dCall (sp__law_far sa) (fun x _ => Ed x) (dCons (dVar 1) dNil)) (mDat (dOp opAdd (dC (.int 1)) (dCall (sp__law_far sa) (fun x _ => Ed x) (dCons (dVar 1) dNil))) mNil)))
def t_law_2 (sa : Addr) (Ed : DXn → Prop) : DTS := (dSet 3 (dIf (dTst (dOp opLt (dB fLen (dCons (dB fStr (dCons (dVar 3) dNil)) dNil)) (dC (.int 100)))) (dOp opMul (dVar 3) (dCall (sp__law_of sa) (fun x _ => Ed x) (dCons (dVar 1) (dCons (dFz (dLst (dCons (dC (.int 0)) (dCons (dC (.int 1)) (dCons (dUn opNeg (dC (.int 1))) dNil))))) dNil)))) (dVar 3)))
def t_law_3 (sa : Addr) (Ed : DXn → Prop) : DTS := (dSet 5 (dCall sp__law_part (fun x _ => Ed x) (dCons (dVar 3) (dCons (dVar 4) dNil))))
def t_law_4 (sa : Addr) (Ed : DXn → Prop) : DTS := (dIfS (dOr (dTst (dOp opNe (dCall sp_common_part (fun x _ => Ed x) (dCons (dVar 3) (dCons (dVar 4) dNil))) (dVar 5))) (dOr (dTst (dOp opNe (dCall sp_common_part (fun x _ => Ed x) (dCons (dC (.int 0)) (dCons (dC (.int 0)) dNil))) (dC (.int 0)))) (dTst (dOp opNe (dCall sp_common_part (fun x _ => Ed x) (dCons (dOp opSub (dC (.int 0)) (dVar 3)) (dCons (dVar 4) dNil))) (dVar 5))))) (dRet (dC (.bool false))) dNext)
def t_law_5 (sa : Addr) (Ed : DXn → Prop) : DTS := (dSet 6 (dOp opAdd (dC (.int 1)) (dCall (sp__law_pick sa) (fun x _ => Ed x) (dCons (dVar 1) (dCons (dC (.int 999)) dNil)))))
def t_law_6 (sa : Addr) (Ed : DXn → Prop) : DTS := (dIfS (dTst (dOp opNe (dCall sp_common_multiple (fun x _ => Ed x) (dCons (dVar 4) (dCons (dVar 6) dNil))) (dOp opDiv (dOp opMul (dVar 4) (dVar 6)) (dCall sp__law_part (fun x _ => Ed x) (dCons (dVar 4) (dCons (dVar 6) dNil)))))) (dRet (dC (.bool false))) dNext)
def t_law_7 (sa : Addr) (Ed : DXn → Prop) : DTS := (dSet 7 (dCall (sp__law_by sa) (fun x _ => Ed x) (dCons (dVar 1) dNil)))
def t_law_8 (sa : Addr) (Ed : DXn → Prop) : DTS := (dSet 8 (dCall sp_rest_undone (fun x _ => Ed x) (dCons (dVar 3) (dCons (dVar 7) dNil))))
def t_law_9 (sa : Addr) (Ed : DXn → Prop) : DTS := (dIfS (dTst (dOp opNe (dOp opIs (dVar 8) (dC .none)) (dOp opNe (dCall sp__law_part (fun x _ => Ed x) (dCons (dVar 3) (dCons (dVar 7) dNil))) (dC (.int 1))))) (dRet (dC (.bool false))) dNext)
def t_law_10 (sa : Addr) (Ed : DXn → Prop) : DTS := (dIfS (dAnd (dTst (dOp opIsNot (dVar 8) (dC .none))) (dOr (dNot (dTst (dChain opLe opLt (dC (.int 0)) (dVar 8) (dVar 7)))) (dTst (dOp opNe (dOp opMod (dB fInt (dCons (dOp opMul (dVar 8) (dVar 3)) dNil)) (dVar 7)) (dOp opMod (dB fInt (dCons (dC (.int 1)) dNil)) (dVar 7)))))) (dRet (dC (.bool false))) dNext)
def t_law_11 (sa : Addr) (Ed : DXn → Prop) : DTS := (dSet 9 (dOp opAdd (dB fInt (dCons (dOp opMulS (dC (.str "9")) (dC (.int 300))) dNil)) (dCall (sp__law_pick sa) (fun x _ => Ed x) (dCons (dVar 1) (dCons (dC (.int 2)) dNil)))))
def t_law_12 (sa : Addr) (Ed : DXn → Prop) : DTS := (dSet 10 (dIf (dTst (dOp opLt (dB fLen (dCons (dB fStr (dCons (dVar 9) dNil)) dNil)) (dC (.int 301)))) (dTup (dCons (dC (.str "told")) (dCons (dVar 9) dNil))) (dTup (dCons (dC (.str "great")) (dCons (dC (.int 0)) dNil)))))
end DL.K07
set_option Elab.async false
set_option linter.all false
set_option maxRecDepth 100000
set_option maxHeartbeats 2000000
/-! k07: plain numbers -/
namespace DL.K07
open PySem
/-! ### ways to take k of n -/
theorem binom_zero (n : Nat) : binom n 0 = 1 := by cases n <;> rfl
theorem binom_gt : ∀ {n k : Nat}, n < k → binom n k = 0
  | 0, _ + 1, _ => rfl
  | n + 1, k + 1, h => by
    show binom n k + binom n (k + 1) = 0
    rw [binom_gt (n := n) (k := k) (by omega), binom_gt (n := n) (k := k + 1) (by omega)]
theorem binom_self : ∀ n : Nat, binom n n = 1
  | 0 => rfl
  | n + 1 => by
    show binom n n + binom n (n + 1) = 1
    rw [binom_self n, binom_gt (Nat.lt_succ_self n)]
theorem binom_up : ∀ n k : Nat, (n + 1) * binom n k = binom (n + 1) (k + 1) * (k + 1)
  | 0, 0 => rfl
  | 0, k + 1 => by
    show 1 * 0 = (binom 0 (k + 1) + binom 0 (k + 2)) * (k + 2)
    rw [binom_gt (n := 0) (by omega), binom_gt (n := 0) (by omega)]
    simp
  | n + 1, 0 => by
    have h : (n + 1) * 1 = binom (n + 1) 1 * 1 := by
      have := binom_up n 0
      rw [binom_zero] at this
      exact this
    rw [binom_zero]
    show (n + 2) * 1 = (binom (n + 1) 0 + binom (n + 1) 1) * 1
    rw [binom_zero]
    omega
  | n + 1, k + 1 => by
    have h1 := binom_up n k
    have h2 := binom_up n (k + 1)
    have e1 : binom (n + 1) (k + 1) = binom n k + binom n (k + 1) := rfl
    have e2 : binom (n + 2) (k + 2) = binom (n + 1) (k + 1) + binom (n + 1) (k + 2) := rfl
    show (n + 2) * binom (n + 1) (k + 1) = binom (n + 2) (k + 2) * (k + 2)
    have e3 : (n + 2) * binom (n + 1) (k + 1) = (n + 1) * binom n k + (n + 1) * binom n (k + 1) + binom (n + 1) (k + 1) := by
      rw [← Nat.mul_add, ← e1, Nat.add_mul (n + 1) 1]
      omega
    rw [e3, h1, h2, e2, Nat.add_mul]
    have e4 : binom (n + 1) (k + 1) * (k + 2) = binom (n + 1) (k + 1) * (k + 1) + binom (n + 1) (k + 1) := by
      rw [Nat.mul_add _ (k + 1) 1, Nat.mul_one]
    show binom (n + 1) (k + 1) * (k + 1) + binom (n + 1) (k + 2) * (k + 2) + binom (n + 1) (k + 1) = _
    omega
theorem binom_step (n k : Nat) : (binom n k : Int) * ((n : Int) - k) = binom n (k + 1) * ((k : Int) + 1) := by
  have h := binom_up n k
  have e1 : binom (n + 1) (k + 1) = binom n k + binom n (k + 1) := rfl
  rw [e1] at h
  have h' : ((n : Int) + 1) * (binom n k : Int) = ((binom n k : Int) + (binom n (k + 1) : Int)) * ((k : Int) + 1) := by exact_mod_cast h
  have a1 : ((n : Int) + 1) * (binom n k : Int) = (binom n k : Int) * n + (binom n k : Int) := by rw [Int.add_mul, Int.one_mul, Int.mul_comm]
  have a2 : ((binom n k : Int) + (binom n (k + 1) : Int)) * ((k : Int) + 1) = (binom n k : Int) * k + (binom n k : Int) + (binom n (k + 1) : Int) * ((k : Int) + 1) := by
    rw [Int.add_mul, Int.mul_add, Int.mul_one]
  rw [a1, a2] at h'
  rw [Int.mul_sub]
  omega
theorem binom_le (n : Nat) : ∀ k : Nat, binom n k ≤ (n + 1) ^ k
  | 0 => by rw [binom_zero]; exact Nat.le_refl _
  | k + 1 => by
    have h := binom_le n k
    by_cases hk : k ≤ n
    · have s : binom n k * (n - k) = binom n (k + 1) * (k + 1) := by
        have := binom_step n k
        have e : ((n : Int) - k) = ((n - k : Nat) : Int) := by omega
        rw [e] at this
        exact_mod_cast this
      have h1 : binom n (k + 1) ≤ binom n (k + 1) * (k + 1) := Nat.le_mul_of_pos_right _ (by omega)
      rw [← s] at h1
      refine Nat.le_trans h1 ?_
      rw [Nat.pow_succ]
      exact Nat.mul_le_mul h (by omega)
    · rw [binom_gt (by omega)]
      exact Nat.zero_le _
theorem binom_side (k j : Nat) : (binom (k + 1) j : Int) * (((k : Int) + 1) - j) = binom k j * ((k : Int) + 1) := by
  have h1 := binom_step (k + 1) j
  have h2 := binom_up k j
  have h2' : ((k : Int) + 1) * (binom k j : Int) = binom (k + 1) (j + 1) * ((j : Int) + 1) := by exact_mod_cast h2
  have e : ((k + 1 : Nat) : Int) = (k : Int) + 1 := by omega
  rw [e] at h1
  rw [h1, ← h2', Int.mul_comm]
theorem binom_tri (n j : Nat) : ∀ d : Nat, binom n (j + d) * binom (j + d) j = binom n j * binom (n - j) d
  | 0 => by
    show binom n j * binom j j = _
    rw [binom_self, binom_zero]
  | d + 1 => by
    have ih := binom_tri n j d
    by_cases hjn : j ≤ n
    · have ih' : (binom n (j + d) : Int) * binom (j + d) j = binom n j * binom (n - j) d := by exact_mod_cast ih
      have s1 := binom_step n (j + d)
      have s2 := binom_side (j + d) j
      have s3 := binom_step (n - j) d
      have e1 : (((n - j : Nat) : Int) - d) = (n : Int) - ((j + d : Nat) : Int) := by omega
      rw [e1] at s3
      have e2 : (((j + d : Nat) : Int) + 1 - j) = (d : Int) + 1 := by omega
      rw [e2] at s2
      have hpos : ((d : Int) + 1) * (((j + d : Nat) : Int) + 1) ≠ 0 := Int.mul_ne_zero (by omega) (by omega)
      have key : (binom n (j + d + 1) : Int) * binom (j + d + 1) j * (((d : Int) + 1) * (((j + d : Nat) : Int) + 1)) = binom n j * binom (n - j) (d + 1) * (((d : Int) + 1) * (((j + d : Nat) : Int) + 1)) := by
        calc (binom n (j + d + 1) : Int) * binom (j + d + 1) j * (((d : Int) + 1) * (((j + d : Nat) : Int) + 1))
            = (binom n (j + d + 1) * (((j + d : Nat) : Int) + 1)) * (binom (j + d + 1) j * ((d : Int) + 1)) := by ac_rfl
          _ = (binom n (j + d) * ((n : Int) - ((j + d : Nat) : Int))) * (binom (j + d) j * (((j + d : Nat) : Int) + 1)) := by rw [← s1, s2]
          _ = (binom n (j + d) * binom (j + d) j) * ((n : Int) - ((j + d : Nat) : Int)) * (((j + d : Nat) : Int) + 1) := by ac_rfl
          _ = (binom n j * binom (n - j) d) * ((n : Int) - ((j + d : Nat) : Int)) * (((j + d : Nat) : Int) + 1) := by rw [ih']
          _ = binom n j * (binom (n - j) d * ((n : Int) - ((j + d : Nat) : Int))) * (((j + d : Nat) : Int) + 1) := by ac_rfl
          _ = binom n j * (binom (n - j) (d + 1) * ((d : Int) + 1)) * (((j + d : Nat) : Int) + 1) := by rw [s3]
          _ = binom n j * binom (n - j) (d + 1) * (((d : Int) + 1) * (((j + d : Nat) : Int) + 1)) := by ac_rfl
      have := Int.eq_of_mul_eq_mul_right hpos key
      exact_mod_cast this
    · rw [binom_gt (n := n) (k := j) (by omega), binom_gt (n := n) (k := j + (d + 1)) (by omega), Nat.zero_mul, Nat.zero_mul]
end DL.K07
set_option Elab.async false
set_option linter.all false
set_option maxRecDepth 100000
set_option maxHeartbeats 2000000
namespace DL.K07
open PySem L2 PyProof.Rows
theorem len_is_long : ∀ as Q E, sp_is_long as Q E → as.length = 1 := by rintro as Q E ⟨i, rfl, _⟩; rfl
theorem bits_lt {i : Int} {n : Nat} (h : Builtin.Int.intBits i ≤ n) : i.natAbs < 2 ^ n := by
  unfold Builtin.Int.intBits at h
  split at h
  · rename_i e
    have : i.natAbs = 0 := by simpa using e
    rw [this]; exact Nat.two_pow_pos n
  · have := Nat.lt_log2_self (n := i.natAbs)
    exact Nat.lt_of_lt_of_le this (Nat.pow_le_pow_right (by decide) h)
theorem log2_lt {x n : Nat} (h : x < 2 ^ n) (hn : 0 < n) : x.log2 < n := by
  by_cases e : x = 0
  · subst e; simpa using hn
  · exact (Nat.log2_lt e).mpr h
theorem law_is_long : ∀ as Q E, sp_is_long as Q E → t_is_long E { nx := fun _ => Q .none, rt := Q } (startD ["number"] as) := by
  rintro as Q E ⟨i, rfl, q⟩
  show t_is_long E _ [.dat (.int i)]
  conv => whnf
  refine ⟨fun h => ?_, fun h => ?_⟩
  · have e : isLong i = true := by unfold isLong; rw [h]; rfl
    rw [e] at q
    exact q
  · have h1 : ¬ (997 : Int) < ((Builtin.Int.intBits i : Nat) : Int) := of_decide_eq_false h
    have h2 : i.natAbs < 2 ^ 997 := bits_lt (by omega)
    conv => whnf
    refine ⟨?_, ?_⟩
    · show ((i.natAbs : Nat) : Int).natAbs.log2 < 1920
      exact Nat.lt_trans (log2_lt h2 (by decide)) (by decide)
    conv => whnf
    refine ⟨int_text_fits (Nat.lt_trans (log2_lt h2 (by decide)) (by decide)), ?_⟩
    conv => whnf
    have e : isLong i = decide ((300 : Int) < (((toString ((i.natAbs : Nat) : Int) : Str).length : Nat) : Int)) := by unfold isLong; rw [h, Bool.false_or]
    rw [e] at q
    exact q
theorem eqI_t {i j : Int} (h : PyData.eqv (.int i) (.int j) = true) : i = j := by simpa [PyData.eqv] using h
theorem eqI_f {i j : Int} (h : PyData.eqv (.int i) (.int j) = false) : i ≠ j := by simpa [PyData.eqv] using h
theorem len_not_long : ∀ (C : Addr) as Q E, sp_not_long C as Q E → as.length = 1 := by rintro C as Q E ⟨i, rfl, _⟩; rfl
theorem law_not_long (C : Addr) : ∀ as Q E, sp_not_long C as Q E → t_not_long C E { nx := fun _ => Q .none, rt := Q } (startD ["number"] as) := by
  rintro as Q E ⟨i, rfl, h1, h2⟩
  show t_not_long C E _ [.dat (.int i)]
  conv => whnf
  refine ⟨i, rfl, trivial, fun h => ?_, fun h => ?_⟩
  · exact ⟨rfl, h1 h⟩
  · exact h2 h
/-! ### ways to take -/
theorem law_over {t : (DXn → Prop) → DTS} {names : List Str} (ht : t = fun Ed => dSeq (dSet 2 (dC (.int 1))) (dSeq (dFor (dRng1 (dCons (dVar 1) dNil)) (gSet 3) (dSet 2 (dOp opDiv (dOp opMul (dVar 2) (dOp opSub (dVar 0) (dVar 3))) (dOp opAdd (dVar 3) (dC (.int 1)))))) (dRet (dVar 2))))
    (hs : ∀ as : List AV, as.length = 2 → startD names as = as.map svOf ++ [.emp, .emp]) : ∀ as Q E, sp_number_over as Q E → t E { nx := fun _ => Q .none, rt := Q } (startD names as) := by
  rintro as Q E ⟨n, k, rfl, hn, hk, q⟩
  rw [hs _ rfl, ht]
  show dSeq _ _ _ [.dat (.int n), .dat (.int k), .emp, .emp]
  conv => whnf
  refine ⟨by omega, by omega, ?_⟩
  rw [Int.toNat_natCast]
  refine forRng_inv (fun j δ => ∃ s, δ = [.dat (.int n), .dat (.int k), .dat (.int (binom n j)), s]) ⟨.emp, by rw [binom_zero]; rfl⟩ (fun j δ P hj ⟨s, e⟩ kk => ?_) fun δ ⟨s, e⟩ => ?_
  · subst e
    rw [Int.zero_add]
    conv => whnf
    have hb : binom n j < 2 ^ 2001000 := by
      refine Nat.lt_of_le_of_lt (binom_le n j) ?_
      have h1 : n + 1 ≤ 2 ^ 2000 := hn
      refine Nat.lt_of_le_of_lt (Nat.pow_le_pow_left h1 j) ?_
      rw [← Nat.pow_mul]
      exact Nat.pow_lt_pow_right (by decide) (by omega)
    refine ⟨mul_bits (a := 2001000) (b := 2001) (by rw [Int.natAbs_natCast]; exact hb) ?_ (by decide), ⟨by omega, ?_⟩, ?_⟩
    · have h2 : ((n : Int) - j).natAbs ≤ n + j := by omega
      refine Nat.lt_of_le_of_lt h2 ?_
      rw [Nat.pow_succ]
      have : j < 2 ^ 2000 := Nat.lt_of_lt_of_le (show j < 2 ^ 10 by omega) (Nat.pow_le_pow_right (by decide) (by decide))
      omega
    · refine Nat.lt_trans (log2_lt (n := 11) ?_ (by decide)) (by decide)
      omega
    conv => whnf
    refine kk _ ⟨.dat (.int j), ?_⟩
    have e : (binom n j : Int) * ((n : Int) - j) / ((j : Int) + 1) = binom n (j + 1) := by
      rw [binom_step]
      exact Int.mul_ediv_cancel _ (by omega)
    rw [e]
  · subst e
    exact q
theorem len_number_over : ∀ as Q E, sp_number_over as Q E → as.length = 2 := by rintro as Q E ⟨n, k, rfl, _⟩; rfl
theorem len__law_over : ∀ as Q E, sp__law_over as Q E → as.length = 2 := len_number_over
theorem law_number_over : ∀ as Q E, sp_number_over as Q E → t_number_over E { nx := fun _ => Q .none, rt := Q } (startD ["n", "k", "found", "step"] as) := law_over rfl fun as h => by unfold startD; rw [h]; rfl
theorem law__law_over : ∀ as Q E, sp__law_over as Q E → t__law_over E { nx := fun _ => Q .none, rt := Q } (startD ["n", "k", "found", "j"] as) := law_over rfl fun as h => by unfold startD; rw [h]; rfl
theorem len_over_rest : ∀ as Q E, sp_over_rest as Q E → as.length = 3 := by rintro as Q E ⟨n, k, m, rfl, _⟩; rfl
theorem law_over_rest : ∀ as Q E, sp_over_rest as Q E → t_over_rest E { nx := fun _ => Q .none, rt := Q } (startD ["n", "k", "m"] as) := by
  rintro as Q E ⟨n, k, m, rfl, hn, hk, hm, q⟩
  show t_over_rest E _ [.dat (.int n), .dat (.int k), .dat (.int m)]
  conv => whnf
  exact ⟨n, k, rfl, hn, hk, by omega, q⟩
end DL.K07
set_option Elab.async false
set_option linter.all false
set_option maxRecDepth 100000
set_option maxHeartbeats 2000000
set_option exponentiation.threshold 5000
namespace DL.K07
open PySem L2 PyProof.Rows
/-! ### powers -/
theorem pow_abs_le {b : Int} {d n : Nat} (h : d ≤ n) : (b ^ d).natAbs ≤ (b.natAbs + 1) ^ n := by
  rw [Int.natAbs_pow]
  exact Nat.le_trans (Nat.pow_le_pow_left (Nat.le_succ _) d) (Nat.pow_le_pow_right (Nat.succ_pos _) h)
theorem pow1 (b : Int) : b ^ 1 = b := by rw [Int.pow_succ, Int.pow_zero, Int.one_mul]
theorem len_power_of : ∀ as Q E, sp_power_of as Q E → as.length = 2 := by rintro as Q E ⟨b, n, rfl, _⟩; rfl
theorem law_power_of : ∀ as Q E, sp_power_of as Q E → t_power_of E { nx := fun _ => Q .none, rt := Q } (startD ["base", "often", "found", "here", "left"] as) := by
  rintro as Q E ⟨b, n, rfl, ⟨A, hA, hA2⟩, q⟩
  show t_power_of E _ [.dat (.int b), .dat (.int n), .emp, .emp, .emp]
  conv => whnf
  refine dWh_inv (fun l δ => ∃ d e : Nat, δ = [.dat (.int b), .dat (.int n), .dat (.int (b ^ d)), .dat (.int (b ^ e)), .dat (.int l)] ∧ d + e * l = n) n ⟨0, 1, by rw [pow1, Int.pow_zero], by omega⟩ fun l δ P ⟨d, e, eδ, hde⟩ kk => ?_
  subst eδ
  conv => whnf
  refine ⟨fun h => ?_, fun h => ?_⟩
  · have hl : 0 < l := by have := of_decide_eq_true h; omega
    have hd : d ≤ n := by omega
    have he : e ≤ n := Nat.le_trans (Nat.le_mul_of_pos_right e hl) (by omega)
    have bd : (b ^ d).natAbs < 2 ^ A := Nat.lt_of_le_of_lt (pow_abs_le hd) hA
    have be : (b ^ e).natAbs < 2 ^ A := Nat.lt_of_le_of_lt (pow_abs_le he) hA
    conv => whnf
    refine ⟨by decide, ⟨rfl, rfl⟩, ?_⟩
    conv => whnf
    -- behind the test, whatever it says: found is b ^ d2 with d2 + e (l less its last bit) = n
    have next : ∀ (d2 : Nat), d2 + e * (2 * (l / 2)) = n → dPar2 3 4 (mDat (dIf (dTst (dOp opGt (dVar 4) (dC (.int 1)))) (dOp opMul (dVar 3) (dVar 3)) (dVar 3)) (mDat (dOp opDiv (dVar 4) (dC (.int 2))) mNil))
        { nx := P, rt := Q, bk := dRet (dVar 2) { nx := fun _ => Q .none, rt := Q }, ct := P } [.dat (.int b), .dat (.int n), .dat (.int (b ^ d2)), .dat (.int (b ^ e)), .dat (.int l)] := by
      intro d2 h2
      conv => whnf
      have l2 : ((l : Int) / 2) = ((l / 2 : Nat) : Int) := by omega
      refine ⟨fun h => ?_, fun h => ?_⟩
      · conv => whnf
        refine ⟨mul_bits be be (by omega), ⟨by decide, by decide⟩, ?_⟩
        conv => whnf
        refine kk (l / 2) (by omega) _ ⟨d2, e + e, ?_, ?_⟩
        · rw [l2, Int.pow_add]
        · rw [← h2, Nat.add_mul]
          have : e * (2 * (l / 2)) = e * (l / 2) + e * (l / 2) := by rw [Nat.two_mul, Nat.mul_add]
          omega
      · have hl1 : ¬ (1 : Int) < l := of_decide_eq_false h
        conv => whnf
        refine ⟨⟨by decide, by decide⟩, ?_⟩
        conv => whnf
        refine kk (l / 2) (by omega) _ ⟨d2, e, ?_, ?_⟩
        · rw [l2]
        · have : l / 2 = 0 := by omega
          rw [this] at h2 ⊢
          omega
    refine ⟨fun h2 => ?_, fun h2 => ?_⟩
    · have hm := eqI_t h2
      conv => whnf
      refine ⟨mul_bits bd be (by omega), ?_⟩
      have e2 : b ^ d * b ^ e = b ^ (d + e) := by rw [Int.pow_add]
      have h3 := next (d + e) ?_
      rw [← e2] at h3
      exact h3
      have hl2 : l = 2 * (l / 2) + 1 := by omega
      have : e * l = e * (2 * (l / 2)) + e := by
        conv => lhs; rw [hl2, Nat.mul_add, Nat.mul_one]
      omega
    · have hm := eqI_f h2
      refine next d ?_
      have hl2 : l = 2 * (l / 2) := by omega
      rw [← hl2]
      exact hde
  · have hl : l = 0 := by have := of_decide_eq_false h; omega
    subst hl
    have : d = n := by omega
    subst this
    exact q
theorem emod_pow (b m : Int) (n : Nat) : (b % m) ^ n % m = b ^ n % m := by
  induction n with
  | zero => rw [Int.pow_zero, Int.pow_zero]
  | succ n ih =>
    rw [Int.pow_succ, Int.pow_succ, Int.mul_emod, ih, Int.emod_emod, ← Int.mul_emod]
theorem len_power_rest : ∀ as Q E, sp_power_rest as Q E → as.length = 3 := by rintro as Q E ⟨b, n, m, rfl, _⟩; rfl
theorem law_power_rest : ∀ as Q E, sp_power_rest as Q E → t_power_rest E { nx := fun _ => Q .none, rt := Q } (startD ["base", "often", "m", "found", "here", "left"] as) := by
  rintro as Q E ⟨b, n, m, rfl, hm1, hm2, q⟩
  show t_power_rest E _ [.dat (.int b), .dat (.int n), .dat (.int m), .emp, .emp, .emp]
  have hm0 : (0 : Int) < m := by omega
  have small : ∀ x : Int, (x % (m : Int)).natAbs < 2 ^ 4000 := fun x => by
    have h1 := Int.emod_nonneg x (show (m : Int) ≠ 0 by omega)
    have h2 := Int.emod_lt_of_pos x hm0
    omega
  conv => whnf
  refine ⟨hm0, hm0, ?_⟩
  conv => whnf
  refine dWh_inv (fun l δ => ∃ f h : Int, δ = [.dat (.int b), .dat (.int n), .dat (.int m), .dat (.int (f % m)), .dat (.int (h % m)), .dat (.int l)] ∧ (f * h ^ l) % m = b ^ n % m) n ⟨1, b, rfl, by rw [Int.one_mul]⟩ fun l δ P ⟨f, h, eδ, hi⟩ kk => ?_
  subst eδ
  conv => whnf
  refine ⟨fun hl => ?_, fun hl => ?_⟩
  · have hl : 0 < l := by have := of_decide_eq_true hl; omega
    conv => whnf
    refine ⟨by decide, ⟨rfl, rfl⟩, ?_⟩
    conv => whnf
    have next : ∀ f2 : Int, (f2 * (h * h) ^ (l / 2)) % m = b ^ n % m → dPar2 4 5 (mDat (dOp opMod (dOp opMul (dVar 4) (dVar 4)) (dVar 2)) (mDat (dOp opDiv (dVar 5) (dC (.int 2))) mNil))
        { nx := P, rt := Q, bk := dRet (dVar 3) { nx := fun _ => Q .none, rt := Q }, ct := P } [.dat (.int b), .dat (.int n), .dat (.int m), .dat (.int (f2 % m)), .dat (.int (h % m)), .dat (.int l)] := by
      intro f2 h2
      conv => whnf
      have l2 : ((l : Int) / 2) = ((l / 2 : Nat) : Int) := by omega
      refine ⟨mul_bits (small h) (small h) (by decide), hm0, ⟨by decide, by decide⟩, ?_⟩
      conv => whnf
      refine kk (l / 2) (by omega) _ ⟨f2, h * h, ?_, h2⟩
      rw [l2, ← Int.mul_emod]
    refine ⟨fun h2 => ?_, fun h2 => ?_⟩
    · have hm := eqI_t h2
      conv => whnf
      refine ⟨mul_bits (small f) (small h) (by decide), hm0, ?_⟩
      have h3 := next (f * h) ?_
      rw [Int.mul_emod] at h3
      exact h3
      rw [← hi]
      have hl2 : l = 2 * (l / 2) + 1 := by omega
      conv => rhs; rw [hl2, Int.pow_succ, Int.pow_mul]
      congr 1
      rw [show h ^ 2 = h * h by rw [Int.pow_succ, Int.pow_succ, Int.pow_zero, Int.one_mul]]
      ac_rfl
    · have hm := eqI_f h2
      refine next f ?_
      rw [← hi]
      have hl2 : l = 2 * (l / 2) := by omega
      conv => rhs; rw [hl2, Int.pow_mul]
      rw [show h ^ 2 = h * h by rw [Int.pow_succ, Int.pow_succ, Int.pow_zero, Int.one_mul]]
  · have hl : l = 0 := by have := of_decide_eq_false hl; omega
    subst hl
    rw [Int.pow_zero, Int.mul_one] at hi
    rw [← hi] at q
    exact q
/-! ### common parts -/
theorem gcd_step (a b : Nat) : Nat.gcd b (a % b) = Nat.gcd a b := by rw [Nat.gcd_comm a b, Nat.gcd_rec b a, Nat.gcd_comm]
theorem len_common_part : ∀ as Q E, sp_common_part as Q E → as.length = 2 := by rintro as Q E ⟨a, b, rfl, _⟩; rfl
theorem law_common_part : ∀ as Q E, sp_common_part as Q E → t_common_part E { nx := fun _ => Q .none, rt := Q } (startD ["one", "other", "here", "there"] as) := by
  rintro as Q E ⟨a, b, rfl, q⟩
  show t_common_part E _ [.dat (.int a), .dat (.int b), .emp, .emp]
  conv => whnf
  refine dWh_inv (fun m δ => ∃ x : Nat, δ = [.dat (.int a), .dat (.int b), .dat (.int x), .dat (.int m)] ∧ Nat.gcd x m = Int.gcd a b) b.natAbs ⟨a.natAbs, rfl, rfl⟩ fun m δ P ⟨x, eδ, hg⟩ kk => ?_
  subst eδ
  conv => whnf
  refine ⟨fun h => ?_, fun h => ?_⟩
  · have hm : 0 < m := by have := of_decide_eq_true h; omega
    conv => whnf
    refine ⟨by omega, ?_⟩
    conv => whnf
    refine kk (x % m) (Nat.mod_lt _ hm) _ ⟨m, ?_, ?_⟩
    · rw [Int.natCast_emod]
    · rw [gcd_step, hg]
  · have hm : m = 0 := by have := of_decide_eq_false h; omega
    subst hm
    rw [Nat.gcd_zero_right] at hg
    rw [← hg] at q
    exact q
theorem len__law_part : ∀ as Q E, sp__law_part as Q E → as.length = 2 := len_common_part
theorem law__law_part : ∀ as Q E, sp__law_part as Q E → t__law_part E { nx := fun _ => Q .none, rt := Q } (startD ["one", "other"] as) := by
  rintro as Q E ⟨a, b, rfl, q⟩
  show t__law_part E _ [.dat (.int a), .dat (.int b)]
  conv => whnf
  refine dWh_inv (fun m δ => ∃ x : Nat, δ = [.dat (.int x), .dat (.int m)] ∧ Nat.gcd x m = Int.gcd a b) b.natAbs ⟨a.natAbs, rfl, rfl⟩ fun m δ P ⟨x, eδ, hg⟩ kk => ?_
  subst eδ
  conv => whnf
  refine ⟨fun h => ?_, fun h => ?_⟩
  · have hm : 0 < m := by have := of_decide_eq_true h; omega
    conv => whnf
    refine ⟨by omega, ?_⟩
    conv => whnf
    refine kk (x % m) (Nat.mod_lt _ hm) _ ⟨m, ?_, ?_⟩
    · rw [Int.natCast_emod]
    · rw [gcd_step, hg]
  · have hm : m = 0 := by have := of_decide_eq_false h; omega
    subst hm
    rw [Nat.gcd_zero_right] at hg
    rw [← hg] at q
    exact q
theorem len_common_multiple : ∀ as Q E, sp_common_multiple as Q E → as.length = 2 := by rintro as Q E ⟨a, b, rfl, _⟩; rfl
theorem law_common_multiple : ∀ as Q E, sp_common_multiple as Q E → t_common_multiple E { nx := fun _ => Q .none, rt := Q } (startD ["one", "other"] as) := by
  rintro as Q E ⟨a, b, rfl, ha, hb, ha2, hb2, q⟩
  show t_common_multiple E _ [.dat (.int a), .dat (.int b)]
  conv => whnf
  have hg : 0 < Nat.gcd a b := Nat.gcd_pos_of_pos_left _ ha
  have hg2 : Nat.gcd a b ≤ a := Nat.gcd_le_left _ ha
  refine ⟨a, b, rfl, ⟨?_, ?_⟩, ?_⟩
  · show (0 : Int) < (Int.gcd a b : Nat)
    rw [Int.gcd_natCast_natCast]
    omega
  · show ((Int.gcd a b : Nat) : Int).natAbs.log2 < 9000
    rw [Int.gcd_natCast_natCast]
    exact Nat.lt_trans (log2_lt (n := 4000) (by omega) (by decide)) (by decide)
  conv => whnf
  have e : ((a : Int) / (Int.gcd a b : Nat)) = ((a / Nat.gcd a b : Nat) : Int) := by
    rw [Int.gcd_natCast_natCast]
    rfl
  have hq : a / Nat.gcd a b ≤ a := Nat.div_le_self _ _
  refine ⟨?_, ?_⟩
  · show MulOk ((a : Int) / (Int.gcd a b : Nat)) b
    rw [e]
    exact mul_bits (a := 4000) (b := 4000) (by rw [Int.natAbs_natCast]; exact Nat.lt_of_le_of_lt hq ha2) (by rw [Int.natAbs_natCast]; exact hb2) (by decide)
  · show Q (.int ((a : Int) / (Int.gcd a b : Nat) * b))
    rw [e]
    exact q
end DL.K07
set_option Elab.async false
set_option linter.all false
set_option maxRecDepth 100000
set_option maxHeartbeats 2000000
set_option exponentiation.threshold 5000
namespace DL.K07
open PySem L2 PyProof.Rows
/-! ### the source -/
theorem len__law_pick : ∀ (a : Addr) as Q E, sp__law_pick a as Q E → as.length = 2 := by rintro a as Q E ⟨m, rfl, _⟩; rfl
theorem law__law_pick : ∀ (a : Addr) as Q E, sp__law_pick a as Q E → t__law_pick a E { nx := fun _ => Q .none, rt := Q } (startD ["source", "many", "left", "mixed"] as) := by
  rintro sa as Q E ⟨many, rfl, hb, q⟩
  show t__law_pick sa E _ [.raw (.ref sa), .dat (.int many), .emp, .emp]
  have hmax : (0 : Int) < max 1 many := by omega
  have hmb : (max 1 many).natAbs.log2 < 9000 := by
    rcases Int.le_total 1 many with h | h
    · rw [Int.max_eq_right h]; exact hb
    · rw [Int.max_eq_left h]; decide
  conv => whnf
  refine ⟨rfl, ?_⟩
  conv => whnf
  refine ⟨rfl, fun left => ?_⟩
  conv => whnf
  have first' : ∀ N : DEnds, N.rt = Q → dSeq (dSrcSet 0 sa (dOp opDiv (dVar 2) (dB fMax (dCons (dC (.int 1)) (dCons (dVar 1) dNil))))) (dRet (dOp opMod (dB fInt (dCons (dVar 2) dNil)) (dB fMax (dCons (dC (.int 1)) (dCons (dVar 1) dNil)))))
      N [.raw (.ref sa), .dat (.int many), .dat (.int left), .emp] := fun N hN => by
    conv => whnf
    refine ⟨⟨hmax, hmb⟩, ?_⟩
    conv => whnf
    refine ⟨rfl, ?_⟩
    conv => whnf
    refine ⟨hmax, ?_⟩
    show N.rt _
    rw [hN]
    exact q _ (Int.emod_nonneg _ (by omega)) (Int.emod_lt_of_pos _ hmax)
  refine ⟨fun h => ⟨fun _ => first' _ rfl, fun z => by cases z⟩, fun h => ?_⟩
  have hm : (2 : Int) ≤ many := by have := of_decide_eq_false h; omega
  conv => whnf
  refine ⟨fun h => first' _ rfl, fun h => ?_⟩
  conv => whnf
  refine ⟨rfl, fun turn => ?_⟩
  conv => whnf
  refine ⟨rfl, ?_⟩
  conv => whnf
  refine ⟨rfl, fun mixed => ?_⟩
  conv => whnf
  refine ⟨rfl, fun turn2 => ?_⟩
  conv => whnf
  refine ⟨mul_r (by decide) (by decide), by decide, ?_⟩
  obtain ⟨x, hx⟩ : ∃ x, x = (mixed + turn2 * 104729) % 998244353 := ⟨_, rfl⟩
  have hx1 : 0 ≤ x := by rw [hx]; exact Int.emod_nonneg _ (by decide)
  have hx2 : x < 998244353 := by rw [hx]; exact Int.emod_lt_of_pos _ (by decide)
  rw [← hx]
  conv => whnf
  refine ⟨mul_r (by omega) (by omega), rfl, fun turn3 => ?_⟩
  conv => whnf
  refine ⟨mul_r (by decide) (by decide), by decide, ?_⟩
  conv => whnf
  refine ⟨rfl, ?_⟩
  conv => whnf
  refine ⟨⟨by decide, by decide⟩, by omega, ?_⟩
  refine q _ (Int.emod_nonneg _ (by omega)) ?_
  rw [Int.max_eq_right (by omega)]
  exact Int.emod_lt_of_pos _ (by omega)
theorem len__law_of : ∀ (a : Addr) as Q E, sp__law_of a as Q E → as.length = 2 := by rintro a as Q E ⟨m, rfl, _⟩; rfl
theorem atI_pos {α : Type} {ds : List α} {n : Int} (h0 : 0 ≤ n) (h1 : n < ds.length) : ∃ d, atI ds n = some d ∧ d ∈ ds := by
  obtain ⟨k, rfl⟩ := Int.eq_ofNat_of_zero_le h0
  have hk : k < ds.length := by omega
  exact ⟨ds[k], atI_nat (List.getElem?_eq_getElem hk), List.getElem_mem hk⟩
theorem law__law_of : ∀ (a : Addr) as Q E, sp__law_of a as Q E → t__law_of a E { nx := fun _ => Q .none, rt := Q } (startD ["source", "some"] as) := by
  rintro sa as Q E ⟨ds, rfl, h1, h2, q⟩
  show t__law_of sa E _ [.raw (.ref sa), .dat (.list ds)]
  conv => whnf
  refine ⟨ds.length, rfl, ?_, fun n h3 h4 => ?_⟩
  · rw [Int.natAbs_natCast]
    exact Nat.lt_trans (log2_lt (n := 10) (by omega) (by decide)) (by decide)
  · rw [Int.max_eq_right (by omega)] at h4
    obtain ⟨d, h5, h6⟩ := atI_pos h3 h4
    exact ⟨d, h5, q d h6⟩
end DL.K07
set_option Elab.async false
set_option linter.all false
set_option maxRecDepth 100000
set_option maxHeartbeats 2000000
set_option exponentiation.threshold 5000
namespace DL.K07
open PySem L2 PyProof.Rows
theorem len__law_far : ∀ (a : Addr) as Q E, sp__law_far a as Q E → as.length = 1 := by rintro a as Q E ⟨rfl, _⟩; rfl
theorem law__law_far : ∀ (a : Addr) as Q E, sp__law_far a as Q E → t__law_far a E { nx := fun _ => Q .none, rt := Q } (startD ["source", "found", "lap"] as) := by
  rintro sa as Q E ⟨rfl, q⟩
  show t__law_far sa E _ [.raw (.ref sa), .emp, .emp]
  conv => whnf
  refine ⟨50, rfl, by decide, fun n h0 h1 => ?_⟩
  obtain ⟨f0, rfl⟩ := Int.eq_ofNat_of_zero_le h0
  rw [Int.max_eq_right (by decide)] at h1
  conv => whnf
  refine ⟨by decide, ?_⟩
  conv => whnf
  refine ⟨_, rfl, by decide, by decide, fun d hd => ?_⟩
  have loop : ∀ k : Nat, k ≤ 30 → forWp (gSet 2) (dSet 1 (dOp opAdd (dOp opMul (dVar 1) (dC (.int 1000000007))) (dCall (sp__law_pick sa) (fun x _ => E x) (dCons (dVar 0) (dCons (dC (.int 1000000)) dNil)))))
      { nx := dRet (dVar 1) { nx := fun _ => Q .none, rt := Q }, rt := Q } (rngD 0 1 k) [.raw (.ref sa), .dat (.int f0), .emp] := by
    intro k hk
    refine forRng_inv (fun j δ => ∃ (f : Nat) (s : SV), δ = [.raw (.ref sa), .dat (.int f), s] ∧ f < 2 ^ (6 + 31 * j)) ⟨f0, .emp, rfl, by omega⟩ (fun j δ P hj ⟨f, s, e, hf⟩ kk => ?_) fun δ ⟨f, s, e, hf⟩ => ?_
    · subst e
      conv => whnf
      refine ⟨mul_r (by decide) (by decide), ?_⟩
      conv => whnf
      refine ⟨1000000, rfl, by decide, fun p p0 p1 => ?_⟩
      obtain ⟨p, rfl⟩ := Int.eq_ofNat_of_zero_le p0
      rw [Int.max_eq_right (by decide)] at p1
      conv => whnf
      refine kk _ ⟨f * 1000000007 + p, .dat (.int (0 + (j : Int))), ?_, ?_⟩
      · rw [show ((f * 1000000007 + p : Nat) : Int) = (f : Int) * 1000000007 + p by omega]
      · have e : 2 ^ (6 + 31 * (j + 1)) = 2 ^ (6 + 31 * j) * 2147483648 := by
          rw [show 6 + 31 * (j + 1) = 6 + 31 * j + 31 by omega, Nat.pow_add]
        rw [e]
        omega
    · subst e
      refine q f (Nat.lt_of_lt_of_le hf (Nat.pow_le_pow_right (by decide) (by omega)))
  have hd' : d = .int (0 : Nat) ∨ d = .int (1 : Nat) ∨ d = .int (5 : Nat) ∨ d = .int (30 : Nat) := by
    simp only [List.mem_cons, List.not_mem_nil, or_false] at hd
    rcases hd with h | h | h | h | h <;> subst h
    · exact .inl rfl
    · exact .inl rfl
    · exact .inr (.inl rfl)
    · exact .inr (.inr (.inl rfl))
    · exact .inr (.inr (.inr rfl))
  rcases hd' with h | h | h | h <;> subst h
  · exact ⟨by decide, by decide, loop 0 (by decide)⟩
  · exact ⟨by decide, by decide, loop 1 (by decide)⟩
  · exact ⟨by decide, by decide, loop 5 (by decide)⟩
  · exact ⟨by decide, by decide, loop 30 (by decide)⟩
theorem len__law_by : ∀ (a : Addr) as Q E, sp__law_by a as Q E → as.length = 1 := by rintro a as Q E ⟨rfl, _⟩; rfl
theorem law__law_by : ∀ (a : Addr) as Q E, sp__law_by a as Q E → t__law_by a E { nx := fun _ => Q .none, rt := Q } (startD ["source"] as) := by
  rintro sa as Q E ⟨rfl, q⟩
  show t__law_by sa E _ [.raw (.ref sa)]
  conv => whnf
  refine ⟨60, rfl, by decide, fun n h0 h1 => ?_⟩
  obtain ⟨n, rfl⟩ := Int.eq_ofNat_of_zero_le h0
  rw [Int.max_eq_right (by decide)] at h1
  conv => whnf
  refine ⟨60, rfl, by decide, fun m h2 h3 => ?_⟩
  obtain ⟨m, rfl⟩ := Int.eq_ofNat_of_zero_le h2
  rw [Int.max_eq_right (by decide)] at h3
  conv => whnf
  refine ⟨rfl, fun f hf => ?_⟩
  conv => whnf
  refine ⟨by show 3 ≤ 100000; decide, ?_⟩
  conv => whnf
  have big : (60 : Nat) < 2 ^ 1000 := Nat.lt_of_lt_of_le (show 60 < 2 ^ 6 by decide) (Nat.pow_le_pow_right (by decide) (by decide))
  have fin : ∀ x : Nat, x < 2 ^ 1000 → Q (.int (1 + (x : Int))) := fun x hx => by
    have := q (1 + x) (by omega) (by omega)
    exact this
  refine ⟨_, rfl, by show 1 ≤ 3; decide, by show 3 ≤ 1000; decide, fun d hd => ?_⟩
  simp only [List.mem_cons, List.not_mem_nil, or_false] at hd
  rcases hd with h | h | h <;> subst h
  · exact fin n (by omega)
  · exact fin m (by omega)
  · exact fin f hf
end DL.K07
set_option Elab.async false
set_option linter.all false
set_option maxRecDepth 100000
set_option maxHeartbeats 2000000
set_option exponentiation.threshold 5000
namespace DL.K07
open PySem L2 PyProof.Rows
/-! ### what undoes -/
theorem two_le : (2 : Nat) ≤ 100000 := by decide
theorem len_rest_undone : ∀ as Q E, sp_rest_undone as Q E → as.length = 2 := by rintro as Q E ⟨a, m, rfl, _⟩; rfl
theorem bez_bound {u v : Int} {h t o m : Nat} (ho : o * t ≤ h) (h3 : u.natAbs * t + v.natAbs * h ≤ m) : v.natAbs * (h - o * t) + (u - o * v).natAbs * t ≤ m := by
  have h1 : (u - o * v).natAbs ≤ u.natAbs + o * v.natAbs := by
    have := Int.natAbs_sub_le u (o * v)
    rw [Int.natAbs_mul, Int.natAbs_natCast] at this
    exact this
  have h2 : (u - o * v).natAbs * t ≤ (u.natAbs + o * v.natAbs) * t := Nat.mul_le_mul_right t h1
  have h4 : (u.natAbs + o * v.natAbs) * t = u.natAbs * t + v.natAbs * (o * t) := by rw [Nat.add_mul]; congr 1; ac_rfl
  have h5 : v.natAbs * (h - o * t) = v.natAbs * h - v.natAbs * (o * t) := Nat.mul_sub _ _ _
  have h6 : v.natAbs * (o * t) ≤ v.natAbs * h := Nat.mul_le_mul_left _ ho
  omega
theorem law_rest_undone : ∀ as Q E, sp_rest_undone as Q E → t_rest_undone E { nx := fun _ => Q .none, rt := Q } (startD ["number", "m", "here", "one", "there", "other", "often"] as) := by
  rintro as Q E ⟨a, m, rfl, hm1, hm2, qn, qx⟩
  show t_rest_undone E _ [.dat (.int a), .dat (.int m), .emp, .emp, .emp, .emp, .emp]
  have hm0 : (0 : Int) < m := by omega
  conv => whnf
  refine ⟨two_le, ?_⟩
  conv => whnf
  refine ⟨hm0, two_le, ?_⟩
  conv => whnf
  refine ⟨two_le, rfl, ?_⟩
  conv => whnf
  refine ⟨rfl, ?_⟩
  conv => whnf
  refine ⟨rfl, ?_⟩
  conv => whnf
  obtain ⟨t0, ht0⟩ := Int.eq_ofNat_of_zero_le (Int.emod_nonneg a (show (m : Int) ≠ 0 by omega))
  have ht1 : t0 < m := by have := Int.emod_lt_of_pos a hm0; omega
  refine dWh_inv (fun t δ => ∃ (h : Nat) (u v : Int) (s : SV), δ = [.dat (.int a), .dat (.int m), .dat (.int h), .dat (.int u), .dat (.int t), .dat (.int v), s] ∧ (1 ≤ h ∧ h ≤ m ∧ t ≤ m) ∧ (m : Int) ∣ h - u * a ∧ (m : Int) ∣ t - v * a ∧ Nat.gcd h t = Int.gcd a m ∧ u.natAbs * t + v.natAbs * h ≤ m)
    t0 ⟨m, 0, 1, .emp, by rw [ht0], ⟨hm1, Nat.le_refl _, by omega⟩, by simp, ?_, ?_, by simp⟩ fun t δ P ⟨h, u, v, s, e, ⟨g1, g2, g3⟩, i1, i2, i3, i4⟩ kk => ?_
  · have ht2 : a % (m : Int) = (t0 : Int) := ht0
    have e0 : (t0 : Int) - 1 * a = (m : Int) * (-(a / m)) := by
      rw [Int.one_mul, Int.mul_neg]
      have := Int.emod_add_mul_ediv a m
      omega
    exact ⟨_, e0⟩
  · have e1 : Int.gcd a m = Int.gcd m (a % m) := by
      rw [Int.gcd_comm a m]
      have := Int.gcd_add_mul_left_right (m : Int) (a % m) (a / m)
      rw [Int.emod_add_mul_ediv] at this
      exact this
    rw [e1, ht0]
    rfl
  subst e
  conv => whnf
  refine ⟨fun hh => ?_, fun hh => ?_⟩
  · have ht : 0 < t := by have := of_decide_eq_true hh; omega
    have hv : v.natAbs ≤ m := by
      have : v.natAbs ≤ v.natAbs * h := Nat.le_mul_of_pos_right _ g1
      omega
    have hoq : h / t ≤ h := Nat.div_le_self _ _
    have eo : ((h : Int) / (t : Int)) = ((h / t : Nat) : Int) := rfl
    conv => whnf
    refine ⟨⟨by omega, Nat.lt_trans (log2_lt (n := 4000) (by rw [Int.natAbs_natCast]; omega) (by decide)) (by decide)⟩, ?_⟩
    rw [eo]
    conv => whnf
    refine ⟨two_le, ?_⟩
    conv => whnf
    refine ⟨mul_bits (a := 4000) (b := 4000) (by rw [Int.natAbs_natCast]; omega) (by rw [Int.natAbs_natCast]; omega) (by decide), mul_bits (a := 4000) (b := 4000) (by rw [Int.natAbs_natCast]; omega) (by omega) (by decide), two_le, ?_⟩
    conv => whnf
    refine ⟨two_le, rfl, ?_⟩
    conv => whnf
    refine ⟨rfl, ?_⟩
    conv => whnf
    refine ⟨rfl, ?_⟩
    conv => whnf
    have hot : h / t * t ≤ h := Nat.div_mul_le_self h t
    have et : h - h / t * t = h % t := by
      have := Nat.div_add_mod h t
      rw [Nat.mul_comm t] at this
      omega
    refine kk (h % t) (Nat.mod_lt _ ht) _ ⟨t, v, u - ((h / t : Nat) : Int) * v, .dat (.int ((h / t : Nat) : Int)), ?_, ⟨ht, g3, by have := Nat.mod_lt h ht; omega⟩, i2, ?_, ?_, ?_⟩
    · have : ((h : Int) - ((h / t : Nat) : Int) * (t : Int)) = ((h % t : Nat) : Int) := by
        rw [← et, Int.natCast_sub hot, Int.natCast_mul]
      rw [this]
    · have : ((h % t : Nat) : Int) = (h : Int) - ((h / t : Nat) : Int) * (t : Int) := by
        rw [← et, Int.natCast_sub hot, Int.natCast_mul]
      rw [this]
      have e2 : (h : Int) - ((h / t : Nat) : Int) * (t : Int) - (u - ((h / t : Nat) : Int) * v) * a = (h - u * a) - ((h / t : Nat) : Int) * (t - v * a) := by
        rw [Int.sub_mul, Int.mul_sub, Int.mul_assoc]
        omega
      rw [e2]
      exact Int.dvd_sub i1 (Int.dvd_mul_of_dvd_right i2)
    · rw [gcd_step, i3]
    · rw [← et]
      exact bez_bound hot i4
  · have ht : t = 0 := by have := of_decide_eq_false hh; omega
    subst ht
    rw [Nat.gcd_zero_right] at i3
    conv => whnf
    refine ⟨⟨rfl, rfl⟩, ?_⟩
    conv => whnf
    refine ⟨fun h1 => ?_, fun h1 => ?_⟩
    · have h1 := eqI_t h1
      conv => whnf
      refine ⟨hm0, ?_⟩
      refine qx _ (Int.emod_nonneg _ (by omega)) (Int.emod_lt_of_pos _ hm0) ?_
      rw [h1] at i1
      have e3 : (u % (m : Int)) * a - 1 = -((1 : Int) - u * a) + -((u / m) * a) * m := by
        have := Int.emod_def u m
        rw [this, Int.sub_mul, Int.neg_mul]
        have : (m : Int) * (u / m) * a = u / m * a * m := by ac_rfl
        omega
      rw [e3]
      exact Int.dvd_add (Int.dvd_neg.mpr i1) (Int.dvd_mul_left _ _)
    · have h1 := eqI_f h1
      refine qn ?_
      rw [← i3]
      omega
end DL.K07
set_option Elab.async false
set_option linter.all false
set_option maxRecDepth 100000
set_option maxHeartbeats 2000000
set_option exponentiation.threshold 5000
namespace DL.K07
open PySem L2 PyProof.Rows
/-! ### rests joined -/
theorem lcm_eq (m k : Nat) (hm : 1 ≤ m) : m / Nat.gcd m k * k = Nat.lcm m k := by
  unfold Nat.lcm
  rw [Nat.mul_comm, ← Nat.mul_div_assoc _ (Nat.gcd_dvd_left m k), Nat.mul_comm]
theorem gcd_quot {m k : Nat} (hm : 1 ≤ m) : Nat.gcd (m / Nat.gcd m k) (k / Nat.gcd m k) = 1 := by
  have hg : 0 < Nat.gcd m k := Nat.gcd_pos_of_pos_left _ hm
  rw [Nat.gcd_div (Nat.gcd_dvd_left m k) (Nat.gcd_dvd_right m k), Nat.div_self hg]
/-- joined by the undoing number x -/
theorem join_ok {m k : Nat} {r s x : Int} (hm : 1 ≤ m) (hk : 1 ≤ k) (hg : ((Nat.gcd m k : Nat) : Int) ∣ s - r) (hx : ((k / Nat.gcd m k : Nat) : Int) ∣ x * (m / Nat.gcd m k : Nat) - 1) :
    let y := (s - r) / ((Nat.gcd m k : Nat) : Int) * x % ((k / Nat.gcd m k : Nat) : Int)
    (m : Int) ∣ (r + m * y) % (Nat.lcm m k : Nat) - r ∧ (k : Int) ∣ (r + m * y) % (Nat.lcm m k : Nat) - s := by
  intro y
  obtain ⟨g, eg⟩ : ∃ g, g = Nat.gcd m k := ⟨_, rfl⟩
  have hgp : 0 < g := by rw [eg]; exact Nat.gcd_pos_of_pos_left _ hm
  obtain ⟨a, ea⟩ : ∃ a, m = g * a := by rw [eg]; exact Nat.gcd_dvd_left m k
  obtain ⟨b, eb⟩ : ∃ b, k = g * b := by rw [eg]; exact Nat.gcd_dvd_right m k
  have qa : m / Nat.gcd m k = a := by rw [← eg, ea, Nat.mul_div_cancel_left _ hgp]
  have qb : k / Nat.gcd m k = b := by rw [← eg, eb, Nat.mul_div_cancel_left _ hgp]
  obtain ⟨d, ed⟩ := hg
  rw [← eg] at ed
  have qd : (s - r) / ((Nat.gcd m k : Nat) : Int) = d := by
    rw [← eg, ed]
    exact Int.mul_ediv_cancel_left _ (by omega)
  have ey : y = d * x % (b : Int) := by
    show (s - r) / ((Nat.gcd m k : Nat) : Int) * x % ((k / Nat.gcd m k : Nat) : Int) = _
    rw [qd, qb]
  rw [qa, qb] at hx
  have dm : (m : Int) ∣ ((Nat.lcm m k : Nat) : Int) := Int.ofNat_dvd.mpr (Nat.dvd_lcm_left m k)
  have dk : (k : Int) ∣ ((Nat.lcm m k : Nat) : Int) := Int.ofNat_dvd.mpr (Nat.dvd_lcm_right m k)
  have hmod : ∀ z : Int, z % ((Nat.lcm m k : Nat) : Int) = z - ((Nat.lcm m k : Nat) : Int) * (z / ((Nat.lcm m k : Nat) : Int)) := fun z => Int.emod_def z _
  constructor
  · rw [hmod]
    have e : r + (m : Int) * y - ((Nat.lcm m k : Nat) : Int) * ((r + (m : Int) * y) / ((Nat.lcm m k : Nat) : Int)) - r = (m : Int) * y - ((Nat.lcm m k : Nat) : Int) * ((r + (m : Int) * y) / ((Nat.lcm m k : Nat) : Int)) := by omega
    rw [e]
    exact Int.dvd_sub (Int.dvd_mul_right _ _) (Int.dvd_mul_of_dvd_left dm)
  · rw [hmod]
    have key : (k : Int) ∣ (m : Int) * y - (s - r) := by
      rw [ed, ea, eb]
      have e1 : ((g * a : Nat) : Int) * y - (g : Int) * d = (g : Int) * ((a : Int) * y - d) := by
        rw [Int.natCast_mul, Int.mul_sub]
        congr 1
        ac_rfl
      rw [e1, Int.natCast_mul]
      refine Int.mul_dvd_mul_left _ ?_
      -- b divides a y - d
      have e2 : (a : Int) * y - d = d * (x * a - 1) - (b : Int) * (a * (d * x / b)) := by
        rw [ey, Int.emod_def, Int.mul_sub, Int.mul_sub, Int.mul_one]
        have z1 : (a : Int) * (d * x) = d * (x * a) := by ac_rfl
        have z2 : (a : Int) * ((b : Int) * (d * x / b)) = (b : Int) * (a * (d * x / b)) := by ac_rfl
        omega
      rw [e2]
      exact Int.dvd_sub (Int.dvd_mul_of_dvd_right hx) (Int.dvd_mul_right _ _)
    have e : r + (m : Int) * y - ((Nat.lcm m k : Nat) : Int) * ((r + (m : Int) * y) / ((Nat.lcm m k : Nat) : Int)) - s = ((m : Int) * y - (s - r)) - ((Nat.lcm m k : Nat) : Int) * ((r + (m : Int) * y) / ((Nat.lcm m k : Nat) : Int)) := by omega
    rw [e]
    exact Int.dvd_sub key (Int.dvd_mul_of_dvd_left dk)
theorem len_rests_joined : ∀ as Q E, sp_rests_joined as Q E → as.length = 2 := by rintro as Q E ⟨r, s, m, k, rfl, _⟩; rfl
theorem lt_up {a : Nat} {i j : Nat} (h : a < 2 ^ i) (hij : i ≤ j) : a < 2 ^ j := Nat.lt_of_lt_of_le h (Nat.pow_le_pow_right (by decide) hij)
theorem law_rests_joined : ∀ as Q E, sp_rests_joined as Q E → t_rests_joined E { nx := fun _ => Q .none, rt := Q } (startD ["one", "other", "first", "m", "late", "more", "part", "whole", "step"] as) := by
  rintro as Q E ⟨r, s, m, k, rfl, ⟨hm, hk, hm2, hk2, hr2, hs2⟩, qn, qx⟩
  show t_rests_joined E _ [.dat (.tuple [.int r, .int m]), .dat (.tuple [.int s, .int k]), .emp, .emp, .emp, .emp, .emp, .emp, .emp]
  have hg : 0 < Nat.gcd m k := Nat.gcd_pos_of_pos_left _ hm
  have hgm : Nat.gcd m k ≤ m := Nat.gcd_le_left _ hm
  have hgI : (Int.gcd (m : Int) (k : Int)) = Nat.gcd m k := Int.gcd_natCast_natCast m k
  have hqm : m / Nat.gcd m k ≤ m := Nat.div_le_self _ _
  have hqk : k / Nat.gcd m k ≤ k := Nat.div_le_self _ _
  have hk0 : 0 < k / Nat.gcd m k := Nat.div_pos (Nat.gcd_le_right _ hk) hg
  have hl0 : 0 < Nat.lcm m k := Nat.lcm_pos hm hk
  have glog : ((Nat.gcd m k : Nat) : Int).natAbs.log2 < 9000 := by
    rw [Int.natAbs_natCast]
    exact Nat.lt_trans (log2_lt (n := 1000) (by omega) (by decide)) (by decide)
  conv => whnf
  refine ⟨two_le, rfl, ?_⟩
  conv => whnf
  refine ⟨rfl, ?_⟩
  conv => whnf
  refine ⟨rfl, ?_⟩
  conv => whnf
  refine ⟨m, k, rfl, ?_⟩
  rw [hgI]
  conv => whnf
  refine ⟨by omega, ⟨rfl, rfl⟩, ?_⟩
  conv => whnf
  refine ⟨fun h => ?_, fun h => ?_⟩
  · refine qn fun hd => ?_
    have : PyData.eqv (.int ((s - r) % ((Nat.gcd m k : Nat) : Int))) (.int 0) = false := by simpa using h
    exact eqI_f this (Int.emod_eq_zero_of_dvd hd)
  have hd : ((Nat.gcd m k : Nat) : Int) ∣ s - r := by
    have : PyData.eqv (.int ((s - r) % ((Nat.gcd m k : Nat) : Int))) (.int 0) = true := by simpa using h
    exact Int.dvd_of_emod_eq_zero (eqI_t this)
  conv => whnf
  refine ⟨m, k, rfl, hm, hk, lt_up hm2 (by decide), lt_up hk2 (by decide), ?_⟩
  rw [lcm_eq m k hm]
  conv => whnf
  refine ⟨⟨by omega, glog⟩, ?_⟩
  conv => whnf
  refine ⟨⟨by omega, glog⟩, ?_⟩
  conv => whnf
  have em : ((m : Int) / ((Nat.gcd m k : Nat) : Int)) = ((m / Nat.gcd m k : Nat) : Int) := rfl
  have ek : ((k : Int) / ((Nat.gcd m k : Nat) : Int)) = ((k / Nat.gcd m k : Nat) : Int) := rfl
  rw [em, ek]
  refine ⟨(m / Nat.gcd m k : Nat), k / Nat.gcd m k, rfl, hk0, lt_up (Nat.lt_of_le_of_lt hqk hk2) (by decide), fun hne => ?_, fun x x0 x1 hx => ?_⟩
  · exact absurd ((Int.gcd_natCast_natCast _ _).trans (gcd_quot hm)) hne
  have J := join_ok (r := r) (s := s) hm hk hd hx
  simp only at J
  obtain ⟨y, ey⟩ : ∃ y, y = (s - r) / ((Nat.gcd m k : Nat) : Int) * x % ((k / Nat.gcd m k : Nat) : Int) := ⟨_, rfl⟩
  have y0 : 0 ≤ y := by rw [ey]; exact Int.emod_nonneg _ (by omega)
  have y1 : y < ((k / Nat.gcd m k : Nat) : Int) := by rw [ey]; exact Int.emod_lt_of_pos _ (by omega)
  have bD : ((s - r) / ((Nat.gcd m k : Nat) : Int)).natAbs < 2 ^ 1001 := by
    have h1 : ((s - r) / ((Nat.gcd m k : Nat) : Int)).natAbs ≤ (s - r).natAbs := Int.natAbs_ediv_le_natAbs _ _
    have h2 : (s - r).natAbs ≤ s.natAbs + r.natAbs := Int.natAbs_sub_le s r
    have h3 : 2 ^ 1001 = 2 ^ 1000 + 2 ^ 1000 := by rw [Nat.pow_succ]
    omega
  conv => whnf
  refine ⟨⟨by omega, glog⟩, ?_⟩
  conv => whnf
  refine ⟨mul_bits (a := 1001) (b := 1000) bD (by omega) (by decide), ⟨by omega, glog⟩, ?_⟩
  conv => whnf
  rw [ek, ← ey]
  refine ⟨by omega, mul_bits (a := 1000) (b := 1000) (by rw [Int.natAbs_natCast]; exact hm2) (by omega) (by decide), by omega, two_le, ?_⟩
  rw [← ey] at J
  exact qx _ (Int.emod_nonneg _ (by omega)) (Int.emod_lt_of_pos _ (by omega)) J.1 J.2
end DL.K07
set_option Elab.async false
set_option linter.all false
set_option maxRecDepth 100000
set_option maxHeartbeats 2000000
set_option exponentiation.threshold 5000
namespace DL.K07
open PySem L2 PyProof.Rows
/-! ### rows of rests -/
theorem joined_nil : Joined [] 0 1 := ⟨by decide, by decide, fun n => ⟨fun _ => ⟨n, by omega⟩, fun _ p hp => by cases hp⟩⟩
theorem lcm_dvd_int {M k : Nat} {z : Int} (h1 : (M : Int) ∣ z) (h2 : (k : Int) ∣ z) : ((Nat.lcm M k : Nat) : Int) ∣ z := by
  have h1' := Int.ofNat_dvd_left.mp h1
  have h2' := Int.ofNat_dvd_left.mp h2
  exact Int.ofNat_dvd_left.mpr (Nat.lcm_dvd h1' h2')
theorem joined_step {pre : List (Int × Nat)} {x y : Int} {M k : Nat} {s : Int} (J : Joined pre x M) (y0 : 0 ≤ y) (y1 : y < (Nat.lcm M k : Nat)) (h1 : (M : Int) ∣ y - x) (h2 : (k : Int) ∣ y - s) : Joined (pre ++ [(s, k)]) y (Nat.lcm M k) := by
  refine ⟨y0, y1, fun n => ⟨fun h => ?_, fun h p hp => ?_⟩⟩
  · have a1 : (M : Int) ∣ n - x := (J.2.2 n).mp fun p hp => h p (List.mem_append_left _ hp)
    have a2 : (k : Int) ∣ n - s := h (s, k) (List.mem_append_right _ (List.mem_singleton.mpr rfl))
    refine lcm_dvd_int ?_ ?_
    · have : n - y = (n - x) - (y - x) := by omega
      rw [this]
      exact Int.dvd_sub a1 h1
    · have : n - y = (n - s) - (y - s) := by omega
      rw [this]
      exact Int.dvd_sub a2 h2
  · have dm : (M : Int) ∣ n - y := Int.dvd_trans (Int.ofNat_dvd.mpr (Nat.dvd_lcm_left M k)) h
    have dk : (k : Int) ∣ n - y := Int.dvd_trans (Int.ofNat_dvd.mpr (Nat.dvd_lcm_right M k)) h
    rcases List.mem_append.mp hp with hp | hp
    · refine (J.2.2 n).mpr ?_ p hp
      have : n - x = (n - y) + (y - x) := by omega
      rw [this]
      exact Int.dvd_add dm h1
    · rw [List.mem_singleton.mp hp]
      have : n - s = (n - y) + (y - s) := by omega
      show (k : Int) ∣ n - s
      rw [this]
      exact Int.dvd_add dk h2
theorem joined_none {pre : List (Int × Nat)} {x : Int} {M k : Nat} {s : Int} (J : Joined pre x M) (h : ¬ ((Nat.gcd M k : Nat) : Int) ∣ s - x) : ¬ ∃ n : Int, ∀ p ∈ pre ++ [(s, k)], (p.2 : Int) ∣ n - p.1 := fun ⟨n, hn⟩ => by
  have a1 : (M : Int) ∣ n - x := (J.2.2 n).mp fun p hp => hn p (List.mem_append_left _ hp)
  have a2 : (k : Int) ∣ n - s := hn (s, k) (List.mem_append_right _ (List.mem_singleton.mpr rfl))
  refine h ?_
  have : s - x = (n - x) - (n - s) := by omega
  rw [this]
  exact Int.dvd_sub (Int.dvd_trans (Int.ofNat_dvd.mpr (Nat.gcd_dvd_left M k)) a1) (Int.dvd_trans (Int.ofNat_dvd.mpr (Nat.gcd_dvd_right M k)) a2)
theorem joined_has {rs : List (Int × Nat)} {x : Int} {M : Nat} (J : Joined rs x M) : ∃ n : Int, ∀ p ∈ rs, (p.2 : Int) ∣ n - p.1 := ⟨x, (J.2.2 x).mpr ⟨0, by omega⟩⟩
/-- the joined pair is one -/
theorem joined_one {rs : List (Int × Nat)} {x y : Int} {M N : Nat} (J : Joined rs x M) (J' : Joined rs y N) : x = y ∧ M = N := by
  obtain ⟨x0, x1, hx⟩ := J
  obtain ⟨y0, y1, hy⟩ := J'
  have all : ∀ n : Int, (M : Int) ∣ n - x ↔ (N : Int) ∣ n - y := fun n => (hx n).symm.trans (hy n)
  have a1 : (N : Int) ∣ x - y := (all x).mp ⟨0, by omega⟩
  have a2 : (M : Int) ∣ y - x := (all y).mpr ⟨0, by omega⟩
  have b1 : (N : Int) ∣ (M : Int) := by
    have := (all (x + M)).mp ⟨1, by omega⟩
    have e : (M : Int) = (x + M - y) - (x - y) := by omega
    rw [e]
    exact Int.dvd_sub this a1
  have b2 : (M : Int) ∣ (N : Int) := by
    have := (all (y + N)).mpr ⟨1, by omega⟩
    have e : (N : Int) = (y + N - x) - (y - x) := by omega
    rw [e]
    exact Int.dvd_sub this a2
  have e : M = N := Nat.dvd_antisymm (Int.ofNat_dvd.mp b2) (Int.ofNat_dvd.mp b1)
  subst e
  refine ⟨?_, rfl⟩
  obtain ⟨c, hc⟩ := a1
  have hM : (0 : Int) < M := by omega
  have : c = 0 := by
    rcases Int.lt_trichotomy c 0 with h | h | h
    · have : (M : Int) * c ≤ (M : Int) * (-1) := Int.mul_le_mul_of_nonneg_left (by omega) (by omega)
      omega
    · exact h
    · have : (M : Int) * 1 ≤ (M : Int) * c := Int.mul_le_mul_of_nonneg_left (by omega) (by omega)
      omega
  subst this
  omega
theorem len_row_joined : ∀ as Q E, sp_row_joined as Q E → as.length = 1 := by
  rintro as Q E ⟨rs, h | h, _⟩ <;> subst h <;> rfl
theorem law_row_joined : ∀ as Q E, sp_row_joined as Q E → t_row_joined E { nx := fun _ => Q .none, rt := Q } (startD ["rests", "found", "one"] as) := by
  rintro as Q E ⟨rs, has, hl, hp, qn, qx⟩
  have loop : ∀ d0 : D, forWp (gSet 2) (dIfS (dTst (dOp opIsNot (dVar 1) (dC .none))) (dSet 1 (dCall sp_rests_joined (fun x _ => E x) (dCons (dVar 1) (dCons (dVar 2) dNil)))) dNext)
      { nx := dRet (dVar 1) { nx := fun _ => Q .none, rt := Q }, rt := Q } (rs.map resD) [.dat d0, .dat (resD (0, 1)), .emp] := by
    intro d0
    refine forWp_inv (fun items δ => ∃ pre post : List (Int × Nat), rs = pre ++ post ∧ items = post.map resD ∧ ∃ (f : D) (s : SV), δ = [.dat d0, .dat f, s] ∧
      ((f = .none ∧ ¬ ∃ n : Int, ∀ p ∈ pre, (p.2 : Int) ∣ n - p.1) ∨ ∃ x M, f = resD (x, M) ∧ Joined pre x M ∧ 1 ≤ M ∧ M ≤ 60 ^ pre.length)) ⟨[], rs, rfl, rfl, resD (0, 1), .emp, rfl, .inr ⟨0, 1, rfl, joined_nil, by decide, by decide⟩⟩ (fun d ds δ P ⟨pre, post, e1, e2, f, s, e3, h⟩ kk => ?_) fun δ ⟨pre, post, e1, e2, f, s, e3, h⟩ => ?_
    · subst e3
      match post, e2, e1 with
      | one :: post, e2, e1 =>
        obtain ⟨rfl, rfl⟩ := List.cons.inj e2
        obtain ⟨r, k⟩ := one
        have e4 : rs = (pre ++ [(r, k)]) ++ post := by rw [e1, List.append_assoc]; rfl
        have hmem : (r, k) ∈ rs := by rw [e1]; exact List.mem_append_right _ List.mem_cons_self
        obtain ⟨k1, k2, r1, r2⟩ := hp _ hmem
        simp only at k1 k2 r1 r2
        rcases h with ⟨rfl, hno⟩ | ⟨x, M, rfl, J, M1, M2⟩
        · conv => whnf
          refine ⟨fun z => (by cases z), fun _ => ?_⟩
          refine kk _ ⟨pre ++ [(r, k)], post, e4, rfl, .none, _, rfl, .inl ⟨rfl, fun ⟨n, hn⟩ => hno ⟨n, fun p hp => hn p (List.mem_append_left _ hp)⟩⟩⟩
        · conv => whnf
          refine ⟨fun _ => ?_, fun z => (by cases z)⟩
          conv => whnf
          have pl : pre.length < 20 := by
            have := congrArg List.length e1
            rw [List.length_append, List.length_cons] at this
            omega
          have Mb : M < 2 ^ 120 := by
            refine Nat.lt_of_le_of_lt M2 ?_
            refine Nat.lt_of_le_of_lt (Nat.pow_le_pow_left (show 60 ≤ 2 ^ 6 by decide) _) ?_
            rw [← Nat.pow_mul]
            exact Nat.pow_lt_pow_right (by decide) (by omega)
          have kb : k < 2 ^ 6 := by omega
          refine ⟨x, r, M, k, rfl, ⟨M1, k1, lt_up Mb (by decide), lt_up kb (by decide), ?_, ?_⟩, fun hd => ?_, fun y y0 y1 d1 d2 => ?_⟩
          · have := J.1
            have := J.2.1
            have := lt_up Mb (show 120 ≤ 1000 by decide)
            omega
          · have : r.natAbs < 2 ^ 6 := by omega
            exact lt_up this (by decide)
          · conv => whnf
            exact kk _ ⟨pre ++ [(r, k)], post, e4, rfl, .none, _, rfl, .inl ⟨rfl, joined_none J hd⟩⟩
          · conv => whnf
            refine kk _ ⟨pre ++ [(r, k)], post, e4, rfl, _, _, rfl, .inr ⟨y, Nat.lcm M k, rfl, joined_step J y0 y1 d1 d2, Nat.lcm_pos M1 k1, ?_⟩⟩
            rw [List.length_append]
            show _ ≤ 60 ^ (pre.length + 1)
            rw [Nat.pow_succ]
            refine Nat.le_trans (Nat.le_of_dvd (Nat.mul_pos M1 k1) (Nat.lcm_dvd (Nat.dvd_mul_right _ _) (Nat.dvd_mul_left _ _))) ?_
            exact Nat.mul_le_mul M2 k2
    · subst e3
      match post, e2 with
      | [], _ =>
        rw [List.append_nil] at e1
        subst e1
        rcases h with ⟨rfl, hno⟩ | ⟨x, M, rfl, J, _⟩
        · exact qn fun x M J => hno (joined_has J)
        · exact qx x M J
  rcases has with h | h <;> subst h
  · show t_row_joined E _ [.dat (.list (rs.map resD)), .emp, .emp]
    conv => whnf
    refine ⟨two_le, ?_⟩
    exact loop _
  · show t_row_joined E _ [.dat (.tuple (rs.map resD)), .emp, .emp]
    conv => whnf
    refine ⟨two_le, ?_⟩
    exact loop _
end DL.K07
set_option Elab.async false
set_option linter.all false
set_option maxRecDepth 100000
set_option maxHeartbeats 2000000
set_option exponentiation.threshold 5000
namespace DL.K07
open PySem L2 PyProof.Rows
/-! ### numbers over are right -/
theorem eqvI (i : Int) : PyData.eqv (.int i) (.int i) = true := by simp [PyData.eqv]
theorem eqvI' {i j : Int} (h : i = j) : PyData.eqv (.int i) (.int j) = true := by subst h; exact eqvI i
theorem not_ne {i j : Int} (h : i = j) : (!PyData.eqv (.int i) (.int j)) = true → False := by rw [eqvI' h]; decide
theorem ints2 {a b c d : Int} (h1 : a = c) (h2 : b = d) : [AV.dat (.int a), .dat (.int b)] = [AV.dat (.int c), .dat (.int d)] := by subst h1 h2; rfl
theorem ints3 {a b c d e f : Int} (h1 : a = c) (h2 : b = d) (h3 : e = f) : [AV.dat (.int a), .dat (.int b), .dat (.int e)] = [AV.dat (.int c), .dat (.int d), .dat (.int f)] := by subst h1 h2 h3; rfl
theorem eqvI_f {i j : Int} (h : i = j) : PyData.eqv (.int i) (.int j) = false → False := by rw [eqvI' h]; decide
theorem binom_bits {n k A : Nat} (h : n + 1 ≤ 2 ^ A) (hk : k ≤ 40) : (binom n k : Int).natAbs < 2 ^ (A * 40 + 1) := by
  rw [Int.natAbs_natCast]
  refine Nat.lt_of_le_of_lt (binom_le n k) (Nat.lt_of_le_of_lt (Nat.pow_le_pow_left h k) ?_)
  rw [← Nat.pow_mul]
  have : A * k ≤ A * 40 := Nat.mul_le_mul_left A hk
  exact Nat.pow_lt_pow_right (by decide) (by omega)
theorem len__law_over_right : ∀ (a : Addr) as Q E, sp__law_over_right a as Q E → as.length = 1 := by rintro a as Q E ⟨rfl, _⟩; rfl
theorem law__law_over_right : ∀ (a : Addr) as Q E, sp__law_over_right a as Q E → t__law_over_right a E { nx := fun _ => Q .none, rt := Q } (startD ["source", "n", "k", "m", "due", "j", "small"] as) := by
  rintro sa as Q E ⟨rfl, q⟩
  show t__law_over_right sa E _ [.raw (.ref sa), .emp, .emp, .emp, .emp, .emp, .emp]
  conv => whnf
  refine ⟨rfl, fun n hn => ?_⟩
  conv => whnf
  refine ⟨by show 6 ≤ 100000; decide, ?_⟩
  conv => whnf
  refine ⟨_, rfl, by decide, by decide, fun d hd => ?_⟩
  obtain ⟨k, hk, rfl⟩ : ∃ k : Nat, k ≤ 40 ∧ d = .int k := by
    simp only [List.mem_cons, List.not_mem_nil, or_false] at hd
    rcases hd with h | h | h | h | h | h <;> subst h
    · exact ⟨0, by decide, rfl⟩
    · exact ⟨1, by decide, rfl⟩
    · exact ⟨2, by decide, rfl⟩
    · exact ⟨3, by decide, rfl⟩
    · exact ⟨7, by decide, rfl⟩
    · exact ⟨40, by decide, rfl⟩
  conv => whnf
  refine ⟨rfl, fun m m1 m2 => ?_⟩
  conv => whnf
  have hn2 : n < 2 ^ 2000 := lt_up hn (by decide)
  refine ⟨n, k, rfl, hn2, by omega, ?_⟩
  conv => whnf
  refine ⟨n, k, rfl, hn2, by omega, ?_⟩
  conv => whnf
  refine ⟨⟨rfl, rfl⟩, ?_⟩
  conv => whnf
  refine ⟨fun h => (not_ne rfl h).elim, fun _ => ?_⟩
  conv => whnf
  refine ⟨n, k, m, rfl, hn2, by omega, m1, ?_⟩
  conv => whnf
  refine ⟨by omega, ?_⟩
  conv => whnf
  refine ⟨⟨rfl, rfl⟩, ?_⟩
  conv => whnf
  refine ⟨fun h => (not_ne rfl h).elim, fun _ => ?_⟩
  conv => whnf
  have hn1 : n + 1 < 2 ^ 2000 := by
    have := Nat.pow_lt_pow_right (show 1 < 2 by decide) (show 1000 < 2000 by decide)
    omega
  refine ⟨n + 1, k + 1, rfl, hn1, by omega, ?_⟩
  conv => whnf
  refine ⟨n, k + 1, rfl, hn2, by omega, ?_⟩
  conv => whnf
  refine ⟨⟨rfl, rfl⟩, ?_⟩
  conv => whnf
  refine ⟨fun h => (not_ne (by show ((binom n k + binom n (k + 1) : Nat) : Int) = _; exact Int.natCast_add _ _) h).elim, fun _ => ?_⟩
  conv => whnf
  refine ⟨(k : Int) + 1, rfl, ?_, fun j j0 j1 => ?_⟩
  · exact Nat.lt_trans (log2_lt (n := 6) (by omega) (by decide)) (by decide)
  obtain ⟨j, rfl⟩ := Int.eq_ofNat_of_zero_le j0
  rw [Int.max_eq_right (by omega)] at j1
  have hjk : j ≤ k := by omega
  conv => whnf
  have fin : ∀ δ : DSt, δ = [.raw (.ref sa), .dat (.int n), .dat (.int k), .dat (.int m), .dat (.int (binom n k)), .dat (.int j), .emp] → (dSeq (dSet 6 (dCall (sp__law_pick sa) (fun x _ => E x) (dCons (dVar 0) (dCons (dC (.int 9)) dNil)))) (dRet (dAndV (dOp opEq (dCall sp_number_over (fun x _ => E x) (dCons (dVar 6) (dCons (dOp opAdd (dOp opAdd (dVar 6) (dC (.int 1))) (dCall (sp__law_pick sa) (fun x _ => E x) (dCons (dVar 0) (dCons (dC (.int 5)) dNil)))) dNil))) (dC (.int 0))) (dOp opEq (dCall sp_number_over (fun x _ => E x) (dCons (dVar 6) (dCons (dVar 6) dNil))) (dC (.int 1)))))) { nx := fun _ => Q .none, rt := Q } δ := by
    rintro δ rfl
    conv => whnf
    refine ⟨9, rfl, by decide, fun s s0 s1 => ?_⟩
    obtain ⟨s, rfl⟩ := Int.eq_ofNat_of_zero_le s0
    rw [Int.max_eq_right (by decide)] at s1
    conv => whnf
    refine ⟨5, rfl, by decide, fun u u0 u1 => ?_⟩
    obtain ⟨u, rfl⟩ := Int.eq_ofNat_of_zero_le u0
    rw [Int.max_eq_right (by decide)] at u1
    conv => whnf
    have p9 : 2 ^ 4 < 2 ^ 2000 := Nat.pow_lt_pow_right (by decide) (by decide)
    refine ⟨s, s + 1 + u, ?_, by omega, by omega, ?_⟩
    · rfl
    conv => whnf
    rw [binom_gt (n := s) (k := s + 1 + u) (by omega)]
    refine ⟨⟨rfl, rfl⟩, ?_⟩
    conv => whnf
    refine ⟨fun _ => ?_, fun h => (eqvI_f rfl h).elim⟩
    conv => whnf
    refine ⟨s, s, rfl, by omega, by omega, ?_⟩
    conv => whnf
    refine ⟨⟨rfl, rfl⟩, ?_⟩
    conv => whnf
    rw [binom_self, eqvI' (show ((1 : Nat) : Int) = 1 by rfl)]
    exact q
  refine ⟨fun h => ?_, fun h => ⟨fun z => (by cases z), fun _ => fin _ rfl⟩⟩
  have hkn : k ≤ n := by have := of_decide_eq_true h; omega
  conv => whnf
  have hk2 : k < 2 ^ 2000 := by
    have p9 : 2 ^ 6 < 2 ^ 2000 := Nat.pow_lt_pow_right (by decide) (by decide)
    omega
  refine ⟨k, j, rfl, hk2, by omega, ?_⟩
  conv => whnf
  have bn : n + 1 ≤ 2 ^ 1000 := hn
  have bk : k + 1 ≤ 2 ^ 1000 := Nat.le_trans (show k + 1 ≤ 2 ^ 6 by omega) (Nat.pow_le_pow_right (by decide) (by decide))
  have bd : n - j + 1 ≤ 2 ^ 1000 := by omega
  refine ⟨mul_bits (binom_bits bn hk) (binom_bits bk (by omega)) (by decide), ?_⟩
  conv => whnf
  refine ⟨n, j, rfl, hn2, by omega, ?_⟩
  conv => whnf
  refine ⟨n - j, k - j, ints2 (by omega) (by omega), by omega, by omega, ?_⟩
  conv => whnf
  refine ⟨mul_bits (binom_bits bn (by omega)) (binom_bits bd (by omega)) (by decide), ?_⟩
  conv => whnf
  refine ⟨⟨rfl, rfl⟩, ?_⟩
  conv => whnf
  refine ⟨fun h => (not_ne ?_ h).elim, fun _ => fin _ rfl⟩
  have := binom_tri n j (k - j)
  rw [show j + (k - j) = k by omega] at this
  exact_mod_cast this
end DL.K07
set_option Elab.async false
set_option linter.all false
set_option maxRecDepth 100000
set_option maxHeartbeats 2000000
set_option exponentiation.threshold 5000
namespace DL.K07
open PySem L2 PyProof.Rows
/-! ### powers are right -/
theorem len__law_powers_right : ∀ (a : Addr) as Q E, sp__law_powers_right a as Q E → as.length = 1 := by rintro a as Q E ⟨rfl, _⟩; rfl
theorem pow_bits {b : Int} {n A : Nat} (h : b.natAbs < 2 ^ A) (hn : n ≤ 40) : (b.natAbs + 1) ^ n < 2 ^ (A * 40 + 1) := by
  refine Nat.lt_of_le_of_lt (Nat.pow_le_pow_left (show b.natAbs + 1 ≤ 2 ^ A by omega) n) ?_
  rw [← Nat.pow_mul]
  have : A * n ≤ A * 40 := Nat.mul_le_mul_left A hn
  exact Nat.pow_lt_pow_right (by decide) (by omega)
theorem pow_bits' {b : Int} {n A : Nat} (h : b.natAbs < 2 ^ A) (hn : n ≤ 40) : (b ^ n).natAbs < 2 ^ (A * 40 + 1) := by
  rw [Int.natAbs_pow]
  exact Nat.lt_of_le_of_lt (Nat.pow_le_pow_left (by omega) n) (pow_bits h hn)
theorem rest_bits {x : Int} {m A : Nat} (h1 : 1 ≤ m) (h : m ≤ 2 ^ A) : (x % (m : Int)).natAbs < 2 ^ A := by
  have := Int.emod_nonneg x (show (m : Int) ≠ 0 by omega)
  have := Int.emod_lt_of_pos x (show (0 : Int) < m by omega)
  omega
theorem rest_split (b : Int) (o w m : Nat) : b ^ (o + w) % (m : Int) = ((b ^ o % (m : Int)) * (b ^ w % (m : Int))) % (m : Int) := by
  rw [Int.pow_add, Int.mul_emod]
theorem sign_pow : ∀ n : Nat, (-1 : Int) ^ n = if (n : Int) % 2 = 0 then 1 else -1
  | 0 => rfl
  | n + 1 => by
    rw [Int.pow_succ, sign_pow n]
    split <;> split <;> omega
theorem law__law_powers_right : ∀ (a : Addr) as Q E, sp__law_powers_right a as Q E → t__law_powers_right a E { nx := fun _ => Q .none, rt := Q } (startD ["source", "base", "m", "few", "often", "more", "due", "lap", "both", "side"] as) := by
  rintro sa as Q E ⟨rfl, q⟩
  show t__law_powers_right sa E _ [.raw (.ref sa), .emp, .emp, .emp, .emp, .emp, .emp, .emp, .emp, .emp]
  conv => whnf
  refine ⟨by show 3 ≤ 100000; decide, ?_⟩
  conv => whnf
  refine ⟨_, rfl, by decide, by decide, fun d hd => ?_⟩
  obtain ⟨sg, hs, rfl⟩ : ∃ sg : Int, (sg = 1 ∨ sg = -1) ∧ d = .int sg := by
    simp only [List.mem_cons, List.not_mem_nil, or_false] at hd
    rcases hd with h | h | h <;> subst h
    · exact ⟨-1, .inr rfl, rfl⟩
    · exact ⟨1, .inl rfl, rfl⟩
    · exact ⟨1, .inl rfl, rfl⟩
  conv => whnf
  refine ⟨rfl, fun f hf => ?_⟩
  conv => whnf
  refine ⟨mul_l (by omega) (by omega), ?_⟩
  obtain ⟨b, hb⟩ : ∃ b, b = sg * (f : Int) := ⟨_, rfl⟩
  have bb : b.natAbs < 2 ^ 1000 := by
    rw [hb]
    rcases hs with h | h <;> subst h <;> omega
  rw [← hb]
  conv => whnf
  refine ⟨rfl, fun m m1 m2 => ?_⟩
  have hm0 : (0 : Int) < m := by omega
  have hm4 : m < 2 ^ 4000 := Nat.lt_of_le_of_lt m2 (Nat.pow_lt_pow_right (by decide) (by decide))
  conv => whnf
  refine ⟨40, rfl, by decide, fun w w0 w1 => ?_⟩
  obtain ⟨w, rfl⟩ := Int.eq_ofNat_of_zero_le w0
  rw [Int.max_eq_right (by decide)] at w1
  conv => whnf
  refine ⟨rfl, fun o ho => ?_⟩
  conv => whnf
  refine ⟨rfl, fun v hv => ?_⟩
  conv => whnf
  refine ⟨by omega, by omega, ?_⟩
  show forWp _ _ _ (rngD 0 1 w) _
  refine forRng_inv (fun j δ => ∃ s : SV, δ = [.raw (.ref sa), .dat (.int b), .dat (.int m), .dat (.int w), .dat (.int o), .dat (.int v), .dat (.int (b ^ j)), s, .emp, .emp]) ⟨.emp, by rw [Int.pow_zero]⟩ (fun j δ P hj ⟨s, e⟩ kk => ?_) fun δ ⟨s, e⟩ => ?_
  · subst e
    conv => whnf
    refine ⟨mul_bits (pow_bits' bb (by omega)) bb (by decide), ?_⟩
    conv => whnf
    refine kk _ ⟨.dat (.int (0 + (j : Int))), ?_⟩
    rw [Int.pow_succ]
  subst e
  conv => whnf
  refine ⟨b, w, rfl, ⟨_, pow_bits bb (by omega), by decide⟩, ?_⟩
  conv => whnf
  refine ⟨⟨rfl, rfl⟩, ?_⟩
  conv => whnf
  refine ⟨fun h => (not_ne rfl h).elim, fun _ => ?_⟩
  conv => whnf
  refine ⟨b, w, m, rfl, m1, hm4, ?_⟩
  conv => whnf
  refine ⟨hm0, ?_⟩
  conv => whnf
  refine ⟨⟨rfl, rfl⟩, ?_⟩
  conv => whnf
  refine ⟨fun h => (not_ne rfl h).elim, fun _ => ?_⟩
  conv => whnf
  refine ⟨b, o, m, rfl, m1, hm4, ?_⟩
  conv => whnf
  refine ⟨b, v, m, rfl, m1, hm4, ?_⟩
  conv => whnf
  refine ⟨mul_bits (rest_bits m1 m2) (rest_bits m1 m2) (by decide), ?_⟩
  conv => whnf
  refine ⟨b, o + v, m, ints3 rfl (by omega) rfl, m1, hm4, ?_⟩
  conv => whnf
  refine ⟨hm0, ?_⟩
  conv => whnf
  refine ⟨⟨rfl, rfl⟩, ?_⟩
  conv => whnf
  refine ⟨fun h => (not_ne (rest_split b o v m) h).elim, fun _ => ?_⟩
  conv => whnf
  refine ⟨hm0, ?_⟩
  conv => whnf
  refine ⟨b % (m : Int), o, m, rfl, m1, hm4, ?_⟩
  conv => whnf
  refine ⟨b, o, m, rfl, m1, hm4, ?_⟩
  conv => whnf
  refine ⟨⟨rfl, rfl⟩, ?_⟩
  conv => whnf
  refine ⟨fun h => (not_ne (emod_pow b m o) h).elim, fun _ => ?_⟩
  conv => whnf
  refine ⟨b, o, 1, rfl, by decide, Nat.lt_of_le_of_lt m1 hm4, ?_⟩
  conv => whnf
  refine ⟨⟨rfl, rfl⟩, ?_⟩
  conv => whnf
  refine ⟨fun h => (not_ne (Int.emod_one _) h).elim, fun _ => ?_⟩
  conv => whnf
  refine ⟨0, 0, m, rfl, m1, hm4, ?_⟩
  conv => whnf
  refine ⟨hm0, ?_⟩
  conv => whnf
  refine ⟨⟨rfl, rfl⟩, ?_⟩
  conv => whnf
  refine ⟨fun h => (not_ne rfl h).elim, fun _ => ?_⟩
  conv => whnf
  refine ⟨0, 0, rfl, ⟨2, by decide, by decide⟩, ?_⟩
  conv => whnf
  refine ⟨⟨rfl, rfl⟩, ?_⟩
  conv => whnf
  refine ⟨fun h => (not_ne rfl h).elim, fun _ => ?_⟩
  conv => whnf
  refine ⟨by decide, ?_⟩
  conv => whnf
  refine ⟨⟨rfl, rfl⟩, ?_⟩
  conv => whnf
  have last : ∀ sd : Int, sd = (-1) ^ o → dRet (dAndV (dOp opEq (dCall sp_power_of (fun x _ => E x) (dCons (dC (.int 0)) (dCons (dOp opAdd (dC (.int 1)) (dVar 3)) dNil))) (dC (.int 0))) (dOp opEq (dCall sp_power_rest (fun x _ => E x) (dCons (dUn opNeg (dC (.int 1))) (dCons (dVar 4) (dCons (dVar 2) dNil)))) (dOp opMod (dB fInt (dCons (dVar 9) dNil)) (dVar 2))))
      { nx := fun _ => Q .none, rt := Q } [.raw (.ref sa), .dat (.int b), .dat (.int m), .dat (.int w), .dat (.int o), .dat (.int v), .dat (.int (b ^ w)), s, .dat (.int ((b ^ o % (m : Int)) * (b ^ v % (m : Int)))), .dat (.int sd)] := by
    intro sd hsd
    conv => whnf
    refine ⟨0, 1 + w, ints2 rfl (by omega), ⟨2, by rw [show ((0 : Int).natAbs + 1) = 1 by rfl, Nat.one_pow]; decide, by decide⟩, ?_⟩
    conv => whnf
    refine ⟨⟨rfl, rfl⟩, ?_⟩
    have z0 : (0 : Int) ^ (1 + w) = 0 := by rw [Nat.add_comm, Int.pow_succ, Int.mul_zero]
    conv => whnf
    refine ⟨fun _ => ?_, fun h => (eqvI_f z0 h).elim⟩
    conv => whnf
    refine ⟨-1, o, m, rfl, m1, hm4, ?_⟩
    conv => whnf
    refine ⟨hm0, ?_⟩
    conv => whnf
    refine ⟨⟨rfl, rfl⟩, ?_⟩
    conv => whnf
    rw [eqvI' (show (-1 : Int) ^ o % (m : Int) = sd % (m : Int) by rw [hsd])]
    exact q
  refine ⟨fun h => ?_, fun h => ?_⟩
  · refine last 1 ?_
    rw [sign_pow, if_pos (eqI_t h)]
  · refine last (-1) ?_
    rw [sign_pow, if_neg (eqI_f h)]
end DL.K07
set_option Elab.async false
set_option linter.all false
set_option maxRecDepth 100000
set_option maxHeartbeats 2000000
set_option exponentiation.threshold 5000
namespace DL.K07
open PySem L2 PyProof.Rows
/-! ### rests put together -/
theorem canShow_of {d : D} (h1 : d.showable = true) (h2 : d.hasDict = false) (h3 : d.depth ≤ 64) (h4 : d.leavesShort 400 = true) (h5 : d.weight ≤ 2 ^ 14) : canShow d := by
  refine ⟨h1, h2, h3, ?_⟩
  have := PyData.shown_le 400 (by decide) d h4
  rw [sizeLine_eq]
  have e : (2 : Nat) ^ 14 = 16384 := by decide
  have : (400 + 2) * d.weight ≤ 402 * 16384 := Nat.mul_le_mul_left _ (by omega)
  omega
theorem int_leaf {i : Int} (h : i.natAbs < 2 ^ 300) : (PyData.int i).showable = true ∧ (PyData.int i).leavesShort 400 = true ∧ (PyData.int i).weight ≤ 300 := by
  refine ⟨?_, ?_, ?_⟩
  · unfold PyData.showable
    exact decide_eq_true (Nat.lt_trans (log2_lt h (by decide)) (by decide))
  · unfold PyData.leavesShort
    refine decide_eq_true ?_
    have := int_text_length_le (k := 300) (a := i) (by decide) (log2_lt h (by decide))
    show (Str.ofString (toString i)).length ≤ 400
    rw [PySem.ofString_length]
    omega
  · unfold PyData.weight
    have := log2_lt h (by decide)
    split <;> omega
theorem show_none : canShow .none := canShow_of rfl rfl (by decide) rfl (by decide)
theorem show_pair {x : Int} {M : Nat} (hx : x.natAbs < 2 ^ 300) (hM : M < 2 ^ 300) : canShow (resD (x, M)) := by
  obtain ⟨a1, a2, a3⟩ := int_leaf hx
  obtain ⟨b1, b2, b3⟩ := int_leaf (i := (M : Int)) (by rw [Int.natAbs_natCast]; exact hM)
  refine canShow_of ?_ rfl (by first | (show 1 ≤ 64; decide) | (show 2 ≤ 64; decide)) ?_ ?_
  · show (PyData.showable (.int x) && (PyData.showable (.int M) && true)) = true
    rw [a1, b1]; rfl
  · show (PyData.leavesShort 400 (.int x) && (PyData.leavesShort 400 (.int M) && true)) = true
    rw [a2, b2]; rfl
  · show PyData.weight (.int x) + 1 + (PyData.weight (.int M) + 1 + 0) ≤ _
    omega
theorem show_pairs {x : Int} {M : Nat} (hx : x.natAbs < 2 ^ 300) (hM : M < 2 ^ 300) : canShow (.list [resD (x, M), resD (x, M)]) := by
  obtain ⟨a1, a2, a3⟩ := int_leaf hx
  obtain ⟨b1, b2, b3⟩ := int_leaf (i := (M : Int)) (by rw [Int.natAbs_natCast]; exact hM)
  refine canShow_of ?_ rfl (by first | (show 1 ≤ 64; decide) | (show 2 ≤ 64; decide)) ?_ ?_
  · show ((PyData.showable (.int x) && (PyData.showable (.int M) && true)) && ((PyData.showable (.int x) && (PyData.showable (.int M) && true)) && true)) = true
    rw [a1, b1]; rfl
  · show ((PyData.leavesShort 400 (.int x) && (PyData.leavesShort 400 (.int M) && true)) && ((PyData.leavesShort 400 (.int x) && (PyData.leavesShort 400 (.int M) && true)) && true)) = true
    rw [a2, b2]; rfl
  · show (PyData.weight (.int x) + 1 + (PyData.weight (.int M) + 1 + 0)) + 1 + ((PyData.weight (.int x) + 1 + (PyData.weight (.int M) + 1 + 0)) + 1 + 0) ≤ _
    omega
theorem ints_flat : ∀ {acc : List D}, (∀ d ∈ acc, ∃ n : Int, d = .int n) → PyData.canLayAll0 acc = true ∧ PyData.depthAll acc = 0
  | [], _ => ⟨rfl, rfl⟩
  | d :: ds, h => by
    obtain ⟨n, rfl⟩ := h d List.mem_cons_self
    obtain ⟨h1, h2⟩ := ints_flat (acc := ds) fun d hd => h d (List.mem_cons_of_mem _ hd)
    refine ⟨?_, ?_⟩
    · show (PyData.canLay0 (.int n) && PyData.canLayAll0 ds) = true
      rw [h1]; rfl
    · show max (PyData.depth (.int n)) (PyData.depthAll ds) = 0
      rw [h2]; rfl
theorem shaped_ints {acc : List D} (h : ∀ d ∈ acc, ∃ n : Int, d = .int n) : SeqAt.shaped (.list acc) = true := by
  obtain ⟨h1, h2⟩ := ints_flat h
  show (PyData.canLayAll0 acc && decide (PyData.depthAll acc + 1 ≤ 64)) = true
  rw [h1, h2]; rfl
theorem eqvS (x : Str) : PyData.eqv (.str x) (.str x) = true := by simp [PyData.eqv]
theorem not_neS {x y : Str} (h : x = y) : (!PyData.eqv (.str x) (.str y)) = true → False := by subst h; rw [eqvS]; decide
def tl_joined (sa : Addr) (Ed : DXn → Prop) : DTS := (dSeq (dPar3 10 11 12 (mDat (dCall (sp__law_far sa) (fun x _ => Ed x) (dCons (dVar 0) dNil)) (mOwn (dLst dNil) (mDat (dC (.int 1)) mNil)))) (dSeq (dFor (dRng1 (dCons (dCall (sp__law_pick sa) (fun x _ => Ed x) (dCons (dVar 0) (dCons (dC (.int 6)) dNil))) dNil)) (gSet 13) (dSeq (dSet 14 (dOp opAdd (dC (.int 1)) (dCall (sp__law_pick sa) (fun x _ => Ed x) (dCons (dVar 0) (dCons (dC (.int 40)) dNil))))) (dSeq (dDrop (dMeth 11 (dAppend 11 (dTup (dCons (dOp opMod (dB fInt (dCons (dVar 10) dNil)) (dVar 14)) (dCons (dVar 14) dNil)))))) (dSet 12 (dOp opDiv (dOp opMul (dVar 12) (dVar 14)) (dCall sp__law_part (fun x _ => Ed x) (dCons (dVar 12) (dCons (dVar 14) dNil)))))))) (dSeq (dSet 9 (dTup (dCons (dOp opMod (dB fInt (dCons (dVar 10) dNil)) (dVar 12)) (dCons (dVar 12) dNil)))) (dSeq (dIfS (dTst (dOp opNe (dB fRepr (dCons (dFz (dLst (dCons (dCall sp_row_joined (fun x _ => Ed x) (dCons (dVar 11) dNil)) (dCons (dCall sp_row_joined (fun x _ => Ed x) (dCons (dB fTuple (dCons (dVar 11) dNil)) dNil)) dNil)))) dNil)) (dB fRepr (dCons (dFz (dLst (dCons (dVar 9) (dCons (dVar 9) dNil)))) dNil)))) (dRet (dC (.bool false))) dNext) (dSeq (dSet 15 (dOp opAdd (dVar 11) (dFz (dLst (dCons (dTup (dCons (dC (.int 0)) (dCons (dC (.int 7)) dNil))) (dCons (dTup (dCons (dC (.int 1)) (dCons (dC (.int 7)) dNil))) dNil)))))) (dRet (dOp opIs (dCall sp_row_joined (fun x _ => Ed x) (dCons (dVar 15) dNil)) (dC .none))))))))
theorem tail_joined {sa : Addr} {E : DXn → Prop} {Q : D → Prop} (q : Q (.bool true)) (d1 d2 d3 d4 d5 d6 d7 d9 : D) : tl_joined sa E { nx := fun _ => Q .none, rt := Q } [.raw (.ref sa), .dat d1, .dat d2, .dat d3, .dat d4, .dat d5, .dat d6, .dat d7, .emp, .dat d9, .emp, .emp, .emp, .emp, .emp, .emp] := by
  conv => whnf
  refine ⟨rfl, fun n hn => ?_⟩
  conv => whnf
  refine ⟨by show 0 ≤ 100000; decide, ?_⟩
  conv => whnf
  refine ⟨6, rfl, by decide, fun c c0 c1 => ?_⟩
  obtain ⟨c, rfl⟩ := Int.eq_ofNat_of_zero_le c0
  rw [Int.max_eq_right (by decide)] at c1
  conv => whnf
  refine ⟨by omega, by omega, ?_⟩
  show forWp _ _ _ (rngD 0 1 c) _
  refine forRng_inv (fun j δ => ∃ (rs : List (Int × Nat)) (W : Nat) (s s' : SV), δ = [.raw (.ref sa), .dat d1, .dat d2, .dat d3, .dat d4, .dat d5, .dat d6, .dat d7, .emp, .dat d9, .dat (.int n), .own (.lst (rs.map resD)), .dat (.int W), s, s', .emp] ∧
    rs.length = j ∧ (∀ p ∈ rs, 1 ≤ p.2 ∧ p.2 ≤ 60 ∧ 0 ≤ p.1 ∧ p.1 < 60) ∧ Joined rs ((n : Int) % W) W ∧ 1 ≤ W ∧ W ≤ 40 ^ j) ⟨[], 1, .emp, .emp, rfl, rfl, fun p hp => (by cases hp), ?_, by decide, by decide⟩ (fun j δ P hj ⟨rs, W, s, s', e, hl, hp, J, W1, W2⟩ kk => ?_) fun δ ⟨rs, W, s, s', e, hl, hp, J, W1, W2⟩ => ?_
  · rw [show (n : Int) % ((1 : Nat) : Int) = 0 from Int.emod_one _]
    exact joined_nil
  · subst e
    conv => whnf
    refine ⟨40, rfl, by decide, fun b b0 b1 => ?_⟩
    obtain ⟨b, rfl⟩ := Int.eq_ofNat_of_zero_le b0
    rw [Int.max_eq_right (by decide)] at b1
    conv => whnf
    refine ⟨by omega, ?_⟩
    conv => whnf
    obtain ⟨y, hy⟩ : ∃ y : Nat, (y : Int) = 1 + (b : Int) := ⟨1 + b, by omega⟩
    rw [← hy]
    refine ⟨by show 2 ≤ 100000; decide, ?_⟩
    conv => whnf
    refine ⟨by rw [List.length_map]; omega, ?_⟩
    conv => whnf
    refine ⟨mul_r (by omega) (by omega), ?_⟩
    conv => whnf
    refine ⟨(W : Int), (y : Int), rfl, ?_⟩
    conv => whnf
    have gp : 0 < Nat.gcd W y := Nat.gcd_pos_of_pos_left _ W1
    have gl : Nat.gcd W y ≤ 40 := Nat.le_trans (Nat.le_of_dvd (by omega) (Nat.gcd_dvd_right W y)) (by omega)
    refine ⟨⟨by rw [Int.gcd_natCast_natCast]; omega, ?_⟩, ?_⟩
    · rw [Int.gcd_natCast_natCast, Int.natAbs_natCast]
      exact Nat.lt_trans (log2_lt (n := 6) (by omega) (by decide)) (by decide)
    have e1 : (W : Int) * (y : Int) / ((Int.gcd (W : Int) (y : Int) : Nat) : Int) = ((Nat.lcm W y : Nat) : Int) := by
      rw [Int.gcd_natCast_natCast, ← Int.natCast_mul, ← Int.natCast_ediv]
      rfl
    rw [e1]
    conv => whnf
    have L1 : 1 ≤ Nat.lcm W y := Nat.lcm_pos W1 (by omega)
    have dW : (W : Int) ∣ ((Nat.lcm W y : Nat) : Int) := Int.ofNat_dvd.mpr (Nat.dvd_lcm_left W y)
    have dy : (y : Int) ∣ ((Nat.lcm W y : Nat) : Int) := Int.ofNat_dvd.mpr (Nat.dvd_lcm_right W y)
    have hdiff : ∀ a b : Int, a ∣ b → a ∣ (n : Int) % b - (n : Int) % a := fun a b h => by
      rw [Int.emod_def, Int.emod_def]
      have : (n : Int) - b * (n / b) - (n - a * (n / a)) = a * (n / a) - b * (n / b) := by omega
      rw [this]
      exact Int.dvd_sub (Int.dvd_mul_right _ _) (Int.dvd_mul_of_dvd_left h)
    refine kk _ ⟨rs ++ [((n : Int) % y, y)], Nat.lcm W y, .dat (.int (0 + (j : Int))), .dat (.int y), ?_, ?_, fun p hp' => ?_, ?_, L1, ?_⟩
    · rw [List.map_append]; rfl
    · rw [List.length_append, hl]; rfl
    · rcases List.mem_append.mp hp' with h | h
      · exact hp p h
      · rw [List.mem_singleton.mp h]
        refine ⟨by show 1 ≤ y; omega, by show y ≤ 60; omega, Int.emod_nonneg _ (by omega), ?_⟩
        have := Int.emod_lt_of_pos (n : Int) (show (0 : Int) < y by omega)
        show (n : Int) % y < 60
        omega
    · refine joined_step J (Int.emod_nonneg _ (by omega)) (Int.emod_lt_of_pos _ (by omega)) (hdiff _ _ dW) (hdiff _ _ dy)
    · rw [Nat.pow_succ]
      refine Nat.le_trans (Nat.le_of_dvd (Nat.mul_pos W1 (by omega)) (Nat.lcm_dvd (Nat.dvd_mul_right _ _) (Nat.dvd_mul_left _ _))) ?_
      exact Nat.mul_le_mul W2 (by omega)
  · subst e
    conv => whnf
    refine ⟨by omega, ?_⟩
    conv => whnf
    refine ⟨by show 2 ≤ 100000; decide, ?_⟩
    conv => whnf
    have hW : W < 2 ^ 300 := by
      refine Nat.lt_of_le_of_lt W2 ?_
      refine Nat.lt_of_le_of_lt (Nat.pow_le_pow_left (show 40 ≤ 2 ^ 6 by decide) _) ?_
      rw [← Nat.pow_mul]
      exact Nat.pow_lt_pow_right (by decide) (by omega)
    have hx : ((n : Int) % W).natAbs < 2 ^ 300 := by
      have := Int.emod_nonneg (n : Int) (show (W : Int) ≠ 0 by omega)
      have := Int.emod_lt_of_pos (n : Int) (show (0 : Int) < W by omega)
      omega
    refine ⟨rs, .inl rfl, by omega, hp, fun h => (h _ _ J).elim, fun x M J' => ?_⟩
    obtain ⟨rfl, rfl⟩ := joined_one J J'
    conv => whnf
    refine ⟨rs, .inr rfl, by omega, hp, fun h => (h _ _ J).elim, fun x M J'' => ?_⟩
    obtain ⟨rfl, rfl⟩ := joined_one J J''
    conv => whnf
    refine ⟨by show 2 ≤ 100000; decide, ?_⟩
    conv => whnf
    refine ⟨show_pairs hx hW, ?_⟩
    conv => whnf
    refine ⟨by show 2 ≤ 100000; decide, ?_⟩
    conv => whnf
    refine ⟨show_pairs hx hW, ?_⟩
    conv => whnf
    refine ⟨fun h => (not_neS rfl h).elim, fun _ => ?_⟩
    conv => whnf
    refine ⟨by show 2 ≤ 100000; decide, ?_⟩
    conv => whnf
    refine ⟨by show 2 ≤ 100000; decide, ?_⟩
    conv => whnf
    refine ⟨by show 2 ≤ 100000; decide, ?_⟩
    conv => whnf
    refine ⟨by rw [List.length_map]; show _ + 2 ≤ _; omega, ?_⟩
    conv => whnf
    refine ⟨rs ++ [(0, 7), (1, 7)], .inl (by rw [List.map_append]; rfl), by rw [List.length_append]; show _ + 2 ≤ _; omega, fun p hp' => ?_, fun _ => q, fun x M J3 => ?_⟩
    · rcases List.mem_append.mp hp' with h | h
      · exact hp p h
      · rcases List.mem_cons.mp h with h | h
        · rw [h]; decide
        · rw [List.mem_singleton.mp h]; decide
    · have h := (J3.2.2 x).mpr ⟨0, by omega⟩
      have h1 : ((7 : Nat) : Int) ∣ x - 0 := h (0, 7) (List.mem_append_right _ List.mem_cons_self)
      have h2 : ((7 : Nat) : Int) ∣ x - 1 := h (1, 7) (List.mem_append_right _ (List.mem_cons_of_mem _ (List.mem_singleton.mpr rfl)))
      omega
theorem len__law_joined_right : ∀ (a : Addr) as Q E, sp__law_joined_right a as Q E → as.length = 1 := by rintro a as Q E ⟨rfl, _⟩; rfl
theorem law__law_joined_right : ∀ (a : Addr) as Q E, sp__law_joined_right a as Q E → t__law_joined_right a E { nx := fun _ => Q .none, rt := Q } (startD ["source", "m", "k", "r", "s", "part", "multiple", "some", "n", "due", "number", "rests", "whole", "lap", "by", "bad"] as) := by
  rintro sa as Q E ⟨rfl, q⟩
  show t__law_joined_right sa E _ [.raw (.ref sa), .emp, .emp, .emp, .emp, .emp, .emp, .emp, .emp, .emp, .emp, .emp, .emp, .emp, .emp, .emp]
  conv => whnf
  refine ⟨30, rfl, by decide, fun m0 m1 m2 => ?_⟩
  obtain ⟨m0, rfl⟩ := Int.eq_ofNat_of_zero_le m1
  rw [Int.max_eq_right (by decide)] at m2
  conv => whnf
  refine ⟨30, rfl, by decide, fun k0 k1 k2 => ?_⟩
  obtain ⟨k0, rfl⟩ := Int.eq_ofNat_of_zero_le k1
  rw [Int.max_eq_right (by decide)] at k2
  conv => whnf
  refine ⟨by show 2 ≤ 100000; decide, ?_⟩
  obtain ⟨m, hm⟩ : ∃ m : Nat, (m : Int) = 1 + (m0 : Int) := ⟨1 + m0, by omega⟩
  obtain ⟨k, hk⟩ : ∃ k : Nat, (k : Int) = 1 + (k0 : Int) := ⟨1 + k0, by omega⟩
  rw [← hm, ← hk]
  conv => whnf
  refine ⟨rfl, ?_⟩
  conv => whnf
  refine ⟨(m : Int), rfl, ?_, fun r r0 r1 => ?_⟩
  · exact Nat.lt_trans (log2_lt (n := 6) (by omega) (by decide)) (by decide)
  rw [Int.max_eq_right (by omega)] at r1
  conv => whnf
  refine ⟨(k : Int), rfl, ?_, fun s s0 s1 => ?_⟩
  · exact Nat.lt_trans (log2_lt (n := 6) (by omega) (by decide)) (by decide)
  rw [Int.max_eq_right (by omega)] at s1
  conv => whnf
  refine ⟨by show 2 ≤ 100000; decide, ?_⟩
  conv => whnf
  refine ⟨rfl, ?_⟩
  conv => whnf
  refine ⟨(m : Int), (k : Int), rfl, ?_⟩
  conv => whnf
  refine ⟨mul_r (by omega) (by omega), ?_⟩
  conv => whnf
  have gp : 0 < Nat.gcd m k := Nat.gcd_pos_of_pos_left _ (by omega)
  have gl : Nat.gcd m k ≤ 30 := Nat.le_trans (Nat.le_of_dvd (by omega) (Nat.gcd_dvd_left m k)) (by omega)
  obtain ⟨L, hL⟩ : ∃ L, L = Nat.lcm m k := ⟨_, rfl⟩
  have e1 : (m : Int) * (k : Int) / ((Int.gcd (m : Int) (k : Int) : Nat) : Int) = (L : Int) := by
    rw [Int.gcd_natCast_natCast, ← Int.natCast_mul, ← Int.natCast_ediv, hL]
    rfl
  have L1 : 1 ≤ L := by rw [hL]; exact Nat.lcm_pos (by omega) (by omega)
  have L2 : L ≤ 900 := by
    rw [hL]
    refine Nat.le_trans (Nat.le_of_dvd (Nat.mul_pos (by omega) (by omega)) (Nat.lcm_dvd (Nat.dvd_mul_right m k) (Nat.dvd_mul_left k m))) ?_
    exact Nat.mul_le_mul (show m ≤ 30 by omega) (show k ≤ 30 by omega)
  rw [e1, Int.gcd_natCast_natCast]
  refine ⟨⟨by omega, ?_⟩, ?_⟩
  · rw [Int.natAbs_natCast]
    exact Nat.lt_trans (log2_lt (n := 6) (by omega) (by decide)) (by decide)
  conv => whnf
  refine ⟨by omega, by omega, ?_⟩
  conv => whnf
  have hm1 : (0 : Int) < m := by omega
  have hk1 : (0 : Int) < k := by omega
  show lcWp _ _ _ _ (rngD 0 1 L) _ _ _
  refine lcRng_inv (fun i acc δ => δ = [.raw (.ref sa), .dat (.int m), .dat (.int k), .dat (.int r), .dat (.int s), .dat (.int ((Nat.gcd m k : Nat) : Int)), .dat (.int L), .emp, .emp, .emp, .emp, .emp, .emp, .emp, .emp, .emp] ∧ acc.length ≤ i ∧ (∀ d ∈ acc, ∃ n : Int, d = .int n) ∧
    ((acc = [] ∧ ∀ n : Int, 0 ≤ n → n < (i : Int) → ¬ (n % m = r ∧ n % k = s)) ∨ ∃ (x : Int) (rest : List D), acc = .int x :: rest ∧ 0 ≤ x ∧ x < L ∧ x % m = r ∧ x % k = s)) ⟨rfl, Nat.le_refl _, fun d hd => (by cases hd), .inl ⟨rfl, fun n h1 h2 => by omega⟩⟩ (fun i acc δ P hi ⟨e, hl, ha, hh⟩ kk => ?_) fun acc δ ⟨e, hl, ha, hh⟩ => ?_
  · subst e
    conv => whnf
    refine ⟨hm1, ?_⟩
    conv => whnf
    refine ⟨⟨rfl, rfl⟩, ?_⟩
    conv => whnf
    have no : ¬ ((0 + (i : Int)) % m = r ∧ (0 + (i : Int)) % k = s) → P acc [.raw (.ref sa), .dat (.int m), .dat (.int k), .dat (.int r), .dat (.int s), .dat (.int ((Nat.gcd m k : Nat) : Int)), .dat (.int L), .emp, .emp, .emp, .emp, .emp, .emp, .emp, .emp, .emp] := fun hn => by
      refine kk _ _ ⟨rfl, by omega, ha, ?_⟩
      rcases hh with ⟨h1, h2⟩ | h
      · refine .inl ⟨h1, fun n n0 n1 => ?_⟩
        by_cases e : n = (i : Int)
        · rw [e]; rw [Int.zero_add] at hn; exact hn
        · exact h2 n n0 (by omega)
      · exact .inr h
    refine ⟨fun h1 => ?_, fun h1 => ?_⟩
    · conv => whnf
      refine ⟨hk1, ?_⟩
      conv => whnf
      refine ⟨⟨rfl, rfl⟩, ?_⟩
      conv => whnf
      refine ⟨fun h2 => ?_, fun h2 => ?_⟩
      · conv => whnf
        refine ⟨by omega, ?_⟩
        conv => whnf
        refine kk _ _ ⟨rfl, by rw [List.length_append]; show _ + 1 ≤ _; omega, fun d hd => ?_, .inr ?_⟩
        · rcases List.mem_append.mp hd with h | h
          · exact ha d h
          · exact ⟨_, List.mem_singleton.mp h⟩
        · rcases hh with ⟨rfl, _⟩ | ⟨x, rest, rfl, x0, x1, x2, x3⟩
          · exact ⟨0 + (i : Int), [], rfl, by omega, by omega, eqI_t h1, eqI_t h2⟩
          · exact ⟨x, rest ++ [.int (0 + (i : Int))], rfl, x0, x1, x2, x3⟩
      · conv => whnf
        exact no fun z => eqI_f h2 z.2
    · refine ⟨fun z => (by cases z), fun _ => ?_⟩
      conv => whnf
      exact no fun z => eqI_f h1 z.1
  subst e
  conv => whnf
  refine ⟨by show 0 ≤ 100000; decide, ?_⟩
  conv => whnf
  refine ⟨⟨shaped_ints ha, rfl⟩, ?_⟩
  conv => whnf
  have hmk : 1 ≤ m ∧ 1 ≤ k ∧ m < 2 ^ 1000 ∧ k < 2 ^ 1000 ∧ r.natAbs < 2 ^ 1000 ∧ s.natAbs < 2 ^ 1000 := by
    have p5 : 2 ^ 5 < 2 ^ 1000 := Nat.pow_lt_pow_right (by decide) (by decide)
    refine ⟨by omega, by omega, by omega, by omega, by omega, by omega⟩
  have remd : ∀ (x : Int) (a : Nat) (b : Int), 0 ≤ b → b < a → (a : Int) ∣ x - b → x % a = b := fun x a b h0 h1 hd => by
    obtain ⟨c, hc⟩ := hd
    have : x = b + a * c := by omega
    rw [this, Int.add_mul_emod_self_left, Int.emod_eq_of_lt h0 h1]
  have remd' : ∀ (x : Int) (a : Nat) (b : Int), x % a = b → (a : Int) ∣ x - b := fun x a b h => by
    rw [← h, Int.emod_def]
    exact ⟨x / a, by omega⟩
  rcases hh with ⟨rfl, hno⟩ | ⟨x0, rest, rfl, x00, x01, x02, x03⟩
  · refine ⟨fun z => (by cases z), fun _ => ?_⟩
    conv => whnf
    refine ⟨by show 2 ≤ 100000; decide, ?_⟩
    conv => whnf
    refine ⟨by show 2 ≤ 100000; decide, ?_⟩
    conv => whnf
    refine ⟨r, s, m, k, rfl, hmk, fun hd => ?_, fun x y0 y1 d1 d2 => ?_⟩
    · conv => whnf
      refine ⟨show_none, ?_⟩
      conv => whnf
      refine ⟨show_none, ?_⟩
      conv => whnf
      refine ⟨fun h => (not_neS rfl h).elim, fun _ => ?_⟩
      conv => whnf
      have e : PyData.eqv (.int ((r - s) % ((Nat.gcd m k : Nat) : Int))) (.int 0) = false := by
        rw [Bool.eq_false_iff]
        intro z
        refine hd ?_
        have := Int.dvd_of_emod_eq_zero (eqI_t z)
        rw [← Int.dvd_neg, Int.neg_sub] at this
        exact this
      refine ⟨by omega, ?_⟩
      conv => whnf
      refine ⟨⟨rfl, rfl⟩, ?_⟩
      conv => whnf
      refine ⟨⟨rfl, rfl⟩, ?_⟩
      conv => whnf
      refine ⟨fun h => ?_, fun _ => tail_joined q _ _ _ _ _ _ _ _⟩
      rw [e] at h
      simp [PyData.eqv, isNone] at h
    · exact (hno x y0 (by rw [hL]; exact y1) ⟨remd _ _ _ r0 r1 d1, remd _ _ _ s0 s1 d2⟩).elim
  · refine ⟨fun _ => ?_, fun z => (by cases z)⟩
    conv => whnf
    refine ⟨.int x0, atI_nat (j := 0) rfl, ?_⟩
    conv => whnf
    refine ⟨by show 2 ≤ 100000; decide, ?_⟩
    conv => whnf
    refine ⟨by show 2 ≤ 100000; decide, ?_⟩
    conv => whnf
    refine ⟨by show 2 ≤ 100000; decide, ?_⟩
    conv => whnf
    have g1 : ((Nat.gcd m k : Nat) : Int) ∣ x0 - r := Int.dvd_trans (Int.ofNat_dvd.mpr (Nat.gcd_dvd_left m k)) (remd' _ _ _ x02)
    have g2 : ((Nat.gcd m k : Nat) : Int) ∣ x0 - s := Int.dvd_trans (Int.ofNat_dvd.mpr (Nat.gcd_dvd_right m k)) (remd' _ _ _ x03)
    have g3 : ((Nat.gcd m k : Nat) : Int) ∣ r - s := by
      rw [show r - s = (x0 - s) - (x0 - r) by omega]
      exact Int.dvd_sub g2 g1
    refine ⟨r, s, m, k, rfl, hmk, fun hd => (hd (by rw [← Int.dvd_neg, Int.neg_sub]; exact g3)).elim, fun x y0 y1 d1 d2 => ?_⟩
    rw [← hL] at y1
    obtain rfl : x = x0 := by
      have a1 : (L : Int) ∣ x - x0 := by
        rw [hL]
        refine lcm_dvd_int ?_ ?_
        · rw [show x - x0 = (x - r) - (x0 - r) by omega]
          exact Int.dvd_sub d1 (remd' _ _ _ x02)
        · rw [show x - x0 = (x - s) - (x0 - s) by omega]
          exact Int.dvd_sub d2 (remd' _ _ _ x03)
      have := remd x L x0 x00 x01 a1
      rw [Int.emod_eq_of_lt y0 y1] at this
      exact this
    rw [← hL]
    have p10 : 2 ^ 10 < 2 ^ 300 := Nat.pow_lt_pow_right (by decide) (by decide)
    have sh : canShow (resD (x, L)) := show_pair (by omega) (by omega)
    conv => whnf
    refine ⟨sh, ?_⟩
    conv => whnf
    refine ⟨sh, ?_⟩
    conv => whnf
    refine ⟨fun h => (not_neS rfl h).elim, fun _ => ?_⟩
    conv => whnf
    have e : PyData.eqv (.int ((r - s) % ((Nat.gcd m k : Nat) : Int))) (.int 0) = true := eqvI' (Int.emod_eq_zero_of_dvd g3)
    refine ⟨by omega, ?_⟩
    conv => whnf
    refine ⟨⟨rfl, rfl⟩, ?_⟩
    conv => whnf
    refine ⟨⟨rfl, rfl⟩, ?_⟩
    conv => whnf
    refine ⟨fun h => ?_, fun _ => tail_joined q _ _ _ _ _ _ _ _⟩
    rw [e] at h
    simp [PyData.eqv, isNone] at h
end DL.K07
set_option Elab.async false
set_option linter.all false
set_option maxRecDepth 100000
set_option maxHeartbeats 2000000
set_option exponentiation.threshold 5000
namespace DL.K07
open PySem L2 PyProof.Rows
/-! ### the law's own way, to its last statement -/
theorem len_nat (n k : Nat) (hk : 0 < k) : (Str.ofString (toString (n : Int))).length ≤ k ↔ n < 10 ^ k := by
  rw [PySem.ofString_length]
  exact Nat.length_repr_le_iff hk
theorem far_facts {far : Int} (h : far = 10 ^ 300 - 1 ∨ far = 10 ^ 300) : far.natAbs.log2 < 1920 ∧ ((Str.ofString (toString far)).length ≤ 300 ↔ far = 10 ^ 300 - 1) := by
  have hp : (0 : Int) < 10 ^ 300 := by decide +kernel
  obtain ⟨n, rfl⟩ := Int.eq_ofNat_of_zero_le (show 0 ≤ far by omega)
  have hc : ((10 ^ 300 : Nat) : Int) = 10 ^ 300 := by rw [Int.natCast_pow]; rfl
  refine ⟨?_, ?_⟩
  · rw [Int.natAbs_natCast]
    refine Nat.lt_trans (log2_lt (n := 1000) ?_ (by decide)) (by decide)
    have : (10 ^ 300 : Nat) < 2 ^ 1000 := by decide +kernel
    omega
  · rw [len_nat n 300 (by decide)]
    omega
theorem law_chain {sa : Addr} {E : DXn → Prop} {N : DEnds} {tl : DTS} {s0 : SV}
    (hl : ∀ (a b c d e f g : SV) (far : Int) , (far = 10 ^ 300 - 1 ∨ far = 10 ^ 300) → tl N [s0, .raw (.ref sa), a, b, c, d, e, f, g, .dat (.int far), .dat (if far = 10 ^ 300 then .tuple [.str "great", .int 0] else .tuple [.str "told", .int far])]) :
    dSeq (t_law_0 sa E) (dSeq (t_law_1 sa E) (dSeq (t_law_2 sa E) (dSeq (t_law_3 sa E) (dSeq (t_law_4 sa E) (dSeq (t_law_5 sa E) (dSeq (t_law_6 sa E) (dSeq (t_law_7 sa E) (dSeq (t_law_8 sa E) (dSeq (t_law_9 sa E) (dSeq (t_law_10 sa E) (dSeq (t_law_11 sa E) (dSeq (t_law_12 sa E) tl)))))))))))) N
      [s0, .raw (.ref sa), .emp, .emp, .emp, .emp, .emp, .emp, .emp, .emp, .emp] := by
  conv => whnf
  refine ⟨by decide, by decide, ?_⟩
  show forWp _ _ _ (rngD 0 1 3) _
  refine forRng_inv (fun j δ => ∃ s : SV, δ = [s0, .raw (.ref sa), s, .emp, .emp, .emp, .emp, .emp, .emp, .emp, .emp]) ⟨.emp, rfl⟩ (fun j δ P hj ⟨s, e⟩ kk => ?_) fun δ ⟨s, e⟩ => ?_
  · subst e
    conv => whnf
    refine ⟨rfl, ?_⟩
    conv => whnf
    refine ⟨trivial, ?_⟩
    conv => whnf
    refine ⟨fun z => (by cases z), fun _ => ?_⟩
    conv => whnf
    refine ⟨rfl, ?_⟩
    conv => whnf
    refine ⟨trivial, ?_⟩
    conv => whnf
    refine ⟨fun z => (by cases z), fun _ => ?_⟩
    conv => whnf
    refine ⟨rfl, ?_⟩
    conv => whnf
    refine ⟨trivial, ?_⟩
    conv => whnf
    refine ⟨fun z => (by cases z), fun _ => ?_⟩
    conv => whnf
    exact kk _ ⟨_, rfl⟩
  subst e
  conv => whnf
  refine ⟨rfl, fun f hf => ?_⟩
  conv => whnf
  refine ⟨rfl, fun g hg => ?_⟩
  conv => whnf
  have lf : f.log2 < 1920 := Nat.lt_trans (log2_lt hf (by decide)) (by decide)
  have mid : ∀ (o : Int), o.natAbs < 2 ^ 1000 → (dSeq (t_law_3 sa E) (dSeq (t_law_4 sa E) (dSeq (t_law_5 sa E) (dSeq (t_law_6 sa E) (dSeq (t_law_7 sa E) (dSeq (t_law_8 sa E) (dSeq (t_law_9 sa E) (dSeq (t_law_10 sa E) (dSeq (t_law_11 sa E) (dSeq (t_law_12 sa E) tl)))))))))) N
      [s0, .raw (.ref sa), s, .dat (.int o), .dat (.int (1 + (g : Int))), .emp, .emp, .emp, .emp, .emp, .emp] := by
    intro o ho
    conv => whnf
    refine ⟨o, 1 + (g : Int), rfl, ?_⟩
    conv => whnf
    refine ⟨o, 1 + (g : Int), rfl, ?_⟩
    conv => whnf
    refine ⟨⟨rfl, rfl⟩, ?_⟩
    conv => whnf
    refine ⟨fun h => (not_ne rfl h).elim, fun _ => ?_⟩
    conv => whnf
    refine ⟨0, 0, rfl, ?_⟩
    conv => whnf
    refine ⟨⟨rfl, rfl⟩, ?_⟩
    conv => whnf
    refine ⟨fun h => (not_ne rfl h).elim, fun _ => ?_⟩
    conv => whnf
    refine ⟨0 - o, 1 + (g : Int), rfl, ?_⟩
    conv => whnf
    refine ⟨⟨rfl, rfl⟩, ?_⟩
    conv => whnf
    refine ⟨fun h => (not_ne ?_ h).elim, fun _ => ?_⟩
    · rw [Int.zero_sub, Int.neg_gcd]
    conv => whnf
    refine ⟨999, rfl, by decide, fun late l0 l1 => ?_⟩
    obtain ⟨late, rfl⟩ := Int.eq_ofNat_of_zero_le l0
    rw [Int.max_eq_right (by decide)] at l1
    conv => whnf
    have g4 : 1 + g < 2 ^ 4000 := by
      have := Nat.pow_lt_pow_right (show 1 < 2 by decide) (show 1000 < 4000 by decide)
      omega
    have l4 : 1 + late < 2 ^ 4000 := by
      have := Nat.pow_lt_pow_right (show 1 < 2 by decide) (show 10 < 4000 by decide)
      omega
    refine ⟨1 + g, 1 + late, ints2 (by omega) (by omega), by omega, by omega, g4, l4, ?_⟩
    conv => whnf
    refine ⟨mul_r (by omega) (by omega), ?_⟩
    conv => whnf
    refine ⟨1 + (g : Int), 1 + (late : Int), rfl, ?_⟩
    conv => whnf
    have eg : Int.gcd (1 + (g : Int)) (1 + (late : Int)) = Nat.gcd (1 + g) (1 + late) := rfl
    have gp : 0 < Nat.gcd (1 + g) (1 + late) := Nat.gcd_pos_of_pos_left _ (by omega)
    have gl : Nat.gcd (1 + g) (1 + late) ≤ 1 + late := Nat.le_of_dvd (by omega) (Nat.gcd_dvd_right _ _)
    refine ⟨⟨by rw [eg]; omega, ?_⟩, ?_⟩
    · rw [eg, Int.natAbs_natCast]
      exact Nat.lt_trans (log2_lt (n := 10) (by omega) (by decide)) (by decide)
    conv => whnf
    refine ⟨⟨rfl, rfl⟩, ?_⟩
    conv => whnf
    refine ⟨fun h => (not_ne ?_ h).elim, fun _ => ?_⟩
    · rw [eg, show (1 + (g : Int)) * (1 + (late : Int)) = (((1 + g) * (1 + late) : Nat) : Int) by rw [Int.natCast_mul]; rfl, ← Int.natCast_ediv]
      rw [lcm_eq _ _ (by omega)]
      rfl
    conv => whnf
    refine ⟨rfl, fun m m1 m2 => ?_⟩
    have fin : ∀ told : SV, (dSeq (t_law_11 sa E) (dSeq (t_law_12 sa E) tl)) N
      [s0, .raw (.ref sa), s, .dat (.int o), .dat (.int (1 + (g : Int))), .dat (.int ((Int.gcd o (1 + (g : Int)) : Nat) : Int)), .dat (.int (1 + (late : Int))), .dat (.int m), told, .emp, .emp] := by
      intro told
      conv => whnf
      refine ⟨⟨by decide, by decide, by decide, by decide, by decide +kernel⟩, ?_⟩
      conv => whnf
      refine ⟨10 ^ 300 - 1, ⟨by decide +kernel, by decide +kernel⟩, ?_⟩
      conv => whnf
      refine ⟨2, rfl, by decide, fun p p0 p1 => ?_⟩
      rw [Int.max_eq_right (by decide)] at p1
      conv => whnf
      have hp : p = 0 ∨ p = 1 := by omega
      obtain ⟨far, hfar⟩ : ∃ far : Int, far = 10 ^ 300 - 1 + p := ⟨_, rfl⟩
      rw [← hfar]
      have hff : far = 10 ^ 300 - 1 ∨ far = 10 ^ 300 := by rw [hfar]; rcases hp with h | h <;> subst h <;> omega
      obtain ⟨b1, b2⟩ := far_facts hff
      refine ⟨b1, ?_⟩
      conv => whnf
      refine ⟨int_text_fits b1, ?_⟩
      conv => whnf
      have hz := hl s (.dat (.int o)) (.dat (.int (1 + (g : Int)))) (.dat (.int ((Int.gcd o (1 + (g : Int)) : Nat) : Int))) (.dat (.int (1 + (late : Int)))) (.dat (.int m)) told far hff
      refine ⟨fun h => ?_, fun h => ?_⟩
      · have e : far ≠ 10 ^ 300 := fun e => by
          have h2 := of_decide_eq_true h
          have h3 := b2.mp (by omega)
          omega
        rw [if_neg e] at hz
        conv => whnf
        refine ⟨by show 2 ≤ 100000; decide, ?_⟩
        conv => whnf
        exact hz
      · have e : far = 10 ^ 300 := by
          have h2 := of_decide_eq_false h
          rcases hff with e | e
          · have := b2.mpr e
            omega
          · exact e
        rw [if_pos e] at hz
        conv => whnf
        refine ⟨by show 2 ≤ 100000; decide, ?_⟩
        conv => whnf
        exact hz
    have hm0 : (0 : Int) < m := by omega
    have hm4 : m < 2 ^ 4000 := Nat.lt_of_le_of_lt m2 (Nat.pow_lt_pow_right (by decide) (by decide))
    conv => whnf
    refine ⟨o, m, rfl, m1, hm4, fun hn => ?_, fun x x0 x1 hd => ?_⟩
    · conv => whnf
      refine ⟨o, m, rfl, ?_⟩
      conv => whnf
      refine ⟨⟨rfl, rfl⟩, ?_⟩
      conv => whnf
      refine ⟨⟨rfl, rfl⟩, ?_⟩
      conv => whnf
      have e : PyData.eqv (.int ((Int.gcd o m : Nat) : Int)) (.int 1) = false := by
        rw [Bool.eq_false_iff]
        intro z
        have := eqI_t z
        exact hn (by omega)
      refine ⟨fun h => ?_, fun _ => ?_⟩
      · rw [e] at h
        simp [PyData.eqv, isNone] at h
      conv => whnf
      refine ⟨fun z => (by cases z), fun _ => ?_⟩
      exact ⟨fun z => (by cases z), fun _ => fin _⟩
    · conv => whnf
      refine ⟨o, m, rfl, ?_⟩
      conv => whnf
      refine ⟨⟨rfl, rfl⟩, ?_⟩
      conv => whnf
      refine ⟨⟨rfl, rfl⟩, ?_⟩
      conv => whnf
      have hone : Int.gcd o m = 1 := by
        have a1 : ((Int.gcd o m : Nat) : Int) ∣ x * o - 1 := Int.dvd_trans (Int.gcd_dvd_right o m) hd
        have a2 : ((Int.gcd o m : Nat) : Int) ∣ x * o := Int.dvd_mul_of_dvd_right (Int.gcd_dvd_left o m)
        have a3 : ((Int.gcd o m : Nat) : Int) ∣ 1 := by
          have := Int.dvd_sub a2 a1
          rw [show x * o - (x * o - 1) = 1 by omega] at this
          exact this
        have := Int.le_of_dvd (by decide) a3
        have : 0 < Int.gcd o m := Int.gcd_pos_of_ne_zero_right _ (by omega)
        omega
      have e : PyData.eqv (.int ((Int.gcd o m : Nat) : Int)) (.int 1) = true := eqvI' (by rw [hone]; rfl)
      refine ⟨fun h => ?_, fun _ => ?_⟩
      · rw [e] at h
        simp [PyData.eqv, isNone] at h
      conv => whnf
      refine ⟨fun _ => ?_, fun z => (by cases z)⟩
      conv => whnf
      rw [show decide ((0 : Int) ≤ x) = true from decide_eq_true x0]
      conv => whnf
      refine ⟨rfl, ?_⟩
      conv => whnf
      rw [show decide (x < (m : Int)) = true from decide_eq_true x1]
      refine ⟨fun z => (by cases z), fun _ => ?_⟩
      conv => whnf
      refine ⟨mul_bits (show x.natAbs < 2 ^ 4000 by omega) ho (by decide), ?_⟩
      conv => whnf
      refine ⟨hm0, ?_⟩
      conv => whnf
      refine ⟨hm0, ?_⟩
      conv => whnf
      refine ⟨⟨rfl, rfl⟩, ?_⟩
      conv => whnf
      refine ⟨fun h => (not_ne ?_ h).elim, fun _ => ?_⟩
      · exact Int.emod_eq_emod_iff_emod_sub_eq_zero.mpr (Int.emod_eq_zero_of_dvd hd)
      exact fin _
  refine ⟨by rw [Int.natAbs_natCast]; exact lf, ?_⟩
  conv => whnf
  refine ⟨int_text_fits (by rw [Int.natAbs_natCast]; exact lf), ?_⟩
  conv => whnf
  have fb : ((f : Int)).natAbs < 2 ^ 1000 := by rw [Int.natAbs_natCast]; exact hf
  refine ⟨fun _ => ?_, fun _ => mid f fb⟩
  conv => whnf
  refine ⟨by show 3 ≤ 100000; decide, ?_⟩
  conv => whnf
  refine ⟨_, rfl, by decide, by decide, fun d hd => ?_⟩
  obtain ⟨sg, hs, rfl⟩ : ∃ sg : Int, (sg = 0 ∨ sg = 1 ∨ sg = -1) ∧ d = .int sg := by
    simp only [List.mem_cons, List.not_mem_nil, or_false] at hd
    rcases hd with h | h | h <;> subst h
    · exact ⟨0, .inl rfl, rfl⟩
    · exact ⟨1, .inr (.inl rfl), rfl⟩
    · exact ⟨-1, .inr (.inr rfl), rfl⟩
  conv => whnf
  refine ⟨mul_r (by omega) (by omega), ?_⟩
  refine mid ((f : Int) * sg) ?_
  rcases hs with h | h | h <;> subst h <;> omega
end DL.K07
set_option Elab.async false
set_option linter.all false
set_option maxRecDepth 100000
set_option maxHeartbeats 2000000
namespace DL.K07
open PySem L2 PyProof.Rows
def top (i : Nat) : Stmt := PySem.Challenge.pw_lotsofn_k07_rests_of_numbers_over_far.main.body.getD i (.Pass ⟨0, 0, 0, 0⟩)
structure Txt (P : Program) (w : World) (K : PySem.W.Frag) (mg : Str → Option Value) (base : Heap) where
  d_is_long : Df K mg "is_long" (top 7) ["number"]
  d_not_long : Df K mg "not_long" (top 8) ["number"]
  d_number_over : Df K mg "number_over" (top 9) ["n", "k"]
  d_over_rest : Df K mg "over_rest" (top 10) ["n", "k", "m"]
  d_power_of : Df K mg "power_of" (top 11) ["base", "often"]
  d_power_rest : Df K mg "power_rest" (top 12) ["base", "often", "m"]
  d_common_part : Df K mg "common_part" (top 13) ["one", "other"]
  d_common_multiple : Df K mg "common_multiple" (top 14) ["one", "other"]
  d_rest_undone : Df K mg "rest_undone" (top 15) ["number", "m"]
  d_rests_joined : Df K mg "rests_joined" (top 16) ["one", "other"]
  d_row_joined : Df K mg "row_joined" (top 17) ["rests"]
  d__law_source : Df K mg "_law_source" (top 19) ["script"]
  d__law_pick : Df K mg "_law_pick" (top 20) ["source", "many"]
  d__law_of : Df K mg "_law_of" (top 21) ["source", "some"]
  d__law_over : Df K mg "_law_over" (top 22) ["n", "k"]
  d__law_far : Df K mg "_law_far" (top 23) ["source"]
  d__law_by : Df K mg "_law_by" (top 24) ["source"]
  d__law_great : Df K mg "_law_great" (top 25) ["call"]
  d__law_part : Df K mg "_law_part" (top 26) ["one", "other"]
  d__law_over_right : Df K mg "_law_over_right" (top 27) ["source"]
  d__law_powers_right : Df K mg "_law_powers_right" (top 28) ["source"]
  d__law_joined_right : Df K mg "_law_joined_right" (top 29) ["source"]
  d_law : Df K mg "law" (top 30) ["script"]
  z_abs : mg "abs" = none
  z_int : mg "int" = none
  z_len : mg "len" = none
  z_max : mg "max" = none
  z_range : mg "range" = none
  z_repr : mg "repr" = none
  z_str : mg "str" = none
  z_tuple : mg "tuple" = none
  c_LONG_NUMBER : ∃ t, mg "LONG_NUMBER" = some (.int 0 t)
  c_MOST_FIGURES : ∃ t, mg "MOST_FIGURES" = some (.int 300 t)
  c_SURE_BITS : ∃ t, mg "SURE_BITS" = some (.int 997 t)
  x_TooGreat : X1 P w K mg base "TooGreat" "number"
section
variable {P : Program} {w : World} {K : PySem.W.Frag} {mg : Str → Option Value} {base : Heap}
theorem sc_is_long : FnScope ["number"] ["number"] (defScope (top 7)) := ⟨rfl, rfl, rfl, by decide +kernel, rfl, by decide +kernel, by decide +kernel⟩
theorem ok_is_long (T : Txt P w K mg base) : FnOk P w K mg base (L2.CX P w) 1 T.d_is_long.f T.d_is_long.fd ["number"] (spX K Wd.nil sp_is_long) :=
  fn_okD (t := t_is_long ) T.d_is_long.F sc_is_long len_is_long (fun cdv A outer s H E G W Ed hW at_ po => (dss_one (ds_ret (dx_or (dx_cmp op_gt dop_gt (dx_bits (dx_var 0)) (dx_globI T.c_SURE_BITS)) (dx_one (dx_cmp op_gt dop_gt (dx_b call_len dc_len T.z_len (da_cons (dx_ty call_str_int dc_str T.z_str (da_cons (dx_b call_abs dc_abs T.z_abs (da_cons (dx_var 0) da_nil)) da_nil)) da_nil)) (dx_globI T.c_MOST_FIGURES))))))) law_is_long
theorem sc_number_over : FnScope ["n", "k", "found", "step"] ["n", "k"] (defScope (top 9)) := ⟨rfl, rfl, rfl, by decide +kernel, rfl, by decide +kernel, by decide +kernel⟩
theorem ok_number_over (T : Txt P w K mg base) : FG P w K mg base 1 T.d_number_over.f T.d_number_over.fd ["n", "k"] (spX K Wd.nil sp_number_over) :=
  fg_ok (t := t_number_over ) T.d_number_over.F sc_number_over len_number_over (fun cdv A outer s H E G W Ed hW at_ po => (dss_cons (ds_set 2 sc_number_over.nd dx_int) (dss_cons (ds_for po (di_rng1 (da_cons (dx_var 1) da_nil) T.z_range) (dg_name 3 sc_number_over.nd) (dss_one (ds_set 2 sc_number_over.nd (dx_op op_fdivW dop_div (dx_op op_mulD dop_mul (dx_var 2) (dx_op op_sub dop_sub (dx_var 0) (dx_var 3))) (dx_op op_addD dop_add (dx_var 3) dx_int))))) (dss_one (ds_ret (dx_var 2)))))) law_number_over
theorem sc_power_of : FnScope ["base", "often", "found", "here", "left"] ["base", "often"] (defScope (top 11)) := ⟨rfl, rfl, rfl, by decide +kernel, rfl, by decide +kernel, by decide +kernel⟩
theorem ok_power_of (T : Txt P w K mg base) : FG P w K mg base 1 T.d_power_of.f T.d_power_of.fd ["base", "often"] (spX K Wd.nil sp_power_of) :=
  fg_ok (t := t_power_of ) T.d_power_of.F sc_power_of len_power_of (fun cdv A outer s H E G W Ed hW at_ po => (dss_cons (ds_par3 2 3 4 sc_power_of.nd (dm_dat dx_int (dm_dat (dx_var 0) (dm_dat (dx_var 1) dm_nil)))) (dss_cons (ds_while po (dt_cmp op_gt dop_gt (dx_var 4) dx_int) (dss_cons (ds_if (dt_cmp (op_eqE (Nat.lt_of_le_of_lt (Nat.le_succ _) at_.hu)) dop_eq (dx_op op_mod dop_mod (dx_var 4) dx_int) dx_int) (dss_one (ds_aug 2 sc_power_of.nd ip_mul dip_mul (dx_var 3))) dss_nil) (dss_one (ds_par2 3 4 sc_power_of.nd (dm_dat (dx_if (dt_cmp op_gt dop_gt (dx_var 4) dx_int) (dx_op op_mulD dop_mul (dx_var 3) (dx_var 3)) (dx_var 3)) (dm_dat (dx_op op_fdivW dop_div (dx_var 4) dx_int) dm_nil)))))) (dss_one (ds_ret (dx_var 2)))))) law_power_of
theorem sc_power_rest : FnScope ["base", "often", "m", "found", "here", "left"] ["base", "often", "m"] (defScope (top 12)) := ⟨rfl, rfl, rfl, by decide +kernel, rfl, by decide +kernel, by decide +kernel⟩
theorem ok_power_rest (T : Txt P w K mg base) : FG P w K mg base 1 T.d_power_rest.f T.d_power_rest.fd ["base", "often", "m"] (spX K Wd.nil sp_power_rest) :=
  fg_ok (t := t_power_rest ) T.d_power_rest.F sc_power_rest len_power_rest (fun cdv A outer s H E G W Ed hW at_ po => (dss_cons (ds_par3 3 4 5 sc_power_rest.nd (dm_dat (dx_op op_mod dop_mod dx_int (dx_var 2)) (dm_dat (dx_op op_mod dop_mod (dx_var 0) (dx_var 2)) (dm_dat (dx_var 1) dm_nil)))) (dss_cons (ds_while po (dt_cmp op_gt dop_gt (dx_var 5) dx_int) (dss_cons (ds_if (dt_cmp (op_eqE (Nat.lt_of_le_of_lt (Nat.le_succ _) at_.hu)) dop_eq (dx_op op_mod dop_mod (dx_var 5) dx_int) dx_int) (dss_one (ds_set 3 sc_power_rest.nd (dx_op op_mod dop_mod (dx_op op_mulD dop_mul (dx_var 3) (dx_var 4)) (dx_var 2)))) dss_nil) (dss_one (ds_par2 4 5 sc_power_rest.nd (dm_dat (dx_op op_mod dop_mod (dx_op op_mulD dop_mul (dx_var 4) (dx_var 4)) (dx_var 2)) (dm_dat (dx_op op_fdivW dop_div (dx_var 5) dx_int) dm_nil)))))) (dss_one (ds_ret (dx_var 3)))))) law_power_rest
theorem sc_common_part : FnScope ["one", "other", "here", "there"] ["one", "other"] (defScope (top 13)) := ⟨rfl, rfl, rfl, by decide +kernel, rfl, by decide +kernel, by decide +kernel⟩
theorem ok_common_part (T : Txt P w K mg base) : FG P w K mg base 1 T.d_common_part.f T.d_common_part.fd ["one", "other"] (spX K Wd.nil sp_common_part) :=
  fg_ok (t := t_common_part ) T.d_common_part.F sc_common_part len_common_part (fun cdv A outer s H E G W Ed hW at_ po => (dss_cons (ds_par2 2 3 sc_common_part.nd (dm_dat (dx_b call_abs dc_abs T.z_abs (da_cons (dx_var 0) da_nil)) (dm_dat (dx_b call_abs dc_abs T.z_abs (da_cons (dx_var 1) da_nil)) dm_nil))) (dss_cons (ds_while po (dt_cmp op_gt dop_gt (dx_var 3) dx_int) (dss_one (ds_par2 2 3 sc_common_part.nd (dm_dat (dx_var 3) (dm_dat (dx_op op_mod dop_mod (dx_var 2) (dx_var 3)) dm_nil))))) (dss_one (ds_ret (dx_var 2)))))) law_common_part
theorem sc_rest_undone : FnScope ["number", "m", "here", "one", "there", "other", "often"] ["number", "m"] (defScope (top 15)) := ⟨rfl, rfl, rfl, by decide +kernel, rfl, by decide +kernel, by decide +kernel⟩
theorem ok_rest_undone (T : Txt P w K mg base) : FG P w K mg base 1 T.d_rest_undone.f T.d_rest_undone.fd ["number", "m"] (spX K Wd.nil sp_rest_undone) :=
  fg_ok (t := t_rest_undone ) T.d_rest_undone.F sc_rest_undone len_rest_undone (fun cdv A outer s H E G W Ed hW at_ po => (dss_cons (ds_asg (dx_tup (da_cons (dx_tup (da_cons (dx_var 1) (da_cons dx_int da_nil))) (da_cons (dx_tup (da_cons (dx_op op_mod dop_mod (dx_var 0) (dx_var 1)) (da_cons dx_int da_nil))) da_nil))) (dg_tup (dgs_cons (dg_tup (dgs_cons (dg_name 2 sc_rest_undone.nd) (dgs_cons (dg_name 3 sc_rest_undone.nd) dgs_nil))) (dgs_cons (dg_tup (dgs_cons (dg_name 4 sc_rest_undone.nd) (dgs_cons (dg_name 5 sc_rest_undone.nd) dgs_nil))) dgs_nil)))) (dss_cons (ds_while po (dt_cmp op_gt dop_gt (dx_var 4) dx_int) (dss_cons (ds_set 6 sc_rest_undone.nd (dx_op op_fdivW dop_div (dx_var 2) (dx_var 4))) (dss_one (ds_asg (dx_tup (da_cons (dx_tup (da_cons (dx_var 4) (da_cons (dx_var 5) da_nil))) (da_cons (dx_tup (da_cons (dx_op op_sub dop_sub (dx_var 2) (dx_op op_mulD dop_mul (dx_var 6) (dx_var 4))) (da_cons (dx_op op_sub dop_sub (dx_var 3) (dx_op op_mulD dop_mul (dx_var 6) (dx_var 5))) da_nil))) da_nil))) (dg_tup (dgs_cons (dg_tup (dgs_cons (dg_name 2 sc_rest_undone.nd) (dgs_cons (dg_name 3 sc_rest_undone.nd) dgs_nil))) (dgs_cons (dg_tup (dgs_cons (dg_name 4 sc_rest_undone.nd) (dgs_cons (dg_name 5 sc_rest_undone.nd) dgs_nil))) dgs_nil))))))) (dss_one (ds_ret (dx_if (dt_cmp (op_eqE (Nat.lt_of_le_of_lt (Nat.le_succ _) at_.hu)) dop_eq (dx_var 2) dx_int) (dx_op op_mod dop_mod (dx_var 3) (dx_var 1)) dx_none)))))) law_rest_undone
theorem sc__law_pick : FnScope ["source", "many", "left", "mixed"] ["source", "many"] (defScope (top 20)) := ⟨rfl, rfl, rfl, by decide +kernel, rfl, by decide +kernel, by decide +kernel⟩
theorem ok__law_pick (T : Txt P w K mg base) : FG P w K mg base 1 T.d__law_pick.f T.d__law_pick.fd ["source", "many"] (spS K srcW sp__law_pick) :=
  fg_okS (t := fun sa => t__law_pick sa) T.d__law_pick.F sc__law_pick len__law_pick (fun sa sc cdv A outer s H E G W Ed hW at_ po => (dss_cons (ds_srcLoop 0 1 hW at_.hu po T.z_len) (dss_cons (ds_set 2 sc__law_pick.nd (dx_src 0 .left hW at_.hu)) (dss_cons (ds_if (dt_w (dw_or (dt_cmp op_lt dop_lt (dx_var 1) dx_int) (dw_or1 (dt_cmp op_gt dop_gt (dx_var 2) dx_int)))) (dss_cons (ds_srcSet 0 .left hW at_.hu (dx_op op_fdivW dop_div (dx_var 2) (dx_b (call_max2 rfl) dc_max T.z_max (da_cons dx_int (da_cons (dx_var 1) da_nil))))) (dss_one (ds_ret (dx_op op_mod dop_mod (dx_ty call_intD dc_int T.z_int (da_cons (dx_var 2) da_nil)) (dx_b (call_max2 rfl) dc_max T.z_max (da_cons dx_int (da_cons (dx_var 1) da_nil))))))) dss_nil) (dss_cons (ds_srcSet 0 .turn hW at_.hu (dx_op op_addD dop_add (dx_src 0 .turn hW at_.hu) dx_int)) (dss_cons (ds_set 3 sc__law_pick.nd (dx_op op_mod dop_mod (dx_ty call_intD dc_int T.z_int (da_cons (dx_op op_addD dop_add (dx_src 0 .mixed hW at_.hu) (dx_op op_mulD dop_mul (dx_src 0 .turn hW at_.hu) dx_int)) da_nil)) dx_int)) (dss_cons (ds_set 3 sc__law_pick.nd (dx_op op_mod dop_mod (dx_ty call_intD dc_int T.z_int (da_cons (dx_op op_addD dop_add (dx_op op_mulD dop_mul (dx_var 3) (dx_var 3)) (dx_op op_mulD dop_mul (dx_src 0 .turn hW at_.hu) dx_int)) da_nil)) dx_int)) (dss_cons (ds_srcSet 0 .mixed hW at_.hu (dx_var 3)) (dss_one (ds_ret (dx_op op_mod dop_mod (dx_ty call_intD dc_int T.z_int (da_cons (dx_op op_fdivW dop_div (dx_var 3) dx_int) da_nil)) (dx_var 1)))))))))))) law__law_pick
theorem sc__law_over : FnScope ["n", "k", "found", "j"] ["n", "k"] (defScope (top 22)) := ⟨rfl, rfl, rfl, by decide +kernel, rfl, by decide +kernel, by decide +kernel⟩
theorem ok__law_over (T : Txt P w K mg base) : FG P w K mg base 1 T.d__law_over.f T.d__law_over.fd ["n", "k"] (spX K Wd.nil sp__law_over) :=
  fg_ok (t := t__law_over ) T.d__law_over.F sc__law_over len__law_over (fun cdv A outer s H E G W Ed hW at_ po => (dss_cons (ds_set 2 sc__law_over.nd dx_int) (dss_cons (ds_for po (di_rng1 (da_cons (dx_var 1) da_nil) T.z_range) (dg_name 3 sc__law_over.nd) (dss_one (ds_set 2 sc__law_over.nd (dx_op op_fdivW dop_div (dx_op op_mulD dop_mul (dx_var 2) (dx_op op_sub dop_sub (dx_var 0) (dx_var 3))) (dx_op op_addD dop_add (dx_var 3) dx_int))))) (dss_one (ds_ret (dx_var 2)))))) law__law_over
theorem sc__law_part : FnScope ["one", "other"] ["one", "other"] (defScope (top 26)) := ⟨rfl, rfl, rfl, by decide +kernel, rfl, by decide +kernel, by decide +kernel⟩
theorem ok__law_part (T : Txt P w K mg base) : FG P w K mg base 1 T.d__law_part.f T.d__law_part.fd ["one", "other"] (spX K Wd.nil sp__law_part) :=
  fg_ok (t := t__law_part ) T.d__law_part.F sc__law_part len__law_part (fun cdv A outer s H E G W Ed hW at_ po => (dss_cons (ds_par2 0 1 sc__law_part.nd (dm_dat (dx_b call_abs dc_abs T.z_abs (da_cons (dx_var 0) da_nil)) (dm_dat (dx_b call_abs dc_abs T.z_abs (da_cons (dx_var 1) da_nil)) dm_nil))) (dss_cons (ds_while po (dt_cmp op_gt dop_gt (dx_var 1) dx_int) (dss_one (ds_par2 0 1 sc__law_part.nd (dm_dat (dx_var 1) (dm_dat (dx_op op_mod dop_mod (dx_ty call_intD dc_int T.z_int (da_cons (dx_var 0) da_nil)) (dx_var 1)) dm_nil))))) (dss_one (ds_ret (dx_var 0)))))) law__law_part
theorem sc_over_rest : FnScope ["n", "k", "m"] ["n", "k", "m"] (defScope (top 10)) := ⟨rfl, rfl, rfl, by decide +kernel, rfl, by decide +kernel, by decide +kernel⟩
theorem ok_over_rest (T : Txt P w K mg base) : FG P w K mg base 2 T.d_over_rest.f T.d_over_rest.fd ["n", "k", "m"] (spX K Wd.nil sp_over_rest) :=
  fg_ok (t := t_over_rest ) T.d_over_rest.F sc_over_rest len_over_rest (fun cdv A outer s H E G W Ed hW at_ po => (dss_one (ds_ret (dx_op op_mod dop_mod (dx_fn at_ (ok_number_over T |>.mono (by decide)) T.d_number_over.m T.d_number_over.F.kp T.d_number_over.b (da_cons (dx_var 0) (da_cons (dx_var 1) da_nil))) (dx_var 2))))) law_over_rest
theorem sc_common_multiple : FnScope ["one", "other"] ["one", "other"] (defScope (top 14)) := ⟨rfl, rfl, rfl, by decide +kernel, rfl, by decide +kernel, by decide +kernel⟩
theorem ok_common_multiple (T : Txt P w K mg base) : FG P w K mg base 2 T.d_common_multiple.f T.d_common_multiple.fd ["one", "other"] (spX K Wd.nil sp_common_multiple) :=
  fg_ok (t := t_common_multiple ) T.d_common_multiple.F sc_common_multiple len_common_multiple (fun cdv A outer s H E G W Ed hW at_ po => (dss_one (ds_ret (dx_op op_mulD dop_mul (dx_op op_fdivW dop_div (dx_var 0) (dx_fn at_ (ok_common_part T |>.mono (by decide)) T.d_common_part.m T.d_common_part.F.kp T.d_common_part.b (da_cons (dx_var 0) (da_cons (dx_var 1) da_nil)))) (dx_var 1))))) law_common_multiple
theorem sc__law_of : FnScope ["source", "some"] ["source", "some"] (defScope (top 21)) := ⟨rfl, rfl, rfl, by decide +kernel, rfl, by decide +kernel, by decide +kernel⟩
theorem ok__law_of (T : Txt P w K mg base) : FG P w K mg base 2 T.d__law_of.f T.d__law_of.fd ["source", "some"] (spS K srcW sp__law_of) :=
  fg_okS (t := fun sa => t__law_of sa) T.d__law_of.F sc__law_of len__law_of (fun sa sc cdv A outer s H E G W Ed hW at_ po => (dss_one (ds_ret (dx_ix (dx_var 1) (dx_fnS at_ hW (ok__law_pick T |>.mono (by decide)) T.d__law_pick.m T.d__law_pick.F.kp T.d__law_pick.b (da_cons (dx_var 0) (da_cons (dx_b call_len dc_len T.z_len (da_cons (dx_var 1) da_nil)) da_nil))))))) law__law_of
theorem sc_not_long : FnScope ["number"] ["number"] (defScope (top 8)) := ⟨rfl, rfl, rfl, by decide +kernel, rfl, by decide +kernel, by decide +kernel⟩
theorem ok_not_long (T : Txt P w K mg base) : FnOk P w K mg base (L2.CX P w) 3 T.d_not_long.f T.d_not_long.fd ["number"] (spX K Wd.nil (sp_not_long T.x_TooGreat.C)) :=
  fn_okD (t := t_not_long T.x_TooGreat.C ) T.d_not_long.F sc_not_long (len_not_long _) (fun cdv A outer s H E G W Ed hW at_ po => (dss_cons (ds_if (dt_truth (dx_fnN at_ (ok_is_long T |>.mono (by decide)) T.d_is_long.m T.d_is_long.F.kp T.d_is_long.b (da_cons (dx_var 0) da_nil))) (dss_one (ds_raiseI (AtN.mono at_ (by decide)) T.x_TooGreat.oex T.x_TooGreat.iC T.x_TooGreat.tI T.x_TooGreat.run T.x_TooGreat.b T.x_TooGreat.m (da_cons (dx_globI T.c_LONG_NUMBER) da_nil) (by decide) fsd1_rel)) dss_nil) (dss_one (ds_ret (dx_var 0))))) (law_not_long _)
theorem sc_rests_joined : FnScope ["one", "other", "first", "m", "late", "more", "part", "whole", "step"] ["one", "other"] (defScope (top 16)) := ⟨rfl, rfl, rfl, by decide +kernel, rfl, by decide +kernel, by decide +kernel⟩
theorem ok_rests_joined (T : Txt P w K mg base) : FG P w K mg base 3 T.d_rests_joined.f T.d_rests_joined.fd ["one", "other"] (spX K Wd.nil sp_rests_joined) :=
  fg_ok (t := t_rests_joined ) T.d_rests_joined.F sc_rests_joined len_rests_joined (fun cdv A outer s H E G W Ed hW at_ po => (dss_cons (ds_asg (dx_tup (da_cons (dx_var 0) (da_cons (dx_var 1) da_nil))) (dg_tup (dgs_cons (dg_tup (dgs_cons (dg_name 2 sc_rests_joined.nd) (dgs_cons (dg_name 3 sc_rests_joined.nd) dgs_nil))) (dgs_cons (dg_tup (dgs_cons (dg_name 4 sc_rests_joined.nd) (dgs_cons (dg_name 5 sc_rests_joined.nd) dgs_nil))) dgs_nil)))) (dss_cons (ds_set 6 sc_rests_joined.nd (dx_fn at_ (ok_common_part T |>.mono (by decide)) T.d_common_part.m T.d_common_part.F.kp T.d_common_part.b (da_cons (dx_var 3) (da_cons (dx_var 5) da_nil)))) (dss_cons (ds_if (dt_cmp (op_neE (Nat.lt_of_le_of_lt (Nat.le_succ _) at_.hu)) dop_ne (dx_op op_mod dop_mod (dx_op op_sub dop_sub (dx_var 4) (dx_var 2)) (dx_var 6)) dx_int) (dss_one (ds_ret dx_none)) dss_nil) (dss_cons (ds_set 7 sc_rests_joined.nd (dx_fn at_ (ok_common_multiple T |>.mono (by decide)) T.d_common_multiple.m T.d_common_multiple.F.kp T.d_common_multiple.b (da_cons (dx_var 3) (da_cons (dx_var 5) da_nil)))) (dss_cons (ds_set 8 sc_rests_joined.nd (dx_fn at_ (ok_rest_undone T |>.mono (by decide)) T.d_rest_undone.m T.d_rest_undone.F.kp T.d_rest_undone.b (da_cons (dx_op op_fdivW dop_div (dx_var 3) (dx_var 6)) (da_cons (dx_op op_fdivW dop_div (dx_var 5) (dx_var 6)) da_nil)))) (dss_one (ds_ret (dx_tup (da_cons (dx_op op_mod dop_mod (dx_op op_addD dop_add (dx_var 2) (dx_op op_mulD dop_mul (dx_var 3) (dx_op op_mod dop_mod (dx_op op_mulD dop_mul (dx_op op_fdivW dop_div (dx_op op_sub dop_sub (dx_var 4) (dx_var 2)) (dx_var 6)) (dx_var 8)) (dx_op op_fdivW dop_div (dx_var 5) (dx_var 6))))) (dx_var 7)) (da_cons (dx_var 7) da_nil))))))))))) law_rests_joined
theorem sc__law_far : FnScope ["source", "found", "lap"] ["source"] (defScope (top 23)) := ⟨rfl, rfl, rfl, by decide +kernel, rfl, by decide +kernel, by decide +kernel⟩
theorem ok__law_far (T : Txt P w K mg base) : FG P w K mg base 3 T.d__law_far.f T.d__law_far.fd ["source"] (spS K srcW sp__law_far) :=
  fg_okS (t := fun sa => t__law_far sa) T.d__law_far.F sc__law_far len__law_far (fun sa sc cdv A outer s H E G W Ed hW at_ po => (dss_cons (ds_set 1 sc__law_far.nd (dx_fnS at_ hW (ok__law_pick T |>.mono (by decide)) T.d__law_pick.m T.d__law_pick.F.kp T.d__law_pick.b (da_cons (dx_var 0) (da_cons dx_int da_nil)))) (dss_cons (ds_for po (di_rng1 (da_cons (dx_fnS at_ hW (ok__law_of T |>.mono (by decide)) T.d__law_of.m T.d__law_of.F.kp T.d__law_of.b (da_cons (dx_var 0) (da_cons (dx_new (dn_lst (da_cons dx_int (da_cons dx_int (da_cons dx_int (da_cons dx_int (da_cons dx_int da_nil))))))) da_nil))) da_nil) T.z_range) (dg_name 2 sc__law_far.nd) (dss_one (ds_set 1 sc__law_far.nd (dx_op op_addD dop_add (dx_op op_mulD dop_mul (dx_var 1) dx_int) (dx_fnS at_ hW (ok__law_pick T |>.mono (by decide)) T.d__law_pick.m T.d__law_pick.F.kp T.d__law_pick.b (da_cons (dx_var 0) (da_cons dx_int da_nil))))))) (dss_one (ds_ret (dx_var 1)))))) law__law_far
theorem sc_row_joined : FnScope ["rests", "found", "one"] ["rests"] (defScope (top 17)) := ⟨rfl, rfl, rfl, by decide +kernel, rfl, by decide +kernel, by decide +kernel⟩
theorem ok_row_joined (T : Txt P w K mg base) : FG P w K mg base 4 T.d_row_joined.f T.d_row_joined.fd ["rests"] (spX K Wd.nil sp_row_joined) :=
  fg_ok (t := t_row_joined ) T.d_row_joined.F sc_row_joined len_row_joined (fun cdv A outer s H E G W Ed hW at_ po => (dss_cons (ds_set 1 sc_row_joined.nd (dx_tup (da_cons dx_int (da_cons dx_int da_nil)))) (dss_cons (ds_for po (di_seq (dx_var 0)) (dg_name 2 sc_row_joined.nd) (dss_one (ds_if (dt_cmp op_notD dop_isNot (dx_var 1) dx_none) (dss_one (ds_set 1 sc_row_joined.nd (dx_fn at_ (ok_rests_joined T |>.mono (by decide)) T.d_rests_joined.m T.d_rests_joined.F.kp T.d_rests_joined.b (da_cons (dx_var 1) (da_cons (dx_var 2) da_nil))))) dss_nil))) (dss_one (ds_ret (dx_var 1)))))) law_row_joined
theorem sc__law_by : FnScope ["source"] ["source"] (defScope (top 24)) := ⟨rfl, rfl, rfl, by decide +kernel, rfl, by decide +kernel, by decide +kernel⟩
theorem ok__law_by (T : Txt P w K mg base) : FG P w K mg base 4 T.d__law_by.f T.d__law_by.fd ["source"] (spS K srcW sp__law_by) :=
  fg_okS (t := fun sa => t__law_by sa) T.d__law_by.F sc__law_by len__law_by (fun sa sc cdv A outer s H E G W Ed hW at_ po => (dss_one (ds_ret (dx_op op_addD dop_add dx_int (dx_fnS at_ hW (ok__law_of T |>.mono (by decide)) T.d__law_of.m T.d__law_of.F.kp T.d__law_of.b (da_cons (dx_var 0) (da_cons (dx_new (dn_lst (da_cons (dx_fnS at_ hW (ok__law_pick T |>.mono (by decide)) T.d__law_pick.m T.d__law_pick.F.kp T.d__law_pick.b (da_cons (dx_var 0) (da_cons dx_int da_nil))) (da_cons (dx_fnS at_ hW (ok__law_pick T |>.mono (by decide)) T.d__law_pick.m T.d__law_pick.F.kp T.d__law_pick.b (da_cons (dx_var 0) (da_cons dx_int da_nil))) (da_cons (dx_fnS at_ hW (ok__law_far T |>.mono (by decide)) T.d__law_far.m T.d__law_far.F.kp T.d__law_far.b (da_cons (dx_var 0) da_nil)) da_nil))))) da_nil))))))) law__law_by
theorem sc__law_over_right : FnScope ["source", "n", "k", "m", "due", "j", "small"] ["source"] (defScope (top 27)) := ⟨rfl, rfl, rfl, by decide +kernel, rfl, by decide +kernel, by decide +kernel⟩
theorem ok__law_over_right (T : Txt P w K mg base) : FG P w K mg base 5 T.d__law_over_right.f T.d__law_over_right.fd ["source"] (spS K srcW sp__law_over_right) :=
  fg_okS (t := fun sa => t__law_over_right sa) T.d__law_over_right.F sc__law_over_right len__law_over_right (fun sa sc cdv A outer s H E G W Ed hW at_ po => (dss_cons (ds_par3 1 2 3 sc__law_over_right.nd (dm_dat (dx_fnS at_ hW (ok__law_far T |>.mono (by decide)) T.d__law_far.m T.d__law_far.F.kp T.d__law_far.b (da_cons (dx_var 0) da_nil)) (dm_dat (dx_fnS at_ hW (ok__law_of T |>.mono (by decide)) T.d__law_of.m T.d__law_of.F.kp T.d__law_of.b (da_cons (dx_var 0) (da_cons (dx_new (dn_lst (da_cons dx_int (da_cons dx_int (da_cons dx_int (da_cons dx_int (da_cons dx_int (da_cons dx_int da_nil)))))))) da_nil))) (dm_dat (dx_fnS at_ hW (ok__law_by T |>.mono (by decide)) T.d__law_by.m T.d__law_by.F.kp T.d__law_by.b (da_cons (dx_var 0) da_nil)) dm_nil)))) (dss_cons (ds_set 4 sc__law_over_right.nd (dx_fn at_ (ok__law_over T |>.mono (by decide)) T.d__law_over.m T.d__law_over.F.kp T.d__law_over.b (da_cons (dx_var 1) (da_cons (dx_var 2) da_nil)))) (dss_cons (ds_if (dt_w (dw_or (dt_cmp (op_neE (Nat.lt_of_le_of_lt (Nat.le_succ _) at_.hu)) dop_ne (dx_fn at_ (ok_number_over T |>.mono (by decide)) T.d_number_over.m T.d_number_over.F.kp T.d_number_over.b (da_cons (dx_var 1) (da_cons (dx_var 2) da_nil))) (dx_var 4)) (dw_or1 (dt_cmp (op_neE (Nat.lt_of_le_of_lt (Nat.le_succ _) at_.hu)) dop_ne (dx_fn at_ (ok_over_rest T |>.mono (by decide)) T.d_over_rest.m T.d_over_rest.F.kp T.d_over_rest.b (da_cons (dx_var 1) (da_cons (dx_var 2) (da_cons (dx_var 3) da_nil)))) (dx_op op_mod dop_mod (dx_ty call_intD dc_int T.z_int (da_cons (dx_var 4) da_nil)) (dx_var 3)))))) (dss_one (ds_ret dx_bool)) dss_nil) (dss_cons (ds_if (dt_cmp (op_neE (Nat.lt_of_le_of_lt (Nat.le_succ _) at_.hu)) dop_ne (dx_fn at_ (ok_number_over T |>.mono (by decide)) T.d_number_over.m T.d_number_over.F.kp T.d_number_over.b (da_cons (dx_op op_addD dop_add (dx_var 1) dx_int) (da_cons (dx_op op_addD dop_add (dx_var 2) dx_int) da_nil))) (dx_op op_addD dop_add (dx_var 4) (dx_fn at_ (ok_number_over T |>.mono (by decide)) T.d_number_over.m T.d_number_over.F.kp T.d_number_over.b (da_cons (dx_var 1) (da_cons (dx_op op_addD dop_add (dx_var 2) dx_int) da_nil))))) (dss_one (ds_ret dx_bool)) dss_nil) (dss_cons (ds_set 5 sc__law_over_right.nd (dx_fnS at_ hW (ok__law_pick T |>.mono (by decide)) T.d__law_pick.m T.d__law_pick.F.kp T.d__law_pick.b (da_cons (dx_var 0) (da_cons (dx_op op_addD dop_add (dx_var 2) dx_int) da_nil)))) (dss_cons (ds_if (dt_w (dw_and (dt_cmp op_ge dop_ge (dx_var 1) (dx_var 2)) (dw_and1 (dt_cmp (op_neE (Nat.lt_of_le_of_lt (Nat.le_succ _) at_.hu)) dop_ne (dx_op op_mulD dop_mul (dx_var 4) (dx_fn at_ (ok_number_over T |>.mono (by decide)) T.d_number_over.m T.d_number_over.F.kp T.d_number_over.b (da_cons (dx_var 2) (da_cons (dx_var 5) da_nil)))) (dx_op op_mulD dop_mul (dx_fn at_ (ok_number_over T |>.mono (by decide)) T.d_number_over.m T.d_number_over.F.kp T.d_number_over.b (da_cons (dx_var 1) (da_cons (dx_var 5) da_nil))) (dx_fn at_ (ok_number_over T |>.mono (by decide)) T.d_number_over.m T.d_number_over.F.kp T.d_number_over.b (da_cons (dx_op op_sub dop_sub (dx_var 1) (dx_var 5)) (da_cons (dx_op op_sub dop_sub (dx_var 2) (dx_var 5)) da_nil)))))))) (dss_one (ds_ret dx_bool)) dss_nil) (dss_cons (ds_set 6 sc__law_over_right.nd (dx_fnS at_ hW (ok__law_pick T |>.mono (by decide)) T.d__law_pick.m T.d__law_pick.F.kp T.d__law_pick.b (da_cons (dx_var 0) (da_cons dx_int da_nil)))) (dss_one (ds_ret (dx_and (dx_cmp (op_eqE (Nat.lt_of_le_of_lt (Nat.le_succ _) at_.hu)) dop_eq (dx_fn at_ (ok_number_over T |>.mono (by decide)) T.d_number_over.m T.d_number_over.F.kp T.d_number_over.b (da_cons (dx_var 6) (da_cons (dx_op op_addD dop_add (dx_op op_addD dop_add (dx_var 6) dx_int) (dx_fnS at_ hW (ok__law_pick T |>.mono (by decide)) T.d__law_pick.m T.d__law_pick.F.kp T.d__law_pick.b (da_cons (dx_var 0) (da_cons dx_int da_nil)))) da_nil))) dx_int) (dx_one (dx_cmp (op_eqE (Nat.lt_of_le_of_lt (Nat.le_succ _) at_.hu)) dop_eq (dx_fn at_ (ok_number_over T |>.mono (by decide)) T.d_number_over.m T.d_number_over.F.kp T.d_number_over.b (da_cons (dx_var 6) (da_cons (dx_var 6) da_nil))) dx_int))))))))))))) law__law_over_right
theorem sc__law_powers_right : FnScope ["source", "base", "m", "few", "often", "more", "due", "lap", "both", "side"] ["source"] (defScope (top 28)) := ⟨rfl, rfl, rfl, by decide +kernel, rfl, by decide +kernel, by decide +kernel⟩
theorem ok__law_powers_right (T : Txt P w K mg base) : FG P w K mg base 5 T.d__law_powers_right.f T.d__law_powers_right.fd ["source"] (spS K srcW sp__law_powers_right) :=
  fg_okS (t := fun sa => t__law_powers_right sa) T.d__law_powers_right.F sc__law_powers_right len__law_powers_right (fun sa sc cdv A outer s H E G W Ed hW at_ po => (dss_cons (ds_par2 1 2 sc__law_powers_right.nd (dm_dat (dx_op op_mulD dop_mul (dx_fnS at_ hW (ok__law_of T |>.mono (by decide)) T.d__law_of.m T.d__law_of.F.kp T.d__law_of.b (da_cons (dx_var 0) (da_cons (dx_new (dn_lst (da_cons (dx_neg dx_int) (da_cons dx_int (da_cons dx_int da_nil))))) da_nil))) (dx_fnS at_ hW (ok__law_far T |>.mono (by decide)) T.d__law_far.m T.d__law_far.F.kp T.d__law_far.b (da_cons (dx_var 0) da_nil))) (dm_dat (dx_fnS at_ hW (ok__law_by T |>.mono (by decide)) T.d__law_by.m T.d__law_by.F.kp T.d__law_by.b (da_cons (dx_var 0) da_nil)) dm_nil))) (dss_cons (ds_par3 3 4 5 sc__law_powers_right.nd (dm_dat (dx_fnS at_ hW (ok__law_pick T |>.mono (by decide)) T.d__law_pick.m T.d__law_pick.F.kp T.d__law_pick.b (da_cons (dx_var 0) (da_cons dx_int da_nil))) (dm_dat (dx_fnS at_ hW (ok__law_far T |>.mono (by decide)) T.d__law_far.m T.d__law_far.F.kp T.d__law_far.b (da_cons (dx_var 0) da_nil)) (dm_dat (dx_fnS at_ hW (ok__law_far T |>.mono (by decide)) T.d__law_far.m T.d__law_far.F.kp T.d__law_far.b (da_cons (dx_var 0) da_nil)) dm_nil)))) (dss_cons (ds_set 6 sc__law_powers_right.nd dx_int) (dss_cons (ds_for po (di_rng1 (da_cons (dx_var 3) da_nil) T.z_range) (dg_name 7 sc__law_powers_right.nd) (dss_one (ds_set 6 sc__law_powers_right.nd (dx_op op_mulD dop_mul (dx_var 6) (dx_var 1))))) (dss_cons (ds_if (dt_w (dw_or (dt_cmp (op_neE (Nat.lt_of_le_of_lt (Nat.le_succ _) at_.hu)) dop_ne (dx_fn at_ (ok_power_of T |>.mono (by decide)) T.d_power_of.m T.d_power_of.F.kp T.d_power_of.b (da_cons (dx_var 1) (da_cons (dx_var 3) da_nil))) (dx_var 6)) (dw_or1 (dt_cmp (op_neE (Nat.lt_of_le_of_lt (Nat.le_succ _) at_.hu)) dop_ne (dx_fn at_ (ok_power_rest T |>.mono (by decide)) T.d_power_rest.m T.d_power_rest.F.kp T.d_power_rest.b (da_cons (dx_var 1) (da_cons (dx_var 3) (da_cons (dx_var 2) da_nil)))) (dx_op op_mod dop_mod (dx_ty call_intD dc_int T.z_int (da_cons (dx_var 6) da_nil)) (dx_var 2)))))) (dss_one (ds_ret dx_bool)) dss_nil) (dss_cons (ds_set 8 sc__law_powers_right.nd (dx_op op_mulD dop_mul (dx_fn at_ (ok_power_rest T |>.mono (by decide)) T.d_power_rest.m T.d_power_rest.F.kp T.d_power_rest.b (da_cons (dx_var 1) (da_cons (dx_var 4) (da_cons (dx_var 2) da_nil)))) (dx_fn at_ (ok_power_rest T |>.mono (by decide)) T.d_power_rest.m T.d_power_rest.F.kp T.d_power_rest.b (da_cons (dx_var 1) (da_cons (dx_var 5) (da_cons (dx_var 2) da_nil)))))) (dss_cons (ds_if (dt_cmp (op_neE (Nat.lt_of_le_of_lt (Nat.le_succ _) at_.hu)) dop_ne (dx_fn at_ (ok_power_rest T |>.mono (by decide)) T.d_power_rest.m T.d_power_rest.F.kp T.d_power_rest.b (da_cons (dx_var 1) (da_cons (dx_op op_addD dop_add (dx_var 4) (dx_var 5)) (da_cons (dx_var 2) da_nil)))) (dx_op op_mod dop_mod (dx_ty call_intD dc_int T.z_int (da_cons (dx_var 8) da_nil)) (dx_var 2))) (dss_one (ds_ret dx_bool)) dss_nil) (dss_cons (ds_if (dt_cmp (op_neE (Nat.lt_of_le_of_lt (Nat.le_succ _) at_.hu)) dop_ne (dx_fn at_ (ok_power_rest T |>.mono (by decide)) T.d_power_rest.m T.d_power_rest.F.kp T.d_power_rest.b (da_cons (dx_op op_mod dop_mod (dx_ty call_intD dc_int T.z_int (da_cons (dx_var 1) da_nil)) (dx_var 2)) (da_cons (dx_var 4) (da_cons (dx_var 2) da_nil)))) (dx_fn at_ (ok_power_rest T |>.mono (by decide)) T.d_power_rest.m T.d_power_rest.F.kp T.d_power_rest.b (da_cons (dx_var 1) (da_cons (dx_var 4) (da_cons (dx_var 2) da_nil))))) (dss_one (ds_ret dx_bool)) dss_nil) (dss_cons (ds_if (dt_w (dw_or (dt_cmp (op_neE (Nat.lt_of_le_of_lt (Nat.le_succ _) at_.hu)) dop_ne (dx_fn at_ (ok_power_rest T |>.mono (by decide)) T.d_power_rest.m T.d_power_rest.F.kp T.d_power_rest.b (da_cons (dx_var 1) (da_cons (dx_var 4) (da_cons dx_int da_nil)))) dx_int) (dw_or (dt_cmp (op_neE (Nat.lt_of_le_of_lt (Nat.le_succ _) at_.hu)) dop_ne (dx_fn at_ (ok_power_rest T |>.mono (by decide)) T.d_power_rest.m T.d_power_rest.F.kp T.d_power_rest.b (da_cons dx_int (da_cons dx_int (da_cons (dx_var 2) da_nil)))) (dx_op op_mod dop_mod (dx_ty call_intD dc_int T.z_int (da_cons dx_int da_nil)) (dx_var 2))) (dw_or1 (dt_cmp (op_neE (Nat.lt_of_le_of_lt (Nat.le_succ _) at_.hu)) dop_ne (dx_fn at_ (ok_power_of T |>.mono (by decide)) T.d_power_of.m T.d_power_of.F.kp T.d_power_of.b (da_cons dx_int (da_cons dx_int da_nil))) dx_int))))) (dss_one (ds_ret dx_bool)) dss_nil) (dss_cons (ds_set 9 sc__law_powers_right.nd (dx_if (dt_cmp (op_eqE (Nat.lt_of_le_of_lt (Nat.le_succ _) at_.hu)) dop_eq (dx_op op_mod dop_mod (dx_ty call_intD dc_int T.z_int (da_cons (dx_var 4) da_nil)) dx_int) dx_int) dx_int (dx_neg dx_int))) (dss_one (ds_ret (dx_and (dx_cmp (op_eqE (Nat.lt_of_le_of_lt (Nat.le_succ _) at_.hu)) dop_eq (dx_fn at_ (ok_power_of T |>.mono (by decide)) T.d_power_of.m T.d_power_of.F.kp T.d_power_of.b (da_cons dx_int (da_cons (dx_op op_addD dop_add dx_int (dx_var 3)) da_nil))) dx_int) (dx_one (dx_cmp (op_eqE (Nat.lt_of_le_of_lt (Nat.le_succ _) at_.hu)) dop_eq (dx_fn at_ (ok_power_rest T |>.mono (by decide)) T.d_power_rest.m T.d_power_rest.F.kp T.d_power_rest.b (da_cons (dx_neg dx_int) (da_cons (dx_var 4) (da_cons (dx_var 2) da_nil)))) (dx_op op_mod dop_mod (dx_ty call_intD dc_int T.z_int (da_cons (dx_var 9) da_nil)) (dx_var 2)))))))))))))))))) law__law_powers_right
theorem sc__law_joined_right : FnScope ["source", "m", "k", "r", "s", "part", "multiple", "some", "n", "due", "number", "rests", "whole", "lap", "by", "bad"] ["source"] (defScope (top 29)) := ⟨rfl, rfl, rfl, by decide +kernel, rfl, by decide +kernel, by decide +kernel⟩
theorem ok__law_joined_right (T : Txt P w K mg base) : FG P w K mg base 5 T.d__law_joined_right.f T.d__law_joined_right.fd ["source"] (spS K srcW sp__law_joined_right) :=
  fg_okS (t := fun sa => t__law_joined_right sa) T.d__law_joined_right.F sc__law_joined_right len__law_joined_right (fun sa sc cdv A outer s H E G W Ed hW at_ po => (dss_cons (ds_asg (dx_tup (da_cons (dx_op op_addD dop_add dx_int (dx_fnS at_ hW (ok__law_pick T |>.mono (by decide)) T.d__law_pick.m T.d__law_pick.F.kp T.d__law_pick.b (da_cons (dx_var 0) (da_cons dx_int da_nil)))) (da_cons (dx_op op_addD dop_add dx_int (dx_fnS at_ hW (ok__law_pick T |>.mono (by decide)) T.d__law_pick.m T.d__law_pick.F.kp T.d__law_pick.b (da_cons (dx_var 0) (da_cons dx_int da_nil)))) da_nil))) (dg_tup (dgs_cons (dg_name 1 sc__law_joined_right.nd) (dgs_cons (dg_name 2 sc__law_joined_right.nd) dgs_nil)))) (dss_cons (ds_asg (dx_tup (da_cons (dx_fnS at_ hW (ok__law_pick T |>.mono (by decide)) T.d__law_pick.m T.d__law_pick.F.kp T.d__law_pick.b (da_cons (dx_var 0) (da_cons (dx_var 1) da_nil))) (da_cons (dx_fnS at_ hW (ok__law_pick T |>.mono (by decide)) T.d__law_pick.m T.d__law_pick.F.kp T.d__law_pick.b (da_cons (dx_var 0) (da_cons (dx_var 2) da_nil))) da_nil))) (dg_tup (dgs_cons (dg_name 3 sc__law_joined_right.nd) (dgs_cons (dg_name 4 sc__law_joined_right.nd) dgs_nil)))) (dss_cons (ds_set 5 sc__law_joined_right.nd (dx_fn at_ (ok__law_part T |>.mono (by decide)) T.d__law_part.m T.d__law_part.F.kp T.d__law_part.b (da_cons (dx_var 1) (da_cons (dx_var 2) da_nil)))) (dss_cons (ds_set 6 sc__law_joined_right.nd (dx_op op_fdivW dop_div (dx_op op_mulD dop_mul (dx_var 1) (dx_var 2)) (dx_var 5))) (dss_cons (ds_setLcIf 7 [("n", 8)] sc__law_joined_right.nd (di_rng1 (da_cons (dx_var 6) da_nil) T.z_range) (show blkC ["source", "m", "k", "r", "s", "part", "multiple", "some", "n", "due", "number", "rests", "whole", "lap", "by", "bad"] (defScope (top 29)) _ [("n", 8)] = true by decide +kernel) (fun _ _ _ _ _ => (dg_name 8 sc__law_joined_right.nd)) (fun _ _ _ _ _ => (dt_w (dw_and (dt_cmp (op_eqE (Nat.lt_of_le_of_lt (Nat.le_succ _) (at_.blk _ _ _ _ _ _).hu)) dop_eq (dx_op op_mod dop_mod (dx_ty call_intD dc_int T.z_int (da_cons (dx_var 8) da_nil)) (dx_var 1)) (dx_var 3)) (dw_and1 (dt_cmp (op_eqE (Nat.lt_of_le_of_lt (Nat.le_succ _) (at_.blk _ _ _ _ _ _).hu)) dop_eq (dx_op op_mod dop_mod (dx_ty call_intD dc_int T.z_int (da_cons (dx_var 8) da_nil)) (dx_var 2)) (dx_var 4)))))) (fun _ _ _ _ _ => (dx_var 8))) (dss_cons (ds_set 9 sc__law_joined_right.nd (dx_if (dt_cmp (op_neE (Nat.lt_of_le_of_lt (Nat.le_succ _) at_.hu)) dop_ne (dx_var 7) (dx_new (dn_lst da_nil))) (dx_tup (da_cons (dx_ix (dx_var 7) dx_int) (da_cons (dx_var 6) da_nil))) dx_none)) (dss_cons (ds_if (dt_w (dw_or (dt_cmp (op_neE (Nat.lt_of_le_of_lt (Nat.le_succ _) at_.hu)) dop_ne (dx_b (cr_repr at_.gd at_.hu) dc_repr T.z_repr (da_cons (dx_fn at_ (ok_rests_joined T |>.mono (by decide)) T.d_rests_joined.m T.d_rests_joined.F.kp T.d_rests_joined.b (da_cons (dx_tup (da_cons (dx_var 3) (da_cons (dx_var 1) da_nil))) (da_cons (dx_tup (da_cons (dx_var 4) (da_cons (dx_var 2) da_nil))) da_nil))) da_nil)) (dx_b (cr_repr at_.gd at_.hu) dc_repr T.z_repr (da_cons (dx_var 9) da_nil))) (dw_or1 (dt_cmp (op_neE (Nat.lt_of_le_of_lt (Nat.le_succ _) at_.hu)) dop_ne (dx_cmp op_notD dop_isNot (dx_var 9) dx_none) (dx_cmp (op_eqE (Nat.lt_of_le_of_lt (Nat.le_succ _) at_.hu)) dop_eq (dx_op op_mod dop_mod (dx_ty call_intD dc_int T.z_int (da_cons (dx_op op_sub dop_sub (dx_var 3) (dx_var 4)) da_nil)) (dx_var 5)) dx_int))))) (dss_one (ds_ret dx_bool)) dss_nil) (dss_cons (ds_par3 10 11 12 sc__law_joined_right.nd (dm_dat (dx_fnS at_ hW (ok__law_far T |>.mono (by decide)) T.d__law_far.m T.d__law_far.F.kp T.d__law_far.b (da_cons (dx_var 0) da_nil)) (dm_own (dn_lst da_nil) (dm_dat dx_int dm_nil)))) (dss_cons (ds_for po (di_rng1 (da_cons (dx_fnS at_ hW (ok__law_pick T |>.mono (by decide)) T.d__law_pick.m T.d__law_pick.F.kp T.d__law_pick.b (da_cons (dx_var 0) (da_cons dx_int da_nil))) da_nil) T.z_range) (dg_name 13 sc__law_joined_right.nd) (dss_cons (ds_set 14 sc__law_joined_right.nd (dx_op op_addD dop_add dx_int (dx_fnS at_ hW (ok__law_pick T |>.mono (by decide)) T.d__law_pick.m T.d__law_pick.F.kp T.d__law_pick.b (da_cons (dx_var 0) (da_cons dx_int da_nil))))) (dss_cons (ds_expr (dx_append 11 (dx_tup (da_cons (dx_op op_mod dop_mod (dx_ty call_intD dc_int T.z_int (da_cons (dx_var 10) da_nil)) (dx_var 14)) (da_cons (dx_var 14) da_nil))))) (dss_one (ds_set 12 sc__law_joined_right.nd (dx_op op_fdivW dop_div (dx_op op_mulD dop_mul (dx_var 12) (dx_var 14)) (dx_fn at_ (ok__law_part T |>.mono (by decide)) T.d__law_part.m T.d__law_part.F.kp T.d__law_part.b (da_cons (dx_var 12) (da_cons (dx_var 14) da_nil))))))))) (dss_cons (ds_set 9 sc__law_joined_right.nd (dx_tup (da_cons (dx_op op_mod dop_mod (dx_ty call_intD dc_int T.z_int (da_cons (dx_var 10) da_nil)) (dx_var 12)) (da_cons (dx_var 12) da_nil)))) (dss_cons (ds_if (dt_cmp (op_neE (Nat.lt_of_le_of_lt (Nat.le_succ _) at_.hu)) dop_ne (dx_b (cr_repr at_.gd at_.hu) dc_repr T.z_repr (da_cons (dx_new (dn_lst (da_cons (dx_fn at_ (ok_row_joined T |>.mono (by decide)) T.d_row_joined.m T.d_row_joined.F.kp T.d_row_joined.b (da_cons (dx_var 11) da_nil)) (da_cons (dx_fn at_ (ok_row_joined T |>.mono (by decide)) T.d_row_joined.m T.d_row_joined.F.kp T.d_row_joined.b (da_cons (dx_ty call_tuple_of dc_tuple T.z_tuple (da_cons (dx_var 11) da_nil)) da_nil)) da_nil)))) da_nil)) (dx_b (cr_repr at_.gd at_.hu) dc_repr T.z_repr (da_cons (dx_new (dn_lst (da_cons (dx_var 9) (da_cons (dx_var 9) da_nil)))) da_nil))) (dss_one (ds_ret dx_bool)) dss_nil) (dss_cons (ds_set 15 sc__law_joined_right.nd (dx_op op_addD dop_add (dx_var 11) (dx_new (dn_lst (da_cons (dx_tup (da_cons dx_int (da_cons dx_int da_nil))) (da_cons (dx_tup (da_cons dx_int (da_cons dx_int da_nil))) da_nil)))))) (dss_one (ds_ret (dx_cmp op_isD dop_is (dx_fn at_ (ok_row_joined T |>.mono (by decide)) T.d_row_joined.m T.d_row_joined.F.kp T.d_row_joined.b (da_cons (dx_var 15) da_nil)) dx_none)))))))))))))))) law__law_joined_right
theorem sc_law : FnScope ["script", "source", "lap", "one", "other", "part", "late", "m", "told", "far", "due"] ["script"] (defScope (top 30)) := ⟨rfl, rfl, rfl, by decide +kernel, rfl, by decide +kernel, by decide +kernel⟩
end
end DL.K07
set_option Elab.async false
set_option linter.all false
set_option maxRecDepth 100000
set_option maxHeartbeats 2000000
/-! k07: the source is made -/
namespace DL.K07
open PySem L2 PyProof.Rows
section
variable {P : Program} {w : World} {K : PySem.W.Frag} {mg : Str → Option Value} {base : Heap}
theorem sc__law_source : FnScope ["script", "mixed", "cell"] ["script"] (defScope (top 19)) := ⟨rfl, rfl, rfl, by decide +kernel, rfl, by decide +kernel, by decide +kernel⟩
def compOf : Stmt → Expr
  | .Return (some (.Dict _ (.Subscript e _ _ :: _) _)) _ => e
  | _ => .Name "" ⟨0, 0, 0, 0⟩
theorem len_src : ∀ vs H Q E, spSrc K vs H Q E → vs.length = (["script"] : List Str).length := by rintro vs H Q E ⟨a, ns, rfl, _⟩; rfl
theorem ok__law_source (T : Txt P w K mg base) : FG P w K mg base 1 T.d__law_source.f T.d__law_source.fd ["script"] (spSrc K) := by
  obtain ⟨oc, od, kV, doc, pm, an, cdv, ct, osl, hfd, lk, hcd⟩ := T.d__law_source.F.ex
  rw [hfd] at lk ⊢
  refine fg_of lk hcd sc__law_source len_src fun A outer s H vs Q E hr hgd hsp => ?_
  obtain ⟨a, ns, rfl, hs, hl, hQ⟩ := hsp
  refine ⟨_, pss_sem, ?_⟩
  have po := passes_of (X := BodyX P w K mg base ["script", "mixed", "cell"] "_law_source" (top 19) T.d__law_source.f cdv A outer s H E) rfl
  have r := start_ok (K := K) (N := ["script", "mixed", "cell"]) (W := Wd.nil) (F := H) (H := H) (as := [.dat (.list (ns.map PyData.int))]) (vs := [.ref a]) (by show 1 ≤ 3; decide) (.cons (.lst hs (DpAll.ints ns)) .nil) (Ext.refl H) trivial (fun a z => z.elim)
  have d1 : DS (BodyX P w K mg base ["script", "mixed", "cell"] "_law_source" (top 19) T.d__law_source.f cdv A outer s H E) ⟨H, H, Wd.nil⟩ ((defBody (top 19)).getD 0 (.Pass ⟨0, 0, 0, 0⟩)) (dSet 1 (dC (.int 11))) := ds_set 1 sc__law_source.nd dx_int
  have d2 : DS (BodyX P w K mg base ["script", "mixed", "cell"] "_law_source" (top 19) T.d__law_source.f cdv A outer s H E) ⟨H, H, Wd.nil⟩ ((defBody (top 19)).getD 1 (.Pass ⟨0, 0, 0, 0⟩))
      (dFor (dSeqI (dVar 0)) (gSet 2) (dSet 1 (dOp opMod (dB fInt (dCons (dOp opAdd (dOp opAdd (dOp opMul (dVar 1) (dC (.int 69069))) (dOp opMul (dVar 2) (dC (.int 31)))) (dC (.int 5))) dNil)) (dC (.int 2147483629))))) :=
    ds_for po (di_seq (dx_var 0)) (dg_name 2 sc__law_source.nd) (dss_one (ds_set 1 sc__law_source.nd (dx_op op_mod dop_mod (dx_ty call_intD dc_int T.z_int (da_cons (dx_op op_addD dop_add (dx_op op_addD dop_add (dx_op op_mulD dop_mul (dx_var 1) dx_int) (dx_op op_mulD dop_mul (dx_var 2) dx_int)) dx_int) da_nil)) dx_int)))
  have d3 : DN (BodyX P w K mg base ["script", "mixed", "cell"] "_law_source" (top 19) T.d__law_source.f cdv A outer s H E) ⟨H, H, Wd.nil⟩ (compOf ((defBody (top 19)).getD 2 (.Pass ⟨0, 0, 0, 0⟩))) (dLc (dSeqI (dVar 0)) (gSet 2) dYes (dB fAbs (dCons (dVar 2) dNil)) [2]) :=
    dn_lc [("cell", 2)] sc__law_source.nd (di_seq (dx_var 0)) (show blkC ["script", "mixed", "cell"] (defScope (top 19)) _ [("cell", 2)] = true by decide +kernel) (fun _ _ _ _ _ => dg_name 2 sc__law_source.nd) (fun _ _ _ _ _ => dx_b call_abs dc_abs T.z_abs (da_cons (dx_var 2) da_nil))
  refine semSs_of (pss_cons ps_sem (pss_cons ps_sem (pss_one (ps_ret (pe_disp (pps_cons pe_str (pe_revL pe_sem) (pps_cons pe_str pe_int (pps_cons pe_str (pe_var (i := 1) rfl (.inl rfl)) (pps_cons pe_str pe_int pps_nil)))) rfl rfl (by decide) (by decide)))))) ?_
  refine semS_le (d1 H (fun _ => none) _ H _ { nx := fun δ => δ = [.dat (.list (ns.map PyData.int)), .dat (.int 11), .emp], rt := fun _ => False } r rfl) ⟨fun σ1 H1 ⟨F1, O1, δ1, e1, r1, q1⟩ => ?_, fun v H1 ⟨_, _, _, _, _, _, _, _, z⟩ => z.elim, fun _ _ ⟨_, _, _, _, _, z⟩ => z.elim, fun _ _ ⟨_, _, _, _, _, z⟩ => z.elim⟩
  subst q1
  refine semS_le (d2 F1 O1 σ1 H1 _ { nx := fun δ => ∃ (m : Int) (s : SV), (s = .emp ∨ ∃ d, s = .dat d) ∧ δ = [.dat (.list (ns.map PyData.int)), .dat (.int m), s], rt := fun _ => False } r1 ?_) ⟨fun σ2 H2 ⟨F2, O2, δ2, e2, r2, m, s2, hs2, q2⟩ => ?_, fun v H1 ⟨_, _, _, _, _, _, _, _, z⟩ => z.elim, fun _ _ ⟨_, _, _, _, _, z⟩ => z.elim, fun _ _ ⟨_, _, _, _, _, z⟩ => z.elim⟩
  · conv => whnf
    refine forWp_inv (fun items δ => (∃ ks : List Int, items = ks.map PyData.int) ∧ ∃ (m : Int) (s : SV), (s = .emp ∨ ∃ d, s = .dat d) ∧ δ = [.dat (.list (ns.map PyData.int)), .dat (.int m), s]) ⟨⟨ns, rfl⟩, 11, .emp, .inl rfl, rfl⟩ (fun d ds δ P ⟨⟨ks, e⟩, m, s, _, h⟩ kk => ?_) fun δ ⟨_, h⟩ => h
    subst h
    match ks, e with
    | k :: ks, e =>
      obtain ⟨rfl, rfl⟩ := List.cons.inj e
      conv => whnf
      refine ⟨mul_r (by decide) (by decide), ?_⟩
      conv => whnf
      refine ⟨mul_r (by decide) (by decide), ?_⟩
      conv => whnf
      refine ⟨by decide, ?_⟩
      conv => whnf
      exact kk _ ⟨⟨ks, rfl⟩, _, _, .inr ⟨_, rfl⟩, rfl⟩
  · subst q2
    intro p hp
    have hH : ∀ b o, H b = some o → H2 b = some o := fun b o e => r2.bas b o e fun z => z.elim
    have np : H p = none := by
      cases q : H p with
      | none => rfl
      | some o => rw [hH p o q] at hp; cases hp
    have ra := r2.alloc hp (.dK [])
    have la := r2.loose hp (.dK [])
    have rb := ra.take la (c := .dk []) .nil
    refine sem_mono (d3 F2 _ σ2 _ _ (fun c _ => ∃ ms : List Int, c = .lst (ms.map PyData.int)) rb ?_) fun v H3 ⟨F3, O3, δ3, c, ho, oc, e3, r3, st3, ev, l3, hc, ms, q3⟩ => ?_
    · have lc : ∀ sl : SV, lcWp (gSet 2) dYes (dB fAbs (dCons (dVar 2) dNil)) [2] (ns.map PyData.int) [] [.dat (.list (ns.map PyData.int)), .dat (.int m), .emp] fun acc δ2 => unwipeK [.dat (.list (ns.map PyData.int)), .dat (.int m), sl] δ2 [2] (fun _ => ∃ ms : List Int, OC.lst acc = .lst (ms.map PyData.int)) := by
        intro sl
        refine lcWp_inv (fun items acc δ => (∃ ks : List Int, items = ks.map PyData.int) ∧ (∃ ms : List Int, acc = ms.map PyData.int) ∧ acc.length + items.length ≤ 1000 ∧ δ = [.dat (.list (ns.map PyData.int)), .dat (.int m), .emp]) ⟨⟨ns, rfl⟩, ⟨[], rfl⟩, by rw [List.length_map]; show 0 + _ ≤ _; omega, rfl⟩ (fun d ds acc δ P ⟨⟨ks, e⟩, ⟨ms, e2⟩, hlen, h⟩ kk => ?_) fun acc δ ⟨_, ⟨ms, e2⟩, _, h⟩ => ?_
        · subst h e2
          match ks, e with
          | k :: ks, e =>
            obtain ⟨rfl, rfl⟩ := List.cons.inj e
            rw [List.length_cons] at hlen
            conv => whnf
            refine ⟨fun _ => ?_, fun z => (by cases z)⟩
            conv => whnf
            refine ⟨by omega, ?_⟩
            conv => whnf
            refine kk _ _ ⟨⟨ks, rfl⟩, ⟨ms ++ [(k.natAbs : Int)], by rw [List.map_append]; rfl⟩, by rw [List.length_append]; show _ + 1 + _ ≤ _; omega, rfl⟩
        · subst h e2
          conv => whnf
          exact ⟨ms, rfl⟩
      rcases hs2 with h | ⟨d, h⟩ <;> subst h <;> conv => whnf
      · exact lc _
      · exact lc _
    · subst ev q3
      have hp3 : O3 p = some (.dk []) := st3.keep p _ updO_same (ra.noSlot la.o)
      obtain ⟨_, _, _, ho2, hh, hc2⟩ := r3.own p _ hp3
      have pH3 : H3 p = some (.dK []) := by
        cases ho2 with
        | dK ws => cases hc2; exact hh
        | _ => exact hc2.elim
      have cH3 : ∃ vs : List Int, H3 c = some (.lst (vs.map V.int)) := by
        cases ho with
        | lst vs => exact ⟨ms, by rw [l3.h]; congr 2; exact DpAll.ints_inv hc⟩
        | _ => exact hc.elim
      obtain ⟨cs, cH3⟩ := cH3
      refine ⟨c, _, rfl, SqL.of cH3, fun p2 hp2 => ?_⟩
      have hH3 : ∀ b o, H b = some o → H3 b = some o := fun b o e => r3.bas b o e fun z => z.elim
      have np2 : H p2 = none := by
        cases q : H p2 with
        | none => rfl
        | some o => rw [hH3 p2 o q] at hp2; cases hp2
      have ne : p ≠ p2 := fun z => by rw [← z, pH3] at hp2; cases hp2
      have s1 : ∃ o, σ2[1]? = some o ∧ SlotOk K F2 O2 (.dat (.int m)) o := r2.slot_at rfl
      obtain ⟨o, ho1, v, rfl, hv⟩ := s1
      cases hv
      refine ⟨.int m, ho1, ?_⟩
      refine ⟨by rw [upd_ne ne]; exact pH3, [(.inr "cells", .ref p2), (.inr "left", .int 1), (.inr "mixed", .int m), (.inr "turn", .int 0)], rfl, by show 4 ≤ 15; decide, ?_⟩
      have em : mergeK [] [(.inr "cells", .ref p2), (.inr "left", .int 1), (.inr "mixed", .int m), (.inr "turn", .int 0)] = srcKv p2 1 m 0 := by
        unfold srcKv mergeK; rfl
      rw [em]
      refine hQ p p2 _ np np2 (fun b o e => ?_) ⟨ne, cs.reverse, 1, m, 0, ⟨upd_same, ?_⟩⟩
      · rw [upd_ne (ne_of_none e np), upd_ne (ne_of_none e np2)]
        exact hH3 b o e
      · rw [upd_ne (Ne.symm ne), upd_same, List.map_reverse]
end
end DL.K07
set_option Elab.async false
set_option linter.all false
set_option maxRecDepth 100000
set_option maxHeartbeats 2000000
/-! k07: what is told, or the number of what is great -/
namespace DL.K07
open PySem L2 PyProof.Rows LamX
def xGreat (CS : Addr) (Q : VK) : XK := fun cls d H' => cls = .ref CS ∧ ∃ (dd : Addr) (n : Int), d = some dd ∧ H' dd = some (.xd [("number", .int n)]) ∧ ∀ p, H' p = none → Q (.ref p) (upd H' p (.tup [.str "great", .int n]))
def TTg (CS : Addr) : (XK → Hp → VK → Prop) → Hp → VK → Prop := fun tl H Q =>
  tl (xGreat CS Q) H (fun v H' => [V.str "told", v].length ≤ sizeLine ∧ ∀ p, H' p = none → Q (.ref p) (upd H' p (.tup [.str "told", v])))
theorem pe_len {X : Cx} {e : Expr} {te : TE} (n : Nat) (hn : X.N.length = n) (h : PE X e te) : PE X e (fun σ H Q => σ.length = n → te σ H Q) := ⟨fun pins s σ H Q I q => h.run pins s σ H Q I (q (I.len.trans hn))⟩
theorem great_gives {X : Cx} {g CS : Addr} {cdg : Value} {q : Str} (hm : X.mg "TooGreat" = some (.ref CS)) (T : XfC X.K CS) (hno : PySem.W.findIn X.K (.ref CS) "number" = some none) (hself : PySem.W.exmOne X.K (.ref CS) (.ref CS) = some true) :
    GivesTo X ["call", "error"] "_law_great" (defScope (top 25)) g cdg (defBody (top 25)) "call" q (TTg CS) := by
  intro f c' s H Q tl act hc h
  refine ⟨_, pss_one (ps_try_as (X := (cxOf C8.CX0 X.prog X.w X.K X.mg X.base ["call", "error"] "_law_great" (defScope (top 25)) g cdg X.A X.stack s H C8.E0).nox) (c := .ref CS) (i := 1)
      (tb := fun W D σ H => ∃ Ech : XK, (∀ cls d σ' H', Ech cls d H' → W cls d σ' H') ∧ σ[0]? = some (some (.ref f)) ∧ H c' = some (CodeO c' q) ∧ tl Ech H fun v H' => [V.str "told", v].length ≤ sizeLine ∧ ∀ p, H' p = none → D.rt (.ref p) (upd H' p (.tup [.str "told", v])))
      rfl rfl (show (["call", "error"] : List Str).Nodup by decide) rfl rfl ⟨rfl, by decide, .inl hm⟩ L2.takes0 (fun W pn xe tk _ => ?_) (fun a oe cls d pn z fl => pss_one (ps_ret (pe_tup (pa_cons pe_str (pa_cons (pe_xf T hno z fl (pe_len 2 rfl (pe_var (i := 1) (x := "error") rfl (.inl rfl)))) pa_nil)))))), ?_⟩
  · refine ⟨fun pins s' σ H' D I h' => ?_⟩
    obtain ⟨Ech, hW, h1, h2, h3⟩ := h'
    refine (pss_one (ps_ret (pe_tup (pa_cons pe_str (pa_cons (act W pn xe Ech _ _ tk hW) pa_nil))))).run pins s' σ H' D I ?_
    exact ⟨h1, h2, h3⟩
  · refine ⟨xGreat CS Q, fun cls d σ' H' hx => ?_, rfl, hc, h⟩
    obtain ⟨rfl, dd, n, rfl, hd, hp⟩ := hx
    refine ⟨true, hself, fun _ a _ hl => ⟨.ref a, ?_, rfl, rfl, dd, _, _, rfl, hd, rfl, by show 2 ≤ sizeLine; decide, hp⟩, fun z => (by cases z)⟩
    have hl2 : (σ'.set 1 (some (.ref a))).length = 2 := hl
    rw [List.length_set] at hl2
    exact List.getElem?_set_self (by omega)
end DL.K07
set_option Elab.async false
set_option linter.all false
set_option maxRecDepth 100000
set_option maxHeartbeats 2000000
/-! k07: the law, to its last statement and through it -/
namespace DL.K07
open PySem L2 PyProof.Rows LamX
def tabW (P : Addr) : Wd where
  inv := fun H => H P = some (.tbl #[])
  fp := fun a => a = P
  trk := fun H a h z => by rw [z, h]; simp
  stay := fun H H' h k => (k P rfl).trans h
/-- statements, to ends told for good -/
def DZ (X : Cx) (N : Ends) (G : Ctx) (sts : List Stmt) (t : DSt → Prop) : Prop := ∀ (F : Hp) (O : Addr → Option OC) (σ : L2.St) (H : Hp) (δ : DSt), R X.K G F O σ H δ → t δ → tSemSs X sts N σ H
def dz0 (q : DSt → Prop) : DEnds := { nx := q, rt := fun _ => False }
section
variable {X : Cx} {G : Ctx} {N : Ends} {st : Stmt} {sts : List Stmt} {t1 : DTS} {t2 : DSt → Prop}
theorem dz_cons (h1 : DS X G st t1) (h2 : DZ X N G sts t2) : DZ X N G (st :: sts) (t1 (dz0 t2)) := fun F O σ H δ rr q => by
  refine semSs_of (pss_cons ps_sem pss_sem) (semS_le (h1 F O σ H δ _ rr q) ⟨fun σ' H' ⟨F2, O2, δ2, e2, r2, q2⟩ => h2 F2 O2 σ' H' δ2 r2 q2, fun v H' ⟨_, _, _, _, _, _, _, _, z⟩ => z.elim, fun _ _ ⟨_, _, _, _, _, z⟩ => z.elim, fun _ _ ⟨_, _, _, _, _, z⟩ => z.elim⟩)
theorem dz_srcNew {x y : Str} {x' : Stmt} {ps : List Str} {k : Nat} {W : WX} {we : Wsh} {p p1 p2 pos pos' : Pos} {rest : Addr → DSt → Prop} (i j : Nat) {d : Df X.K X.mg "_law_source" x' ps} (at_ : At X G k W we) (Fn : FG X.prog X.w X.K X.mg X.base k d.f d.fd ps (spSrc X.K)) (hN : X.N.Nodup)
    (hr : ∀ (sa sc : Addr) (G1 : Ctx), G1.B = G.B → G1.W = G.W.and (srcW sa sc) → At X G1 k W we → DZ X N G1 sts (rest sa))
    (hi : X.N[i]? = some x := by rfl) (hj : X.N[j]? = some y := by rfl) (hx : Loc X.env.scope x := by first | exact Or.inl rfl | exact Or.inr rfl) (hv : Vis X.env.scope y := by first | exact Or.inl rfl | exact Or.inr (Or.inl rfl) | exact Or.inr (Or.inr rfl)) (hd : (y == ("__debug__" : Str)) = false := by decide) (hcd : (y == ("__classdict__" : Str)) = false := by decide)
    (hs : swapsWith (.Call (.Name "_law_source" p) [.Name y p2] [] pos') (some (.Name x p1)) pos.line X.env = pure false := by rfl) (hf : X.fn x = true ∨ X.env.scope.names.lookup x = some .local := by first | exact .inl rfl | exact .inr rfl | assumption)
    (hg : Gl X "_law_source" := by rfl) (he : starEach [.Name y p2] X.env = (false, eval (.Name y p2) X.env) :: starEach [] X.env := by rfl) :
    DZ X N G (.Assign [.Name x p1] (.Call (.Name "_law_source" p) [.Name y p2] [] pos') pos :: sts) (fun δ => ∃ ns : List Int, δ[j]? = some (.dat (.list (ns.map PyData.int))) ∧ ns.length ≤ 1000 ∧ ∀ sa, withSet δ i (.raw (.ref sa)) (rest sa)) := fun F O σ H δ rr ⟨ns, hns, hl, q⟩ => by
  obtain ⟨o, ho, v, rfl, hv1⟩ := rr.slot_at hns
  cases hv1 with
  | @lst a xs _ hs1 ha1 =>
    cases ha1.ints_inv
    refine semSs_of (pss_cons (ps_set hN hi hx (pe_callG (E := WE W) Fn at_.room at_.gd hg d.m d.F.kp d.b (fun σ => passAt at_.tk σ) (pa_cons (pe_var hj hv hd hcd) pa_nil he)) hs hf) pss_sem) ?_
    refine ⟨_, ho, a, ns, rfl, rr.ext.sql hs1, hl, fun src c H' h1 h2 hk hi' => ?_⟩
    have r1 := rr.enterW h1 h2 hk hi'
    have r2 := r1.setRaw (i := i) (v := .ref src)
    have fpB : ∀ a, (srcW src c).fp a → G.B a = none := fun a z => by
      rcases z with z | z
      · rw [z]; exact rr.notB h1
      · rw [z]; exact rr.notB h2
    have at1 : At X { G with W := G.W.and (srcW src c) } k W we := ⟨⟨at_.room, at_.tk, fun F O σ H δ x dd r hx q => at_.wo F O σ H δ x dd (r.leaveW fpB) hx q⟩, at_.gd⟩
    exact hr src c { G with W := G.W.and (srcW src c) } rfl rfl at1 F O _ H' _ r2 (withSet_ok (q src))
end
def spLaw (K : PySem.W.Frag) (Pt : Addr) : Sp := fun vs H Q _ => ∃ (a : Addr) (ns : List Int), vs = [.ref a] ∧ SqL K H a (ns.map V.int) ∧ ns.length ≤ 1000 ∧ H Pt = some (.tbl #[]) ∧ ∀ H', Q (.bl true) H'
section
variable {P : Program} {w : World} {K : PySem.W.Frag} {mg : Str → Option Value} {base : Heap}
abbrev lawN : List Str := ["script", "source", "lap", "one", "other", "part", "late", "m", "told", "far", "due"]
/-- the body of the lambda -/
theorem lam_body (T : Txt P w K mg base) {X : Cx} (hP : X.prog = P) (hw : X.w = w) (hK : X.K = K) (hmg : X.mg = mg) (hbase : X.base = base) (hN : X.N = lawN) {scope : Scope} {A : Around} {outer : List Env} {s : Shared} {H : Hp} {E : XK} {f c' : Addr} {p1 p2 p3 : Pos}
    (hg : scope.names.lookup ("not_long" : Str) = some NameKind.globalImplicit) (hv : scope.names.lookup ("far" : Str) = some NameKind.free) (hr : Room 3 (A.deeper (lamEnv X scope s.heap.objs.size f c'))) :
    PE (lamCx X A outer s H E scope f c') (.Call (.Name "not_long" p1) [.Name "far" p2] [] p3) (tCallS (spX K Wd.nil (sp_not_long T.x_TooGreat.C)) (WE fun cls d _ H => E cls d H) (tCons (tVar 9) tNil)) := by
  subst hP hw hK hmg hbase
  exact pe_callS (X := lamCx X A outer s H E scope f c') (ok_not_long T) hr hg T.d_not_long.m T.d_not_long.F.kp T.d_not_long.b (fun σ => passAt (takes_of (X := lamCx X A outer s H E scope f c') (E := E) rfl rfl rfl rfl) σ) (pa_cons (pe_var (i := 9) (x := "far") (by show X.N[9]? = _; rw [hN]; rfl) (.inr (.inr hv))) pa_nil)
end
end DL.K07
set_option Elab.async false
set_option linter.all false
set_option maxRecDepth 100000
set_option maxHeartbeats 400000
set_option exponentiation.threshold 5000
/-! k07: the law's last statement -/
namespace DL.K07
open PySem L2 PyProof.Rows LamX
section
variable {P : Program} {w : World} {K : PySem.W.Frag} {mg : Str → Option Value} {base : Heap}
def dueD (far : Int) : D := if far = 10 ^ 300 then .tuple [.str "great", .int 0] else .tuple [.str "told", .int far]
def lastS : Stmt := (defBody (top 30)).getD 14 (.Pass ⟨0, 0, 0, 0⟩)
def lastR : Stmt → Expr
  | .Return (some (.BoolOp _ [.Compare _ _ [e] _, _] _)) _ => e
  | _ => .Name "" ⟨0, 0, 0, 0⟩
def lastB : Stmt → Expr
  | .Return (some (.BoolOp o [_, b] p)) _ => .BoolOp o [b] p
  | _ => .Name "" ⟨0, 0, 0, 0⟩
theorem far_bits : Builtin.Int.intBits (10 ^ 300 - 1) = 997 ∧ Builtin.Int.intBits (10 ^ 300) = 997 := by decide +kernel
theorem isLong_far {far : Int} (h : far = 10 ^ 300 - 1 ∨ far = 10 ^ 300) : isLong far = decide (far = 10 ^ 300) := by
  have hp : (0 : Int) < 10 ^ 300 := by decide +kernel
  have hb : Builtin.Int.intBits far = 997 := by
    rcases h with h | h
    · rw [h]; exact far_bits.1
    · rw [h]; exact far_bits.2
  have hn : ((far.natAbs : Nat) : Int) = far := by omega
  have hl := (far_facts h).2
  unfold isLong
  rw [hb, hn]
  have hl' : (((toString far : Str).length : Nat) ≤ 300) ↔ far = 10 ^ 300 - 1 := hl
  have e1 : decide ((997 : Int) < ((997 : Nat) : Int)) = false := by decide
  rw [e1, Bool.false_or]
  have : ((300 : Int) < (((toString far : Str).length : Nat) : Int)) ↔ far = 10 ^ 300 := by omega
  exact decide_eq_decide.mpr this
theorem isLong_neg (i : Int) : isLong (0 - i) = isLong i := by
  have e : (0 - i).natAbs = i.natAbs := by omega
  have e2 : Builtin.Int.intBits (0 - i) = Builtin.Int.intBits i := by
    unfold Builtin.Int.intBits
    rw [e]
    by_cases z : i = 0
    · subst z; rfl
    · have z2 : ¬ (0 - i = 0) := by omega
      simp [z, z2]
  unfold isLong
  rw [e, e2]
theorem dueD_show {far : Int} (h : far = 10 ^ 300 - 1 ∨ far = 10 ^ 300) : canShow (dueD far) := by
  have hb := (far_facts h).1
  have hp : (0 : Int) < 10 ^ 300 := by decide +kernel
  have hq : ((10 ^ 300 : Nat) : Int) = 10 ^ 300 := by rw [Int.natCast_pow]; rfl
  have hl : far.natAbs < 10 ^ 301 := by
    have : (10 ^ 300 : Nat) < 10 ^ 301 := Nat.pow_lt_pow_right (by decide) (by decide)
    omega
  have ht := int_text_length_le10 (k := 301) (a := far) (by decide) hl
  have hlog : far.natAbs.log2 < 1000 := by
    refine log2_lt ?_ (by decide)
    have : (10 ^ 300 : Nat) < 2 ^ 1000 := by decide +kernel
    omega
  have pair : ∀ (x : Str) (i : Int), x.cps.toList.all (fun c => decide (c < 16 ^ 8)) = true → x.cps.size ≤ 10 → i.natAbs.log2 < 1920 → (PyData.int i).leavesShort 400 = true → (PyData.int i).weight ≤ 1100 → canShow (.tuple [.str x, .int i]) := by
    intro x i h1 h2 h3 h4 h5
    refine canShow_of ?_ rfl (by show 1 ≤ 64; decide) ?_ ?_
    · show (true && (PyData.showable (.int i) && true)) = true
      have : PyData.showable (.int i) = true := by unfold PyData.showable; exact decide_eq_true h3
      rw [this]; rfl
    · show (x.cps.toList.all (fun c => decide (c < 16 ^ 8)) && (PyData.leavesShort 400 (.int i) && true)) = true
      rw [h1, h4]; rfl
    · show x.cps.size + 1 + (PyData.weight (.int i) + 1 + 0) ≤ 2 ^ 14
      have e : (2 : Nat) ^ 14 = 16384 := by decide
      omega
  unfold dueD
  by_cases z : far = 10 ^ 300
  · rw [if_pos z]
    exact pair _ _ (by decide) (by decide) (by decide) (by decide +kernel) (by decide)
  · rw [if_neg z]
    refine pair _ _ (by decide) (by decide) hb ?_ ?_
    · unfold PyData.leavesShort
      refine decide_eq_true ?_
      show (Str.ofString (toString far)).length ≤ 400
      rw [PySem.ofString_length]
      omega
    · unfold PyData.weight
      split <;> omega
theorem carry_all {F H2 : Hp} {x : Str} {i : Int} {xs : List V} (h : DpAll K F xs [.str x, .int i]) : DpAll K H2 xs [.str x, .int i] := by
  cases h with
  | cons h1 h2 =>
    cases h2 with
    | cons h3 h4 =>
      cases h1
      cases h3
      cases h4
      exact .cons (.str _) (.cons (.int _) .nil)
theorem carry_seq {F H2 : Hp} {a : Addr} {xs : List V} (k : ∀ b o, F b = some o → (∀ ps, o ≠ .tbl ps) → H2 b = some o) (hs : SqT K F a xs) : SqT K H2 a xs := by
  rcases hs with hs | hs
  · refine .inl ?_
    rcases hs with hs | ⟨o, hs⟩
    · exact .inl (k _ _ hs fun ps z => by cases z)
    · exact .inr ⟨o, k _ _ hs fun ps z => by cases z⟩
  · exact .inr hs
theorem carry_tup {F H2 : Hp} {v : V} {x : Str} {i : Int} (k : ∀ b o, F b = some o → (∀ ps, o ≠ .tbl ps) → H2 b = some o) (h : Dp K F v (.tuple [.str x, .int i])) : Dp K H2 v (.tuple [.str x, .int i]) := by
  cases h with
  | tup hs ha => exact .tup (carry_seq k hs) (carry_all ha)
theorem dueD_or (far : Int) : (far = 10 ^ 300 ∧ dueD far = .tuple [.str "great", .int 0]) ∨ (far ≠ 10 ^ 300 ∧ dueD far = .tuple [.str "told", .int far]) := by
  by_cases z : far = 10 ^ 300
  · exact .inl ⟨z, if_pos z⟩
  · exact .inr ⟨z, if_neg z⟩
theorem carry_due {far : Int} {F H2 : Hp} {v : V} (k : ∀ b o, F b = some o → (∀ ps, o ≠ .tbl ps) → H2 b = some o) (h : Dp K F v (dueD far)) : Dp K H2 v (dueD far) := by
  rcases dueD_or far with ⟨_, e⟩ | ⟨_, e⟩
  · rw [e] at h ⊢
    exact carry_tup k h
  · rw [e] at h ⊢
    exact carry_tup k h
theorem key_last (T : Txt P w K mg base) {fa c : Addr} {A : Around} {outer : List Env} {s : Shared} {H0 : Hp} {E : XK} {N : Ends} {G : Ctx} {W : WX} {we : Wsh}
    (at_ : At (BodyX P w K mg base lawN "law" (top 30) fa (.ref c) A outer s H0 E) G 6 W we) (hN : ∀ H', N.rt (.bl true) H') {σ : L2.St} {far : Int} {v10 : V} (hfar : far = 10 ^ 300 - 1 ∨ far = 10 ^ 300)
    (hl : σ.length = 11) (h9 : σ[9]? = some (some (.int far))) (h10 : σ[10]? = some (some v10)) (H2 : Hp) (hd : Dp K H2 v10 (dueD far)) :
    tSem (BodyX P w K mg base lawN "law" (top 30) fa (.ref c) A outer s H0 E) (lastR lastS) σ H2 (fun y H3 => rEqE K (.str (dueD far).shown) y H3 fun x H1 => ∃ c1, x = .bl c1 ∧ if c1 = true then tSem (BodyX P w K mg base lawN "law" (top 30) fa (.ref c) A outer s H0 E) (lastB lastS) σ H1 N.rt else N.rt (.bl false) H1) := by
  have hu : (BodyX P w K mg base lawN "law" (top 30) fa (.ref c) A outer s H0 E).A.units + 65 < cLine := at_.hu
  have hslot : ∀ (i : Nat) (s : SV) (o : Option V), ([.emp, .emp, .emp, .emp, .emp, .emp, .emp, .emp, .emp, .dat (.int far), .dat (dueD far)] : DSt)[i]? = some s → σ[i]? = some o → SlotOk K H2 (fun _ => none) s o := by
    intro i s o h1 h2
    match i, h1, h2 with
    | 0, h1, _ | 1, h1, _ | 2, h1, _ | 3, h1, _ | 4, h1, _ | 5, h1, _ | 6, h1, _ | 7, h1, _ | 8, h1, _ => cases h1; trivial
    | 9, h1, h2 => cases h1; rw [h9] at h2; cases h2; exact ⟨_, rfl, .int far⟩
    | 10, h1, h2 => cases h1; rw [h10] at h2; cases h2; exact ⟨_, rfl, hd⟩
  have hsep : ∀ (i : Nat) (c' : OC), ([.emp, .emp, .emp, .emp, .emp, .emp, .emp, .emp, .emp, .dat (.int far), .dat (dueD far)] : DSt)[i]? = some (.own c') → False := by
    intro i c' z
    match i, z with
    | 0, z | 1, z | 2, z | 3, z | 4, z | 5, z | 6, z | 7, z | 8, z | 9, z | 10, z => cases z
  have r : R K ⟨fun _ => none, H2, Wd.nil⟩ H2 (fun _ => none) σ H2 [.emp, .emp, .emp, .emp, .emp, .emp, .emp, .emp, .emp, .dat (.int far), .dat (dueD far)] :=
    ⟨by rw [hl]; rfl, Ext.refl H2, Ext.refl H2, fun _ _ z => .inl z, fun _ _ z => (by cases z), trivial, fun _ z => z.elim, fun _ _ z => (by cases z), hslot, fun i j a ⟨⟨c', z⟩, _⟩ _ => (hsep i c' z).elim⟩
  have dR : DX (BodyX P w K mg base lawN "law" (top 30) fa (.ref c) A outer s H0 E) ⟨fun _ => none, H2, Wd.nil⟩ (lastR lastS) (dB fRepr (dCons (dVar 10) dNil)) := dx_b (cr_repr at_.gd hu) dc_repr T.z_repr (da_cons (dx_var 10) da_nil)
  have at2 : AtN (BodyX P w K mg base lawN "law" (top 30) fa (.ref c) A outer s H0 E) ⟨fun _ => none, H2, Wd.nil⟩ 6 (fun _ _ _ _ => False) (fun _ _ => False) := ⟨at_.room, L2.takes0, wo0⟩
  have dB2 : DX (BodyX P w K mg base lawN "law" (top 30) fa (.ref c) A outer s H0 E) ⟨fun _ => none, H2, Wd.nil⟩ (lastB lastS) (dOp opEq (dCall sp_is_long (fun _ _ => False) (dCons (dOp opSub (dC (.int 0)) (dVar 9)) dNil)) (dOp opEq (dOp opIx (dVar 10) (dC (.int 0))) (dC (.str "great")))) :=
    dx_one (dx_cmp (op_eqE (Nat.lt_of_le_of_lt (Nat.le_succ _) hu)) dop_eq (dx_fnN (AtN.mono at2 (by decide)) (ok_is_long T) T.d_is_long.m T.d_is_long.F.kp T.d_is_long.b (da_cons (dx_op op_sub dop_sub dx_int (dx_var 9)) da_nil)) (dx_cmp (op_eqE (Nat.lt_of_le_of_lt (Nat.le_succ _) hu)) dop_eq (dx_ix (dx_var 10) dx_int) dx_str))
  refine sem_mono (dR H2 _ σ H2 _ (fun av δ => av = .dat (.str (dueD far).shown) ∧ δ = [.emp, .emp, .emp, .emp, .emp, .emp, .emp, .emp, .emp, .dat (.int far), .dat (dueD far)]) r ?_) fun y H3 ⟨F3, O3, δ3, av, e3, r3, s3, ha, hav, hδ⟩ => ?_
  · conv => whnf
    exact ⟨dueD_show hfar, rfl, rfl⟩
  · subst hav hδ
    cases ha
    refine .inr ⟨_, _, rfl, rfl, _, rfl, ?_⟩
    rw [beq_self_eq_true, if_pos rfl]
    refine sem_mono (dB2 F3 _ σ H3 _ (fun av δ => av = .dat (.bool true)) r3 ?_) fun y H4 ⟨F4, O4, δ4, av, e4, r4, s4, ha, hav⟩ => ?_
    · unfold dueD
      by_cases z : far = 10 ^ 300
      · rw [if_pos z]
        conv => whnf
        refine ⟨_, rfl, ?_⟩
        conv => whnf
        refine ⟨.str "great", atI_nat (j := 0) rfl, ?_⟩
        conv => whnf
        have e1 : isLong (0 - far) = true := by rw [isLong_neg, isLong_far hfar]; exact decide_eq_true z
        have e2 : PyData.eqv (.str "great") (.str "great") = true := eqvS _
        rw [e1, e2]
        refine ⟨⟨rfl, rfl⟩, ?_⟩
        show AV.dat (.bool (PyData.eqv (.bool true) (.bool true))) = _
        rw [show PyData.eqv (.bool true) (.bool true) = true by simp [PyData.eqv]]
      · rw [if_neg z]
        conv => whnf
        refine ⟨_, rfl, ?_⟩
        conv => whnf
        refine ⟨.str "told", atI_nat (j := 0) rfl, ?_⟩
        conv => whnf
        have e1 : isLong (0 - far) = false := by rw [isLong_neg, isLong_far hfar]; exact decide_eq_false z
        have e2 : PyData.eqv (.str "told") (.str "great") = false := by
          unfold PyData.eqv
          decide
        rw [e1, e2]
        refine ⟨⟨rfl, rfl⟩, ?_⟩
        show AV.dat (.bool (PyData.eqv (.bool false) (.bool false))) = _
        rw [show PyData.eqv (.bool false) (.bool false) = true by simp [PyData.eqv]]
    · subst hav
      cases ha
      exact hN H4
theorem dz_last (T : Txt P w K mg base) {fa c Pt : Addr} {A : Around} {outer : List Env} {s : Shared} {H0 : Hp} {E : XK} {N : Ends} {G : Ctx} {W : WX} {we : Wsh} {V : Wd} (TB : TabB base mg c Pt)
    (at_ : At (BodyX P w K mg base lawN "law" (top 30) fa (.ref c) A outer s H0 E) G 6 W we) (hW : G.W = (tabW Pt).and V) (hN : ∀ H', N.rt (.bl true) H') :
    DZ (BodyX P w K mg base lawN "law" (top 30) fa (.ref c) A outer s H0 E) N G [(defBody (top 30)).getD 14 (.Pass ⟨0, 0, 0, 0⟩)]
      (fun δ => ∃ (s0 s1 a b c d e f g : SV) (far : Int), (far = 10 ^ 300 - 1 ∨ far = 10 ^ 300) ∧ δ = [s0, s1, a, b, c, d, e, f, g, .dat (.int far), .dat (dueD far)]) := by
  rintro F O σ H δ rr ⟨s0, s1, a, b, c0, d, e, f, g, far, hfar, rfl⟩
  have hP : H Pt = some (.tbl #[]) := by
    have q := rr.inv
    rw [hW] at q
    exact q.1
  obtain ⟨o9, h9, v9, rfl, d9⟩ := rr.slot_at (i := 9) (s := .dat (.int far)) rfl
  obtain ⟨o10, h10, v10, rfl, d10⟩ := rr.slot_at (i := 10) (s := .dat (dueD far)) rfl
  cases d9
  obtain ⟨oc, od, kV, doc, pm, an, cdv, ct, osl, hfd, lk, hcd⟩ := T.d__law_great.F.ex
  have hb := T.d__law_great.b
  rw [hfd] at lk hb
  have hu : (BodyX P w K mg base lawN "law" (top 30) fa (.ref c) A outer s H0 E).A.units + 65 < cLine := at_.hu
  refine semSs_of (pss_one (ps_ret (pe_and (pe_cmpR (op_eqE (Nat.lt_of_le_of_lt (Nat.le_succ _) hu)) (pe_callB (cr_repr at_.gd hu) rfl T.z_repr (by decide +kernel) (pa_cons
    (pe_lamcall (T := [(Pt, (BodyX P w K mg base lawN "law" (top 30) fa (.ref c) A outer s H0 E).env.qual ++ "<lambda>")]) (k := 4) (Ng := ["call", "error"]) (x := "_law_great") (a := "call") (t := fun E => tCallS (spX K Wd.nil (sp_not_long T.x_TooGreat.C)) (WE fun cls d _ H => E cls d H) (tCons (tVar 9) tNil)) rfl T.d__law_great.m T.d__law_great.F.kp lk hcd hb ⟨rfl, rfl, rfl, by decide +kernel, rfl, by decide +kernel, by decide +kernel⟩ rfl (.inl rfl)
      (great_gives T.x_TooGreat.m T.x_TooGreat.fld T.x_TooGreat.no T.x_TooGreat.self) TB rfl (List.mem_singleton.mpr rfl) (fun p hp _ => by rw [List.mem_singleton.mp hp]) at_.room (lamS_by (show lamSB (defScope (top 30)) _ = true by decide +kernel)) rfl (fun _ _ _ _ _ => rfl)
      (fun A outer s H E f c' hr => lam_body T rfl rfl rfl rfl rfl rfl rfl rfl (hr.mono (by decide)))) pa_nil) (by decide) (by decide) rfl rfl) pe_sem rfl) pe_sem))) ?_
  have hlen : σ.length = 11 := rr.len.symm
  have carry : ∀ H2 : Hp, (∀ b o, H b = some o → (∀ ps, o ≠ .tbl ps) → H2 b = some o) → Dp K H2 v10 (dueD far) := fun H2 k => carry_due (fun b o e n => k b o (rr.ext b o e) n) d10
  refine ⟨fun p hp => by rw [List.mem_singleton.mp hp]; exact TabS.nil hP, fun H1 eN T1 => ?_⟩
  refine ⟨.int far, h9, fun _ => none, [.dat (.int far)], fun _ _ z => (by cases z), .cons (.int far) .nil, trivial, fun _ _ => rfl, fun d => isLong far = false ∧ d = .int far, fun x => isLong far = true ∧ x = ⟨.ref T.x_TooGreat.C, [("number", .int 0)]⟩, ⟨far, rfl, fun h => ⟨h, rfl⟩, fun h => ⟨h, rfl⟩⟩, ?_, ?_⟩
  · rintro d ⟨hl, rfl⟩ v H' F' af dv
    cases dv
    have hz : far ≠ 10 ^ 300 := fun z => by rw [isLong_far hfar, decide_eq_true z] at hl; cases hl
    have e : (.tuple [.str "told", .int far] : D) = dueD far := (if_neg hz).symm
    refine ⟨by show 2 ≤ sizeLine; decide, fun p hp => ⟨.ref p, .tuple [.str "told", .int far], rfl, .tup (SqT.of upd_same) (.cons (.str _) (.cons (.int _) .nil)), ?_, ?_⟩⟩
    · rw [e]; exact dueD_show hfar
    · have k := key_last T at_ hN hfar hlen h9 h10 (upd H' p (.tup [.str "told", .int far])) (carry _ fun b o e n => by
        have hh := af.keep b o (eN b o e n) fun z => z
        rw [upd_ne fun q => by rw [q, hp] at hh; cases hh]
        exact hh)
      rw [← e] at k
      exact k
  · rintro x ⟨hl, rfl⟩ dd H' F' af hx
    have hz : far = 10 ^ 300 := by rw [isLong_far hfar] at hl; exact of_decide_eq_true hl
    have e : (.tuple [.str "great", .int 0] : D) = dueD far := (if_pos hz).symm
    cases dd with
    | none => cases hx
    | some dd =>
      obtain ⟨vs, h1, h2⟩ := hx
      refine ⟨rfl, dd, 0, rfl, ?_, fun p hp => ⟨.ref p, .tuple [.str "great", .int 0], rfl, .tup (SqT.of upd_same) (.cons (.str _) (.cons (.int _) .nil)), ?_, ?_⟩⟩
      · rw [af.in_ _ _ h1]
        match vs, h2 with
        | [(x, v)], .cons ⟨e1, e2⟩ .nil =>
          cases e1
          cases e2
          rfl
      · rw [e]; exact dueD_show hfar
      · have k := key_last T at_ hN hfar hlen h9 h10 (upd H' p (.tup [.str "great", .int 0])) (carry _ fun b o e n => by
          have hh := af.keep b o (eN b o e n) fun z => z
          rw [upd_ne fun q => by rw [q, hp] at hh; cases hh]
          exact hh)
        rw [← e] at k
        exact k
end
end DL.K07
set_option Elab.async false
set_option linter.all false
set_option maxRecDepth 100000
set_option maxHeartbeats 2000000
set_option exponentiation.threshold 5000
/-! k07: the law holds -/
namespace DL.K07
open PySem L2 PyProof.Rows LamX
section
variable {P : Program} {w : World} {K : PySem.W.Frag} {mg : Str → Option Value} {base : Heap}
theorem dz_body (T : Txt P w K mg base) {fa c Pt : Addr} {A : Around} {outer : List Env} {s : Shared} {H0 : Hp} {E : XK} {N : Ends} {G : Ctx} (TB : TabB base mg c Pt)
    (at0 : At (BodyX P w K mg base lawN "law" (top 30) fa (.ref c) A outer s H0 E) G 6 (fun _ _ _ _ => False) (fun _ _ => False)) (hW0 : G.W = tabW Pt) (hN : ∀ H', N.rt (.bl true) H') (po : PassesOwn (model P w) (BodyX P w K mg base lawN "law" (top 30) fa (.ref c) A outer s H0 E).A (BodyX P w K mg base lawN "law" (top 30) fa (.ref c) A outer s H0 E).env (BodyX P w K mg base lawN "law" (top 30) fa (.ref c) A outer s H0 E).xe) :
    DZ (BodyX P w K mg base lawN "law" (top 30) fa (.ref c) A outer s H0 E) N G (defBody (top 30))
      (fun δ => ∃ ns : List Int, δ[0]? = some (.dat (.list (ns.map PyData.int))) ∧ ns.length ≤ 1000 ∧ ∀ sa, withSet δ 1 (.raw (.ref sa)) (fun δ => t_law_0 sa (fun _ => False) (dz0 fun δ => t_law_1 sa (fun _ => False) (dz0 fun δ => t_law_2 sa (fun _ => False) (dz0 fun δ => t_law_3 sa (fun _ => False) (dz0 fun δ => t_law_4 sa (fun _ => False) (dz0 fun δ => t_law_5 sa (fun _ => False) (dz0 fun δ => t_law_6 sa (fun _ => False) (dz0 fun δ => t_law_7 sa (fun _ => False) (dz0 fun δ => t_law_8 sa (fun _ => False) (dz0 fun δ => t_law_9 sa (fun _ => False) (dz0 fun δ => t_law_10 sa (fun _ => False) (dz0 fun δ => t_law_11 sa (fun _ => False) (dz0 fun δ => t_law_12 sa (fun _ => False) (dz0 fun δ => ∃ (s0 s1 a b c d e f g : SV) (far : Int), (far = 10 ^ 300 - 1 ∨ far = 10 ^ 300) ∧ δ = [s0, s1, a, b, c, d, e, f, g, .dat (.int far), .dat (dueD far)]) δ) δ) δ) δ) δ) δ) δ) δ) δ) δ) δ) δ) δ)) := by
  refine dz_srcNew 1 0 at0 (ok__law_source T |>.mono (by decide)) sc_law.nd fun sa sc G1 hB hW at_ => ?_
  have hW1 : G1.W = (tabW Pt).and (srcW sa sc) := by rw [hW, hW0]
  have hW : SubW (srcW sa sc) G1.W := by rw [hW1]; exact SubW.right
  exact (dz_cons (ds_for po (di_rng1 (da_cons dx_int da_nil) T.z_range) (dg_name 2 sc_law.nd) (dss_one (ds_if (dt_w (dw_or (dt_not (dt_truth (dx_fnS at_ hW (ok__law_over_right T |>.mono (by decide)) T.d__law_over_right.m T.d__law_over_right.F.kp T.d__law_over_right.b (da_cons (dx_var 1) da_nil)))) (dw_or (dt_not (dt_truth (dx_fnS at_ hW (ok__law_powers_right T |>.mono (by decide)) T.d__law_powers_right.m T.d__law_powers_right.F.kp T.d__law_powers_right.b (da_cons (dx_var 1) da_nil)))) (dw_or1 (dt_not (dt_truth (dx_fnS at_ hW (ok__law_joined_right T |>.mono (by decide)) T.d__law_joined_right.m T.d__law_joined_right.F.kp T.d__law_joined_right.b (da_cons (dx_var 1) da_nil)))))))) (dss_one (ds_ret dx_bool)) dss_nil)))
    (dz_cons (ds_par2 3 4 sc_law.nd (dm_dat (dx_fnS at_ hW (ok__law_far T |>.mono (by decide)) T.d__law_far.m T.d__law_far.F.kp T.d__law_far.b (da_cons (dx_var 1) da_nil)) (dm_dat (dx_op op_addD dop_add dx_int (dx_fnS at_ hW (ok__law_far T |>.mono (by decide)) T.d__law_far.m T.d__law_far.F.kp T.d__law_far.b (da_cons (dx_var 1) da_nil))) dm_nil)))
    (dz_cons (ds_set 3 sc_law.nd (dx_if (dt_cmp op_lt dop_lt (dx_b call_len dc_len T.z_len (da_cons (dx_ty call_str_int dc_str T.z_str (da_cons (dx_var 3) da_nil)) da_nil)) dx_int) (dx_op op_mulD dop_mul (dx_var 3) (dx_fnS at_ hW (ok__law_of T |>.mono (by decide)) T.d__law_of.m T.d__law_of.F.kp T.d__law_of.b (da_cons (dx_var 1) (da_cons (dx_new (dn_lst (da_cons dx_int (da_cons dx_int (da_cons (dx_neg dx_int) da_nil))))) da_nil)))) (dx_var 3)))
    (dz_cons (ds_set 5 sc_law.nd (dx_fn at_ (ok__law_part T |>.mono (by decide)) T.d__law_part.m T.d__law_part.F.kp T.d__law_part.b (da_cons (dx_var 3) (da_cons (dx_var 4) da_nil))))
    (dz_cons (ds_if (dt_w (dw_or (dt_cmp (op_neE (Nat.lt_of_le_of_lt (Nat.le_succ _) at_.hu)) dop_ne (dx_fn at_ (ok_common_part T |>.mono (by decide)) T.d_common_part.m T.d_common_part.F.kp T.d_common_part.b (da_cons (dx_var 3) (da_cons (dx_var 4) da_nil))) (dx_var 5)) (dw_or (dt_cmp (op_neE (Nat.lt_of_le_of_lt (Nat.le_succ _) at_.hu)) dop_ne (dx_fn at_ (ok_common_part T |>.mono (by decide)) T.d_common_part.m T.d_common_part.F.kp T.d_common_part.b (da_cons dx_int (da_cons dx_int da_nil))) dx_int) (dw_or1 (dt_cmp (op_neE (Nat.lt_of_le_of_lt (Nat.le_succ _) at_.hu)) dop_ne (dx_fn at_ (ok_common_part T |>.mono (by decide)) T.d_common_part.m T.d_common_part.F.kp T.d_common_part.b (da_cons (dx_op op_sub dop_sub dx_int (dx_var 3)) (da_cons (dx_var 4) da_nil))) (dx_var 5)))))) (dss_one (ds_ret dx_bool)) dss_nil)
    (dz_cons (ds_set 6 sc_law.nd (dx_op op_addD dop_add dx_int (dx_fnS at_ hW (ok__law_pick T |>.mono (by decide)) T.d__law_pick.m T.d__law_pick.F.kp T.d__law_pick.b (da_cons (dx_var 1) (da_cons dx_int da_nil)))))
    (dz_cons (ds_if (dt_cmp (op_neE (Nat.lt_of_le_of_lt (Nat.le_succ _) at_.hu)) dop_ne (dx_fn at_ (ok_common_multiple T |>.mono (by decide)) T.d_common_multiple.m T.d_common_multiple.F.kp T.d_common_multiple.b (da_cons (dx_var 4) (da_cons (dx_var 6) da_nil))) (dx_op op_fdivW dop_div (dx_op op_mulD dop_mul (dx_var 4) (dx_var 6)) (dx_fn at_ (ok__law_part T |>.mono (by decide)) T.d__law_part.m T.d__law_part.F.kp T.d__law_part.b (da_cons (dx_var 4) (da_cons (dx_var 6) da_nil))))) (dss_one (ds_ret dx_bool)) dss_nil)
    (dz_cons (ds_set 7 sc_law.nd (dx_fnS at_ hW (ok__law_by T |>.mono (by decide)) T.d__law_by.m T.d__law_by.F.kp T.d__law_by.b (da_cons (dx_var 1) da_nil)))
    (dz_cons (ds_set 8 sc_law.nd (dx_fn at_ (ok_rest_undone T |>.mono (by decide)) T.d_rest_undone.m T.d_rest_undone.F.kp T.d_rest_undone.b (da_cons (dx_var 3) (da_cons (dx_var 7) da_nil))))
    (dz_cons (ds_if (dt_cmp (op_neE (Nat.lt_of_le_of_lt (Nat.le_succ _) at_.hu)) dop_ne (dx_cmp op_isD dop_is (dx_var 8) dx_none) (dx_cmp (op_neE (Nat.lt_of_le_of_lt (Nat.le_succ _) at_.hu)) dop_ne (dx_fn at_ (ok__law_part T |>.mono (by decide)) T.d__law_part.m T.d__law_part.F.kp T.d__law_part.b (da_cons (dx_var 3) (da_cons (dx_var 7) da_nil))) dx_int)) (dss_one (ds_ret dx_bool)) dss_nil)
    (dz_cons (ds_if (dt_w (dw_and (dt_cmp op_notD dop_isNot (dx_var 8) dx_none) (dw_and1 (dt_w (dw_or (dt_not (dt_chain op_le op_lt dop_le dop_lt dx_int (dx_var 8) (dx_var 7))) (dw_or1 (dt_cmp (op_neE (Nat.lt_of_le_of_lt (Nat.le_succ _) at_.hu)) dop_ne (dx_op op_mod dop_mod (dx_ty call_intD dc_int T.z_int (da_cons (dx_op op_mulD dop_mul (dx_var 8) (dx_var 3)) da_nil)) (dx_var 7)) (dx_op op_mod dop_mod (dx_ty call_intD dc_int T.z_int (da_cons dx_int da_nil)) (dx_var 7))))))))) (dss_one (ds_ret dx_bool)) dss_nil)
    (dz_cons (ds_set 9 sc_law.nd (dx_op op_addD dop_add (dx_ty call_intD dc_int T.z_int (da_cons (dx_op op_mulStr dop_mulS dx_str dx_int) da_nil)) (dx_fnS at_ hW (ok__law_pick T |>.mono (by decide)) T.d__law_pick.m T.d__law_pick.F.kp T.d__law_pick.b (da_cons (dx_var 1) (da_cons dx_int da_nil)))))
    (dz_cons (ds_set 10 sc_law.nd (dx_if (dt_cmp op_lt dop_lt (dx_b call_len dc_len T.z_len (da_cons (dx_ty call_str_int dc_str T.z_str (da_cons (dx_var 9) da_nil)) da_nil)) dx_int) (dx_tup (da_cons dx_str (da_cons (dx_var 9) da_nil))) (dx_tup (da_cons dx_str (da_cons dx_int da_nil)))))
    (dz_last T TB at_ hW1 hN))))))))))))))
theorem len_law : ∀ vs H Q E, spLaw K Pt vs H Q E → vs.length = (["script"] : List Str).length := by rintro vs H Q E ⟨a, ns, rfl, _⟩; rfl
theorem ok_law (T : Txt P w K mg base) {fa c Pt : Addr} {kV doc pm ct oc : Value} {an od : Option Addr} {osl : Array (Option Value)}
    (lk : K.lookup fa = some ⟨oc, od, .func (PySem.W.fnOf "law" "law" (defArgs (top 30)) (defBody (top 30)) (defScope (top 30)) .none kV doc pm an (.ref c) ct), osl⟩) (hcd : PySem.W.codeIn K (.ref c) "law" = true) (TB : TabB base mg c Pt) :
    FG P w K mg base 7 fa (PySem.W.fnOf "law" "law" (defArgs (top 30)) (defBody (top 30)) (defScope (top 30)) .none kV doc pm an (.ref c) ct) ["script"] (spLaw K Pt) := by
  refine fg_of lk hcd sc_law len_law fun A outer s H vs Q E hr hgd hsp => ?_
  obtain ⟨a, ns, rfl, hs, hl, hP, hQ⟩ := hsp
  refine ⟨_, pss_sem, ?_⟩
  have ext : Ext (fun b => if b = Pt then none else H b) H := fun b o e => by
    by_cases z : b = Pt
    · have e' := (if_pos z).symm.trans e
      cases e'
    · exact (if_neg z).symm.trans e
  have noP : ∀ o, H a = some o → o ≠ .tbl #[] → a ≠ Pt := fun o e n z => by
    rw [z, hP] at e
    exact n (Option.some.inj e).symm
  have hs2 : SqL K (fun b => if b = Pt then none else H b) a (ns.map V.int) := by
    rcases hs with hs | hs
    · refine .inl ?_
      rcases hs with hs | ⟨o, hs⟩
      · exact .inl ((if_neg (noP _ hs fun z => by cases z)).trans hs)
      · exact .inr ⟨o, (if_neg (noP _ hs fun z => by cases z)).trans hs⟩
    · exact .inr hs
  have r := start_ok (K := K) (N := lawN) (W := tabW Pt) (F := fun b => if b = Pt then none else H b) (H := H) (as := [.dat (.list (ns.map PyData.int))]) (vs := [.ref a]) (by show 1 ≤ 11; decide) (.cons (.lst hs2 (DpAll.ints ns)) .nil) ext hP (fun b z => if_pos z)
  refine dz_body T TB (G := ⟨H, fun b => if b = Pt then none else H b, tabW Pt⟩) ⟨⟨hr, L2.takes0, wo0⟩, hgd⟩ rfl hQ (passes_of rfl) _ _ _ _ _ r ⟨ns, rfl, hl, fun sa => ?_⟩
  refine law_chain (sa := sa) (E := fun _ => False) (N := dz0 fun _ => False) (tl := fun _ δ => ∃ (s0 s1 a b c d e f g : SV) (far : Int), (far = 10 ^ 300 - 1 ∨ far = 10 ^ 300) ∧ δ = [s0, s1, a, b, c, d, e, f, g, .dat (.int far), .dat (dueD far)]) fun a b c d e f g far hf => ⟨_, _, a, b, c, d, e, f, g, far, hf, rfl⟩
end
end DL.K07
set_option Elab.async false
set_option linter.all false
set_option maxRecDepth 100000
set_option maxHeartbeats 2000000
/-! k07: the law is called -/
namespace DL.K07
open PySem PySem.Spec L2 PyProof.Rows LamX
/-- what is tracked when the law is called: the table, the script -/
def H0 (K : PySem.W.Frag) (a Pt : Addr) (o : Obj) (ns : List Int) : Hp := fun b => if b = Pt then some (.tbl #[]) else if b = a ∧ K.lookup a = none then some (.frz o (.lst (ns.map V.int))) else none
theorem end_law {P : Program} {w : World} {K : PySem.W.Frag} {mg mb : Str → Option Value} {fa a c Pt : Addr} {fd : FuncData} {s : Shared} {vs : List Value} {ns : List Int}
    (KX : K.In s.heap) (hns : s.heap.Ns mainGlobals mg) (hb : s.heap.Ns builtinsNs mb) (hbb : ∀ x : Str, x ≠ "__name__" → mb x = bootBuiltins x) (hlim : s.heap.NoLimit) (hg : s.gens = #[])
    (hT : s.heap.get? Pt = some { cls := .none, data := .fields #[] }) (nT : K.lookup Pt = none) (C : PySem.W.CodeHd s.heap c Pt)
    (hbm : ∃ (bm : Addr) (ob : Obj), mg "__builtins__" = some (.ref bm) ∧ bm ≠ builtinsNs ∧ s.heap.get? bm = some ob ∧ ob.cls = .type "module" ∧ ob.dict = some builtinsNs ∧ ob.data = .plain)
    (ha : s.heap.get? a = some { cls := .type "list", data := .seq vs.toArray }) (hi : IntsAre vs ns) (hl : ns.length ≤ 63)
    (F : ∀ base : Heap, TabB base mg c Pt → FG P w K mg base 7 fa fd ["script"] (spLaw K Pt)) (hbind : ∀ (s : Shared) (u : Value), BindsTo s fd ⟨[u], []⟩ [("script", u)]) :
    codeAny (model P w) callerA (.call (.ref fa) ⟨[.ref a], []⟩) (fun r s' => r = .ok (.ret (.bool true)) ∧ OldK s.heap s'.heap ∧ s'.os = s.os ∧ AllBare s'.gens) s := by
  have rv := vals_ints hi
  have aP : a ≠ Pt := fun z => by rw [← z, ha] at hT; cases hT
  obtain ⟨H, eH⟩ : ∃ H, H = H0 K a Pt { cls := .type "list", data := .seq vs.toArray } ns := ⟨_, rfl⟩
  have HP : H Pt = some (.tbl #[]) := by rw [eH]; exact if_pos rfl
  have cas : ∀ b u, H b = some u → (b = Pt ∧ u = .tbl #[]) ∨ (b = a ∧ K.lookup a = none ∧ u = .frz { cls := .type "list", data := .seq vs.toArray } (.lst (ns.map V.int))) := fun b u e => by
    rw [eH] at e
    by_cases z : b = Pt
    · have e' := (if_pos z).symm.trans e
      cases e'
      exact .inl ⟨z, rfl⟩
    · have e1 := (if_neg z).symm.trans e
      by_cases y : b = a ∧ K.lookup a = none
      · have e2 := (if_pos y).symm.trans e1
        cases e2
        exact .inr ⟨y.1, y.2, rfl⟩
      · have e2 := (if_neg y).symm.trans e1
        cases e2
  have free : ∀ b o, s.heap.get? b = some o → (∀ v n, o.data ≠ .seq v n) → o.data ≠ .fields #[] → H b = none := fun b o e h1 h2 => by
    cases q : H b with
    | none => rfl
    | some u =>
      rcases cas b u q with ⟨z, _⟩ | ⟨z, _, _⟩
      · rw [z, hT] at e; cases e; exact (h2 rfl).elim
      · rw [z, ha] at e; cases e; exact (h1 _ _ rfl).elim
  have nsK : ∀ {b : Addr} {m : Str → Option Value}, s.heap.Ns b m → (hidT s.heap H).Ns b m := fun {b m} ⟨o, es, ep, e, d, r⟩ => ⟨o, es, ep, hidT_get e (free b o e (fun v n z => by rw [d] at z; cases z) (fun z => by rw [d] at z; cases z)), d, r⟩
  have kb : K.In (hidT s.heap H) := fun b o e => hidT_get (KX b o e) (by
    cases q : H b with
    | none => rfl
    | some u =>
      rcases cas b u q with ⟨z, _⟩ | ⟨z, z2, _⟩
      · rw [z, nT] at e; cases e
      · rw [z, z2] at e; cases e)
  have hM : L2.Mod K mg (hidT s.heap H) := ⟨kb, nsK hns, ⟨mb, nsK hb, hbb⟩, let ⟨mc, h1, h2⟩ := hlim; ⟨mc, nsK h1, h2⟩⟩
  have hok : HOk P w H s.heap := fun b u e => by
    rcases cas b u e with ⟨rfl, rfl⟩ | ⟨rfl, _, rfl⟩
    · exact hT
    · exact ⟨ha, by rw [List.length_map]; exact Nat.le_trans hl (by decide), vs, _, rv, ha⟩
  have hS : SqL K H a (ns.map V.int) := by
    cases hk : K.lookup a with
    | none => exact .inl (.inr ⟨_, by rw [eH]; exact (if_neg aP).trans (if_pos ⟨rfl, hk⟩)⟩)
    | some o =>
      have e := KX a o hk
      rw [ha] at e
      cases e
      exact .inr ⟨_, vs.toArray, _, hk, rfl, rfl, rfl, by rw [List.size_toArray, hi.length]; exact Nat.le_trans hl (by decide), by simpa using rv⟩
  have TB : TabB (hidT s.heap H) mg c Pt := by
    refine ⟨?_, ?_, fun z => ?_⟩
    · obtain ⟨o, us, file, tf, flags, tg, inF, text, tt, e1, r1, r2, r3, r⟩ := C
      exact ⟨o, us, file, tf, flags, tg, inF, text, tt, hidT_get e1 (free c o e1 (fun v n z => by rw [r2] at z; cases z) fun z => by rw [r2] at z; cases z; simp at r3), r1, r2, r3, r⟩
    · obtain ⟨bm, ob, b1, b2, b3, b4, b5, b6⟩ := hbm
      refine ⟨bm, ob, b1, b2, fun q => ?_, fun q => ?_, hidT_get b3 (free bm ob b3 (fun v n z => by rw [b6] at z; cases z) fun z => by rw [b6] at z; cases z), b4, b5, b6⟩
      · obtain ⟨o, es, ep, e, hd, _⟩ := hns
        rw [q, e] at b3
        cases b3
        rw [hd] at b6
        cases b6
      · rw [q, hT] at b3
        cases b3
        cases b6
    · obtain ⟨o, es, ep, e, hd, _⟩ := hns
      rw [z, hT] at e
      cases e
      cases hd
  have e0 : Env0 P w K mg (hidT s.heap H) callerA [] s H := ⟨rfl, hM, fun b o e => of_hidT e, Nat.le_of_eq (hidT_size _ _), trivial, fun b hb => absurd (show b ∈ ([] : List Addr) from hb) (by simp), hok, .of_eq hg⟩
  refine codeAny_mono ((F _ TB).run callerA [] s H ⟨[.ref a], []⟩ [.ref a] [.ref a] (fun v _ => v = .bl true) (fun _ _ _ => False) ⟨rfl, by decide, by decide⟩ rfl e0 (hbind s (.ref a)) (.cons rfl .nil) ⟨a, ns, rfl, hS, Nat.le_trans hl (by decide), HP, fun _ => rfl⟩) fun r s' h => ?_
  cases r with
  | error e =>
    obtain ⟨_, _, _, _, _, _, _, _, _, _, _, _, z⟩ := h
    exact z.elim
  | ok fl =>
    cases fl with
    | next => exact False.elim h
    | brk => exact False.elim h
    | cont => exact False.elim h
    | ret u =>
      obtain ⟨v, H', os, bare, un, hok', r', q⟩ := h
      have q' : v = .bl true := q
      subst q'
      obtain rfl : u = Value.bool true := r'
      have kept : ∀ b o, b ≠ Pt → s.heap.get? b = some o → s'.heap.get? b = some o := fun b o nb e => by
        cases z : H b with
        | none => exact un.keep b o e z (by intro y; exact absurd (show b ∈ ([] : List Addr) from y) (by simp)) (by simp)
        | some u =>
          rcases cas b u z with ⟨y, _⟩ | ⟨y, _, y3⟩
          · exact absurd y nb
          · subst y y3
            obtain ⟨g, _⟩ := hok' b _ (un.frzs b _ _ z)
            rw [ha] at e
            cases e
            exact g
      have grown : ∃ more : Array Value, s'.heap.get? Pt = some { cls := .none, data := .fields more } := by
        obtain ⟨more, z⟩ := un.tbls Pt #[] HP
        exact ⟨_, hok' Pt _ z⟩
      obtain ⟨more, hmore⟩ := grown
      refine ⟨rfl, ⟨fun b o e => ?_, fun b o e => ?_⟩, os, bare⟩
      · by_cases hb : b = Pt
        · rw [hb, hT] at e
          cases e
          rw [hb]
          exact .inr (.inl ⟨(C.tab hT).isCodeTable, rfl, #[], more, rfl, by rw [Array.empty_append]; exact hmore⟩)
        · exact .inl (kept b o hb e)
      · by_cases hb : b = Pt
        · rw [hb]
          exact ⟨_, hmore⟩
        · exact ⟨o, kept b o hb e⟩
end DL.K07
set_option Elab.async false
set_option linter.all false
set_option maxRecDepth 100000
set_option maxHeartbeats 400000
/-! k07: the exception class made -/
namespace DL.K07
open PySem L2 PyProof.Rows
def clsBody : Stmt → List Stmt
  | .ClassDef _ _ _ b .. => b
  | _ => []
def sIni : Stmt := (clsBody (top 2)).getD 0 (.Pass ⟨0, 0, 0, 0⟩)
section
variable {P : Program} {w : World} {K : PySem.W.Frag} {mg : Str → Option Value} {base : Heap}
theorem sc_ini : SupScope ["self", "number"] ["self", "number"] (defScope sIni) := ⟨rfl, rfl, rfl, by decide, rfl, by decide +kernel, by decide +kernel, by decide +kernel, rfl, rfl⟩
theorem run_ini {C fI : Addr} {fd : FuncData} (T : SupC P K C fI "TooGreat.__init__" sIni fd) (hmg : mg "super" = none) (hno : PySem.W.findIn K (.ref C) "number" = some none) : FnOk P w K mg base (L2.CX P w) 1 fI fd ["self", "number"] (spIni C 1 (fun ws => match ws with | [v] => [("number", v)] | _ => [])) := by
  refine init_run (k := 0) (n := 1) (ta := tCons (tVar 1) tNil) (t := tOst K "number" (vT 0) (vT 1)) T sc_ini rfl (by decide) hmg rfl rfl rfl (fun vs H Q hl h => ?_) (fun cd cc A outer s H => pa_cons (pe_var (i := 1) (x := "number") rfl (.inl rfl)) pa_nil) (fun cd cc A outer s H hr => ?_) (ini_law1 T.oex hno) (pl := ?_) (hev := ?_)
  · match vs, hl with
    | [a, b], _ => exact ⟨b, rfl, h [b] (by show 1 ≤ 1000; decide)⟩
  · exact pss_one (ps_ost (pe_var (i := 0) (x := "self") rfl (.inl rfl)) (pe_var (i := 1) (x := "number") rfl (.inl rfl)))
  · exact fun cd cc L => plainOf (.Call (.Name "super" ⟨7, 8, 7, 13⟩) [] [] ⟨7, 8, 7, 15⟩) (PySem.W.envX "TooGreat.__init__" (defScope sIni) L fI cd [("__class__", cc)])
  · intro cd cc L
    rfl
end
end DL.K07
set_option Elab.async false
set_option linter.all false
set_option maxRecDepth 100000
set_option maxHeartbeats 2000000
/-! k07: the facts of the head gathered; the walk -/
namespace DL.K07
open PySem L2 PyProof.Rows LamX
abbrev PP : Program := PySem.Challenge.pw_lotsofn_k07_rests_of_numbers_over_far
structure XF (K : PySem.W.Frag) (C fI : Addr) (fd : FuncData) : Prop where
  oex : OexC K C
  iC : PySem.W.findIn K (.ref C) "__init__" = some (some (.ref fI))
  tI : PySem.W.typeIn K (.ref fI) = some (.type "function")
  sup : PySem.W.ks_superIn K C C "__init__" = some (some (.builtin "ValueError.__init__"))
  opq : PySem.W.nsIn K PySem.cStatics "thirdparty.any" = some none
  sub : PySem.W.subIn K (.ref C) (.type "ValueError") = some true
  mro : PySem.W.mroIn K C (.ref C) = some true
  fn : ∃ (oc : Value) (od : Option Addr) (kV doc pm : Value) (an : Option Addr) (cda cc : Addr) (ct : Value) (osl : Array (Option Value)) (cl ccl : Value) (cld cdd : Option Addr) (csl ccs : Array (Option Value)) (vs : Array Value) (file : Str) (tf : Tok),
    fd = PySem.W.fnX "__init__" "TooGreat.__init__" (defArgs sIni) (defBody sIni) (defScope sIni) [("__class__", cc)] .none kV doc pm an (.ref cda) ct ∧ K.lookup fI = some ⟨oc, od, .func fd, osl⟩ ∧ PySem.W.codeIn K (.ref cda) "TooGreat.__init__" = true ∧
    K.lookup cda = some ⟨ccl, cdd, .fields vs, ccs⟩ ∧ vs[2]? = some (.str file tf) ∧ ((PP.main.file : Str) == file) = true ∧ K.lookup cc = some ⟨cl, cld, .cell (some (.ref C)), csl⟩
  no : PySem.W.findIn K (.ref C) "number" = some none
  self : PySem.W.exmOne K (.ref C) (.ref C) = some true
  fld : xfB K C = true
theorem xf_mk {K : PySem.W.Frag} {C fI : Addr} {nm q : Str} {Nn : Addr} {bs bm : List Value} {sn : List Str} {sub : List Value} {ab : Bool} {col : Option Bool} {dd : Option Addr} {k0 k1 k2 k3 k5 : Option Value}
    {oc : Value} {od : Option Addr} {kV doc pm : Value} {an : Option Addr} {cda cc : Addr} {ct : Value} {osl : Array (Option Value)} {cl ccl : Value} {cld cdd : Option Addr} {csl ccs : Array (Option Value)} {vs : Array Value} {file : Str} {tf : Tok}
    (x1 : K.lookup C = some (excClassObj nm q C Nn bs bm true sn sub ab col dd k0 k1 k2 k3 k5 "ValueError.__new__")) (x2 : PySem.HandSPX.refsVE bm = true) (sa : PySem.W.findIn K (.ref C) "__setattr__" = some (some (.builtin "object.__setattr__"))) (exC : PySem.W.subIn K (.ref C) (.type "BaseException") = some true) (tyC : PySem.W.typeIn K (.ref C) = some (.type "type")) (kC : PySem.W.keepIn K (.ref C) = true)
    (iC : PySem.W.findIn K (.ref C) "__init__" = some (some (.ref fI))) (tI : PySem.W.typeIn K (.ref fI) = some (.type "function")) (sup : PySem.W.ks_superIn K C C "__init__" = some (some (.builtin "ValueError.__init__"))) (opq : PySem.W.nsIn K PySem.cStatics "thirdparty.any" = some none)
    (sb : PySem.W.subIn K (.ref C) (.type "ValueError") = some true) (mro : PySem.W.mroIn K C (.ref C) = some true)
    (l1 : K.lookup fI = some ⟨oc, od, .func (PySem.W.fnX "__init__" "TooGreat.__init__" (defArgs sIni) (defBody sIni) (defScope sIni) [("__class__", cc)] .none kV doc pm an (.ref cda) ct), osl⟩) (l2 : PySem.W.codeIn K (.ref cda) "TooGreat.__init__" = true)
    (l3 : K.lookup cda = some ⟨ccl, cdd, .fields vs, ccs⟩) (l4 : vs[2]? = some (.str file tf)) (l5 : ((PP.main.file : Str) == file) = true) (l6 : K.lookup cc = some ⟨cl, cld, .cell (some (.ref C)), csl⟩)
    (no : PySem.W.findIn K (.ref C) "number" = some none) (self : PySem.W.exmOne K (.ref C) (.ref C) = some true) (fld : xfB K C = true) : XF K C fI (PySem.W.fnX "__init__" "TooGreat.__init__" (defArgs sIni) (defBody sIni) (defScope sIni) [("__class__", cc)] .none kV doc pm an (.ref cda) ct) :=
  ⟨⟨⟨nm, q, Nn, bs, bm, sn, sub, ab, col, dd, k0, k1, k2, k3, k5, x1, x2⟩, sa, exC, tyC, kC⟩, iC, tI, sup, opq, sb, mro, ⟨oc, od, kV, doc, pm, an, cda, cc, ct, osl, cl, ccl, cld, cdd, csl, ccs, vs, file, tf, rfl, l1, l2, l3, l4, l5, l6⟩, no, self, fld⟩
theorem x1_mk {w : World} {K : PySem.W.Frag} {mg : Str → Option Value} {base : Heap} {C fI : Addr} {fd : FuncData} (T : XF K C fI fd) (hs : mg "super" = none) (hm : mg "TooGreat" = some (.ref C)) : Nonempty (X1 PP w K mg base "TooGreat" "number") := by
  have S : SupC PP K C fI "TooGreat.__init__" sIni fd := ⟨T.oex, T.iC, T.tI, T.sup, T.opq, T.sub, T.mro, rfl, T.fn⟩
  have b : Binds K fd ["self", "number"] [] := by
    obtain ⟨oc, od, kV, doc, pm, an, cda, cc, ct, osl, cl, ccl, cld, cdd, csl, ccs, vs, file, tf, rfl, _⟩ := T.fn
    intro s us _ hl
    match us, hl with
    | [_, _], _ => exact .of_eq rfl
  exact ⟨{ C := C, fI := fI, fd := fd, ps := ["self", "number"], oex := T.oex, iC := T.iC, tI := T.tI, run := run_ini S hs T.no, b := b, m := hm, fld := xfB_ok T.fld, no := T.no, self := T.self }⟩
theorem all_mk {w : World} {K : PySem.W.Frag} {mg : Str → Option Value} {h : Heap} {fa Pt C fI : Addr} {fd : FuncData} (X : K.In h) (G : h.Ns mainGlobals mg) (hfa : mg "law" = some (.ref fa))
    {f0 : Addr} {od0 an0 : Option Addr} {sl0 : Array (Option Value)} {oc0 kV0 dc0 pm0 ct0 : Value} {cd0 : Value}
    {f1 : Addr} {od1 an1 : Option Addr} {sl1 : Array (Option Value)} {oc1 kV1 dc1 pm1 ct1 : Value} {cd1 : Value}
    {f2 : Addr} {od2 an2 : Option Addr} {sl2 : Array (Option Value)} {oc2 kV2 dc2 pm2 ct2 : Value} {cd2 : Value}
    {f3 : Addr} {od3 an3 : Option Addr} {sl3 : Array (Option Value)} {oc3 kV3 dc3 pm3 ct3 : Value} {cd3 : Value}
    {f4 : Addr} {od4 an4 : Option Addr} {sl4 : Array (Option Value)} {oc4 kV4 dc4 pm4 ct4 : Value} {cd4 : Value}
    {f5 : Addr} {od5 an5 : Option Addr} {sl5 : Array (Option Value)} {oc5 kV5 dc5 pm5 ct5 : Value} {cd5 : Value}
    {f6 : Addr} {od6 an6 : Option Addr} {sl6 : Array (Option Value)} {oc6 kV6 dc6 pm6 ct6 : Value} {cd6 : Value}
    {f7 : Addr} {od7 an7 : Option Addr} {sl7 : Array (Option Value)} {oc7 kV7 dc7 pm7 ct7 : Value} {cd7 : Value}
    {f8 : Addr} {od8 an8 : Option Addr} {sl8 : Array (Option Value)} {oc8 kV8 dc8 pm8 ct8 : Value} {cd8 : Value}
    {f9 : Addr} {od9 an9 : Option Addr} {sl9 : Array (Option Value)} {oc9 kV9 dc9 pm9 ct9 : Value} {cd9 : Value}
    {f10 : Addr} {od10 an10 : Option Addr} {sl10 : Array (Option Value)} {oc10 kV10 dc10 pm10 ct10 : Value} {cd10 : Value}
    {f11 : Addr} {od11 an11 : Option Addr} {sl11 : Array (Option Value)} {oc11 kV11 dc11 pm11 ct11 : Value} {cd11 : Value}
    {f12 : Addr} {od12 an12 : Option Addr} {sl12 : Array (Option Value)} {oc12 kV12 dc12 pm12 ct12 : Value} {cd12 : Value}
    {f13 : Addr} {od13 an13 : Option Addr} {sl13 : Array (Option Value)} {oc13 kV13 dc13 pm13 ct13 : Value} {cd13 : Value}
    {f14 : Addr} {od14 an14 : Option Addr} {sl14 : Array (Option Value)} {oc14 kV14 dc14 pm14 ct14 : Value} {cd14 : Value}
    {f15 : Addr} {od15 an15 : Option Addr} {sl15 : Array (Option Value)} {oc15 kV15 dc15 pm15 ct15 : Value} {cd15 : Value}
    {f16 : Addr} {od16 an16 : Option Addr} {sl16 : Array (Option Value)} {oc16 kV16 dc16 pm16 ct16 : Value} {cd16 : Value}
    {f17 : Addr} {od17 an17 : Option Addr} {sl17 : Array (Option Value)} {oc17 kV17 dc17 pm17 ct17 : Value} {cd17 : Value}
    {f18 : Addr} {od18 an18 : Option Addr} {sl18 : Array (Option Value)} {oc18 kV18 dc18 pm18 ct18 : Value} {cd18 : Value}
    {f19 : Addr} {od19 an19 : Option Addr} {sl19 : Array (Option Value)} {oc19 kV19 dc19 pm19 ct19 : Value} {cd19 : Value}
    {f20 : Addr} {od20 an20 : Option Addr} {sl20 : Array (Option Value)} {oc20 kV20 dc20 pm20 ct20 : Value} {cd20 : Value}
    {f21 : Addr} {od21 an21 : Option Addr} {sl21 : Array (Option Value)} {oc21 kV21 dc21 pm21 ct21 : Value} {cd21 : Value}
    {f22 : Addr} {od22 an22 : Option Addr} {sl22 : Array (Option Value)} {oc22 kV22 dc22 pm22 ct22 : Value} {c : Addr}
    {tLONG_NUMBER : Tok}
    {tMOST_FIGURES : Tok}
    {tSURE_BITS : Tok}
    (a0 : PySem.W.nsIn K mainGlobals "is_long" = some (some (.ref f0))) (l0 : K.lookup f0 = some ⟨oc0, od0, .func (PySem.W.fnOf "is_long" "is_long" (defArgs (top 7)) (defBody (top 7)) (defScope (top 7)) .none kV0 dc0 pm0 an0 cd0 ct0), sl0⟩) (c0 : PySem.W.codeIn K cd0 "is_long" = true) (k0 : PySem.W.keepIn K (.ref f0) = true)
    (a1 : PySem.W.nsIn K mainGlobals "not_long" = some (some (.ref f1))) (l1 : K.lookup f1 = some ⟨oc1, od1, .func (PySem.W.fnOf "not_long" "not_long" (defArgs (top 8)) (defBody (top 8)) (defScope (top 8)) .none kV1 dc1 pm1 an1 cd1 ct1), sl1⟩) (c1 : PySem.W.codeIn K cd1 "not_long" = true) (k1 : PySem.W.keepIn K (.ref f1) = true)
    (a2 : PySem.W.nsIn K mainGlobals "number_over" = some (some (.ref f2))) (l2 : K.lookup f2 = some ⟨oc2, od2, .func (PySem.W.fnOf "number_over" "number_over" (defArgs (top 9)) (defBody (top 9)) (defScope (top 9)) .none kV2 dc2 pm2 an2 cd2 ct2), sl2⟩) (c2 : PySem.W.codeIn K cd2 "number_over" = true) (k2 : PySem.W.keepIn K (.ref f2) = true)
    (a3 : PySem.W.nsIn K mainGlobals "over_rest" = some (some (.ref f3))) (l3 : K.lookup f3 = some ⟨oc3, od3, .func (PySem.W.fnOf "over_rest" "over_rest" (defArgs (top 10)) (defBody (top 10)) (defScope (top 10)) .none kV3 dc3 pm3 an3 cd3 ct3), sl3⟩) (c3 : PySem.W.codeIn K cd3 "over_rest" = true) (k3 : PySem.W.keepIn K (.ref f3) = true)
    (a4 : PySem.W.nsIn K mainGlobals "power_of" = some (some (.ref f4))) (l4 : K.lookup f4 = some ⟨oc4, od4, .func (PySem.W.fnOf "power_of" "power_of" (defArgs (top 11)) (defBody (top 11)) (defScope (top 11)) .none kV4 dc4 pm4 an4 cd4 ct4), sl4⟩) (c4 : PySem.W.codeIn K cd4 "power_of" = true) (k4 : PySem.W.keepIn K (.ref f4) = true)
    (a5 : PySem.W.nsIn K mainGlobals "power_rest" = some (some (.ref f5))) (l5 : K.lookup f5 = some ⟨oc5, od5, .func (PySem.W.fnOf "power_rest" "power_rest" (defArgs (top 12)) (defBody (top 12)) (defScope (top 12)) .none kV5 dc5 pm5 an5 cd5 ct5), sl5⟩) (c5 : PySem.W.codeIn K cd5 "power_rest" = true) (k5 : PySem.W.keepIn K (.ref f5) = true)
    (a6 : PySem.W.nsIn K mainGlobals "common_part" = some (some (.ref f6))) (l6 : K.lookup f6 = some ⟨oc6, od6, .func (PySem.W.fnOf "common_part" "common_part" (defArgs (top 13)) (defBody (top 13)) (defScope (top 13)) .none kV6 dc6 pm6 an6 cd6 ct6), sl6⟩) (c6 : PySem.W.codeIn K cd6 "common_part" = true) (k6 : PySem.W.keepIn K (.ref f6) = true)
    (a7 : PySem.W.nsIn K mainGlobals "common_multiple" = some (some (.ref f7))) (l7 : K.lookup f7 = some ⟨oc7, od7, .func (PySem.W.fnOf "common_multiple" "common_multiple" (defArgs (top 14)) (defBody (top 14)) (defScope (top 14)) .none kV7 dc7 pm7 an7 cd7 ct7), sl7⟩) (c7 : PySem.W.codeIn K cd7 "common_multiple" = true) (k7 : PySem.W.keepIn K (.ref f7) = true)
    (a8 : PySem.W.nsIn K mainGlobals "rest_undone" = some (some (.ref f8))) (l8 : K.lookup f8 = some ⟨oc8, od8, .func (PySem.W.fnOf "rest_undone" "rest_undone" (defArgs (top 15)) (defBody (top 15)) (defScope (top 15)) .none kV8 dc8 pm8 an8 cd8 ct8), sl8⟩) (c8 : PySem.W.codeIn K cd8 "rest_undone" = true) (k8 : PySem.W.keepIn K (.ref f8) = true)
    (a9 : PySem.W.nsIn K mainGlobals "rests_joined" = some (some (.ref f9))) (l9 : K.lookup f9 = some ⟨oc9, od9, .func (PySem.W.fnOf "rests_joined" "rests_joined" (defArgs (top 16)) (defBody (top 16)) (defScope (top 16)) .none kV9 dc9 pm9 an9 cd9 ct9), sl9⟩) (c9 : PySem.W.codeIn K cd9 "rests_joined" = true) (k9 : PySem.W.keepIn K (.ref f9) = true)
    (a10 : PySem.W.nsIn K mainGlobals "row_joined" = some (some (.ref f10))) (l10 : K.lookup f10 = some ⟨oc10, od10, .func (PySem.W.fnOf "row_joined" "row_joined" (defArgs (top 17)) (defBody (top 17)) (defScope (top 17)) .none kV10 dc10 pm10 an10 cd10 ct10), sl10⟩) (c10 : PySem.W.codeIn K cd10 "row_joined" = true) (k10 : PySem.W.keepIn K (.ref f10) = true)
    (a11 : PySem.W.nsIn K mainGlobals "_law_source" = some (some (.ref f11))) (l11 : K.lookup f11 = some ⟨oc11, od11, .func (PySem.W.fnOf "_law_source" "_law_source" (defArgs (top 19)) (defBody (top 19)) (defScope (top 19)) .none kV11 dc11 pm11 an11 cd11 ct11), sl11⟩) (c11 : PySem.W.codeIn K cd11 "_law_source" = true) (k11 : PySem.W.keepIn K (.ref f11) = true)
    (a12 : PySem.W.nsIn K mainGlobals "_law_pick" = some (some (.ref f12))) (l12 : K.lookup f12 = some ⟨oc12, od12, .func (PySem.W.fnOf "_law_pick" "_law_pick" (defArgs (top 20)) (defBody (top 20)) (defScope (top 20)) .none kV12 dc12 pm12 an12 cd12 ct12), sl12⟩) (c12 : PySem.W.codeIn K cd12 "_law_pick" = true) (k12 : PySem.W.keepIn K (.ref f12) = true)
    (a13 : PySem.W.nsIn K mainGlobals "_law_of" = some (some (.ref f13))) (l13 : K.lookup f13 = some ⟨oc13, od13, .func (PySem.W.fnOf "_law_of" "_law_of" (defArgs (top 21)) (defBody (top 21)) (defScope (top 21)) .none kV13 dc13 pm13 an13 cd13 ct13), sl13⟩) (c13 : PySem.W.codeIn K cd13 "_law_of" = true) (k13 : PySem.W.keepIn K (.ref f13) = true)
    (a14 : PySem.W.nsIn K mainGlobals "_law_over" = some (some (.ref f14))) (l14 : K.lookup f14 = some ⟨oc14, od14, .func (PySem.W.fnOf "_law_over" "_law_over" (defArgs (top 22)) (defBody (top 22)) (defScope (top 22)) .none kV14 dc14 pm14 an14 cd14 ct14), sl14⟩) (c14 : PySem.W.codeIn K cd14 "_law_over" = true) (k14 : PySem.W.keepIn K (.ref f14) = true)
    (a15 : PySem.W.nsIn K mainGlobals "_law_far" = some (some (.ref f15))) (l15 : K.lookup f15 = some ⟨oc15, od15, .func (PySem.W.fnOf "_law_far" "_law_far" (defArgs (top 23)) (defBody (top 23)) (defScope (top 23)) .none kV15 dc15 pm15 an15 cd15 ct15), sl15⟩) (c15 : PySem.W.codeIn K cd15 "_law_far" = true) (k15 : PySem.W.keepIn K (.ref f15) = true)
    (a16 : PySem.W.nsIn K mainGlobals "_law_by" = some (some (.ref f16))) (l16 : K.lookup f16 = some ⟨oc16, od16, .func (PySem.W.fnOf "_law_by" "_law_by" (defArgs (top 24)) (defBody (top 24)) (defScope (top 24)) .none kV16 dc16 pm16 an16 cd16 ct16), sl16⟩) (c16 : PySem.W.codeIn K cd16 "_law_by" = true) (k16 : PySem.W.keepIn K (.ref f16) = true)
    (a17 : PySem.W.nsIn K mainGlobals "_law_great" = some (some (.ref f17))) (l17 : K.lookup f17 = some ⟨oc17, od17, .func (PySem.W.fnOf "_law_great" "_law_great" (defArgs (top 25)) (defBody (top 25)) (defScope (top 25)) .none kV17 dc17 pm17 an17 cd17 ct17), sl17⟩) (c17 : PySem.W.codeIn K cd17 "_law_great" = true) (k17 : PySem.W.keepIn K (.ref f17) = true)
    (a18 : PySem.W.nsIn K mainGlobals "_law_part" = some (some (.ref f18))) (l18 : K.lookup f18 = some ⟨oc18, od18, .func (PySem.W.fnOf "_law_part" "_law_part" (defArgs (top 26)) (defBody (top 26)) (defScope (top 26)) .none kV18 dc18 pm18 an18 cd18 ct18), sl18⟩) (c18 : PySem.W.codeIn K cd18 "_law_part" = true) (k18 : PySem.W.keepIn K (.ref f18) = true)
    (a19 : PySem.W.nsIn K mainGlobals "_law_over_right" = some (some (.ref f19))) (l19 : K.lookup f19 = some ⟨oc19, od19, .func (PySem.W.fnOf "_law_over_right" "_law_over_right" (defArgs (top 27)) (defBody (top 27)) (defScope (top 27)) .none kV19 dc19 pm19 an19 cd19 ct19), sl19⟩) (c19 : PySem.W.codeIn K cd19 "_law_over_right" = true) (k19 : PySem.W.keepIn K (.ref f19) = true)
    (a20 : PySem.W.nsIn K mainGlobals "_law_powers_right" = some (some (.ref f20))) (l20 : K.lookup f20 = some ⟨oc20, od20, .func (PySem.W.fnOf "_law_powers_right" "_law_powers_right" (defArgs (top 28)) (defBody (top 28)) (defScope (top 28)) .none kV20 dc20 pm20 an20 cd20 ct20), sl20⟩) (c20 : PySem.W.codeIn K cd20 "_law_powers_right" = true) (k20 : PySem.W.keepIn K (.ref f20) = true)
    (a21 : PySem.W.nsIn K mainGlobals "_law_joined_right" = some (some (.ref f21))) (l21 : K.lookup f21 = some ⟨oc21, od21, .func (PySem.W.fnOf "_law_joined_right" "_law_joined_right" (defArgs (top 29)) (defBody (top 29)) (defScope (top 29)) .none kV21 dc21 pm21 an21 cd21 ct21), sl21⟩) (c21 : PySem.W.codeIn K cd21 "_law_joined_right" = true) (k21 : PySem.W.keepIn K (.ref f21) = true)
    (a22 : PySem.W.nsIn K mainGlobals "law" = some (some (.ref f22))) (l22 : K.lookup f22 = some ⟨oc22, od22, .func (PySem.W.fnOf "law" "law" (defArgs (top 30)) (defBody (top 30)) (defScope (top 30)) .none kV22 dc22 pm22 an22 (.ref c) ct22), sl22⟩) (c22 : PySem.W.codeIn K (.ref c) "law" = true) (k22 : PySem.W.keepIn K (.ref f22) = true)
    (zabs : PySem.W.nsIn K mainGlobals "abs" = some none)
    (zint : PySem.W.nsIn K mainGlobals "int" = some none)
    (zlen : PySem.W.nsIn K mainGlobals "len" = some none)
    (zmax : PySem.W.nsIn K mainGlobals "max" = some none)
    (zrange : PySem.W.nsIn K mainGlobals "range" = some none)
    (zrepr : PySem.W.nsIn K mainGlobals "repr" = some none)
    (zstr : PySem.W.nsIn K mainGlobals "str" = some none)
    (ztuple : PySem.W.nsIn K mainGlobals "tuple" = some none)
    (gLONG_NUMBER : PySem.W.nsIn K mainGlobals "LONG_NUMBER" = some (some (.int 0 tLONG_NUMBER)))
    (gMOST_FIGURES : PySem.W.nsIn K mainGlobals "MOST_FIGURES" = some (some (.int 300 tMOST_FIGURES)))
    (gSURE_BITS : PySem.W.nsIn K mainGlobals "SURE_BITS" = some (some (.int 997 tSURE_BITS)))
    (zsup : PySem.W.nsIn K mainGlobals "super" = some none) (aC : PySem.W.nsIn K mainGlobals "TooGreat" = some (some (.ref C))) (xf : XF K C fI fd)
    {cA : Value} {cB : Option Addr} {cV : Array Value} {cS : Array (Option Value)} (lc : K.lookup c = some ⟨cA, cB, .fields cV, cS⟩) (h11 : (cV[11]? : Option Value) = some (.ref Pt)) (nT : K.lookup Pt = none) :
    ∃ (fd : FuncData) (c Pt : Addr), PySem.W.tabIn K "law" = some (c, Pt) ∧ K.lookup Pt = none ∧ (∀ (s : Shared) (u : Value), BindsTo s fd ⟨[u], []⟩ [("script", u)]) ∧ ∀ base : Heap, TabB base mg c Pt → FG PP w K mg base 7 fa fd ["script"] (spLaw K Pt) := by
  have e := hfa.symm.trans (PySem.W.mg_of X G a22)
  cases e
  have F0 := fun_mk (st := top 7) l0 c0 k0
  have b0 := F0.binds (ps := ["number"]) fun _ _ _ _ _ _ us hl => match us, hl with | [_], _ => rfl
  have F1 := fun_mk (st := top 8) l1 c1 k1
  have b1 := F1.binds (ps := ["number"]) fun _ _ _ _ _ _ us hl => match us, hl with | [_], _ => rfl
  have F2 := fun_mk (st := top 9) l2 c2 k2
  have b2 := F2.binds (ps := ["n", "k"]) fun _ _ _ _ _ _ us hl => match us, hl with | [_, _], _ => rfl
  have F3 := fun_mk (st := top 10) l3 c3 k3
  have b3 := F3.binds (ps := ["n", "k", "m"]) fun _ _ _ _ _ _ us hl => match us, hl with | [_, _, _], _ => rfl
  have F4 := fun_mk (st := top 11) l4 c4 k4
  have b4 := F4.binds (ps := ["base", "often"]) fun _ _ _ _ _ _ us hl => match us, hl with | [_, _], _ => rfl
  have F5 := fun_mk (st := top 12) l5 c5 k5
  have b5 := F5.binds (ps := ["base", "often", "m"]) fun _ _ _ _ _ _ us hl => match us, hl with | [_, _, _], _ => rfl
  have F6 := fun_mk (st := top 13) l6 c6 k6
  have b6 := F6.binds (ps := ["one", "other"]) fun _ _ _ _ _ _ us hl => match us, hl with | [_, _], _ => rfl
  have F7 := fun_mk (st := top 14) l7 c7 k7
  have b7 := F7.binds (ps := ["one", "other"]) fun _ _ _ _ _ _ us hl => match us, hl with | [_, _], _ => rfl
  have F8 := fun_mk (st := top 15) l8 c8 k8
  have b8 := F8.binds (ps := ["number", "m"]) fun _ _ _ _ _ _ us hl => match us, hl with | [_, _], _ => rfl
  have F9 := fun_mk (st := top 16) l9 c9 k9
  have b9 := F9.binds (ps := ["one", "other"]) fun _ _ _ _ _ _ us hl => match us, hl with | [_, _], _ => rfl
  have F10 := fun_mk (st := top 17) l10 c10 k10
  have b10 := F10.binds (ps := ["rests"]) fun _ _ _ _ _ _ us hl => match us, hl with | [_], _ => rfl
  have F11 := fun_mk (st := top 19) l11 c11 k11
  have b11 := F11.binds (ps := ["script"]) fun _ _ _ _ _ _ us hl => match us, hl with | [_], _ => rfl
  have F12 := fun_mk (st := top 20) l12 c12 k12
  have b12 := F12.binds (ps := ["source", "many"]) fun _ _ _ _ _ _ us hl => match us, hl with | [_, _], _ => rfl
  have F13 := fun_mk (st := top 21) l13 c13 k13
  have b13 := F13.binds (ps := ["source", "some"]) fun _ _ _ _ _ _ us hl => match us, hl with | [_, _], _ => rfl
  have F14 := fun_mk (st := top 22) l14 c14 k14
  have b14 := F14.binds (ps := ["n", "k"]) fun _ _ _ _ _ _ us hl => match us, hl with | [_, _], _ => rfl
  have F15 := fun_mk (st := top 23) l15 c15 k15
  have b15 := F15.binds (ps := ["source"]) fun _ _ _ _ _ _ us hl => match us, hl with | [_], _ => rfl
  have F16 := fun_mk (st := top 24) l16 c16 k16
  have b16 := F16.binds (ps := ["source"]) fun _ _ _ _ _ _ us hl => match us, hl with | [_], _ => rfl
  have F17 := fun_mk (st := top 25) l17 c17 k17
  have b17 := F17.binds (ps := ["call"]) fun _ _ _ _ _ _ us hl => match us, hl with | [_], _ => rfl
  have F18 := fun_mk (st := top 26) l18 c18 k18
  have b18 := F18.binds (ps := ["one", "other"]) fun _ _ _ _ _ _ us hl => match us, hl with | [_, _], _ => rfl
  have F19 := fun_mk (st := top 27) l19 c19 k19
  have b19 := F19.binds (ps := ["source"]) fun _ _ _ _ _ _ us hl => match us, hl with | [_], _ => rfl
  have F20 := fun_mk (st := top 28) l20 c20 k20
  have b20 := F20.binds (ps := ["source"]) fun _ _ _ _ _ _ us hl => match us, hl with | [_], _ => rfl
  have F21 := fun_mk (st := top 29) l21 c21 k21
  have b21 := F21.binds (ps := ["source"]) fun _ _ _ _ _ _ us hl => match us, hl with | [_], _ => rfl
  have F22 := fun_mk (st := top 30) l22 c22 k22
  have b22 := F22.binds (ps := ["script"]) fun _ _ _ _ _ _ us hl => match us, hl with | [_], _ => rfl
  refine ⟨PySem.W.fnOf "law" "law" (defArgs (top 30)) (defBody (top 30)) (defScope (top 30)) .none kV22 dc22 pm22 an22 (.ref c) ct22, c, Pt, ?_, nT, fun s v => .of_eq rfl, fun base TB => ?_⟩
  · unfold PySem.W.tabIn
    rw [a22]
    show (match K.lookup fa with | some ⟨_, _, .func fd, _⟩ => _ | _ => none) = _
    rw [l22]
    show (match K.lookup c with | some ⟨_, _, .fields vs, _⟩ => _ | _ => none) = _
    rw [lc]
    show (match (cV[11]? : Option Value) with | some (.ref P) => some (c, P) | _ => none) = _
    rw [h11]
  · obtain ⟨x1⟩ := x1_mk (w := w) (base := base) xf (PySem.W.mg_none_of X G zsup) (PySem.W.mg_of X G aC)
    have T : Txt PP w K mg base := { d_is_long := ⟨f0, _, F0, PySem.W.mg_of X G a0, b0⟩, d_not_long := ⟨f1, _, F1, PySem.W.mg_of X G a1, b1⟩, d_number_over := ⟨f2, _, F2, PySem.W.mg_of X G a2, b2⟩, d_over_rest := ⟨f3, _, F3, PySem.W.mg_of X G a3, b3⟩, d_power_of := ⟨f4, _, F4, PySem.W.mg_of X G a4, b4⟩, d_power_rest := ⟨f5, _, F5, PySem.W.mg_of X G a5, b5⟩, d_common_part := ⟨f6, _, F6, PySem.W.mg_of X G a6, b6⟩, d_common_multiple := ⟨f7, _, F7, PySem.W.mg_of X G a7, b7⟩, d_rest_undone := ⟨f8, _, F8, PySem.W.mg_of X G a8, b8⟩, d_rests_joined := ⟨f9, _, F9, PySem.W.mg_of X G a9, b9⟩, d_row_joined := ⟨f10, _, F10, PySem.W.mg_of X G a10, b10⟩, d__law_source := ⟨f11, _, F11, PySem.W.mg_of X G a11, b11⟩, d__law_pick := ⟨f12, _, F12, PySem.W.mg_of X G a12, b12⟩, d__law_of := ⟨f13, _, F13, PySem.W.mg_of X G a13, b13⟩, d__law_over := ⟨f14, _, F14, PySem.W.mg_of X G a14, b14⟩, d__law_far := ⟨f15, _, F15, PySem.W.mg_of X G a15, b15⟩, d__law_by := ⟨f16, _, F16, PySem.W.mg_of X G a16, b16⟩, d__law_great := ⟨f17, _, F17, PySem.W.mg_of X G a17, b17⟩, d__law_part := ⟨f18, _, F18, PySem.W.mg_of X G a18, b18⟩, d__law_over_right := ⟨f19, _, F19, PySem.W.mg_of X G a19, b19⟩, d__law_powers_right := ⟨f20, _, F20, PySem.W.mg_of X G a20, b20⟩, d__law_joined_right := ⟨f21, _, F21, PySem.W.mg_of X G a21, b21⟩, d_law := ⟨fa, _, F22, PySem.W.mg_of X G a22, b22⟩, z_abs := PySem.W.mg_none_of X G zabs, z_int := PySem.W.mg_none_of X G zint, z_len := PySem.W.mg_none_of X G zlen, z_max := PySem.W.mg_none_of X G zmax, z_range := PySem.W.mg_none_of X G zrange, z_repr := PySem.W.mg_none_of X G zrepr, z_str := PySem.W.mg_none_of X G zstr, z_tuple := PySem.W.mg_none_of X G ztuple, c_LONG_NUMBER := ⟨tLONG_NUMBER, PySem.W.mg_of X G gLONG_NUMBER⟩, c_MOST_FIGURES := ⟨tMOST_FIGURES, PySem.W.mg_of X G gMOST_FIGURES⟩, c_SURE_BITS := ⟨tSURE_BITS, PySem.W.mg_of X G gSURE_BITS⟩, x_TooGreat := x1 }
    exact ok_law T l22 c22 TB
theorem walk {l : PySem.W.OpenLaw} {q : Program} {loose : List Str} {XP : (Str → Option Value) → Heap → Prop} {YP : World → Heap → Prop} {d : DefRec} {K : Params → PySem.W.Frag} (hp : l.prog = PP) (hn : l.most = some 63) (hdf : d.params.defaults = []) (hnm : d.name = "law")
    (hr : (recsOf q).find? (fun e => e.name == ("law" : Str)) = some d) (hY : ∀ (w : World) (h : Heap), YP w h → (K w.params).In h)
    (F : ∀ (w : World) (mg : Str → Option Value) (fa : Addr) (h : Heap), (K w.params).In h → h.Ns mainGlobals mg → mg "law" = some (.ref fa) →
      ∃ (fd : FuncData) (c Pt : Addr), PySem.W.tabIn (K w.params) "law" = some (c, Pt) ∧ (K w.params).lookup Pt = none ∧ (∀ (s : Shared) (u : Value), BindsTo s fd ⟨[u], []⟩ [("script", u)]) ∧ ∀ base : Heap, TabB base mg c Pt → FG PP w (K w.params) mg base 7 fa fd ["script"] (spLaw (K w.params) Pt)) :
    PySem.W.WalkO q loose XP YP l.row.toRowW d [] (fun f vs => PySem.call f vs) := by
  refine Att.attach_callB hn hdf fun w s₀ s₁ mg mb fa o pm cd doc a vs ns G Y ho hd hcd hmg hobj hints hlen hbits hg => ?_
  have KX := hY w _ Y
  rw [hnm] at hmg
  obtain ⟨fd, c, Pt, ht, nT, hb, hF⟩ := F w mg fa _ KX G.T.g hmg
  obtain ⟨C, hT⟩ := PySem.W.tab_of G.T KX hr ht
  rw [hp]
  exact end_law KX G.T.g G.T.b G.T.builtins G.T.nolimit hg hT nT C G.T.bmain hobj hints hlen hF hb
end DL.K07
set_option Elab.async false
set_option linter.all false
open PySem PySem.W PyProof.Rows in
set_option maxRecDepth 100000 in
set_option maxHeartbeats 0 in
theorem PySem.Challenge.cw_lotsofn_k07_rests_of_numbers_over_far_holds : PySem.Challenge.rw_lotsofn_k07_rests_of_numbers_over_far.Holds := by
  w_on; o_law; k_head; (case hw => w_witness2)
  k_fill
  refine DL.K07.walk (l := PySem.Challenge.rw_lotsofn_k07_rests_of_numbers_over_far) rfl rfl rfl rfl ?hr (fun w h Y => by first | exact PySem.W.kIn_of Y | exact PySem.W.km_in_of Y) ?F
  case hr => first | rfl | decide +kernel
  case F =>
    intro w mg fa h KX G hmg
    refine' DL.K07.all_mk KX G hmg ?a0 ?l0 ?c0 ?k0 ?a1 ?l1 ?c1 ?k1 ?a2 ?l2 ?c2 ?k2 ?a3 ?l3 ?c3 ?k3 ?a4 ?l4 ?c4 ?k4 ?a5 ?l5 ?c5 ?k5 ?a6 ?l6 ?c6 ?k6 ?a7 ?l7 ?c7 ?k7 ?a8 ?l8 ?c8 ?k8 ?a9 ?l9 ?c9 ?k9 ?a10 ?l10 ?c10 ?k10 ?a11 ?l11 ?c11 ?k11 ?a12 ?l12 ?c12 ?k12 ?a13 ?l13 ?c13 ?k13 ?a14 ?l14 ?c14 ?k14 ?a15 ?l15 ?c15 ?k15 ?a16 ?l16 ?c16 ?k16 ?a17 ?l17 ?c17 ?k17 ?a18 ?l18 ?c18 ?k18 ?a19 ?l19 ?c19 ?k19 ?a20 ?l20 ?c20 ?k20 ?a21 ?l21 ?c21 ?k21 ?a22 ?l22 ?c22 ?k22 ?zabs ?zint ?zlen ?zmax ?zrange ?zrepr ?zstr ?ztuple ?gLONG_NUMBER ?gMOST_FIGURES ?gSURE_BITS ?zsup ?aC (DL.K07.xf_mk ?x1 ?x2 ?xsa ?xex ?xty ?xk ?xi ?xt ?xsup ?xopq ?xsub ?xmro ?y1 ?y2 ?y3 ?y4 ?y5 ?y6 ?xno ?xself ?xfld) ?lc ?h11 ?nT
    (case a0 => k_is)
    (case l0 => k_is)
    (case c0 => k_is)
    (case k0 => k_is)
    (case a1 => k_is)
    (case l1 => k_is)
    (case c1 => k_is)
    (case k1 => k_is)
    (case a2 => k_is)
    (case l2 => k_is)
    (case c2 => k_is)
    (case k2 => k_is)
    (case a3 => k_is)
    (case l3 => k_is)
    (case c3 => k_is)
    (case k3 => k_is)
    (case a4 => k_is)
    (case l4 => k_is)
    (case c4 => k_is)
    (case k4 => k_is)
    (case a5 => k_is)
    (case l5 => k_is)
    (case c5 => k_is)
    (case k5 => k_is)
    (case a6 => k_is)
    (case l6 => k_is)
    (case c6 => k_is)
    (case k6 => k_is)
    (case a7 => k_is)
    (case l7 => k_is)
    (case c7 => k_is)
    (case k7 => k_is)
    (case a8 => k_is)
    (case l8 => k_is)
    (case c8 => k_is)
    (case k8 => k_is)
    (case a9 => k_is)
    (case l9 => k_is)
    (case c9 => k_is)
    (case k9 => k_is)
    (case a10 => k_is)
    (case l10 => k_is)
    (case c10 => k_is)
    (case k10 => k_is)
    (case a11 => k_is)
    (case l11 => k_is)
    (case c11 => k_is)
    (case k11 => k_is)
    (case a12 => k_is)
    (case l12 => k_is)
    (case c12 => k_is)
    (case k12 => k_is)
    (case a13 => k_is)
    (case l13 => k_is)
    (case c13 => k_is)
    (case k13 => k_is)
    (case a14 => k_is)
    (case l14 => k_is)
    (case c14 => k_is)
    (case k14 => k_is)
    (case a15 => k_is)
    (case l15 => k_is)
    (case c15 => k_is)
    (case k15 => k_is)
    (case a16 => k_is)
    (case l16 => k_is)
    (case c16 => k_is)
    (case k16 => k_is)
    (case a17 => k_is)
    (case l17 => k_is)
    (case c17 => k_is)
    (case k17 => k_is)
    (case a18 => k_is)
    (case l18 => k_is)
    (case c18 => k_is)
    (case k18 => k_is)
    (case a19 => k_is)
    (case l19 => k_is)
    (case c19 => k_is)
    (case k19 => k_is)
    (case a20 => k_is)
    (case l20 => k_is)
    (case c20 => k_is)
    (case k20 => k_is)
    (case a21 => k_is)
    (case l21 => k_is)
    (case c21 => k_is)
    (case k21 => k_is)
    (case a22 => k_is)
    (case l22 => k_is)
    (case c22 => k_is)
    (case k22 => k_is)
    (case zabs => k_is)
    (case zint => k_is)
    (case zlen => k_is)
    (case zmax => k_is)
    (case zrange => k_is)
    (case zrepr => k_is)
    (case zstr => k_is)
    (case ztuple => k_is)
    (case gLONG_NUMBER => k_is)
    (case gMOST_FIGURES => k_is)
    (case gSURE_BITS => k_is)
    (case zsup => k_is)
    (case aC => k_is)
    (case x1 => k_is)
    (case x2 => first | rfl | decide +kernel)
    (case xsa => k_is)
    (case xex => k_is)
    (case xty => k_is)
    (case xk => k_is)
    (case xi => k_is)
    (case xt => k_is)
    (case xsup => ks_is)
    (case xopq => k_is)
    (case xsub => k_is)
    (case xmro => k_is)
    (case y1 => k_is)
    (case y2 => k_is)
    (case y3 => k_is)
    (case y4 => rfl)
    (case y5 => first | rfl | decide +kernel)
    (case y6 => k_is)
    (case xno => k_is)
    (case xself => first | rfl | decide +kernel)
    (case xfld => first | rfl | decide +kernel)
    (case lc => k_is)
    (case h11 => rfl)
    (case nT => first | rfl | decide +kernel)
