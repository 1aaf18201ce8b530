import PyProof.Rows.All
import Wide.All
import OpenK.AllK
import Wide.FinOn
import HandS.ForMost
import HandS.ForExc
import HandS.Wide
import HandS.IsInst
import KE.DataEq
import HandS.TupAny
import HandS.TupMul
import HandS.NoneIn
import HandS.Ends
import HandS.EndBits
import HandS.Zip
import HandS.Rev
import HandS.SortInts
import KE.GoesEnum
import KE.GoesMore
import KE.GoesZip
import HandS.Dict
import KE.SortData
import HandS.Conv
import HandS.More
import HandS.Style
import HandS.RevTup
import KE.KDictPairs
import HandS.DictEq
import PyProof.DictMoreH
import HandS.SetKeys
import HandS.DictComp
import HandS.TupSets
import HandS.Flow
import HandS.Flt
import KE.DataMinMax
import KE.KDictCopyH
import HandS.DictTup
import HandS.ExcIs
import HandS.ExcOwn
import PyProof.ExcBaseAll.ValueError
import HandS.Text
import PySem.Challenge.RW_fewtimes_k52_schemes_written
set_option Elab.async false
set_option linter.all false
set_option maxRecDepth 100000
set_option autoImplicit false
/-! FL1: data trees with owned (mutable) nodes over the abstract heap; what a value represents. -/
namespace FL
open PySem PySem.Spec PyProof.Rows L2
/-- an owned node's kind: frozen; owned, its parts frozen; owned, with owned parts -/
inductive Ow where
  | ice | flat | deep
  deriving Inhabited, DecidableEq
def Ow.mine : Ow → Bool
  | .ice => false
  | _ => true
def Ow.light : Ow → Bool
  | .deep => false
  | _ => true
/-- flat, or deep where a part is owned -/
def Ow.of : Bool → Ow
  | true => .deep
  | false => .flat
/-- one more part -/
def Ow.more : Ow → Bool → Ow
  | o, false => o
  | _, true => .deep
/-- data: lists, dicts, instances frozen or owned, tuples (true: with owned parts), what is only read -/
inductive D where
  | any | non | bl (b : Bool) | int (i : Int) | str (s : Str) | obj (a : Addr) | ty (n : String)
  | tup (o : Bool) (xs : List D)
  | lst (o : Ow) (xs : List D)
  | ro (t : Bool) (xs : List D)
  | dct (o : Ow) (t : Bool) (ks vs : List D)
  | ins (o : Ow) (C : Addr) (fs : List Str) (vs : List D)
  deriving Inhabited
abbrev Loc := List Nat
abbrev Tag := Addr → Option Loc
/-- a world: the tags (who owns an address), the shared heap, the whole heap -/
structure Wd where
  G : Tag
  S : Hp
  H : Hp
def skey : D → Key
  | .int i => .inl i
  | .str s => .inr s
  | _ => .inl 0
def isSKey : D → Bool
  | .int _ => true
  | .str _ => true
  | _ => false
def tkey : D → List Key
  | .tup _ ds => ds.map skey
  | _ => []
def isTKey : D → Bool
  | .tup _ ds => ds.all isSKey
  | _ => false
def keyOk (t : Bool) (k : D) : Bool := if t then isTKey k else isSKey k
/-- keys of one kind, no two alike -/
def keysOk (t : Bool) (ks : List D) : Bool := ks.all (keyOk t) && (if t then decide (ks.map tkey).Nodup else decide (ks.map skey).Nodup)
def dHO (t : Bool) (ks : List D) (vs : List V) : HO :=
  if t then .dT ((ks.map tkey).zip vs) else .dK ((ks.map skey).zip vs)
/-- it is owned, or holds what is -/
def D.own : D → Bool
  | .tup o _ => o
  | .lst o _ => o.mine
  | .dct o _ _ _ => o.mine
  | .ins o _ _ _ => o.mine
  | _ => false
def ownL : List D → Bool
  | [] => false
  | d :: ds => d.own || ownL ds
/-- a node of this kind with these parts -/
def Lt (o : Ow) (ds : List D) : Prop := o.light = true → ownL ds = false
mutual
def Rep (K : PySem.W.Frag) (w : Wd) : D → Loc → V → Prop
  | .any, _, _ => True
  | .non, _, v => v = .non
  | .bl b, _, v => v = .bl b
  | .int i, _, v => v = .int i
  | .str s, _, v => v = .str s
  | .obj a, _, v => v = .ref a
  | .ty n, _, v => v = .ty n
  | .tup o ds, ℓ, v => ∃ a vs, v = .ref a ∧ w.S a = some (.tup vs) ∧ (ds.length ≤ sizeLine ∧ (o = false → ownL ds = false)) ∧ RepL K w ds ℓ 0 vs
  | .lst o ds, ℓ, v => ∃ a vs, v = .ref a ∧ (if o.mine then w.G a = some ℓ ∧ w.H a = some (.lst vs) else w.S a = some (.lst vs)) ∧ (ds.length ≤ sizeLine ∧ Lt o ds) ∧ RepL K w ds ℓ 0 vs
  | .ro t ds, ℓ, v => ∃ a vs, v = .ref a ∧ (if t then SqT K w.S a vs else SqL K w.S a vs) ∧ (ds.length ≤ sizeLine ∧ ownL ds = false) ∧ RepL K w ds ℓ 0 vs
  | .dct o t ks ds, ℓ, v => ∃ a vs, v = .ref a ∧ (if o.mine then w.G a = some ℓ ∧ w.H a = some (dHO t ks vs) else Rd w.S a (dHO t ks vs)) ∧ (ks.length = vs.length ∧ keysOk t ks = true ∧ Lt o ds) ∧ RepL K w ds ℓ 0 vs
  | .ins o C fs ds, ℓ, v => ∃ a vs, v = .ref a ∧ (∃ dx, if o.mine then w.G a = some ℓ ∧ w.H a = some (.ins C dx (fs.zip vs)) else w.S a = some (.ins C dx (fs.zip vs))) ∧ (fs.length = vs.length ∧ Lt o ds) ∧ RepL K w ds ℓ 0 vs
def RepL (K : PySem.W.Frag) (w : Wd) : List D → Loc → Nat → List V → Prop
  | [], _, _, vs => vs = []
  | d :: ds, ℓ, j, vs => ∃ v r, vs = v :: r ∧ Rep K w d (ℓ ++ [j]) v ∧ RepL K w ds ℓ (j + 1) r
end
/-- an inner node of the data d at ℓ: the object at a, of the parts vs -/
def Nd (K : PySem.W.Frag) (w : Wd) : D → Loc → Addr → List V → Prop
  | .tup _ _, _, a, vs => w.S a = some (.tup vs)
  | .lst o _, ℓ, a, vs => if o.mine then w.G a = some ℓ ∧ w.H a = some (.lst vs) else w.S a = some (.lst vs)
  | .ro t _, _, a, vs => if t then SqT K w.S a vs else SqL K w.S a vs
  | .dct o t ks _, ℓ, a, vs => if o.mine then w.G a = some ℓ ∧ w.H a = some (dHO t ks vs) else Rd w.S a (dHO t ks vs)
  | .ins o C fs _, ℓ, a, vs => ∃ dx, if o.mine then w.G a = some ℓ ∧ w.H a = some (.ins C dx (fs.zip vs)) else w.S a = some (.ins C dx (fs.zip vs))
  | _, _, _, _ => False
/-- what is asked of an inner node's parts (n of them in the object) -/
def Sz : D → List D → Nat → Prop
  | .tup o _, ds, _ => ds.length ≤ sizeLine ∧ (o = false → ownL ds = false)
  | .lst o _, ds, _ => ds.length ≤ sizeLine ∧ Lt o ds
  | .ro _ _, ds, _ => ds.length ≤ sizeLine ∧ ownL ds = false
  | .dct o t ks _, ds, n => ks.length = n ∧ keysOk t ks = true ∧ Lt o ds
  | .ins o _ fs _, ds, n => fs.length = n ∧ Lt o ds
  | _, _, _ => False
def D.kids : D → List D
  | .tup _ ds => ds
  | .lst _ ds => ds
  | .ro _ ds => ds
  | .dct _ _ _ ds => ds
  | .ins _ _ _ ds => ds
  | _ => []
def D.withKids : D → List D → D
  | .tup o _, es => .tup o es
  | .lst o _, es => .lst o es
  | .ro t _, es => .ro t es
  | .dct o t ks _, es => .dct o t ks es
  | .ins o C fs _, es => .ins o C fs es
  | d, _ => d
def D.inner : D → Bool
  | .tup _ _ => true
  | .lst _ _ => true
  | .ro _ _ => true
  | .dct _ _ _ _ => true
  | .ins _ _ _ _ => true
  | _ => false
mutual
/-- all frozen -/
def D.frz : D → D
  | .tup o ds => match o with
    | false => .tup false ds
    | true => .tup false (frzL ds)
  | .lst o ds => match o with
    | .deep => .lst .ice (frzL ds)
    | _ => .lst .ice ds
  | .ro t ds => .ro t ds
  | .dct o t ks ds => match o with
    | .deep => .dct .ice t ks (frzL ds)
    | _ => .dct .ice t ks ds
  | .ins o C fs ds => match o with
    | .deep => .ins .ice C fs (frzL ds)
    | _ => .ins .ice C fs ds
  | .any => .any
  | .non => .non
  | .bl b => .bl b
  | .int i => .int i
  | .str s => .str s
  | .obj a => .obj a
  | .ty n => .ty n
def frzL : List D → List D
  | [] => []
  | d :: ds => d.frz :: frzL ds
end
theorem ownL_iff {ds : List D} : ownL ds = false ↔ ∀ d ∈ ds, d.own = false := by
  induction ds with
  | nil => simp [ownL]
  | cons d r ih => simp [ownL, ih]
theorem frzL_map {ds : List D} : frzL ds = ds.map D.frz := by
  induction ds with
  | nil => rfl
  | cons d r ih => simp [frzL, ih]
theorem ownL_append {a b : List D} : ownL (a ++ b) = (ownL a || ownL b) := by
  induction a with
  | nil => simp [ownL]
  | cons d r ih => simp [ownL, ih, Bool.or_assoc]
theorem frz_own (d : D) : d.frz.own = false := by
  cases d with
  | tup o ds => cases o <;> rfl
  | lst o ds => cases o <;> rfl
  | dct o t ks ds => cases o <;> rfl
  | ins o C fs ds => cases o <;> rfl
  | _ => rfl
theorem frzL_own : ∀ ds : List D, ownL (frzL ds) = false
  | [] => rfl
  | d :: ds => by simp only [frzL, ownL, frz_own d, frzL_own ds, Bool.or_self]
theorem frz_id (d : D) (h : d.own = false) : d.frz = d := by
  cases d with
  | tup o ds => cases o with
    | true => cases h
    | false => rfl
  | lst o ds => cases o <;> first | rfl | cases h
  | dct o t ks ds => cases o <;> first | rfl | cases h
  | ins o C fs ds => cases o <;> first | rfl | cases h
  | _ => rfl
theorem frzL_id : ∀ ds : List D, ownL ds = false → frzL ds = ds
  | [], _ => rfl
  | d :: ds, h => by
    simp only [ownL, Bool.or_eq_false_iff] at h
    simp only [frzL, frz_id d h.1, frzL_id ds h.2]
theorem same_rdT {K : PySem.W.Frag} {H H' : Hp} {a : Addr} {xs : List V} (e : Same H H') (h : SqT K H a xs) : SqT K H' a xs := by
  rcases h with (h | ⟨o, h⟩) | h
  · exact .inl (.inl (e _ _ h))
  · exact .inl (.inr ⟨o, e _ _ h⟩)
  · exact .inr h
theorem ro_same {K : PySem.W.Frag} {H H' : Hp} {a : Addr} {xs : List V} {t : Bool} (e : Same H H') (h : if t then SqT K H a xs else SqL K H a xs) : if t then SqT K H' a xs else SqL K H' a xs := by
  cases t with
  | true => exact same_rdT e h
  | false => exact e.seq h
theorem rd_same {H H' : Hp} {a : Addr} {u : HO} (e : Same H H') (h : Rd H a u) : Rd H' a u := by
  rcases h with h | ⟨o, h⟩
  · exact .inl (e _ _ h)
  · exact .inr ⟨o, e _ _ h⟩
/-- what is kept for a location: its addresses' tags (moved to ℓ') and objects -/
def KeptTo (w w' : Wd) (ℓ ℓ' : Loc) : Prop := ∀ a s, w.G a = some (ℓ ++ s) → w'.G a = some (ℓ' ++ s) ∧ w'.H a = w.H a
theorem KeptTo.sub {w w' : Wd} {ℓ ℓ' : Loc} (k : KeptTo w w' ℓ ℓ') (t : Loc) : KeptTo w w' (ℓ ++ t) (ℓ' ++ t) := fun a s h => by
  rw [List.append_assoc] at h ⊢
  exact k a (t ++ s) h
/-- the addresses of a location are shared from now on -/
def FrzTo (w w' : Wd) (ℓ : Loc) : Prop := ∀ a s o, w.G a = some (ℓ ++ s) → w.H a = some o → w'.S a = some o
theorem FrzTo.sub {w w' : Wd} {ℓ : Loc} (k : FrzTo w w' ℓ) (t : Loc) : FrzTo w w' (ℓ ++ t) := fun a s o h => by
  rw [List.append_assoc] at h
  exact k a (t ++ s) o h
section
variable {K : PySem.W.Frag} {w w' : Wd}
/-- an inner node and its parts -/
theorem rep_inner {d : D} (hd : d.inner = true) {ℓ : Loc} {v : V} : Rep K w d ℓ v ↔ ∃ a vs, v = .ref a ∧ Nd K w d ℓ a vs ∧ Sz d d.kids vs.length ∧ RepL K w d.kids ℓ 0 vs := by
  cases d <;> first
    | (simp [D.inner] at hd; done)
    | (simp only [Rep, Nd, Sz, D.kids])
theorem Nd.later {d : D} {ℓ : Loc} {a : Addr} {vs : List V} {ℓ' : Loc} (h : Nd K w d ℓ a vs) (hs : Same w.S w'.S) (hk : w.G a = some ℓ → w'.G a = some ℓ' ∧ w'.H a = w.H a) : Nd K w' d ℓ' a vs := by
  have own : ∀ (o : Ow) (u : HO), (if o.mine then w.G a = some ℓ ∧ w.H a = some u else w.S a = some u) → if o.mine then w'.G a = some ℓ' ∧ w'.H a = some u else w'.S a = some u := fun o u h => by
    cases e : o.mine with
    | true =>
      rw [e] at h
      obtain ⟨k1, k2⟩ := hk h.1
      exact ⟨k1, k2.trans h.2⟩
    | false =>
      rw [e] at h
      exact hs _ _ h
  cases d with
  | tup o ds => exact hs _ _ h
  | lst o ds => exact own o _ h
  | ro t ds => exact ro_same hs h
  | dct o t ks ds =>
    simp only [Nd] at h ⊢
    cases e : o.mine with
    | true =>
      rw [e] at h
      obtain ⟨k1, k2⟩ := hk h.1
      exact ⟨k1, k2.trans h.2⟩
    | false =>
      rw [e] at h
      exact rd_same hs h
  | ins o C fs ds => obtain ⟨dx, h⟩ := h; exact ⟨dx, own o _ h⟩
  | _ => exact h.elim
/-- not owned: the node does not hang on tags -/
theorem Nd.free {d : D} {ℓ ℓ' : Loc} {a : Addr} {vs : List V} (h : Nd K w d ℓ a vs) (hs : Same w.S w'.S) (ho : d.own = false) : Nd K w' d ℓ' a vs := by
  cases d with
  | tup o ds => exact hs _ _ h
  | lst o ds => have ho : o.mine = false := ho; simp only [Nd, ho] at h ⊢; exact hs _ _ h
  | ro t ds => exact ro_same hs h
  | dct o t ks ds => have ho : o.mine = false := ho; simp only [Nd, ho] at h ⊢; exact rd_same hs h
  | ins o C fs ds => have ho : o.mine = false := ho; simp only [Nd, ho] at h ⊢; obtain ⟨dx, h⟩ := h; exact ⟨dx, hs _ _ h⟩
  | _ => exact h.elim
theorem Sz.lone {d : D} {n : Nat} (h : Sz d d.kids n) (ho : d.own = false) : ownL d.kids = false := by
  cases d with
  | tup o ds => exact h.2 ho
  | lst o ds => have ho : o.mine = false := ho; exact h.2 (by cases o <;> first | rfl | cases ho)
  | ro t ds => exact h.2
  | dct o t ks ds => have ho : o.mine = false := ho; exact h.2.2 (by cases o <;> first | rfl | cases ho)
  | ins o C fs ds => have ho : o.mine = false := ho; exact h.2 (by cases o <;> first | rfl | cases ho)
  | _ => exact h.elim
theorem leaf_rep {d : D} (hd : d.inner = false) {ℓ ℓ' : Loc} {v : V} (h : Rep K w d ℓ v) : Rep K w' d ℓ' v := by
  cases d <;> first
    | (simp [D.inner] at hd; done)
    | (simp only [Rep] at h ⊢; try exact h)
mutual
theorem Rep.to (hs : Same w.S w'.S) : ∀ (d : D) {ℓ ℓ' : Loc} {v : V}, KeptTo w w' ℓ ℓ' → Rep K w d ℓ v → Rep K w' d ℓ' v
  | .any, _, _, _, _, h => leaf_rep rfl h
  | .non, _, _, _, _, h => leaf_rep rfl h
  | .bl _, _, _, _, _, h => leaf_rep rfl h
  | .int _, _, _, _, _, h => leaf_rep rfl h
  | .str _, _, _, _, _, h => leaf_rep rfl h
  | .obj _, _, _, _, _, h => leaf_rep rfl h
  | .ty _, _, _, _, _, h => leaf_rep rfl h
  | .tup o ds, ℓ, ℓ', v, k, h => by
    rw [rep_inner rfl] at h ⊢
    obtain ⟨a, vs, e, h1, hz, h2⟩ := h
    exact ⟨a, vs, e, h1.later hs (fun z => by simpa using k a [] (by simpa using z)), hz, RepL.to hs ds k h2⟩
  | .lst o ds, ℓ, ℓ', v, k, h => by
    rw [rep_inner rfl] at h ⊢
    obtain ⟨a, vs, e, h1, hz, h2⟩ := h
    exact ⟨a, vs, e, h1.later hs (fun z => by simpa using k a [] (by simpa using z)), hz, RepL.to hs ds k h2⟩
  | .ro t ds, ℓ, ℓ', v, k, h => by
    rw [rep_inner rfl] at h ⊢
    obtain ⟨a, vs, e, h1, hz, h2⟩ := h
    exact ⟨a, vs, e, h1.later hs (fun z => by simpa using k a [] (by simpa using z)), hz, RepL.to hs ds k h2⟩
  | .dct o t ks ds, ℓ, ℓ', v, k, h => by
    rw [rep_inner rfl] at h ⊢
    obtain ⟨a, vs, e, h1, hz, h2⟩ := h
    exact ⟨a, vs, e, h1.later hs (fun z => by simpa using k a [] (by simpa using z)), hz, RepL.to hs ds k h2⟩
  | .ins o C fs ds, ℓ, ℓ', v, k, h => by
    rw [rep_inner rfl] at h ⊢
    obtain ⟨a, vs, e, h1, hz, h2⟩ := h
    exact ⟨a, vs, e, h1.later hs (fun z => by simpa using k a [] (by simpa using z)), hz, RepL.to hs ds k h2⟩
theorem RepL.to (hs : Same w.S w'.S) : ∀ (ds : List D) {ℓ ℓ' : Loc} {j : Nat} {vs : List V}, KeptTo w w' ℓ ℓ' → RepL K w ds ℓ j vs → RepL K w' ds ℓ' j vs
  | [], _, _, _, _, _, h => by simpa [RepL] using h
  | d :: ds, ℓ, ℓ', j, vs, k, h => by
    simp only [RepL] at h ⊢
    obtain ⟨v, r, e, h1, h2⟩ := h
    exact ⟨v, r, e, Rep.to hs d (k.sub [j]) h1, RepL.to hs ds k h2⟩
end
mutual
/-- without owned nodes: wherever it stands -/
theorem Rep.free (hs : Same w.S w'.S) : ∀ (d : D) {ℓ ℓ' : Loc} {v : V}, d.own = false → Rep K w d ℓ v → Rep K w' d ℓ' v
  | .any, _, _, _, _, h => leaf_rep rfl h
  | .non, _, _, _, _, h => leaf_rep rfl h
  | .bl _, _, _, _, _, h => leaf_rep rfl h
  | .int _, _, _, _, _, h => leaf_rep rfl h
  | .str _, _, _, _, _, h => leaf_rep rfl h
  | .obj _, _, _, _, _, h => leaf_rep rfl h
  | .ty _, _, _, _, _, h => leaf_rep rfl h
  | .tup o ds, ℓ, ℓ', v, k, h => by
    rw [rep_inner rfl] at h ⊢
    obtain ⟨a, vs, e, h1, hz, h2⟩ := h
    exact ⟨a, vs, e, h1.free hs k, hz, RepL.free hs ds (hz.lone k) h2⟩
  | .lst o ds, ℓ, ℓ', v, k, h => by
    rw [rep_inner rfl] at h ⊢
    obtain ⟨a, vs, e, h1, hz, h2⟩ := h
    exact ⟨a, vs, e, h1.free hs k, hz, RepL.free hs ds (hz.lone k) h2⟩
  | .ro t ds, ℓ, ℓ', v, k, h => by
    rw [rep_inner rfl] at h ⊢
    obtain ⟨a, vs, e, h1, hz, h2⟩ := h
    exact ⟨a, vs, e, h1.free hs k, hz, RepL.free hs ds (hz.lone k) h2⟩
  | .dct o t ks ds, ℓ, ℓ', v, k, h => by
    rw [rep_inner rfl] at h ⊢
    obtain ⟨a, vs, e, h1, hz, h2⟩ := h
    exact ⟨a, vs, e, h1.free hs k, hz, RepL.free hs ds (hz.lone k) h2⟩
  | .ins o C fs ds, ℓ, ℓ', v, k, h => by
    rw [rep_inner rfl] at h ⊢
    obtain ⟨a, vs, e, h1, hz, h2⟩ := h
    exact ⟨a, vs, e, h1.free hs k, hz, RepL.free hs ds (hz.lone k) h2⟩
theorem RepL.free (hs : Same w.S w'.S) : ∀ (ds : List D) {ℓ ℓ' : Loc} {j j' : Nat} {vs : List V}, ownL ds = false → RepL K w ds ℓ j vs → RepL K w' ds ℓ' j' vs
  | [], _, _, _, _, _, _, h => by simpa [RepL] using h
  | d :: ds, ℓ, ℓ', j, j', vs, k, h => by
    simp only [RepL] at h ⊢
    obtain ⟨v, r, e, h1, h2⟩ := h
    simp only [ownL, Bool.or_eq_false_iff] at k
    exact ⟨v, r, e, Rep.free hs d k.1 h1, RepL.free hs ds k.2 h2⟩
end
theorem frz_if {o : Ow} {a : Addr} {ℓ : Loc} {u : HO} (hs : Same w.S w'.S) (k : FrzTo w w' ℓ) (h : if o.mine then w.G a = some ℓ ∧ w.H a = some u else w.S a = some u) : w'.S a = some u := by
  cases e : o.mine with
  | true => rw [e] at h; exact k a [] u (by simpa using h.1) h.2
  | false => rw [e] at h; exact hs _ _ h
theorem frz_ifR {o : Ow} {a : Addr} {ℓ : Loc} {u : HO} (hs : Same w.S w'.S) (k : FrzTo w w' ℓ) (h : if o.mine then w.G a = some ℓ ∧ w.H a = some u else Rd w.S a u) : Rd w'.S a u := by
  cases e : o.mine with
  | true => rw [e] at h; exact .inl (k a [] u (by simpa using h.1) h.2)
  | false => rw [e] at h; exact rd_same hs h
mutual
theorem Rep.frz (hs : Same w.S w'.S) : ∀ (d : D) {ℓ ℓ' : Loc} {v : V}, FrzTo w w' ℓ → Rep K w d ℓ v → Rep K w' d.frz ℓ' v
  | .any, _, _, _, _, h => leaf_rep rfl h
  | .non, _, _, _, _, h => leaf_rep rfl h
  | .bl _, _, _, _, _, h => leaf_rep rfl h
  | .int _, _, _, _, _, h => leaf_rep rfl h
  | .str _, _, _, _, _, h => leaf_rep rfl h
  | .obj _, _, _, _, _, h => leaf_rep rfl h
  | .ty _, _, _, _, _, h => leaf_rep rfl h
  | .tup o ds, ℓ, ℓ', v, k, h => by
    simp only [Rep] at h
    obtain ⟨a, vs, e, h1, hz, h2⟩ := h
    cases o with
    | false => simp only [D.frz, Rep]; exact ⟨a, vs, e, hs _ _ h1, ⟨hz.1, fun _ => hz.2 rfl⟩, RepL.free hs ds (hz.2 rfl) h2⟩
    | true => simp only [D.frz, Rep]; exact ⟨a, vs, e, hs _ _ h1, ⟨by rw [frzL_map, List.length_map]; exact hz.1, fun _ => frzL_own ds⟩, RepL.frz hs ds k h2⟩
  | .lst o ds, ℓ, ℓ', v, k, h => by
    simp only [Rep] at h
    obtain ⟨a, vs, e, h1, hz, h2⟩ := h
    have h3 := frz_if hs k h1
    cases o with
    | deep => simp only [D.frz, Rep]; exact ⟨a, vs, e, h3, ⟨by rw [frzL_map, List.length_map]; exact hz.1, fun _ => frzL_own ds⟩, RepL.frz hs ds k h2⟩
    | flat => simp only [D.frz, Rep]; exact ⟨a, vs, e, h3, ⟨hz.1, fun _ => hz.2 rfl⟩, RepL.free hs ds (hz.2 rfl) h2⟩
    | ice => simp only [D.frz, Rep]; exact ⟨a, vs, e, h3, ⟨hz.1, fun _ => hz.2 rfl⟩, RepL.free hs ds (hz.2 rfl) h2⟩
  | .ro t ds, ℓ, ℓ', v, k, h => Rep.free hs (.ro t ds) rfl h
  | .dct o t ks ds, ℓ, ℓ', v, k, h => by
    simp only [Rep] at h
    obtain ⟨a, vs, e, h1, hz, h2⟩ := h
    have h3 := frz_ifR hs k h1
    cases o with
    | deep => simp only [D.frz, Rep]; exact ⟨a, vs, e, h3, ⟨hz.1, hz.2.1, fun _ => frzL_own ds⟩, RepL.frz hs ds k h2⟩
    | flat => simp only [D.frz, Rep]; exact ⟨a, vs, e, h3, ⟨hz.1, hz.2.1, fun _ => hz.2.2 rfl⟩, RepL.free hs ds (hz.2.2 rfl) h2⟩
    | ice => simp only [D.frz, Rep]; exact ⟨a, vs, e, h3, ⟨hz.1, hz.2.1, fun _ => hz.2.2 rfl⟩, RepL.free hs ds (hz.2.2 rfl) h2⟩
  | .ins o C fs ds, ℓ, ℓ', v, k, h => by
    simp only [Rep] at h
    obtain ⟨a, vs, e, ⟨dx, h1⟩, hz, h2⟩ := h
    have h3 := frz_if hs k h1
    cases o with
    | deep => simp only [D.frz, Rep]; exact ⟨a, vs, e, ⟨dx, h3⟩, ⟨hz.1, fun _ => frzL_own ds⟩, RepL.frz hs ds k h2⟩
    | flat => simp only [D.frz, Rep]; exact ⟨a, vs, e, ⟨dx, h3⟩, ⟨hz.1, fun _ => hz.2 rfl⟩, RepL.free hs ds (hz.2 rfl) h2⟩
    | ice => simp only [D.frz, Rep]; exact ⟨a, vs, e, ⟨dx, h3⟩, ⟨hz.1, fun _ => hz.2 rfl⟩, RepL.free hs ds (hz.2 rfl) h2⟩
theorem RepL.frz (hs : Same w.S w'.S) : ∀ (ds : List D) {ℓ ℓ' : Loc} {j j' : Nat} {vs : List V}, FrzTo w w' ℓ → RepL K w ds ℓ j vs → RepL K w' (frzL ds) ℓ' j' vs
  | [], _, _, _, _, _, _, h => by simpa [RepL, frzL] using h
  | d :: ds, ℓ, ℓ', j, j', vs, k, h => by
    simp only [RepL, frzL] at h ⊢
    obtain ⟨v, r, e, h1, h2⟩ := h
    exact ⟨v, r, e, Rep.frz hs d (k.sub [j]) h1, RepL.frz hs ds k h2⟩
end
theorem RepL.length : ∀ {ds : List D} {ℓ : Loc} {j : Nat} {vs : List V}, RepL K w ds ℓ j vs → vs.length = ds.length
  | [], _, _, _, h => by simp only [RepL] at h; rw [h]; rfl
  | d :: ds, _, _, _, h => by
    simp only [RepL] at h
    obtain ⟨v, r, e, _, h2⟩ := h
    rw [e, List.length_cons, List.length_cons, RepL.length h2]
theorem RepL.get : ∀ {ds : List D} {ℓ : Loc} {j : Nat} {vs : List V} {i : Nat} {d : D}, RepL K w ds ℓ j vs → ds[i]? = some d → ∃ v, vs[i]? = some v ∧ Rep K w d (ℓ ++ [j + i]) v
  | [], _, _, _, _, _, _, e => by simp at e
  | d :: ds, ℓ, j, vs, 0, d', h, e => by
    simp only [RepL] at h
    obtain ⟨v, r, e1, h1, h2⟩ := h
    obtain rfl : d = d' := by simpa using e
    exact ⟨v, by rw [e1]; rfl, by simpa using h1⟩
  | d :: ds, ℓ, j, vs, i + 1, d', h, e => by
    simp only [RepL] at h
    obtain ⟨v, r, e1, h1, h2⟩ := h
    obtain ⟨v', e2, h3⟩ := RepL.get (i := i) (d := d') h2 (by simpa using e)
    refine ⟨v', by rw [e1]; simpa using e2, ?_⟩
    rw [show j + (i + 1) = j + 1 + i by omega]
    exact h3
theorem RepL.get' {ds : List D} {ℓ : Loc} {j : Nat} {vs : List V} {i : Nat} {v : V} (h : RepL K w ds ℓ j vs) (e : vs[i]? = some v) : ∃ d, ds[i]? = some d ∧ Rep K w d (ℓ ++ [j + i]) v := by
  have hl := h.length
  have hi : i < ds.length := by rw [← hl]; exact (List.getElem?_eq_some_iff.mp e).1
  obtain ⟨v', e', r⟩ := h.get (List.getElem?_eq_getElem hi)
  rw [e] at e'; cases e'
  exact ⟨_, List.getElem?_eq_getElem hi, r⟩
/-- lists by their places -/
theorem RepL.of : ∀ {ds : List D} {ℓ : Loc} {j : Nat} {vs : List V}, vs.length = ds.length → (∀ i d v, ds[i]? = some d → vs[i]? = some v → Rep K w d (ℓ ++ [j + i]) v) → RepL K w ds ℓ j vs
  | [], _, _, vs, hl, _ => by simp only [RepL]; exact List.length_eq_zero_iff.mp (by simpa using hl)
  | d :: ds, ℓ, j, [], hl, _ => by simp at hl
  | d :: ds, ℓ, j, v :: vs, hl, h => by
    simp only [RepL]
    refine ⟨v, vs, rfl, by simpa using h 0 d v rfl rfl, RepL.of (by simpa using hl) fun i d' v' e1 e2 => ?_⟩
    rw [show j + 1 + i = j + (i + 1) by omega]
    exact h (i + 1) d' v' (by simpa using e1) (by simpa using e2)
theorem RepL.app {ds es : List D} {ℓ : Loc} {j : Nat} {vs us : List V} (h : RepL K w ds ℓ j vs) (g : RepL K w es ℓ (j + ds.length) us) : RepL K w (ds ++ es) ℓ j (vs ++ us) := by
  induction ds generalizing j vs with
  | nil => simp only [RepL] at h; subst h; simpa using g
  | cons d ds ih =>
    simp only [RepL] at h
    obtain ⟨v, r, rfl, h1, h2⟩ := h
    simp only [List.cons_append, RepL]
    refine ⟨v, r ++ us, rfl, h1, ih h2 ?_⟩
    rw [List.length_cons, show j + (ds.length + 1) = j + 1 + ds.length by omega] at g
    exact g
theorem RepL.one {d : D} {ℓ : Loc} {j : Nat} {v : V} (h : Rep K w d (ℓ ++ [j]) v) : RepL K w [d] ℓ j [v] := by
  simp only [RepL]
  exact ⟨v, [], rfl, h, rfl⟩
theorem RepL.set {ds : List D} {ℓ : Loc} {j : Nat} {vs : List V} {i : Nat} {d : D} {v : V} (h : RepL K w ds ℓ j vs) (g : Rep K w d (ℓ ++ [j + i]) v) : RepL K w (ds.set i d) ℓ j (vs.set i v) := by
  refine RepL.of (by rw [List.length_set, List.length_set, h.length]) fun i' d' v' e1 e2 => ?_
  by_cases hi : i' = i
  · subst hi
    have h1 : i' < ds.length := by
      have := (List.getElem?_eq_some_iff.mp e1).1
      simpa using this
    rw [List.getElem?_set_self h1] at e1
    rw [List.getElem?_set_self (by rw [h.length]; exact h1)] at e2
    cases e1; cases e2
    exact g
  · rw [List.getElem?_set_ne (Ne.symm hi)] at e1 e2
    obtain ⟨v2, e3, r⟩ := h.get e1
    rw [e2] at e3; cases e3
    exact r
end
end FL
/-! FL2: worlds, what is kept, the judgements over data: FE, FT, FA, FS. -/
namespace FL
open PySem PySem.Spec PyProof.Rows L2
abbrev Sl := L2.St
/-- an environment: what each name holds -/
abbrev En := List (Option D)
/-- what is wished of an exception: class, fields, environment -/
abbrev EE := Value → Option (List (Str × D)) → En → Prop
abbrev RE := En → EE → (D → En → Prop) → Prop
abbrev RT := En → EE → (Bool → En → Prop) → Prop
/-- an argument: a value, or a name lent -/
inductive AD where
  | val (d : D) | brw (i : Nat)
abbrev RA := En → EE → (List AD → En → Prop) → Prop
structure Fin where
  nx : En → Prop
  rt : D → En → Prop
  bk : En → Prop := fun _ => False
  ct : En → Prop := fun _ => False
abbrev RS := En → EE → Fin → Prop
/-- the names laid out one by one -/
def nf : En → (En → Prop) → Prop
  | [], k => k []
  | a :: r, k => nf r fun r' => k (a :: r')
theorem nf_eq : ∀ (ρ : En) (k : En → Prop), nf ρ k = k ρ
  | [], _ => rfl
  | a :: r, k => nf_eq r _
theorem nf_of {ρ : En} {k : En → Prop} (h : nf ρ k) : k ρ := by rw [nf_eq] at h; exact h
def Fin.wn (F : Fin) (k : En → Prop) : Fin := ⟨k, F.rt, F.bk, F.ct⟩
/-- the ends of a loop's body -/
def Fin.lp (F : Fin) (k : En → Prop) : Fin := ⟨k, F.rt, F.nx, k⟩
/-- a fixed location: a caller's (0), or an elder temporary's -/
def Fixed (n τ : Nat) (ℓ : Loc) : Prop := ∃ h r, ℓ = h :: r ∧ (h = 0 ∨ (n < h ∧ h < τ))
structure Ext (n τ : Nat) (w w' : Wd) : Prop where
  s : Same w.S w'.S
  f : ∀ a ℓ, w.G a = some ℓ → Fixed n τ ℓ → w'.G a = some ℓ ∧ w'.H a = w.H a
theorem Fixed.mono {n τ τ' : Nat} {ℓ : Loc} (h : Fixed n τ ℓ) (k : τ ≤ τ') : Fixed n τ' ℓ := by
  obtain ⟨a, r, e, q⟩ := h
  exact ⟨a, r, e, by omega⟩
theorem Ext.refl {n τ : Nat} {w : Wd} : Ext n τ w w := ⟨Same.refl _, fun _ _ h _ => ⟨h, rfl⟩⟩
theorem Ext.trans {n τ : Nat} {w w1 w2 : Wd} (a : Ext n τ w w1) (b : Ext n τ w1 w2) : Ext n τ w w2 :=
  ⟨a.s.trans b.s, fun x ℓ h k => by
    obtain ⟨h1, e1⟩ := a.f x ℓ h k
    obtain ⟨h2, e2⟩ := b.f x ℓ h1 k
    exact ⟨h2, e2.trans e1⟩⟩
theorem Ext.mono {n τ τ' : Nat} {w w' : Wd} (a : Ext n τ' w w') (k : τ ≤ τ') : Ext n τ w w' := ⟨a.s, fun x ℓ h f => a.f x ℓ h (f.mono k)⟩
theorem Ext.rep {n τ : Nat} {K : PySem.W.Frag} {w w' : Wd} (a : Ext n τ w w') {d : D} {h : Nat} {r : Loc} {v : V} (k : n < h ∧ h < τ) (q : Rep K w d (h :: r) v) : Rep K w' d (h :: r) v :=
  q.to a.s d fun x s e => a.f x _ e ⟨h, r ++ s, by simp, .inr k⟩
/-- a sound world -/
structure Wf (w : Wd) : Prop where
  sh : Same w.S w.H
  tg : ∀ a ℓ, w.G a = some ℓ → w.S a = none ∧ Mut (w.H a)
structure StE (K : PySem.W.Frag) (w : Wd) (σ : Sl) (ρ : En) : Prop where
  wf : Wf w
  len : σ.length = ρ.length
  rep : ∀ i d, ρ[i]? = some (some d) → ∃ v, σ[i]? = some (some v) ∧ Rep K w d [i + 1] v
def XRepr (K : PySem.W.Frag) (w : Wd) : Option Addr → Option (List (Str × D)) → Prop
  | none, none => True
  | some a, some fs => ∃ vs, w.S a = some (.xd ((fs.map (·.1)).zip vs)) ∧ fs.length = vs.length ∧ ownL (fs.map (·.2)) = false ∧ RepL K w (fs.map (·.2)) [] 0 vs
  | _, _ => False
/-- the world in an expression's end -/
structure EndE (K : PySem.W.Frag) (τ : Nat) (w : Wd) (σ : Sl) (ρ ρ' : En) (w' : Wd) : Prop where
  len : ρ'.length = ρ.length
  st : StE K w' σ ρ'
  ext : Ext ρ.length τ w w'
theorem EndE.trans {K : PySem.W.Frag} {τ τ' : Nat} {w w1 w2 : Wd} {σ : Sl} {ρ ρ1 ρ2 : En} (a : EndE K τ w σ ρ ρ1 w1) (b : EndE K τ' w1 σ ρ1 ρ2 w2) (k : τ ≤ τ') : EndE K τ w σ ρ ρ2 w2 :=
  ⟨b.len.trans a.len, b.st, a.ext.trans (by have := b.ext.mono k; rw [a.len] at this; exact this)⟩
def SX (K : PySem.W.Frag) (W : WX) (τ : Nat) (w : Wd) (σ : Sl) (ρ : En) (E : EE) : Prop :=
  ∀ c fs ρ' w' x, E c fs ρ' → EndE K τ w σ ρ ρ' w' → XRepr K w' x fs → W c x σ w'.H
theorem SX.then {K : PySem.W.Frag} {W : WX} {τ τ' : Nat} {w w1 : Wd} {σ : Sl} {ρ ρ1 : En} {E : EE} (x : SX K W τ w σ ρ E) (a : EndE K τ w σ ρ ρ1 w1) (k : τ ≤ τ') : SX K W τ' w1 σ ρ1 E :=
  fun c fs ρ' w' d h e r => x c fs ρ' w' d h (a.trans e k) r
def SE (K : PySem.W.Frag) (W : WX) (t : TE) (r : RE) : Prop :=
  ∀ (τ : Nat) (w : Wd) (σ : Sl) (ρ : En) (E : EE) (Q : D → En → Prop) (Qv : VK), ρ.length < τ → StE K w σ ρ → r ρ E Q →
    (∀ d ρ' w' v, Q d ρ' → EndE K τ w σ ρ ρ' w' → Rep K w' d [τ] v → Qv v w'.H) → SX K W τ w σ ρ E → t σ w.H Qv
def STt (K : PySem.W.Frag) (W : WX) (t : TT) (r : RT) : Prop :=
  ∀ (τ : Nat) (w : Wd) (σ : Sl) (ρ : En) (E : EE) (Q : Bool → En → Prop) (Qv : Bool → Hp → Prop), ρ.length < τ → StE K w σ ρ → r ρ E Q →
    (∀ b ρ' w', Q b ρ' → EndE K τ w σ ρ ρ' w' → Qv b w'.H) → SX K W τ w σ ρ E → t σ w.H Qv
/-- arguments: values at τ, τ + 1, .. -/
def ArgsAt (K : PySem.W.Frag) (w : Wd) (σ : Sl) : List AD → Nat → List V → Prop
  | [], _, vs => vs = []
  | .val d :: r, τ, vs => ∃ v us, vs = v :: us ∧ Rep K w d [τ] v ∧ ArgsAt K w σ r (τ + 1) us
  | .brw i :: r, τ, vs => ∃ v us, vs = v :: us ∧ σ[i]? = some (some v) ∧ ArgsAt K w σ r (τ + 1) us
def SA (K : PySem.W.Frag) (W : WX) (k : Nat) (t : TA) (r : RA) : Prop :=
  ∀ (τ : Nat) (w : Wd) (σ : Sl) (ρ : En) (E : EE) (Q : List AD → En → Prop) (Qv : List V → Hp → Prop), ρ.length < τ → StE K w σ ρ → r ρ E Q →
    (∀ ads ρ' w' vs, Q ads ρ' → ads.length = k → EndE K τ w σ ρ ρ' w' → ArgsAt K w' σ ads τ vs → Qv vs w'.H) → SX K W τ w σ ρ E → t σ w.H Qv
/-- the names of M are not stored anew -/
def KeepM (M : List Nat) (σ σ' : Sl) : Prop := ∀ i ∈ M, σ'[i]? = σ[i]?
structure EndS (K : PySem.W.Frag) (M : List Nat) (w : Wd) (σ : Sl) (ρ : En) (w' : Wd) (σ' : Sl) (ρ' : En) : Prop where
  len : ρ'.length = ρ.length
  st : StE K w' σ' ρ'
  ext : Ext ρ.length (ρ.length + 1) w w'
  km : KeepM M σ σ'
theorem EndS.trans {K : PySem.W.Frag} {M : List Nat} {w w1 w2 : Wd} {σ σ1 σ2 : Sl} {ρ ρ1 ρ2 : En} (a : EndS K M w σ ρ w1 σ1 ρ1) (b : EndS K M w1 σ1 ρ1 w2 σ2 ρ2) : EndS K M w σ ρ w2 σ2 ρ2 :=
  ⟨b.len.trans a.len, b.st, a.ext.trans (by have := b.ext; rw [a.len] at this; exact this), fun i hi => (b.km i hi).trans (a.km i hi)⟩
theorem EndE.s {K : PySem.W.Frag} {M : List Nat} {τ : Nat} {w w' : Wd} {σ : Sl} {ρ ρ' : En} (a : EndE K τ w σ ρ ρ' w') (h : ρ.length < τ) : EndS K M w σ ρ w' σ ρ' := ⟨a.len, a.st, a.ext.mono h, fun _ _ => rfl⟩
theorem EndS.refl {K : PySem.W.Frag} {M : List Nat} {w : Wd} {σ : Sl} {ρ : En} (h : StE K w σ ρ) : EndS K M w σ ρ w σ ρ := ⟨rfl, h, Ext.refl, fun _ _ => rfl⟩
theorem EndE.refl {K : PySem.W.Frag} {τ : Nat} {w : Wd} {σ : Sl} {ρ : En} (h : StE K w σ ρ) : EndE K τ w σ ρ ρ w := ⟨rfl, h, Ext.refl⟩
structure SF (K : PySem.W.Frag) (W : WX) (M : List Nat) (w : Wd) (σ : Sl) (ρ : En) (E : EE) (F : Fin) (D : Ends) : Prop where
  nx : ∀ ρ' w' σ', F.nx ρ' → EndS K M w σ ρ w' σ' ρ' → D.nx σ' w'.H
  rt : ∀ d ρ' w' σ' v, F.rt d ρ' → EndS K M w σ ρ w' σ' ρ' → Rep K w' d [ρ.length + 1] v → D.rt v w'.H
  bk : ∀ ρ' w' σ', F.bk ρ' → EndS K M w σ ρ w' σ' ρ' → D.bk σ' w'.H
  ct : ∀ ρ' w' σ', F.ct ρ' → EndS K M w σ ρ w' σ' ρ' → D.ct σ' w'.H
  ex : ∀ c fs ρ' w' σ' x, E c fs ρ' → EndS K M w σ ρ w' σ' ρ' → XRepr K w' x fs → W c x σ' w'.H
theorem SF.then {K : PySem.W.Frag} {W : WX} {M : List Nat} {w w1 : Wd} {σ σ1 : Sl} {ρ ρ1 : En} {E : EE} {F : Fin} {D : Ends} (x : SF K W M w σ ρ E F D) (a : EndS K M w σ ρ w1 σ1 ρ1) : SF K W M w1 σ1 ρ1 E F D :=
  ⟨fun ρ' w' σ' h e => x.nx ρ' w' σ' h (a.trans e), fun d ρ' w' σ' v h e r => x.rt d ρ' w' σ' v h (a.trans e) (by rw [a.len] at r; exact r), fun ρ' w' σ' h e => x.bk ρ' w' σ' h (a.trans e),
    fun ρ' w' σ' h e => x.ct ρ' w' σ' h (a.trans e), fun c fs ρ' w' σ' d h e r => x.ex c fs ρ' w' σ' d h (a.trans e) r⟩
theorem SF.sx {K : PySem.W.Frag} {W : WX} {M : List Nat} {w : Wd} {σ : Sl} {ρ : En} {E : EE} {F : Fin} {D : Ends} (x : SF K W M w σ ρ E F D) : SX K W (ρ.length + 1) w σ ρ E :=
  fun c fs ρ' w' d h e r => x.ex c fs ρ' w' σ d h (e.s (Nat.lt_succ_self _)) r
def SS (K : PySem.W.Frag) (W : WX) (M : List Nat) (t : TS) (r : RS) : Prop :=
  ∀ (w : Wd) (σ : Sl) (ρ : En) (E : EE) (F : Fin) (D : Ends), StE K w σ ρ → r ρ E F → SF K W M w σ ρ E F D → t D σ w.H
structure FE (X : Cx) (W : WX) (e : Expr) (r : RE) : Prop where
  ex : ∃ t, PE X e t ∧ SE X.K W t r
structure FT (X : Cx) (W : WX) (e : Expr) (r : RT) : Prop where
  ex : ∃ t, PT X e t ∧ STt X.K W t r
/-- .. whatever its whole is (and, or) -/
structure FW (X : Cx) (W : WX) (e : Expr) (r : RT) : Prop where
  ex : ∃ t, PW X e t ∧ STt X.K W t r
structure FA (X : Cx) (W : WX) (es : List Expr) (r : RA) : Prop where
  ex : ∃ t, PA X es t ∧ SA X.K W es.length t r
structure FS (X : Cx) (W : WX) (M : List Nat) (st : Stmt) (r : RS) : Prop where
  ex : ∃ t, PS X st t ∧ SS X.K W M t r
structure FSs (X : Cx) (W : WX) (M : List Nat) (st : List Stmt) (r : RS) : Prop where
  ex : ∃ t, PSs X st t ∧ SS X.K W M t r
/-! ### worlds changed -/
/-- the tags renamed -/
def Wd.ren (w : Wd) (f : Loc → Option Loc) : Wd := ⟨fun a => (w.G a).bind f, w.S, w.H⟩
theorem Wf.ren {w : Wd} (h : Wf w) (f : Loc → Option Loc) : Wf (w.ren f) := ⟨h.sh, fun a ℓ e => by
  cases q : w.G a with
  | none => rw [show (w.ren f).G a = (w.G a).bind f from rfl, q] at e; cases e
  | some k => exact h.tg a k q⟩
theorem ren_at {w : Wd} {f : Loc → Option Loc} {a : Addr} {ℓ ℓ' : Loc} (h : w.G a = some ℓ) (e : f ℓ = some ℓ') : (w.ren f).G a = some ℓ' := by
  show (w.G a).bind f = some ℓ'
  rw [h]; exact e
theorem KeptTo.ren {w : Wd} {f : Loc → Option Loc} {ℓ ℓ' : Loc} (h : ∀ s, f (ℓ ++ s) = some (ℓ' ++ s)) : KeptTo w (w.ren f) ℓ ℓ' := fun a s e => ⟨ren_at e (h s), rfl⟩
theorem Rep.ren {K : PySem.W.Frag} {w : Wd} {f : Loc → Option Loc} {d : D} {ℓ ℓ' : Loc} {v : V} (q : Rep K w d ℓ v) (h : ∀ s, f (ℓ ++ s) = some (ℓ' ++ s)) : Rep K (w.ren f) d ℓ' v := Rep.to (w := w) (w' := w.ren f) (Same.refl _) d (KeptTo.ren h) q
/-- a new owned node at p -/
def Wd.new (w : Wd) (p : Addr) (ℓ : Loc) (o : HO) : Wd := ⟨fun a => if a = p then some ℓ else w.G a, w.S, upd w.H p o⟩
/-- a new shared node at p -/
def Wd.shr (w : Wd) (p : Addr) (o : HO) : Wd := ⟨w.G, upd w.S p o, upd w.H p o⟩
theorem Wf.noG {w : Wd} (h : Wf w) {p : Addr} (n : w.H p = none) : w.G p = none := by
  cases q : w.G p with
  | none => rfl
  | some k => have := (h.tg p k q).2; rw [n] at this; exact this.elim
theorem Wf.noS {w : Wd} (h : Wf w) {p : Addr} (n : w.H p = none) : w.S p = none := h.sh.free n
theorem Same.updNew {H : Hp} {p : Addr} {o : HO} (n : H p = none) : Same H (upd H p o) := fun b u e => by rw [upd_ne (ne_of_none e n)]; exact e
theorem Wf.new {w : Wd} (h : Wf w) {p : Addr} (n : w.H p = none) {ℓ : Loc} {o : HO} (m : Mut (some o)) : Wf (w.new p ℓ o) := by
  refine ⟨fun b u e => ?_, fun a k e => ?_⟩
  · show upd w.H p o b = some u
    rw [upd_ne (ne_of_none (h.sh b u e) n)]; exact h.sh b u e
  · by_cases ha : a = p
    · subst ha
      exact ⟨h.noS n, by show Mut (upd w.H a o a); rw [upd_same]; exact m⟩
    · have e' : w.G a = some k := by
        have e : (if a = p then some ℓ else w.G a) = some k := e
        rw [if_neg ha] at e; exact e
      exact ⟨(h.tg a k e').1, by show Mut (upd w.H p o a); rw [upd_ne ha]; exact (h.tg a k e').2⟩
theorem Wf.shr {w : Wd} (h : Wf w) {p : Addr} (n : w.H p = none) {o : HO} : Wf (w.shr p o) := by
  refine ⟨fun b u e => ?_, fun a k e => ?_⟩
  · show upd w.H p o b = some u
    have e : upd w.S p o b = some u := e
    by_cases hb : b = p
    · subst hb; rw [upd_same] at e ⊢; exact e
    · rw [upd_ne hb] at e ⊢; exact h.sh b u e
  · have e' : w.G a = some k := e
    have ha : a ≠ p := fun z => by rw [z, h.noG n] at e'; cases e'
    exact ⟨by show upd w.S p o a = none; rw [upd_ne ha]; exact (h.tg a k e').1, by show Mut (upd w.H p o a); rw [upd_ne ha]; exact (h.tg a k e').2⟩
theorem new_kept {w : Wd} (h : Wf w) {p : Addr} (n : w.H p = none) {ℓ k : Loc} {o : HO} : KeptTo w (w.new p ℓ o) k k := fun a s e => by
  have ha : a ≠ p := fun z => by subst z; rw [h.noG n] at e; cases e
  exact ⟨by show (if a = p then some ℓ else w.G a) = _; rw [if_neg ha]; exact e, upd_ne ha⟩
theorem shr_kept {w : Wd} (h : Wf w) {p : Addr} (n : w.H p = none) {k : Loc} {o : HO} : KeptTo w (w.shr p o) k k := fun a s e => by
  have e : w.G a = some (k ++ s) := e
  have ha : a ≠ p := fun z => by subst z; rw [h.noG n] at e; cases e
  exact ⟨e, upd_ne ha⟩
theorem shr_same {w : Wd} (h : Wf w) {p : Addr} (n : w.H p = none) {o : HO} : Same w.S (w.shr p o).S := Same.updNew (h.noS n)
theorem StE.to {K : PySem.W.Frag} {w w' : Wd} {σ : Sl} {ρ : En} (h : StE K w σ ρ) (wf : Wf w') (hs : Same w.S w'.S) (k : ∀ i, i < ρ.length → KeptTo w w' [i + 1] [i + 1]) : StE K w' σ ρ :=
  ⟨wf, h.len, fun i d e => by
    obtain ⟨v, e1, q⟩ := h.rep i d e
    exact ⟨v, e1, q.to hs d (k i (List.getElem?_eq_some_iff.mp e).1)⟩⟩
theorem EndE.new {K : PySem.W.Frag} {τ : Nat} {w : Wd} {σ : Sl} {ρ : En} (h : StE K w σ ρ) {p : Addr} (n : w.H p = none) {ℓ : Loc} {o : HO} (m : Mut (some o)) : EndE K τ w σ ρ ρ (w.new p ℓ o) :=
  ⟨rfl, h.to (h.wf.new n m) (Same.refl _) fun i _ => new_kept h.wf n, ⟨Same.refl _, fun a k e _ => by simpa using new_kept (k := k) h.wf n a [] (by simpa using e)⟩⟩
theorem EndE.shr {K : PySem.W.Frag} {τ : Nat} {w : Wd} {σ : Sl} {ρ : En} (h : StE K w σ ρ) {p : Addr} (n : w.H p = none) {o : HO} : EndE K τ w σ ρ ρ (w.shr p o) :=
  ⟨rfl, h.to (h.wf.shr n) (shr_same h.wf n) fun i _ => shr_kept h.wf n, ⟨shr_same h.wf n, fun a k e _ => by simpa using shr_kept (k := k) h.wf n a [] (by simpa using e)⟩⟩
/-- temporaries τ, τ + 1, .. (k of them) become the children of τ -/
def gather (τ k : Nat) : Loc → Option Loc
  | h :: s => if τ ≤ h ∧ h < τ + k then some (τ :: (h - τ) :: s) else some (h :: s)
  | [] => some []
/-- a renaming that leaves names and fixed locations as they are -/
structure Calm (n τ : Nat) (f : Loc → Option Loc) : Prop where
  fix : ∀ h s, h ≤ n ∨ h < τ → f (h :: s) = some (h :: s)
theorem EndE.ren {K : PySem.W.Frag} {τ : Nat} {w : Wd} {σ : Sl} {ρ : En} {f : Loc → Option Loc} (h : StE K w σ ρ) (c : Calm ρ.length τ f) : EndE K τ w σ ρ ρ (w.ren f) :=
  ⟨rfl, h.to (h.wf.ren f) (Same.refl _) fun i hi => KeptTo.ren fun s => c.fix _ _ (.inl hi), ⟨Same.refl _, fun a ℓ e ⟨x, r, e2, q⟩ => by
    subst e2
    exact ⟨ren_at e (c.fix _ _ (by omega)), rfl⟩⟩⟩
theorem gather_calm {n τ k : Nat} (h : n < τ) : Calm n τ (gather τ k) := ⟨fun a s q => by
  show (if _ then _ else _) = _
  rw [if_neg (by omega)]⟩
theorem gather_at {τ k j : Nat} (h : j < k) (s : Loc) : gather τ k ((τ + j) :: s) = some (τ :: j :: s) := by
  show (if _ then _ else _) = _
  rw [if_pos (by omega)]
  simp
end FL
/-! FL3: expressions: names, constants, operators, subscripts, displays. -/
namespace FL
open PySem PySem.Spec PyProof.Rows L2
/-! ### operands: values or names lent -/
abbrev RO := En → EE → (AD → En → Prop) → Prop
def AdAt (K : PySem.W.Frag) (w : Wd) (σ : Sl) : AD → Nat → V → Prop
  | .val d, τ, v => Rep K w d [τ] v
  | .brw i, _, v => σ[i]? = some (some v)
def SOp (K : PySem.W.Frag) (W : WX) (t : TE) (r : RO) : Prop :=
  ∀ (τ : Nat) (w : Wd) (σ : Sl) (ρ : En) (E : EE) (Q : AD → En → Prop) (Qv : VK), ρ.length < τ → StE K w σ ρ → r ρ E Q →
    (∀ d ρ' w' v, Q d ρ' → EndE K τ w σ ρ ρ' w' → AdAt K w' σ d τ v → Qv v w'.H) → SX K W τ w σ ρ E → t σ w.H Qv
structure FO (X : Cx) (W : WX) (e : Expr) (r : RO) : Prop where
  ex : ∃ t, PE X e t ∧ SOp X.K W t r
def oV (r : RE) : RO := fun ρ E Q => r ρ E fun d ρ' => Q (.val d) ρ'
def oN (i : Nat) : RO := fun ρ _ Q => match ρ[i]? with
  | some (some _) => Q (.brw i) ρ
  | _ => False
section
variable {X : Cx} {W : WX} {e : Expr}
theorem fo_val {r : RE} (h : FE X W e r) : FO X W e (oV r) := by
  obtain ⟨t, p, s⟩ := h.ex
  exact ⟨t, p, fun τ w σ ρ E Q Qv hn st hr hq hx => s τ w σ ρ E _ Qv hn st hr (fun d ρ' w' v q e' r' => hq (.val d) ρ' w' v q e' r') hx⟩
theorem fo_brw {i : Nat} {x : Str} {pos : Pos} (hN : X.N[i]? = some x := by rfl) (hv : Vis X.env.scope x := by first | exact Or.inl rfl | exact Or.inr (Or.inl rfl) | exact Or.inr (Or.inr rfl)) (hd : (x == ("__debug__" : Str)) = false := by decide)
    (hcd : (x == ("__classdict__" : Str)) = false := by decide) : FO X W (.Name x pos) (oN i) := by
  refine ⟨_, pe_var hN hv hd hcd, fun τ w σ ρ E Q Qv hn st hr hq hx => ?_⟩
  unfold oN at hr
  split at hr
  · rename_i d e
    obtain ⟨v, e1, r1⟩ := st.rep i d e
    exact ⟨v, e1, hq _ _ _ _ hr (EndE.refl st) e1⟩
  · exact hr.elim
end
/-- what an operand is, in the environment at hand -/
def adD (ρ : En) : AD → Option D
  | .val d => some d
  | .brw i => match ρ[i]? with
    | some (some d) => some d
    | _ => none
def on1 (ρ : En) (a : AD) (k : D → Prop) : Prop := match adD ρ a with
  | some d => k d
  | none => False
/-- a data rule of two values -/
abbrev DO := D → D → (D → Prop) → Prop
def rBin (dop : DO) (ra rb : RO) : RE := fun ρ E Q => ra ρ E fun x ρ1 => rb ρ1 E fun y ρ2 => on1 ρ2 x fun dx => on1 ρ2 y fun dy => dop dx dy fun d => Q d ρ2
def rUn (dop : D → (D → Prop) → Prop) (ra : RO) : RE := fun ρ E Q => ra ρ E fun x ρ1 => on1 ρ1 x fun dx => dop dx fun d => Q d ρ1
/-- by values: what is asked of x and y follows from what the data rule asks -/
def SOK (K : PySem.W.Frag) (r : R2) (dop : DO) : Prop :=
  ∀ (τ : Nat) (w : Wd) (σ : Sl) (ρ : En) (x y : V) (dx dy : D) (ℓ ℓ' : Loc) (Q : D → Prop) (Qv : VK), ρ.length < τ → StE K w σ ρ → Rep K w dx ℓ x → Rep K w dy ℓ' y → dop dx dy Q →
    (∀ d w' v, Q d → EndE K τ w σ ρ ρ w' → Rep K w' d [τ] v → Qv v w'.H) → r x y w.H Qv
structure FOp (X : Cx) (f : Value → Value → Sem Value) (dop : DO) : Prop where
  ex : ∃ r : R2, OpR X f r ∧ SOK X.K r dop
theorem FOp.or {X : Cx} {f : Value → Value → Sem Value} {p q : DO} (h : FOp X f p) (g : FOp X f q) : FOp X f (fun a b Q => p a b Q ∨ q a b Q) := by
  obtain ⟨r, h1, h2⟩ := h.ex
  obtain ⟨r', g1, g2⟩ := g.ex
  refine ⟨_, h1.or g1, fun τ w σ ρ x y dx dy ℓ ℓ' Q Qv hn st rx ry hd hq => ?_⟩
  rcases hd with hd | hd
  · exact .inl (h2 τ w σ ρ x y dx dy ℓ ℓ' Q Qv hn st rx ry hd hq)
  · exact .inr (g2 τ w σ ρ x y dx dy ℓ ℓ' Q Qv hn st rx ry hd hq)
theorem FOp.imp {X : Cx} {f : Value → Value → Sem Value} {p q : DO} (h : FOp X f p) (g : ∀ a b Q, q a b Q → p a b Q) : FOp X f q := by
  obtain ⟨r, h1, h2⟩ := h.ex
  exact ⟨r, h1, fun τ w σ ρ x y dx dy ℓ ℓ' Q Qv hn st rx ry hd hq => h2 τ w σ ρ x y dx dy ℓ ℓ' Q Qv hn st rx ry (g _ _ _ hd) hq⟩
section
variable {K : PySem.W.Frag} {w w' : Wd} {σ : Sl} {ρ ρ' : En} {τ : Nat}
/-- an operand, later -/
theorem ad_get {a : AD} {d : D} {v : V} (st : StE K w σ ρ) (h : AdAt K w σ a τ v) (e : adD ρ a = some d) : ∃ ℓ, Rep K w d ℓ v := by
  cases a with
  | val d' => cases e; exact ⟨_, h⟩
  | brw i =>
    simp only [adD] at e
    split at e
    · rename_i d' e'
      cases e
      obtain ⟨v', e1, r⟩ := st.rep i d e'
      rw [show σ[i]? = some (some v) from h] at e1
      cases e1
      exact ⟨_, r⟩
    · cases e
theorem AdAt.later {a : AD} {v : V} (h : AdAt K w σ a τ v) (hn : ρ.length < τ) (e : EndE K (τ + 1) w σ ρ ρ' w') : AdAt K w' σ a τ v := by
  cases a with
  | val d => exact e.ext.rep (r := []) ⟨hn, Nat.lt_succ_self _⟩ h
  | brw i => exact h
theorem on1_elim {a : AD} {k : D → Prop} (h : on1 ρ a k) : ∃ d, adD ρ a = some d ∧ k d := by
  unfold on1 at h
  split at h
  · exact ⟨_, by assumption, h⟩
  · exact h.elim
end
section
variable {X : Cx} {W : WX} {a b : Expr} {ra rb : RO} {pos : Pos}
theorem so_bin {K : PySem.W.Frag} {r : R2} {dop : DO} {ta tb : TE} (sa : SOp K W ta ra) (sb : SOp K W tb rb) (so : SOK K r dop) : SE K W (tOp r ta tb) (rBin dop ra rb) := by
  intro τ w σ ρ E Q Qv hn st hr hq hx
  refine sa τ w σ ρ E _ _ hn st hr (fun x ρ1 w1 v1 h1 e1 r1 => ?_) hx
  have hn1 : ρ1.length < τ + 1 := by rw [e1.len]; omega
  refine sb (τ + 1) w1 σ ρ1 E _ _ hn1 e1.st h1 (fun y ρ2 w2 v2 h2 e2 r2 => ?_) (hx.then e1 (Nat.le_succ _))
  obtain ⟨dx, ex, h2⟩ := on1_elim h2
  obtain ⟨dy, ey, h2⟩ := on1_elim h2
  have e12 := e1.trans e2 (Nat.le_succ _)
  obtain ⟨ℓ, rx⟩ := ad_get e12.st (r1.later (by rw [e1.len]; exact hn) e2) ex
  obtain ⟨ℓ', ry⟩ := ad_get e12.st r2 ey
  exact so τ w2 σ ρ2 v1 v2 dx dy ℓ ℓ' _ _ (by rw [e12.len]; exact hn) e12.st rx ry h2 fun d w3 v3 q e3 r3 => hq d ρ2 w3 v3 q (e12.trans e3 (Nat.le_refl _)) r3
theorem fe_op {op : Operator} {dop : DO} (ho : FOp X (binaryOp op) dop) (ha : FO X W a ra) (hb : FO X W b rb) : FE X W (.BinOp a op b pos) (rBin dop ra rb) := by
  obtain ⟨r, h1, h2⟩ := ho.ex
  obtain ⟨ta, pa, sa⟩ := ha.ex
  obtain ⟨tb, pb, sb⟩ := hb.ex
  exact ⟨_, pe_op h1 pa pb, so_bin sa sb h2⟩
theorem fe_cmp {op : CmpOp} {dop : DO} (ho : FOp X (compareOp op) dop) (ha : FO X W a ra) (hb : FO X W b rb) (hm : behindInMarks op b = false := by first | exact nomark _ | rfl) : FE X W (.Compare a [op] [b] pos) (rBin dop ra rb) := by
  obtain ⟨r, h1, h2⟩ := ho.ex
  obtain ⟨ta, pa, sa⟩ := ha.ex
  obtain ⟨tb, pb, sb⟩ := hb.ex
  exact ⟨_, pe_cmpR h1 pa pb hm, so_bin sa sb h2⟩
/-- a truth value as a test -/
def rTst (r : RE) : RT := fun ρ E Q => r ρ E fun d ρ' => match d with
  | .bl b => Q b ρ'
  | _ => False
theorem st_tst {K : PySem.W.Frag} {t : TE} {r : RE} (s : SE K W t r) : STt K W (tTest t) (rTst r) := by
  intro τ w σ ρ E Q Qv hn st hr hq hx
  refine s τ w σ ρ E _ _ hn st hr (fun d ρ' w' v h e r' => ?_) hx
  cases d with
  | bl b => exact ⟨b, r', hq b ρ' w' h e⟩
  | _ => exact h.elim
theorem ft_cmp {op : CmpOp} {dop : DO} (ho : FOp X (compareOp op) dop) (ha : FO X W a ra) (hb : FO X W b rb) (hm : behindInMarks op b = false := by first | exact nomark _ | rfl) : FT X W (.Compare a [op] [b] pos) (rTst (rBin dop ra rb)) := by
  obtain ⟨r, h1, h2⟩ := ho.ex
  obtain ⟨ta, pa, sa⟩ := ha.ex
  obtain ⟨tb, pb, sb⟩ := hb.ex
  exact ⟨_, pt_cmpR h1 pa pb hm, st_tst (so_bin sa sb h2)⟩
theorem ft_val {e : Expr} {r : RE} (h : FE X W e r) (he : ∀ whole, isTrue e X.env whole = (do let v ← whole; standAt e.pos; holding [v] (truthy v)) := by intro _; rfl) : FT X W e (rTst r) := by
  obtain ⟨t, p, s⟩ := h.ex
  exact ⟨_, pt_val p he, st_tst s⟩
end
/-! ### names, constants -/
section
variable {X : Cx} {W : WX}
/-- a name's value: frozen, it is copied; owned, it is moved -/
def rVar (i : Nat) : RE := fun ρ _ Q => match ρ[i]? with
  | some (some d) => match d.own with
    | false => Q d ρ
    | true => Q d (ρ.set i none)
  | _ => False
/-- out of slot i to τ -/
def slotTo (i τ : Nat) : Loc → Option Loc
  | h :: s => if h = i + 1 then some (τ :: s) else some (h :: s)
  | [] => some []
theorem StE.drop {K : PySem.W.Frag} {w : Wd} {σ : Sl} {ρ : En} (st : StE K w σ ρ) (i : Nat) {f : Loc → Option Loc} (hf : ∀ j s, j ≠ i → j < ρ.length → f ((j + 1) :: s) = some ((j + 1) :: s)) : StE K (w.ren f) σ (ρ.set i none) :=
  ⟨st.wf.ren f, by rw [List.length_set]; exact st.len, fun j d e => by
    have hj : j ≠ i := fun z => by
      subst z
      by_cases hl : j < ρ.length
      · rw [List.getElem?_set_self hl] at e; cases e
      · rw [List.getElem?_eq_none (by simpa using hl)] at e; cases e
    rw [List.getElem?_set_ne (Ne.symm hj)] at e
    obtain ⟨v, e1, r⟩ := st.rep j d e
    exact ⟨v, e1, r.ren fun s => hf j s hj (List.getElem?_eq_some_iff.mp e).1⟩⟩
theorem fe_var {i : Nat} {x : Str} {pos : Pos} (hN : X.N[i]? = some x := by rfl) (hv : Vis X.env.scope x := by first | exact Or.inl rfl | exact Or.inr (Or.inl rfl) | exact Or.inr (Or.inr rfl)) (hd : (x == ("__debug__" : Str)) = false := by decide)
    (hcd : (x == ("__classdict__" : Str)) = false := by decide) : FE X W (.Name x pos) (rVar i) := by
  refine ⟨_, pe_var hN hv hd hcd, fun τ w σ ρ E Q Qv hn st hr hq hx => ?_⟩
  unfold rVar at hr
  split at hr
  · rename_i d e
    obtain ⟨v, e1, r1⟩ := st.rep i d e
    refine ⟨v, e1, ?_⟩
    have hi := (List.getElem?_eq_some_iff.mp e).1
    split at hr
    · rename_i ho
      exact hq _ _ _ _ hr (EndE.refl st) (r1.free (Same.refl _) d ho)
    · refine hq _ _ (w.ren (slotTo i τ)) _ hr ⟨by rw [List.length_set], st.drop i (fun j s hj _ => ?_), Same.refl _, fun a ℓ e2 ⟨h, s, e3, k⟩ => ?_⟩ (r1.ren fun s => ?_)
      · show (if _ then _ else _) = _
        rw [if_neg (by omega)]
      · subst e3
        refine ⟨ren_at e2 ?_, rfl⟩
        show (if _ then _ else _) = _
        rw [if_neg (by omega)]
      · show (if _ then _ else _) = _
        rw [if_pos rfl]; rfl
  · exact hr.elim
def rC (d : D) : RE := fun ρ _ Q => Q d ρ
theorem se_C {K : PySem.W.Frag} {v : V} {d : D} (h : ∀ w τ, Rep K w d [τ] v) : SE K W (tC v) (rC d) := fun τ w σ ρ E Q Qv hn st hr hq hx => hq d ρ w v hr (EndE.refl st) (h w τ)
theorem fe_int {i j pos} : FE X W (.Constant (.int i) j pos) (rC (.int i)) := ⟨_, pe_int, se_C fun _ _ => rfl⟩
theorem fe_bl {b j pos} : FE X W (.Constant (.bool b) j pos) (rC (.bl b)) := ⟨_, pe_bl, se_C fun _ _ => rfl⟩
theorem fe_non {j pos} : FE X W (.Constant .none j pos) (rC .non) := ⟨_, pe_non, se_C fun _ _ => rfl⟩
theorem fe_str {x j pos} : FE X W (.Constant (.str x) j pos) (rC (.str x)) := ⟨_, pe_str, se_C fun _ _ => rfl⟩
/-- a module's constant -/
theorem fe_glob {x : Str} {v : V} {u : Value} {pos : Pos} {d : D} (hg : Gl X x) (hm : X.mg x = some u) (r : RelV v u) (h : ∀ w τ, Rep X.K w d [τ] v) (hd : (x == ("__debug__" : Str)) = false := by decide) : FE X W (.Name x pos) (rC d) :=
  ⟨_, pe_glob hg hm r hd, se_C h⟩
end
/-! ### operators on data -/
def MulOk (i j : Int) : Prop := CMul i j ∨ CMulW i j
def dAdd : DO
  | .int a, .int b, Q => Q (.int (a + b))
  | .int a, .bl b, Q => Q (.int (a + b2i b))
  | .str a, .str b, Q => a.length + b.length ≤ sizeLine ∧ Q (.str (a ++ b))
  | .tup false a, .tup false b, Q => a.length + b.length ≤ sizeLine ∧ Q (.tup false (a ++ b))
  | .lst o a, .lst o' b, Q => match o, o' with
    | .deep, _ => False
    | _, .deep => False
    | _, _ => a.length + b.length ≤ sizeLine ∧ Q (.lst .flat (a ++ b))
  | _, _, _ => False
def dSub : DO
  | .int a, .int b, Q => Q (.int (a - b))
  | _, _, _ => False
def dMul : DO
  | .int a, .int b, Q => MulOk a b ∧ Q (.int (a * b))
  | .lst o a, .int k, Q => match o with
    | .deep => False
    | _ => -(2 ^ 63) ≤ k ∧ k < 2 ^ 63 ∧ a.length * k.toNat ≤ sizeLine ∧ Q (.lst .flat (List.replicate k.toNat a).flatten)
  | _, _, _ => False
def dMod : DO
  | .int a, .int b, Q => 0 < b ∧ Q (.int (a % b))
  | _, _, _ => False
def dFdiv : DO
  | .int a, .int b, Q => (0 < b ∧ b.natAbs.log2 < 9000) ∧ Q (.int (a / b))
  | _, _, _ => False
def dPow : DO
  | .int a, .int b, Q => (0 ≤ b ∧ b ≤ 1000000 ∧ a.natAbs < 2 ^ 64) ∧ Q (.int (a ^ b.toNat))
  | _, _, _ => False
/-- multiplied by a constant -/
def dMulC (c : Int) : DO
  | .int a, _, Q => Q (.int (a * c))
  | _, _, _ => False
def dModC (c : Int) : DO
  | .int a, _, Q => Q (.int (a % c))
  | _, _, _ => False
def dFdivC (c : Int) : DO
  | .int a, _, Q => Q (.int (a / c))
  | _, _, _ => False
def dCI (p : Int → Int → Bool) : DO
  | .int a, .int b, Q => Q (.bl (p a b))
  | _, _, _ => False
abbrev dLt : DO := dCI fun i j => decide (i < j)
abbrev dLe : DO := dCI fun i j => decide (i ≤ j)
abbrev dGt : DO := dCI fun i j => decide (j < i)
abbrev dGe : DO := dCI fun i j => decide (j ≤ i)
theorem EndE.own {K : PySem.W.Frag} {τ : Nat} {w : Wd} {σ : Sl} {ρ : En} (o : Ow) (st : StE K w σ ρ) {p : Addr} (n : w.H p = none) {vs : List V} {ds : List D} (hr : RepL K w ds [τ] 0 vs) (hz : ds.length ≤ sizeLine) (hL : Lt o ds) (hm : o.mine = true) : EndE K τ w σ ρ ρ (w.new p [τ] (.lst vs)) ∧ Rep K (w.new p [τ] (.lst vs)) (.lst o ds) [τ] (.ref p) := by
  refine ⟨.new st n trivial, ?_⟩
  rw [rep_inner rfl]
  refine ⟨p, vs, rfl, ?_, ⟨hz, hL⟩, RepL.to (w := w) (w' := w.new p [τ] (.lst vs)) (Same.refl _) ds (new_kept st.wf n) hr⟩
  simp only [Nd, hm, if_true]
  refine ⟨?_, upd_same⟩
  show (if p = p then _ else _) = _
  rw [if_pos rfl]
theorem EndE.tup {K : PySem.W.Frag} {τ : Nat} {w : Wd} {σ : Sl} {ρ : En} (o : Bool) (st : StE K w σ ρ) {p : Addr} (n : w.H p = none) {vs : List V} {ds : List D} {ℓ : Loc} (hr : RepL K w ds ℓ 0 vs) (hz : ds.length ≤ sizeLine) (hL : o = false → ownL ds = false) : EndE K τ w σ ρ ρ (w.shr p (.tup vs)) ∧ Rep K (w.shr p (.tup vs)) (.tup o ds) ℓ (.ref p) := by
  refine ⟨.shr st n, ?_⟩
  simp only [Rep]
  exact ⟨p, vs, rfl, upd_same, ⟨hz, hL⟩, RepL.to (w := w) (w' := w.shr p (.tup vs)) (shr_same st.wf n) ds (shr_kept st.wf n) hr⟩
theorem lst_at {K : PySem.W.Frag} {w : Wd} (wf : Wf w) {o : Ow} {ds : List D} {ℓ : Loc} {v : V} (h : Rep K w (.lst o ds) ℓ v) : ∃ a vs, v = .ref a ∧ w.H a = some (.lst vs) ∧ RepL K w ds ℓ 0 vs := by
  simp only [Rep] at h
  obtain ⟨a, vs, e, h1, hz, h2⟩ := h
  cases q : o.mine with
  | true => rw [q] at h1; exact ⟨a, vs, e, h1.2, h2⟩
  | false => rw [q] at h1; exact ⟨a, vs, e, wf.sh _ _ h1, h2⟩
theorem lst_sz {K : PySem.W.Frag} {w : Wd} {o : Ow} {ds : List D} {ℓ : Loc} {v : V} (h : Rep K w (.lst o ds) ℓ v) : ds.length ≤ sizeLine ∧ Lt o ds := by
  simp only [Rep] at h
  obtain ⟨a, vs, e, h1, hz, h2⟩ := h
  exact hz
theorem tup_sz {K : PySem.W.Frag} {w : Wd} {o : Bool} {ds : List D} {ℓ : Loc} {v : V} (h : Rep K w (.tup o ds) ℓ v) : ds.length ≤ sizeLine ∧ (o = false → ownL ds = false) := by
  simp only [Rep] at h
  obtain ⟨a, vs, e, h1, hz, h2⟩ := h
  exact hz
theorem tup_at {K : PySem.W.Frag} {w : Wd} (wf : Wf w) {o : Bool} {ds : List D} {ℓ : Loc} {v : V} (h : Rep K w (.tup o ds) ℓ v) : ∃ a vs, v = .ref a ∧ w.H a = some (.tup vs) ∧ RepL K w ds ℓ 0 vs := by
  simp only [Rep] at h
  obtain ⟨a, vs, e, h1, hz, h2⟩ := h
  exact ⟨a, vs, e, wf.sh _ _ h1, h2⟩
section
variable {X : Cx}
theorem fop_int {f : Value → Value → Sem Value} {C : Int → Int → Prop} {g : Int → Int → Int} (h : OpR X f (rI C fun i j => .int (g i j))) {dop : DO} (hd : ∀ a b Q, dop a b Q → ∃ i j, a = .int i ∧ b = .int j ∧ C i j ∧ Q (.int (g i j))) : FOp X f dop := by
  refine ⟨_, h, fun τ w σ ρ x y dx dy ℓ ℓ' Q Qv hn st rx ry hq hv => ?_⟩
  obtain ⟨i, j, rfl, rfl, c, q⟩ := hd _ _ _ hq
  simp only [Rep] at rx ry
  subst rx; subst ry
  exact ⟨i, j, rfl, rfl, c, hv _ w _ q (.refl st) rfl⟩
theorem fop_int0 {f : Value → Value → Sem Value} {g : Int → Int → V} {gd : Int → Int → D} (h : OpR X f (rI0 g)) (hg : ∀ i j (K : PySem.W.Frag) w ℓ, Rep K w (gd i j) ℓ (g i j)) {dop : DO} (hd : ∀ a b Q, dop a b Q → ∃ i j, a = .int i ∧ b = .int j ∧ Q (gd i j)) : FOp X f dop := by
  refine ⟨_, h, fun τ w σ ρ x y dx dy ℓ ℓ' Q Qv hn st rx ry hq hv => ?_⟩
  obtain ⟨i, j, rfl, rfl, q⟩ := hd _ _ _ hq
  simp only [Rep] at rx ry
  subst rx; subst ry
  exact ⟨i, j, rfl, rfl, hv _ w _ q (.refl st) (hg ..)⟩
theorem fop_sub : FOp X (binaryOp .Sub) dSub := fop_int0 (gd := fun i j => .int (i - j)) op_sub (fun _ _ _ _ _ => rfl) fun a b Q h => by
  cases a <;> cases b <;> first | exact h.elim | exact ⟨_, _, rfl, rfl, h⟩
theorem fop_cI {op : CmpOp} {p : Int → Int → Bool} (h : OpR X (compareOp op) (rI0 fun i j => .bl (p i j))) : FOp X (compareOp op) (dCI p) := fop_int0 (gd := fun i j => .bl (p i j)) h (fun _ _ _ _ _ => rfl) fun a b Q h => by
  cases a <;> cases b <;> first | exact h.elim | exact ⟨_, _, rfl, rfl, h⟩
theorem fop_lt : FOp X (compareOp .Lt) dLt := fop_cI op_lt
theorem fop_le : FOp X (compareOp .LtE) dLe := fop_cI op_le
theorem fop_gt : FOp X (compareOp .Gt) dGt := fop_cI op_gt
theorem fop_ge : FOp X (compareOp .GtE) dGe := fop_cI op_ge
theorem fop_mod : FOp X (binaryOp .Mod) dMod := fop_int op_mod fun a b Q h => by
  cases a <;> cases b <;> first | exact h.elim | exact ⟨_, _, rfl, rfl, h⟩
theorem fop_fdiv : FOp X (binaryOp .FloorDiv) dFdiv := fop_int op_fdivW fun a b Q h => by
  cases a <;> cases b <;> first | exact h.elim | exact ⟨_, _, rfl, rfl, h⟩
theorem fop_pow : FOp X (binaryOp .Pow) dPow := fop_int op_pow fun a b Q h => by
  cases a <;> cases b <;> first | exact h.elim | exact ⟨_, _, rfl, rfl, h⟩
theorem op_mulOk : OpR X (binaryOp .Mult) (rI MulOk fun i j => .int (i * j)) := opI fun _ _ _ _ _ _ _ hc q => mul_int q (hc.elim (fun z => z.ok) fun z => z.ok)
/-- list and list -/
theorem fop_cat : FOp X (binaryOp .Add) (fun a b Q => ∃ o o' xs ys, a = .lst o xs ∧ b = .lst o' ys ∧ o.light = true ∧ o'.light = true ∧ xs.length + ys.length ≤ sizeLine ∧ Q (.lst .flat (xs ++ ys))) := by
  refine ⟨_, op_cat, fun τ w σ ρ x y dx dy ℓ ℓ' Q Qv hn st rx ry hq hv => ?_⟩
  obtain ⟨o, o', xs, ys, rfl, rfl, ho, ho', hl, q⟩ := hq
  have hx := (lst_sz rx).2 ho
  have hy := (lst_sz ry).2 ho'
  obtain ⟨a, vs, rfl, h1, h2⟩ := lst_at st.wf rx
  obtain ⟨b, us, rfl, k1, k2⟩ := lst_at st.wf ry
  refine ⟨a, b, vs, us, rfl, rfl, h1, k1, by rw [h2.length, k2.length]; exact hl, fun p n => ?_⟩
  have hr : RepL X.K w (xs ++ ys) [τ] 0 (vs ++ us) := (RepL.free (Same.refl _) xs hx h2).app (RepL.free (Same.refl _) ys hy k2)
  obtain ⟨e, r⟩ := EndE.own .flat st n hr (by rw [List.length_append]; exact hl) (fun _ => by rw [ownL_append, hx, hy]; rfl) rfl
  exact hv _ _ _ q e r
theorem fop_rep : FOp X (binaryOp .Mult) (fun a b Q => ∃ o xs k, a = .lst o xs ∧ b = .int k ∧ o.light = true ∧ -(2 ^ 63) ≤ k ∧ k < 2 ^ 63 ∧ xs.length * k.toNat ≤ sizeLine ∧ Q (.lst .flat (List.replicate k.toNat xs).flatten)) := by
  refine ⟨_, op_rep, fun τ w σ ρ x y dx dy ℓ ℓ' Q Qv hn st rx ry hq hv => ?_⟩
  obtain ⟨o, xs, k, rfl, rfl, ho, h0, h9, hl, q⟩ := hq
  have hx := (lst_sz rx).2 ho
  obtain ⟨a, vs, rfl, h1, h2⟩ := lst_at st.wf rx
  simp only [Rep] at ry
  subst ry
  refine ⟨a, k, vs, rfl, rfl, h1, h0, h9, by rw [h2.length]; exact hl, fun p n => ?_⟩
  have ow : ∀ n : Nat, ownL (List.replicate n xs).flatten = false := fun n => by
    rw [ownL_iff]
    intro d hd
    obtain ⟨l, hl, hd⟩ := List.mem_flatten.mp hd
    rw [(List.mem_replicate.mp hl).2] at hd
    exact ownL_iff.mp hx d hd
  have hr : ∀ n : Nat, RepL X.K w (List.replicate n xs).flatten [τ] 0 (List.replicate n vs).flatten := fun n => by
    induction n with
    | zero => exact rfl
    | succ n ih =>
      rw [List.replicate_succ, List.replicate_succ, List.flatten_cons, List.flatten_cons]
      exact (RepL.free (Same.refl _) xs hx h2).app (RepL.free (Same.refl _) _ (ow n) ih)
  obtain ⟨e, r⟩ := EndE.own .flat st n (hr k.toNat) (by rw [PyProof.Rows.lm_len_rep_flat, Nat.mul_comm]; exact hl) (fun _ => ow _) rfl
  exact hv _ _ _ q e r
theorem fop_catT : FOp X (binaryOp .Add) (fun a b Q => ∃ xs ys, a = .tup false xs ∧ b = .tup false ys ∧ xs.length + ys.length ≤ sizeLine ∧ Q (.tup false (xs ++ ys))) := by
  refine ⟨_, op_catA, fun τ w σ ρ x y dx dy ℓ ℓ' Q Qv hn st rx ry hq hv => ?_⟩
  obtain ⟨xs, ys, rfl, rfl, hl, q⟩ := hq
  have hx := (tup_sz rx).2 rfl
  have hy := (tup_sz ry).2 rfl
  obtain ⟨a, vs, rfl, h1, h2⟩ := tup_at st.wf rx
  obtain ⟨b, us, rfl, k1, k2⟩ := tup_at st.wf ry
  have e1 := h2.length
  have e2 := k2.length
  refine ⟨a, b, vs, us, rfl, rfl, SqT.of h1, SqT.of k1, by omega, fun z => ?_, fun _ z => ?_, fun _ _ p n => ?_⟩
  · have : xs = [] := List.length_eq_zero_iff.mp (by rw [← e1, z]; rfl)
    subst this
    exact hv _ w _ q (.refl st) (ry.free (Same.refl _) _ rfl)
  · have : ys = [] := List.length_eq_zero_iff.mp (by rw [← e2, z]; rfl)
    subst this
    rw [List.append_nil] at q
    exact hv _ w _ q (.refl st) (rx.free (Same.refl _) _ rfl)
  · have hr : RepL X.K w (xs ++ ys) [τ] 0 (vs ++ us) := (RepL.free (Same.refl _) xs hx h2).app (RepL.free (Same.refl _) ys hy k2)
    obtain ⟨e, r⟩ := EndE.tup false st n hr (by rw [List.length_append]; exact hl) (fun _ => by rw [ownL_append, hx, hy]; rfl)
    exact hv _ _ _ q e r
theorem fop_addS : FOp X (binaryOp .Add) (fun a b Q => ∃ i j, a = .str i ∧ b = .str j ∧ i.length + j.length ≤ sizeLine ∧ Q (.str (i ++ j))) := by
  refine ⟨_, op_add_str, fun τ w σ ρ x y dx dy ℓ ℓ' Q Qv hn st rx ry hq hv => ?_⟩
  obtain ⟨i, j, rfl, rfl, hl, q⟩ := hq
  simp only [Rep] at rx ry
  subst rx; subst ry
  exact ⟨i, j, rfl, rfl, hl, hv _ w _ q (.refl st) rfl⟩
theorem fop_addI : FOp X (binaryOp .Add) (fun a b Q => ∃ i j, a = .int i ∧ b = .int j ∧ Q (.int (i + j))) := fop_int0 (gd := fun i j => .int (i + j)) op_add (fun _ _ _ _ _ => rfl) fun a b Q h => h
theorem fop_addB : FOp X (binaryOp .Add) (fun a b Q => ∃ i k, a = .int i ∧ b = .bl k ∧ Q (.int (i + b2i k))) := by
  refine ⟨_, op_add_ib, fun τ w σ ρ x y dx dy ℓ ℓ' Q Qv hn st rx ry hq hv => ?_⟩
  obtain ⟨i, j, rfl, rfl, q⟩ := hq
  simp only [Rep] at rx ry
  subst rx; subst ry
  exact ⟨i, j, rfl, rfl, hv _ w _ q (.refl st) rfl⟩
theorem fop_add : FOp X (binaryOp .Add) dAdd := (fop_addI.or (fop_addB.or (fop_addS.or (fop_catT.or fop_cat)))).imp fun a b Q h => by
  unfold dAdd at h
  split at h
  · exact .inl ⟨_, _, rfl, rfl, h⟩
  · exact .inr (.inl ⟨_, _, rfl, rfl, h⟩)
  · exact .inr (.inr (.inl ⟨_, _, rfl, rfl, h⟩))
  · exact .inr (.inr (.inr (.inl ⟨_, _, rfl, rfl, h⟩)))
  · rename_i o a o' b
    cases o <;> cases o' <;> first
      | exact h.elim
      | exact .inr (.inr (.inr (.inr ⟨_, _, _, _, rfl, rfl, rfl, rfl, h⟩)))
  · exact h.elim
theorem fop_mul : FOp X (binaryOp .Mult) dMul := ((fop_int (dop := fun a b Q => ∃ i j, a = .int i ∧ b = .int j ∧ MulOk i j ∧ Q (.int (i * j))) op_mulOk fun a b Q h => h).or fop_rep).imp fun a b Q h => by
  unfold dMul at h
  split at h
  · exact .inl ⟨_, _, rfl, rfl, h⟩
  · rename_i o a k
    cases o <;> first
      | exact h.elim
      | exact .inr ⟨_, _, _, rfl, rfl, rfl, h⟩
  · exact h.elim
end
end FL
/-! FL4: constants in operators, equality, subscripts, displays, arguments, built-in calls, tests. -/
namespace FL
open PySem PySem.Spec PyProof.Rows L2
/-! ### an operator with a written number -/
def rIc (g : Int → Int) (ra : RO) : RE := fun ρ E Q => ra ρ E fun x ρ1 => on1 ρ1 x fun dx => match dx with
  | .int i => Q (.int (g i)) ρ1
  | _ => False
def rIcB (g : Int → Bool) (ra : RO) : RE := fun ρ E Q => ra ρ E fun x ρ1 => on1 ρ1 x fun dx => match dx with
  | .int i => Q (.bl (g i)) ρ1
  | _ => False
section
variable {X : Cx} {W : WX} {a b : Expr} {ra rb : RO} {pos p2 : Pos} {c : Int} {j : Nat}
theorem so_ic {K : PySem.W.Frag} {r : R2} {g : Int → Int} {c : Int} {ta : TE} (hr : ∀ i H Q, Q (.int (g i)) H → r (.int i) (.int c) H Q) (sa : SOp K W ta ra) : SE K W (tOp r ta (tC (.int c))) (rIc g ra) := by
  intro τ w σ ρ E Q Qv hn st h hq hx
  refine sa τ w σ ρ E _ _ hn st h (fun x ρ1 w1 v1 h1 e1 r1 => ?_) hx
  obtain ⟨dx, ex, h1⟩ := on1_elim h1
  obtain ⟨ℓ, rx⟩ := ad_get e1.st r1 ex
  cases dx with
  | int i =>
    simp only [Rep] at rx
    subst rx
    exact hr i _ _ (hq _ _ _ _ h1 e1 rfl)
  | _ => exact h1.elim
theorem so_icl {K : PySem.W.Frag} {r : R2} {g : Int → Int} {c : Int} {ta : TE} (hr : ∀ i H Q, Q (.int (g i)) H → r (.int c) (.int i) H Q) (sa : SOp K W ta ra) : SE K W (tOp r (tC (.int c)) ta) (rIc g ra) := by
  intro τ w σ ρ E Q Qv hn st h hq hx
  refine sa τ w σ ρ E _ _ hn st h (fun x ρ1 w1 v1 h1 e1 r1 => ?_) hx
  obtain ⟨dx, ex, h1⟩ := on1_elim h1
  obtain ⟨ℓ, rx⟩ := ad_get e1.st r1 ex
  cases dx with
  | int i =>
    simp only [Rep] at rx
    subst rx
    exact hr i _ _ (hq _ _ _ _ h1 e1 rfl)
  | _ => exact h1.elim
theorem fe_mulC (ha : FO X W a ra) (hc : (decide (-(2 ^ 64) < c) && decide (c < 2 ^ 64)) = true := by decide) : FE X W (.BinOp a .Mult (.Constant (.int c) j p2) pos) (rIc (fun i => i * c) ra) := by
  obtain ⟨t, p, s⟩ := ha.ex
  simp only [Bool.and_eq_true, decide_eq_true_eq] at hc
  exact ⟨_, pe_op op_mul p pe_int, so_ic (fun i H Q q => ⟨i, c, rfl, rfl, .inr hc, q⟩) s⟩
theorem fe_mulCl (ha : FO X W a ra) (hc : (decide (-(2 ^ 64) < c) && decide (c < 2 ^ 64)) = true := by decide) : FE X W (.BinOp (.Constant (.int c) j p2) .Mult a pos) (rIc (fun i => c * i) ra) := by
  obtain ⟨t, p, s⟩ := ha.ex
  simp only [Bool.and_eq_true, decide_eq_true_eq] at hc
  exact ⟨_, pe_op op_mul pe_int p, so_icl (fun i H Q q => ⟨c, i, rfl, rfl, .inl hc, q⟩) s⟩
theorem fe_modC (ha : FO X W a ra) (hc : decide (0 < c) = true := by decide) : FE X W (.BinOp a .Mod (.Constant (.int c) j p2) pos) (rIc (fun i => i % c) ra) := by
  obtain ⟨t, p, s⟩ := ha.ex
  exact ⟨_, pe_op op_mod p pe_int, so_ic (fun i H Q q => ⟨i, c, rfl, rfl, of_decide_eq_true hc, q⟩) s⟩
theorem fe_fdivC (ha : FO X W a ra) (hc : (decide (0 < c) && decide (c.natAbs < 2 ^ 64)) = true := by decide) : FE X W (.BinOp a .FloorDiv (.Constant (.int c) j p2) pos) (rIc (fun i => i / c) ra) := by
  obtain ⟨t, p, s⟩ := ha.ex
  simp only [Bool.and_eq_true, decide_eq_true_eq] at hc
  exact ⟨_, pe_op op_fdivW p pe_int, so_ic (fun i H Q q => ⟨i, c, rfl, rfl, wide_div hc.1 hc.2 (by decide) (by decide), q⟩) s⟩
theorem fe_addC (ha : FO X W a ra) : FE X W (.BinOp a .Add (.Constant (.int c) j p2) pos) (rIc (fun i => i + c) ra) := by
  obtain ⟨t, p, s⟩ := ha.ex
  exact ⟨_, pe_op op_add p pe_int, so_ic (fun i H Q q => ⟨i, c, rfl, rfl, q⟩) s⟩
theorem fe_addCl (ha : FO X W a ra) : FE X W (.BinOp (.Constant (.int c) j p2) .Add a pos) (rIc (fun i => c + i) ra) := by
  obtain ⟨t, p, s⟩ := ha.ex
  exact ⟨_, pe_op op_add pe_int p, so_icl (fun i H Q q => ⟨c, i, rfl, rfl, q⟩) s⟩
theorem fe_subC (ha : FO X W a ra) : FE X W (.BinOp a .Sub (.Constant (.int c) j p2) pos) (rIc (fun i => i - c) ra) := by
  obtain ⟨t, p, s⟩ := ha.ex
  exact ⟨_, pe_op op_sub p pe_int, so_ic (fun i H Q q => ⟨i, c, rfl, rfl, q⟩) s⟩
theorem fe_powC {c d : Int} {j k : Nat} {p2 p3 : Pos} (hc : (decide (0 ≤ d) && decide (d ≤ 1000) && decide (c.natAbs < 2 ^ 64)) = true := by decide) : FE X W (.BinOp (.Constant (.int c) j p2) .Pow (.Constant (.int d) k p3) pos) (rC (.int (c ^ d.toNat))) := by
  simp only [Bool.and_eq_true, decide_eq_true_eq] at hc
  refine ⟨_, pe_op op_pow pe_int pe_int, fun τ w σ ρ E Q Qv hn st h hq hx => ?_⟩
  exact ⟨c, d, rfl, rfl, ⟨hc.1.1, by omega, hc.2⟩, hq _ _ w _ h (EndE.refl st) rfl⟩
theorem fe_negC {c : Int} {j : Nat} {p2 : Pos} : FE X W (.UnaryOp .USub (.Constant (.int c) j p2) pos) (rC (.int (-c))) := by
  refine ⟨_, pe_un un_neg pe_int, fun τ w σ ρ E Q Qv hn st h hq hx => ?_⟩
  exact ⟨c, rfl, hq _ _ w _ h (EndE.refl st) rfl⟩
theorem fe_neg (ha : FO X W a ra) : FE X W (.UnaryOp .USub a pos) (rIc (fun i => -i) ra) := by
  obtain ⟨t, p, s⟩ := ha.ex
  refine ⟨_, pe_un un_neg p, fun τ w σ ρ E Q Qv hn st h hq hx => ?_⟩
  refine s τ w σ ρ E _ _ hn st h (fun x ρ1 w1 v1 h1 e1 r1 => ?_) hx
  obtain ⟨dx, ex, h1⟩ := on1_elim h1
  obtain ⟨ℓ, rx⟩ := ad_get e1.st r1 ex
  cases dx with
  | int i =>
    simp only [Rep] at rx
    subst rx
    exact ⟨i, rfl, hq _ _ _ _ h1 e1 rfl⟩
  | _ => exact h1.elim
end
/-! ### == and != of data -/
mutual
def D.py : D → PyData
  | .non => .none
  | .bl b => .bool b
  | .int i => .int i
  | .str s => .str s
  | .tup _ ds => .tuple (pyL ds)
  | .lst _ ds => .list (pyL ds)
  | .ro t ds => if t then .tuple (pyL ds) else .list (pyL ds)
  | .obj _ => .dict []
  | .ty _ => .dict []
  | .any => .dict []
  | .dct _ _ _ _ => .dict []
  | .ins _ _ _ _ => .dict []
def pyL : List D → List PyData
  | [] => []
  | d :: ds => d.py :: pyL ds
end
mutual
/-- no dict, instance or function within -/
def D.dat : D → Bool
  | .non => true
  | .bl _ => true
  | .int _ => true
  | .str _ => true
  | .tup _ ds => datL ds
  | .lst _ ds => datL ds
  | .ro _ ds => datL ds
  | _ => false
def datL : List D → Bool
  | [] => true
  | d :: ds => d.dat && datL ds
end
mutual
def D.dep : D → Nat
  | .tup _ ds => depL ds + 1
  | .lst _ ds => depL ds + 1
  | .ro _ ds => depL ds + 1
  | _ => 0
def depL : List D → Nat
  | [] => 0
  | d :: ds => max d.dep (depL ds)
end
def deq (a b : D) : Bool := PyData.eqv a.py b.py
mutual
theorem py_plain : ∀ d : D, d.dat = true → d.py.plain = true
  | .non, _ => rfl
  | .bl _, _ => rfl
  | .int _, _ => rfl
  | .str _, _ => rfl
  | .tup _ ds, h => by simp only [D.py, PyData.plain]; exact pyL_plain ds (by simpa [D.dat] using h)
  | .lst _ ds, h => by simp only [D.py, PyData.plain]; exact pyL_plain ds (by simpa [D.dat] using h)
  | .ro t ds, h => by cases t <;> (simp only [D.py, PyData.plain, if_true, if_false, Bool.false_eq_true]) <;> exact pyL_plain ds (by simpa [D.dat] using h)
  | .obj _, h => by simp [D.dat] at h
  | .ty _, h => by simp [D.dat] at h
  | .any, h => by simp [D.dat] at h
  | .dct _ _ _ _, h => by simp [D.dat] at h
  | .ins _ _ _ _, h => by simp [D.dat] at h
theorem pyL_plain : ∀ ds : List D, datL ds = true → PyData.plainAll (pyL ds) = true
  | [], _ => rfl
  | d :: ds, h => by
    simp only [datL, Bool.and_eq_true] at h
    simp only [pyL, PyData.plainAll, py_plain d h.1, pyL_plain ds h.2, Bool.and_self]
end
mutual
theorem py_dep : ∀ d : D, d.dat = true → d.py.depth = d.dep
  | .non, _ => rfl
  | .bl _, _ => rfl
  | .int _, _ => rfl
  | .str _, _ => rfl
  | .tup _ ds, h => by simp only [D.py, PyData.depth, D.dep, pyL_dep ds (by simpa [D.dat] using h)]
  | .lst _ ds, h => by simp only [D.py, PyData.depth, D.dep, pyL_dep ds (by simpa [D.dat] using h)]
  | .ro t ds, h => by cases t <;> simp only [D.py, PyData.depth, D.dep, if_true, if_false, Bool.false_eq_true, pyL_dep ds (by simpa [D.dat] using h)]
  | .obj _, h => by simp [D.dat] at h
  | .ty _, h => by simp [D.dat] at h
  | .any, h => by simp [D.dat] at h
  | .dct _ _ _ _, h => by simp [D.dat] at h
  | .ins _ _ _ _, h => by simp [D.dat] at h
theorem pyL_dep : ∀ ds : List D, datL ds = true → PyData.depthAll (pyL ds) = depL ds
  | [], _ => rfl
  | d :: ds, h => by
    simp only [datL, Bool.and_eq_true] at h
    simp only [pyL, PyData.depthAll, depL, py_dep d h.1, pyL_dep ds h.2]
end
mutual
theorem rep_dp {K : PySem.W.Frag} {w : Wd} (wf : Wf w) : ∀ (d : D) {ℓ : Loc} {v : V}, d.dat = true → Rep K w d ℓ v → Dp K w.H v d.py
  | .non, _, _, _, h => by simp only [Rep] at h; subst h; exact .non
  | .bl _, _, _, _, h => by simp only [Rep] at h; subst h; exact .bl _
  | .int _, _, _, _, h => by simp only [Rep] at h; subst h; exact .int _
  | .str _, _, _, _, h => by simp only [Rep] at h; subst h; exact .str _
  | .tup o ds, _, _, k, h => by
    obtain ⟨a, vs, rfl, h1, h2⟩ := tup_at wf h
    exact .tup (SqT.of h1) (rep_dps wf ds (by simpa [D.dat] using k) h2)
  | .lst o ds, _, _, k, h => by
    obtain ⟨a, vs, rfl, h1, h2⟩ := lst_at wf h
    exact .lst (SqL.of h1) (rep_dps wf ds (by simpa [D.dat] using k) h2)
  | .ro t ds, _, _, k, h => by
    simp only [Rep] at h
    obtain ⟨a, vs, rfl, h1, _, h2⟩ := h
    cases t with
    | true => exact .tup (same_rdT wf.sh h1) (rep_dps wf ds (by simpa [D.dat] using k) h2)
    | false => exact .lst (wf.sh.seq h1) (rep_dps wf ds (by simpa [D.dat] using k) h2)
  | .obj _, _, _, k, _ => by simp [D.dat] at k
  | .ty _, _, _, k, _ => by simp [D.dat] at k
  | .any, _, _, k, _ => by simp [D.dat] at k
  | .dct _ _ _ _, _, _, k, _ => by simp [D.dat] at k
  | .ins _ _ _ _, _, _, k, _ => by simp [D.dat] at k
theorem rep_dps {K : PySem.W.Frag} {w : Wd} (wf : Wf w) : ∀ (ds : List D) {ℓ : Loc} {j : Nat} {vs : List V}, datL ds = true → RepL K w ds ℓ j vs → DpAll K w.H vs (pyL ds)
  | [], _, _, _, _, h => by simp only [RepL] at h; subst h; exact .nil
  | d :: ds, _, _, _, k, h => by
    simp only [RepL] at h
    obtain ⟨v, r, rfl, h1, h2⟩ := h
    simp only [datL, Bool.and_eq_true] at k
    exact .cons (rep_dp wf d k.1 h1) (rep_dps wf ds k.2 h2)
end
def dEqB (neg : Bool) : DO
  | .int a, .int b, Q => Q (.bl (neg ^^ decide (a = b)))
  | .str a, .str b, Q => Q (.bl (neg ^^ decide (a = b)))
  | a, b, Q => a.dat = true ∧ b.dat = true ∧ min a.dep b.dep ≤ 60 ∧ Q (.bl (neg ^^ deq a b))
abbrev dEq : DO := dEqB false
abbrev dNe : DO := dEqB true
def rEqP (K : PySem.W.Frag) (neg : Bool) : R2 := fun x y H Q => ∃ d e, Dp K H x d ∧ Dp K H y e ∧ d.plain = true ∧ e.plain = true ∧ min d.depth e.depth ≤ 60 ∧ Q (.bl (neg ^^ PyData.eqv d e)) H
theorem op_eqP {X : Cx} (hu : X.A.units + 64 < cLine) : OpR X (compareOp .Eq) (rEqP X.K false) := by
  intro pins s σ H x y v u Q I rx ry h
  obtain ⟨d, e, hd, he, sd, se, hm, q⟩ := h
  obtain ⟨as, r1⟩ := Dp.reads I d x v hd rx
  obtain ⟨bs, r2⟩ := Dp.reads I e y u he ry
  exact SeqAt.eq_plain r1 r2 sd se (by omega) ⟨.bl _, H, I, by rw [Bool.false_xor]; rfl, q⟩
theorem op_neP {X : Cx} (hu : X.A.units + 64 < cLine) : OpR X (compareOp .NotEq) (rEqP X.K true) := by
  intro pins s σ H x y v u Q I rx ry h
  obtain ⟨d, e, hd, he, sd, se, hm, q⟩ := h
  obtain ⟨as, r1⟩ := Dp.reads I d x v hd rx
  obtain ⟨bs, r2⟩ := Dp.reads I e y u he ry
  exact SeqAt.ne_plain r1 r2 sd se (by omega) ⟨.bl _, H, I, by rw [Bool.true_xor]; rfl, q⟩
theorem dEq_get {neg : Bool} {a b : D} {Q : D → Prop} (h : dEqB neg a b Q) : a.dat = true ∧ b.dat = true ∧ min a.dep b.dep ≤ 60 ∧ Q (.bl (neg ^^ deq a b)) := by
  unfold dEqB at h
  split at h
  · refine ⟨rfl, rfl, by simp [D.dep], ?_⟩
    have e : ∀ a b : Int, deq (.int a) (.int b) = decide (a = b) := fun a b => by simp [deq, D.py, PyData.eqv, Bool.beq_eq_decide_eq]
    rw [e]; exact h
  · refine ⟨rfl, rfl, by simp [D.dep], ?_⟩
    have e : ∀ a b : Str, deq (.str a) (.str b) = decide (a = b) := fun a b => by simp [deq, D.py, PyData.eqv, Bool.beq_eq_decide_eq]
    rw [e]; exact h
  · exact h
theorem sok_eq {K : PySem.W.Frag} {neg : Bool} : SOK K (rEqP K neg) (dEqB neg) := by
  intro τ w σ ρ x y dx dy ℓ ℓ' Q Qv hn st rx ry hq hv
  obtain ⟨h1, h2, h3, q⟩ := dEq_get hq
  exact ⟨_, _, rep_dp st.wf dx h1 rx, rep_dp st.wf dy h2 ry, py_plain _ h1, py_plain _ h2, by rw [py_dep _ h1, py_dep _ h2]; exact h3, hv _ w _ q (.refl st) rfl⟩
section
variable {X : Cx}
theorem fop_eq (hu : X.A.units + 64 < cLine) : FOp X (compareOp .Eq) dEq := ⟨_, op_eqP hu, sok_eq⟩
theorem fop_ne (hu : X.A.units + 64 < cLine) : FOp X (compareOp .NotEq) dNe := ⟨_, op_neP hu, sok_eq⟩
end
theorem dEq_of {neg : Bool} {a b : D} {Q : D → Prop} (h1 : a.dat = true) (h2 : b.dat = true) (h3 : a.dep ≤ 60 ∨ b.dep ≤ 60) (q : Q (.bl (neg ^^ deq a b))) : dEqB neg a b Q := by
  have ei : ∀ a b : Int, deq (.int a) (.int b) = decide (a = b) := fun a b => by simp [deq, D.py, PyData.eqv, Bool.beq_eq_decide_eq]
  have es : ∀ a b : Str, deq (.str a) (.str b) = decide (a = b) := fun a b => by simp [deq, D.py, PyData.eqv, Bool.beq_eq_decide_eq]
  unfold dEqB
  split
  · rw [ei] at q; exact q
  · rw [es] at q; exact q
  · exact ⟨h1, h2, by omega, q⟩
/-! ### is None -/
def isNon : D → Option Bool
  | .non => some true
  | .any => none
  | _ => some false
def rIsN (neg : Bool) (ra : RO) : RE := fun ρ E Q => ra ρ E fun x ρ1 => on1 ρ1 x fun dx => match isNon dx with
  | some b => Q (.bl (neg ^^ b)) ρ1
  | none => False
theorem isNon_rep {K : PySem.W.Frag} {w : Wd} {d : D} {ℓ : Loc} {v : V} (h : Rep K w d ℓ v) {b : Bool} (e : isNon d = some b) : decide (v = .non) = b := by
  cases d with
  | any => cases e
  | non => simp only [Rep] at h; subst h; cases e; rfl
  | bl b => simp only [Rep] at h; subst h; cases e; rfl
  | int b => simp only [Rep] at h; subst h; cases e; rfl
  | str b => simp only [Rep] at h; subst h; cases e; rfl
  | obj b => simp only [Rep] at h; subst h; cases e; rfl
  | ty b => simp only [Rep] at h; subst h; cases e; rfl
  | tup o ds => simp only [Rep] at h; obtain ⟨a, vs, rfl, _⟩ := h; cases e; rfl
  | lst o ds => simp only [Rep] at h; obtain ⟨a, vs, rfl, _⟩ := h; cases e; rfl
  | ro t ds => simp only [Rep] at h; obtain ⟨a, vs, rfl, _⟩ := h; cases e; rfl
  | dct o t ks ds => simp only [Rep] at h; obtain ⟨a, vs, rfl, _⟩ := h; cases e; rfl
  | ins o C fs ds => simp only [Rep] at h; obtain ⟨a, vs, rfl, _⟩ := h; cases e; rfl
section
variable {X : Cx} {W : WX} {a b : Expr} {ra rb : RO} {pos p2 : Pos} {j : Nat}
theorem fe_isN (ha : FO X W a ra) : FE X W (.Compare a [.Is] [.Constant .none j p2] pos) (rIsN false ra) := by
  obtain ⟨t, p, s⟩ := ha.ex
  refine ⟨_, pe_cmp (pc_isN p), fun τ w σ ρ E Q Qv hn st h hq hx => ?_⟩
  refine s τ w σ ρ E _ _ hn st h (fun x ρ1 w1 v1 h1 e1 r1 => ?_) hx
  obtain ⟨dx, ex, h1⟩ := on1_elim h1
  obtain ⟨ℓ, rx⟩ := ad_get e1.st r1 ex
  split at h1
  · rename_i bb eb
    rw [isNon_rep rx eb]
    exact hq _ _ _ _ h1 e1 (by rw [Bool.false_xor]; rfl)
  · exact h1.elim
theorem fe_notN (ha : FO X W a ra) : FE X W (.Compare a [.IsNot] [.Constant .none j p2] pos) (rIsN true ra) := by
  obtain ⟨t, p, s⟩ := ha.ex
  refine ⟨_, pe_cmp (pc_notN p), fun τ w σ ρ E Q Qv hn st h hq hx => ?_⟩
  refine s τ w σ ρ E _ _ hn st h (fun x ρ1 w1 v1 h1 e1 r1 => ?_) hx
  obtain ⟨dx, ex, h1⟩ := on1_elim h1
  obtain ⟨ℓ, rx⟩ := ad_get e1.st r1 ex
  split at h1
  · rename_i bb eb
    rw [isNon_rep rx eb]
    exact hq _ _ _ _ h1 e1 (by rw [Bool.true_xor]; rfl)
  · exact h1.elim
end
/-! ### subscripts -/
def keyEq (t : Bool) (a b : D) : Bool := if t then decide (tkey a = tkey b) else decide (skey a = skey b)
def kIdx (t : Bool) (ks : List D) (k : D) : Option Nat := ks.findIdx? fun k' => keyEq t k' k
def dLook (t : Bool) (ks ds : List D) (k : D) : Option D := (kIdx t ks k).bind fun i => ds[i]?
def pick (o : Option D) (Q : D → Prop) : Prop := match o with
  | some d => match d.own with
    | false => Q d
    | true => False
  | none => False
theorem pick_elim {o : Option D} {Q : D → Prop} (h : pick o Q) : ∃ d, o = some d ∧ d.own = false ∧ Q d := by
  unfold pick at h
  split at h
  · split at h
    · rename_i d _ e
      exact ⟨d, rfl, e, h⟩
    · exact h.elim
  · exact h.elim
theorem pick_of {o : Option D} {Q : D → Prop} {d : D} (h : o = some d) (ho : d.own = false) (q : Q d) : pick o Q := by
  subst h
  unfold pick
  simp only [ho]
  exact q
def dIx : DO
  | .lst _ ds, .int k, Q => pick (atI ds k) Q
  | .ro _ ds, .int k, Q => pick (atI ds k) Q
  | .tup _ ds, .int k, Q => pick (atI ds k) Q
  | .str z, .int k, Q => z.length ≤ sizeLine ∧ match atI z.cps.toList k with
    | some c => Q (.str ⟨#[c]⟩)
    | none => False
  | .dct _ t ks ds, k, Q => keyOk t k = true ∧ pick (dLook t ks ds k) Q
  | _, _, _ => False
theorem valV_zip {κ : Type} [DecidableEq κ] (f : D → κ) (k : D) : ∀ (ks : List D) (vs : List V), valV ((ks.map f).zip vs) (f k) = (ks.findIdx? fun k' => decide (f k' = f k)).bind fun i => vs[i]?
  | [], _ => by simp [valV]
  | a :: ks, [] => by simp [valV]
  | a :: ks, v :: vs => by
    rw [List.map_cons, List.zip_cons_cons, List.findIdx?_cons]
    by_cases e : f a = f k
    · rw [valV_pos (by exact e), if_pos (by simpa using e)]; rfl
    · rw [valV_neg (by exact e), if_neg (by simpa using e), valV_zip f k ks vs]
      cases (ks.findIdx? fun k' => decide (f k' = f k)) <;> rfl
theorem rep_skey {K : PySem.W.Frag} {w : Wd} {k : D} {ℓ : Loc} {v : V} (h : Rep K w k ℓ v) (hk : isSKey k = true) : v = kV (skey k) := by
  cases k with
  | int i => exact h
  | str s => exact h
  | _ => simp [isSKey] at hk
theorem repl_skeys {K : PySem.W.Frag} {w : Wd} : ∀ {ks : List D} {ℓ : Loc} {j : Nat} {vs : List V}, RepL K w ks ℓ j vs → ks.all isSKey = true → vs = (ks.map skey).map kV
  | [], _, _, _, h, _ => by simp only [RepL] at h; subst h; rfl
  | k :: ks, _, _, _, h, hk => by
    simp only [RepL] at h
    obtain ⟨v, r, rfl, h1, h2⟩ := h
    simp only [List.all_cons, Bool.and_eq_true] at hk
    rw [rep_skey h1 hk.1, repl_skeys h2 hk.2]; rfl
/-- a tuple that H tracks by itself (not one of the written part): keys of dicts -/
theorem DGet.of {K : PySem.W.Frag} {w : Wd} (wf : Wf w) {a : Addr} {t : Bool} {ks : List D} {us : List V} {k : D} {ℓ : Loc} {y : V} (h : Rd w.H a (dHO t ks us)) (hl : ks.length = us.length) (hk : keyOk t k = true) (ry : Rep K w k ℓ y)
    (ht : t = true → ∃ b, y = .ref b ∧ w.H b = some (.tup ((tkey k).map kV))) : DGet w.H a y ((kIdx t ks k).bind fun i => us[i]?) := by
  cases t with
  | false =>
    have hk : isSKey k = true := hk
    rw [rep_skey ry hk]
    have e : ((kIdx false ks k).bind fun i => us[i]?) = valV ((ks.map skey).zip us) (skey k) := (valV_zip skey k ks us).symm
    rw [e]
    exact .inl ⟨(ks.map skey).zip us, _, h, rfl, rfl⟩
  | true =>
    obtain ⟨b, rfl, hb⟩ := ht rfl
    have e : ((kIdx true ks k).bind fun i => us[i]?) = valV ((ks.map tkey).zip us) (tkey k) := (valV_zip tkey k ks us).symm
    rw [e]
    exact .inr ⟨(ks.map tkey).zip us, _, b, h, rfl, hb, rfl⟩
end FL
/-! FL5: subscripts, slices, displays, arguments, built-in calls, tests. -/
namespace FL
open PySem PySem.Spec PyProof.Rows L2
/-! ### subscripts -/
theorem ix_dict {X : Cx} (hu : X.A.units + 1 < cLine) : IxR X (fun x y H Q => ∃ a v, x = .ref a ∧ DGet H a y (some v) ∧ Q v H) := by
  intro value slice pins s σ H x y v u Q I rx ry h hs
  obtain ⟨a, z, rfl, g, q⟩ := h
  obtain rfl : v = Value.ref a := rx
  have hT := dict_typeIs I g
  unfold subscriptTail
  refine wpAny_bind ?_
  rw [getitemInPython_of_ne hT.not_modules]
  refine wpAny_bind (wpAny_specialOf hT PySem.F.slot_dict_getitem.lookup ?_)
  have fin : wpAny (model X.prog X.w) X.A (subscripted slice false (.ref a) u) (fun r s₃ => wpAny (model X.prog X.w) X.A (letTemporaryGo value (.ref a) r >>= fun _ => pure r) (EP X pins σ Q) X.xe s₃) X.xe s := by
    rw [hs]
    refine wpAny_operating (wpAny_mono (d_getItem hu I g ry fun w' s3 I3 rw' => (⟨z, H, I3, rw', q⟩ : EP X pins σ Q w' s3)) (fun r s₃ h₃ => wpAny_bind (wpAny_letTemporaryGo (wpAny_pure h₃))) fun _ _ x => x)
  first
    | exact wpAny_pure (wpAny_bind fin)
    | exact wpAny_bind (wpAny_pure (wpAny_bind fin))
    | exact wpAny_bind fin
theorem atI_map {α β : Type} {xs : List α} {ys : List β} (hl : xs.length = ys.length) {i : Int} {x : α} (h : atI xs i = some x) : ∃ j, xs[j]? = some x ∧ j < ys.length ∧ ∀ y, ys[j]? = some y → atI ys i = some y := by
  unfold atI at h ⊢
  rw [← hl]
  cases e : ixN xs.length i with
  | none => rw [e] at h; cases h
  | some j =>
    rw [e] at h
    have h : xs[j]? = some x := h
    exact ⟨j, h, (List.getElem?_eq_some_iff.mp h).1, fun y hy => hy⟩
theorem RepL.at {K : PySem.W.Frag} {w : Wd} {ds : List D} {ℓ : Loc} {vs : List V} {i : Int} {d : D} (h : RepL K w ds ℓ 0 vs) (e : atI ds i = some d) (ho : d.own = false) : ∃ v, atI vs i = some v ∧ ∀ τ, Rep K w d [τ] v := by
  obtain ⟨j, e1, _, e2⟩ := atI_map h.length.symm e
  obtain ⟨v, e3, r⟩ := h.get e1
  exact ⟨v, e2 v e3, fun τ => r.free (Same.refl _) d ho⟩
theorem dct_at {K : PySem.W.Frag} {w : Wd} (wf : Wf w) {o : Ow} {t : Bool} {ks ds : List D} {ℓ : Loc} {v : V} (h : Rep K w (.dct o t ks ds) ℓ v) : ∃ a vs, v = .ref a ∧ Rd w.H a (dHO t ks vs) ∧ ks.length = vs.length ∧ keysOk t ks = true ∧ RepL K w ds ℓ 0 vs := by
  simp only [Rep] at h
  obtain ⟨a, vs, e, h1, ⟨h3, h4, _⟩, h2⟩ := h
  cases q : o.mine with
  | true => rw [q] at h1; exact ⟨a, vs, e, .inl h1.2, h3, h4, h2⟩
  | false => rw [q] at h1; exact ⟨a, vs, e, rd_same wf.sh h1, h3, h4, h2⟩
theorem rep_tkey {K : PySem.W.Frag} {w : Wd} (wf : Wf w) {k : D} {ℓ : Loc} {v : V} (h : Rep K w k ℓ v) (hk : isTKey k = true) : ∃ b, v = .ref b ∧ w.H b = some (.tup ((tkey k).map kV)) := by
  cases k with
  | tup o ds =>
    obtain ⟨a, vs, rfl, h1, h2⟩ := tup_at wf h
    exact ⟨a, rfl, by rw [h1, repl_skeys h2 hk]; rfl⟩
  | _ => simp [isTKey] at hk
theorem dct_get {K : PySem.W.Frag} {w : Wd} (wf : Wf w) {o : Ow} {t : Bool} {ks ds : List D} {k : D} {ℓ ℓ' : Loc} {v y : V} (h : Rep K w (.dct o t ks ds) ℓ v) (ry : Rep K w k ℓ' y) (hk : keyOk t k = true) :
    ∃ a, v = .ref a ∧ ((∀ d, dLook t ks ds k = some d → ∃ z i, DGet w.H a y (some z) ∧ Rep K w d (ℓ ++ [i]) z) ∧ (dLook t ks ds k = none → DGet w.H a y none)) := by
  obtain ⟨a, vs, rfl, h1, h3, h4, h2⟩ := dct_at wf h
  have g := DGet.of wf h1 h3 hk ry (fun e => by subst e; exact rep_tkey wf ry hk)
  refine ⟨a, rfl, fun d e => ?_, fun e => ?_⟩
  · unfold dLook at e
    cases q : kIdx t ks k with
    | none => rw [q] at e; cases e
    | some i =>
      rw [q] at e g
      obtain ⟨z, e1, r⟩ := h2.get e
      refine ⟨z, 0 + i, ?_, r⟩
      rw [show ((some i).bind fun i => vs[i]?) = some z from e1] at g
      exact g
  · unfold dLook at e
    cases q : kIdx t ks k with
    | none => rw [q] at g; exact g
    | some i =>
      rw [q] at e g
      have e : ds[i]? = none := e
      rw [show ((some i).bind fun i => vs[i]?) = none from by
        show vs[i]? = none
        rw [List.getElem?_eq_none_iff] at e ⊢
        rw [h2.length]; exact e] at g
      exact g
section
variable {X : Cx} {W : WX} {a b : Expr} {ra rb : RO} {pos : Pos}
theorem fe_ix (hu : X.A.units + 1 < cLine) (ha : FO X W a ra) (hb : FO X W b rb) (hs : PlainIx b := by exact fun _ _ => rfl) : FE X W (.Subscript a b pos) (rBin dIx ra rb) := by
  obtain ⟨ta, pa, sa⟩ := ha.ex
  obtain ⟨tb, pb, sb⟩ := hb.ex
  refine ⟨_, pe_ix (ix_seq.or (ix_dict hu)) pa pb hs, so_bin sa sb fun τ w σ ρ x y dx dy ℓ ℓ' Q Qv hn st rx ry hq hv => ?_⟩
  unfold dIx at hq
  split at hq
  · rename_i o ds k
    obtain ⟨a, vs, rfl, h1, h2⟩ := lst_at st.wf rx
    obtain ⟨d, e, ho, q⟩ := pick_elim hq
    obtain ⟨z, e1, r⟩ := h2.at e ho
    simp only [Rep] at ry
    subst ry
    exact .inl (.inl ⟨a, vs, k, z, rfl, rfl, SqL.of h1, e1, hv _ w _ q (.refl st) (r τ)⟩)
  · rename_i t ds k
    simp only [Rep] at rx ry
    obtain ⟨a, vs, rfl, h1, _, h2⟩ := rx
    obtain ⟨d, e, ho, q⟩ := pick_elim hq
    obtain ⟨z, e1, r⟩ := h2.at e ho
    subst ry
    cases t with
    | true => exact .inl (.inr (.inl ⟨a, vs, k, z, rfl, rfl, same_rdT st.wf.sh h1, e1, hv _ w _ q (.refl st) (r τ)⟩))
    | false => exact .inl (.inl ⟨a, vs, k, z, rfl, rfl, st.wf.sh.seq h1, e1, hv _ w _ q (.refl st) (r τ)⟩)
  · rename_i o ds k
    obtain ⟨a, vs, rfl, h1, h2⟩ := tup_at st.wf rx
    obtain ⟨d, e, ho, q⟩ := pick_elim hq
    obtain ⟨z, e1, r⟩ := h2.at e ho
    simp only [Rep] at ry
    subst ry
    exact .inl (.inr (.inl ⟨a, vs, k, z, rfl, rfl, SqT.of h1, e1, hv _ w _ q (.refl st) (r τ)⟩))
  · rename_i z k
    simp only [Rep] at rx ry
    subst rx; subst ry
    obtain ⟨hz, q⟩ := hq
    split at q
    · rename_i c e
      exact .inl (.inr (.inr ⟨z, k, c, rfl, rfl, hz, e, hv _ w _ q (.refl st) rfl⟩))
    · exact q.elim
  · rename_i o t ks ds
    obtain ⟨hk, hq⟩ := hq
    obtain ⟨d, e, ho, q⟩ := pick_elim hq
    obtain ⟨a, rfl, g, _⟩ := dct_get st.wf rx ry hk
    obtain ⟨z, i, g, r⟩ := g d e
    exact .inr ⟨a, z, rfl, g, hv _ w _ q (.refl st) (r.free (Same.refl _) d ho)⟩
  · exact hq.elim
end
/-! ### arguments, displays -/
def rA0 : RA := fun ρ _ Q => Q [] ρ
def rAC (r : RO) (rs : RA) : RA := fun ρ E Q => r ρ E fun a ρ1 => rs ρ1 E fun as ρ2 => Q (a :: as) ρ2
theorem ArgsAt.cons {K : PySem.W.Frag} {w : Wd} {σ : Sl} {a : AD} {as : List AD} {τ : Nat} {v : V} {vs : List V} (h : AdAt K w σ a τ v) (g : ArgsAt K w σ as (τ + 1) vs) : ArgsAt K w σ (a :: as) τ (v :: vs) := by
  cases a with
  | val d => exact ⟨v, vs, rfl, h, g⟩
  | brw i => exact ⟨v, vs, rfl, h, g⟩
section
variable {X : Cx} {W : WX} {e : Expr} {es : List Expr} {r : RO} {rs : RA} {pos : Pos}
theorem fa_nil : FA X W [] rA0 := ⟨_, pa_nil, fun τ w σ ρ E Q Qv hn st h hq hx => hq _ _ _ _ h rfl (.refl st) rfl⟩
theorem fa_cons (h : FO X W e r) (g : FA X W es rs) (hs : starEach (e :: es) X.env = (false, eval e X.env) :: starEach es X.env := by rfl) : FA X W (e :: es) (rAC r rs) := by
  obtain ⟨t, p, s⟩ := h.ex
  obtain ⟨ts, ps, ss⟩ := g.ex
  refine ⟨_, pa_cons p ps hs, fun τ w σ ρ E Q Qv hn st h hq hx => ?_⟩
  refine s τ w σ ρ E _ _ hn st h (fun a ρ1 w1 v1 h1 e1 r1 => ?_) hx
  refine ss (τ + 1) w1 σ ρ1 E _ _ (by rw [e1.len]; omega) e1.st h1 (fun as ρ2 w2 vs h2 hl e2 r2 => ?_) (hx.then e1 (Nat.le_succ _))
  exact hq _ _ _ _ h2 (by rw [List.length_cons, List.length_cons, hl]) (e1.trans e2 (Nat.le_succ _)) (.cons (r1.later (by rw [e1.len]; exact hn) e2) r2)
end
def vals : List AD → Option (List D)
  | [] => some []
  | .val d :: r => match vals r with
    | some ds => some (d :: ds)
    | none => none
  | .brw _ :: _ => none
def onVals (ads : List AD) (k : List D → Prop) : Prop := match vals ads with
  | some ds => k ds
  | none => False
theorem onVals_elim {ads : List AD} {k : List D → Prop} (h : onVals ads k) : ∃ ds, vals ads = some ds ∧ k ds := by
  unfold onVals at h
  split at h
  · exact ⟨_, by assumption, h⟩
  · exact h.elim
theorem vals_at {K : PySem.W.Frag} {w : Wd} {σ : Sl} : ∀ {ads : List AD} {τ : Nat} {vs : List V} {ds : List D}, ArgsAt K w σ ads τ vs → vals ads = some ds → vs.length = ds.length ∧ ds.length = ads.length ∧ ∀ i d v, ds[i]? = some d → vs[i]? = some v → Rep K w d [τ + i] v
  | [], _, _, _, h, e => by simp only [vals] at e; cases e; simp only [ArgsAt] at h; subst h; simp
  | .brw _ :: _, _, _, _, _, e => by simp only [vals] at e; cases e
  | .val d :: r, τ, vs, ds, h, e => by
    simp only [ArgsAt] at h
    obtain ⟨v, us, rfl, h1, h2⟩ := h
    simp only [vals] at e
    split at e
    · rename_i ds' e'
      cases e
      obtain ⟨l1, l2, g⟩ := vals_at h2 e'
      refine ⟨by simpa using l1, by simpa using l2, fun i d' v' e1 e2 => ?_⟩
      cases i with
      | zero => cases e1; cases e2; exact h1
      | succ i =>
        have := g i d' v' (by simpa using e1) (by simpa using e2)
        rw [show τ + 1 + i = τ + (i + 1) by omega] at this
        exact this
    · cases e
theorem gather_reps {K : PySem.W.Frag} {w : Wd} {σ : Sl} {ads : List AD} {τ : Nat} {vs : List V} {ds : List D} (h : ArgsAt K w σ ads τ vs) (e : vals ads = some ds) : RepL K (w.ren (gather τ ds.length)) ds [τ] 0 vs := by
  obtain ⟨l1, _, g⟩ := vals_at h e
  refine RepL.of l1 fun i d v e1 e2 => ?_
  have hi := (List.getElem?_eq_some_iff.mp e1).1
  refine (g i d v e1 e2).ren fun s => ?_
  have := gather_at (τ := τ) hi s
  simpa using this
def rTup (ra : RA) : RE := fun ρ E Q => ra ρ E fun ads ρ' => onVals ads fun ds => Q (.tup (ownL ds) ds) ρ'
def rLst (ra : RA) : RE := fun ρ E Q => ra ρ E fun ads ρ' => onVals ads fun ds => Q (.lst (Ow.of (ownL ds)) ds) ρ'
section
variable {X : Cx} {W : WX} {es : List Expr} {ra : RA} {pos : Pos}
theorem fe_tup {k : Nat} (h : FA X W es ra) (hl : decide (es.length ≤ 1000) = true := by rfl) : FE X W (.Tuple es k pos) (rTup ra) := by
  obtain ⟨t, p, s⟩ := h.ex
  refine ⟨_, pe_tup p, fun τ w σ ρ E Q Qv hn st h hq hx => ?_⟩
  refine s τ w σ ρ E _ _ hn st h (fun ads ρ1 w1 vs h1 l1 e1 r1 => ?_) hx
  obtain ⟨ds, ev, q⟩ := onVals_elim h1
  obtain ⟨l2, l3, _⟩ := vals_at r1 ev
  refine ⟨by have := of_decide_eq_true hl; rw [l2, l3, l1]; exact Nat.le_of_lt (small1000 this), fun p n => ?_⟩
  have er := EndE.ren (τ := τ) e1.st (gather_calm (k := ds.length) (by rw [e1.len]; exact hn))
  obtain ⟨e2, r2⟩ := EndE.tup (τ := τ) (ownL ds) er.st (p := p) n (gather_reps r1 ev) (by have := of_decide_eq_true hl; rw [l3, l1]; exact Nat.le_of_lt (small1000 this)) (fun z => z)
  exact hq _ ρ1 _ _ q ((e1.trans er (Nat.le_refl _)).trans e2 (Nat.le_refl _)) r2
theorem fe_lst (h : FA X W es ra) (hl : decide (es.length ≤ 1000) = true := by rfl) : FE X W (.List es pos) (rLst ra) := by
  obtain ⟨t, p, s⟩ := h.ex
  refine ⟨_, pe_lst p, fun τ w σ ρ E Q Qv hn st h hq hx => ?_⟩
  refine s τ w σ ρ E _ _ hn st h (fun ads ρ1 w1 vs h1 l1 e1 r1 => ?_) hx
  obtain ⟨ds, ev, q⟩ := onVals_elim h1
  obtain ⟨l2, l3, _⟩ := vals_at r1 ev
  refine ⟨by have := of_decide_eq_true hl; rw [l2, l3, l1]; exact Nat.le_of_lt (small1000 this), fun p n => ?_⟩
  have er := EndE.ren (τ := τ) e1.st (gather_calm (k := ds.length) (by rw [e1.len]; exact hn))
  obtain ⟨e2, r2⟩ := EndE.own (τ := τ) (Ow.of (ownL ds)) er.st (p := p) n (gather_reps r1 ev) (by have := of_decide_eq_true hl; rw [l3, l1]; exact Nat.le_of_lt (small1000 this)) (fun z => by cases q : ownL ds with | false => rfl | true => rw [q] at z; cases z) (by cases ownL ds <;> rfl)
  exact hq _ ρ1 _ _ q ((e1.trans er (Nat.le_refl _)).trans e2 (Nat.le_refl _)) r2
/-- {} : a new dict, its keys by t -/
def rDNew (t : Bool) : RE := fun ρ _ Q => Q (.dct .flat t [] []) ρ
theorem fe_dnew (t : Bool) : FE X W (.Dict [] [] pos) (rDNew t) := by
  have key : ∀ t, SE X.K W (fun _ H Q => ∀ p, H p = none → Q (.ref p) (upd H p (dHO t [] []))) (rDNew t) := fun t τ w σ ρ E Q Qv hn st h hq hx p n => by
    refine hq _ ρ (w.new p [τ] (dHO t [] [])) _ h (.new st n (by cases t <;> trivial)) ?_
    simp only [Rep]
    refine ⟨p, [], rfl, ⟨?_, upd_same⟩, ⟨rfl, by cases t <;> simp [keysOk], fun _ => rfl⟩, by simp [RepL]⟩
    show (if p = p then _ else _) = _
    rw [if_pos rfl]
  cases t with
  | true => exact ⟨_, pe_dnewT, key true⟩
  | false => exact ⟨_, pe_dnewK, key false⟩
end
/-! ### calls of built-ins -/
def RepsAny (K : PySem.W.Frag) (w : Wd) : List D → List V → Prop
  | [], vs => vs = []
  | d :: ds, vs => ∃ v us, vs = v :: us ∧ (∃ ℓ, Rep K w d ℓ v) ∧ RepsAny K w ds us
def adsD (ρ : En) : List AD → Option (List D)
  | [] => some []
  | a :: r => match adD ρ a with
    | some d => match adsD ρ r with
      | some ds => some (d :: ds)
      | none => none
    | none => none
def onAds (ρ : En) (ads : List AD) (k : List D → Prop) : Prop := match adsD ρ ads with
  | some ds => k ds
  | none => False
theorem onAds_elim {ρ : En} {ads : List AD} {k : List D → Prop} (h : onAds ρ ads k) : ∃ ds, adsD ρ ads = some ds ∧ k ds := by
  unfold onAds at h
  split at h
  · exact ⟨_, by assumption, h⟩
  · exact h.elim
theorem ads_any {K : PySem.W.Frag} {w : Wd} {σ : Sl} {ρ : En} (st : StE K w σ ρ) : ∀ {ads : List AD} {τ : Nat} {vs : List V} {ds : List D}, ArgsAt K w σ ads τ vs → adsD ρ ads = some ds → RepsAny K w ds vs
  | [], _, _, _, h, e => by simp only [adsD] at e; cases e; exact h
  | a :: r, τ, vs, ds, h, e => by
    obtain ⟨v, us, rfl, h1, h2⟩ : ∃ v us, vs = v :: us ∧ AdAt K w σ a τ v ∧ ArgsAt K w σ r (τ + 1) us := by
      cases a with
      | val d => exact h
      | brw i => exact h
    simp only [adsD] at e
    split at e
    · rename_i d e1
      split at e
      · rename_i ds' e2
        cases e
        exact ⟨v, us, rfl, ad_get st h1 e1, ads_any st h2 e2⟩
      · cases e
    · cases e
abbrev DC := List D → (D → Prop) → Prop
def SCK (K : PySem.W.Frag) (r : List V → Hp → VK → Prop) (dc : DC) : Prop :=
  ∀ (τ : Nat) (w : Wd) (σ : Sl) (ρ : En) (vs : List V) (ds : List D) (Q : D → Prop) (Qv : VK), ρ.length < τ → StE K w σ ρ → RepsAny K w ds vs → dc ds Q →
    (∀ d w' v, Q d → EndE K τ w σ ρ ρ w' → Rep K w' d [τ] v → Qv v w'.H) → r vs w.H Qv
structure FC (X : Cx) (f : Value) (dc : DC) : Prop where
  ex : ∃ r, CallR X f r ∧ SCK X.K r dc
theorem FC.or {X : Cx} {f : Value} {p q : DC} (h : FC X f p) (g : FC X f q) : FC X f (fun a Q => p a Q ∨ q a Q) := by
  obtain ⟨r, h1, h2⟩ := h.ex
  obtain ⟨r', g1, g2⟩ := g.ex
  refine ⟨_, h1.or g1, fun τ w σ ρ vs ds Q Qv hn st rs hd hq => ?_⟩
  rcases hd with hd | hd
  · exact .inl (h2 τ w σ ρ vs ds Q Qv hn st rs hd hq)
  · exact .inr (g2 τ w σ ρ vs ds Q Qv hn st rs hd hq)
theorem FC.imp {X : Cx} {f : Value} {p q : DC} (h : FC X f p) (g : ∀ a Q, q a Q → p a Q) : FC X f q := by
  obtain ⟨r, h1, h2⟩ := h.ex
  exact ⟨r, h1, fun τ w σ ρ vs ds Q Qv hn st rs hd hq => h2 τ w σ ρ vs ds Q Qv hn st rs (g _ _ hd) hq⟩
def rCB (dc : DC) (ra : RA) : RE := fun ρ E Q => ra ρ E fun ads ρ' => onAds ρ' ads fun ds => dc ds fun d => Q d ρ'
section
variable {X : Cx} {W : WX} {x : Str} {p pos : Pos} {e : Expr} {es : List Expr} {ra : RA} {id T : String} {dc : DC}
theorem se_cb {K : PySem.W.Frag} {k : Nat} {t : TA} {r : List V → Hp → VK → Prop} (sa : SA K W k t ra) (sc : SCK K r dc) : SE K W (tCB r t) (rCB dc ra) := by
  intro τ w σ ρ E Q Qv hn st h hq hx
  refine sa τ w σ ρ E _ _ hn st h (fun ads ρ1 w1 vs h1 l1 e1 r1 => ?_) hx
  obtain ⟨ds, ev, q⟩ := onAds_elim h1
  exact sc τ w1 σ ρ1 vs ds _ _ (by rw [e1.len]; exact hn) e1.st (ads_any e1.st r1 ev) q fun d w2 v q2 e2 r2 => hq d ρ1 w2 v q2 (e1.trans e2 (Nat.le_refl _)) r2
theorem fe_callB (hc : FC X (.builtin id) dc) (hm : X.mg x = none) (hv : bootBuiltins x = some (.builtin id)) (ha : FA X W (e :: es) ra) (hg : Gl X x := by rfl) (hn : x ≠ "__name__" := by decide) (hdb : (x == ("__debug__" : Str)) = false := by decide)
    (he : starEach (e :: es) X.env = (false, eval e X.env) :: starEach es X.env := by rfl) (hpl : (backTo pos (starEach es X.env)).any (·.1) = false := by rfl) : FE X W (.Call (.Name x p) (e :: es) [] pos) (rCB dc ra) := by
  obtain ⟨r, h1, h2⟩ := hc.ex
  obtain ⟨t, pa, sa⟩ := ha.ex
  exact ⟨_, pe_callB h1 hg hm hv pa hn hdb he hpl, se_cb sa h2⟩
theorem fe_callTy (hc : FC X (.type T) dc) (hm : X.mg x = none) (hv : bootBuiltins x = some (.type T)) (ha : FA X W (e :: es) ra) (hg : Gl X x := by rfl) (hn : x ≠ "__name__" := by decide) (hdb : (x == ("__debug__" : Str)) = false := by decide)
    (he : starEach (e :: es) X.env = (false, eval e X.env) :: starEach es X.env := by rfl) (hpl : (backTo pos (starEach es X.env)).any (·.1) = false := by rfl) : FE X W (.Call (.Name x p) (e :: es) [] pos) (rCB dc ra) := by
  obtain ⟨r, h1, h2⟩ := hc.ex
  obtain ⟨t, pa, sa⟩ := ha.ex
  exact ⟨_, pe_callTy h1 hg hm hv pa hn hdb he hpl, se_cb sa h2⟩
end
def dLen : DC
  | [.lst _ ds], Q => Q (.int ds.length)
  | [.ro _ ds], Q => Q (.int ds.length)
  | [.tup _ ds], Q => Q (.int ds.length)
  | [.str z], Q => z.length ≤ sizeLine ∧ Q (.int z.length)
  | _, _ => False
def dAbs : DC
  | [.int i], Q => Q (.int (if i < 0 then -i else i))
  | _, _ => False
def dMax2 : DC
  | [.int i, .int j], Q => Q (.int (if j > i then j else i))
  | _, _ => False
def dMin2 : DC
  | [.int i, .int j], Q => Q (.int (if j < i then j else i))
  | _, _ => False
def dInt : DC
  | [.int i], Q => Q (.int i)
  | [.bl k], Q => Q (.int (if k then 1 else 0))
  | _, _ => False
def dList : DC
  | [.lst o ds], Q => match o with
    | .deep => False
    | _ => Q (.lst .flat ds)
  | [.ro _ ds], Q => Q (.lst .flat ds)
  | [.tup false ds], Q => Q (.lst .flat ds)
  | _, _ => False
def dTuple : DC
  | [.lst o ds], Q => match o with
    | .deep => False
    | _ => Q (.tup false ds)
  | [.tup false ds], Q => Q (.tup false ds)
  | _, _ => False
section
variable {X : Cx}
theorem reps1 {K : PySem.W.Frag} {w : Wd} {d : D} {vs : List V} (h : RepsAny K w [d] vs) : ∃ v ℓ, vs = [v] ∧ Rep K w d ℓ v := by
  obtain ⟨v, us, rfl, ⟨ℓ, r⟩, h2⟩ := h
  simp only [RepsAny] at h2
  subst h2
  exact ⟨v, ℓ, rfl, r⟩
theorem reps2 {K : PySem.W.Frag} {w : Wd} {d e : D} {vs : List V} (h : RepsAny K w [d, e] vs) : ∃ v u ℓ ℓ', vs = [v, u] ∧ Rep K w d ℓ v ∧ Rep K w e ℓ' u := by
  obtain ⟨v, us, rfl, ⟨ℓ, r⟩, h2⟩ := h
  obtain ⟨u, ℓ', rfl, r'⟩ := reps1 h2
  exact ⟨v, u, ℓ, ℓ', rfl, r, r'⟩
theorem fc_len : FC X (.builtin "len") dLen := by
  refine ⟨_, call_len, fun τ w σ ρ vs ds Q Qv hn st rs hd hq => ?_⟩
  unfold dLen at hd
  split at hd
  · obtain ⟨v, ℓ, rfl, r⟩ := reps1 rs
    obtain ⟨a, us, rfl, h1, h2⟩ := lst_at st.wf r
    exact ⟨.ref a, _, rfl, .inl ⟨us, SqL.of h1, rfl⟩, hq _ w _ hd (.refl st) (by rw [h2.length]; rfl)⟩
  · rename_i t ds
    obtain ⟨v, ℓ, rfl, r⟩ := reps1 rs
    simp only [Rep] at r
    obtain ⟨a, us, rfl, h1, hz, h2⟩ := r
    refine ⟨.ref a, _, rfl, ?_, hq _ w _ hd (.refl st) (by rw [← h2.length]; rfl)⟩
    cases t with
    | true => exact .inr ⟨us, same_rdT st.wf.sh h1, rfl⟩
    | false => exact .inl ⟨us, st.wf.sh.seq h1, rfl⟩
  · obtain ⟨v, ℓ, rfl, r⟩ := reps1 rs
    obtain ⟨a, us, rfl, h1, h2⟩ := tup_at st.wf r
    exact ⟨.ref a, _, rfl, .inr ⟨us, SqT.of h1, rfl⟩, hq _ w _ hd (.refl st) (by rw [h2.length]; rfl)⟩
  · obtain ⟨v, ℓ, rfl, r⟩ := reps1 rs
    simp only [Rep] at r
    subst r
    exact ⟨_, _, rfl, ⟨hd.1, rfl⟩, hq _ w _ hd.2 (.refl st) rfl⟩
  · exact hd.elim
theorem fc_abs : FC X (.builtin "abs") dAbs := by
  refine ⟨_, call_abs, fun τ w σ ρ vs ds Q Qv hn st rs hd hq => ?_⟩
  unfold dAbs at hd
  split at hd
  · obtain ⟨v, ℓ, rfl, r⟩ := reps1 rs
    simp only [Rep] at r
    subst r
    exact ⟨_, rfl, hq _ w _ hd (.refl st) rfl⟩
  · exact hd.elim
theorem fc_max2 (hc : X.calm = true := by rfl) : FC X (.builtin "max") dMax2 := by
  refine ⟨_, call_max2 hc, fun τ w σ ρ vs ds Q Qv hn st rs hd hq => ?_⟩
  unfold dMax2 at hd
  split at hd
  · obtain ⟨v, u, ℓ, ℓ', rfl, r, r'⟩ := reps2 rs
    simp only [Rep] at r r'
    subst r; subst r'
    exact ⟨_, _, rfl, hq _ w _ hd (.refl st) rfl⟩
  · exact hd.elim
theorem fc_min2 (hc : X.calm = true := by rfl) : FC X (.builtin "min") dMin2 := by
  refine ⟨_, call_min2 hc, fun τ w σ ρ vs ds Q Qv hn st rs hd hq => ?_⟩
  unfold dMin2 at hd
  split at hd
  · obtain ⟨v, u, ℓ, ℓ', rfl, r, r'⟩ := reps2 rs
    simp only [Rep] at r r'
    subst r; subst r'
    exact ⟨_, _, rfl, hq _ w _ hd (.refl st) rfl⟩
  · exact hd.elim
theorem fc_int : FC X (.type "int") dInt := by
  refine ⟨_, call_int1, fun τ w σ ρ vs ds Q Qv hn st rs hd hq => ?_⟩
  unfold dInt at hd
  split at hd
  · obtain ⟨v, ℓ, rfl, r⟩ := reps1 rs
    simp only [Rep] at r
    subst r
    exact .inl ⟨_, rfl, hq _ w _ hd (.refl st) rfl⟩
  · obtain ⟨v, ℓ, rfl, r⟩ := reps1 rs
    simp only [Rep] at r
    subst r
    exact .inr ⟨_, rfl, hq _ w _ hd (.refl st) rfl⟩
  · exact hd.elim
theorem fc_list : FC X (.type "list") dList := by
  refine ⟨_, call_list_of, fun τ w σ ρ vs ds Q Qv hn st rs hd hq => ?_⟩
  unfold dList at hd
  split at hd
  · rename_i o ds
    obtain ⟨v, ℓ, rfl, r⟩ := reps1 rs
    have hz := lst_sz r
    have key : o.light = true → Q (.lst .flat ds) → (∃ p ys, [v] = [V.ref p] ∧ (SqL X.K w.H p ys ∨ SqT X.K w.H p ys) ∧ ∀ l, w.H l = none → Qv (.ref l) (upd w.H l (.lst ys))) := fun ho hd => by
      obtain ⟨a, us, rfl, h1, h2⟩ := lst_at st.wf r
      refine ⟨a, us, rfl, .inl (SqL.of h1), fun p n => ?_⟩
      obtain ⟨e, r⟩ := EndE.own (τ := τ) .flat st n (RepL.free (w' := w) (ℓ' := [τ]) (j' := 0) (Same.refl _) ds (hz.2 ho) h2) hz.1 (fun _ => hz.2 ho) rfl
      exact hq _ _ _ hd e r
    cases o with
    | deep => exact hd.elim
    | flat => exact key rfl hd
    | ice => exact key rfl hd
  · rename_i t ds
    obtain ⟨v, ℓ, rfl, r⟩ := reps1 rs
    simp only [Rep] at r
    obtain ⟨a, us, rfl, h1, hz, h2⟩ := r
    refine ⟨a, us, rfl, ?_, fun p n => ?_⟩
    · cases t with
      | true => exact .inr (same_rdT st.wf.sh h1)
      | false => exact .inl (st.wf.sh.seq h1)
    · obtain ⟨e, r⟩ := EndE.own (τ := τ) .flat st n (RepL.free (w' := w) (ℓ' := [τ]) (j' := 0) (Same.refl _) ds hz.2 h2) hz.1 (fun _ => hz.2) rfl
      exact hq _ _ _ hd e r
  · rename_i ds
    obtain ⟨v, ℓ, rfl, r⟩ := reps1 rs
    have hz := tup_sz r
    obtain ⟨a, us, rfl, h1, h2⟩ := tup_at st.wf r
    refine ⟨a, us, rfl, .inr (SqT.of h1), fun p n => ?_⟩
    obtain ⟨e, r⟩ := EndE.own (τ := τ) .flat st n (RepL.free (w' := w) (ℓ' := [τ]) (j' := 0) (Same.refl _) ds (hz.2 rfl) h2) hz.1 (fun _ => hz.2 rfl) rfl
    exact hq _ _ _ hd e r
  · exact hd.elim
theorem fc_tuple : FC X (.type "tuple") dTuple := by
  refine ⟨_, call_tuple_of, fun τ w σ ρ vs ds Q Qv hn st rs hd hq => ?_⟩
  unfold dTuple at hd
  split at hd
  · rename_i o ds
    obtain ⟨v, ℓ, rfl, r⟩ := reps1 rs
    have hz := lst_sz r
    obtain ⟨a, us, rfl, h1, h2⟩ := lst_at st.wf r
    have key : o.light = true → Q (.tup false ds) → ∀ l, w.H l = none → Qv (.ref l) (upd w.H l (.tup us)) := fun ho hd p n => by
      obtain ⟨e, r⟩ := EndE.tup (τ := τ) false st n (RepL.free (w' := w) (ℓ' := [τ]) (j' := 0) (Same.refl _) ds (hz.2 ho) h2) hz.1 (fun _ => hz.2 ho)
      exact hq _ _ _ hd e r
    refine ⟨a, us, rfl, .inl ⟨SqL.of h1, ?_⟩⟩
    cases o with
    | deep => exact hd.elim
    | flat => exact key rfl hd
    | ice => exact key rfl hd
  · rename_i ds
    obtain ⟨v, ℓ, rfl, r⟩ := reps1 rs
    obtain ⟨a, us, rfl, h1, h2⟩ := tup_at st.wf r
    exact ⟨a, us, rfl, .inr ⟨SqT.of h1, hq _ w _ hd (.refl st) (r.free (Same.refl _) _ rfl)⟩⟩
  · exact hd.elim
end
/-! ### tests -/
def rNot (r : RT) : RT := fun ρ E Q => r ρ E fun b ρ' => Q (!b) ρ'
def rAnd (r s : RT) : RT := fun ρ E Q => r ρ E fun b ρ1 => (b = true → s ρ1 E Q) ∧ (b = false → Q false ρ1)
def rOr (r s : RT) : RT := fun ρ E Q => r ρ E fun b ρ1 => (b = true → Q true ρ1) ∧ (b = false → s ρ1 E Q)
def rIfE (t : RT) (r s : RE) : RE := fun ρ E Q => t ρ E fun b ρ1 => (b = true → r ρ1 E Q) ∧ (b = false → s ρ1 E Q)
def rCutT (r : RT) : RT := fun ρ E Q => ∃ P : Bool → En → Prop, r ρ E P ∧ ∀ b ρ', P b ρ' → Q b ρ'
def rCutE (r : RE) : RE := fun ρ E Q => ∃ P : D → En → Prop, r ρ E P ∧ ∀ b ρ', P b ρ' → Q b ρ'
/-- a test as a value -/
def rBl (r : RT) : RE := fun ρ E Q => r ρ E fun b ρ' => Q (.bl b) ρ'
def rAndV (r s : RE) : RE := fun ρ E Q => r ρ E fun d ρ1 => match d with
  | .bl b => (b = true → s ρ1 E Q) ∧ (b = false → Q (.bl false) ρ1)
  | _ => False
def rOrV (r s : RE) : RE := fun ρ E Q => r ρ E fun d ρ1 => match d with
  | .bl b => (b = true → Q (.bl true) ρ1) ∧ (b = false → s ρ1 E Q)
  | _ => False
def rNotV (r : RE) : RE := fun ρ E Q => r ρ E fun d ρ1 => match d with
  | .bl b => Q (.bl (!b)) ρ1
  | _ => False
section
variable {X : Cx} {W : WX} {a b c : Expr} {rest : List Expr} {r s : RT} {re se : RE} {pos : Pos}
theorem ft_cut (h : FT X W a r) : FT X W a (rCutT r) := by
  obtain ⟨t, p, k⟩ := h.ex
  refine ⟨t, p, fun τ w σ ρ E Q Qv hn st ⟨P, h, g⟩ hq hx => ?_⟩
  exact k τ w σ ρ E P Qv hn st h (fun b ρ' w' q e => hq b ρ' w' (g b ρ' q) e) hx
theorem fe_cut (h : FE X W a re) : FE X W a (rCutE re) := by
  obtain ⟨t, p, k⟩ := h.ex
  refine ⟨t, p, fun τ w σ ρ E Q Qv hn st ⟨P, h, g⟩ hq hx => ?_⟩
  exact k τ w σ ρ E P Qv hn st h (fun b ρ' w' v q e r => hq b ρ' w' v (g b ρ' q) e r) hx
theorem FW.ft (h : FW X W a r) : FT X W a r := by
  obtain ⟨t, p, k⟩ := h.ex
  exact ⟨t, p.pt, k⟩
theorem fw_and1 (h : FT X W a r) : FW X W (.BoolOp .And [a] pos) r := by
  obtain ⟨t, p, k⟩ := h.ex
  exact ⟨t, pw_and1 p, k⟩
theorem fw_or1 (h : FT X W a r) : FW X W (.BoolOp .Or [a] pos) r := by
  obtain ⟨t, p, k⟩ := h.ex
  exact ⟨t, pw_or1 p, k⟩
theorem fw_and (h : FT X W a r) (g : FW X W (.BoolOp .And (b :: rest) pos) s) : FW X W (.BoolOp .And (a :: b :: rest) pos) (rAnd r s) := by
  obtain ⟨t, p, k⟩ := h.ex
  obtain ⟨u, q, l⟩ := g.ex
  refine ⟨_, pw_and p q, fun τ w σ ρ E Q Qv hn st h hq hx => ?_⟩
  refine k τ w σ ρ E _ _ hn st h (fun b ρ1 w1 h1 e1 => ?_) hx
  cases b with
  | true =>
    rw [if_pos rfl]
    exact l τ w1 σ ρ1 E _ _ (by rw [e1.len]; exact hn) e1.st (h1.1 rfl) (fun b ρ2 w2 h2 e2 => hq b ρ2 w2 h2 (e1.trans e2 (Nat.le_refl _))) (hx.then e1 (Nat.le_refl _))
  | false =>
    rw [if_neg Bool.false_ne_true]
    exact hq false ρ1 w1 (h1.2 rfl) e1
theorem fw_or (h : FT X W a r) (g : FW X W (.BoolOp .Or (b :: rest) pos) s) : FW X W (.BoolOp .Or (a :: b :: rest) pos) (rOr r s) := by
  obtain ⟨t, p, k⟩ := h.ex
  obtain ⟨u, q, l⟩ := g.ex
  refine ⟨_, pw_or p q, fun τ w σ ρ E Q Qv hn st h hq hx => ?_⟩
  refine k τ w σ ρ E _ _ hn st h (fun b ρ1 w1 h1 e1 => ?_) hx
  cases b with
  | true =>
    rw [if_pos rfl]
    exact hq true ρ1 w1 (h1.1 rfl) e1
  | false =>
    rw [if_neg Bool.false_ne_true]
    exact l τ w1 σ ρ1 E _ _ (by rw [e1.len]; exact hn) e1.st (h1.2 rfl) (fun b ρ2 w2 h2 e2 => hq b ρ2 w2 h2 (e1.trans e2 (Nat.le_refl _))) (hx.then e1 (Nat.le_refl _))
theorem ft_not (h : FT X W a r) : FT X W (.UnaryOp .Not a pos) (rNot r) := by
  obtain ⟨t, p, k⟩ := h.ex
  refine ⟨_, pt_not p, fun τ w σ ρ E Q Qv hn st h hq hx => ?_⟩
  exact k τ w σ ρ E _ _ hn st h (fun b ρ1 w1 h1 e1 => hq _ ρ1 w1 h1 e1) hx
theorem fe_ifE (hc : FT X W c r) (ha : FE X W a re) (hb : FE X W b se) : FE X W (.IfExp c a b pos) (rIfE r re se) := by
  obtain ⟨t, p, k⟩ := hc.ex
  obtain ⟨u, q, l⟩ := ha.ex
  obtain ⟨u', q', l'⟩ := hb.ex
  refine ⟨_, pe_ifExp p q q', fun τ w σ ρ E Q Qv hn st h hq hx => ?_⟩
  refine k τ w σ ρ E _ _ hn st h (fun b ρ1 w1 h1 e1 => ?_) hx
  cases b with
  | true =>
    rw [if_pos rfl]
    exact l τ w1 σ ρ1 E _ _ (by rw [e1.len]; exact hn) e1.st (h1.1 rfl) (fun b ρ2 w2 v h2 e2 r2 => hq b ρ2 w2 v h2 (e1.trans e2 (Nat.le_refl _)) r2) (hx.then e1 (Nat.le_refl _))
  | false =>
    rw [if_neg Bool.false_ne_true]
    exact l' τ w1 σ ρ1 E _ _ (by rw [e1.len]; exact hn) e1.st (h1.2 rfl) (fun b ρ2 w2 v h2 e2 r2 => hq b ρ2 w2 v h2 (e1.trans e2 (Nat.le_refl _)) r2) (hx.then e1 (Nat.le_refl _))
theorem fe_one {op} (h : FE X W a re) : FE X W (.BoolOp op [a] pos) re := by
  obtain ⟨t, p, k⟩ := h.ex
  exact ⟨t, pe_one p, k⟩
theorem fe_and (h : FE X W a re) (g : FE X W (.BoolOp .And (b :: rest) pos) se) : FE X W (.BoolOp .And (a :: b :: rest) pos) (rAndV re se) := by
  obtain ⟨t, p, k⟩ := h.ex
  obtain ⟨u, q, l⟩ := g.ex
  refine ⟨_, pe_and p q, fun τ w σ ρ E Q Qv hn st h hq hx => ?_⟩
  refine k τ w σ ρ E _ _ hn st h (fun d ρ1 w1 v h1 e1 r1 => ?_) hx
  cases d with
  | bl b =>
    refine ⟨b, r1, ?_⟩
    cases b with
    | true =>
      rw [if_pos rfl]
      exact l τ w1 σ ρ1 E _ _ (by rw [e1.len]; exact hn) e1.st (h1.1 rfl) (fun b ρ2 w2 v h2 e2 r2 => hq b ρ2 w2 v h2 (e1.trans e2 (Nat.le_refl _)) r2) (hx.then e1 (Nat.le_refl _))
    | false =>
      rw [if_neg Bool.false_ne_true]
      exact hq _ ρ1 w1 _ (h1.2 rfl) e1 rfl
  | _ => exact h1.elim
theorem fe_or (h : FE X W a re) (g : FE X W (.BoolOp .Or (b :: rest) pos) se) : FE X W (.BoolOp .Or (a :: b :: rest) pos) (rOrV re se) := by
  obtain ⟨t, p, k⟩ := h.ex
  obtain ⟨u, q, l⟩ := g.ex
  refine ⟨_, pe_or p q, fun τ w σ ρ E Q Qv hn st h hq hx => ?_⟩
  refine k τ w σ ρ E _ _ hn st h (fun d ρ1 w1 v h1 e1 r1 => ?_) hx
  cases d with
  | bl b =>
    refine ⟨b, r1, ?_⟩
    cases b with
    | true =>
      rw [if_pos rfl]
      exact hq _ ρ1 w1 _ (h1.1 rfl) e1 rfl
    | false =>
      rw [if_neg Bool.false_ne_true]
      exact l τ w1 σ ρ1 E _ _ (by rw [e1.len]; exact hn) e1.st (h1.2 rfl) (fun b ρ2 w2 v h2 e2 r2 => hq b ρ2 w2 v h2 (e1.trans e2 (Nat.le_refl _)) r2) (hx.then e1 (Nat.le_refl _))
  | _ => exact h1.elim
theorem fe_not (h : FE X W a re) : FE X W (.UnaryOp .Not a pos) (rNotV re) := by
  obtain ⟨t, p, k⟩ := h.ex
  refine ⟨_, pe_not p, fun τ w σ ρ E Q Qv hn st h hq hx => ?_⟩
  refine k τ w σ ρ E _ _ hn st h (fun d ρ1 w1 v h1 e1 r1 => ?_) hx
  cases d with
  | bl b => exact ⟨b, r1, hq _ ρ1 w1 _ h1 e1 rfl⟩
  | _ => exact h1.elim
end
end FL
/-! FL6: statements, defs, calls. -/
namespace FL
open PySem PySem.Spec PyProof.Rows L2
/-! ### worlds: freezing -/
def Wd.ice (w : Wd) (P : Loc → Bool) : Wd :=
  ⟨fun a => match w.G a with
    | some ℓ => if P ℓ then none else some ℓ
    | none => none,
   fun a => match w.G a with
    | some ℓ => if P ℓ then w.H a else w.S a
    | none => w.S a, w.H⟩
section
variable {w : Wd} {P : Loc → Bool}
theorem Wf.ice (h : Wf w) : Wf (w.ice P) := by
  refine ⟨fun a o e => ?_, fun a ℓ e => ?_⟩
  · have e : (match w.G a with | some ℓ => if P ℓ then w.H a else w.S a | none => w.S a) = some o := e
    cases hk : w.G a with
    | none => rw [hk] at e; exact h.sh a o e
    | some k =>
      rw [hk] at e
      have e : (if P k then w.H a else w.S a) = some o := e
      cases hp : P k with
      | true => rw [hp] at e; exact e
      | false => rw [hp] at e; exact h.sh a o e
  · have e : (match w.G a with | some ℓ => if P ℓ then none else some ℓ | none => none) = some ℓ := e
    cases hk : w.G a with
    | none => rw [hk] at e; cases e
    | some k =>
      rw [hk] at e
      have e : (if P k then none else some k) = some ℓ := e
      cases hp : P k with
      | true => rw [hp] at e; cases e
      | false =>
        refine ⟨?_, (h.tg a k hk).2⟩
        show (match w.G a with | some ℓ => if P ℓ then w.H a else w.S a | none => w.S a) = none
        rw [hk]
        show (if P k then w.H a else w.S a) = none
        rw [hp]
        exact (h.tg a k hk).1
theorem ice_same (h : Wf w) : Same w.S (w.ice P).S := fun a o e => by
  show (match w.G a with | some ℓ => if P ℓ then w.H a else w.S a | none => w.S a) = some o
  cases hk : w.G a with
  | none => exact e
  | some k => rw [(h.tg a k hk).1] at e; cases e
theorem ice_kept {ℓ : Loc} (h : ∀ s, P (ℓ ++ s) = false) : KeptTo w (w.ice P) ℓ ℓ := fun a s e => by
  refine ⟨?_, rfl⟩
  show (match w.G a with | some ℓ => if P ℓ then none else some ℓ | none => none) = _
  rw [e]
  show (if P (ℓ ++ s) then none else some (ℓ ++ s)) = _
  rw [h s]; rfl
theorem ice_frz {ℓ : Loc} (h : ∀ s, P (ℓ ++ s) = true) : FrzTo w (w.ice P) ℓ := fun a s o e eo => by
  show (match w.G a with | some ℓ => if P ℓ then w.H a else w.S a | none => w.S a) = some o
  rw [e]
  show (if P (ℓ ++ s) then w.H a else w.S a) = some o
  rw [h s]; exact eo
end
/-! ### blocks -/
section
variable {X : Cx} {W : WX} {M : List Nat} {st : Stmt} {rest : List Stmt} {r u : RS} {e : Expr} {re : RE} {pos pos' : Pos}
def rNx : RS := fun ρ _ F => F.nx ρ
def rSeq (r u : RS) : RS := fun ρ E F => r ρ E (F.wn fun ρ' => u ρ' E F)
theorem fss_nil : FSs X W M [] rNx := ⟨_, pss_nil, fun w σ ρ E F D st h hf => hf.nx ρ w σ h (.refl st)⟩
theorem fss_cons (h : FS X W M st r) (g : FSs X W M rest u) : FSs X W M (st :: rest) (rSeq r u) := by
  obtain ⟨t, p, k⟩ := h.ex
  obtain ⟨t', p', k'⟩ := g.ex
  refine ⟨_, pss_cons p p', fun w σ ρ E F D st h hf => ?_⟩
  exact k w σ ρ E _ _ st h ⟨fun ρ' w' σ' h' e => k' w' σ' ρ' E F D e.st h' (hf.then e), hf.rt, hf.bk, hf.ct, hf.ex⟩
theorem fss_one (h : FS X W M st r) : FSs X W M [st] r := by
  obtain ⟨t, p, k⟩ := h.ex
  exact ⟨_, pss_one p, k⟩
/-- the ways joined behind a statement -/
structure CutG (r : RS) (ρ : En) (E : EE) (F : Fin) : Prop where
  go : ∃ I : En → Prop, r ρ E (F.wn I) ∧ ∀ ρ', I ρ' → F.nx ρ'
def rCut (r : RS) : RS := fun ρ E F => CutG r ρ E F
theorem fs_cut (h : FS X W M st r) : FS X W M st (rCut r) := by
  obtain ⟨t, p, k⟩ := h.ex
  refine ⟨_, p, fun w σ ρ E F D st ⟨I, h, g⟩ hf => ?_⟩
  exact k w σ ρ E _ _ st h ⟨fun ρ' w' σ' h' e => hf.nx ρ' w' σ' (g ρ' h') e, hf.rt, hf.bk, hf.ct, hf.ex⟩
/-- any weakening of the ends -/
structure Fin.le (F G : Fin) : Prop where
  nx : ∀ ρ, F.nx ρ → G.nx ρ
  rt : ∀ d ρ, F.rt d ρ → G.rt d ρ
  bk : ∀ ρ, F.bk ρ → G.bk ρ
  ct : ∀ ρ, F.ct ρ → G.ct ρ
theorem Fin.le.refl (F : Fin) : F.le F := ⟨fun _ h => h, fun _ _ h => h, fun _ h => h, fun _ h => h⟩
theorem SF.le {K : PySem.W.Frag} {w : Wd} {σ : Sl} {ρ : En} {E : EE} {F G : Fin} {D : Ends} (h : SF K W M w σ ρ E G D) (l : F.le G) : SF K W M w σ ρ E F D :=
  ⟨fun ρ' w' σ' q e => h.nx ρ' w' σ' (l.nx _ q) e, fun d ρ' w' σ' v q e r => h.rt d ρ' w' σ' v (l.rt _ _ q) e r, fun ρ' w' σ' q e => h.bk ρ' w' σ' (l.bk _ q) e, fun ρ' w' σ' q e => h.ct ρ' w' σ' (l.ct _ q) e, h.ex⟩
theorem fs_pass : FS X W M (.Pass pos) rNx := ⟨_, ps_pass, fun w σ ρ E F D st h hf => hf.nx ρ w σ h (.refl st)⟩
def rBk : RS := fun ρ _ F => F.bk ρ
def rCt : RS := fun ρ _ F => F.ct ρ
theorem fs_break : FS X W M (.Break pos) rBk := ⟨_, ps_break, fun w σ ρ E F D st h hf => hf.bk ρ w σ h (.refl st)⟩
theorem fs_continue : FS X W M (.Continue pos) rCt := ⟨_, ps_continue, fun w σ ρ E F D st h hf => hf.ct ρ w σ h (.refl st)⟩
theorem fs_doc {x j} : FS X W M (.Expr (.Constant (.str x) j pos) pos') rNx := ⟨_, ps_doc, fun w σ ρ E F D st h hf => hf.nx ρ w σ h (.refl st)⟩
def rDrop (re : RE) : RS := fun ρ E F => re ρ E fun _ ρ' => F.nx ρ'
theorem fs_expr (he : FE X W e re) (hs : swapsWith e none pos.line X.env = pure false := by rfl) : FS X W M (.Expr e pos) (rDrop re) := by
  obtain ⟨t, p, k⟩ := he.ex
  refine ⟨_, ps_expr p hs, fun w σ ρ E F D st h hf => ?_⟩
  exact k _ w σ ρ E _ _ (Nat.lt_succ_self _) st h (fun d ρ' w' v q e r => hf.nx ρ' w' σ q (e.s (Nat.lt_succ_self _))) hf.sx
def rRet (re : RE) : RS := fun ρ E F => re ρ E fun d ρ' => F.rt d ρ'
theorem fs_ret (he : FE X W e re) : FS X W M (.Return (some e) pos) (rRet re) := by
  obtain ⟨t, p, k⟩ := he.ex
  refine ⟨_, ps_ret p, fun w σ ρ E F D st h hf => ?_⟩
  exact k _ w σ ρ E _ _ (Nat.lt_succ_self _) st h (fun d ρ' w' v q e r => hf.rt d ρ' w' σ v q (e.s (Nat.lt_succ_self _)) r) hf.sx
def rRetN : RS := fun ρ _ F => F.rt .non ρ
theorem fs_retN : FS X W M (.Return none pos) rRetN := ⟨_, ps_retN, fun w σ ρ E F D st h hf => hf.rt .non ρ w σ _ h (.refl st) rfl⟩
def rIf (t : RT) (r u : RS) : RS := fun ρ E F => t ρ E fun b ρ1 => (b = true → r ρ1 E F) ∧ (b = false → u ρ1 E F)
theorem fs_if {c : Expr} {a b : List Stmt} {rt : RT} (hc : FT X W c rt) (ha : FSs X W M a r) (hb : FSs X W M b u) : FS X W M (.If c a b pos) (rIf rt r u) := by
  obtain ⟨t, p, k⟩ := hc.ex
  obtain ⟨t1, p1, k1⟩ := ha.ex
  obtain ⟨t2, p2, k2⟩ := hb.ex
  refine ⟨_, ps_if p p1 p2, fun w σ ρ E F D st h hf => ?_⟩
  refine k _ w σ ρ E _ _ (Nat.lt_succ_self _) st h (fun b ρ1 w1 h1 e1 => ?_) hf.sx
  have es := e1.s (M := M) (Nat.lt_succ_self _)
  cases b with
  | true =>
    rw [if_pos rfl]
    exact k1 w1 σ ρ1 E F D e1.st (h1.1 rfl) (hf.then es)
  | false =>
    rw [if_neg Bool.false_ne_true]
    exact k2 w1 σ ρ1 E F D e1.st (h1.2 rfl) (hf.then es)
/-! ### stores to names -/
/-- the temporary n + 1 goes to slot i -/
def tempTo (n i : Nat) : Loc → Option Loc
  | h :: s => if h = i + 1 then none else if h = n + 1 then some ((i + 1) :: s) else some (h :: s)
  | [] => some []
theorem store_end {K : PySem.W.Frag} {w : Wd} {σ : Sl} {ρ : En} {i : Nat} {d : D} {v : V} (st : StE K w σ ρ) (r : Rep K w d [ρ.length + 1] v) (hi : i < ρ.length) (hM : M.contains i = false) : EndS K M w σ ρ (w.ren (tempTo ρ.length i)) (σ.set i (some v)) (ρ.set i (some d)) := by
  refine ⟨by rw [List.length_set], ⟨st.wf.ren _, by rw [List.length_set, List.length_set]; exact st.len, fun j d' e => ?_⟩, ⟨Same.refl _, fun a ℓ e ⟨h, s, e2, k⟩ => ?_⟩, fun j hj => ?_⟩
  · by_cases hj : j = i
    · subst hj
      rw [List.getElem?_set_self hi] at e
      cases e
      refine ⟨v, List.getElem?_set_self (by rw [st.len]; exact hi), r.ren fun s => ?_⟩
      show (if _ then _ else _) = _
      rw [if_neg (by omega), if_pos rfl]; rfl
    · rw [List.getElem?_set_ne (Ne.symm hj)] at e ⊢
      obtain ⟨v', e1, r'⟩ := st.rep j d' e
      have hl := (List.getElem?_eq_some_iff.mp e).1
      refine ⟨v', e1, r'.ren fun s => ?_⟩
      show (if _ then _ else _) = _
      rw [if_neg (by omega), if_neg (by omega)]; rfl
  · subst e2
    refine ⟨ren_at e ?_, rfl⟩
    show (if _ then _ else _) = _
    rw [if_neg (by omega), if_neg (by omega)]
  · have : j ≠ i := fun z => by
      subst z
      have := List.contains_iff_mem.mpr hj
      rw [this] at hM; cases hM
    exact List.getElem?_set_ne (Ne.symm this)
theorem ice_temp {K : PySem.W.Frag} {w : Wd} {σ : Sl} {ρ : En} {d : D} {v : V} (st : StE K w σ ρ) (r : Rep K w d [ρ.length + 1] v) :
    EndE K (ρ.length + 1) w σ ρ ρ (w.ice fun ℓ => match ℓ with | h :: _ => h == ρ.length + 1 | [] => false) ∧ ∀ ℓ, Rep K (w.ice fun ℓ => match ℓ with | h :: _ => h == ρ.length + 1 | [] => false) d.frz ℓ v := by
  refine ⟨⟨rfl, st.to st.wf.ice (ice_same st.wf) fun i hi => ice_kept fun s => ?_, ⟨ice_same st.wf, fun a ℓ e ⟨h, s, e2, k⟩ => ?_⟩⟩, fun ℓ => ?_⟩
  · show ((i + 1) == ρ.length + 1) = false
    simp; omega
  · subst e2
    have := ice_kept (w := w) (ℓ := h :: s) (P := fun ℓ => match ℓ with | h :: _ => h == ρ.length + 1 | [] => false) (fun t => by
      show (h == ρ.length + 1) = false
      simp; omega) a [] (by simpa using e)
    simpa using this
  · exact Rep.frz (w := w) (ice_same st.wf) d (ice_frz fun s => by show ((ρ.length + 1) == ρ.length + 1) = true; simp) r
def rSet (i : Nat) (re : RE) : RS := fun ρ E F => re ρ E fun d ρ' => nf (ρ'.set i (some d)) F.nx
/-- the value frozen -/
def rSetF (i : Nat) (re : RE) : RS := fun ρ E F => re ρ E fun d ρ' => nf (ρ'.set i (some d.frz)) F.nx
theorem set_out {α : Type} {l : List α} {i : Nat} (a : α) (h : ¬ i < l.length) : l.set i a = l := List.set_eq_of_length_le (by omega)
theorem se_set {K : PySem.W.Frag} {te : TE} {i : Nat} (k : SE K W te re) (hM : M.contains i = false) : SS K W M (tAsg te (gName i)) (rSet i re) := by
  intro w σ ρ E F D st h hf
  refine k _ w σ ρ E _ _ (Nat.lt_succ_self _) st h (fun d ρ' w' v q e r => ?_) hf.sx
  have es := e.s (M := M) (Nat.lt_succ_self _)
  by_cases hi : i < ρ'.length
  · exact hf.nx _ (w'.ren (tempTo ρ'.length i)) _ (nf_of q) (es.trans (store_end e.st (by rw [e.len]; exact r) hi hM))
  · show D.nx (σ.set i (some v)) w'.H
    rw [set_out _ (by rw [e.st.len]; exact hi)]
    have q : F.nx (ρ'.set i (some d)) := nf_of q
    rw [set_out _ hi] at q
    exact hf.nx _ _ _ q es
theorem se_setF {K : PySem.W.Frag} {te : TE} {i : Nat} (k : SE K W te re) (hM : M.contains i = false) : SS K W M (tAsg te (gName i)) (rSetF i re) := by
  intro w σ ρ E F D st h hf
  refine k _ w σ ρ E _ _ (Nat.lt_succ_self _) st h (fun d ρ' w' v q e r => ?_) hf.sx
  have es := e.s (M := M) (Nat.lt_succ_self _)
  by_cases hi : i < ρ'.length
  · obtain ⟨e2, r2⟩ := ice_temp e.st (by rw [e.len]; exact r)
    exact hf.nx _ ((w'.ice _).ren (tempTo ρ'.length i)) _ (nf_of q) ((es.trans (e2.s (Nat.lt_succ_self _))).trans (store_end e2.st (r2 _) hi hM))
  · show D.nx (σ.set i (some v)) w'.H
    rw [set_out _ (by rw [e.st.len]; exact hi)]
    have q : F.nx (ρ'.set i (some d.frz)) := nf_of q
    rw [set_out _ hi] at q
    exact hf.nx _ _ _ q es
theorem fs_set (i : Nat) {x : Str} (he : FE X W e re) (hN : X.N.Nodup) (hi : X.N[i]? = some x := by rfl) (hx : L2.Loc X.env.scope x := by first | exact .inl rfl | exact .inr rfl) (hM : M.contains i = false := by rfl) (hs : swapsWith e (some (.Name x pos')) pos.line X.env = pure false := by rfl) (hf : X.fn x = true ∨ X.env.scope.names.lookup x = some .local := by first | exact .inl rfl | exact .inr rfl) : FS X W M (.Assign [.Name x pos'] e pos) (rSet i re) := by
  obtain ⟨t, p, k⟩ := he.ex
  exact ⟨_, ps_set hN hi hx p hs hf, se_set k hM⟩
theorem fs_setF (i : Nat) {x : Str} (he : FE X W e re) (hN : X.N.Nodup) (hi : X.N[i]? = some x := by rfl) (hx : L2.Loc X.env.scope x := by first | exact .inl rfl | exact .inr rfl) (hM : M.contains i = false := by rfl) (hs : swapsWith e (some (.Name x pos')) pos.line X.env = pure false := by rfl) (hf : X.fn x = true ∨ X.env.scope.names.lookup x = some .local := by first | exact .inl rfl | exact .inr rfl) : FS X W M (.Assign [.Name x pos'] e pos) (rSetF i re) := by
  obtain ⟨t, p, k⟩ := he.ex
  exact ⟨_, ps_set hN hi hx p hs hf, se_setF k hM⟩
end
/-! ### a def's promise over data -/
abbrev EF := Value → Option (List (Str × D)) → En → Prop
abbrev FSpec := List D → EF → (D → En → Prop) → Prop
/-- behind a call: m arguments at 1 .. m, those of M lent -/
structure EndF (K : PySem.W.Frag) (m : Nat) (M : List Nat) (w : Wd) (vs : List V) (os : En) (w' : Wd) : Prop where
  wf : Wf w'
  s : Same w.S w'.S
  f : ∀ a ℓ, w.G a = some (0 :: ℓ) → w'.G a = some (0 :: ℓ) ∧ w'.H a = w.H a
  args : ∀ j, M.contains j = true → ∀ d v, os[j]? = some (some d) → vs[j]? = some v → Rep K w' d [j + 1] v
def FnD (K : PySem.W.Frag) (m : Nat) (M : List Nat) (r : FSpec) : Sp := fun vs H Q E => vs.length = m ∧ ∃ (w : Wd) (ds : List D) (ED : EF) (QD : D → En → Prop), w.H = H ∧ Wf w ∧ ds.length = m ∧
  (∀ j d v, ds[j]? = some d → vs[j]? = some v → Rep K w d [j + 1] v) ∧ r ds ED QD ∧
  (∀ d os w' v, QD d os → EndF K m M w vs os w' → Rep K w' d [m + 1] v → Q v w'.H) ∧ (∀ c fs os w' x, ED c fs os → EndF K m M w vs os w' → XRepr K w' x fs → E c x w'.H)
/-- the names at a def's entry -/
def startD (N : List Str) (ds : List D) : En := ds.map some ++ List.replicate (N.length - ds.length) none
/-- a def's ends -/
def finD (m : Nat) (Q : D → En → Prop) : Fin := { nx := fun ρ => Q .non (ρ.take m), rt := fun d ρ => Q d (ρ.take m) }
/-- out of the def: its names are forgotten, what is handed back stands at m + 1 -/
def leaveTo (n m : Nat) : Loc → Option Loc
  | h :: s => if h ≤ m then some (h :: s) else if h = n + 1 then some ((m + 1) :: s) else none
  | [] => none
section
variable {P : Program} {w : World} {K : PySem.W.Frag} {mg : Str → Option Value} {base : Heap}
theorem leave_end {m : Nat} {M : List Nat} {w0 w' : Wd} {σ σ' : Sl} {ρ ρ' : En} {vs : List V} (hm : m ≤ ρ.length) (e : EndS K M w0 σ ρ w' σ' ρ') (hv : ∀ j, j < m → σ[j]? = (vs[j]?).map some) (hM : ∀ j, M.contains j = true → j < m) :
    EndF K m M w0 vs (ρ'.take m) (w'.ren (leaveTo ρ.length m)) := by
  refine ⟨e.st.wf.ren _, e.ext.s, fun a ℓ h => ?_, fun j hj d v h1 h2 => ?_⟩
  · obtain ⟨k1, k2⟩ := e.ext.f a _ h ⟨0, ℓ, rfl, .inl rfl⟩
    refine ⟨ren_at k1 ?_, k2⟩
    exact if_pos (e := if 0 = ρ.length + 1 then some ((m + 1) :: ℓ) else none) (Nat.zero_le m)
  · have hjm := hM j hj
    rw [List.getElem?_take_of_lt hjm] at h1
    obtain ⟨v', e1, r⟩ := e.st.rep j d h1
    have k := e.km j (List.contains_iff_mem.mp hj)
    rw [hv j hjm, h2] at k
    rw [k] at e1; cases e1
    refine r.ren fun s => ?_
    show (if _ then _ else _) = _
    rw [if_pos (by omega)]; rfl
theorem fl_fn {x qual : Str} {st : Stmt} {f : Addr} {fd : FuncData} {N ps : List Str} {k : Nat} {M : List Nat} {r : FSpec} {rb : RS} (F : Fun K x qual st f fd) (S : FnScope N ps (defScope st))
    (hMb : (M.all fun j => decide (j < ps.length)) = true)
    (hb : ∀ (cdv : Value) (A : Around) (outer : List Env) (s : Shared) (H : Hp) (E : XK), Room k (A.deeper (envOfC qual (defScope st) s.heap.objs.size f cdv)) →
      FSs (cxOf (L2.CX P w) P w K mg base N qual (defScope st) f cdv A outer s H E) (fun c d _ H' => E c d H') M (defBody st) rb)
    (hr : ∀ ds ED QD, ds.length = ps.length → r ds ED QD → rb (startD N ds) (fun c fs ρ => ED c fs (ρ.take ps.length)) (finD ps.length QD)) :
    FnOk P w K mg base (L2.CX P w) (k + 1) f fd ps (FnD K ps.length M r) := by
  have hM : ∀ j, M.contains j = true → j < ps.length := fun j hj => of_decide_eq_true (List.all_eq_true.mp hMb j (List.contains_iff_mem.mp hj))
  refine F.okX S (fun vs H Q E h => h.1) fun cdv A outer s H vs Q E hroom h => ?_
  obtain ⟨hl, w0, ds, ED, QD, rfl, wf, hd, hrep, hspec, hq, hx⟩ := h
  obtain ⟨t, p, kk⟩ := (hb cdv A outer s w0.H E hroom).ex
  have hNl : ps.length ≤ N.length := by have := congrArg List.length S.pre; rw [List.length_take] at this; omega
  have hlen : (startD N ds).length = N.length := by
    unfold startD
    rw [List.length_append, List.length_map, List.length_replicate]; omega
  have hslen : (L2.start N vs).length = N.length := by
    unfold L2.start
    rw [List.length_append, List.length_map, List.length_replicate]; omega
  have hv : ∀ j, j < ps.length → (L2.start N vs)[j]? = (vs[j]?).map some := fun j hj => by
    unfold L2.start
    rw [List.getElem?_append_left (by rw [List.length_map]; omega), List.getElem?_map]
  have s0 : StE K w0 (L2.start N vs) (startD N ds) := ⟨wf, by rw [hlen, hslen], fun i d e => by
    by_cases hi : i < ds.length
    · unfold startD at e
      rw [List.getElem?_append_left (by rw [List.length_map]; exact hi), List.getElem?_map] at e
      have hi' : i < vs.length := by omega
      refine ⟨vs[i], ?_, ?_⟩
      · rw [hv i (by omega), List.getElem?_eq_getElem hi']; rfl
      · refine hrep i d _ ?_ (List.getElem?_eq_getElem hi')
        rw [List.getElem?_eq_getElem hi] at e ⊢
        exact Option.some.inj e
    · unfold startD at e
      rw [List.getElem?_append_right (by rw [List.length_map]; omega), List.getElem?_replicate] at e
      split at e <;> cases e⟩
  have hm : ps.length ≤ (startD N ds).length := by rw [hlen]; exact hNl
  refine ⟨t, p, kk w0 (L2.start N vs) (startD N ds) _ _ _ s0 (hr ds ED QD hd hspec) ⟨fun ρ' w' σ' h e => ?_, fun d ρ' w' σ' v h e r => ?_, fun ρ' w' σ' h e => h, fun ρ' w' σ' h e => h, fun c fs ρ' w' σ' x h e r => ?_⟩⟩
  · exact hq .non _ (w'.ren _) .non h (leave_end hm e hv hM) rfl
  · refine hq d _ (w'.ren _) v h (leave_end hm e hv hM) (r.ren fun s => ?_)
    show (if _ then _ else _) = _
    rw [if_neg (by omega), if_pos rfl]; rfl
  · refine hx c fs _ (w'.ren _) x h (leave_end hm e hv hM) ?_
    cases x with
    | none => cases fs <;> exact r
    | some a =>
      cases fs with
      | none => exact r
      | some fs =>
        obtain ⟨us, h1, h2, h3, h4⟩ := r
        exact ⟨us, h1, h2, h3, RepL.free (w := w') (w' := w'.ren (leaveTo (startD N ds).length ps.length)) (Same.refl _) _ h3 h4⟩
end
/-! ### calls -/
/-- the arguments as the def gets them: those of M as they are, the others frozen -/
def argDs (M : List Nat) : Nat → List AD → En → Option (List D × En)
  | _, [], ρ => some ([], ρ)
  | j, .val d :: r, ρ => match argDs M (j + 1) r ρ with
    | some (ds, ρ') => some ((match M.contains j with | true => d | false => d.frz) :: ds, ρ')
    | none => none
  | j, .brw i :: r, ρ => match ρ[i]? with
    | some (some d) => match M.contains j with
      | true => match argDs M (j + 1) r ρ with
        | some (ds, ρ') => some (d :: ds, ρ')
        | none => none
      | false => match argDs M (j + 1) r (ρ.set i (some d.frz)) with
        | some (ds, ρ') => some (d.frz :: ds, ρ')
        | none => none
    | _ => none
/-- the names lent for good (M) -/
def lends (M : List Nat) : Nat → List AD → List (Nat × Nat)
  | _, [] => []
  | j, .val _ :: r => lends M (j + 1) r
  | j, .brw i :: r => match M.contains j with
    | true => (i, j) :: lends M (j + 1) r
    | false => lends M (j + 1) r
/-- names lent that are frozen from then on -/
def ices (M : List Nat) : Nat → List AD → List Nat
  | _, [] => []
  | j, .val _ :: r => ices M (j + 1) r
  | j, .brw i :: r => match M.contains j with
    | true => ices M (j + 1) r
    | false => i :: ices M (j + 1) r
def apart : List (Nat × Nat) → List Nat → Bool
  | [], _ => true
  | (i, _) :: r, l => !l.contains i && !(r.any fun p => p.1 == i) && apart r l
def oGet (os : En) (j : Nat) : Option D := match os[j]? with
  | some o => o
  | none => none
def putBack : List (Nat × Nat) → En → En → En
  | [], _, ρ => ρ
  | (i, j) :: r, os, ρ => putBack r os (ρ.set i (oGet os j))
def rCall (M : List Nat) (r : FSpec) (ra : RA) : RE := fun ρ E Q => ra ρ E fun ads ρ1 => match argDs M 0 ads ρ1 with
  | some (ds, ρ2) => match apart (lends M 0 ads) (ices M 0 ads) with
    | true => r ds (fun c fs os => E c fs (putBack (lends M 0 ads) os ρ2)) (fun d os => nf (putBack (lends M 0 ads) os ρ2) (Q d))
    | false => False
  | none => False
end FL
/-! FL7: the call of a def by its promise over data. -/
namespace FL
open PySem PySem.Spec PyProof.Rows L2
/-- into the def -/
def inLoc (M : List Nat) (τ : Nat) (ads : List AD) : Loc → Option Loc
  | h :: s => if τ ≤ h then (if M.contains (h - τ) then some ((h - τ + 1) :: s) else none) else match h with
    | 0 => some (0 :: h :: s)
    | i + 1 => match (lends M 0 ads).lookup i with
      | some j => some ((j + 1) :: s)
      | none => some (0 :: h :: s)
  | [] => some [0]
/-- and back -/
def outLoc (M : List Nat) (τ m : Nat) (ads : List AD) : Loc → Option Loc
  | 0 :: s => some s
  | (j + 1) :: s => if j = m then some (τ :: s) else match ((lends M 0 ads).map fun p => (p.2, p.1)).lookup j with
    | some i => some ((i + 1) :: s)
    | none => none
  | [] => none
theorem lends_mem {M : List Nat} : ∀ {ads : List AD} {j i k : Nat}, (i, k) ∈ lends M j ads → ∃ q, k = j + q ∧ ads[q]? = some (.brw i) ∧ M.contains k = true
  | [], _, _, _, h => by simp [lends] at h
  | .val d :: r, j, i, k, h => by
    simp only [lends] at h
    obtain ⟨q, e, e2, e3⟩ := lends_mem h
    exact ⟨q + 1, by omega, by simpa using e2, e3⟩
  | .brw i' :: r, j, i, k, h => by
    simp only [lends] at h
    split at h
    · rename_i hc
      rcases List.mem_cons.mp h with e | h
      · cases e
        exact ⟨0, rfl, rfl, hc⟩
      · obtain ⟨q, e, e2, e3⟩ := lends_mem h
        exact ⟨q + 1, by omega, by simpa using e2, e3⟩
    · obtain ⟨q, e, e2, e3⟩ := lends_mem h
      exact ⟨q + 1, by omega, by simpa using e2, e3⟩
theorem apart_get : ∀ {l : List (Nat × Nat)} {c : List Nat}, apart l c = true → (∀ p ∈ l, p.1 ∉ c) ∧ l.Pairwise (fun p q => p.1 ≠ q.1)
  | [], _, _ => ⟨(fun _ h => nomatch h), .nil⟩
  | (i, j) :: r, c, h => by
    simp only [apart, Bool.and_eq_true, Bool.not_eq_true', List.any_eq_false, beq_iff_eq] at h
    obtain ⟨⟨h1, h2⟩, h3⟩ := h
    obtain ⟨g1, g2⟩ := apart_get h3
    refine ⟨fun p hp => ?_, .cons (fun q hq e => h2 q hq e.symm) g2⟩
    rcases List.mem_cons.mp hp with rfl | hp
    · intro hm
      rw [List.contains_iff_mem.mpr hm] at h1; cases h1
    · exact g1 p hp
theorem lookup_of_mem {l : List (Nat × Nat)} (h : l.Pairwise fun p q => p.1 ≠ q.1) {i j : Nat} (hm : (i, j) ∈ l) : l.lookup i = some j := by
  induction l with
  | nil => cases hm
  | cons p r ih =>
    obtain ⟨a, b⟩ := p
    rw [List.lookup_cons]
    rcases List.mem_cons.mp hm with e | hm
    · cases e; simp
    · have : a ≠ i := fun z => by
        have := (List.pairwise_cons.mp h).1 _ hm
        exact this z
      rw [show (i == a) = false by simp; omega]
      exact ih (List.pairwise_cons.mp h).2 hm
theorem lookup_some {l : List (Nat × Nat)} {i j : Nat} (h : l.lookup i = some j) : (i, j) ∈ l := by
  induction l with
  | nil => cases h
  | cons p r ih =>
    obtain ⟨a, b⟩ := p
    rw [List.lookup_cons] at h
    cases q : (i == a) with
    | true =>
      rw [q] at h
      have : i = a := by simpa using q
      subst this
      cases h
      exact List.mem_cons_self
    | false =>
      rw [q] at h
      exact List.mem_cons_of_mem _ (ih h)
theorem lends_snd {M : List Nat} : ∀ (ads : List AD) (j : Nat), (lends M j ads).Pairwise (fun p q => p.2 < q.2) ∧ ∀ p ∈ lends M j ads, j ≤ p.2
  | [], _ => ⟨.nil, fun _ h => nomatch h⟩
  | .val d :: r, j => by
    obtain ⟨h1, h2⟩ := lends_snd r (j + 1)
    simp only [lends]
    exact ⟨h1, fun p hp => by have := h2 p hp; omega⟩
  | .brw i :: r, j => by
    obtain ⟨h1, h2⟩ := lends_snd r (j + 1)
    simp only [lends]
    split
    · refine ⟨.cons (fun q hq => ?_) h1, fun p hp => ?_⟩
      · have := h2 q hq
        show j < q.2
        omega
      · rcases List.mem_cons.mp hp with rfl | hp
        · exact Nat.le_refl _
        · have := h2 p hp; omega
    · exact ⟨h1, fun p hp => by have := h2 p hp; omega⟩
theorem lends_back {M : List Nat} {ads : List AD} {i j : Nat} (h : (i, j) ∈ lends M 0 ads) : ((lends M 0 ads).map fun p => (p.2, p.1)).lookup j = some i := by
  refine lookup_of_mem ?_ (List.mem_map.mpr ⟨(i, j), h, rfl⟩)
  rw [List.pairwise_map]
  exact (lends_snd ads 0).1.imp fun h => by show _ ≠ _; omega
theorem putBack_len : ∀ (l : List (Nat × Nat)) (os ρ : En), (putBack l os ρ).length = ρ.length
  | [], _, _ => rfl
  | (i, j) :: r, os, ρ => by
    unfold putBack
    rw [putBack_len r, List.length_set]
theorem putBack_other : ∀ {l : List (Nat × Nat)} {os ρ : En} {k : Nat}, (∀ p ∈ l, p.1 ≠ k) → (putBack l os ρ)[k]? = ρ[k]?
  | [], _, _, _, _ => rfl
  | (i, j) :: r, os, ρ, k, h => by
    unfold putBack
    rw [putBack_other fun p hp => h p (List.mem_cons_of_mem _ hp), List.getElem?_set_ne (h (i, j) List.mem_cons_self)]
theorem putBack_at : ∀ {l : List (Nat × Nat)} {os ρ : En} {i j : Nat}, (l.Pairwise fun p q => p.1 ≠ q.1) → (i, j) ∈ l → i < ρ.length → (putBack l os ρ)[i]? = some (oGet os j)
  | [], _, _, _, _, _, h, _ => nomatch h
  | (a, b) :: r, os, ρ, i, j, hp, h, hi => by
    unfold putBack
    rcases List.mem_cons.mp h with e | h
    · cases e
      rw [putBack_other fun p hq e => (List.pairwise_cons.mp hp).1 p hq e.symm, List.getElem?_set_self hi]
    · exact putBack_at (List.pairwise_cons.mp hp).2 h (by rw [List.length_set]; exact hi)
/-- what is frozen at a call: the values that are not lent, the names lent to what is not M -/
def iceP (M : List Nat) (τ : Nat) (ads : List AD) : Loc → Bool
  | h :: _ => if τ ≤ h then !M.contains (h - τ) else match h with
    | 0 => false
    | i + 1 => (ices M 0 ads).contains i
  | [] => false
def ArgSpec (M : List Nat) (ic : List Nat) (ρ : En) (k : Nat) (d : D) : AD → Prop
  | .val d0 => d = (match M.contains k with | true => d0 | false => d0.frz)
  | .brw i => (M.contains k = true ∧ ic.contains i = false → ρ[i]? = some (some d)) ∧ (M.contains k = false → ic.contains i = true ∧ ∃ d0, ρ[i]? = some (some d0) ∧ d = d0.frz)
theorem argDs_spec {M : List Nat} : ∀ {ads : List AD} {j : Nat} {ρ ρ' : En} {ds : List D}, argDs M j ads ρ = some (ds, ρ') → ds.length = ads.length ∧ ρ'.length = ρ.length ∧
    (∀ k, (ices M j ads).contains k = false → ρ'[k]? = ρ[k]?) ∧ (∀ k d, (ices M j ads).contains k = true → ρ'[k]? = some (some d) → ∃ d0, ρ[k]? = some (some d0) ∧ d = d0.frz) ∧
    (∀ (q : Nat) (d : D), ds[q]? = some d → ∃ a, ads[q]? = some a ∧ ArgSpec M (ices M j ads) ρ (j + q) d a)
  | [], j, ρ, ρ', ds, h => by
    simp only [argDs] at h
    cases h
    exact ⟨rfl, rfl, fun _ _ => rfl, fun k d hk _ => by simp [ices] at hk, fun q d e => by simp at e⟩
  | .val d0 :: r, j, ρ, ρ', ds, h => by
    simp only [argDs] at h
    split at h
    · rename_i ds' ρ1 e1
      cases h
      obtain ⟨h1, h2, h3, h4, h5⟩ := argDs_spec e1
      refine ⟨by simp [h1], h2, h3, h4, fun q d e => ?_⟩
      cases q with
      | zero => cases e; exact ⟨_, rfl, rfl⟩
      | succ q =>
        obtain ⟨a, e2, g⟩ := h5 q d (by simpa using e)
        refine ⟨a, by simpa using e2, ?_⟩
        rw [show j + (q + 1) = j + 1 + q by omega]
        exact g
    · cases h
  | .brw i :: r, j, ρ, ρ', ds, h => by
    simp only [argDs] at h
    split at h
    · rename_i d0 e0
      split at h
      · rename_i hc
        split at h
        · rename_i ds' ρ1 e1
          cases h
          obtain ⟨h1, h2, h3, h4, h5⟩ := argDs_spec e1
          have ei : ices M j (.brw i :: r) = ices M (j + 1) r := by simp only [ices]; rw [hc]
          rw [ei]
          refine ⟨by simp [h1], h2, h3, h4, fun q d e => ?_⟩
          cases q with
          | zero =>
            cases e
            refine ⟨_, rfl, fun _ => e0, fun z => ?_⟩
            rw [show j + 0 = j by omega, hc] at z; cases z
          | succ q =>
            obtain ⟨a, e2, g⟩ := h5 q d (by simpa using e)
            refine ⟨a, by simpa using e2, ?_⟩
            rw [show j + (q + 1) = j + 1 + q by omega]
            exact g
        · cases h
      · rename_i hc
        split at h
        · rename_i ds' ρ1 e1
          cases h
          obtain ⟨h1, h2, h3, h4, h5⟩ := argDs_spec e1
          have ei : ices M j (.brw i :: r) = i :: ices M (j + 1) r := by simp only [ices]; rw [hc]
          have hi := (List.getElem?_eq_some_iff.mp e0).1
          rw [ei]
          have old : ∀ k d, (ρ.set i (some d0.frz))[k]? = some (some d) → ∃ d1, ρ[k]? = some (some d1) ∧ (d = d1 ∧ k ≠ i ∨ d = d1.frz ∧ k = i) := fun k d e => by
            by_cases hk : k = i
            · subst hk
              rw [List.getElem?_set_self hi] at e
              cases e
              exact ⟨d0, e0, .inr ⟨rfl, rfl⟩⟩
            · rw [List.getElem?_set_ne (Ne.symm hk)] at e
              exact ⟨d, e, .inl ⟨rfl, hk⟩⟩
          have ff : ∀ d : D, d.frz.frz = d.frz := fun d => frz_id _ (frz_own d)
          refine ⟨by simp [h1], by rw [h2, List.length_set], fun k hk => ?_, fun k d hk e => ?_, fun q d e => ?_⟩
          · simp only [List.contains_cons, Bool.or_eq_false_iff, beq_eq_false_iff_ne] at hk
            rw [h3 k hk.2, List.getElem?_set_ne (Ne.symm hk.1)]
          · by_cases hk2 : (ices M (j + 1) r).contains k = true
            · obtain ⟨d1, e3, e4⟩ := h4 k d hk2 e
              obtain ⟨d2, e5, e6⟩ := old k d1 e3
              refine ⟨d2, e5, ?_⟩
              rcases e6 with ⟨rfl, _⟩ | ⟨rfl, _⟩
              · exact e4
              · rw [e4, ff]
            · rw [h3 k (by simpa using hk2)] at e
              obtain ⟨d2, e5, e6⟩ := old k d e
              refine ⟨d2, e5, ?_⟩
              rcases e6 with ⟨rfl, hne⟩ | ⟨rfl, _⟩
              · simp only [List.contains_cons, Bool.or_eq_true, beq_iff_eq] at hk
                rcases hk with z | z
                · exact absurd z hne
                · exact absurd z hk2
              · rfl
          · cases q with
            | zero =>
              cases e
              refine ⟨_, rfl, fun z => ?_, fun _ => ⟨by simp, d0, e0, rfl⟩⟩
              rw [show j + 0 = j by omega, hc] at z; cases z.1
            | succ q =>
              obtain ⟨a, e2, g⟩ := h5 q d (by simpa using e)
              refine ⟨a, by simpa using e2, ?_⟩
              rw [show j + (q + 1) = j + 1 + q by omega]
              cases a with
              | val d1 => exact g
              | brw i2 =>
                refine ⟨fun z => ?_, fun z => ?_⟩
                · have z2 := z.2
                  simp only [List.contains_cons, Bool.or_eq_false_iff, beq_eq_false_iff_ne] at z2
                  have := g.1 ⟨z.1, z2.2⟩
                  rw [List.getElem?_set_ne (Ne.symm z2.1)] at this
                  exact this
                · obtain ⟨g1, d1, e3, e4⟩ := g.2 z
                  obtain ⟨d2, e5, e6⟩ := old i2 d1 e3
                  refine ⟨by simp only [List.contains_cons, g1, Bool.or_true], d2, e5, ?_⟩
                  rcases e6 with ⟨rfl, _⟩ | ⟨rfl, _⟩
                  · exact e4
                  · rw [e4, ff]
        · cases h
    · cases h
theorem argsAt_get {K : PySem.W.Frag} {w : Wd} {σ : Sl} : ∀ {ads : List AD} {τ : Nat} {vs : List V}, ArgsAt K w σ ads τ vs → vs.length = ads.length ∧ ∀ i a v, ads[i]? = some a → vs[i]? = some v → AdAt K w σ a (τ + i) v
  | [], _, _, h => by simp only [ArgsAt] at h; subst h; simp
  | a :: r, τ, vs, h => by
    obtain ⟨v, us, rfl, h1, h2⟩ : ∃ v us, vs = v :: us ∧ AdAt K w σ a τ v ∧ ArgsAt K w σ r (τ + 1) us := by
      cases a with
      | val d => exact h
      | brw i => exact h
    obtain ⟨l, g⟩ := argsAt_get h2
    refine ⟨by simpa using l, fun i a' v' e1 e2 => ?_⟩
    cases i with
    | zero => cases e1; cases e2; exact h1
    | succ i =>
      have := g i a' v' (by simpa using e1) (by simpa using e2)
      rw [show τ + 1 + i = τ + (i + 1) by omega] at this
      exact this
section
variable {X : Cx} {W : WX}
theorem call_sound {m τ : Nat} {M : List Nat} {r : FSpec} {w : Wd} {σ : Sl} {ρ : En} {E : EE} {Q : D → En → Prop} {Qv : VK} {ads : List AD} {vs : List V} (hn : ρ.length < τ) (st : StE X.K w σ ρ) (hl : ads.length = m) (ha : ArgsAt X.K w σ ads τ vs)
    (h : match argDs M 0 ads ρ with
      | some (ds, ρ2) => match apart (lends M 0 ads) (ices M 0 ads) with
        | true => r ds (fun c fs os => E c fs (putBack (lends M 0 ads) os ρ2)) (fun d os => nf (putBack (lends M 0 ads) os ρ2) (Q d))
        | false => False
      | none => False)
    (hq : ∀ d ρ' w' v, Q d ρ' → EndE X.K τ w σ ρ ρ' w' → Rep X.K w' d [τ] v → Qv v w'.H) (hx : SX X.K W τ w σ ρ E) : FnD X.K m M r vs w.H Qv (WE W σ) := by
  split at h
  · rename_i ds ρ2 eds
    split at h
    · rename_i eap
      obtain ⟨l1, l2, a3, a4, a5⟩ := argDs_spec eds
      obtain ⟨lv, av⟩ := argsAt_get ha
      obtain ⟨p1, p2⟩ := apart_get eap
      have hP : ∀ i, i < ρ.length → ∀ s, iceP M τ ads ((i + 1) :: s) = (ices M 0 ads).contains i := fun i hi s => by
        show (if τ ≤ i + 1 then _ else _) = _
        rw [if_neg (by omega)]
      have inO : ∀ i s, i < ρ.length → (∀ p ∈ lends M 0 ads, p.1 ≠ i) → inLoc M τ ads ((i + 1) :: s) = some (0 :: (i + 1) :: s) := fun i s hi hne => by
        show (if τ ≤ i + 1 then _ else _) = _
        rw [if_neg (by omega)]
        show (match (lends M 0 ads).lookup i with | some j => some ((j + 1) :: s) | none => some (0 :: (i + 1) :: s)) = _
        cases q : (lends M 0 ads).lookup i with
        | none => rfl
        | some j => exact absurd rfl (hne _ (lookup_some q))
      have inL : ∀ i j s, i < ρ.length → (i, j) ∈ lends M 0 ads → inLoc M τ ads ((i + 1) :: s) = some ((j + 1) :: s) := fun i j s hi hm => by
        show (if τ ≤ i + 1 then _ else _) = _
        rw [if_neg (by omega)]
        show (match (lends M 0 ads).lookup i with | some j => some ((j + 1) :: s) | none => some (0 :: (i + 1) :: s)) = _
        rw [lookup_of_mem p2 hm]
      -- the world in the def
      refine ⟨lv.trans hl, (w.ice (iceP M τ ads)).ren (inLoc M τ ads), ds, _, _, rfl, st.wf.ice.ren _, l1.trans hl, fun j d v e1 e2 => ?_, h, fun d os w' v hQ eF rv => ?_, fun c fs os w' x hE eF rx => ?_⟩
      · -- the arguments
        obtain ⟨a, ea, g⟩ := a5 j d e1
        have at1 := av j a v ea e2
        rw [Nat.zero_add] at g
        cases a with
        | val d0 =>
          have at1 : Rep X.K w d0 [τ + j] v := at1
          have g : d = (match M.contains j with | true => d0 | false => d0.frz) := g
          cases hc : M.contains j with
          | true =>
            rw [hc] at g
            have g : d = d0 := g
            subst g
            refine Rep.ren (Rep.to (w' := w.ice (iceP M τ ads)) (ice_same st.wf) d (ice_kept fun s => ?_) at1) fun s => ?_
            · show (if τ ≤ τ + j then !M.contains (τ + j - τ) else _) = false
              rw [if_pos (by omega), show τ + j - τ = j by omega, hc]; rfl
            · show (if τ ≤ τ + j then (if M.contains (τ + j - τ) then _ else _) else _) = _
              rw [if_pos (by omega), show τ + j - τ = j by omega, hc]; rfl
          | false =>
            rw [hc] at g
            have g : d = d0.frz := g
            subst g
            refine Rep.free (w := w.ice (iceP M τ ads)) (w' := (w.ice (iceP M τ ads)).ren (inLoc M τ ads)) (ℓ := [τ + j]) (Same.refl _) _ (frz_own d0) (Rep.frz (ice_same st.wf) d0 (ice_frz fun s => ?_) at1)
            show (if τ ≤ τ + j then !M.contains (τ + j - τ) else _) = true
            rw [if_pos (by omega), show τ + j - τ = j by omega, hc]; rfl
        | brw i =>
          have at1 : σ[i]? = some (some v) := at1
          cases hc : M.contains j with
          | true =>
            have hm : (i, j) ∈ lends M 0 ads := by
              have : ∀ (l : List AD) (b q : Nat), l[q]? = some (.brw i) → M.contains (b + q) = true → (i, b + q) ∈ lends M b l := by
                intro l
                induction l with
                | nil => intro b q e; simp at e
                | cons a l ih =>
                  intro b q e hcc
                  cases q with
                  | zero =>
                    cases e
                    simp only [lends]
                    rw [show b + 0 = b by omega] at hcc ⊢
                    rw [hcc]; exact List.mem_cons_self
                  | succ q =>
                    have z := ih (b + 1) q (by simpa using e) (by rw [show b + 1 + q = b + (q + 1) by omega]; exact hcc)
                    rw [show b + 1 + q = b + (q + 1) by omega] at z
                    cases a with
                    | val d => simp only [lends]; exact z
                    | brw i' =>
                      simp only [lends]
                      split
                      · exact List.mem_cons_of_mem _ z
                      · exact z
              have z := this ads 0 j ea (by simpa using hc)
              simpa using z
            have hni : (ices M 0 ads).contains i = false := by
              cases q : (ices M 0 ads).contains i with
              | false => rfl
              | true => exact absurd (List.contains_iff_mem.mp q) (p1 _ hm)
            have er := g.1 ⟨hc, hni⟩
            have hi := (List.getElem?_eq_some_iff.mp er).1
            obtain ⟨v', e3, r3⟩ := st.rep i d er
            rw [at1] at e3; cases e3
            refine Rep.ren (Rep.to (w' := w.ice (iceP M τ ads)) (ice_same st.wf) d (ice_kept fun s => ?_) r3) fun s => ?_
            · exact (hP i hi s).trans hni
            · exact inL i j s hi hm
          | false =>
            obtain ⟨hi1, d0, er, ed⟩ := g.2 hc
            subst ed
            have hi := (List.getElem?_eq_some_iff.mp er).1
            obtain ⟨v', e3, r3⟩ := st.rep i d0 er
            rw [at1] at e3; cases e3
            refine Rep.free (w := w.ice (iceP M τ ads)) (w' := (w.ice (iceP M τ ads)).ren (inLoc M τ ads)) (ℓ := [i + 1]) (Same.refl _) _ (frz_own d0) (Rep.frz (ice_same st.wf) d0 (ice_frz fun s => ?_) r3)
            exact (hP i hi s).trans hi1
      all_goals
        have key : EndE X.K τ w σ ρ (putBack (lends M 0 ads) os ρ2) (w'.ren (outLoc M τ m ads)) := by
          have back : ∀ a h s, w.G a = some (h :: s) → iceP M τ ads (h :: s) = false → inLoc M τ ads (h :: s) = some (0 :: h :: s) → (w'.ren (outLoc M τ m ads)).G a = some (h :: s) ∧ w'.H a = w.H a := fun a h s e1 e2 e3 => by
            have g1 : (w.ice (iceP M τ ads)).G a = some (h :: s) := by
              have := (ice_kept (w := w) (P := iceP M τ ads) (ℓ := h :: s) (fun t => by
                cases h with
                | zero => exact e2
                | succ h => exact e2) a [] (by simpa using e1)).1
              simpa using this
            obtain ⟨k1, k2⟩ := eF.f a (h :: s) (ren_at g1 e3)
            exact ⟨ren_at k1 rfl, k2⟩
          have hss : Same w.S w'.S := (ice_same st.wf).trans eF.s
          refine ⟨by rw [putBack_len, l2], ⟨eF.wf.ren _, by rw [putBack_len, l2]; exact st.len, fun i d' e => ?_⟩, ⟨hss, fun a ℓ e ⟨h, s, e2, k⟩ => ?_⟩⟩
          · by_cases hm : ∃ j, (i, j) ∈ lends M 0 ads
            · obtain ⟨j, hm⟩ := hm
              obtain ⟨q, e3, e4, e5⟩ := lends_mem hm
              rw [Nat.zero_add] at e3
              subst e3
              have hqa := (List.getElem?_eq_some_iff.mp e4).1
              have hv : vs[j]? = some (vs[j]'(by rw [lv]; exact hqa)) := List.getElem?_eq_getElem _
              have at1 : σ[i]? = some (some _) := av j (.brw i) _ e4 hv
              have hiσ := (List.getElem?_eq_some_iff.mp at1).1
              rw [putBack_at p2 hm (by rw [l2, ← st.len]; exact hiσ)] at e
              have e : oGet os j = some d' := Option.some.inj e
              unfold oGet at e
              cases hos : os[j]? with
              | none => rw [hos] at e; cases e
              | some o =>
                rw [hos] at e
                have e : o = some d' := e
                subst e
                refine ⟨_, at1, (eF.args j e5 d' _ hos hv).ren fun s => ?_⟩
                show (if j = m then _ else _) = _
                rw [if_neg (by omega)]
                show (match ((lends M 0 ads).map fun p => (p.2, p.1)).lookup j with | some i => some ((i + 1) :: s) | none => none) = _
                rw [lends_back hm]; rfl
            · have hne : ∀ p ∈ lends M 0 ads, p.1 ≠ i := fun p hp z => hm ⟨p.2, by rw [← z]; exact hp⟩
              rw [putBack_other hne] at e
              have hi : i < ρ.length := by rw [← l2]; exact (List.getElem?_eq_some_iff.mp e).1
              cases hic : (ices M 0 ads).contains i with
              | true =>
                obtain ⟨d0, er, ed⟩ := a4 i d' hic e
                subst ed
                obtain ⟨v', e3, r3⟩ := st.rep i d0 er
                refine ⟨v', e3, ?_⟩
                have r4 : Rep X.K (w.ice (iceP M τ ads)) d0.frz [i + 1] v' := Rep.frz (ice_same st.wf) d0 (ice_frz fun s => (hP i hi s).trans hic) r3
                exact Rep.free (w := w.ice (iceP M τ ads)) (w' := w'.ren (outLoc M τ m ads)) eF.s _ (frz_own d0) r4
              | false =>
                rw [a3 i hic] at e
                obtain ⟨v', e3, r3⟩ := st.rep i d' e
                exact ⟨v', e3, Rep.to (w' := w'.ren (outLoc M τ m ads)) hss d' (fun a s e6 => back a (i + 1) s e6 ((hP i hi s).trans hic) (inO i s hi hne)) r3⟩
          · subst e2
            refine back a h s e ?_ ?_
            · show (if τ ≤ h then _ else _) = false
              rw [if_neg (by omega)]
              cases h with
              | zero => rfl
              | succ i =>
                show (ices M 0 ads).contains i = false
                cases q : (ices M 0 ads).contains i with
                | false => rfl
                | true =>
                  exfalso
                  have mem : ∀ (l : List AD) (b : Nat), (ices M b l).contains i = true → ∃ q : Nat, l[q]? = some (AD.brw i) := by
                    intro l
                    induction l with
                    | nil => intro b h; simp [ices] at h
                    | cons a l ih =>
                      intro b h
                      cases a with
                      | val d => simp only [ices] at h; obtain ⟨q, e⟩ := ih (b + 1) h; exact ⟨q + 1, by simpa using e⟩
                      | brw i' =>
                        simp only [ices] at h
                        split at h
                        · obtain ⟨q, e⟩ := ih (b + 1) h; exact ⟨q + 1, by simpa using e⟩
                        · simp only [List.contains_cons, Bool.or_eq_true, beq_iff_eq] at h
                          rcases h with z | z
                          · exact ⟨0, by rw [z]; rfl⟩
                          · obtain ⟨q, e⟩ := ih (b + 1) z; exact ⟨q + 1, by simpa using e⟩
                  obtain ⟨qq, eq⟩ := mem ads 0 q
                  have hqa := (List.getElem?_eq_some_iff.mp eq).1
                  have at1 : σ[i]? = some (some _) := av qq (.brw i) _ eq (List.getElem?_eq_getElem (by rw [lv]; exact hqa))
                  have := (List.getElem?_eq_some_iff.mp at1).1
                  rw [st.len] at this
                  omega
            · show (if τ ≤ h then _ else _) = _
              rw [if_neg (by omega)]
              cases h with
              | zero => rfl
              | succ i =>
                show (match (lends M 0 ads).lookup i with | some j => some ((j + 1) :: s) | none => some (0 :: (i + 1) :: s)) = _
                cases q : (lends M 0 ads).lookup i with
                | none => rfl
                | some j =>
                  exfalso
                  obtain ⟨q2, e3, e4, e5⟩ := lends_mem (lookup_some q)
                  have hqa := (List.getElem?_eq_some_iff.mp e4).1
                  have at1 : σ[i]? = some (some _) := av q2 (.brw i) _ e4 (List.getElem?_eq_getElem (by rw [lv]; exact hqa))
                  have := (List.getElem?_eq_some_iff.mp at1).1
                  rw [st.len] at this
                  omega
      · refine hq d _ (w'.ren (outLoc M τ m ads)) v (nf_of hQ) key (rv.ren fun s => ?_)
        show (if m = m then _ else _) = _
        rw [if_pos rfl]; rfl
      · refine hx c fs _ (w'.ren (outLoc M τ m ads)) x hE key ?_
        cases x with
        | none => cases fs <;> exact rx
        | some a =>
          cases fs with
          | none => exact rx
          | some fs =>
            obtain ⟨us, h1, h2, h3, h4⟩ := rx
            exact ⟨us, h1, h2, h3, RepL.free (w := w') (w' := w'.ren (outLoc M τ m ads)) (Same.refl _) _ h3 h4⟩
    · exact h.elim
  · exact h.elim
variable {k : Nat} {f : Addr} {fd : FuncData} {ps : List Str} {M : List Nat} {r : FSpec} {x : Str} {p pos : Pos} {e : Expr} {es : List Expr} {ra : RA}
theorem fe_call {m : Nat} (tk : Takes X W) (F : FnOk X.prog X.w X.K X.mg X.base (L2.CX X.prog X.w) k f fd ps (FnD X.K m M r)) (hr : Room k X.A) (hm : X.mg x = some (.ref f)) (hk : PySem.W.keepIn X.K (.ref f) = true) (hb : Binds X.K fd ps [])
    (ha : FA X W (e :: es) ra) (hl : (e :: es).length = m := by rfl) (hg : Gl X x := by rfl) (hdb : (x == ("__debug__" : Str)) = false := by decide) (he : starEach (e :: es) X.env = (false, eval e X.env) :: starEach es X.env := by rfl) (hpl : (backTo pos (starEach es X.env)).any (·.1) = false := by rfl) :
    FE X W (.Call (.Name x p) (e :: es) [] pos) (rCall M r ra) := by
  obtain ⟨t, pa, sa⟩ := ha.ex
  refine ⟨_, pe_callS (E := WE W) F hr hg hm hk hb (fun σ => passAt tk σ) pa hdb he hpl, fun τ w σ ρ E Q Qv hn st h hq hx => ?_⟩
  refine sa τ w σ ρ E _ _ hn st h (fun ads ρ1 w1 vs h1 l1 e1 r1 => ?_) hx
  exact call_sound (by rw [e1.len]; exact hn) e1.st (l1.trans hl) r1 h1 (fun d ρ' w' v q e2 r2 => hq d ρ' w' v q (e1.trans e2 (Nat.le_refl _)) r2) (hx.then e1 (Nat.le_refl _))
end
end FL
/-! FL8: loops, comprehensions, stores into lists. -/
namespace FL
open PySem PySem.Spec PyProof.Rows L2
/-! ### while -/
def rWhile (rt : RT) (rb : RS) : RS := fun ρ E F => ∃ I : Nat → En → Prop, (∃ m, I m ρ) ∧ ∀ m ρ, I m ρ → rt ρ E fun b ρ1 =>
  (b = true → rb ρ1 E (F.lp fun ρ2 => ∃ m', m' < m ∧ I m' ρ2)) ∧ (b = false → F.nx ρ1)
section
variable {X : Cx} {W : WX} {M : List Nat} {pos : Pos}
theorem fs_while {c : Expr} {body : List Stmt} {rt : RT} {rb : RS} (hp : PassesOwn (model X.prog X.w) X.A X.env X.xe) (hc : FT X W c rt) (hb : FSs X W M body rb) : FS X W M (.While c body [] pos) (rWhile rt rb) := by
  obtain ⟨t, p, k⟩ := hc.ex
  obtain ⟨u, q, l⟩ := hb.ex
  refine ⟨_, ps_while hp p q, fun w σ ρ E F D st ⟨I, ⟨m0, i0⟩, turn⟩ hf => ?_⟩
  refine ⟨fun m σ' H' => ∃ ρ' w', w'.H = H' ∧ I m ρ' ∧ EndS X.K M w σ ρ w' σ' ρ', ⟨m0, ρ, w, rfl, i0, .refl st⟩, ?_⟩
  rintro m σ1 H1 ⟨ρ1, w1, rfl, i1, e1⟩
  refine k _ w1 σ1 ρ1 E _ _ (Nat.lt_succ_self _) e1.st (turn m ρ1 i1) (fun b ρ2 w2 h2 e2 => ?_) (hf.then e1).sx
  have e12 := e1.trans (e2.s (M := M) (Nat.lt_succ_self _))
  cases b with
  | true =>
    rw [if_pos rfl]
    refine ⟨fun σ' H' => ∃ m', m' < m ∧ ∃ ρ' w', w'.H = H' ∧ I m' ρ' ∧ EndS X.K M w σ ρ w' σ' ρ', fun σ' H' ⟨m', h1, h2⟩ => ⟨m', h1, h2⟩, ?_⟩
    refine l w2 σ1 ρ2 E _ _ e12.st (h2.1 rfl) ⟨fun ρ' w' σ' ⟨m', h1, h2⟩ e => ⟨m', h1, ρ', w', rfl, h2, e12.trans e⟩, (hf.then e12).rt, (hf.then e12).nx, fun ρ' w' σ' ⟨m', h1, h2⟩ e => ⟨m', h1, ρ', w', rfl, h2, e12.trans e⟩, (hf.then e12).ex⟩
  | false =>
    rw [if_neg Bool.false_ne_true]
    exact hf.nx ρ2 w2 σ1 (h2.2 rfl) e12
end
/-! ### what is walked -/
/-- a later world that only has more -/
def Grow (w w' : Wd) : Prop := Wf w' ∧ Same w.S w'.S ∧ (∀ ℓ, KeptTo w w' ℓ ℓ)
theorem Grow.refl {w : Wd} (h : Wf w) : Grow w w := ⟨h, Same.refl _, fun ℓ a s e => ⟨e, rfl⟩⟩
theorem Grow.end {K : PySem.W.Frag} {τ : Nat} {w w' : Wd} {σ : Sl} {ρ : En} (g : Grow w w') (st : StE K w σ ρ) : EndE K τ w σ ρ ρ w' :=
  ⟨rfl, st.to g.1 g.2.1 fun i _ => g.2.2 _, ⟨g.2.1, fun a ℓ e _ => by simpa using g.2.2 ℓ a [] (by simpa using e)⟩⟩
def ItOk (K : PySem.W.Frag) (J : It) (ds : List D) (w : Wd) : Prop := ∀ i w1, Wf w1 → Same w.S w1.S →
  (∀ d, ds[i]? = some d → J.go i w1.H ∧ ∀ x H', J.yld i w1.H x H' → ∃ w2, w2.H = H' ∧ Grow w1 w2 ∧ d.own = false ∧ ∀ ℓ, Rep K w2 d ℓ x) ∧ (i = ds.length → J.stop i w1.H)
abbrev RI := En → EE → (List D → En → Prop) → Prop
def SI (K : PySem.W.Frag) (W : WX) (wi : TI) (ri : RI) : Prop :=
  ∀ (τ : Nat) (w : Wd) (σ : Sl) (ρ : En) (E : EE) (Q : List D → En → Prop) (R : It → Hp → Prop), ρ.length < τ → StE K w σ ρ → ri ρ E Q →
    (∀ ds ρ' w' J, Q ds ρ' → ds.length ≤ sizeLine → EndE K τ w σ ρ ρ' w' → ItOk K J ds w' → R J w'.H) → SX K W τ w σ ρ E → wi σ w.H R
structure FI (X : Cx) (W : WX) (tg iter : Expr) (ri : RI) : Prop where
  ex : ∃ wi, PI X tg iter wi ∧ SI X.K W wi ri
abbrev RG := D → En → (En → Prop) → Prop
abbrev RGs := List D → En → (En → Prop) → Prop
/-- behind a store to names of A -/
structure EndG (K : PySem.W.Frag) (A : List Nat) (w : Wd) (σ : Sl) (ρ : En) (w' : Wd) (σ' : Sl) (ρ' : En) : Prop where
  len : ρ'.length = ρ.length
  st : StE K w' σ' ρ'
  ext : ∀ T, Ext ρ.length T w w'
  off : ∀ i, i ∉ A → σ'[i]? = σ[i]?
theorem EndG.refl {K : PySem.W.Frag} {A : List Nat} {w : Wd} {σ : Sl} {ρ : En} (h : StE K w σ ρ) : EndG K A w σ ρ w σ ρ := ⟨rfl, h, fun _ => .refl, fun _ _ => rfl⟩
theorem EndG.trans {K : PySem.W.Frag} {A : List Nat} {w w1 w2 : Wd} {σ σ1 σ2 : Sl} {ρ ρ1 ρ2 : En} (a : EndG K A w σ ρ w1 σ1 ρ1) (b : EndG K A w1 σ1 ρ1 w2 σ2 ρ2) : EndG K A w σ ρ w2 σ2 ρ2 :=
  ⟨b.len.trans a.len, b.st, fun T => (a.ext T).trans (by have := b.ext T; rw [a.len] at this; exact this), fun i hi => (b.off i hi).trans (a.off i hi)⟩
theorem EndG.s {K : PySem.W.Frag} {A M : List Nat} {w w1 : Wd} {σ σ1 : Sl} {ρ ρ1 : En} (a : EndG K A w σ ρ w1 σ1 ρ1) (h : (M.all fun i => !A.contains i) = true) : EndS K M w σ ρ w1 σ1 ρ1 :=
  ⟨a.len, a.st, a.ext _, fun i hi => a.off i fun hA => by
    have := List.all_eq_true.mp h i hi
    rw [List.contains_iff_mem.mpr hA] at this
    cases this⟩
def SG (K : PySem.W.Frag) (A : List Nat) (g : TG) (rg : RG) : Prop :=
  ∀ (w : Wd) (σ : Sl) (ρ : En) (d : D) (v : V) (Q : En → Prop) (Qg : Sl → Hp → Prop), d.own = false → (∀ ℓ, Rep K w d ℓ v) → StE K w σ ρ → rg d ρ Q →
    (∀ ρ' w' σ', Q ρ' → EndG K A w σ ρ w' σ' ρ' → Qg σ' w'.H) → g v σ w.H Qg
def SGs (K : PySem.W.Frag) (A : List Nat) (g : TGs) (rg : RGs) : Prop :=
  ∀ (w : Wd) (σ : Sl) (ρ : En) (ds : List D) (vs : List V) (Q : En → Prop) (Qg : Sl → Hp → Prop), ownL ds = false → (∀ ℓ j, RepL K w ds ℓ j vs) → StE K w σ ρ → rg ds ρ Q →
    (∀ ρ' w' σ', Q ρ' → EndG K A w σ ρ w' σ' ρ' → Qg σ' w'.H) → g vs σ w.H Qg
/-- a target that stores to names of A -/
structure FG (X : Cx) (A : List Nat) (tg : Expr) (rg : RG) : Prop where
  ex : ∃ g, PG X tg g ∧ SG X.K A g rg
structure FGs (X : Cx) (A : List Nat) (tgs : List Expr) (rg : RGs) : Prop where
  ex : ∃ g, PGs X tgs g ∧ SGs X.K A g rg
def gNm (i : Nat) : RG := fun d ρ Q => nf (ρ.set i (some d)) Q
def gTp (n : Nat) (rg : RGs) : RG := fun d ρ Q => match d with
  | .tup false ds => ds.length = n ∧ rg ds ρ Q
  | .ro true ds => ds.length = n ∧ rg ds ρ Q
  | .lst .ice ds => ds.length = n ∧ rg ds ρ Q
  | .ro false ds => ds.length = n ∧ rg ds ρ Q
  | _ => False
def gNl : RGs := fun ds ρ Q => match ds with
  | [] => Q ρ
  | _ => False
def gCs (r : RG) (rs : RGs) : RGs := fun ds ρ Q => match ds with
  | d :: ds => r d ρ fun ρ' => rs ds ρ' Q
  | [] => False
/-- slot i forgotten -/
def dropT (i : Nat) : Loc → Option Loc
  | h :: s => if h = i + 1 then none else some (h :: s)
  | [] => some []
theorem StE.putF {K : PySem.W.Frag} {w : Wd} {σ : Sl} {ρ : En} (st : StE K w σ ρ) (i : Nat) {d : D} {v : V} (ho : d.own = false) (r : ∀ ℓ, Rep K w d ℓ v) : StE K (w.ren (dropT i)) (σ.set i (some v)) (ρ.set i (some d)) := by
  refine ⟨st.wf.ren _, by rw [List.length_set, List.length_set]; exact st.len, fun j d' e => ?_⟩
  by_cases hj : j = i
  · subst hj
    have hl : j < ρ.length := by
      have := (List.getElem?_eq_some_iff.mp e).1
      simpa using this
    rw [List.getElem?_set_self hl] at e
    cases e
    exact ⟨v, List.getElem?_set_self (by rw [st.len]; exact hl), Rep.free (w := w) (w' := w.ren (dropT j)) (Same.refl _) d ho (r [])⟩
  · rw [List.getElem?_set_ne (Ne.symm hj)] at e ⊢
    obtain ⟨v', e1, r'⟩ := st.rep j d' e
    refine ⟨v', e1, r'.ren fun s => ?_⟩
    show (if _ then _ else _) = _
    rw [if_neg (by omega)]; rfl
section
variable {X : Cx} {A : List Nat} {pos : Pos}
theorem sg_name {K : PySem.W.Frag} {i : Nat} (hA : A.contains i = true) : SG K A (gName i) (gNm i) := by
  intro w σ ρ d v Q Qg ho hr st h hq
  by_cases hi : i < ρ.length
  · refine hq _ (w.ren (dropT i)) _ (nf_of h) ⟨by rw [List.length_set], st.putF i ho hr, fun T => ⟨Same.refl _, fun a ℓ e ⟨h, s, e2, k⟩ => ?_⟩, fun j hj => ?_⟩
    · subst e2
      refine ⟨ren_at e ?_, rfl⟩
      show (if _ then _ else _) = _
      rw [if_neg (by omega)]
    · have : j ≠ i := fun z => by
        subst z
        exact hj (List.contains_iff_mem.mp hA)
      exact List.getElem?_set_ne (Ne.symm this)
  · show Qg (σ.set i (some v)) w.H
    rw [set_out _ (by rw [st.len]; exact hi)]
    have h : Q (ρ.set i (some d)) := nf_of h
    rw [set_out _ hi] at h
    exact hq _ _ _ h (.refl st)
theorem fg_name (i : Nat) {x : Str} (hN : X.N.Nodup) (hi : X.N[i]? = some x := by rfl) (hx : L2.Loc X.env.scope x := by first | exact .inl rfl | exact .inr rfl) (hA : A.contains i = true := by rfl) (hf : X.fn x = true ∨ X.env.scope.names.lookup x = some .local := by first | exact .inl rfl | exact .inr rfl) : FG X A (.Name x pos) (gNm i) :=
  ⟨_, pg_name hN hi hx hf, sg_name hA⟩
theorem fgs_nil : FGs X A [] gNl := ⟨_, pgs_nil, fun w σ ρ ds vs Q Qg ho hr st h hq => by
  unfold gNl at h
  split at h
  · have := hr [] 0
    simp only [RepL] at this
    exact ⟨this, hq _ _ _ h (.refl st)⟩
  · exact h.elim⟩
theorem fgs_cons {e : Expr} {es : List Expr} {r : RG} {rs : RGs} (h : FG X A e r) (g : FGs X A es rs) (hs : (assignEach (e :: es) X.env).map (·.2) = assign e X.env :: (assignEach es X.env).map (·.2) := by rfl) : FGs X A (e :: es) (gCs r rs) := by
  obtain ⟨t, p, k⟩ := h.ex
  obtain ⟨u, q, l⟩ := g.ex
  refine ⟨_, pgs_cons p q hs, fun w σ ρ ds vs Q Qg ho hr st h hq => ?_⟩
  unfold gCs at h
  split at h
  · rename_i d ds'
    have r0 := hr [] 0
    simp only [RepL] at r0
    obtain ⟨v, us, rfl, _, _⟩ := r0
    simp only [ownL, Bool.or_eq_false_iff] at ho
    have rd : ∀ ℓ, Rep X.K w d ℓ v := fun ℓ => by
      have := hr [] 0
      simp only [RepL] at this
      obtain ⟨v', us', e, h1, _⟩ := this
      cases e
      exact h1.free (Same.refl _) d ho.1
    have rds : ∀ ℓ j, RepL X.K w ds' ℓ j us := fun ℓ j => by
      have := hr [] 0
      simp only [RepL] at this
      obtain ⟨v', us', e, _, h2⟩ := this
      cases e
      exact RepL.free (Same.refl _) ds' ho.2 h2
    refine ⟨v, us, rfl, k w σ ρ d v _ _ ho.1 rd st h fun ρ1 w1 σ1 h1 e1 => ?_⟩
    exact l w1 σ1 ρ1 ds' us _ _ ho.2 (fun ℓ j => RepL.free (w := w) (ℓ := ℓ) (j := j) (e1.ext 0).s ds' ho.2 (rds ℓ j)) e1.st h1 fun ρ2 w2 σ2 h2 e2 => hq ρ2 w2 σ2 h2 (e1.trans e2)
  · exact h.elim
theorem pg_or {tg : Expr} {g g' : TG} (h : PG X tg g) (k : PG X tg g') : PG X tg (fun v σ H Q => g v σ H Q ∨ g' v σ H Q) :=
  ⟨fun pins s σ H v u Q I r hw => hw.elim (fun z => h.run pins s σ H v u Q I r z) fun z => k.run pins s σ H v u Q I r z⟩
theorem fg_tup {es : List Expr} {k n : Nat} {rs : RGs} (h : FGs X A es rs) (hc : X.calm = true := by rfl) (hn : (assignEach es X.env).length = n := by rfl) (hst : (assignEach es X.env).findIdx? (·.1) = none := by rfl) : FG X A (.Tuple es k pos) (gTp n rs) := by
  obtain ⟨t, p, k⟩ := h.ex
  refine ⟨_, pg_or (pg_tup hc p hn hst) (pg_unl hc p hn hst), fun w σ ρ d v Q Qg ho hr st h hq => ?_⟩
  unfold gTp at h
  split at h
  · rename_i ds
    have hz := (tup_sz (hr [])).2 rfl
    obtain ⟨a, vs, rfl, h1, h2⟩ := tup_at st.wf (hr [])
    exact .inl ⟨a, vs, rfl, SqT.of h1, h2.length.trans h.1, k w σ ρ ds vs _ _ hz (fun ℓ j => h2.free (Same.refl _) ds hz) st h.2 hq⟩
  · rename_i ds
    have r := hr []
    simp only [Rep] at r
    obtain ⟨a, vs, rfl, h1, hz, h2⟩ := r
    exact .inl ⟨a, vs, rfl, same_rdT st.wf.sh h1, h2.length.trans h.1, k w σ ρ ds vs _ _ hz.2 (fun ℓ j => h2.free (Same.refl _) ds hz.2) st h.2 hq⟩
  · rename_i ds
    have hz := (lst_sz (hr [])).2 rfl
    obtain ⟨a, vs, rfl, h1, h2⟩ := lst_at st.wf (hr [])
    exact .inr ⟨a, vs, rfl, SqL.of h1, h2.length.trans h.1, k w σ ρ ds vs _ _ hz (fun ℓ j => h2.free (Same.refl _) ds hz) st h.2 hq⟩
  · rename_i ds
    have r := hr []
    simp only [Rep] at r
    obtain ⟨a, vs, rfl, h1, hz, h2⟩ := r
    exact .inr ⟨a, vs, rfl, st.wf.sh.seq h1, h2.length.trans h.1, k w σ ρ ds vs _ _ hz.2 (fun ℓ j => h2.free (Same.refl _) ds hz.2) st h.2 hq⟩
  · exact h.elim
end
/-! ### sources -/
/-- a frozen list, a tuple -/
def rIt (re : RE) : RI := fun ρ E Q => re ρ E fun d ρ' => match d with
  | .lst o ds => match o with
    | .deep => False
    | _ => Q ds ρ'
  | .ro false ds => Q ds ρ'
  | _ => False
def rItT (re : RE) : RI := fun ρ E Q => re ρ E fun d ρ' => match d with
  | .tup false ds => Q ds ρ'
  | .ro true ds => Q ds ρ'
  | _ => False
def RgOk (lo hi : Int) : Prop := (-1000000 ≤ lo ∧ lo ≤ 1000000) ∧ (-1000000 ≤ hi ∧ hi ≤ 1000000)
def rgD (lo hi : Int) : List D := (List.range (hi - lo).toNat).map fun (i : Nat) => D.int (lo + (i : Int))
def rRg1 (ra : RA) : RI := fun ρ E Q => ra ρ E fun ads ρ' => onAds ρ' ads fun ds => match ds with
  | [.int n] => RgOk 0 n ∧ Q (rgD 0 n) ρ'
  | _ => False
def rRg2 (ra : RA) : RI := fun ρ E Q => ra ρ E fun ads ρ' => onAds ρ' ads fun ds => match ds with
  | [.int m, .int n] => RgOk m n ∧ Q (rgD m n) ρ'
  | _ => False
theorem it_list {K : PySem.W.Frag} {w : Wd} {a : Addr} {vs : List V} {ds : List D} (h : SqL K w.S a vs) (ho : ownL ds = false) (r : ∀ ℓ, RepL K w ds ℓ 0 vs) : ItOk K (Itl K a) ds w := by
  intro i w1 wf1 sm
  have hq : SqL K w1.H a vs := wf1.sh.seq (sm.seq h)
  refine ⟨fun d e => ?_, fun hl => ⟨vs, hq, by rw [(r []).length, hl]; exact Nat.le_refl _⟩⟩
  obtain ⟨v, ev, rv⟩ := (r []).get e
  have ho' : d.own = false := ownL_iff.mp ho d (List.mem_of_getElem? e)
  refine ⟨⟨vs, v, hq, ev⟩, fun x H' y => ?_⟩
  obtain ⟨rfl, y⟩ := y
  have := y vs hq
  rw [ev] at this; cases this
  exact ⟨w1, rfl, .refl wf1, ho', fun ℓ => rv.free sm d ho'⟩
theorem it_tup {K : PySem.W.Frag} {w : Wd} {a : Addr} {vs : List V} {ds : List D} (h : SqT K w.S a vs) (ho : ownL ds = false) (r : ∀ ℓ, RepL K w ds ℓ 0 vs) : ItOk K (Itt K a) ds w := by
  intro i w1 wf1 sm
  have hq : SqT K w1.H a vs := same_rdT wf1.sh (same_rdT sm h)
  refine ⟨fun d e => ?_, fun hl => ⟨vs, hq, by rw [(r []).length, hl]; exact Nat.le_refl _⟩⟩
  obtain ⟨v, ev, rv⟩ := (r []).get e
  have ho' : d.own = false := ownL_iff.mp ho d (List.mem_of_getElem? e)
  refine ⟨⟨vs, v, hq, ev⟩, fun x H' y => ?_⟩
  obtain ⟨rfl, y⟩ := y
  have := y vs hq
  rw [ev] at this; cases this
  exact ⟨w1, rfl, .refl wf1, ho', fun ℓ => rv.free sm d ho'⟩
theorem it_range {K : PySem.W.Frag} {w : Wd} {lo : Int} {n : Nat} : ItOk K (Itr lo n) ((List.range n).map fun (i : Nat) => D.int (lo + (i : Int))) w := by
  intro i w1 wf1 sm
  refine ⟨fun d e => ?_, fun hl => by rw [List.length_map, List.length_range] at hl; exact Nat.le_of_eq hl.symm⟩
  rw [List.getElem?_map] at e
  have hi : i < n := by
    cases q : (List.range n)[i]? with
    | none => rw [q] at e; cases e
    | some j => have := (List.getElem?_eq_some_iff.mp q).1; simpa using this
  rw [List.getElem?_range hi] at e
  cases e
  refine ⟨hi, fun x H' y => ?_⟩
  obtain ⟨rfl, rfl⟩ := y
  exact ⟨w1, rfl, .refl wf1, rfl, fun ℓ => rfl⟩
/-- an owned list at a temporary is frozen for the walk -/
theorem EndE.iceT {K : PySem.W.Frag} {τ : Nat} {w : Wd} {σ : Sl} {ρ : En} {d : D} {v : V} (hn : ρ.length < τ) (st : StE K w σ ρ) (r : Rep K w d [τ] v) :
    ∃ w', w'.H = w.H ∧ EndE K τ w σ ρ ρ w' ∧ ∀ ℓ, Rep K w' d.frz ℓ v := by
  refine ⟨w.ice fun ℓ => match ℓ with | h :: _ => h == τ | [] => false, rfl, ⟨rfl, st.to st.wf.ice (ice_same st.wf) fun i hi => ice_kept fun s => ?_, ⟨ice_same st.wf, fun a ℓ e ⟨h, s, e2, k⟩ => ?_⟩⟩, fun ℓ => ?_⟩
  · show ((i + 1) == τ) = false
    simp; omega
  · subst e2
    have := ice_kept (w := w) (ℓ := h :: s) (P := fun ℓ => match ℓ with | h :: _ => h == τ | [] => false) (fun t => by
      show (h == τ) = false
      simp; omega) a [] (by simpa using e)
    simpa using this
  · exact Rep.frz (w := w) (ice_same st.wf) d (ice_frz fun s => by show (τ == τ) = true; simp) r
section
variable {X : Cx} {W : WX} {tg e : Expr} {re : RE} {p pos : Pos}
theorem fi_list (h : FE X W e re) : FI X W tg e (rIt re) := by
  obtain ⟨t, q, k⟩ := h.ex
  refine ⟨_, pi_list q, fun τ w σ ρ E Q R hn st h hq hx => ?_⟩
  refine k τ w σ ρ E _ _ hn st h (fun d ρ1 w1 v h1 e1 r1 => ?_) hx
  split at h1
  · rename_i o ds
    have key : o.light = true → Q ds ρ1 → ∃ a, v = V.ref a ∧ (∃ xs, SqL X.K w1.H a xs) ∧ R (Itl X.K a) w1.H := fun ho h1 => by
      have hw := lst_sz r1
      obtain ⟨w2, e0, e2, r2⟩ := EndE.iceT (by rw [e1.len]; exact hn) e1.st r1
      have hf : (D.lst o ds).frz = .lst .ice ds := by cases o <;> first | rfl | cases ho
      rw [hf] at r2
      have r3 := r2 []
      simp only [Rep] at r3
      obtain ⟨a, vs, rfl, h2, hz, h3⟩ := r3
      have h2 : w2.S a = some (.lst vs) := h2
      rw [← e0]
      exact ⟨a, rfl, ⟨vs, SqL.of (e2.st.wf.sh _ _ h2)⟩, hq ds ρ1 w2 _ h1 hz.1 (e1.trans e2 (Nat.le_refl _)) (it_list (SqL.of h2) (hw.2 ho) (fun ℓ => h3.free (Same.refl _) ds (hw.2 ho)))⟩
    cases o with
    | deep => exact h1.elim
    | flat => exact key rfl h1
    | ice => exact key rfl h1
  · rename_i ds
    simp only [Rep] at r1
    obtain ⟨a, vs, rfl, h2, hz, h3⟩ := r1
    exact ⟨a, rfl, ⟨vs, e1.st.wf.sh.seq h2⟩, hq ds ρ1 w1 _ h1 hz.1 e1 (it_list h2 hz.2 (fun ℓ => h3.free (Same.refl _) ds hz.2))⟩
  · exact h1.elim
theorem fi_tup (h : FE X W e re) : FI X W tg e (rItT re) := by
  obtain ⟨t, q, k⟩ := h.ex
  refine ⟨_, pi_tup q, fun τ w σ ρ E Q R hn st h hq hx => ?_⟩
  refine k τ w σ ρ E _ _ hn st h (fun d ρ1 w1 v h1 e1 r1 => ?_) hx
  split at h1
  · rename_i ds
    have r1 : ∃ a vs, v = .ref a ∧ w1.S a = some (.tup vs) ∧ (ds.length ≤ sizeLine ∧ (false = false → ownL ds = false)) ∧ RepL X.K w1 ds [τ] 0 vs := by unfold Rep at r1; exact r1
    obtain ⟨a, vs, rfl, h2, hz, h3⟩ := r1
    exact ⟨a, rfl, ⟨vs, SqT.of (e1.st.wf.sh _ _ h2)⟩, hq ds ρ1 w1 _ h1 hz.1 e1 (it_tup (SqT.of h2) (hz.2 rfl) (fun ℓ => h3.free (Same.refl _) ds (hz.2 rfl)))⟩
  · rename_i ds
    simp only [Rep] at r1
    obtain ⟨a, vs, rfl, h2, hz, h3⟩ := r1
    exact ⟨a, rfl, ⟨vs, same_rdT e1.st.wf.sh h2⟩, hq ds ρ1 w1 _ h1 hz.1 e1 (it_tup h2 hz.2 (fun ℓ => h3.free (Same.refl _) ds hz.2))⟩
  · exact h1.elim
theorem rgD_len (lo hi : Int) : (rgD lo hi).length = (hi - lo).toNat := by unfold rgD; rw [List.length_map, List.length_range]
theorem fi_range1 {a : Expr} {ra : RA} (ha : FA X W [a] ra) (hm : X.mg "range" = none) (hg : Gl X "range" := by rfl) (hs : starEach [a] X.env = [(false, eval a X.env)] := by rfl) : FI X W tg (.Call (.Name "range" p) [a] [] pos) (rRg1 ra) := by
  obtain ⟨t, q, k⟩ := ha.ex
  refine ⟨_, pi_range1 hg hm q hs, fun τ w σ ρ E Q R hn st h hq hx => ?_⟩
  refine k τ w σ ρ E _ _ hn st h (fun ads ρ1 w1 vs h1 l1 e1 r1 => ?_) hx
  obtain ⟨ds, ed, h1⟩ := onAds_elim h1
  have ra := ads_any e1.st r1 ed
  split at h1
  · rename_i n
    obtain ⟨v, ℓ, rfl, r⟩ := reps1 ra
    simp only [Rep] at r
    subst r
    obtain ⟨⟨_, b1, b2⟩, h1⟩ := h1
    refine ⟨n, rfl, by omega, by omega, hq _ ρ1 w1 _ h1 (by rw [rgD_len, sizeLine_eq]; omega) e1 ?_⟩
    unfold rgD
    rw [Int.sub_zero]
    exact it_range
  · exact h1.elim
theorem fi_range2 {a b : Expr} {ra : RA} (ha : FA X W [a, b] ra) (hm : X.mg "range" = none) (hg : Gl X "range" := by rfl) (hs : starEach [a, b] X.env = [(false, eval a X.env), (false, eval b X.env)] := by rfl) (hs2 : starEach [b] X.env = [(false, eval b X.env)] := by rfl) : FI X W tg (.Call (.Name "range" p) [a, b] [] pos) (rRg2 ra) := by
  obtain ⟨t, q, k⟩ := ha.ex
  refine ⟨_, pi_range2 hg hm q hs hs2, fun τ w σ ρ E Q R hn st h hq hx => ?_⟩
  refine k τ w σ ρ E _ _ hn st h (fun ads ρ1 w1 vs h1 l1 e1 r1 => ?_) hx
  obtain ⟨ds, ed, h1⟩ := onAds_elim h1
  have ra := ads_any e1.st r1 ed
  split at h1
  · rename_i m n
    obtain ⟨v, u, ℓ, ℓ', rfl, r, r'⟩ := reps2 ra
    simp only [Rep] at r r'
    subst r; subst r'
    obtain ⟨⟨b0, b1⟩, h1⟩ := h1
    refine ⟨m, n, rfl, by omega, hq _ ρ1 w1 _ h1 (by rw [rgD_len, sizeLine_eq]; omega) e1 ?_⟩
    exact it_range
  · exact h1.elim
end
/-! ### for -/
def forR (body : D → RS) : List D → RS
  | [], ρ, _, F => F.nx ρ
  | d :: ds, ρ, E, F => ∃ G : Fin, body d ρ E G ∧ G.le (F.lp fun ρ' => forR body ds ρ' E F)
/-- (a door: what stands ahead of it is reckoned out no further) -/
structure ForG (body : D → RS) (ds : List D) (ρ : En) (E : EE) (F : Fin) : Prop where
  go : forR body ds ρ E F
def rFor (ri : RI) (rg : RG) (rb : RS) : RS := fun ρ E F => ri ρ E fun ds ρ1 => ForG (fun d ρ E F => rg d ρ fun ρ2 => rb ρ2 E F) ds ρ1 E F
/-- what a judgement may lean on at its start -/
abbrev LW := Wd → Sl → En → Prop
def SIL (K : PySem.W.Frag) (W : WX) (L : LW) (wi : TI) (ri : RI) : Prop :=
  ∀ (τ : Nat) (w : Wd) (σ : Sl) (ρ : En) (E : EE) (Q : List D → En → Prop) (R : It → Hp → Prop), L w σ ρ → ρ.length < τ → StE K w σ ρ → ri ρ E Q →
    (∀ ds ρ' w' J, Q ds ρ' → ds.length ≤ sizeLine → EndE K τ w σ ρ ρ' w' → ItOk K J ds w' → R J w'.H) → SX K W τ w σ ρ E → wi σ w.H R
def SEL (K : PySem.W.Frag) (W : WX) (L : LW) (t : TE) (r : RE) : Prop :=
  ∀ (τ : Nat) (w : Wd) (σ : Sl) (ρ : En) (E : EE) (Q : D → En → Prop) (Qv : VK), L w σ ρ → ρ.length < τ → StE K w σ ρ → r ρ E Q →
    (∀ d ρ' w' v, Q d ρ' → EndE K τ w σ ρ ρ' w' → Rep K w' d [τ] v → Qv v w'.H) → SX K W τ w σ ρ E → t σ w.H Qv
def SSL (K : PySem.W.Frag) (W : WX) (L : LW) (M : List Nat) (t : TS) (r : RS) : Prop :=
  ∀ (w : Wd) (σ : Sl) (ρ : En) (E : EE) (F : Fin) (D : Ends), L w σ ρ → StE K w σ ρ → r ρ E F → SF K W M w σ ρ E F D → t D σ w.H
section
variable {X : Cx} {W : WX} {M : List Nat} {pos : Pos}
theorem fs_forL (L : LW) (A : List Nat) {tg iter : Expr} {body : List Stmt} {ri : RI} {rg : RG} {rb : RS} (hp : PassesOwn (model X.prog X.w) X.A X.env X.xe) (hi : ∃ wi, PI X tg iter wi ∧ SIL X.K W L wi ri) (hg : FG X A tg rg) (hb : FSs X W M body rb) (hA : (M.all fun i => !A.contains i) = true) (hc : X.calm = true)
    (hs : ∀ x, foldedSetIterable iter X.env x = pure x) : ∃ t, PS X (.For tg iter body [] pos) t ∧ SSL X.K W L M t (rFor ri rg rb) := by
  obtain ⟨wi, p, k⟩ := hi
  obtain ⟨g, pg, kg⟩ := hg.ex
  obtain ⟨t, pb, kb⟩ := hb.ex
  refine ⟨_, ps_for hp hc p pg pb hs, fun w σ ρ E F D hL st h hf => ?_⟩
  refine k _ w σ ρ E _ _ hL (Nat.lt_succ_self _) st h (fun ds ρ1 w1 J h1 hz e1 io => ?_) hf.sx
  have es := e1.s (M := M) (Nat.lt_succ_self _)
  have hf1 := hf.then es
  refine ⟨fun i m σ' H' => m = ds.length - i ∧ i ≤ ds.length ∧ ∃ ρ' w', w'.H = H' ∧ forR (fun d ρ E F => rg d ρ fun ρ2 => rb ρ2 E F) (ds.drop i) ρ' E F ∧ EndS X.K M w1 σ ρ1 w' σ' ρ', ⟨_, rfl, Nat.zero_le _, ρ1, w1, rfl, h1.go, .refl e1.st⟩, ?_⟩
  rintro i m σ2 H2 ⟨rfl, hi2, ρ2, w2, rfl, h2, e2⟩
  obtain ⟨io1, io2⟩ := io i w2 e2.st.wf e2.ext.s
  by_cases hlt : i < ds.length
  · obtain ⟨go, yl⟩ := io1 _ (List.getElem?_eq_getElem hlt)
    rw [List.drop_eq_getElem_cons hlt] at h2
    obtain ⟨G, hbd, hle⟩ := h2
    refine .inr ⟨go, fun σ' H' => ∃ ρ' w', w'.H = H' ∧ forR (fun d ρ E F => rg d ρ fun ρ2 => rb ρ2 E F) (ds.drop (i + 1)) ρ' E F ∧ EndS X.K M w1 σ ρ1 w' σ' ρ', fun σ' H' h => ⟨ds.length - (i + 1), by omega, rfl, hlt, h⟩, fun x H' y => ?_⟩
    obtain ⟨w3, rfl, gr, ho, rx⟩ := yl x H' y
    have e3 := gr.end (τ := ρ2.length + 1) e2.st
    have e13 := e2.trans (e3.s (M := M) (Nat.lt_succ_self _))
    refine kg w3 σ2 ρ2 _ x _ _ ho rx e3.st hbd fun ρ4 w4 σ4 h4 e4 => ?_
    have e14 := e13.trans (e4.s hA)
    have hf4 := hf1.then e14
    exact kb w4 σ4 ρ4 E G _ e14.st h4 ⟨fun ρ' w' σ' q e => ⟨ρ', w', rfl, hle.nx _ q, e14.trans e⟩, fun d ρ' w' σ' v q e r => hf4.rt d ρ' w' σ' v (hle.rt _ _ q) e r, fun ρ' w' σ' q e => hf4.nx ρ' w' σ' (hle.bk _ q) e,
      fun ρ' w' σ' q e => ⟨ρ', w', rfl, hle.ct _ q, e14.trans e⟩, hf4.ex⟩
  · have : i = ds.length := by omega
    subst this
    rw [List.drop_length] at h2
    exact .inl ⟨io2 rfl, hf1.nx ρ2 w2 σ2 h2 e2⟩
theorem FI.toL {L : LW} {tg iter : Expr} {ri : RI} (hi : FI X W tg iter ri) : ∃ wi, PI X tg iter wi ∧ SIL X.K W L wi ri := by
  obtain ⟨wi, p, k⟩ := hi.ex
  exact ⟨wi, p, fun τ w σ ρ E Q R _ => k τ w σ ρ E Q R⟩
theorem fs_for (A : List Nat) {tg iter : Expr} {body : List Stmt} {ri : RI} {rg : RG} {rb : RS} (hp : PassesOwn (model X.prog X.w) X.A X.env X.xe) (hi : FI X W tg iter ri) (hg : FG X A tg rg) (hb : FSs X W M body rb) (hA : (M.all fun i => !A.contains i) = true := by rfl) (hc : X.calm = true := by rfl)
    (hs : ∀ x, foldedSetIterable iter X.env x = pure x := by intro _; rfl) : FS X W M (.For tg iter body [] pos) (rFor ri rg rb) := by
  obtain ⟨t, p, k⟩ := fs_forL (fun _ _ _ => True) A hp hi.toL hg hb hA hc hs
  exact ⟨t, p, fun w σ ρ E F D => k w σ ρ E F D trivial⟩
end
/-- a loop by what holds between its turns -/
theorem forR_inv {body : D → RS} {E : EE} {F : Fin} (I : Nat → En → Prop) : ∀ (ds : List D) (k : Nat) (ρ : En), I k ρ →
    (∀ i d ρ, ds[i]? = some d → I (k + i) ρ → body d ρ E (F.lp (I (k + i + 1)))) → (∀ ρ, I (k + ds.length) ρ → F.nx ρ) → forR body ds ρ E F
  | [], k, ρ, h0, _, hd => hd ρ h0
  | d :: ds, k, ρ, h0, hs, hd => by
    refine ⟨_, hs 0 d ρ rfl h0, fun ρ' h => ?_, fun _ _ h => h, fun _ h => h, fun ρ' h => ?_⟩
    all_goals
      refine forR_inv I ds (k + 1) ρ' h (fun i d' ρ2 e h2 => ?_) fun ρ2 h2 => hd ρ2 (by rw [List.length_cons, show k + (ds.length + 1) = k + 1 + ds.length by omega]; exact h2)
      have := hs (i + 1) d' ρ2 (by simpa using e) (by rw [show k + (i + 1) = k + 1 + i by omega]; exact h2)
      rw [show k + (i + 1) + 1 = k + 1 + i + 1 by omega] at this
      exact this
/-! ### list comprehensions -/
def E0D : EE := fun _ _ _ => False
def W0 : WX := fun _ _ _ _ => False
def wipeD (ρ : En) : List Nat → En
  | [] => ρ
  | v :: vs => (wipeD ρ vs).set v none
def backD (ρ0 ρ : En) : List Nat → En
  | [] => ρ
  | v :: vs => (backD ρ0 ρ vs).set v (match ρ0[v]? with
    | some (some d) => match d.own with
      | true => none
      | false => some d
    | _ => none)
/-- the kind of a list that has got one more part, or none -/
def kindR : Ow → Option D → Ow
  | o, none => o
  | o, some d => match d.own with
    | false => o
    | true => .deep
def compR (f : D → En → (Option D → En → Prop) → Prop) (vs : List Nat) : List D → En → Ow → List D → (Ow → List D → En → Prop) → Prop
  | [], ρ, k, acc, Q => Q k acc ρ
  | d :: ds, ρ, k, acc, Q => ∃ P : Option D → En → Prop, f d ρ P ∧ ∀ o ρ', P o ρ' → compR f vs ds (wipeD ρ' vs) (kindR k o) (acc ++ o.toList) Q
structure CompG (f : D → En → (Option D → En → Prop) → Prop) (vs : List Nat) (ds : List D) (ρ : En) (Q : Ow → List D → En → Prop) : Prop where
  go : compR f vs ds ρ .flat [] Q
def rComp (ri : RI) (rg : RG) (rt : RT) (re : RE) (vs : List Nat) : RE := fun ρ E Q => ri ρ E fun ds ρ1 => nf (wipeD ρ1 vs) fun ρ0 =>
  CompG (fun d ρ k => rg d ρ fun ρ2 => rt ρ2 E0D fun b ρ3 => (b = true → re ρ3 E0D fun y ρ4 => k (some y) ρ4) ∧ (b = false → k none ρ3)) vs ds ρ0 fun k ys ρ' => nf (backD ρ1 ρ' vs) (Q (.lst k ys))
def rYes : RT := fun ρ _ Q => Q true ρ
structure FTs (X : Cx) (W : WX) (ifs : List Expr) (r : RT) : Prop where
  ex : ∃ t, PTs X ifs t ∧ STt X.K W t r
section
variable {X : Cx} {W : WX}
theorem fts_nil : FTs X W [] rYes := ⟨_, pts_nil, fun τ w σ ρ E Q Qv hn st h hq hx => hq true ρ w h (.refl st)⟩
theorem fts_one {c : Expr} {r : RT} (h : FT X W c r) : FTs X W [c] r := by
  obtain ⟨t, p, k⟩ := h.ex
  exact ⟨_, pts_one p, k⟩
end
theorem wipeD_len (ρ : En) : ∀ vs, (wipeD ρ vs).length = ρ.length
  | [] => rfl
  | v :: vs => by unfold wipeD; rw [List.length_set, wipeD_len ρ vs]
theorem wipeD_some {ρ : En} {i : Nat} {d : D} : ∀ {vs : List Nat}, (wipeD ρ vs)[i]? = some (some d) → ρ[i]? = some (some d) ∧ i ∉ vs
  | [], h => ⟨h, by simp⟩
  | v :: vs, h => by
    unfold wipeD at h
    by_cases hi : v = i
    · subst hi
      by_cases hv : v < (wipeD ρ vs).length
      · rw [List.getElem?_set_self hv] at h; cases h
      · rw [List.getElem?_eq_none (by simpa using hv)] at h; cases h
    · rw [List.getElem?_set_ne hi] at h
      obtain ⟨h1, h2⟩ := wipeD_some h
      exact ⟨h1, by simp only [List.mem_cons, not_or]; exact ⟨fun e => hi e.symm, h2⟩⟩
theorem backD_len (ρ0 ρ : En) : ∀ vs, (backD ρ0 ρ vs).length = ρ.length
  | [] => rfl
  | v :: vs => by unfold backD; rw [List.length_set, backD_len ρ0 ρ vs]
theorem backD_some {ρ0 ρ : En} {i : Nat} {d : D} : ∀ {vs : List Nat}, (backD ρ0 ρ vs)[i]? = some (some d) → (i ∉ vs ∧ ρ[i]? = some (some d)) ∨ (i ∈ vs ∧ ρ0[i]? = some (some d) ∧ d.own = false)
  | [], h => .inl ⟨by simp, h⟩
  | v :: vs, h => by
    unfold backD at h
    by_cases hi : v = i
    · subst hi
      by_cases hv : v < (backD ρ0 ρ vs).length
      · rw [List.getElem?_set_self hv] at h
        have h : (match ρ0[v]? with | some (some d) => (match d.own with | true => none | false => some d) | _ => none) = some d := Option.some.inj h
        split at h
        · rename_i d' e
          split at h
          · cases h
          · rename_i ho
            cases h
            exact .inr ⟨List.mem_cons_self, e, ho⟩
        · cases h
      · rw [List.getElem?_eq_none (by simpa using hv)] at h; cases h
    · rw [List.getElem?_set_ne hi] at h
      rcases backD_some h with ⟨h1, h2⟩ | ⟨h1, h2⟩
      · exact .inl ⟨by simp only [List.mem_cons, not_or]; exact ⟨fun e => hi e.symm, h1⟩, h2⟩
      · exact .inr ⟨List.mem_cons_of_mem _ h1, h2⟩
theorem StE.wipe {K : PySem.W.Frag} {w : Wd} {σ : Sl} {ρ : En} (st : StE K w σ ρ) (vs : List Nat) : StE K w (L2.wipe σ vs) (wipeD ρ vs) :=
  ⟨st.wf, by rw [wipe_length, wipeD_len]; exact st.len, fun i d e => by
    obtain ⟨e1, hn⟩ := wipeD_some e
    obtain ⟨v, e2, r⟩ := st.rep i d e1
    exact ⟨v, by rw [wipe_out hn]; exact e2, r⟩⟩
theorem wipe_eq {σ σ' : Sl} {vs : List Nat} (hl : σ'.length = σ.length) (h : ∀ i, i ∉ vs → σ'[i]? = σ[i]?) : L2.wipe σ' vs = L2.wipe σ vs := by
  have at1 : ∀ (τ : Sl) (i : Nat) (vs : List Nat), i ∈ vs → i < τ.length → (L2.wipe τ vs)[i]? = some none := by
    intro τ i vs
    induction vs with
    | nil => intro h; cases h
    | cons v vs ih =>
      intro h hi
      unfold L2.wipe
      by_cases hv : v = i
      · subst hv
        exact List.getElem?_set_self (by rw [wipe_length]; exact hi)
      · rw [List.getElem?_set_ne hv]
        rcases List.mem_cons.mp h with e | h
        · exact absurd e.symm hv
        · exact ih h hi
  apply List.ext_getElem?
  intro i
  by_cases hi : i ∈ vs
  · by_cases hl2 : i < σ.length
    · rw [at1 σ' i vs hi (by omega), at1 σ i vs hi hl2]
    · rw [List.getElem?_eq_none (by rw [wipe_length]; omega), List.getElem?_eq_none (by rw [wipe_length]; omega)]
  · rw [wipe_out hi, wipe_out hi, h i hi]
theorem wipe_wipe (σ : Sl) (vs : List Nat) : L2.wipe (L2.wipe σ vs) vs = L2.wipe σ vs := wipe_eq (by rw [wipe_length]) fun i hi => wipe_out hi
/-- an object changed -/
def Wd.put (w : Wd) (a : Addr) (o : HO) : Wd := ⟨w.G, w.S, upd w.H a o⟩
theorem Wf.put {w : Wd} (h : Wf w) {a : Addr} {ℓ : Loc} (ht : w.G a = some ℓ) {o : HO} (m : Mut (some o)) : Wf (w.put a o) := by
  refine ⟨fun b u e => ?_, fun b k e => ?_⟩
  · have e' : w.S b = some u := e
    have : b ≠ a := fun z => by rw [z, (h.tg a ℓ ht).1] at e'; cases e'
    show upd w.H a o b = some u
    rw [upd_ne this]; exact h.sh b u e
  · refine ⟨(h.tg b k e).1, ?_⟩
    show Mut (upd w.H a o b)
    by_cases hb : b = a
    · subst hb; rw [upd_same]; exact m
    · rw [upd_ne hb]; exact (h.tg b k e).2
theorem put_kept {w : Wd} {a : Addr} {ℓ k : Loc} (ht : w.G a = some ℓ) {o : HO} (hk : ∀ s, k ++ s ≠ ℓ) : KeptTo w (w.put a o) k k := fun b s e => ⟨e, by
  have : b ≠ a := fun z => by subst z; rw [ht] at e; cases e; exact hk s rfl
  exact upd_ne this⟩
/-- the temporary τ + 1 becomes the j-th child of τ -/
def joinT (τ j : Nat) : Loc → Option Loc
  | h :: s => if h = τ + 1 then some (τ :: j :: s) else some (h :: s)
  | [] => some []
theorem joinT_calm {n τ j : Nat} (h : n < τ) : Calm n τ (joinT τ j) := ⟨fun a s q => by
  show (if _ then _ else _) = _
  rw [if_neg (by omega)]⟩
section
variable {X : Cx} {W : WX}
abbrev BlkC := Shared × Hp × Addr × List (Str × Addr) × List Addr
abbrev Cx.blkC (X : Cx) (scope : Scope) (c : BlkC) : Cx := X.blk c.1 c.2.1 scope (compEnvC scope c.2.2.2.1 c.2.2.1 X.env) c.2.2.2.2
theorem lc_exL (L : LW) (vs : List Nat) {elt tg iter : Expr} {ifs : List Expr} {scope : Scope} {ri : RI} {rg : RG} {rt : RT} {re : RE} (hi : ∃ wi, PI X tg iter wi ∧ SIL X.K W L wi ri)
    (hg : ∀ c : BlkC, FG (Cx.blkC X scope c) vs tg rg) (ht : ∀ c : BlkC, FTs (Cx.blkC X scope c) W0 ifs rt) (he : ∀ c : BlkC, FE (Cx.blkC X scope c) W0 elt re) :
    ∃ (wi : TI) (g : TG) (tt : TT) (te : TE), PI X tg iter wi ∧ (∀ c : BlkC, PG (Cx.blkC X scope c) tg g) ∧ (∀ c : BlkC, PTs (Cx.blkC X scope c) ifs tt) ∧ (∀ c : BlkC, PE (Cx.blkC X scope c) elt te) ∧ SEL X.K W L (tLc wi g tt te vs) (rComp ri rg rt re vs) := by
  obtain ⟨wi, p, k⟩ := hi
  let g : TG := fun v σ H Q => ∀ c, Classical.choose (hg c).ex v σ H Q
  let tt : TT := fun σ H Q => ∀ c, Classical.choose (ht c).ex σ H Q
  let te : TE := fun σ H Q => ∀ c, Classical.choose (he c).ex σ H Q
  have pg : ∀ c, PG (Cx.blkC X scope c) tg g := fun c => ⟨fun pins s σ H v u Q I r h => (Classical.choose_spec (hg c).ex).1.run pins s σ H v u Q I r (h c)⟩
  have sg : SG X.K vs g rg := fun w σ ρ d v Q Qg ho hr st h hq c => (Classical.choose_spec (hg c).ex).2 w σ ρ d v Q Qg ho hr st h hq
  have pt : ∀ c, PTs (Cx.blkC X scope c) ifs tt := fun c => ⟨fun pins s σ H Q I h => (Classical.choose_spec (ht c).ex).1.run pins s σ H Q I (h c)⟩
  have stt : STt X.K W0 tt rt := fun τ w σ ρ E Q Qv hn st h hq hx c => (Classical.choose_spec (ht c).ex).2 τ w σ ρ E Q Qv hn st h hq hx
  have pe : ∀ c, PE (Cx.blkC X scope c) elt te := fun c => ⟨fun pins s σ H Q I h => (Classical.choose_spec (he c).ex).1.run pins s σ H Q I (h c)⟩
  have ste : SE X.K W0 te re := fun τ w σ ρ E Q Qv hn st h hq hx c => (Classical.choose_spec (he c).ex).2 τ w σ ρ E Q Qv hn st h hq hx
  refine ⟨wi, g, tt, te, p, pg, pt, pe, fun τ w σ ρ E Q Qv hL hn st h hq hx => ?_⟩
  refine k τ w σ ρ E _ _ hL hn st h (fun ds ρ1 w1 J h1 hz e1 io => ?_) hx
  simp only [nf_eq] at h1
  replace h1 := h1.go
  intro L nL
  have hn1 : ρ1.length < τ := by rw [e1.len]; exact hn
  have s0 := e1.st.wipe vs
  have eo : EndE X.K τ w1 (L2.wipe σ vs) (wipeD ρ1 vs) (wipeD ρ1 vs) (w1.new L [τ] (.lst [])) ∧ Rep X.K (w1.new L [τ] (.lst [])) (.lst .deep []) [τ] (.ref L) := EndE.own .deep s0 nL (by simp [RepL]) (Nat.zero_le _) (fun z => nomatch z) rfl
  refine ⟨fun i m H' => m = ds.length - i ∧ i ≤ ds.length ∧ ∃ ρ' w' kd acc, w'.H = H' ∧ ρ'.length = ρ1.length ∧ StE X.K w' (L2.wipe σ vs) ρ' ∧ Ext ρ1.length τ w1 w' ∧ Rep X.K w' (.lst .deep acc) [τ] (.ref L) ∧ (kd.mine = true ∧ Lt kd acc) ∧ acc.length ≤ i ∧
    compR (fun d ρ k => rg d ρ fun ρ2 => rt ρ2 E0D fun b ρ3 => (b = true → re ρ3 E0D fun y ρ4 => k (some y) ρ4) ∧ (b = false → k none ρ3)) vs (ds.drop i) ρ' kd acc fun k ys ρ' => Q (.lst k ys) (backD ρ1 ρ' vs),
    ⟨_, rfl, Nat.zero_le _, _, _, .flat, [], rfl, wipeD_len _ _, eo.1.st, by have := eo.1.ext; rw [wipeD_len] at this; exact this, eo.2, ⟨rfl, fun _ => rfl⟩, Nat.zero_le _, h1⟩, ?_⟩
  rintro i m H2 ⟨rfl, hi2, ρ2, w2, kd, acc, rfl, l2, st2, x2, r2, kl, al, h2⟩
  obtain ⟨io1, io2⟩ := io i w2 st2.wf x2.s
  by_cases hlt : i < ds.length
  · obtain ⟨go, yl⟩ := io1 _ (List.getElem?_eq_getElem hlt)
    rw [List.drop_eq_getElem_cons hlt] at h2
    obtain ⟨P, hb, hP⟩ := h2
    refine .inr ⟨go, fun H' => ∃ ρ' w' kd acc, w'.H = H' ∧ ρ'.length = ρ1.length ∧ StE X.K w' (L2.wipe σ vs) ρ' ∧ Ext ρ1.length τ w1 w' ∧ Rep X.K w' (.lst .deep acc) [τ] (.ref L) ∧ (kd.mine = true ∧ Lt kd acc) ∧ acc.length ≤ i + 1 ∧
      compR (fun d ρ k => rg d ρ fun ρ2 => rt ρ2 E0D fun b ρ3 => (b = true → re ρ3 E0D fun y ρ4 => k (some y) ρ4) ∧ (b = false → k none ρ3)) vs (ds.drop (i + 1)) ρ' kd acc fun k ys ρ' => Q (.lst k ys) (backD ρ1 ρ' vs),
      fun H' h => ⟨ds.length - (i + 1), by omega, rfl, hlt, h⟩, fun x H' y => ?_⟩
    obtain ⟨w3, rfl, gr, ho, rx⟩ := yl x H' y
    have e3 := gr.end (τ := τ + 1) st2
    refine sg w3 (L2.wipe σ vs) ρ2 _ x _ _ ho rx e3.st hb fun ρ4 w4 σ4 h4 e4 => ?_
    have hw4 : L2.wipe σ4 vs = L2.wipe σ vs := by
      have l4 : σ4.length = (L2.wipe σ vs).length := by rw [e4.st.len, e4.len, ← e3.st.len]
      rw [wipe_eq l4 e4.off, wipe_wipe]
    refine ⟨hw4, ?_⟩
    have l4 : ρ4.length = ρ1.length := by rw [e4.len, l2]
    have x4 : Ext ρ1.length (τ + 1) w2 w4 := by
      have a := e3.ext
      have b := e4.ext (τ + 1)
      rw [l2] at a b
      exact a.trans b
    refine stt (τ + 1) w4 σ4 ρ4 E0D _ _ (by omega) e4.st h4 (fun b ρ5 w5 h5 e5 => ?_) (fun c fs ρ' w' d h => h.elim)
    have x5 : Ext ρ1.length (τ + 1) w2 w5 := x4.trans (by have := e5.ext; rw [l4] at this; exact this)
    have l5 : ρ5.length = ρ1.length := e5.len.trans l4
    have again : ∀ {ρ6 : En} {w6 : Wd} {kd' : Ow} {acc' : List D}, ρ6.length = ρ1.length → StE X.K w6 σ4 ρ6 → Ext ρ1.length τ w1 w6 → Rep X.K w6 (.lst .deep acc') [τ] (.ref L) → (kd'.mine = true ∧ Lt kd' acc') → acc'.length ≤ i + 1 → compR (fun d ρ k => rg d ρ fun ρ2 => rt ρ2 E0D fun b ρ3 => (b = true → re ρ3 E0D fun y ρ4 => k (some y) ρ4) ∧ (b = false → k none ρ3)) vs (ds.drop (i + 1)) (wipeD ρ6 vs) kd' acc' (fun k ys ρ' => Q (.lst k ys) (backD ρ1 ρ' vs)) →
        ∃ ρ' w' kd acc, w'.H = w6.H ∧ ρ'.length = ρ1.length ∧ StE X.K w' (L2.wipe σ vs) ρ' ∧ Ext ρ1.length τ w1 w' ∧ Rep X.K w' (.lst .deep acc) [τ] (.ref L) ∧ (kd.mine = true ∧ Lt kd acc) ∧ acc.length ≤ i + 1 ∧
      compR (fun d ρ k => rg d ρ fun ρ2 => rt ρ2 E0D fun b ρ3 => (b = true → re ρ3 E0D fun y ρ4 => k (some y) ρ4) ∧ (b = false → k none ρ3)) vs (ds.drop (i + 1)) ρ' kd acc fun k ys ρ' => Q (.lst k ys) (backD ρ1 ρ' vs) :=
      fun {ρ6 w6 kd' acc'} a1 a2 a3 a4 a7 a5 a6 => ⟨wipeD ρ6 vs, w6, kd', acc', rfl, by rw [wipeD_len]; exact a1, by have := a2.wipe vs; rw [hw4] at this; exact this, a3, a4, a7, a5, a6⟩
    cases b with
    | false =>
      rw [if_neg Bool.false_ne_true]
      have q := hP none ρ5 (h5.2 rfl)
      rw [Option.toList_none, List.append_nil] at q
      exact again l5 e5.st (x2.trans (x5.mono (Nat.le_succ _))) (x5.rep (r := []) ⟨hn1, Nat.lt_succ_self _⟩ r2) kl (by omega) q
    | true =>
      rw [if_pos rfl]
      refine ste (τ + 1) w5 σ4 ρ5 E0D _ _ (by omega) e5.st (h5.1 rfl) (fun y ρ6 w6 v6 h6 e6 r6 => ?_) (fun c fs ρ' w' d h => h.elim)
      have x6 : Ext ρ1.length (τ + 1) w2 w6 := x5.trans (by have := e6.ext; rw [l5] at this; exact this)
      have l6 : ρ6.length = ρ1.length := e6.len.trans l5
      have ra : Rep X.K w6 (.lst .deep acc) [τ] (.ref L) := x6.rep (r := []) ⟨hn1, Nat.lt_succ_self _⟩ r2
      -- the element goes to its place
      have er : EndE X.K τ w6 σ4 ρ6 ρ6 (w6.ren (joinT τ acc.length)) := EndE.ren e6.st (joinT_calm (by omega))
      have ra2 : Rep X.K (w6.ren (joinT τ acc.length)) (.lst .deep acc) [τ] (.ref L) := ra.ren fun s => by
        show (if _ then _ else _) = _
        rw [if_neg (by omega)]; rfl
      have ry : Rep X.K (w6.ren (joinT τ acc.length)) y [τ, acc.length] v6 := r6.ren fun s => by
        show (if _ then _ else _) = _
        rw [if_pos rfl]; rfl
      simp only [Rep] at ra2
      obtain ⟨a, us, ea, tha, hza, rl⟩ := ra2
      cases ea
      obtain ⟨ta, ha⟩ := (show _ ∧ _ from tha)
      refine ⟨us, ha, by rw [rl.length]; omega, ?_⟩
      have kk : ∀ (h : Nat) (s t : Loc), h ≠ τ → h :: s ++ t ≠ [τ] := fun h s t e z => by
        have := congrArg List.head? z
        simp at this
        exact e this
      have ek : EndE X.K τ (w6.ren (joinT τ acc.length)) σ4 ρ6 ρ6 ((w6.ren (joinT τ acc.length)).put L (.lst (us ++ [v6]))) :=
        ⟨rfl, er.st.to (er.st.wf.put ta trivial) (Same.refl _) fun i hi => put_kept ta fun s => kk _ [] s (by omega), ⟨Same.refl _, fun b ℓ e ⟨h, s, e2, k⟩ => by
          subst e2
          have := put_kept (o := .lst (us ++ [v6])) ta (k := h :: s) (fun t => kk h s t (by omega)) b [] (by simpa using e)
          simpa using this⟩⟩
      have q := hP (some y) ρ6 h6
      refine again l6 ek.st ((x2.trans (x6.mono (Nat.le_succ _))).trans (by have a := er.ext; have b := ek.ext; rw [l6] at a b; exact a.trans b)) ?_ ?_ (by simp; omega) q
      rotate_left
      · show (kindR kd (some y)).mine = true ∧ Lt (kindR kd (some y)) (acc ++ [y])
        cases qy : y.own with
        | true =>
          have : kindR kd (some y) = .deep := by simp only [kindR, qy]
          rw [this]
          exact ⟨rfl, fun z => nomatch z⟩
        | false =>
          have : kindR kd (some y) = kd := by simp only [kindR, qy]
          rw [this]
          exact ⟨kl.1, fun z => by rw [ownL_append, kl.2 z]; simp [ownL, qy]⟩
      have ch : ∀ (j : Nat) (t : Loc), [τ] ++ [j] ++ t ≠ [τ] := fun j t z => by
        have := congrArg List.length z
        simp at this
      simp only [Rep]
      refine ⟨L, us ++ [v6], rfl, (show _ ∧ _ from ⟨ta, upd_same⟩), ⟨by simp; omega, fun z => nomatch z⟩, ?_⟩
      refine RepL.app (RepL.of rl.length fun j d v e1 e2 => ?_) (RepL.one ?_)
      · obtain ⟨v', e3, r⟩ := rl.get e1
        rw [e2] at e3; cases e3
        exact Rep.to (w := w6.ren (joinT τ acc.length)) (w' := (w6.ren (joinT τ acc.length)).put L (.lst (us ++ [v6]))) (Same.refl _) d (put_kept ta fun t => ch _ t) r
      · rw [Nat.zero_add]
        exact Rep.to (w := w6.ren (joinT τ acc.length)) (w' := (w6.ren (joinT τ acc.length)).put L (.lst (us ++ [v6]))) (Same.refl _) y (put_kept ta fun t => ch _ t) ry
  · have : i = ds.length := by omega
    subst this
    rw [List.drop_length] at h2
    refine .inl ⟨io2 rfl, hq _ _ w2 _ h2 ⟨by rw [backD_len, l2, e1.len], ⟨st2.wf, by rw [backD_len, l2]; exact e1.st.len, fun i d e => ?_⟩, e1.ext.trans (by have := x2; rw [e1.len] at this; exact this)⟩ ?_⟩
    rotate_left
    · simp only [Rep] at r2 ⊢
      obtain ⟨a, us, ea, tha, hza, rl⟩ := r2
      exact ⟨a, us, ea, by rw [if_pos kl.1]; exact tha, ⟨hza.1, kl.2⟩, rl⟩
    rcases backD_some e with ⟨h3, h4⟩ | ⟨h3, h4, h5⟩
    · obtain ⟨v, e5, r⟩ := st2.rep i d h4
      rw [wipe_out h3] at e5
      exact ⟨v, e5, r⟩
    · obtain ⟨v, e5, r⟩ := e1.st.rep i d h4
      exact ⟨v, e5, r.free x2.s d h5⟩
theorem lc_ex (vs : List Nat) {elt tg iter : Expr} {ifs : List Expr} {scope : Scope} {ri : RI} {rg : RG} {rt : RT} {re : RE} (hi : FI X W tg iter ri)
    (hg : ∀ c : BlkC, FG (Cx.blkC X scope c) vs tg rg) (ht : ∀ c : BlkC, FTs (Cx.blkC X scope c) W0 ifs rt) (he : ∀ c : BlkC, FE (Cx.blkC X scope c) W0 elt re) :
    ∃ (wi : TI) (g : TG) (tt : TT) (te : TE), PI X tg iter wi ∧ (∀ c : BlkC, PG (Cx.blkC X scope c) tg g) ∧ (∀ c : BlkC, PTs (Cx.blkC X scope c) ifs tt) ∧ (∀ c : BlkC, PE (Cx.blkC X scope c) elt te) ∧ SE X.K W (tLc wi g tt te vs) (rComp ri rg rt re vs) := by
  obtain ⟨wi, g, tt, te, p, pg, pt, pe, k⟩ := lc_exL (fun _ _ _ => True) vs hi.toL hg ht he
  exact ⟨wi, g, tt, te, p, pg, pt, pe, fun τ w σ ρ E Q Qv => k τ w σ ρ E Q Qv trivial⟩
theorem fe_lc (vs : List Nat) {elt tg iter : Expr} {ifs : List Expr} {scope : Scope} {own : List (Str × Nat)} {pos : Pos} {ri : RI} {rg : RG} {rt : RT} {re : RE} (hN : X.N.Nodup) (hi : FI X W tg iter ri) (ok : BlkOk X.N X.env.scope scope own)
    (hg : ∀ c : BlkC, FG (Cx.blkC X scope c) vs tg rg) (ht : ∀ c : BlkC, FTs (Cx.blkC X scope c) W0 ifs rt) (he : ∀ c : BlkC, FE (Cx.blkC X scope c) W0 elt re) (hv : own.map (·.2) = vs := by rfl) (hc : X.calm = true := by rfl) (hs : ∀ x, foldedSetIterable iter X.env x = pure x := by intro _; rfl) :
    FE X W (.ListComp elt [⟨tg, iter, ifs, 0⟩] scope pos) (rComp ri rg rt re vs) := by
  obtain ⟨wi, g, tt, te, p, pg, pt, pe, k⟩ := lc_ex vs hi hg ht he
  exact ⟨tLc wi g tt te vs, by rw [← hv]; exact pe_lc hc hN p ok (fun s H C cl fp => pg (s, H, C, cl, fp)) (fun s H C cl fp => pt (s, H, C, cl, fp)) (fun s H C cl fp => pe (s, H, C, cl, fp)) hs, k⟩
end
end FL
/-! FL9: places within owned trees, and what changes there. -/
namespace FL
open PySem PySem.Spec PyProof.Rows L2
/-- its parts are known to the letter -/
def D.seen : D → Bool
  | .ro _ _ => false
  | _ => true
def D.at : D → List Nat → Option D
  | d, [] => some d
  | d, j :: p => match d.kids[j]? with
    | some e => e.at p
    | none => none
def D.put : D → List Nat → D → D
  | _, [], e => e
  | d, j :: p, e => match d.kids[j]? with
    | some c => d.withKids (d.kids.set j (c.put p e))
    | none => d
section
variable {K : PySem.W.Frag} {w w' : Wd}
theorem kids_inner {d : D} {j : Nat} {e : D} (hj : d.kids[j]? = some e) : d.inner = true := by
  cases d <;> first | rfl | (simp [D.kids] at hj)
theorem withKids_inner {d : D} (es : List D) (h : d.inner = true) : (d.withKids es).inner = true := by cases d <;> first | exact h | rfl
theorem withKids_kids {d : D} (es : List D) (h : d.inner = true) : (d.withKids es).kids = es := by
  cases d <;> first | rfl | (simp [D.inner] at h)
theorem withKids_own {d : D} (es : List D) : (d.withKids es).own = d.own := by cases d <;> rfl
theorem nd_withKids {d : D} {es : List D} {ℓ : Loc} {a : Addr} {vs : List V} (h : Nd K w d ℓ a vs) : Nd K w (d.withKids es) ℓ a vs := by
  cases d <;> exact h
theorem sz_withKids {d : D} {es fs : List D} {n : Nat} (h : Sz d fs n) : Sz (d.withKids es) fs n := by
  cases d <;> exact h
theorem node_rep {d : D} {ℓ : Loc} {a : Addr} {vs : List V} {es : List D} (hi : d.inner = true) (h : Nd K w d ℓ a vs) (hz : Sz d es vs.length) (hl : RepL K w es ℓ 0 vs) : Rep K w (d.withKids es) ℓ (.ref a) := by
  rw [rep_inner (withKids_inner es hi), withKids_kids es hi]
  exact ⟨a, vs, rfl, nd_withKids h, sz_withKids hz, hl⟩
theorem ownL_set : ∀ {ds : List D} {j : Nat} {c e : D}, ownL ds = false → ds[j]? = some c → (e.own = true → c.own = true) → ownL (ds.set j e) = false
  | [], j, c, e, _, h, _ => by simp at h
  | d :: ds, 0, c, e, h, hj, k => by
    simp only [ownL, Bool.or_eq_false_iff] at h
    cases hj
    have : e.own = false := by
      cases q : e.own with
      | false => rfl
      | true => rw [k q] at h; exact absurd h.1 (by decide)
    simp only [List.set_cons_zero, ownL, this, h.2, Bool.or_self]
  | d :: ds, j + 1, c, e, h, hj, k => by
    simp only [ownL, Bool.or_eq_false_iff] at h
    simp only [List.set_cons_succ, ownL, h.1, Bool.false_or]
    exact ownL_set h.2 (by simpa using hj) k
theorem sz_set {d : D} {ds : List D} {j n : Nat} {c e : D} (h : Sz d ds n) (hj : ds[j]? = some c) (k : e.own = true → c.own = true) : Sz d (ds.set j e) n := by
  cases d <;> first
    | exact h.elim
    | exact ⟨by rw [List.length_set]; exact h.1, fun z => ownL_set (h.2 z) hj k⟩
    | exact ⟨by rw [List.length_set]; exact h.1, ownL_set h.2 hj k⟩
    | exact ⟨h.1, h.2.1, fun z => ownL_set (h.2.2 z) hj k⟩
    | exact ⟨h.1, fun z => ownL_set (h.2 z) hj k⟩
theorem zip_inj {α β : Type} {ks : List α} {vs vs' : List β} (h1 : ks.length = vs.length) (h2 : ks.length = vs'.length) (e : ks.zip vs = ks.zip vs') : vs = vs' := by
  have := congrArg (List.map Prod.snd) e
  rwa [List.map_snd_zip (by omega), List.map_snd_zip (by omega)] at this
theorem own_inj {o : Ow} {ℓ : Loc} {a : Addr} {u u' : HO} (h : if o.mine then w.G a = some ℓ ∧ w.H a = some u else w.S a = some u) (h' : if o.mine then w.G a = some ℓ ∧ w.H a = some u' else w.S a = some u') : u = u' := by
  cases e : o.mine with
  | true => rw [e] at h h'; exact Option.some.inj (h.2.symm.trans h'.2)
  | false => rw [e] at h h'; exact Option.some.inj (h.symm.trans h')
theorem own_injR {o : Ow} {ℓ : Loc} {a : Addr} {u u' : HO} (hu : ∀ ob x, u ≠ .frz ob x) (hu' : ∀ ob x, u' ≠ .frz ob x) (h : if o.mine then w.G a = some ℓ ∧ w.H a = some u else Rd w.S a u) (h' : if o.mine then w.G a = some ℓ ∧ w.H a = some u' else Rd w.S a u') : u = u' := by
  cases e : o.mine with
  | true => rw [e] at h h'; exact Option.some.inj (h.2.symm.trans h'.2)
  | false =>
    rw [e] at h h'
    rcases h with h | ⟨p, h⟩ <;> rcases h' with h' | ⟨p', h'⟩
    · exact Option.some.inj (h.symm.trans h')
    · exact absurd (Option.some.inj (h.symm.trans h')) (hu _ _)
    · exact absurd (Option.some.inj (h'.symm.trans h)) (hu' _ _)
    · have := Option.some.inj (h.symm.trans h'); injection this
theorem nd_inj {d : D} {ℓ : Loc} {a : Addr} {vs vs' : List V} (hs : d.seen = true) (h : Nd K w d ℓ a vs) (h' : Nd K w d ℓ a vs') (hz : Sz d d.kids vs'.length) (hl : vs.length = vs'.length) : vs = vs' := by
  cases d with
  | tup o ds => have := h.symm.trans h'; cases this; rfl
  | lst o ds => have := own_inj h h'; cases this; rfl
  | ro t ds => cases hs
  | dct o t ks ds =>
    have e := own_injR (fun ob x => by unfold dHO; split <;> intro z <;> cases z) (fun ob x => by unfold dHO; split <;> intro z <;> cases z) h h'
    have l1 : ks.length = vs'.length := hz.1
    cases t with
    | true => injection e with e; exact zip_inj (by simp; omega) (by simp; omega) e
    | false => injection e with e; exact zip_inj (by simp; omega) (by simp; omega) e
  | ins o C fs ds =>
    obtain ⟨dx, h⟩ := h
    obtain ⟨dx', h'⟩ := h'
    have l1 : fs.length = vs'.length := hz.1
    cases q : o.mine with
    | true =>
      rw [q] at h h'
      have := Option.some.inj (h.2.symm.trans h'.2)
      injection this with _ _ e
      exact zip_inj (by omega) l1 e
    | false =>
      rw [q] at h h'
      have := Option.some.inj (h.symm.trans h')
      injection this with _ _ e
      exact zip_inj (by omega) l1 e
  | _ => exact h.elim
/-- the value that stands at a path -/
inductive AtV (K : PySem.W.Frag) (w : Wd) : D → Loc → V → List Nat → D → V → Prop
  | here {d : D} {ℓ : Loc} {v : V} : AtV K w d ℓ v [] d v
  | down {d e : D} {ℓ : Loc} {a : Addr} {vs : List V} {j : Nat} {p : List Nat} {v u : V} {c : D} : d.seen = true → Nd K w d ℓ a vs → vs.length = d.kids.length → d.kids[j]? = some c → vs[j]? = some v → AtV K w c (ℓ ++ [j]) v p e u → AtV K w d ℓ (.ref a) (j :: p) e u
theorem AtV.at {d e : D} {ℓ : Loc} {v u : V} {p : List Nat} (h : AtV K w d ℓ v p e u) : d.at p = some e := by
  induction h with
  | here => rfl
  | down _ _ _ hk _ _ ih => simp only [D.at, hk]; exact ih
theorem node_vs {d : D} {ℓ : Loc} {a : Addr} {vs : List V} (hs : d.seen = true) (hi : d.inner = true) (hn : Nd K w d ℓ a vs) (hl : vs.length = d.kids.length) (r : Rep K w d ℓ (.ref a)) : Sz d d.kids vs.length ∧ RepL K w d.kids ℓ 0 vs := by
  rw [rep_inner hi] at r
  obtain ⟨a', vs', ea, hn', hz, rl⟩ := r
  cases ea
  obtain rfl := nd_inj hs hn hn' hz (hl.trans rl.length.symm)
  exact ⟨hz, rl⟩
theorem AtV.rep {d e : D} {ℓ : Loc} {v u : V} {p : List Nat} (h : AtV K w d ℓ v p e u) (r : Rep K w d ℓ v) : Rep K w e (ℓ ++ p) u := by
  induction h with
  | here => rw [List.append_nil]; exact r
  | @down d e ℓ a vs j p v u c hs hn hl hk hv _ ih =>
    obtain ⟨_, rl⟩ := node_vs hs (kids_inner hk) hn hl r
    obtain ⟨v1, e1, r1⟩ := rl.get hk
    rw [hv] at e1; cases e1
    have := ih (by rw [Nat.zero_add] at r1; exact r1)
    rw [List.append_assoc] at this
    exact this
theorem put_own : ∀ {p : List Nat} {d e e' : D}, d.at p = some e → (e'.own = true → e.own = true) → (d.put p e').own = true → d.own = true
  | [], d, e, e', h, k, z => by cases h; exact k z
  | j :: p, d, e, e', h, k, z => by
    simp only [D.at] at h
    cases hk : d.kids[j]? with
    | none => simp [hk] at h
    | some c => simp only [D.put, hk] at z; rw [withKids_own] at z; exact z
/-- the subtree at a path exchanged -/
theorem AtV.put {d e e' : D} {ℓ : Loc} {v u : V} {p : List Nat} (h : AtV K w d ℓ v p e u) (r : Rep K w d ℓ v) (hs : Same w.S w'.S) (ho : e'.own = true → e.own = true)
    (hk : ∀ a k, w.G a = some k → ℓ <+: k → ¬ (ℓ ++ p <+: k) → w'.G a = some k ∧ w'.H a = w.H a) (r' : Rep K w' e' (ℓ ++ p) u) : Rep K w' (d.put p e') ℓ v := by
  induction h with
  | here => rw [List.append_nil] at r'; simp only [D.put]; exact r'
  | @down d e ℓ a vs j p v u c hsn hn hl hkd hv hat ih =>
    obtain ⟨hz, hvs⟩ := node_vs hsn (kids_inner hkd) hn hl r
    have rc := (AtV.down hsn hn hl hkd hv .here : AtV K w d ℓ (.ref a) [j] c v).rep r
    have pre : ∀ k : Loc, ¬ (ℓ ++ (j :: p) <+: ℓ) := fun _ z => by
      have := z.length_le
      simp at this
      omega
    have hnw : Nd K w' d ℓ a vs := hn.later hs fun e1 => hk a ℓ e1 (List.prefix_refl _) (pre ℓ)
    simp only [D.put, hkd]
    refine node_rep (kids_inner hkd) hnw (sz_set hz hkd fun z => put_own hat.at ho z) ?_
    refine RepL.of (by rw [List.length_set]; exact hvs.length) fun i di vi e1 e2 => ?_
    rw [Nat.zero_add]
    by_cases hij : i = j
    · subst hij
      have hl := (List.getElem?_eq_some_iff.mp hkd).1
      rw [List.getElem?_set_self hl] at e1
      cases e1
      rw [hv] at e2; cases e2
      refine ih rc ho (fun b k hb h1 h2 => hk b k hb ((List.prefix_append ℓ [i]).trans h1) fun z => h2 (by rw [List.append_assoc]; exact z)) (by rw [List.append_assoc]; exact r')
    · rw [List.getElem?_set_ne (Ne.symm hij)] at e1
      obtain ⟨v1, e3, r1⟩ := hvs.get e1
      rw [e2] at e3; cases e3
      rw [Nat.zero_add] at r1
      refine r1.to hs di fun b s hb => hk b _ hb (by rw [List.append_assoc]; exact List.prefix_append _ _) fun z => ?_
      rw [List.append_assoc, List.prefix_append_right_inj] at z
      have := z
      simp only [List.singleton_append, List.cons_prefix_cons] at this
      exact hij this.1.symm
end
end FL
/-! FL10: lists changed in place. -/
namespace FL
open PySem PySem.Spec PyProof.Rows L2
/-- the temporary τ1 goes to L -/
def moveT (τ1 : Nat) (L : Loc) : Loc → Option Loc
  | h :: s => if h = τ1 then some (L ++ s) else some (h :: s)
  | [] => some []
section
variable {K : PySem.W.Frag} {w w' : Wd}
theorem moveT_ne {τ1 h : Nat} {L s : Loc} (e : h ≠ τ1) : moveT τ1 L (h :: s) = some (h :: s) := by
  show (if _ then _ else _) = _
  rw [if_neg e]
theorem moveT_at {τ1 : Nat} {L s : Loc} : moveT τ1 L (τ1 :: s) = some (L ++ s) := by
  show (if _ then _ else _) = _
  rw [if_pos rfl]
theorem Rep.mv {d : D} {h τ1 : Nat} {p L : Loc} {v : V} (r : Rep K w d (h :: p) v) (e : h ≠ τ1) : Rep K (w.ren (moveT τ1 L)) d (h :: p) v := r.ren fun s => moveT_ne e
theorem Rep.mvT {d : D} {τ1 : Nat} {L : Loc} {v : V} (r : Rep K w d [τ1] v) : Rep K (w.ren (moveT τ1 L)) d L v := r.ren fun s => moveT_at
/-- the object at a path of the tree at h0 is exchanged, a temporary taken up -/
theorem node_op {d0 dn d' : D} {h0 τ1 : Nat} {v0 : V} {p : List Nat} {a : Addr} {u : HO} {L : Loc} (r0 : Rep K w d0 [h0] v0) (at0 : AtV K w d0 [h0] v0 p dn (.ref a)) (hne : h0 ≠ τ1) (ta : w.G a = some (h0 :: p)) (ho : d'.own = true → dn.own = true)
    (r' : Rep K ((w.ren (moveT τ1 L)).put a u) d' (h0 :: p) (.ref a)) : Rep K ((w.ren (moveT τ1 L)).put a u) (d0.put p d') [h0] v0 := by
  refine at0.put r0 (Same.refl _) ho (fun b k hb h1 h2 => ?_) r'
  obtain ⟨t, rfl⟩ := h1
  have hb : w.G b = some (h0 :: t) := hb
  refine ⟨ren_at hb (moveT_ne hne), upd_ne fun z => ?_⟩
  subst z
  rw [ta] at hb
  injection hb with hb
  injection hb with _ hb
  exact h2 (by rw [hb]; exact List.prefix_refl _)
/-- the parts of a changed node -/
theorem parts_op {h0 τ1 : Nat} {p : List Nat} {ds : List D} {a : Addr} {vs : List V} {u : HO} {L : Loc} (hne : h0 ≠ τ1) (ta : w.G a = some (h0 :: p)) (rl : RepL K (w.ren (moveT τ1 L)) ds (h0 :: p) 0 vs) : RepL K ((w.ren (moveT τ1 L)).put a u) ds (h0 :: p) 0 vs := by
  have ta' : (w.ren (moveT τ1 L)).G a = some (h0 :: p) := ren_at ta (moveT_ne hne)
  refine RepL.of rl.length fun j d v e1 e2 => ?_
  obtain ⟨v2, e3, r⟩ := rl.get e1
  rw [e2] at e3; cases e3
  refine Rep.to (w := w.ren (moveT τ1 L)) (w' := (w.ren (moveT τ1 L)).put a u) (Same.refl _) d (put_kept ta' fun s z => ?_) r
  have := congrArg List.length z
  simp at this
/-- behind such a change: slot i has the new tree -/
theorem node_end {σ : Sl} {ρ : En} {i τ τ1 : Nat} {d0 dn d' : D} {v0 : V} {p : List Nat} {a : Addr} {u : HO} {L : Loc} (st : StE K w σ ρ) (hi : ρ[i]? = some (some d0)) (hv : σ[i]? = some (some v0)) (r0 : Rep K w d0 [i + 1] v0)
    (at0 : AtV K w d0 [i + 1] v0 p dn (.ref a)) (hτ : ρ.length < τ) (hτ1 : τ ≤ τ1) (ta : w.G a = some ((i + 1) :: p)) (hm : Mut (some u)) (ho : d'.own = true → dn.own = true)
    (r' : Rep K ((w.ren (moveT τ1 L)).put a u) d' ((i + 1) :: p) (.ref a)) :
    EndE K τ w σ ρ (ρ.set i (some (d0.put p d'))) ((w.ren (moveT τ1 L)).put a u) := by
  have hin := (List.getElem?_eq_some_iff.mp hi).1
  have r1 := node_op r0 at0 (show i + 1 ≠ τ1 by omega) ta ho r'
  have ta' : (w.ren (moveT τ1 L)).G a = some ((i + 1) :: p) := ren_at ta (moveT_ne (by omega))
  have wf : Wf ((w.ren (moveT τ1 L)).put a u) := (st.wf.ren _).put ta' hm
  have other : ∀ (h : Nat) (s : Loc) (b : Addr), w.G b = some (h :: s) → h ≠ i + 1 → h ≠ τ1 → ((w.ren (moveT τ1 L)).put a u).G b = some (h :: s) ∧ ((w.ren (moveT τ1 L)).put a u).H b = w.H b := fun h s b hb h1 h2 =>
    ⟨ren_at hb (moveT_ne h2), upd_ne fun z => by subst z; rw [ta] at hb; injection hb with hb; injection hb with hb _; exact h1 hb.symm⟩
  refine ⟨by rw [List.length_set], ⟨wf, by rw [List.length_set]; exact st.len, fun k d e => ?_⟩, ⟨Same.refl _, fun b ℓ e ⟨h, s, e2, q⟩ => ?_⟩⟩
  · by_cases hk : k = i
    · subst hk
      rw [List.getElem?_set_self hin] at e
      cases e
      exact ⟨v0, hv, r1⟩
    · rw [List.getElem?_set_ne (Ne.symm hk)] at e
      obtain ⟨v, e1, r⟩ := st.rep k d e
      have hkl := (List.getElem?_eq_some_iff.mp e).1
      exact ⟨v, e1, Rep.to (w := w) (w' := (w.ren (moveT τ1 L)).put a u) (Same.refl _) d (fun b s hb => other (k + 1) s b hb (by omega) (by omega)) r⟩
  · subst e2
    exact other h s b e (by omega) (by omega)
/-- an owned list at a path -/
theorem list_at {d0 : D} {h0 : Nat} {v0 u : V} {p : List Nat} {o : Ow} {ds : List D} (ho : o.mine = true) (r0 : Rep K w d0 [h0] v0) (at0 : AtV K w d0 [h0] v0 p (.lst o ds) u) : ∃ a us, u = .ref a ∧ w.G a = some (h0 :: p) ∧ w.H a = some (.lst us) ∧ (ds.length ≤ sizeLine ∧ Lt o ds) ∧ RepL K w ds (h0 :: p) 0 us := by
  have ra := at0.rep r0
  simp only [Rep] at ra
  obtain ⟨a, us, ea, th, hz, hl⟩ := ra
  rw [if_pos ho] at th
  obtain ⟨ta, ha⟩ := th
  exact ⟨a, us, ea, ta, ha, hz, hl⟩
theorem list_end {σ : Sl} {ρ : En} {i τ τ1 : Nat} {d0 : D} {v0 : V} {p : List Nat} {o o' : Ow} {ds ds' : List D} {a : Addr} {vs' : List V} {L : Loc} (ho : o.mine = true) (ho' : o'.mine = true) (st : StE K w σ ρ) (hi : ρ[i]? = some (some d0)) (hv : σ[i]? = some (some v0)) (r0 : Rep K w d0 [i + 1] v0)
    (at0 : AtV K w d0 [i + 1] v0 p (.lst o ds) (.ref a)) (hτ : ρ.length < τ) (hτ1 : τ ≤ τ1) (rl : RepL K (w.ren (moveT τ1 L)) ds' ((i + 1) :: p) 0 vs') (hz : ds'.length ≤ sizeLine) (hL : Lt o' ds') :
    EndE K τ w σ ρ (ρ.set i (some (d0.put p (.lst o' ds')))) ((w.ren (moveT τ1 L)).put a (.lst vs')) := by
  obtain ⟨a', us, ea, ta, ha, _, _⟩ := list_at ho r0 at0
  cases ea
  have hne : i + 1 ≠ τ1 := by have := (List.getElem?_eq_some_iff.mp hi).1; omega
  refine node_end st hi hv r0 at0 hτ hτ1 ta trivial (fun _ => ho) ?_
  simp only [Rep]
  exact ⟨a, vs', rfl, by rw [if_pos ho']; exact ⟨ren_at ta (moveT_ne hne), upd_same⟩, ⟨hz, hL⟩, parts_op hne ta rl⟩
theorem Lt.set {o : Ow} {ds : List D} (h : Lt o ds) {j : Nat} {d : D} : Lt (o.more d.own) (ds.set j d) := by
  cases q : d.own with
  | true => exact fun z => by cases o <;> cases z
  | false =>
      intro z
      have z : o.light = true := by cases o <;> exact z
      have h := h z
      rw [ownL_iff] at h ⊢
      intro e he
      rcases List.mem_or_eq_of_mem_set he with he | rfl
      · exact h e he
      · exact q
theorem Lt.app {o : Ow} {ds : List D} (h : Lt o ds) {d : D} : Lt (o.more d.own) (ds ++ [d]) := by
  cases q : d.own with
  | true => exact fun z => by cases o <;> cases z
  | false =>
      intro z
      have z : o.light = true := by cases o <;> exact z
      rw [ownL_append, h z]
      simp [ownL, q]
theorem more_mine {o : Ow} (h : o.mine = true) (b : Bool) : (o.more b).mine = true := by cases o <;> cases b <;> first | rfl | cases h
end
/-! ### a name's list -/
def onLst (ρ : En) (i : Nat) (k : Ow → List D → Prop) : Prop := match ρ[i]? with
  | some (some (.lst o ds)) => match o with
    | .ice => False
    | .flat => k .flat ds
    | .deep => k .deep ds
  | _ => False
theorem onLst_elim {ρ : En} {i : Nat} {k : Ow → List D → Prop} (h : onLst ρ i k) : ∃ o ds, ρ[i]? = some (some (.lst o ds)) ∧ o.mine = true ∧ k o ds := by
  unfold onLst at h
  split at h
  · rename_i o ds e
    cases o with
    | ice => exact h.elim
    | flat => exact ⟨_, _, e, rfl, h⟩
    | deep => exact ⟨_, _, e, rfl, h⟩
  · exact h.elim
def natAt (o : Option Nat) (Q : Nat → Prop) : Prop := match o with
  | some j => Q j
  | none => False
theorem natAt_of {o : Option Nat} {j : Nat} {Q : Nat → Prop} (h : o = some j) (q : Q j) : natAt o Q := by subst h; exact q
theorem natAt_elim {o : Option Nat} {Q : Nat → Prop} (h : natAt o Q) : ∃ j, o = some j ∧ Q j := by
  unfold natAt at h
  split at h
  · exact ⟨_, rfl, h⟩
  · exact h.elim
/-- x[k] = e -/
def rSetL (i : Nat) (rk : RO) (re : RE) : RS := fun ρ E F => re ρ E fun d ρ1 => oN i ρ1 E fun _ ρ1' => rk ρ1' E fun k ρ2 => on1 ρ2 k fun dk => onLst ρ2 i fun o ds => match dk with
  | .int n => natAt (ixN ds.length n) fun j => nf (ρ2.set i (some (.lst (o.more d.own) (ds.set j d)))) F.nx
  | _ => False
theorem ixN_lt {n : Nat} {k : Int} {j : Nat} (h : ixN n k = some j) : j < n := by
  unfold ixN at h
  split at h
  · split at h
    · cases h; omega
    · cases h
  · split at h
    · cases h; omega
    · cases h
theorem oN_elim {ρ : En} {i : Nat} {E : EE} {Q : AD → En → Prop} (h : oN i ρ E Q) : (∃ d, ρ[i]? = some (some d)) ∧ Q (.brw i) ρ := by
  unfold oN at h
  split at h
  · exact ⟨⟨_, by assumption⟩, h⟩
  · exact h.elim
section
variable {X : Cx} {W : WX} {M : List Nat} {pos pos' p2 apos : Pos}
theorem fs_setL (i : Nat) {x : Str} {k e : Expr} {rk : RO} {re : RE} (he : FE X W e re) (hk : FO X W k rk) (hN : X.N[i]? = some x := by rfl) (hv : Vis X.env.scope x := by first | exact Or.inl rfl | exact Or.inr (Or.inl rfl) | exact Or.inr (Or.inr rfl)) (hd : (x == ("__debug__" : Str)) = false := by decide)
    (hcd : (x == ("__classdict__" : Str)) = false := by decide) (ha : ∀ v, assign (.Subscript (.Name x p2) k pos') X.env v = (do
      let ov ← holding [v] (eval (.Name x p2) X.env)
      let iv ← holding [v, ov] (eval k X.env)
      standAt pos'
      holding [v, ov, iv] (setItem ov iv v)
      release [v, ov, iv] []) := by intro _; rfl) (hs : swapsWithSole [.Subscript (.Name x p2) k pos'] e pos.line X.env = pure false := by rfl) (hw : swappedStores [.Subscript (.Name x p2) k pos'] e X.env = pure none := by rfl)
    (h1 : (assignEach [.Subscript (.Name x p2) k pos'] X.env).map (·.2) = [assign (.Subscript (.Name x p2) k pos') X.env] := by rfl) : FS X W M (.Assign [.Subscript (.Name x p2) k pos'] e pos) (rSetL i rk re) := by
  obtain ⟨t, p, l⟩ := he.ex
  obtain ⟨t', p', l'⟩ := hk.ex
  refine ⟨_, ps_asg p (pg_sub (pe_var hN hv hd hcd) p' set_list ha) hs hw h1, fun w σ ρ E F D st h hf => ?_⟩
  refine l _ w σ ρ E _ _ (Nat.lt_succ_self _) st h (fun d ρ1 w1 v h1 e1 r1 => ?_) hf.sx
  obtain ⟨⟨d0, e0⟩, h1⟩ := oN_elim h1
  obtain ⟨v0, ev, _⟩ := e1.st.rep i d0 e0
  refine ⟨v0, ev, ?_⟩
  refine l' (ρ1.length + 2) w1 σ ρ1 E _ _ (by omega) e1.st h1 (fun ak ρ2 w2 vk h2 e2 r2 => ?_) (hf.sx.then e1 (by rw [e1.len]; omega))
  have e12 := e1.trans e2 (by rw [e1.len]; omega)
  obtain ⟨dk, ek, h2⟩ := on1_elim h2
  obtain ⟨o, ds, ed, ho, h2⟩ := onLst_elim h2
  obtain ⟨ℓ, rk⟩ := ad_get e12.st r2 ek
  obtain ⟨v0', ev', r0⟩ := e12.st.rep i _ ed
  rw [ev] at ev'; cases ev'
  obtain ⟨a, us, rfl, ta, ha, ⟨hz, hL⟩, rl⟩ := list_at ho r0 .here
  cases dk with
  | int n =>
    simp only [Rep] at rk
    subst rk
    obtain ⟨j, ej, h2⟩ := natAt_elim h2
    · have r1' : Rep X.K w2 d [ρ.length + 1] v := e2.ext.rep (r := []) (by rw [e1.len]; omega) r1
      refine ⟨a, us, n, j, rfl, rfl, ha, by rw [rl.length]; exact ej, ?_⟩
      have hj := ixN_lt ej
      have rr : RepL X.K (w2.ren (moveT (ρ.length + 1) ((i + 1) :: [] ++ [j]))) (ds.set j d) ((i + 1) :: []) 0 (us.set j v) := by
        have hin := (List.getElem?_eq_some_iff.mp ed).1
        rw [e12.len] at hin
        refine RepL.set (RepL.of rl.length fun q dq vq e3 e4 => ?_) ?_
        · obtain ⟨v3, e5, r3⟩ := rl.get e3
          rw [e4] at e5; cases e5
          exact r3.mv (by omega)
        · rw [Nat.zero_add]; exact r1'.mvT
      have ee := list_end (i := i) (τ := ρ.length + 1) (p := []) ho (more_mine ho d.own) e12.st ed ev r0 .here (by rw [e12.len]; omega) (Nat.le_refl _) rr (by rw [List.length_set]; exact hz) hL.set
      exact hf.nx _ _ σ (nf_of h2) ((e12.trans ee (Nat.le_refl _)).s (Nat.lt_succ_self _))
  | _ => exact h2.elim
/-- x.append(e) -/
def rApp (i : Nat) (re : RE) : RE := fun ρ E Q => onLst ρ i fun _ _ => re ρ E fun d ρ1 => onLst ρ1 i fun o ds => ds.length < sizeLine ∧ nf (ρ1.set i (some (.lst (o.more d.own) (ds ++ [d])))) (Q .non)
/-- x.extend(e), e a list whose items are frozen -/
def rExt (i : Nat) (re : RE) : RE := fun ρ E Q => onLst ρ i fun _ _ => re ρ E fun d ρ1 => onLst ρ1 i fun o ds => match d with
  | .lst o2 es => o2.light = true ∧ ds.length + es.length ≤ sizeLine ∧ nf (ρ1.set i (some (.lst o (ds ++ es)))) (Q .non)
  | _ => False
theorem tyL {K : PySem.W.Frag} {w : Wd} (wf : Wf w) {o : Ow} {ds : List D} {ℓ : Loc} {v : V} (h : Rep K w (.lst o ds) ℓ v) : tyV K "list" v w.H := by
  obtain ⟨a, us, rfl, ha, _⟩ := lst_at wf h
  exact .inl ⟨rfl, _, SqL.of ha⟩
/-- a method of the list at a name: what it leaves, what it hands back (lone items) -/
theorem set_self {ρ : En} {i : Nat} {d : D} (h : ρ[i]? = some (some d)) : ρ.set i (some d) = ρ := by
  have hi := (List.getElem?_eq_some_iff.mp h).1
  rw [List.getElem?_eq_getElem hi] at h
  have := Option.some.inj h
  rw [← this, List.set_getElem_self]
theorem fe_app (i : Nat) {x : Str} {e : Expr} {re : RE} (he : FE X W e re) (hN : X.N[i]? = some x := by rfl) (hv : Vis X.env.scope x := by first | exact Or.inl rfl | exact Or.inr (Or.inl rfl) | exact Or.inr (Or.inr rfl)) (hd : (x == ("__debug__" : Str)) = false := by decide)
    (hcd : (x == ("__classdict__" : Str)) = false := by decide) (hbase : attributeBase (.Name x p2) "append" X.env (eval (.Name x p2) X.env) = eval (.Name x p2) X.env := by rfl)
    (hfew : ((backTo pos (starEach [e] X.env)).all (fun x => !x.1) && (backToKw pos (keywordEach [] X.env)).all (fun x => x.1.isSome)
      && decide ([e].length + ([] : List Keyword).length + (if ([] : List Keyword).isEmpty then 0 else 1) < 30)) = true := by rfl)
    (hline : (apos.endLine == pos.line) = true := by rfl) (hs : starEach [e] X.env = (false, eval e X.env) :: starEach [] X.env := by rfl) (hplain : (backTo pos (starEach [] X.env)).any (·.1) = false := by rfl) :
    FE X W (.Call (.Attribute (.Name x p2) "append" apos) [e] [] pos) (rApp i re) := by
  obtain ⟨t, p, l⟩ := he.ex
  refine ⟨_, pe_bm PySem.F.plainAttrs_list PySem.F.slot_list_append PySem.F.type_list_append mt_append (pe_var hN hv hd hcd) (pa_cons p pa_nil hs) hbase hfew hline hs hplain, fun τ w σ ρ E Q Qv hn st h hq hx => ?_⟩
  obtain ⟨o0, ds0, e0, _, h⟩ := onLst_elim h
  obtain ⟨v0, ev, r00⟩ := st.rep i _ e0
  refine ⟨v0, ev, tyL st.wf r00, ?_⟩
  refine l τ w σ ρ E _ _ hn st h (fun d ρ1 w1 v h1 e1 r1 => ?_) hx
  obtain ⟨o, ds, ed, ho, hz, q⟩ := onLst_elim h1
  obtain ⟨v0', ev', r0⟩ := e1.st.rep i _ ed
  rw [ev] at ev'; cases ev'
  obtain ⟨a, us, rfl, ta, ha, ⟨hz0, hL⟩, rl⟩ := list_at ho r0 .here
  refine ⟨a, us, v, rfl, rfl, ha, by rw [rl.length]; exact hz, ?_⟩
  have hin := (List.getElem?_eq_some_iff.mp ed).1
  rw [e1.len] at hin
  have rr : RepL X.K (w1.ren (moveT τ ((i + 1) :: [] ++ [ds.length]))) (ds ++ [d]) ((i + 1) :: []) 0 (us ++ [v]) := by
    refine RepL.app (RepL.of rl.length fun q dq vq e3 e4 => ?_) (RepL.one ?_)
    · obtain ⟨v3, e5, r3⟩ := rl.get e3
      rw [e4] at e5; cases e5
      exact r3.mv (by omega)
    · rw [Nat.zero_add]; exact r1.mvT
  have ee := list_end (i := i) (τ := τ) (p := []) ho (more_mine ho d.own) e1.st ed ev r0 .here (by rw [e1.len]; exact hn) (Nat.le_refl _) rr (by rw [List.length_append]; exact hz) hL.app
  exact hq .non _ _ .non (nf_of q) (e1.trans ee (Nat.le_refl _)) rfl
theorem fe_ext (i : Nat) {x : Str} {e : Expr} {re : RE} (he : FE X W e re) (hN : X.N[i]? = some x := by rfl) (hv : Vis X.env.scope x := by first | exact Or.inl rfl | exact Or.inr (Or.inl rfl) | exact Or.inr (Or.inr rfl)) (hd : (x == ("__debug__" : Str)) = false := by decide)
    (hcd : (x == ("__classdict__" : Str)) = false := by decide) (hbase : attributeBase (.Name x p2) "extend" X.env (eval (.Name x p2) X.env) = eval (.Name x p2) X.env := by rfl)
    (hfew : ((backTo pos (starEach [e] X.env)).all (fun x => !x.1) && (backToKw pos (keywordEach [] X.env)).all (fun x => x.1.isSome)
      && decide ([e].length + ([] : List Keyword).length + (if ([] : List Keyword).isEmpty then 0 else 1) < 30)) = true := by rfl)
    (hline : (apos.endLine == pos.line) = true := by rfl) (hs : starEach [e] X.env = (false, eval e X.env) :: starEach [] X.env := by rfl) (hplain : (backTo pos (starEach [] X.env)).any (·.1) = false := by rfl) :
    FE X W (.Call (.Attribute (.Name x p2) "extend" apos) [e] [] pos) (rExt i re) := by
  obtain ⟨t, p, l⟩ := he.ex
  refine ⟨_, pe_bm PySem.F.plainAttrs_list PySem.F.slot_list_extend PySem.F.type_list_extend mt_extend (pe_var hN hv hd hcd) (pa_cons p pa_nil hs) hbase hfew hline hs hplain, fun τ w σ ρ E Q Qv hn st h hq hx => ?_⟩
  obtain ⟨o0, ds0, e0, _, h⟩ := onLst_elim h
  obtain ⟨v0, ev, r00⟩ := st.rep i _ e0
  refine ⟨v0, ev, tyL st.wf r00, ?_⟩
  refine l τ w σ ρ E _ _ hn st h (fun d ρ1 w1 v h1 e1 r1 => ?_) hx
  obtain ⟨o, ds, ed, ho, h1⟩ := onLst_elim h1
  cases d with
  | lst o2 es =>
    obtain ⟨ho2, hz, q⟩ := h1
    obtain ⟨v0', ev', r0⟩ := e1.st.rep i _ ed
    rw [ev] at ev'; cases ev'
    obtain ⟨a, us, rfl, ta, ha, ⟨hz0, hL⟩, rl⟩ := list_at ho r0 .here
    have hL2 : Lt o2 es := by
      simp only [Rep] at r1
      obtain ⟨_, _, _, _, hz2, _⟩ := r1
      exact hz2.2
    obtain ⟨b, ws, rfl, hb, rb⟩ := lst_at e1.st.wf r1
    refine ⟨a, b, us, ws, rfl, rfl, ha, hb, by rw [rl.length, rb.length]; exact hz, ?_⟩
    have hin := (List.getElem?_eq_some_iff.mp ed).1
    rw [e1.len] at hin
    have rr : RepL X.K (w1.ren (moveT τ ((i + 1) :: [] ++ [ds.length]))) (ds ++ es) ((i + 1) :: []) 0 (us ++ ws) := by
      refine RepL.app (RepL.of rl.length fun q dq vq e3 e4 => ?_) (RepL.free (w := w1) (w' := w1.ren (moveT τ ((i + 1) :: [] ++ [ds.length]))) (Same.refl _) es (hL2 ho2) rb)
      obtain ⟨v3, e5, r3⟩ := rl.get e3
      rw [e4] at e5; cases e5
      exact r3.mv (by omega)
    have ee := list_end (i := i) (τ := τ) (p := []) ho ho e1.st ed ev r0 .here (by rw [e1.len]; exact hn) (Nat.le_refl _) rr (by rw [List.length_append]; exact hz) (fun z => by rw [ownL_append, hL z, hL2 ho2]; rfl)
    exact hq .non _ _ .non (nf_of q) (e1.trans ee (Nat.le_refl _)) rfl
  | _ => exact h1.elim
end
end FL
/-! FL11: two names stored at once, a law's end, defs of the text. -/
namespace FL
open PySem PySem.Spec PyProof.Rows L2
/-- a, b = x, y -/
def rPar (i j : Nat) (ra : RA) : RS := fun ρ E F => ra ρ E fun ads ρ' => onVals ads fun ds => match ds with
  | [d, e] => nf ((ρ'.set i (some d.frz)).set j (some e.frz)) F.nx
  | _ => False
section
variable {X : Cx} {W : WX} {M : List Nat} {pos px py pt pt2 : Pos}
theorem StE.putI {K : PySem.W.Frag} {w : Wd} {σ : Sl} {ρ : En} (st : StE K w σ ρ) (i : Nat) {d : D} {v : V} (ho : d.own = false) (r : ∀ ℓ, Rep K w d ℓ v) (hM : M.contains i = false) : EndS K M w σ ρ (w.ren (dropT i)) (σ.set i (some v)) (ρ.set i (some d)) := by
  refine ⟨by rw [List.length_set], st.putF i ho r, ⟨Same.refl _, fun a ℓ e ⟨h, s, e2, k⟩ => ?_⟩, fun j hj => ?_⟩
  · by_cases hh : h = i + 1
    · subst e2
      subst hh
      rcases k with k | k
      · omega
      · by_cases hi : i < ρ.length
        · omega
        · exact absurd k.2 (by omega)
    · subst e2
      refine ⟨ren_at e ?_, rfl⟩
      show (if _ then _ else _) = _
      rw [if_neg hh]
  · have : j ≠ i := fun z => by
      subst z
      rw [List.contains_iff_mem.mpr hj] at hM; cases hM
    exact List.getElem?_set_ne (Ne.symm this)
theorem fs_par (i j : Nat) {x y : Str} {a b : Expr} {ra : RA} {kt k2 : Nat} (ha : FA X W [a, b] ra) (hN : X.N.Nodup) (hi : X.N[i]? = some x := by rfl) (hj : X.N[j]? = some y := by rfl) (hij : i ≠ j := by decide)
    (hx : X.env.scope.names.lookup x = some .local := by rfl) (hy : X.env.scope.names.lookup y = some .local := by rfl) (hMi : M.contains i = false := by rfl) (hMj : M.contains j = false := by rfl) (hc : X.calm = true := by rfl)
    (hw : swappedStores [.Tuple [.Name x px, .Name y py] kt pt] (.Tuple [a, b] k2 pt2) X.env = pure (some [x, y]) := by rfl)
    (hs : swapsWithSole [.Tuple [.Name x px, .Name y py] kt pt] (.Tuple [a, b] k2 pt2) pos.line X.env = pure false := by rfl) : FS X W M (.Assign [.Tuple [.Name x px, .Name y py] kt pt] (.Tuple [a, b] k2 pt2) pos) (rPar i j ra) := by
  obtain ⟨t, p, s⟩ := ha.ex
  refine ⟨_, ps_par hc hN hi hj hij hx hy p hw hs, fun w σ ρ E F D st h hf => ?_⟩
  refine s _ w σ ρ E _ _ (Nat.lt_succ_self _) st h (fun ads ρ1 w1 vs h1 l1 e1 r1 => ?_) hf.sx
  obtain ⟨ds, ev, q⟩ := onVals_elim h1
  obtain ⟨l2, l3, g⟩ := vals_at r1 ev
  match ds, vs, q, l2, g with
  | [d, e], [v, u], q, l2, g =>
    refine ⟨v, u, rfl, ?_⟩
    have rd := g 0 d v rfl rfl
    have re := g 1 e u rfl rfl
    -- both frozen
    have re2 : Rep X.K (w1.ice fun ℓ => match ℓ with | h :: _ => h == ρ.length + 1 || h == ρ.length + 2 | [] => false) e.frz [0] u := Rep.frz (w := w1) (ice_same e1.st.wf) e (ice_frz fun s => by simp) re
    have rd3 : Rep X.K (w1.ice fun ℓ => match ℓ with | h :: _ => h == ρ.length + 1 || h == ρ.length + 2 | [] => false) d.frz [0] v := Rep.frz (w := w1) (ice_same e1.st.wf) d (ice_frz fun s => by simp) rd
    have e3 : EndE X.K (ρ.length + 1) w1 σ ρ1 ρ1 (w1.ice fun ℓ => match ℓ with | h :: _ => h == ρ.length + 1 || h == ρ.length + 2 | [] => false) := by
      refine ⟨rfl, e1.st.to e1.st.wf.ice (ice_same e1.st.wf) fun i hi => ice_kept fun s => ?_, ⟨ice_same e1.st.wf, fun a ℓ e ⟨h, s, e2, k⟩ => ?_⟩⟩
      · have : ρ1.length = ρ.length := e1.len
        show (i + 1 == ρ.length + 1 || i + 1 == ρ.length + 2) = false
        simp; omega
      · subst e2
        have := ice_kept (w := w1) (ℓ := h :: s) (P := fun ℓ => match ℓ with | h :: _ => h == ρ.length + 1 || h == ρ.length + 2 | [] => false) (fun t => by
          have : ρ1.length = ρ.length := e1.len
          show (h == ρ.length + 1 || h == ρ.length + 2) = false
          simp; omega) a [] (by simpa using e)
        simpa using this
    have s1 := e3.st.putI (M := M) i (frz_own d) (fun ℓ => rd3.free (Same.refl _) _ (frz_own d)) hMi
    have s2 := s1.st.putI (M := M) j (frz_own e) (fun ℓ => Rep.free (w := w1.ice fun ℓ => match ℓ with | h :: _ => h == ρ.length + 1 || h == ρ.length + 2 | [] => false) s1.ext.s _ (frz_own e) re2) hMj
    exact hf.nx _ (((w1.ice fun ℓ => match ℓ with | h :: _ => h == ρ.length + 1 || h == ρ.length + 2 | [] => false).ren (dropT i)).ren (dropT j)) _ (nf_of q) ((((e1.trans e3 (Nat.le_refl _)).s (Nat.lt_succ_self _)).trans s1).trans s2)
end
/-- target = value, the value frozen -/
def rAsg (rg : RG) (re : RE) : RS := fun ρ E F => re ρ E fun d ρ' => rg d.frz ρ' F.nx
theorem fs_asg {X : Cx} {W : WX} {M : List Nat} {pos : Pos} (A : List Nat) {tg e : Expr} {rg : RG} {re : RE} (he : FE X W e re) (hg : FG X A tg rg) (hA : (M.all fun i => !A.contains i) = true := by rfl)
    (hs : swapsWithSole [tg] e pos.line X.env = pure false := by rfl) (hw : swappedStores [tg] e X.env = pure none := by rfl) (h1 : (assignEach [tg] X.env).map (·.2) = [assign tg X.env] := by rfl) : FS X W M (.Assign [tg] e pos) (rAsg rg re) := by
  obtain ⟨t, p, k⟩ := he.ex
  obtain ⟨g, pg, kg⟩ := hg.ex
  refine ⟨_, ps_asg p pg hs hw h1, fun w σ ρ E F D st h hf => ?_⟩
  refine k _ w σ ρ E _ _ (Nat.lt_succ_self _) st h (fun d ρ1 w1 v h1 e1 r1 => ?_) hf.sx
  obtain ⟨w2, e0, e2, r2⟩ := EndE.iceT (by rw [e1.len]; omega) e1.st r1
  have e12 := (e1.trans e2 (Nat.le_refl _)).s (M := M) (Nat.lt_succ_self _)
  rw [← e0]
  exact kg w2 σ ρ1 d.frz v _ _ (frz_own d) r2 e2.st h1 fun ρ' w' σ' q e => hf.nx ρ' w' σ' q (e12.trans (e.s hA))
/-- a def of the text, callable by its name -/
structure Df (K : PySem.W.Frag) (mg : Str → Option Value) (x : Str) (st : Stmt) (ps : List Str) (f : Addr) (fd : FuncData) : Prop where
  fn : Fun K x x st f fd
  mg : mg x = some (.ref f)
  b : Binds K fd ps []
def r_never : FSpec := fun _ _ _ => False
theorem FnOk_never {P : Program} {w : World} {K : PySem.W.Frag} {mg : Str → Option Value} {base : Heap} {CX : CXT} {k : Nat} {f : Addr} {fd : FuncData} {ps : List Str} {M : List Nat} : FnOk P w K mg base CX k f fd ps (FnD K ps.length M r_never) :=
  ⟨fun vs H Q E h => h.1, fun A outer s H args us vs Q E hr he hb hv hs => by obtain ⟨_, _, _, _, _, _, _, _, _, h, _⟩ := hs; exact h.elim⟩
/-- a law's end: what its def is given -/
theorem law_end {K : PySem.W.Frag} {H : Hp} {a : Addr} {ns : List Int} {r : FSpec} (hl : ns.length ≤ 63) (hs : SqL K H a (ns.map V.int)) (h : r [.ro false (ns.map D.int)] (fun _ _ _ => False) (fun d _ => d = .bl true)) :
    FnD K 1 [] r [V.ref a] H (fun v _ => v = V.bl true) (fun _ _ _ => False) := by
  refine ⟨rfl, ⟨fun _ => none, H, H⟩, [.ro false (ns.map D.int)], _, _, rfl, ⟨Same.refl _, fun _ _ h => nomatch h⟩, rfl, fun j d v e1 e2 => ?_, h, fun d os w' v q _ r => ?_, fun _ _ _ _ _ q _ _ => q⟩
  · cases j with
    | zero =>
      cases e1; cases e2
      simp only [Rep]
      refine ⟨a, _, rfl, hs, ⟨by rw [List.length_map, sizeLine_eq]; omega, ownL_iff.mpr fun d hd => by obtain ⟨n, _, rfl⟩ := List.mem_map.mp hd; rfl⟩, RepL.of (by rw [List.length_map, List.length_map]) fun i d v e1 e2 => ?_⟩
      rw [List.getElem?_map] at e1 e2
      cases q : ns[i]? with
      | none => rw [q] at e1; cases e1
      | some n => rw [q] at e1 e2; cases e1; cases e2; rfl
    | succ j => simp at e1
  · subst q
    exact r
theorem cx_none {P : Program} {w : World} {H : Hp} {s s' : Shared} {e : Value} (h : L2.CX P w [] H s (fun _ _ _ => False) e s') : False := by
  obtain ⟨_, _, _, _, _, _, _, _, _, _, _, _, z⟩ := h
  exact z
end FL
/-! FL12: isinstance, built-in types as values. -/
namespace FL
open PySem PySem.Spec PyProof.Rows L2
def tyOf : D → Option String
  | .non => some "NoneType"
  | .bl _ => some "bool"
  | .int _ => some "int"
  | .str _ => some "str"
  | .tup _ _ => some "tuple"
  | .lst _ _ => some "list"
  | .ro true _ => some "tuple"
  | .ro false _ => some "list"
  | .dct _ false _ _ => some "dict"
  | _ => none
def subTy (a b : String) : Bool := a == b || (a == "bool" && b == "int")
def tyKnown : List String := ["int", "bool", "str", "tuple", "list", "dict"]
def isTy (d : D) (n : String) : Option Bool := match tyOf d with
  | some a => if tyKnown.contains n then some (subTy a n) else none
  | none => none
theorem kit_known : ∀ a ∈ ["NoneType", "bool", "int", "str", "tuple", "list", "dict"], ∀ n ∈ tyKnown, kitB a n = some (subTy a n) := by decide +kernel
def dIsi : DC
  | [d, .ty n], Q => match isTy d n with
    | some b => Q (.bl b)
    | none => False
  | _, _ => False
theorem tyOf_rep {K : PySem.W.Frag} {w : Wd} (wf : Wf w) {d : D} {ℓ : Loc} {v : V} {a : String} (h : Rep K w d ℓ v) (e : tyOf d = some a) : TyX K w.H v (.type a) ∧ a ∈ ["NoneType", "bool", "int", "str", "tuple", "list", "dict"] := by
  cases d with
  | non => cases e; simp only [Rep] at h; subst h; exact ⟨.base .non, by decide⟩
  | bl b => cases e; simp only [Rep] at h; subst h; exact ⟨.base (.bl b), by decide⟩
  | int b => cases e; simp only [Rep] at h; subst h; exact ⟨.base (.int b), by decide⟩
  | str b => cases e; simp only [Rep] at h; subst h; exact ⟨.base (.str b), by decide⟩
  | tup o ds => cases e; obtain ⟨b, vs, rfl, h1, _⟩ := tup_at wf h; exact ⟨.base (.tup h1), by decide⟩
  | lst o ds => cases e; obtain ⟨b, vs, rfl, h1, _⟩ := lst_at wf h; exact ⟨.base (.lst h1), by decide⟩
  | ro t ds =>
    simp only [Rep] at h
    obtain ⟨b, vs, rfl, h1, _⟩ := h
    cases t with
    | true =>
      cases e
      refine ⟨?_, by decide⟩
      rcases same_rdT wf.sh h1 with (h1 | ⟨o, h1⟩) | ⟨o, _, _, h1, h2, _⟩
      · exact .base (.tup h1)
      · exact .fTuple h1
      · exact .kTuple h1 h2
    | false =>
      cases e
      refine ⟨?_, by decide⟩
      rcases wf.sh.seq h1 with (h1 | ⟨o, h1⟩) | ⟨o, _, _, h1, h2, _⟩
      · exact .base (.lst h1)
      · exact .base (.frz h1)
      · exact .kList h1 h2
  | dct o t ks ds =>
    cases t <;> cases e
    obtain ⟨b, vs, rfl, h1, _⟩ := dct_at wf h
    rcases h1 with h1 | ⟨o, h1⟩
    · exact ⟨.base (.dK h1), by decide⟩
    · exact ⟨.fDict h1, by decide⟩
  | _ => cases e
section
variable {X : Cx} {W : WX}
theorem fc_isi : FC X (.builtin "isinstance") dIsi := by
  refine ⟨_, call_isi, fun τ w σ ρ vs ds Q Qv hn st rs hd hq => ?_⟩
  unfold dIsi at hd
  split at hd
  · rename_i d n
    obtain ⟨v, u, ℓ, ℓ', rfl, r, r'⟩ := reps2 rs
    simp only [Rep] at r'
    subst r'
    unfold isTy at hd
    cases e : tyOf d with
    | none => simp only [e] at hd
    | some a =>
      simp only [e] at hd
      split at hd
      · rename_i b eb
        split at eb
        · rename_i hk
          cases eb
          obtain ⟨ty, hm⟩ := tyOf_rep st.wf r e
          exact ⟨v, .ty n, .type a, .type n, subTy a n, rfl, .ty n, ty, kit_ty (kit_known a hm n (by simpa using hk)), hq _ w _ hd (.refl st) rfl⟩
        · cases eb
      · exact hd.elim
  · exact hd.elim
theorem fe_ty {x : Str} {n : String} {pos : Pos} (hm : X.mg x = none) (hv : bootBuiltins x = some (.type n)) (hg : Gl X x := by rfl) (hn : x ≠ "__name__" := by decide) (hd : (x == ("__debug__" : Str)) = false := by decide) : FE X W (.Name x pos) (rC (.ty n)) :=
  ⟨_, pe_bltn (v := V.ty n) hg hm hv (show L2.RelV (V.ty n) (Value.type n) from rfl) hn hd, se_C fun _ _ => rfl⟩
end
end FL
/-! FL13: slices, repeated tuples, sums, lists of comprehensions stored. -/
namespace FL
open PySem PySem.Spec PyProof.Rows L2
/-! ### (..) * n where n is at most one -/
theorem int_rmul_tup1 (a : Int) (t : Tok) (l : Addr) (its : Array Value) (n : Nat) (dd : Option Addr) (sl : Array (Option Value)) : Meets (Builtin.«int.__rmul__» ⟨[.int a t, .ref l], []⟩) (fun _ R s =>
    s.heap.get? l = some { cls := .type "tuple", dict := dd, data := .seq its n, slots := sl } ∧ R (.ok (.ret Value.notImplemented)) s) :=
  .of_wp fun prog w A R s h => by
    obtain ⟨hp, g, d, tk, os⟩ := s
    obtain ⟨hl, h⟩ := h
    wp_walk using wpAny_loadPart' hl
    exact ⟨_, rfl, h⟩
theorem tup_mul_one (l : Addr) (its : Array Value) (n : Nat) (dd : Option Addr) (sl : Array (Option Value)) (u : Tok) : Meets (Builtin.«tuple.__mul__» ⟨[.ref l, .int 1 u], []⟩) (fun _ R s =>
    s.heap.get? l = some { cls := .type "tuple", dict := dd, data := .seq its n, slots := sl } ∧ R (.ok (.ret (Value.ref l))) s) :=
  .of_wp fun prog w A R s h => by
    obtain ⟨hp, g, d, tk, os⟩ := s
    obtain ⟨hl, h⟩ := h
    have f1 := AutoSeq1.idx_int
    have c1 : (its.isEmpty || (1 : Int) == 1) = true := by simp
    wp_walk using wpAny_loadPart' hl
    exact ⟨_, rfl, h⟩
theorem tup_mul_none (l : Addr) (its : Array Value) (n : Nat) (dd : Option Addr) (sl : Array (Option Value)) (x : Int) (u : Tok) (h0 : x ≤ 0) (h1 : -(2 ^ 63) ≤ x) (hi : its.isEmpty = false) : Meets (Builtin.«tuple.__mul__» ⟨[.ref l, .int x u], []⟩) (fun _ R s =>
    s.heap.get? l = some { cls := .type "tuple", dict := dd, data := .seq its n, slots := sl } ∧
      R (.ok (.ret (Value.ref s.heap.objs.size))) { s with heap := s.heap.push { cls := Value.type "tuple", data := Data.seq #[] }, toks := s.toks }) :=
  .of_wp fun prog w A R s h => by
    obtain ⟨hp, g, d, tk, os⟩ := s
    obtain ⟨hl, h⟩ := h
    have f1 := AutoSeq1.idx_int
    have c0 : (decide (x < -(2 ^ 63)) || decide (x ≥ 2 ^ 63)) = false := by rw [decide_eq_false (by omega), decide_eq_false (by omega)]; rfl
    have c1 : (its.isEmpty || x == 1) = false := by rw [hi, Bool.false_or]; exact beq_eq_false_iff_ne.mpr (by omega)
    have c2 : (decide (x ≤ 0) || its.isEmpty) = true := by rw [decide_eq_true h0]; rfl
    wp_walk using wpAny_loadPart' hl
    refine wpAny_ite_false (decide_eq_false (by rw [c0]; exact Bool.false_ne_true)) ?_
    wp_walk using wpAny_loadPart' hl
    refine wpAny_ite_false (decide_eq_false (by rw [c1]; exact Bool.false_ne_true)) ?_
    wp_walk using wpAny_loadPart' hl
    exact ⟨_, rfl, h⟩
def rRep1 (K : PySem.W.Frag) : R2 := fun x y H Q => ∃ l k xs, x = .ref l ∧ y = .int k ∧ SqT K H l xs ∧ xs ≠ [] ∧ -(2 ^ 63) ≤ k ∧ k ≤ 1 ∧ (k = 1 → Q (.ref l) H) ∧ (k ≤ 0 → ∀ p, H p = none → Q (.ref p) (upd H p (.tup [])))
section
variable {X : Cx}
theorem op_rep1 : OpR X (binaryOp .Mult) (rRep1 X.K) := by
  intro pins s σ H x y v u Q I rx ry hyp
  obtain ⟨l, k, xs, rfl, rfl, hT, hne, h1, h2, q1, q0⟩ := hyp
  cases rx
  obtain ⟨t, rfl⟩ := ry
  obtain ⟨its, r, ⟨⟨cls, dd, data, sl⟩, ho, hc, n, hd⟩, hs⟩ := I.tuple hT
  simp only at hc hd
  subst hc hd
  have hi : its.toArray.isEmpty = false := by
    cases its with
    | nil => exact absurd (List.eq_nil_of_length_eq_zero r.length) hne
    | cons a b => rfl
  have road : ∀ {Q' : Value → Shared → Prop}, wpAny (model X.prog X.w) X.A (call (.builtin "tuple.__mul__") [.ref l, .int k t]) Q' X.xe s → wpAny (model X.prog X.w) X.A (binaryOp .Mult (.ref l) (.int k t)) Q' X.xe s := fun g =>
    wpAny_binaryOp_repeat_ref (T := "tuple") (U := "int") (by decide) ⟨_, ho, rfl⟩ (fun s' => typeIs_int s' k t) noFill_tuple_mul F.fills_int_mul F.slot_int_rmul repeat_tuple F.slot_int_index.lookup
      (call_meets F.slot_int_rmul (typeIs_int s k t) F.entry_int_rmul (F.args_int_rmul_2 _ _) (int_rmul_tup1 k t l its.toArray n dd sl) ⟨ho, rfl, ⟨_, ho, rfl⟩, g⟩)
  refine road ?_
  by_cases hk : k = 1
  · subst hk
    exact call_meets F.slot_tuple_mul ⟨_, ho, rfl⟩ F.entry_tuple_mul (F.args_tuple_mul_2 _ _) (tup_mul_one l its.toArray n dd sl t) ⟨ho, ⟨.ref l, H, I, rfl, q1 rfl⟩⟩
  · have hk : k ≤ 0 := by omega
    refine call_meets F.slot_tuple_mul ⟨_, ho, rfl⟩ F.entry_tuple_mul (F.args_tuple_mul_2 _ _) (tup_mul_none l its.toArray n dd sl k t hk h1 hi) ⟨ho, ?_⟩
    exact ⟨.ref s.heap.objs.size, _, I.laid (t' := s.toks) (o := .tup []) (fun b ob e => Heap.get?_push_of_some _ e) (Nat.le_refl _) ⟨Nat.zero_le _, [], .nil, IsTup.new _ _⟩, rfl, q0 hk _ (I.hok.fresh (Nat.le_refl _))⟩
theorem rep_own {xs : List D} (h : ownL xs = false) (n : Nat) : ownL (List.replicate n xs).flatten = false := by
  rw [ownL_iff]
  intro d hd
  obtain ⟨l, hl, hd⟩ := List.mem_flatten.mp hd
  rw [(List.mem_replicate.mp hl).2] at hd
  exact ownL_iff.mp h d hd
theorem rep_reps {K : PySem.W.Frag} {w : Wd} {xs : List D} {vs : List V} {ℓ ℓ' : Loc} {j : Nat} (h : ownL xs = false) (r : RepL K w xs ℓ' j vs) : ∀ n : Nat, RepL K w (List.replicate n xs).flatten ℓ 0 (List.replicate n vs).flatten
  | 0 => by simp [RepL]
  | n + 1 => by
    rw [List.replicate_succ, List.replicate_succ, List.flatten_cons, List.flatten_cons]
    exact (RepL.free (Same.refl _) xs h r).app (RepL.free (Same.refl _) _ (rep_own h n) (rep_reps (ℓ := ℓ) h r n))
theorem fop_repT : FOp X (binaryOp .Mult) (fun a b Q => ∃ xs k, a = .tup false xs ∧ b = .int k ∧ (xs ≠ [] ∧ xs.length ≤ 1000 ∧ -(2 ^ 63) ≤ k ∧ k ≤ 1000) ∧ Q (.tup false (List.replicate k.toNat xs).flatten)) := by
  refine ⟨_, op_repT.or op_rep1, fun τ w σ ρ x y dx dy ℓ ℓ' Q Qv hn st rx ry hq hv => ?_⟩
  obtain ⟨xs, k, rfl, rfl, ⟨hne, hl, h1, h2⟩, q⟩ := hq
  have hx := (tup_sz rx).2 rfl
  have rx0 := rx
  obtain ⟨a, vs, rfl, e1, e2⟩ := tup_at st.wf rx
  simp only [Rep] at ry
  subst ry
  have hv0 : vs ≠ [] := fun z => by subst z; have := e2.length; exact hne (List.eq_nil_of_length_eq_zero this.symm)
  by_cases hk : 2 ≤ k
  · refine .inl ⟨a, k, vs, rfl, rfl, SqT.of e1, hv0, hk, h2, by rw [e2.length]; exact hl, fun p n => ?_⟩
    obtain ⟨e, r⟩ := EndE.tup (τ := τ) false st n (rep_reps (ℓ := [τ]) hx e2 k.toNat) (by rw [PyProof.Rows.lm_len_rep_flat, sizeLine_eq]; have := Nat.mul_le_mul (show k.toNat ≤ 1000 by omega) hl; omega) (fun _ => rep_own hx _)
    exact hv _ _ _ q e r
  · refine .inr ⟨a, k, vs, rfl, rfl, SqT.of e1, hv0, h1, by omega, fun z => ?_, fun z p n => ?_⟩
    · subst z
      refine hv _ w _ q (.refl st) ?_
      have : (List.replicate (Int.toNat 1) xs).flatten = xs := by simp
      rw [this]
      exact rx0.free (Same.refl _) _ rfl
    · have : k.toNat = 0 := by omega
      rw [this] at q
      obtain ⟨e, r⟩ := EndE.tup (τ := τ) (ds := []) (vs := []) (ℓ := [τ]) false st n (by simp [RepL]) (Nat.zero_le _) (fun _ => rfl)
      exact hv _ _ _ q e r
end
/-- .. * .. of all kinds -/
def dMulX : DO
  | .tup false xs, .int k, Q => (xs ≠ [] ∧ xs.length ≤ 1000 ∧ -(2 ^ 63) ≤ k ∧ k ≤ 1000) ∧ Q (.tup false (List.replicate k.toNat xs).flatten)
  | .int a, .int b, Q => MulOk a b ∧ Q (.int (a * b))
  | .lst o a, .int k, Q => dMul (.lst o a) (.int k) Q
  | _, _, _ => False
theorem fop_mulX {X : Cx} : FOp X (binaryOp .Mult) dMulX := (fop_mul.or fop_repT).imp fun a b Q h => by
  unfold dMulX at h
  split at h
  · exact .inr ⟨_, _, rfl, rfl, h⟩
  · exact .inl h
  · exact .inl h
  · exact h.elim
end FL
/-! FL14: what is a row of parts; sums, slices, lists of comprehensions stored. -/
namespace FL
open PySem PySem.Spec PyProof.Rows L2
/-- a list of frozen parts -/
def lstOf : D → Option (List D)
  | .lst o ds => match o with
    | .deep => none
    | _ => some ds
  | .ro t ds => match t with
    | false => some ds
    | true => none
  | _ => none
/-- a tuple of frozen parts -/
def tupOf : D → Option (List D)
  | .tup o ds => match o with
    | false => some ds
    | true => none
  | .ro t ds => match t with
    | true => some ds
    | false => none
  | _ => none
section
variable {K : PySem.W.Frag} {w : Wd}
theorem lst_seq (wf : Wf w) {d : D} {ds : List D} {ℓ : Loc} {v : V} (e : lstOf d = some ds) (r : Rep K w d ℓ v) : ∃ a vs, v = .ref a ∧ SqL K w.H a vs ∧ ds.length ≤ sizeLine ∧ ownL ds = false ∧ ∀ ℓ j, RepL K w ds ℓ j vs := by
  cases d with
  | lst o xs =>
    have hz := lst_sz r
    obtain ⟨a, vs, rfl, h1, h2⟩ := lst_at wf r
    have key : o.light = true → xs = ds → ∃ a' vs, V.ref a = .ref a' ∧ SqL K w.H a' vs ∧ ds.length ≤ sizeLine ∧ ownL ds = false ∧ ∀ ℓ j, RepL K w ds ℓ j vs := fun ho z => by
      subst z
      exact ⟨a, vs, rfl, SqL.of h1, hz.1, hz.2 ho, fun ℓ j => h2.free (Same.refl _) _ (hz.2 ho)⟩
    cases o with
    | deep => cases e
    | flat => exact key rfl (Option.some.inj e)
    | ice => exact key rfl (Option.some.inj e)
  | ro t xs =>
    cases t with
    | true => cases e
    | false =>
      cases e
      simp only [Rep] at r
      obtain ⟨a, vs, rfl, h1, hz, h2⟩ := r
      exact ⟨a, vs, rfl, wf.sh.seq h1, hz.1, hz.2, fun ℓ j => h2.free (Same.refl _) _ hz.2⟩
  | _ => cases e
theorem tup_seq (wf : Wf w) {d : D} {ds : List D} {ℓ : Loc} {v : V} (e : tupOf d = some ds) (r : Rep K w d ℓ v) : ∃ a vs, v = .ref a ∧ SqT K w.H a vs ∧ ds.length ≤ sizeLine ∧ ownL ds = false ∧ ∀ ℓ j, RepL K w ds ℓ j vs := by
  cases d with
  | tup o xs =>
    cases o with
    | true => cases e
    | false =>
      cases e
      have hz := tup_sz r
      obtain ⟨a, vs, rfl, h1, h2⟩ := tup_at wf r
      exact ⟨a, vs, rfl, SqT.of h1, hz.1, hz.2 rfl, fun ℓ j => h2.free (Same.refl _) _ (hz.2 rfl)⟩
  | ro t xs =>
    cases t with
    | false => cases e
    | true =>
      cases e
      simp only [Rep] at r
      obtain ⟨a, vs, rfl, h1, hz, h2⟩ := r
      exact ⟨a, vs, rfl, same_rdT wf.sh h1, hz.1, hz.2, fun ℓ j => h2.free (Same.refl _) _ hz.2⟩
  | _ => cases e
theorem seq_own {d : D} {ds : List D} (e : lstOf d = some ds ∨ tupOf d = some ds) : d.frz = d ∨ d.frz = .lst .ice ds := by
  cases d with
  | lst o xs =>
    cases o with
    | ice => exact .inl rfl
    | flat => rcases e with e | e <;> cases e; exact .inr rfl
    | deep => rcases e with e | e <;> cases e
  | tup o xs =>
    cases o with
    | false => exact .inl rfl
    | true => rcases e with e | e <;> cases e
  | ro t xs => exact .inl rfl
  | _ => rcases e with e | e <;> cases e
theorem repl_ints : ∀ {ns : List Int} {ℓ : Loc} {j : Nat} {vs : List V}, RepL K w (ns.map D.int) ℓ j vs → vs = ns.map V.int
  | [], _, _, _, h => by simpa [RepL] using h
  | n :: ns, _, _, _, h => by
    simp only [List.map_cons, RepL, Rep] at h
    obtain ⟨v, r, rfl, rfl, h2⟩ := h
    rw [repl_ints h2]; rfl
theorem repl_bls : ∀ {ns : List Bool} {ℓ : Loc} {j : Nat} {vs : List V}, RepL K w (ns.map D.bl) ℓ j vs → vs = ns.map V.bl
  | [], _, _, _, h => by simpa [RepL] using h
  | n :: ns, _, _, _, h => by
    simp only [List.map_cons, RepL, Rep] at h
    obtain ⟨v, r, rfl, rfl, h2⟩ := h
    rw [repl_bls h2]; rfl
theorem ints_repl {ns : List Int} {ℓ : Loc} {j : Nat} : RepL K w (ns.map D.int) ℓ j (ns.map V.int) := by
  refine RepL.of (by simp) fun i d v e1 e2 => ?_
  rw [List.getElem?_map] at e1 e2
  cases q : ns[i]? with
  | none => rw [q] at e1; cases e1
  | some n => rw [q] at e1 e2; cases e1; cases e2; rfl
theorem ints_own (ns : List Int) : ownL (ns.map D.int) = false := ownL_iff.mpr fun d hd => by obtain ⟨n, _, rfl⟩ := List.mem_map.mp hd; rfl
end
/-! ### built-ins over lists -/
def dL1 (p : List D → (D → Prop) → Prop) : DC
  | [d], Q => match lstOf d with
    | some ds => p ds Q
    | none => False
  | _, _ => False
def dSum : DC := dL1 fun ds Q => ∃ ns : List Int, ds = ns.map D.int ∧ Q (.int ns.sum)
def dMaxL : DC := dL1 fun ds Q => ∃ ns : List Int, ds = ns.map D.int ∧ ns ≠ [] ∧ ∀ m, m ∈ ns → (∀ y, y ∈ ns → y ≤ m) → Q (.int m)
def dMinL : DC := dL1 fun ds Q => ∃ ns : List Int, ds = ns.map D.int ∧ ns ≠ [] ∧ ∀ m, m ∈ ns → (∀ y, y ∈ ns → m ≤ y) → Q (.int m)
def dAny : DC := dL1 fun ds Q => ∃ bs : List Bool, ds = bs.map D.bl ∧ Q (.bl (bs.any id))
def dAll : DC := dL1 fun ds Q => ∃ bs : List Bool, ds = bs.map D.bl ∧ Q (.bl (bs.all id))
section
variable {X : Cx}
theorem fc_L1 {f : Value} {r : List V → Hp → VK → Prop} {p : List D → (D → Prop) → Prop} (hc : CallR X f r)
    (h : ∀ (τ : Nat) (w : Wd) (σ : Sl) (ρ : En) (a : Addr) (vs : List V) (ds : List D) (Q : D → Prop) (Qv : VK), ρ.length < τ → StE X.K w σ ρ → SqL X.K w.H a vs → ownL ds = false → ds.length ≤ sizeLine → (∀ ℓ j, RepL X.K w ds ℓ j vs) → p ds Q →
      (∀ d w' v, Q d → EndE X.K τ w σ ρ ρ w' → Rep X.K w' d [τ] v → Qv v w'.H) → r [.ref a] w.H Qv) : FC X f (dL1 p) := by
  refine ⟨r, hc, fun τ w σ ρ vs ds Q Qv hn st rs hd hq => ?_⟩
  unfold dL1 at hd
  split at hd
  · rename_i d
    obtain ⟨v, ℓ, rfl, rr⟩ := reps1 rs
    cases e : lstOf d with
    | none => simp only [e] at hd
    | some ds =>
      simp only [e] at hd
      obtain ⟨a, vs, rfl, h1, hz, ho, h2⟩ := lst_seq st.wf e rr
      exact h τ w σ ρ a vs ds Q Qv hn st h1 ho hz h2 hd hq
  · exact hd.elim
theorem fc_sum (hc : X.calm = true := by rfl) : FC X (.builtin "sum") dSum := fc_L1 (cr_sum hc) fun τ w σ ρ a vs ds Q Qv hn st h1 ho hz h2 ⟨ns, e, q⟩ hq => by
  subst e
  obtain rfl := repl_ints (h2 [] 0)
  exact ⟨a, ns, rfl, h1, hq _ w _ q (.refl st) rfl⟩
theorem fc_maxL (hc : X.calm = true := by rfl) : FC X (.builtin "max") dMaxL := fc_L1 (cr_max hc) fun τ w σ ρ a vs ds Q Qv hn st h1 ho hz h2 ⟨ns, e, hne, q⟩ hq => by
  subst e
  obtain rfl := repl_ints (h2 [] 0)
  exact ⟨a, ns, rfl, h1, List.length_pos_iff.mpr hne, fun m h3 h4 => hq _ w _ (q m h3 h4) (.refl st) rfl⟩
theorem fc_minL (hc : X.calm = true := by rfl) : FC X (.builtin "min") dMinL := fc_L1 (cr_min hc) fun τ w σ ρ a vs ds Q Qv hn st h1 ho hz h2 ⟨ns, e, hne, q⟩ hq => by
  subst e
  obtain rfl := repl_ints (h2 [] 0)
  exact ⟨a, ns, rfl, h1, List.length_pos_iff.mpr hne, fun m h3 h4 => hq _ w _ (q m h3 h4) (.refl st) rfl⟩
theorem fc_any (hc : X.calm = true := by rfl) : FC X (.builtin "any") dAny := fc_L1 (cr_any hc) fun τ w σ ρ a vs ds Q Qv hn st h1 ho hz h2 ⟨bs, e, q⟩ hq => by
  subst e
  obtain rfl := repl_bls (h2 [] 0)
  exact ⟨a, bs, rfl, h1, hq _ w _ q (.refl st) rfl⟩
theorem fc_all (hc : X.calm = true := by rfl) : FC X (.builtin "all") dAll := fc_L1 (cr_all hc) fun τ w σ ρ a vs ds Q Qv hn st h1 ho hz h2 ⟨bs, e, q⟩ hq => by
  subst e
  obtain rfl := repl_bls (h2 [] 0)
  exact ⟨a, bs, rfl, h1, hq _ w _ q (.refl st) rfl⟩
end
/-! ### a name's content frozen, and read -/
def rIce (i : Nat) : RE := fun ρ _ Q => match ρ[i]? with
  | some (some d) => nf (ρ.set i (some d.frz)) (Q d.frz)
  | _ => False
theorem ice_slot {K : PySem.W.Frag} {w : Wd} {σ : Sl} {ρ : En} {d : D} {v : V} {τ i : Nat} (hn : ρ.length < τ) (st : StE K w σ ρ) (e : ρ[i]? = some (some d)) (hv : σ[i]? = some (some v)) :
    ∃ w', w'.H = w.H ∧ EndE K τ w σ ρ (ρ.set i (some d.frz)) w' ∧ ∀ ℓ, Rep K w' d.frz ℓ v := by
  have hi := (List.getElem?_eq_some_iff.mp e).1
  obtain ⟨v', e1, r⟩ := st.rep i d e
  rw [hv] at e1; cases e1
  have rf : ∀ ℓ, Rep K (w.ice fun ℓ => match ℓ with | h :: _ => h == i + 1 | [] => false) d.frz ℓ v := fun ℓ => Rep.frz (w := w) (ice_same st.wf) d (ice_frz fun s => by show (i + 1 == i + 1) = true; simp) r
  refine ⟨w.ice fun ℓ => match ℓ with | h :: _ => h == i + 1 | [] => false, rfl, ⟨by rw [List.length_set], ⟨st.wf.ice, by rw [List.length_set]; exact st.len, fun j d' e' => ?_⟩, ⟨ice_same st.wf, fun a ℓ e3 ⟨h, s, e2, k⟩ => ?_⟩⟩, rf⟩
  · by_cases hj : j = i
    · subst hj
      rw [List.getElem?_set_self hi] at e'
      cases e'
      exact ⟨v, hv, rf _⟩
    · rw [List.getElem?_set_ne (Ne.symm hj)] at e'
      obtain ⟨u, e4, r2⟩ := st.rep j d' e'
      exact ⟨u, e4, Rep.to (w := w) (ice_same st.wf) d' (ice_kept fun s => by show (j + 1 == i + 1) = false; simp; omega) r2⟩
  · subst e2
    have := ice_kept (w := w) (ℓ := h :: s) (P := fun ℓ => match ℓ with | h :: _ => h == i + 1 | [] => false) (fun t => by
      show (h == i + 1) = false
      simp; omega) a [] (by simpa using e3)
    simpa using this
theorem fe_ice {X : Cx} {W : WX} {i : Nat} {x : Str} {pos : Pos} (hN : X.N[i]? = some x := by rfl) (hv : Vis X.env.scope x := by first | exact Or.inl rfl | exact Or.inr (Or.inl rfl) | exact Or.inr (Or.inr rfl)) (hd : (x == ("__debug__" : Str)) = false := by decide)
    (hcd : (x == ("__classdict__" : Str)) = false := by decide) : FE X W (.Name x pos) (rIce i) := by
  refine ⟨_, pe_var hN hv hd hcd, fun τ w σ ρ E Q Qv hn st hr hq hx => ?_⟩
  unfold rIce at hr
  split at hr
  · rename_i d e
    obtain ⟨v, e1, r1⟩ := st.rep i d e
    obtain ⟨w', e0, e2, r2⟩ := ice_slot hn st e e1
    refine ⟨v, e1, ?_⟩
    rw [← e0]
    exact hq _ _ w' v (nf_of hr) e2 (r2 _)
  · exact hr.elim
/-! ### slices -/
def cutL {α : Type} (xs : List α) (lo hi : Option Int) : List α := (xs.drop (HT.sIx xs.length 0 lo)).take (HT.sIx xs.length xs.length hi - HT.sIx xs.length 0 lo)
abbrev RP := En → EE → (Option Int → En → Prop) → Prop
def rP0 : RP := fun ρ _ Q => Q none ρ
def rP1 (re : RE) : RP := fun ρ E Q => re ρ E fun d ρ' => match d with
  | .int i => Q (some i) ρ'
  | _ => False
def SP (K : PySem.W.Frag) (W : WX) (t : TO) (r : RP) : Prop :=
  ∀ (τ : Nat) (w : Wd) (σ : Sl) (ρ : En) (E : EE) (Q : Option Int → En → Prop) (Qv : Option Int → Hp → Prop), ρ.length < τ → StE K w σ ρ → r ρ E Q →
    (∀ o ρ' w', Q o ρ' → EndE K τ w σ ρ ρ' w' → Qv o w'.H) → SX K W τ w σ ρ E → t σ w.H Qv
structure FP (X : Cx) (W : WX) (e : Option Expr) (r : RP) : Prop where
  ex : ∃ t, PO X e t ∧ SP X.K W t r
/-- a tuple of d's kind -/
def reT : D → List D → D
  | .ro _ _, es => .ro true es
  | _, es => .tup false es
def dSl (d : D) (lo hi : Option Int) (Q : D → Prop) : Prop := match lstOf d with
  | some ds => Q (.lst .flat (cutL ds lo hi))
  | none => match tupOf d with
    | some ds => Q (reT d (cutL ds lo hi))
    | none => match d with
      | .str z => z.length ≤ sizeLine ∧ Q (.str (cutS z lo hi))
      | _ => False
def rSl (ra : RO) (rl rh : RP) : RE := fun ρ E Q => ra ρ E fun x ρ1 => rl ρ1 E fun lo ρ2 => rh ρ2 E fun hi ρ3 => on1 ρ3 x fun dx => dSl dx lo hi fun d => Q d ρ3
section
variable {K : PySem.W.Frag} {w : Wd}
theorem RepL.drop {ds : List D} {ℓ : Loc} {j : Nat} {vs : List V} (h : RepL K w ds ℓ j vs) (ho : ownL ds = false) (n : Nat) {ℓ' : Loc} {j' : Nat} : RepL K w (ds.drop n) ℓ' j' (vs.drop n) := by
  refine RepL.of (by rw [List.length_drop, List.length_drop, h.length]) fun i d v e1 e2 => ?_
  rw [List.getElem?_drop] at e1 e2
  obtain ⟨v', e3, r⟩ := h.get e1
  rw [e2] at e3; cases e3
  exact r.free (Same.refl _) d (ownL_iff.mp ho d (List.mem_of_getElem? e1))
theorem RepL.take {ds : List D} {ℓ : Loc} {j : Nat} {vs : List V} (h : RepL K w ds ℓ j vs) (n : Nat) : RepL K w (ds.take n) ℓ j (vs.take n) := by
  refine RepL.of (by rw [List.length_take, List.length_take, h.length]) fun i d v e1 e2 => ?_
  rw [List.getElem?_take] at e1 e2
  split at e1
  · obtain ⟨v', e3, r⟩ := h.get e1
    rw [if_pos (by assumption), e3] at e2; cases e2
    exact r
  · cases e1
theorem cutL_mem {ds : List D} {lo hi : Option Int} {d : D} (h : d ∈ cutL ds lo hi) : d ∈ ds := List.mem_of_mem_drop (List.mem_of_mem_take h)
theorem cutL_own {ds : List D} {lo hi : Option Int} (h : ownL ds = false) : ownL (cutL ds lo hi) = false := ownL_iff.mpr fun d hd => ownL_iff.mp h d (cutL_mem hd)
theorem cutL_len {α : Type} (ds : List α) (lo hi : Option Int) : (cutL ds lo hi).length ≤ ds.length := by unfold cutL; rw [List.length_take, List.length_drop]; omega
theorem RepL.cut {ds : List D} {ℓ : Loc} {j : Nat} {vs : List V} (h : RepL K w ds ℓ j vs) (ho : ownL ds = false) {lo hi : Option Int} {ℓ' : Loc} {j' : Nat} : RepL K w (cutL ds lo hi) ℓ' j' (cutV vs lo hi) := by
  unfold cutL cutV
  rw [h.length]
  exact (h.drop ho _).take _
end
section
variable {X : Cx} {W : WX} {e : Expr}
theorem fp_none : FP X W none rP0 := ⟨_, po_none, fun τ w σ ρ E Q Qv hn st h hq hx => hq none ρ w h (.refl st)⟩
theorem fp_some {re : RE} (h : FE X W e re) : FP X W (some e) (rP1 re) := by
  obtain ⟨t, p, k⟩ := h.ex
  refine ⟨_, po_some p, fun τ w σ ρ E Q Qv hn st h hq hx => k τ w σ ρ E _ _ hn st h (fun d ρ1 w1 v h1 e1 r1 => ?_) hx⟩
  split at h1
  · rename_i i
    simp only [Rep] at r1
    exact ⟨i, r1, hq _ ρ1 w1 h1 e1⟩
  · exact h1.elim
theorem cutL_all {α : Type} (xs : List α) {lo hi : Option Int} (h : HT.sIx xs.length 0 lo = 0 ∧ HT.sIx xs.length xs.length hi = xs.length) : cutL xs lo hi = xs := by
  unfold cutL
  rw [h.1, h.2, List.drop_zero, Nat.sub_zero, List.take_length]
theorem fe_sl {a : Expr} {lo hi : Option Expr} {ra : RO} {rl rh : RP} {p2 pos : Pos} (ha : FO X W a ra) (hl : FP X W lo rl) (hh : FP X W hi rh) : FE X W (.Subscript a (.Slice lo hi none p2) pos) (rSl ra rl rh) := by
  obtain ⟨ta, pa, ka⟩ := ha.ex
  obtain ⟨tl, pl, kl⟩ := hl.ex
  obtain ⟨th, ph, kh⟩ := hh.ex
  refine ⟨_, pe_slice ((sl_list.or sl_tupA).or sl_str) pa pl ph, fun τ w σ ρ E Q Qv hn st h hq hx => ?_⟩
  refine ka τ w σ ρ E _ _ hn st h (fun x ρ1 w1 v h1 e1 r1 => ?_) hx
  refine kl (τ + 1) w1 σ ρ1 E _ _ (by rw [e1.len]; omega) e1.st h1 (fun o ρ2 w2 h2 e2 => ?_) (hx.then e1 (Nat.le_succ _))
  have e12 := e1.trans e2 (Nat.le_succ _)
  refine kh (τ + 1) w2 σ ρ2 E _ _ (by rw [e12.len]; omega) e2.st h2 (fun o' ρ3 w3 h3 e3 => ?_) (hx.then e12 (Nat.le_succ _))
  have e13 := e12.trans e3 (Nat.le_succ _)
  have r3 : AdAt X.K w3 σ x τ v := (r1.later (by rw [e1.len]; exact hn) e2).later (by rw [e12.len]; exact hn) e3
  obtain ⟨dx, ex, q⟩ := on1_elim h3
  obtain ⟨ℓ, r⟩ := ad_get e3.st r3 ex
  have hn3 : ρ3.length < τ := by rw [e13.len]; exact hn
  unfold dSl at q
  cases el : lstOf dx with
  | some ds =>
    simp only [el] at q
    obtain ⟨b, vs, rfl, h4, hz, ho, h5⟩ := lst_seq e3.st.wf el r
    refine .inl (.inl ⟨b, vs, rfl, h4, fun p n => ?_⟩)
    obtain ⟨e4, r4⟩ := EndE.own (τ := τ) .flat e3.st n ((h5 [] 0).cut ho (ℓ' := [τ]) (j' := 0)) (Nat.le_trans (cutL_len _ _ _) hz) (fun _ => cutL_own ho) rfl
    exact hq _ ρ3 _ _ q (e13.trans e4 (Nat.le_refl _)) r4
  | none =>
    simp only [el] at q
    cases et : tupOf dx with
    | some ds =>
      simp only [et] at q
      have hf : dx.own = false := by
        cases dx with
        | tup o xs => cases o <;> first | rfl | cases et
        | _ => first | rfl | cases et
      obtain ⟨b, vs, rfl, h4, hz, ho, h5⟩ := tup_seq e3.st.wf et r
      refine .inl (.inr ⟨b, vs, rfl, h4, fun hw => ?_, fun _ p n => ?_⟩)
      · have hlen := (h5 [] 0).length
        rw [hlen] at hw
        rw [cutL_all ds hw] at q
        refine hq _ ρ3 w3 _ q e13 ?_
        cases dx with
        | tup o xs => cases o with
          | false => cases et; exact r.free (Same.refl _) _ rfl
          | true => cases et
        | ro t xs => cases t with
          | true => cases et; exact r.free (Same.refl _) _ rfl
          | false => cases et
        | _ => cases et
      · obtain ⟨e4, r4⟩ := EndE.tup (τ := τ) (ℓ := [τ]) false e3.st n ((h5 [] 0).cut ho (j' := 0)) (Nat.le_trans (cutL_len _ _ _) hz) (fun _ => cutL_own ho)
        refine hq _ ρ3 _ _ q (e13.trans e4 (Nat.le_refl _)) ?_
        cases dx with
        | ro t xs =>
          simp only [Rep] at r4
          obtain ⟨a', us, ea, h6, h7, h8⟩ := r4
          simp only [reT, Rep]
          exact ⟨a', us, ea, SqT.of h6, ⟨h7.1, cutL_own ho⟩, h8⟩
        | _ => exact r4
    | none =>
      simp only [et] at q
      split at q
      · simp only [Rep] at r
        subst r
        exact .inr ⟨_, rfl, q.1, hq _ ρ3 w3 _ q.2 e13 rfl⟩
      · exact q.elim
end
/-! ### a comprehension's list stored -/
section
variable {X : Cx} {W : WX} {M : List Nat}
theorem fs_setLc (i : Nat) (vs : List Nat) {y : Str} {elt tg iter : Expr} {ifs : List Expr} {scope : Scope} {own : List (Str × Nat)} {py pos spos : Pos} {ri : RI} {rg : RG} {rt : RT} {re : RE} (hN : X.N.Nodup) (hi : FI X W tg iter ri) (ok : BlkOk X.N X.env.scope scope own)
    (hg : ∀ c : BlkC, FG (Cx.blkC X scope c) vs tg rg) (ht : ∀ c : BlkC, FTs (Cx.blkC X scope c) W0 ifs rt) (he : ∀ c : BlkC, FE (Cx.blkC X scope c) W0 elt re) (hy : X.N[i]? = some y := by rfl) (hyl : X.env.scope.names.lookup y = some .local := by rfl) (hM : M.contains i = false := by rfl)
    (hsw : swapsWith (.ListComp elt [⟨tg, iter, ifs, 0⟩] scope pos) (some (.Name y py)) spos.line X.env = pure true := by rfl) (hv : own.map (·.2) = vs := by rfl) (hc : X.calm = true := by rfl) (hs : ∀ x, foldedSetIterable iter X.env x = pure x := by intro _; rfl) :
    FS X W M (.Assign [.Name y py] (.ListComp elt [⟨tg, iter, ifs, 0⟩] scope pos) spos) (rSet i (rComp ri rg rt re vs)) := by
  obtain ⟨wi, g, tt, te, p, pg, pt, pe, k⟩ := lc_ex vs hi hg ht he
  exact ⟨_, by have := ps_setLc (i := i) hc hN hy hyl hsw p ok (fun s H C cl fp => pg (s, H, C, cl, fp)) (fun s H C cl fp => pt (s, H, C, cl, fp)) (fun s H C cl fp => pe (s, H, C, cl, fp)) hs; rw [hv] at this; exact this, se_set k hM⟩
theorem fs_setLcF (i : Nat) (vs : List Nat) {y : Str} {elt tg iter : Expr} {ifs : List Expr} {scope : Scope} {own : List (Str × Nat)} {py pos spos : Pos} {ri : RI} {rg : RG} {rt : RT} {re : RE} (hN : X.N.Nodup) (hi : FI X W tg iter ri) (ok : BlkOk X.N X.env.scope scope own)
    (hg : ∀ c : BlkC, FG (Cx.blkC X scope c) vs tg rg) (ht : ∀ c : BlkC, FTs (Cx.blkC X scope c) W0 ifs rt) (he : ∀ c : BlkC, FE (Cx.blkC X scope c) W0 elt re) (hy : X.N[i]? = some y := by rfl) (hyl : X.env.scope.names.lookup y = some .local := by rfl) (hM : M.contains i = false := by rfl)
    (hsw : swapsWith (.ListComp elt [⟨tg, iter, ifs, 0⟩] scope pos) (some (.Name y py)) spos.line X.env = pure true := by rfl) (hv : own.map (·.2) = vs := by rfl) (hc : X.calm = true := by rfl) (hs : ∀ x, foldedSetIterable iter X.env x = pure x := by intro _; rfl) :
    FS X W M (.Assign [.Name y py] (.ListComp elt [⟨tg, iter, ifs, 0⟩] scope pos) spos) (rSetF i (rComp ri rg rt re vs)) := by
  obtain ⟨wi, g, tt, te, p, pg, pt, pe, k⟩ := lc_ex vs hi hg ht he
  exact ⟨_, by have := ps_setLc (i := i) hc hN hy hyl hsw p ok (fun s H C cl fp => pg (s, H, C, cl, fp)) (fun s H C cl fp => pt (s, H, C, cl, fp)) (fun s H C cl fp => pe (s, H, C, cl, fp)) hs; rw [hv] at this; exact this, se_setF k hM⟩
end
end FL
/-! FL15: enumerate and zip of rows of any kind, reversed rows. -/
namespace FL
open PySem PySem.Spec PyProof.Rows L2
/-! ### rows by their kind (true: a tuple) -/
def SqB (K : PySem.W.Frag) (b : Bool) (H : Hp) (a : Addr) (xs : List V) : Prop := if b then SqT K H a xs else SqL K H a xs
def itB (b : Bool) (h : Heap) (it a : Addr) (i : Nat) : Prop := if b then h.IsTupleIter it a i else h.IsListIter it a i
def isB (b : Bool) (h : Heap) (a : Addr) (its : Array Value) : Prop := if b then h.IsTuple a its else h.IsList a its
def obB (b : Bool) (a : Addr) : Obj := if b then { cls := .type "tuple_iterator", data := .fields #[.ref a, .int 0 0] } else { cls := .type "list_iterator", data := .fields #[.ref a, .int 0 0] }
theorem itB_obj {b : Bool} {h : Heap} {it a : Addr} {i : Nat} (q : itB b h it a i) : ∃ o, h.get? it = some o ∧ (o.cls = .type "tuple_iterator" ∨ o.cls = .type "list_iterator") ∧ ∀ v, o.data ≠ .cell v := by
  cases b with
  | true => obtain ⟨o, h1, h2, h3⟩ := (show h.IsTupleIter it a i from q); exact ⟨o, h1, .inl h2, fun v z => by rw [h3] at z; cases z⟩
  | false => obtain ⟨o, h1, h2, h3⟩ := (show h.IsListIter it a i from q); exact ⟨o, h1, .inr h2, fun v z => by rw [h3] at z; cases z⟩
theorem isB_obj {b : Bool} {h : Heap} {a : Addr} {its : Array Value} (q : isB b h a its) : ∃ o, h.get? a = some o ∧ (o.cls = .type "tuple" ∨ o.cls = .type "list") := by
  cases b with
  | true => obtain ⟨o, h1, h2, _⟩ := (show h.IsTuple a its from q); exact ⟨o, h1, .inl h2⟩
  | false => obtain ⟨o, h1, h2, _⟩ := (show h.IsList a its from q); exact ⟨o, h1, .inr h2⟩
theorem itB_at {b : Bool} {h h' : Heap} {it a : Addr} {i : Nat} (q : itB b h it a i) (k : ∀ o, h.get? it = some o → h'.get? it = some o) : itB b h' it a i := by
  cases b with
  | true => exact Heap.IsTupleIter.at (show h.IsTupleIter it a i from q) k
  | false => exact Heap.IsListIter.at (show h.IsListIter it a i from q) k
theorem isB_at {b : Bool} {h h' : Heap} {a : Addr} {its : Array Value} (q : isB b h a its) (k : ∀ o, h.get? a = some o → h'.get? a = some o) : isB b h' a its := by
  cases b with
  | true => exact Heap.IsTuple.at (show h.IsTuple a its from q) k
  | false => exact Heap.IsList.at (show h.IsList a its from q) k
theorem row_apart {b : Bool} {h : Heap} {a e : Addr} {its : Array Value} {o : Obj} (q : isB b h a its) (he : h.get? e = some o) (hc : o.cls ≠ .type "tuple" ∧ o.cls ≠ .type "list") : a ≠ e := fun z => by
  obtain ⟨o', h1, h2⟩ := isB_obj q
  rw [z, he] at h1
  cases h1
  rcases h2 with h2 | h2
  · exact hc.1 h2
  · exact hc.2 h2
section
variable {X : Cx} {pins : List (Addr × Obj)} {σ : L2.St} {H : Hp} {s : Shared} {b : Bool} {a : Addr} {xs : List V}
theorem row_of (I : Inv X pins σ H s) (h : SqB X.K b H a xs) : ∃ its : List Value, Vals xs its ∧ isB b s.heap a its.toArray ∧ xs.length ≤ sizeLine := by
  cases b with
  | true => obtain ⟨its, r, p, z⟩ := I.tuple (show SqT X.K H a xs from h); exact ⟨its, r, p, z⟩
  | false => obtain ⟨its, r, p, z⟩ := I.list (show SqL X.K H a xs from h); exact ⟨its, r, p.isList, z⟩
theorem row_inj (I : Inv X pins σ H s) {ys : List V} (h : SqB X.K b H a xs) (g : SqB X.K b H a ys) : ys = xs := by
  cases b with
  | true => exact I.tuple_inj g h
  | false => exact I.list_inj g h
theorem row_lt (h : isB b s.heap a #[]) : True := trivial
end
theorem draws_row {prog : Program} {w : World} {A : Around} (hh : A.handled = none) (b : Bool) (it a : Addr) (hne : a ≠ it) (its : Array Value) :
    Draws prog w A it [it, a] its.size (fun i v => its[i]? = some v) (fun i h => itB b h it a i ∧ isB b h a its) := by
  cases b with
  | true => exact Draws.tuple hh it a hne its
  | false => exact Draws.list hh it a hne its
theorem begins_row (b : Bool) (a : Addr) (its : Array Value) : Begins (.ref a) (obB b a) fun h => isB b h a its := by
  cases b with
  | true => exact begins_tuple a its
  | false => exact begins_list a its
theorem row_start {b : Bool} {h : Heap} {it a : Addr} (q : h.get? it = some (obB b a)) : itB b h it a 0 := by
  cases b with
  | true => exact ⟨_, q, rfl, rfl⟩
  | false => exact ⟨_, q, rfl, rfl⟩
/-! ### enumerate -/
set_option maxHeartbeats 1000000 in
theorem meets_enum_row {v : Value} {o : Obj} {Hs : Heap → Prop} (B : Begins v o Hs) : Meets (Builtin.«enumerate.__new__» ⟨[.type "enumerate", v], []⟩) (fun _ R s => Hs s.heap ∧
    R (.ok (.ret (.ref (s.heap.push o).objs.size))) { s with heap := (s.heap.push o).push { cls := .type "enumerate", data := .fields #[.none, .bool false, .ref s.heap.objs.size, rawInt 0, .none, .none] } }) :=
  .of_wp fun prog w A R s hyp => by
    obtain ⟨hp, g, d, tk, os⟩ := s
    obtain ⟨h1, h⟩ := hyp
    have hsub := sub_enumerate
    have road : ∀ {A' : Around} {E Q : Value → Shared → Prop}, Q (.ref hp.objs.size) ⟨hp.push o, g, d, tk, os⟩ → wpAny (model prog w) A' (pyIter v) Q E ⟨hp, g, d, tk, os⟩ :=
      fun q => B.iter prog w _ _ _ _ h1 q
    wp_walk using road
    refine wpAny_stack_any fun st => wpAny_pure ?_
    split
    · rename_i c _ _ _ _ _
      cases (c == Value.type "enumerate") <;> (wp_walk using road; exact ⟨_, rfl, h⟩)
    · wp_walk using road
      exact ⟨_, rfl, h⟩
theorem call_enum_row {prog : Program} {w : World} {A : Around} {E : Value → Shared → Prop} {s : Shared} {v : Value} {o : Obj} {Hs : Heap → Prop} {Q : Value → Shared → Prop} (B : Begins v o Hs) (h1 : Hs s.heap)
    (h : ∀ h', IsEnum h' (s.heap.objs.size + 1) s.heap.objs.size 0 .none → h'.get? s.heap.objs.size = some o → (∀ c u, s.heap.get? c = some u → h'.get? c = some u) → Q (.ref (s.heap.objs.size + 1)) { s with heap := h' }) :
    wpAny (model prog w) A (call (.type "enumerate") [v]) Q E s := by
  refine callType_new F.called_enumerate (by decide) (F.typeCall_enumerate_1 _) (F.newCall_enumerate_1 _) (fun obj => F.args_object_init_2 obj _) F.entry_enumerate_new (meets_enum_row B) ⟨h1, ?_⟩
  have z : (s.heap.push o).objs.size = s.heap.objs.size + 1 := Heap.size_push ..
  have he := Heap.get?_push_size (s.heap.push o) (o := { cls := .type "enumerate", data := .fields #[.none, .bool false, .ref s.heap.objs.size, rawInt 0, .none, .none] }) rfl
  rw [z] at he
  show _ ∧ _
  rw [z]
  exact ⟨⟨_, he, rfl⟩, h _ he (Heap.get?_push_of_some _ (Heap.get?_push_size _ B.free)) fun c u x => Heap.get?_push_of_some _ (Heap.get?_push_of_some _ x)⟩
def ItE (K : PySem.W.Frag) (b : Bool) (a : Addr) : It where
  go i H := ∃ (xs : List V) (x : V), SqB K b H a xs ∧ xs[i]? = some x
  yld i H v H' := ∃ T x, v = .ref T ∧ H T = none ∧ H' = upd H T (.tup [.int (i : Nat), x]) ∧ ∀ xs, SqB K b H a xs → xs[i]? = some x
  stop i H := ∃ xs : List V, SqB K b H a xs ∧ i = xs.length
def tnE (b : Bool) (a e it : Addr) (i : Nat) (h : Heap) : Prop := (∃ old, IsEnum h e it ((i : Nat) : Int) old) ∧ itB b h it a i ∧ e ≠ it
theorem turn_E {P : Program} {w : World} {K : PySem.W.Frag} {elts : List Expr} {kk : Nat} {tpos : Pos} (b : Bool) (a e it : Addr) : Turn P w K (.Tuple elts kk tpos) (ItE K b a) [e, it] e (tnE b a e it) where
  mem := List.mem_cons_self
  obj := fun i h ⟨⟨old, he⟩, hi, _⟩ c hc => by
    rcases List.mem_cons.mp hc with rfl | hc
    · exact ⟨_, he, fun v z => nomatch z⟩
    · rcases List.mem_cons.mp hc with rfl | hc
      · obtain ⟨o, h1, _, h3⟩ := itB_obj hi
        exact ⟨o, h1, h3⟩
      · cases hc
  keep := fun i h h' ⟨⟨old, he⟩, hi, hne⟩ k => ⟨⟨old, k e List.mem_cons_self _ he⟩, itB_at hi fun o q => k it (List.mem_cons_of_mem _ List.mem_cons_self) o q, hne⟩
  item := by
    intro X hP hw hK hc i pins s σ H E I hf ⟨⟨old, he⟩, hit, hne⟩ ⟨xs, x, hq, hx⟩
    subst hP hw hK
    obtain ⟨its, rv, p, hz⟩ := row_of I hq
    obtain ⟨u, hu, ru⟩ := rv.get hx
    obtain ⟨oi, hoi, hci, _⟩ := itB_obj hit
    have ai : a ≠ it := row_apart p hoi (by rcases hci with z | z <;> rw [z] <;> decide)
    have ae : a ≠ e := row_apart p he ⟨by simp, by simp⟩
    have D := draws_row (prog := X.prog) (w := X.w) (A := X.A.in1) (I.ok.hd hc) b it a ai its.toArray
    have hlt : i < its.toArray.size := by
      have := (List.getElem?_eq_some_iff.mp hx).1
      rw [rv.length] at this
      simpa using this
    refine wpAny_pyNext_enum_itemD D he ⟨hit, p⟩ hlt hne (by simp [hne, Ne.symm ae]) fun x' h' tk hx' ho st' hT hsz hk => ?_
    have ex : x' = u := by
      have : its.toArray[i]? = some u := by simpa using hu
      exact Option.some.inj (hx'.symm.trans this)
    subst ex
    refine ⟨_, rfl, wpAny_letOwnedTupleGo_enum (s := { s with heap := h', toks := tk + 1 }) ho fun h2 he2 sb => ?_⟩
    have hel : e < s.heap.objs.size := Heap.lt_size he
    have hil : it < s.heap.objs.size := Heap.lt_size hoi
    have old2 : ∀ c u', c ∉ [e, it] → s.heap.get? c = some u' → h2.get? c = some u' := fun c u' hn q => (sb.2 c fun z => hn (by simp [z])).trans (hk c u' (fun z => hn (by simp [z])) (fun z => hn (by simp [z])) q)
    have hT2 := (sb.2 _ (Nat.ne_of_gt hel)).trans hT
    have I2 := I.turnedNew (t' := tk + 1) (ob := .tup [.int (i : Nat), x]) old2 hf (Nat.le_refl _) ⟨(by decide : 2 ≤ sizeLine), [.int i tk, x'], .cons ⟨_, rfl⟩ (.cons ru .nil), ⟨_, hT2, rfl, _, rfl⟩⟩
    refine ⟨.ref s.heap.objs.size, _, I2, rfl, ⟨_, x, rfl, I.hok.fresh (Nat.le_refl _), rfl, fun ys hy => by rw [row_inj I hq hy]; exact hx⟩, ⟨⟨x', he2⟩, itB_at st'.1 fun o q => (sb.2 it (Ne.symm hne)).trans q, hne⟩, fun c hc => ?_⟩
    have hlc : c < s.heap.objs.size := by
      rcases List.mem_cons.mp hc with rfl | hc
      · exact hel
      · rcases List.mem_cons.mp hc with rfl | hc
        · exact hil
        · cases hc
    rw [upd_ne (Nat.ne_of_lt hlc)]
    exact (hf c hc).1
  done := by
    intro X hP hw hK hc i pins s σ H E I hf ⟨⟨old, he⟩, hit, hne⟩ ⟨xs, hq, hx⟩
    subst hP hw hK
    obtain ⟨its, rv, p, hz⟩ := row_of I hq
    have hl := rv.length
    obtain ⟨oi, hoi, hci, _⟩ := itB_obj hit
    have ai : a ≠ it := row_apart p hoi (by rcases hci with z | z <;> rw [z] <;> decide)
    have D := draws_row (prog := X.prog) (w := X.w) (A := X.A.in1) (I.ok.hd hc) b it a ai its.toArray
    have hn : its.toArray.size = i := by rw [List.size_toArray, ← hl]; exact hx.symm
    obtain ⟨f0, f1, f2, f3, f4, f5⟩ := hf it (by simp)
    exact wpAny_pyNext_enum_endD D he (by rw [hn]; exact ⟨hit, p⟩) fun h' eb => ⟨rfl, I.turned (t' := s.toks) (fun c o hb q => eb c o hb q) f0 f1 f3 f4 f5⟩
  self := fun A i s Q E ⟨⟨_, he⟩, _⟩ h => wpAny_pyIter_enum he h
/-! ### zip -/
def ItZ (K : PySem.W.Frag) (b b' : Bool) (a a' : Addr) : It where
  go i H := ∃ (xs ys : List V) (x y : V), SqB K b H a xs ∧ SqB K b' H a' ys ∧ xs[i]? = some x ∧ ys[i]? = some y
  yld i H v H' := ∃ T x y, v = .ref T ∧ H T = none ∧ H' = upd H T (.tup [x, y]) ∧ (∀ xs, SqB K b H a xs → xs[i]? = some x) ∧ ∀ ys, SqB K b' H a' ys → ys[i]? = some y
  stop i H := ∃ xs ys : List V, SqB K b H a xs ∧ SqB K b' H a' ys ∧ i ≤ xs.length ∧ i ≤ ys.length ∧ (i = xs.length ∨ i = ys.length)
def tnZ (b b' : Bool) (a a' z TI TO i1 i2 : Addr) (i : Nat) (h : Heap) : Prop := IsZip h z TI TO .none ∧ IsTupOf2 h TI (.ref i1) (.ref i2) ∧ (∃ x y, IsTupOf2 h TO x y) ∧ itB b h i1 a i ∧ itB b' h i2 a' i
theorem five {c z TI TO i1 i2 : Addr} (h : c ∈ [z, TI, TO, i1, i2]) : c = z ∨ c = TI ∨ c = TO ∨ c = i1 ∨ c = i2 := by simpa using h
theorem turn_Z {P : Program} {w : World} {K : PySem.W.Frag} {elts : List Expr} {kk : Nat} {tpos : Pos} (b b' : Bool) {a a' z TI TO i1 i2 : Addr} (S : ZipSep2 z TI TO i1 i2 [i1, a] [i2, a']) (n1 : a ≠ i1) (n2 : a' ≠ i2) :
    Turn P w K (.Tuple elts kk tpos) (ItZ K b b' a a') [z, TI, TO, i1, i2] z (tnZ b b' a a' z TI TO i1 i2) where
  mem := List.mem_cons_self
  obj := fun i h ⟨hz, hI, ⟨x, y, hO⟩, h1, h2⟩ c hc => by
    rcases five hc with rfl | rfl | rfl | rfl | rfl
    · exact ⟨_, hz, fun v q => nomatch q⟩
    · exact ⟨_, hI, fun v q => nomatch q⟩
    · exact ⟨_, hO, fun v q => nomatch q⟩
    · obtain ⟨o, e1, _, e3⟩ := itB_obj h1; exact ⟨o, e1, e3⟩
    · obtain ⟨o, e1, _, e3⟩ := itB_obj h2; exact ⟨o, e1, e3⟩
  keep := fun i h h' ⟨hz, hI, ⟨x, y, hO⟩, h1, h2⟩ k => ⟨k z (by simp) _ hz, k TI (by simp) _ hI, ⟨x, y, k TO (by simp) _ hO⟩, itB_at h1 fun o q => k i1 (by simp) o q, itB_at h2 fun o q => k i2 (by simp) o q⟩
  item := by
    intro X hP hw hK hc i pins s σ H E I hf ⟨hz, hI, ⟨x0, y0, hO⟩, h1, h2⟩ ⟨xs, ys, x, y, hq1, hq2, hx, hy⟩
    subst hP hw hK
    obtain ⟨its, rv, p, _⟩ := row_of I hq1
    obtain ⟨its', rv', p', _⟩ := row_of I hq2
    obtain ⟨u, hu, ru⟩ := rv.get hx
    obtain ⟨u', hu', ru'⟩ := rv'.get hy
    have D1 := draws_row (prog := X.prog) (w := X.w) (A := X.A.in1) (I.ok.hd hc) b i1 a n1 its.toArray
    have D2 := draws_row (prog := X.prog) (w := X.w) (A := X.A.in1) (I.ok.hd hc) b' i2 a' n2 its'.toArray
    have l1 : i < its.toArray.size := by
      have := (List.getElem?_eq_some_iff.mp hx).1
      rw [rv.length] at this; simpa using this
    have l2 : i < its'.toArray.size := by
      have := (List.getElem?_eq_some_iff.mp hy).1
      rw [rv'.length] at this; simpa using this
    refine wpAny_pyNext_zipD2_item S D1 D2 hz hI hO ⟨h1, p⟩ ⟨h2, p'⟩ l1 l2 fun x1 x2 h' tk g1 g2 hz' hO' t1 t2 hT hsz hk => ?_
    obtain rfl : x1 = u := Option.some.inj (g1.symm.trans (by simpa using hu))
    obtain rfl : x2 = u' := Option.some.inj (g2.symm.trans (by simpa using hu'))
    refine ⟨_, rfl, wpAny_letOwnedTupleGo_zip (s := { s with heap := h', toks := tk }) hz' fun h3 hz3 sb => ?_⟩
    have lz : z < s.heap.objs.size := Heap.lt_size hz
    have hT3 : IsTupOf2 h3 s.heap.objs.size x1 x2 := (sb.2 _ (Nat.ne_of_gt lz)).trans hT
    have old : ∀ c o, c ∉ [z, TI, TO, i1, i2] → s.heap.get? c = some o → h3.get? c = some o := fun c o hn q => (sb.2 c fun q' => hn (by simp [q'])).trans (hk c o (fun q' => hn (by simp [q'])) (fun q' => hn (by simp [q'])) (fun q' => hn (by simp [q'])) (fun q' => hn (by simp [q'])) q)
    have I3 := I.turnedNew (t' := tk) (ob := .tup [x, y]) old hf (Nat.le_refl _) ⟨(by decide : 2 ≤ sizeLine), [x1, x2], .cons ru (.cons ru' .nil), ⟨_, hT3, rfl, _, rfl⟩⟩
    refine ⟨.ref s.heap.objs.size, _, I3, rfl, ⟨_, x, y, rfl, I.hok.fresh (Nat.le_refl _), rfl, fun l hl => by rw [row_inj I hq1 hl]; exact hx, fun l hl => by rw [row_inj I hq2 hl]; exact hy⟩,
      ⟨hz3, (sb.2 _ S.TIz).trans (hk _ _ S.TIz S.TITO S.TIi1 S.TIi2 hI), ⟨_, _, (sb.2 _ S.TOz).trans hO'⟩, itB_at t1.1 fun o q => (sb.2 _ (Ne.symm S.zi1)).trans q, itB_at t2.1 fun o q => (sb.2 _ (Ne.symm S.zi2)).trans q⟩, fun c hc => ?_⟩
    have lc : c < s.heap.objs.size := by
      rcases five hc with rfl | rfl | rfl | rfl | rfl
      · exact lz
      · exact Heap.lt_size hI
      · exact Heap.lt_size hO
      · obtain ⟨_, e1, _⟩ := itB_obj h1; exact Heap.lt_size e1
      · obtain ⟨_, e1, _⟩ := itB_obj h2; exact Heap.lt_size e1
    rw [upd_ne (Nat.ne_of_lt lc)]
    exact (hf c hc).1
  done := by
    intro X hP hw hK hc i pins s σ H E I hf ⟨hz, hI, ⟨x0, y0, hO⟩, h1, h2⟩ ⟨xs, ys, hq1, hq2, le1, le2, he⟩
    subst hP hw hK
    obtain ⟨its, rv, p, _⟩ := row_of I hq1
    obtain ⟨its', rv', p', _⟩ := row_of I hq2
    have D1 := draws_row (prog := X.prog) (w := X.w) (A := X.A.in1) (I.ok.hd hc) b i1 a n1 its.toArray
    have D2 := draws_row (prog := X.prog) (w := X.w) (A := X.A.in1) (I.ok.hd hc) b' i2 a' n2 its'.toArray
    have m1 : its.toArray.size = xs.length := by rw [List.size_toArray, ← rv.length]
    have m2 : its'.toArray.size = ys.length := by rw [List.size_toArray, ← rv'.length]
    exact wpAny_pyNext_zipD2_end S D1 D2 hz hI hO ⟨h1, p⟩ ⟨h2, p'⟩ (by omega) (by omega) (by omega) fun h' tk hk => ⟨rfl, I.turnedL (t' := tk) (ch := [z, TI, TO, i1, i2]) (fun c o hn q =>
      hk c o (fun q' => hn (by simp [q'])) (fun q' => hn (by simp [q'])) (fun q' => hn (by simp [q'])) (fun q' => hn (by simp [q'])) q) hf⟩
  self := fun A i s Q E st h => wpAny_pyIter_zip st.1 h
section
variable {X : Cx} {e e2 : Expr} {ta : TA} {p pos tpos : Pos} {elts : List Expr} {kk : Nat}
def iE (K : PySem.W.Frag) (ta : TA) : TI := fun σ H R => ta σ H fun vs H1 => ∃ b a xs, vs = [.ref a] ∧ SqB K b H1 a xs ∧ R (ItE K b a) H1
theorem pi_E (hg : Gl X "enumerate") (hm : X.mg "enumerate" = none) (ha : PA X [e] ta) (hs : starEach [e] X.env = [(false, eval e X.env)] := by rfl) : PI X (.Tuple elts kk tpos) (.Call (.Name "enumerate" p) [e] [] pos) (iE X.K ta) := by
  refine ⟨fun pins s σ H R I h => Call_ (ld_blt I hg hm boot_enumerate (PyProof.Rows.callWith_type1 (thn (ha.run pos pins s σ H _ I h) fun us s1 ⟨vs, H1, I1, r1, b, a, xs, ev, hq, q⟩ => ?_) hs rfl))⟩
  subst ev
  rw [Vals.ref1 r1]
  obtain ⟨its, rv, p', hz⟩ := row_of I1 hq
  refine call_enum_row (begins_row b a its.toArray) p' fun h' he hit hk => wpAny_pyIter_enum he ?_
  refine ⟨s1.heap.objs.size + 1, [s1.heap.objs.size + 1, s1.heap.objs.size], _, _, H1, rfl, I1.kept (t' := s1.toks) hk, turn_E b a (s1.heap.objs.size + 1) s1.heap.objs.size, ⟨⟨.none, he⟩, row_start hit, Nat.succ_ne_self _⟩, fun c hc => ?_, q⟩
  have hle : s1.heap.objs.size ≤ c := by
    rcases List.mem_cons.mp hc with rfl | hc
    · exact Nat.le_succ _
    · rcases List.mem_cons.mp hc with rfl | hc
      · exact Nat.le_refl _
      · cases hc
  exact I1.fpOk hle (I1.hok.fresh hle)
def iZ (K : PySem.W.Frag) (ta : TA) : TI := fun σ H R => ta σ H fun vs H1 => ∃ b b' a a' xs ys, vs = [.ref a, .ref a'] ∧ SqB K b H1 a xs ∧ SqB K b' H1 a' ys ∧ R (ItZ K b b' a a') H1
theorem pi_Z (hg : Gl X "zip") (hm : X.mg "zip" = none) (ha : PA X [e, e2] ta) (hs : starEach [e, e2] X.env = (false, eval e X.env) :: starEach [e2] X.env := by rfl) (hpl : (backTo pos (starEach [e2] X.env)).any (·.1) = false := by rfl) :
    PI X (.Tuple elts kk tpos) (.Call (.Name "zip" p) [e, e2] [] pos) (iZ X.K ta) := by
  refine ⟨fun pins s σ H R I h => Call_ (ld_blt I hg hm PyProof.Rows.boot_zip (PyProof.Rows.callWith_type1 (thn (ha.run pos pins s σ H _ I h) fun us s1 ⟨vs, H1, I1, r1, b, b', a, a', xs, ys, ev, hq1, hq2, q⟩ => ?_) hs hpl))⟩
  subst ev
  cases r1 with
  | cons r rr => cases rr with
    | cons r' rr =>
      cases rr; cases r; cases r'
      obtain ⟨its, rv, p1, _⟩ := row_of I1 hq1
      obtain ⟨its', rv', p2, _⟩ := row_of I1 hq2
      obtain ⟨o1, g1, _⟩ := isB_obj p1
      obtain ⟨o2, g2, _⟩ := isB_obj p2
      have la := Heap.lt_size g1
      have la' := Heap.lt_size g2
      refine zip_begins2 (begins_row b a its.toArray) (begins_row b' a' its'.toArray) p1 p2 fun h' hz hI hO k1 k2 _ hk => wpAny_pyIter_zip hz ?_
      refine ⟨s1.heap.objs.size + 4, [s1.heap.objs.size + 4, s1.heap.objs.size + 2, s1.heap.objs.size + 3, s1.heap.objs.size, s1.heap.objs.size + 1], _, _, H1, rfl, I1.kept (t' := s1.toks) hk,
        turn_Z b b' (zip_sep2 (fp1 := [a]) (fp2 := [a']) (fun c hc => by rw [List.mem_singleton.mp hc]; exact la) (fun c hc => by rw [List.mem_singleton.mp hc]; exact la')) (Nat.ne_of_lt la) (Nat.ne_of_lt (Nat.lt_succ_of_lt la')), ⟨hz, hI, ⟨_, _, hO⟩, row_start k1, row_start k2⟩, fun c hc => ?_, q⟩
      have hle : s1.heap.objs.size ≤ c := by rcases five hc with rfl | rfl | rfl | rfl | rfl <;> omega
      exact I1.fpOk hle (I1.hok.fresh hle)
end
/-! ### walked at the level of data -/
/-- a list's or a tuple's frozen parts -/
def rowOf (d : D) : Option (List D) := match lstOf d with
  | some ds => some ds
  | none => tupOf d
section
variable {K : PySem.W.Frag} {w : Wd}
theorem SqB.same {b : Bool} {H H' : Hp} {a : Addr} {xs : List V} (e : Same H H') (h : SqB K b H a xs) : SqB K b H' a xs := by
  cases b with
  | true => exact same_rdT e h
  | false => exact e.seq h
theorem row_frz {d : D} {ds : List D} {ℓ : Loc} {v : V} (e : rowOf d = some ds) (r : Rep K w d.frz ℓ v) : ∃ b a vs, v = .ref a ∧ SqB K b w.S a vs ∧ ds.length ≤ sizeLine ∧ ownL ds = false ∧ ∀ ℓ j, RepL K w ds ℓ j vs := by
  have lst : ∀ {o : Ow} {xs : List D}, o.light = true → Rep K w (D.lst o xs).frz ℓ v → ∃ b a vs, v = .ref a ∧ SqB K b w.S a vs ∧ xs.length ≤ sizeLine ∧ ownL xs = false ∧ ∀ ℓ j, RepL K w xs ℓ j vs := fun {o xs} ho r => by
    have : (D.lst o xs).frz = .lst .ice xs := by cases o <;> first | rfl | cases ho
    rw [this] at r
    simp only [Rep] at r
    obtain ⟨a, vs, rfl, h1, hz, h2⟩ := r
    have h1 : w.S a = some (.lst vs) := h1
    exact ⟨false, a, vs, rfl, SqL.of h1, hz.1, hz.2 rfl, fun ℓ j => h2.free (Same.refl _) _ (hz.2 rfl)⟩
  cases d with
  | lst o xs =>
    cases o with
    | ice => cases e; exact lst rfl r
    | flat => cases e; exact lst rfl r
    | deep => cases e
  | tup o xs =>
    cases o with
    | true => cases e
    | false =>
      cases e
      simp only [D.frz, Rep] at r
      obtain ⟨a, vs, rfl, h1, hz, h2⟩ := r
      have ho : ownL ds = false := by have := hz.2; simpa using this
      exact ⟨true, a, vs, rfl, SqT.of h1, hz.1, ho, fun ℓ j => h2.free (Same.refl _) _ ho⟩
  | ro t xs =>
    cases t with
    | true =>
      cases e
      simp only [D.frz, Rep] at r
      obtain ⟨a, vs, rfl, h1, hz, h2⟩ := r
      exact ⟨true, a, vs, rfl, h1, hz.1, hz.2, fun ℓ j => h2.free (Same.refl _) _ hz.2⟩
    | false =>
      cases e
      simp only [D.frz, Rep] at r
      obtain ⟨a, vs, rfl, h1, hz, h2⟩ := r
      exact ⟨false, a, vs, rfl, h1, hz.1, hz.2, fun ℓ j => h2.free (Same.refl _) _ hz.2⟩
  | _ => cases e
/-- all temporaries from τ on frozen -/
theorem EndE.iceA {σ : Sl} {ρ : En} {τ : Nat} {ads : List AD} {vs : List V} {ds : List D} (hn : ρ.length < τ) (st : StE K w σ ρ) (r : ArgsAt K w σ ads τ vs) (e : vals ads = some ds) :
    ∃ w' : Wd, w'.H = w.H ∧ EndE K τ w σ ρ ρ w' ∧ ∀ (i : Nat) (d : D) (v : V), ds[i]? = some d → vs[i]? = some v → ∀ ℓ, Rep K w' d.frz ℓ v := by
  obtain ⟨_, _, g⟩ := vals_at r e
  refine ⟨w.ice fun ℓ => match ℓ with | h :: _ => decide (τ ≤ h) | [] => false, rfl, ⟨rfl, st.to st.wf.ice (ice_same st.wf) fun i hi => ice_kept fun s => ?_, ⟨ice_same st.wf, fun a ℓ e ⟨h, s, e2, k⟩ => ?_⟩⟩, fun i d v e1 e2 ℓ => ?_⟩
  · show decide (τ ≤ i + 1) = false
    simp; omega
  · subst e2
    have := ice_kept (w := w) (ℓ := h :: s) (P := fun ℓ => match ℓ with | h :: _ => decide (τ ≤ h) | [] => false) (fun t => by
      show decide (τ ≤ h) = false
      simp; omega) a [] (by simpa using e)
    simpa using this
  · exact Rep.frz (w := w) (ice_same st.wf) d (ice_frz fun s => by show decide (τ ≤ τ + i) = true; simp) (g i d v e1 e2)
def enD : Nat → List D → List D
  | _, [] => []
  | k, d :: r => .tup false [.int k, d] :: enD (k + 1) r
theorem enD_get : ∀ (k : Nat) (ds : List D) (i : Nat), (enD k ds)[i]? = (ds[i]?).map fun d => .tup false [.int ((k + i : Nat) : Int), d]
  | k, [], i => by simp [enD]
  | k, d :: r, 0 => rfl
  | k, d :: r, i + 1 => by
    have := enD_get (k + 1) r i
    rw [show k + 1 + i = k + (i + 1) by omega] at this
    simpa [enD] using this
theorem enD_len : ∀ (k : Nat) (ds : List D), (enD k ds).length = ds.length
  | _, [] => rfl
  | k, d :: r => by simp [enD, enD_len (k + 1) r]
def zpD : List D → List D → List D
  | d :: r, e :: q => .tup false [d, e] :: zpD r q
  | _, _ => []
theorem zpD_get : ∀ (ds es : List D) (i : Nat) (x : D), (zpD ds es)[i]? = some x → ∃ d e, ds[i]? = some d ∧ es[i]? = some e ∧ x = .tup false [d, e]
  | [], _, i, x, h => by simp [zpD] at h
  | _ :: _, [], i, x, h => by simp [zpD] at h
  | d :: r, e :: q, 0, x, h => by cases h; exact ⟨d, e, rfl, rfl, rfl⟩
  | d :: r, e :: q, i + 1, x, h => zpD_get r q i x (by simpa [zpD] using h)
theorem zpD_len : ∀ (ds es : List D), (zpD ds es).length = min ds.length es.length
  | [], _ => by simp [zpD]
  | _ :: _, [] => by simp [zpD]
  | d :: r, e :: q => by simp only [zpD, List.length_cons, zpD_len r q]; omega
theorem pair_new {w1 : Wd} (wf : Wf w1) {T : Addr} (n : w1.H T = none) {d e : D} {x y : V} (hd : d.own = false) (he : e.own = false) (r : ∀ ℓ, Rep K w1 d ℓ x) (r' : ∀ ℓ, Rep K w1 e ℓ y) :
    Grow w1 (w1.shr T (.tup [x, y])) ∧ ∀ ℓ, Rep K (w1.shr T (.tup [x, y])) (.tup false [d, e]) ℓ (.ref T) := by
  refine ⟨⟨wf.shr n, shr_same wf n, fun ℓ => shr_kept wf n⟩, fun ℓ => ?_⟩
  simp only [Rep]
  refine ⟨T, [x, y], rfl, upd_same, ⟨(by decide : 2 ≤ sizeLine), fun _ => by simp [ownL, hd, he]⟩, RepL.to (w := w1) (shr_same wf n) [d, e] (shr_kept wf n) ?_⟩
  simp only [RepL]
  exact ⟨x, [y], rfl, r _, y, [], rfl, r' _, rfl⟩
theorem it_E {b : Bool} {a : Addr} {vs : List V} {ds : List D} (h : SqB K b w.S a vs) (ho : ownL ds = false) (r : ∀ ℓ j, RepL K w ds ℓ j vs) : ItOk K (ItE K b a) (enD 0 ds) w := by
  intro i w1 wf1 sm
  have hq : SqB K b w1.H a vs := (h.same sm).same wf1.sh
  refine ⟨fun d e => ?_, fun hl => ⟨vs, hq, by rw [hl, enD_len, (r [] 0).length]⟩⟩
  rw [enD_get] at e
  cases q : ds[i]? with
  | none => rw [q] at e; cases e
  | some x =>
    rw [q] at e; cases e
    obtain ⟨v, ev, rv⟩ := (r [] 0).get q
    have hx : x.own = false := ownL_iff.mp ho x (List.mem_of_getElem? q)
    refine ⟨⟨vs, v, hq, ev⟩, fun u H' ⟨T, y, eu, nT, eH, hy⟩ => ?_⟩
    subst eu; subst eH
    have := hy vs hq
    rw [ev] at this; cases this
    obtain ⟨g1, g2⟩ := pair_new wf1 nT (d := .int i) rfl hx (fun ℓ => rfl) (fun ℓ => rv.free sm x hx)
    refine ⟨w1.shr T (.tup [.int (i : Nat), v]), rfl, g1, rfl, fun ℓ => ?_⟩
    rw [Nat.zero_add]
    exact g2 ℓ
theorem it_Z {b b' : Bool} {a a' : Addr} {vs us : List V} {ds es : List D} (h : SqB K b w.S a vs) (h' : SqB K b' w.S a' us) (ho : ownL ds = false) (ho' : ownL es = false) (r : ∀ ℓ j, RepL K w ds ℓ j vs) (r' : ∀ ℓ j, RepL K w es ℓ j us) : ItOk K (ItZ K b b' a a') (zpD ds es) w := by
  intro i w1 wf1 sm
  have hq : SqB K b w1.H a vs := (h.same sm).same wf1.sh
  have hq' : SqB K b' w1.H a' us := (h'.same sm).same wf1.sh
  refine ⟨fun x e => ?_, fun hl => ⟨vs, us, hq, hq', ?_⟩⟩
  · obtain ⟨d, e', q, q', rfl⟩ := zpD_get _ _ _ _ e
    obtain ⟨v, ev, rv⟩ := (r [] 0).get q
    obtain ⟨u, eu, ru⟩ := (r' [] 0).get q'
    have hd : d.own = false := ownL_iff.mp ho d (List.mem_of_getElem? q)
    have he : e'.own = false := ownL_iff.mp ho' e' (List.mem_of_getElem? q')
    refine ⟨⟨vs, us, v, u, hq, hq', ev, eu⟩, fun z H' ⟨T, y1, y2, ez, nT, eH, k1, k2⟩ => ?_⟩
    subst ez; subst eH
    have j1 := k1 vs hq
    have j2 := k2 us hq'
    rw [ev] at j1; cases j1
    rw [eu] at j2; cases j2
    obtain ⟨g1, g2⟩ := pair_new wf1 nT hd he (fun ℓ => rv.free sm d hd) (fun ℓ => ru.free sm e' he)
    exact ⟨w1.shr T (.tup [v, u]), rfl, g1, rfl, g2⟩
  · rw [hl, zpD_len, (r [] 0).length, (r' [] 0).length]
    omega
end
def rEn (ra : RA) : RI := fun ρ E Q => ra ρ E fun ads ρ' => onVals ads fun ds => match ds with
  | [d] => match rowOf d with
    | some xs => Q (enD 0 xs) ρ'
    | none => False
  | _ => False
def rZp (ra : RA) : RI := fun ρ E Q => ra ρ E fun ads ρ' => onVals ads fun ds => match ds with
  | [d, e] => match rowOf d with
    | some xs => match rowOf e with
      | some ys => Q (zpD xs ys) ρ'
      | none => False
    | none => False
  | _ => False
section
variable {X : Cx} {W : WX} {p pos tpos : Pos} {elts : List Expr} {kk : Nat} {ra : RA}
theorem fi_enum {e : Expr} (ha : FA X W [e] ra) (hm : X.mg "enumerate" = none) (hg : Gl X "enumerate" := by rfl) (hs : starEach [e] X.env = [(false, eval e X.env)] := by rfl) : FI X W (.Tuple elts kk tpos) (.Call (.Name "enumerate" p) [e] [] pos) (rEn ra) := by
  obtain ⟨t, q, k⟩ := ha.ex
  refine ⟨_, pi_E hg hm q hs, fun τ w σ ρ E Q R hn st h hq hx => ?_⟩
  refine k τ w σ ρ E _ _ hn st h (fun ads ρ1 w1 vs h1 l1 e1 r1 => ?_) hx
  obtain ⟨ds, ed, h1⟩ := onVals_elim h1
  obtain ⟨w2, e0, e2, g⟩ := EndE.iceA (by rw [e1.len]; exact hn) e1.st r1 ed
  obtain ⟨l2, _, _⟩ := vals_at r1 ed
  match ds, vs, l2, h1, g with
  | [d], [v], _, h1, g =>
    have h1 : (match rowOf d with | some xs => Q (enD 0 xs) ρ1 | none => False) := h1
    cases er : rowOf d with
    | none => rw [er] at h1; exact h1.elim
    | some xs =>
      rw [er] at h1
      obtain ⟨b, a, us, rfl, h2, hz, ho, h3⟩ := row_frz er (g 0 d v rfl rfl [])
      rw [← e0]
      exact ⟨b, a, us, rfl, h2.same e2.st.wf.sh, hq _ ρ1 w2 _ h1 (by rw [enD_len]; exact hz) (e1.trans e2 (Nat.le_refl _)) (it_E h2 ho h3)⟩
theorem fi_zip {e e2 : Expr} (ha : FA X W [e, e2] ra) (hm : X.mg "zip" = none) (hg : Gl X "zip" := by rfl) (hs : starEach [e, e2] X.env = (false, eval e X.env) :: starEach [e2] X.env := by rfl) (hpl : (backTo pos (starEach [e2] X.env)).any (·.1) = false := by rfl) :
    FI X W (.Tuple elts kk tpos) (.Call (.Name "zip" p) [e, e2] [] pos) (rZp ra) := by
  obtain ⟨t, q, k⟩ := ha.ex
  refine ⟨_, pi_Z hg hm q hs hpl, fun τ w σ ρ E Q R hn st h hq hx => ?_⟩
  refine k τ w σ ρ E _ _ hn st h (fun ads ρ1 w1 vs h1 l1 e1 r1 => ?_) hx
  obtain ⟨ds, ed, h1⟩ := onVals_elim h1
  obtain ⟨w2, e0, e2, g⟩ := EndE.iceA (by rw [e1.len]; exact hn) e1.st r1 ed
  obtain ⟨l2, _, _⟩ := vals_at r1 ed
  match ds, vs, l2, h1, g with
  | [d, d'], [v, v'], _, h1, g =>
    have h1 : (match rowOf d with | some xs => (match rowOf d' with | some ys => Q (zpD xs ys) ρ1 | none => False) | none => False) := h1
    cases er : rowOf d with
    | none => rw [er] at h1; exact h1.elim
    | some xs =>
      cases er' : rowOf d' with
      | none => rw [er, er'] at h1; exact h1.elim
      | some ys =>
        rw [er, er'] at h1
        obtain ⟨b, a, us, rfl, h2, hz, ho, h3⟩ := row_frz er (g 0 d v rfl rfl [])
        obtain ⟨b', a', us', rfl, h2', hz', ho', h3'⟩ := row_frz er' (g 1 d' v' rfl rfl [])
        rw [← e0]
        exact ⟨b, b', a, a', us, us', rfl, h2.same e2.st.wf.sh, h2'.same e2.st.wf.sh, hq _ ρ1 w2 _ h1 (by rw [zpD_len]; omega) (e1.trans e2 (Nat.le_refl _)) (it_Z h2 h2' ho ho' h3 h3')⟩
end
theorem lookup_bent (g : Bool) (f : Str → Bool) : ∀ {names : List (Str × NameKind)} {x : Str}, names.lookup x = some .cell ∨ names.lookup x = some .free →
    (names.map fun (n, k) => if (k == NameKind.free && g && f n) then (n, NameKind.cell) else (n, k)).lookup x = some .cell ∨ (names.map fun (n, k) => if (k == NameKind.free && g && f n) then (n, NameKind.cell) else (n, k)).lookup x = some .free
  | [], x, h => by simp at h
  | (n, k) :: r, x, h => by
    rw [List.map_cons]
    have e : ∃ k', (if (k == NameKind.free && g && f n) then (n, NameKind.cell) else (n, k)) = (n, k') ∧ (k' = k ∨ k = .free ∧ k' = .cell) := by
      by_cases q : (k == NameKind.free && g && f n) = true
      · rw [if_pos q]
        simp only [Bool.and_eq_true, beq_iff_eq] at q
        exact ⟨_, rfl, .inr ⟨q.1.1, rfl⟩⟩
      · rw [if_neg q]; exact ⟨_, rfl, .inl rfl⟩
    obtain ⟨k', e, hk⟩ := e
    show List.lookup x ((if (k == NameKind.free && g && f n) then (n, NameKind.cell) else (n, k)) :: _) = _ ∨ List.lookup x ((if (k == NameKind.free && g && f n) then (n, NameKind.cell) else (n, k)) :: _) = _
    rw [e]
    by_cases hx : (x == n) = true
    · rw [List.lookup_cons, hx] at h ⊢
      simp only [Option.some.injEq] at h ⊢
      rcases hk with rfl | ⟨rfl, rfl⟩
      · exact h
      · exact .inl rfl
    · have hx : (x == n) = false := by simpa using hx
      rw [List.lookup_cons, hx] at h ⊢
      exact lookup_bent g f h
/-- a comprehension within another: its block's names -/
theorem blk_ok {X : Cx} {scope scope' : Scope} {own : List (Str × Nat)} {c : BlkC} {N : List Str} (hN : X.N = N) (h : BlkOk N scope scope' own) : BlkOk (Cx.blkC X scope c).N (Cx.blkC X scope c).env.scope scope' own := by
  subst hN
  exact ⟨h.kind, h.uniq, h.ix, fun y hy e => lookup_bent (X.env.scope.kind == .function) (fun n => X.env.kindOf n == some .cell) (h.free y hy e), h.own⟩
/-! ### a row of either kind walked -/
def ItRow (K : PySem.W.Frag) (b : Bool) (a : Addr) : It := if b then Itt K a else Itl K a
def iRow (K : PySem.W.Frag) (te : TE) : TI := fun σ H R => te σ H fun x H1 => ∃ b a xs, x = .ref a ∧ SqB K b H1 a xs ∧ R (ItRow K b a) H1
theorem pi_row {X : Cx} {tg e : Expr} {te : TE} (he : PE X e te) : PI X tg e (iRow X.K te) := by
  refine ⟨fun pins s σ H R I h => thn (he.run pins s σ H _ I h) fun v s1 ⟨x, H1, I1, r1, b, a, xs, ev, hq, q⟩ => ?_⟩
  subst ev
  cases r1
  obtain ⟨its, rv, p, hz⟩ := row_of I1 hq
  refine (begins_row b a its.toArray).iter _ _ _ _ s1 _ p ?_
  have hf : ∀ c ∈ [s1.heap.objs.size], FpOk X pins H1 c := fun c hc => by
    rw [List.mem_singleton.mp hc]
    exact I1.fpOk (Nat.le_refl _) (I1.hok.fresh (Nat.le_refl _))
  cases b with
  | true => exact ⟨_, _, _, _, H1, rfl, I1.kept (t' := s1.toks) fun c o e => Heap.get?_push_of_some _ e, turn_tuple a _, ⟨_, Heap.get?_push_size _ rfl, rfl, rfl⟩, hf, q⟩
  | false => exact ⟨_, _, _, _, H1, rfl, I1.kept (t' := s1.toks) fun c o e => Heap.get?_push_of_some _ e, turn_list a _, ⟨_, Heap.get?_push_size _ rfl, rfl, rfl⟩, hf, q⟩
def rItA (re : RE) : RI := fun ρ E Q => re ρ E fun d ρ' => match rowOf d with
  | some ds => Q ds ρ'
  | none => False
theorem fi_row {X : Cx} {W : WX} {tg e : Expr} {re : RE} (h : FE X W e re) : FI X W tg e (rItA re) := by
  obtain ⟨t, q, k⟩ := h.ex
  refine ⟨_, pi_row q, fun τ w σ ρ E Q R hn st h hq hx => ?_⟩
  refine k τ w σ ρ E _ _ hn st h (fun d ρ1 w1 v h1 e1 r1 => ?_) hx
  cases er : rowOf d with
  | none => simp only [er] at h1
  | some ds =>
    simp only [er] at h1
    obtain ⟨w2, e0, e2, r2⟩ := EndE.iceT (by rw [e1.len]; exact hn) e1.st r1
    obtain ⟨b, a, vs, rfl, h2, hz, ho, h3⟩ := row_frz er (r2 [])
    rw [← e0]
    refine ⟨b, a, vs, rfl, h2.same e2.st.wf.sh, hq ds ρ1 w2 _ h1 hz (e1.trans e2 (Nat.le_refl _)) ?_⟩
    cases b with
    | true => exact it_tup h2 ho fun ℓ => h3 ℓ 0
    | false => exact it_list h2 ho fun ℓ => h3 ℓ 0
/-! ### a value frozen -/
def rFrz (re : RE) : RE := fun ρ E Q => re ρ E fun d ρ' => Q d.frz ρ'
theorem fe_frz {X : Cx} {W : WX} {e : Expr} {re : RE} (h : FE X W e re) : FE X W e (rFrz re) := by
  obtain ⟨t, q, k⟩ := h.ex
  refine ⟨_, q, fun τ w σ ρ E Q Qv hn st h hq hx => ?_⟩
  refine k τ w σ ρ E _ _ hn st h (fun d ρ1 w1 v h1 e1 r1 => ?_) hx
  obtain ⟨w2, e0, e2, r2⟩ := EndE.iceT (by rw [e1.len]; exact hn) e1.st r1
  rw [← e0]
  exact hq _ ρ1 w2 v h1 (e1.trans e2 (Nat.le_refl _)) (r2 _)
end FL
/-! FL16: for proofs over data: equal data, comprehensions by what holds, rows of ints. -/
namespace FL
open PySem PySem.Spec PyProof.Rows L2
mutual
theorem eqv_self : ∀ x : PyData, x.plain = true → PyData.eqv x x = true
  | .none, _ => by simp [PyData.eqv]
  | .bool _, _ => by simp [PyData.eqv]
  | .int _, _ => by simp [PyData.eqv]
  | .str _, _ => by simp [PyData.eqv]
  | .list xs, h => by simp only [PyData.eqv]; exact eqvAll_self xs (by simpa [PyData.plain] using h)
  | .tuple xs, h => by simp only [PyData.eqv]; exact eqvAll_self xs (by simpa [PyData.plain] using h)
  | .dict _, h => by simp [PyData.plain] at h
theorem eqvAll_self : ∀ xs : List PyData, PyData.plainAll xs = true → PyData.eqvAll xs xs = true
  | [], _ => by simp [PyData.eqvAll]
  | x :: xs, h => by
    simp only [PyData.plainAll, Bool.and_eq_true] at h
    simp only [PyData.eqvAll, eqv_self x h.1, eqvAll_self xs h.2, Bool.and_self]
end
theorem deq_py {a b : D} (h : a.dat = true) (e : a.py = b.py) : deq a b = true := by
  unfold deq
  rw [← e]
  exact eqv_self _ (py_plain a h)
theorem deq_self {a : D} (h : a.dat = true) : deq a a = true := deq_py h rfl
theorem pyL_map {α : Type} (f : α → D) : ∀ xs : List α, pyL (xs.map f) = xs.map fun x => (f x).py
  | [] => rfl
  | x :: xs => by simp [pyL, pyL_map f xs]
theorem pyL_append : ∀ xs ys : List D, pyL (xs ++ ys) = pyL xs ++ pyL ys
  | [], _ => rfl
  | x :: xs, ys => by simp [pyL, pyL_append xs ys]
theorem datL_all {ds : List D} : datL ds = true ↔ ∀ d ∈ ds, d.dat = true := by
  induction ds with
  | nil => simp [datL]
  | cons d r ih => simp [datL, ih]
theorem datL_map {α : Type} {f : α → D} {xs : List α} (h : ∀ x ∈ xs, (f x).dat = true) : datL (xs.map f) = true := datL_all.mpr fun d hd => by
  obtain ⟨x, hx, rfl⟩ := List.mem_map.mp hd
  exact h x hx
theorem depL_le {ds : List D} {n : Nat} (h : ∀ d ∈ ds, d.dep ≤ n) : depL ds ≤ n := by
  induction ds with
  | nil => simp [depL]
  | cons d r ih =>
    simp only [depL]
    have h1 := h d List.mem_cons_self
    have h2 := ih fun e he => h e (List.mem_cons_of_mem _ he)
    omega
theorem depL_map {α : Type} {f : α → D} {xs : List α} {n : Nat} (h : ∀ x ∈ xs, (f x).dep ≤ n) : depL (xs.map f) ≤ n := depL_le fun d hd => by
  obtain ⟨x, hx, rfl⟩ := List.mem_map.mp hd
  exact h x hx
theorem own_map {α : Type} {f : α → D} {xs : List α} (h : ∀ x, (f x).own = false) : ownL (xs.map f) = false := ownL_iff.mpr fun d hd => by
  obtain ⟨x, _, rfl⟩ := List.mem_map.mp hd
  exact h x
/-- against the empty row -/
theorem deq_nilL {o o' : Ow} {ds : List D} : deq (.lst o ds) (.lst o' []) = ds.isEmpty := by
  cases ds with
  | nil => rfl
  | cons d r => rfl
theorem eqvAll_ints : ∀ xs ys : List Int, PyData.eqvAll (xs.map PyData.int) (ys.map PyData.int) = decide (xs = ys)
  | [], [] => by simp [PyData.eqvAll]
  | [], y :: ys => by simp [PyData.eqvAll]
  | x :: xs, [] => by simp [PyData.eqvAll]
  | x :: xs, y :: ys => by
    simp only [List.map_cons, PyData.eqvAll, PyData.eqv, eqvAll_ints xs ys, List.cons.injEq, Bool.decide_and]
    congr 1
/-- a comprehension by what holds between its turns, its parts frozen -/
theorem compR_flat {f : D → En → (Option D → En → Prop) → Prop} {vs : List Nat} {Q : Ow → List D → En → Prop} (I : Nat → List D → En → Prop) : ∀ (ds : List D) (k : Nat) (acc : List D) (ρ : En), I k acc ρ →
    (∀ i d acc ρ, ds[i]? = some d → I (k + i) acc ρ → f d ρ fun o ρ' => (∀ y, o = some y → y.own = false) ∧ I (k + i + 1) (acc ++ o.toList) (wipeD ρ' vs)) → (∀ acc ρ, I (k + ds.length) acc ρ → Q .flat acc ρ) → compR f vs ds ρ .flat acc Q
  | [], k, acc, ρ, h0, _, hd => hd acc ρ h0
  | d :: ds, k, acc, ρ, h0, hs, hd => by
    refine ⟨_, hs 0 d acc ρ rfl h0, fun o ρ' ⟨ho, h⟩ => ?_⟩
    have : kindR .flat o = .flat := by
      cases o with
      | none => rfl
      | some y =>
        have := ho y rfl
        simp only [kindR, this]
    rw [this]
    refine compR_flat I ds (k + 1) _ _ h (fun i d' a2 ρ2 e h2 => ?_) fun a2 ρ2 h2 => hd a2 ρ2 (by rw [List.length_cons, show k + (ds.length + 1) = k + 1 + ds.length by omega]; exact h2)
    have := hs (i + 1) d' a2 ρ2 (by simpa using e) (by rw [show k + (i + 1) = k + 1 + i by omega]; exact h2)
    rw [show k + (i + 1) + 1 = k + 1 + i + 1 by omega] at this
    exact this
/-- a comprehension that changes nothing: each part by itself -/
theorem compR_pure {f : D → En → (Option D → En → Prop) → Prop} {vs : List Nat} {Q : Ow → List D → En → Prop} (G : D → Option D) : ∀ (ds : List D) (acc : List D) (ρ : En),
    (∀ d ∈ ds, f d ρ fun o ρ' => o = G d ∧ wipeD ρ' vs = ρ) → (∀ d ∈ ds, ∀ y, G d = some y → y.own = false) → Q .flat (acc ++ ds.filterMap G) ρ → compR f vs ds ρ .flat acc Q
  | [], acc, ρ, _, _, q => by simpa [compR] using q
  | d :: ds, acc, ρ, h, ho, q => by
    refine ⟨_, h d List.mem_cons_self, fun o ρ' ⟨e1, e2⟩ => ?_⟩
    subst e1
    have : kindR .flat (G d) = .flat := by
      cases e : G d with
      | none => rfl
      | some y =>
        have := ho d List.mem_cons_self y e
        simp only [kindR, this]
    rw [this, e2]
    refine compR_pure G ds _ ρ (fun d' hd => h d' (List.mem_cons_of_mem _ hd)) (fun d' hd => ho d' (List.mem_cons_of_mem _ hd)) ?_
    rw [List.append_assoc]
    have e : (G d).toList ++ ds.filterMap G = (d :: ds).filterMap G := by
      rw [List.filterMap_cons]
      cases G d <;> rfl
    rw [e]
    exact q
theorem compR_map {α : Type} {f : D → En → (Option D → En → Prop) → Prop} {vs : List Nat} {Q : Ow → List D → En → Prop} (g : α → D) (h : α → Option D) : ∀ (xs : List α) (acc : List D) (ρ : En),
    (∀ x ∈ xs, f (g x) ρ fun o ρ' => o = h x ∧ wipeD ρ' vs = ρ) → (∀ x ∈ xs, ∀ y, h x = some y → y.own = false) → Q .flat (acc ++ xs.filterMap h) ρ → compR f vs (xs.map g) ρ .flat acc Q
  | [], acc, ρ, _, _, q => by simpa [compR] using q
  | x :: xs, acc, ρ, k, ho, q => by
    refine ⟨_, k x List.mem_cons_self, fun o ρ' ⟨e1, e2⟩ => ?_⟩
    subst e1
    have : kindR .flat (h x) = .flat := by
      cases e : h x with
      | none => rfl
      | some y =>
        have := ho x List.mem_cons_self y e
        simp only [kindR, this]
    rw [this, e2]
    refine compR_map g h xs _ ρ (fun x' hx => k x' (List.mem_cons_of_mem _ hx)) (fun x' hx => ho x' (List.mem_cons_of_mem _ hx)) ?_
    rw [List.append_assoc]
    have e : (h x).toList ++ xs.filterMap h = (x :: xs).filterMap h := by
      rw [List.filterMap_cons]
      cases h x <;> rfl
    rw [e]
    exact q
/-- .. each part by a rule -/
theorem compR_all {α : Type} {f : D → En → (Option D → En → Prop) → Prop} {vs : List Nat} {Q : Ow → List D → En → Prop} (g h : α → D) (xs : List α) (ρ : En)
    (k : ∀ x ∈ xs, f (g x) ρ fun o ρ' => o = some (h x) ∧ wipeD ρ' vs = ρ) (ho : ∀ x, (h x).own = false) (q : Q .flat (xs.map h) ρ) : compR f vs (xs.map g) ρ .flat [] Q :=
  compR_map g (fun x => some (h x)) xs [] ρ k (fun x _ y e => by cases e; exact ho x) (by
    have e : xs.filterMap (fun x => some (h x)) = xs.map h := by simp
    rw [List.nil_append, e]
    exact q)
/-- what is equal is not told unequal -/
theorem ne_no {a b : D} (h : (true ^^ deq a b) = true) (hd : a.dat = true) (e : a.py = b.py) : False := by
  rw [deq_py hd e] at h
  cases h
theorem eq_no {a b : D} (h : (false ^^ deq a b) = false) (hd : a.dat = true) (e : a.py = b.py) : False := by
  rw [deq_py hd e] at h
  cases h
end FL
/-! FL17: dicts: d[k] = v, d.get(k, x). -/
namespace FL
open PySem PySem.Spec PyProof.Rows L2
section
variable {κ : Type} [DecidableEq κ]
theorem putK_zip (f : D → κ) (k : D) (v : V) : ∀ (ks : List D) (us : List V), ks.length = us.length → (ks.map f).Nodup →
    putK ((ks.map f).zip us) (f k) v = match ks.findIdx? fun k' => decide (f k' = f k) with
      | some i => (ks.map f).zip (us.set i v)
      | none => ((ks ++ [k]).map f).zip (us ++ [v])
  | [], [], _, _ => by simp [putK]
  | a :: ks, u :: us, hl, hn => by
    rw [List.map_cons, List.nodup_cons] at hn
    have ih := putK_zip f k v ks us (by simpa using hl) hn.2
    rw [List.findIdx?_cons]
    by_cases e : f a = f k
    · rw [if_pos (by simpa using e)]
      have hno : ∀ p ∈ (ks.map f).zip us, p.1 ≠ f k := fun p hp z => hn.1 (by rw [e, ← z]; exact (List.of_mem_zip hp).1)
      unfold putK
      rw [if_pos (by simp [e])]
      simp only [List.map_cons, List.zip_cons_cons, e, if_true, List.set_cons_zero]
      congr 1
      have : ((ks.map f).zip us).map (fun kv => if kv.1 = f k then (kv.1, v) else kv) = ((ks.map f).zip us).map id := List.map_congr_left fun p hp => if_neg (hno p hp)
      rw [this, List.map_id]
    · rw [if_neg (by simpa using e)]
      unfold putK at ih ⊢
      rw [List.map_cons, List.zip_cons_cons, List.any_cons, decide_eq_false (by exact e), Bool.false_or]
      cases q : ks.findIdx? fun k' => decide (f k' = f k) with
      | none =>
        rw [q] at ih
        by_cases b : (((ks.map f).zip us).any fun kv => decide (kv.1 = f k)) = true
        · rw [if_pos b] at ih ⊢
          rw [List.map_cons, if_neg (by exact e), ih]
          simp
        · rw [if_neg b] at ih ⊢
          simp only [Option.map_none, List.cons_append, List.map_cons, List.zip_cons_cons]
          rw [ih]
      | some i =>
        rw [q] at ih
        by_cases b : (((ks.map f).zip us).any fun kv => decide (kv.1 = f k)) = true
        · rw [if_pos b] at ih ⊢
          rw [List.map_cons, if_neg (by exact e), ih]
          simp
        · rw [if_neg b] at ih ⊢
          have ih : (ks.map f).zip us ++ [(f k, v)] = (ks.map f).zip (us.set i v) := ih
          show (f a, u) :: ((ks.map f).zip us ++ [(f k, v)]) = (f a, u) :: (ks.map f).zip (us.set i v)
          rw [ih]
end
/-- the keys behind d[k] = .. -/
def putKs (t : Bool) (ks : List D) (k : D) : List D := match kIdx t ks k with
  | some _ => ks
  | none => ks ++ [k]
def putDs {α : Type} (t : Bool) (ks : List D) (k : D) (ds : List α) (d : α) : List α := match kIdx t ks k with
  | some i => ds.set i d
  | none => ds ++ [d]
theorem idx_none {t : Bool} {ks : List D} {k : D} (h : kIdx t ks k = none) : ∀ k' ∈ ks, keyEq t k' k = false := fun k' hk => by
  have := List.findIdx?_eq_none_iff.mp h k' hk
  simpa using this
theorem putKs_ok {t : Bool} {ks : List D} {k : D} (h : keysOk t ks = true) (hk : keyOk t k = true) : keysOk t (putKs t ks k) = true := by
  unfold putKs
  split
  · exact h
  · rename_i e
    have no := idx_none e
    unfold keysOk at h ⊢
    simp only [Bool.and_eq_true] at h ⊢
    refine ⟨by rw [List.all_append, h.1]; simp [hk], ?_⟩
    cases t with
    | true =>
      have h2 : (ks.map tkey).Nodup := by simpa using h.2
      have : ((ks ++ [k]).map tkey).Nodup := by
        rw [List.map_append, List.nodup_append]
        refine ⟨h2, by simp, fun a ha b hb => ?_⟩
        obtain ⟨k', hk', rfl⟩ := List.mem_map.mp ha
        have hb : b = tkey k := by simpa using hb
        rw [hb]
        have := no k' hk'
        simpa [keyEq] using this
      simpa using this
    | false =>
      have h2 : (ks.map skey).Nodup := by simpa using h.2
      have : ((ks ++ [k]).map skey).Nodup := by
        rw [List.map_append, List.nodup_append]
        refine ⟨h2, by simp, fun a ha b hb => ?_⟩
        obtain ⟨k', hk', rfl⟩ := List.mem_map.mp ha
        have hb : b = skey k := by simpa using hb
        rw [hb]
        have := no k' hk'
        simpa [keyEq] using this
      simpa using this
theorem putDs_len {α : Type} {t : Bool} {ks : List D} {k : D} {ds : List α} {d : α} (h : ks.length = ds.length) : (putKs t ks k).length = (putDs t ks k ds d).length := by
  unfold putKs putDs
  split <;> simp [h]
theorem dHO_put {t : Bool} {ks : List D} {us : List V} {k : D} {v : V} (hl : ks.length = us.length) (hk : keysOk t ks = true) :
    dHO t (putKs t ks k) (putDs t ks k us v) = if t then .dT (putK ((ks.map tkey).zip us) (tkey k) v) else .dK (putK ((ks.map skey).zip us) (skey k) v) := by
  unfold keysOk at hk
  simp only [Bool.and_eq_true] at hk
  cases t with
  | true =>
    have h2 : (ks.map tkey).Nodup := by simpa using hk.2
    have e := putK_zip tkey k v ks us hl h2
    have ei : kIdx true ks k = ks.findIdx? fun k' => decide (tkey k' = tkey k) := rfl
    unfold putKs putDs dHO
    rw [ei]
    simp only [if_true]
    rw [e]
    split <;> rfl
  | false =>
    have h2 : (ks.map skey).Nodup := by simpa using hk.2
    have e := putK_zip skey k v ks us hl h2
    have ei : kIdx false ks k = ks.findIdx? fun k' => decide (skey k' = skey k) := rfl
    unfold putKs putDs dHO
    rw [ei]
    simp only [Bool.false_eq_true, if_false]
    rw [e]
    split <;> rfl
/-! ### d[k] = v -/
section
variable {K : PySem.W.Frag} {w : Wd}
theorem dict_at {d0 : D} {h0 : Nat} {v0 u : V} {p : List Nat} {o : Ow} {t : Bool} {ks ds : List D} (ho : o.mine = true) (r0 : Rep K w d0 [h0] v0) (at0 : AtV K w d0 [h0] v0 p (.dct o t ks ds) u) :
    ∃ a us, u = .ref a ∧ w.G a = some (h0 :: p) ∧ w.H a = some (dHO t ks us) ∧ (ks.length = us.length ∧ keysOk t ks = true ∧ Lt o ds) ∧ RepL K w ds (h0 :: p) 0 us := by
  have ra := at0.rep r0
  simp only [Rep] at ra
  obtain ⟨a, us, ea, th, hz, hl⟩ := ra
  rw [if_pos ho] at th
  obtain ⟨ta, ha⟩ := th
  exact ⟨a, us, ea, ta, ha, hz, hl⟩
theorem dict_end {σ : Sl} {ρ : En} {i τ τ1 : Nat} {d0 : D} {v0 : V} {p : List Nat} {o o' : Ow} {t : Bool} {ks ks' ds ds' : List D} {a : Addr} {vs' : List V} {L : Loc} (ho : o.mine = true) (ho' : o'.mine = true) (st : StE K w σ ρ) (hi : ρ[i]? = some (some d0)) (hv : σ[i]? = some (some v0)) (r0 : Rep K w d0 [i + 1] v0)
    (at0 : AtV K w d0 [i + 1] v0 p (.dct o t ks ds) (.ref a)) (hτ : ρ.length < τ) (hτ1 : τ ≤ τ1) (rl : RepL K (w.ren (moveT τ1 L)) ds' ((i + 1) :: p) 0 vs') (hz : ks'.length = vs'.length ∧ keysOk t ks' = true ∧ Lt o' ds') :
    EndE K τ w σ ρ (ρ.set i (some (d0.put p (.dct o' t ks' ds')))) ((w.ren (moveT τ1 L)).put a (dHO t ks' vs')) := by
  obtain ⟨a', us, ea, ta, ha, _, _⟩ := dict_at ho r0 at0
  cases ea
  have hne : i + 1 ≠ τ1 := by have := (List.getElem?_eq_some_iff.mp hi).1; omega
  refine node_end st hi hv r0 at0 hτ hτ1 ta (by cases t <;> trivial) (fun _ => ho) ?_
  simp only [Rep]
  exact ⟨a, vs', rfl, by rw [if_pos ho']; exact ⟨ren_at ta (moveT_ne hne), upd_same⟩, hz, parts_op hne ta rl⟩
end
def onDct (ρ : En) (i : Nat) (k : Ow → Bool → List D → List D → Prop) : Prop := match ρ[i]? with
  | some (some (.dct o t ks ds)) => match o with
    | .ice => False
    | .flat => k .flat t ks ds
    | .deep => k .deep t ks ds
  | _ => False
theorem onDct_elim {ρ : En} {i : Nat} {k : Ow → Bool → List D → List D → Prop} (h : onDct ρ i k) : ∃ o t ks ds, ρ[i]? = some (some (.dct o t ks ds)) ∧ o.mine = true ∧ k o t ks ds := by
  unfold onDct at h
  split at h
  · rename_i o t ks ds e
    cases o with
    | ice => exact h.elim
    | flat => exact ⟨_, _, _, _, e, rfl, h⟩
    | deep => exact ⟨_, _, _, _, e, rfl, h⟩
  · exact h.elim
/-- x[k] = e, x a dict -/
def rSetD (i : Nat) (rk : RO) (re : RE) : RS := fun ρ E F => re ρ E fun d ρ1 => oN i ρ1 E fun _ ρ1' => rk ρ1' E fun k ρ2 => on1 ρ2 k fun dk => onDct ρ2 i fun o t ks ds =>
  keyOk t dk = true ∧ ks.length < sizeLine ∧ nf (ρ2.set i (some (.dct (o.more d.own) t (putKs t ks dk) (putDs t ks dk ds d)))) F.nx
theorem Lt.put {o : Ow} {t : Bool} {ks : List D} {k : D} {ds : List D} {d : D} (h : Lt o ds) : Lt (o.more d.own) (putDs t ks k ds d) := by
  unfold putDs
  split
  · exact h.set
  · exact h.app
theorem RepL.put {K : PySem.W.Frag} {w : Wd} {t : Bool} {ks : List D} {k : D} {ds : List D} {d : D} {ℓ : Loc} {us : List V} {v : V} (h : RepL K w ds ℓ 0 us) (g : ∀ j, (kIdx t ks k = some j ∨ kIdx t ks k = none ∧ j = ds.length) → Rep K w d (ℓ ++ [j]) v) :
    RepL K w (putDs t ks k ds d) ℓ 0 (putDs t ks k us v) := by
  unfold putDs
  cases e : kIdx t ks k with
  | some j => exact h.set (by rw [Nat.zero_add]; exact g j (.inl e))
  | none => exact h.app (RepL.one (by rw [Nat.zero_add]; exact g _ (.inr ⟨e, rfl⟩)))
theorem DPut.of {K : PySem.W.Frag} {w : Wd} (wf : Wf w) {a : Addr} {t : Bool} {ks : List D} {us : List V} {k : D} {ℓ : Loc} {y v : V} (h : w.H a = some (dHO t ks us)) (hl : ks.length = us.length) (hks : keysOk t ks = true) (hk : keyOk t k = true) (hz : ks.length < sizeLine) (ry : Rep K w k ℓ y) :
    DPut w.H a y v (upd w.H a (dHO t (putKs t ks k) (putDs t ks k us v))) := by
  rw [dHO_put hl hks]
  cases t with
  | true =>
    obtain ⟨b, rfl, hb⟩ := rep_tkey wf ry hk
    exact DPut.t h hb (by rw [List.length_zip, List.length_map, ← hl]; omega)
  | false =>
    rw [rep_skey ry hk]
    exact DPut.k h (by rw [List.length_zip, List.length_map, ← hl]; omega)
section
variable {X : Cx} {W : WX} {M : List Nat} {pos pos' p2 apos : Pos}
theorem fs_setD (i : Nat) {x : Str} {k e : Expr} {rk : RO} {re : RE} (he : FE X W e re) (hk : FO X W k rk) (hu : X.A.units + 1 < cLine) (hN : X.N[i]? = some x := by rfl) (hv : Vis X.env.scope x := by first | exact Or.inl rfl | exact Or.inr (Or.inl rfl) | exact Or.inr (Or.inr rfl)) (hd : (x == ("__debug__" : Str)) = false := by decide)
    (hcd : (x == ("__classdict__" : Str)) = false := by decide) (hs : swapsWith e (some (.Subscript (.Name x p2) k pos')) pos.line X.env = pure false := by rfl) : FS X W M (.Assign [.Subscript (.Name x p2) k pos'] e pos) (rSetD i rk re) := by
  obtain ⟨t, p, l⟩ := he.ex
  obtain ⟨t', p', l'⟩ := hk.ex
  refine ⟨_, ps_dput hu (pe_var hN hv hd hcd) p' p hs, fun w σ ρ E F D st h hf => ?_⟩
  refine l _ w σ ρ E _ _ (Nat.lt_succ_self _) st h (fun d ρ1 w1 v h1 e1 r1 => ?_) hf.sx
  obtain ⟨⟨d0, e0⟩, h1⟩ := oN_elim h1
  obtain ⟨v0, ev, _⟩ := e1.st.rep i d0 e0
  refine ⟨v0, ev, ?_⟩
  refine l' (ρ1.length + 2) w1 σ ρ1 E _ _ (by omega) e1.st h1 (fun ak ρ2 w2 vk h2 e2 r2 => ?_) (hf.sx.then e1 (by rw [e1.len]; omega))
  have e12 := e1.trans e2 (by rw [e1.len]; omega)
  obtain ⟨dk, ek, h2⟩ := on1_elim h2
  obtain ⟨o, tt, ks, ds, ed, ho, hko, hkl, q⟩ := onDct_elim h2
  obtain ⟨ℓ, rk⟩ := ad_get e12.st r2 ek
  obtain ⟨v0', ev', r0⟩ := e12.st.rep i _ ed
  rw [ev] at ev'; cases ev'
  obtain ⟨a, us, rfl, ta, ha, ⟨hl, hks, hL⟩, rl⟩ := dict_at ho r0 .here
  have r1' : Rep X.K w2 d [ρ.length + 1] v := e2.ext.rep (r := []) (by rw [e1.len]; omega) r1
  have hin := (List.getElem?_eq_some_iff.mp ed).1
  rw [e12.len] at hin
  let j := match kIdx tt ks dk with | some j => j | none => ds.length
  refine ⟨a, _, rfl, DPut.of e12.st.wf ha hl hks hko hkl rk (v := v), ?_⟩
  have rr : RepL X.K (w2.ren (moveT (ρ.length + 1) ((i + 1) :: [] ++ [j]))) (putDs tt ks dk ds d) ((i + 1) :: []) 0 (putDs tt ks dk us v) := by
    have base : RepL X.K (w2.ren (moveT (ρ.length + 1) ((i + 1) :: [] ++ [j]))) ds ((i + 1) :: []) 0 us := RepL.of rl.length fun q dq vq e3 e4 => by
      obtain ⟨v3, e5, r3⟩ := rl.get e3
      rw [e4] at e5; cases e5
      exact r3.mv (by omega)
    have hlu : us.length = ds.length := rl.length
    have : putDs tt ks dk us v = putDs tt ks dk us v := rfl
    refine RepL.put base fun j' hj' => ?_
    have : j = j' := by
      show (match kIdx tt ks dk with | some j => j | none => ds.length) = j'
      rcases hj' with hj' | ⟨hj', rfl⟩ <;> rw [hj']
    subst this
    exact r1'.mvT
  have ee := dict_end (i := i) (τ := ρ.length + 1) (p := []) ho (more_mine ho d.own) e12.st ed ev r0 .here (by rw [e12.len]; omega) (Nat.le_refl _) rr ⟨putDs_len hl, putKs_ok hks hko, hL.put⟩
  exact hf.nx _ _ σ (nf_of q) ((e12.trans ee (Nat.le_refl _)).s (Nat.lt_succ_self _))
/-- what is found, or x -/
def pickOr (o : Option D) (x : D) (Q : D → Prop) : Prop := match o with
  | some d => d.own = false ∧ Q d
  | none => Q x
theorem pickOr_of {o : Option D} {x y : D} {Q : D → Prop} (h : o = some y ∨ o = none ∧ x = y) (hy : y.own = false) (q : Q y) : pickOr o x Q := by
  rcases h with rfl | ⟨rfl, rfl⟩
  · exact ⟨hy, q⟩
  · exact q
/-- d.get(k, x) -/
def rGet2 (ra rk : RO) (rx : RE) : RE := fun ρ E Q => ra ρ E fun a ρ0 => on1 ρ0 a fun dd0 => isDct dd0 = true ∧ rk ρ0 E fun k ρ1 => rx ρ1 E fun x ρ2 => on1 ρ2 a fun dd => on1 ρ2 k fun dk => match dd with
  | .dct _ t ks ds => keyOk t dk = true ∧ x.own = false ∧ pickOr (dLook t ks ds dk) x fun d => Q d ρ2
  | _ => False
where isDct : D → Bool
  | .dct _ _ _ _ => true
  | _ => false
theorem isD_of {K : PySem.W.Frag} {w : Wd} (wf : Wf w) {d : D} {ℓ : Loc} {v : V} (h : Rep K w d ℓ v) (e : rGet2.isDct d = true) : ∃ a, v = .ref a ∧ IsD w.H a := by
  cases d with
  | dct o t ks ds =>
    obtain ⟨a, vs, rfl, h1, _⟩ := dct_at wf h
    cases t with
    | true => exact ⟨a, rfl, .inr ⟨_, h1⟩⟩
    | false => exact ⟨a, rfl, .inl ⟨_, h1⟩⟩
  | _ => cases e
theorem fe_get2 {o k x : Expr} {ra rk : RO} {rx : RE} {cpos : Pos} (ho : FO X W o ra) (hk : FO X W k rk) (hx0 : FE X W x rx) (hu : X.A.units + 1 < cLine) (m : M2 X o "get" apos k x cpos := by exact ⟨rfl, rfl, rfl, rfl⟩) : FE X W (.Call (.Attribute o "get" apos) [k, x] [] cpos) (rGet2 ra rk rx) := by
  obtain ⟨t, p, l⟩ := ho.ex
  obtain ⟨t1, p1, l1⟩ := hk.ex
  obtain ⟨t2, p2', l2⟩ := hx0.ex
  refine ⟨_, pe_dget2 hu p p1 p2' m, fun τ w σ ρ E Q Qv hn st h hq hx => ?_⟩
  refine l τ w σ ρ E _ _ hn st h (fun a ρ0 w0 v0 h0 e0 r0 => ?_) hx
  obtain ⟨dd0, ea0, hD, h0⟩ := on1_elim h0
  obtain ⟨ℓ0, ra0⟩ := ad_get e0.st r0 ea0
  obtain ⟨ad, rfl, hD⟩ := isD_of e0.st.wf ra0 hD
  refine ⟨ad, rfl, hD, ?_⟩
  refine l1 (τ + 1) w0 σ ρ0 E _ _ (by rw [e0.len]; omega) e0.st h0 (fun ak ρ1 w1 v1 h1 e1 r1 => ?_) (hx.then e0 (Nat.le_succ _))
  have e01 := e0.trans e1 (Nat.le_succ _)
  refine l2 (τ + 2) w1 σ ρ1 E _ _ (by rw [e01.len]; omega) e1.st h1 (fun dx ρ2 w2 v2 h2 e2 r2 => ?_) (hx.then e01 (by omega))
  have e02 := e01.trans e2 (by omega)
  obtain ⟨dd, ed, h2⟩ := on1_elim h2
  obtain ⟨dk, ek, h2⟩ := on1_elim h2
  have r0' : AdAt X.K w2 σ a τ (.ref ad) := (r0.later (by rw [e0.len]; exact hn) e1).later (by rw [e01.len]; exact hn) (⟨e2.len, e2.st, e2.ext.mono (by omega)⟩)
  have r1' : AdAt X.K w2 σ ak (τ + 1) v1 := r1.later (by rw [e01.len]; omega) e2
  obtain ⟨ℓd, rd⟩ := ad_get e2.st r0' ed
  obtain ⟨ℓk, rk⟩ := ad_get e2.st r1' ek
  cases dd with
  | dct o t ks ds =>
    obtain ⟨hko, hxo, h2⟩ := h2
    obtain ⟨a', ea', g1, g2⟩ := dct_get e2.st.wf rd rk hko
    cases ea'
    cases eL : dLook t ks ds dk with
    | some d =>
      simp only [eL, pickOr] at h2
      obtain ⟨hd0, q⟩ := h2
      obtain ⟨z, i, g, rz⟩ := g1 d eL
      exact ⟨_, g, hq d ρ2 w2 z q e02 (rz.free (Same.refl _) d hd0)⟩
    | none =>
      simp only [eL, pickOr] at h2
      exact ⟨_, g2 eL, hq dx ρ2 w2 v2 h2 e02 (r2.free (Same.refl _) dx hxo)⟩
  | _ => exact h2.elim
end
end FL
/-! FL18: sorted rows and sorted keys, of any length. -/
namespace FL
open PySem PySem.Spec PyProof.Rows L2
open PySem.W (EachIs AllAlike dataLe)
/-- a row's data with its values, in order -/
abbrev PV := PyData × V
def sortPV (ps : List PV) : List PV := ps.mergeSort (dataLe false fun p => p.1)
structure SortPV (K : PySem.W.Frag) (H : Hp) (ps : List PV) : Prop where
  dp : ∀ p ∈ ps, Dp K H p.2 p.1
  al : AllAlike (ps.map fun p => p.1)
  so : PySem.W.Sortable (ps.map fun p => p.1)
  de : ∀ p ∈ ps, p.1.depth ≤ 50
  sz : ps.length ≤ sizeLine
def rSortA (K : PySem.W.Frag) : List V → Hp → VK → Prop := fun vs H Q => ∃ (a : Addr) (ps : List PV), vs = [V.ref a] ∧ SqL K H a (ps.map fun p => p.2) ∧ SortPV K H ps ∧ ∀ l, H l = none → Q (.ref l) (upd H l (.lst ((sortPV ps).map fun p => p.2)))
theorem each_vals : ∀ {ps : List PV} {us : List Value}, Vals (ps.map fun p => p.2) us → EachIs (fun v (p : PV) => RelV p.2 v) us ps
  | [], us, h => by cases h; exact .nil
  | p :: ps, us, h => by
    cases h with
    | cons r rr => exact .cons r (each_vals rr)
theorem vals_each : ∀ {ps : List PV} {us : List Value}, EachIs (fun v (p : PV) => RelV p.2 v) us ps → Vals (ps.map fun p => p.2) us
  | _, _, .nil => .nil
  | _, _, .cons r rr => .cons r (vals_each rr)
theorem each_and {α β : Type} {R T : α → β → Prop} : ∀ {as : List α} {bs : List β}, EachIs R as bs → (∀ a b, b ∈ bs → R a b → T a b) → EachIs T as bs
  | _, _, .nil, _ => .nil
  | _, _, .cons r rr, h => .cons (h _ _ List.mem_cons_self r) (each_and rr fun a b hb q => h a b (List.mem_cons_of_mem _ hb) q)
theorem sortPV_len (ps : List PV) : (sortPV ps).length = ps.length := List.length_mergeSort ps
section
variable {X : Cx}
theorem cr_sortA (hu : X.A.units + 64 < cLine) : CallR X (.builtin "sorted") (rSortA X.K) := by
  intro pins s σ H vs us Q I r hyp
  obtain ⟨a, ps, rfl, hs, S, q⟩ := hyp
  obtain ⟨its, rv, hl, hz⟩ := I.list hs
  rw [Vals.ref1 r]
  have e := each_vals rv
  refine PySem.W.sorted_data (enc := fun p : PV => p.1) hl.isList e (each_and e fun v p hp rp => Dp.reads I p.1 p.2 v (S.dp p hp) rp) S.al S.so S.sz (fun p hp => by have := S.de p hp; omega) fun out ho eo => ?_
  obtain ⟨c, hc⟩ := sortedAll_at s.heap its out.toArray
  have hlen : ((sortPV ps).map fun p => p.2).length ≤ sizeLine := by rw [List.length_map, sortPV_len]; exact S.sz
  exact ⟨.ref (s.heap.objs.size + 1), _, I.laid (t' := s.toks) (fun b o eb => sortedAll_old eb) (Nat.le_succ _) (show ObjOk X.prog X.w _ _ _ (.lst ((sortPV ps).map fun p => p.2)) from ⟨hlen, out, c, vals_each eo, hc⟩), rfl, q _ (I.hok.fresh (Nat.le_succ _))⟩
end
/-! ### over data -/
structure SortOk (ds : List D) : Prop where
  da : datL ds = true
  al : AllAlike (ds.map D.py)
  so : PySem.W.Sortable (ds.map D.py)
  de : ∀ d ∈ ds, d.dep ≤ 50
def sortD (ds : List D) : List D := ds.mergeSort (dataLe false D.py)
theorem sortD_mem {ds : List D} {d : D} : d ∈ sortD ds ↔ d ∈ ds := (List.mergeSort_perm ds _).mem_iff
theorem sortD_len (ds : List D) : (sortD ds).length = ds.length := List.length_mergeSort ds
theorem sortD_own {ds : List D} (h : ownL ds = false) : ownL (sortD ds) = false := ownL_iff.mpr fun d hd => ownL_iff.mp h d (sortD_mem.mp hd)
def pvOf (ds : List D) (vs : List V) : List PV := (ds.zip vs).map fun p => (p.1.py, p.2)
theorem pvOf_fst {ds : List D} {vs : List V} (h : vs.length = ds.length) : (pvOf ds vs).map (fun p => p.1) = ds.map D.py := by
  unfold pvOf
  rw [List.map_map]
  have : ((fun p : PV => p.1) ∘ fun p : D × V => ((p.1.py, p.2) : PV)) = D.py ∘ Prod.fst := rfl
  rw [this, ← List.map_map, List.map_fst_zip (by omega)]
theorem pvOf_snd {ds : List D} {vs : List V} (h : vs.length = ds.length) : (pvOf ds vs).map (fun p => p.2) = vs := by
  unfold pvOf
  rw [List.map_map]
  have : ((fun p : PV => p.2) ∘ fun p : D × V => ((p.1.py, p.2) : PV)) = Prod.snd := rfl
  rw [this, List.map_snd_zip (by omega)]
def sortZ (zs : List (D × V)) : List (D × V) := zs.mergeSort (dataLe false fun p : D × V => p.1.py)
theorem sortZ_pv (ds : List D) (vs : List V) : sortPV (pvOf ds vs) = (sortZ (ds.zip vs)).map fun p => (p.1.py, p.2) := by
  unfold sortPV sortZ pvOf
  exact (List.map_mergeSort (r := dataLe false fun p : D × V => p.1.py) (s := dataLe false fun p : PV => p.1) (f := fun p : D × V => (p.1.py, p.2)) (fun a _ b _ => rfl)).symm
theorem sortZ_fst {ds : List D} {vs : List V} (h : vs.length = ds.length) : (sortZ (ds.zip vs)).map Prod.fst = sortD ds := by
  unfold sortZ sortD
  rw [List.map_mergeSort (r := dataLe false fun p : D × V => p.1.py) (s := dataLe false D.py) (f := Prod.fst) (fun a _ b _ => rfl), List.map_fst_zip (by omega)]
section
variable {K : PySem.W.Frag} {w : Wd}
theorem sorted_reps {ds : List D} {vs : List V} {ℓ ℓ' : Loc} {j : Nat} (ho : ownL ds = false) (h : RepL K w ds ℓ j vs) : RepL K w (sortD ds) ℓ' 0 ((sortPV (pvOf ds vs)).map fun p => p.2) := by
  rw [← sortZ_fst h.length, sortZ_pv, List.map_map]
  refine RepL.of (by rw [List.length_map, List.length_map]) fun i d v e1 e2 => ?_
  rw [List.getElem?_map] at e1 e2
  cases q : (sortZ (ds.zip vs))[i]? with
  | none => rw [q] at e1; cases e1
  | some z =>
    rw [q] at e1 e2
    cases e1; cases e2
    have hm : z ∈ ds.zip vs := (List.mergeSort_perm _ _).mem_iff.mp (List.mem_of_getElem? q)
    obtain ⟨n, hn⟩ := List.getElem?_of_mem hm
    obtain ⟨h1, h2⟩ := List.getElem?_zip_eq_some.mp hn
    obtain ⟨v', e3, r⟩ := h.get h1
    rw [h2] at e3; cases e3
    exact r.free (Same.refl _) z.1 (ownL_iff.mp ho z.1 (List.mem_of_getElem? h1))
theorem sortOk_pv (wf : Wf w) {ds : List D} {vs : List V} (S : SortOk ds) (hz : ds.length ≤ sizeLine) (h : ∀ ℓ j, RepL K w ds ℓ j vs) : SortPV K w.H (pvOf ds vs) := by
  have hl := (h [] 0).length
  have mem : ∀ p ∈ pvOf ds vs, ∃ d, d ∈ ds ∧ p.1 = d.py ∧ ∃ ℓ, Rep K w d ℓ p.2 := fun p hp => by
    obtain ⟨z, hm, rfl⟩ := List.mem_map.mp hp
    obtain ⟨n, hn⟩ := List.getElem?_of_mem hm
    obtain ⟨h1, h2⟩ := List.getElem?_zip_eq_some.mp hn
    obtain ⟨v', e3, r⟩ := (h [] 0).get h1
    rw [h2] at e3; cases e3
    exact ⟨z.1, List.mem_of_getElem? h1, rfl, _, r⟩
  refine ⟨fun p hp => ?_, by rw [pvOf_fst hl]; exact S.al, by rw [pvOf_fst hl]; exact S.so, fun p hp => ?_, ?_⟩
  · obtain ⟨d, hd, e, ℓ, r⟩ := mem p hp
    rw [e]
    exact rep_dp wf d (datL_all.mp S.da d hd) r
  · obtain ⟨d, hd, e, _⟩ := mem p hp
    rw [e, py_dep d (datL_all.mp S.da d hd)]
    exact S.de d hd
  · unfold pvOf
    rw [List.length_map, List.length_zip, hl, Nat.min_self]; exact hz
end
def dSortL : DC := dL1 fun ds Q => SortOk ds ∧ Q (.lst .flat (sortD ds))
section
variable {X : Cx}
theorem fc_sortL (hu : X.A.units + 64 < cLine) : FC X (.builtin "sorted") dSortL := fc_L1 (cr_sortA hu) fun τ w σ ρ a vs ds Q Qv hn st h1 ho hz h2 ⟨S, q⟩ hq => by
  have hl := (h2 [] 0).length
  refine ⟨a, pvOf ds vs, rfl, by rw [pvOf_snd hl]; exact h1, sortOk_pv st.wf S hz h2, fun l nl => ?_⟩
  obtain ⟨e, r⟩ := EndE.own (τ := τ) .flat st nl (sorted_reps (ℓ' := [τ]) ho (h2 [] 0)) (by rw [sortD_len]; exact hz) (fun _ => sortD_own ho) rfl
  exact hq _ _ _ q e r
end
/-! ### sorted keys -/
section
variable {X : Cx}
theorem sorted_src {pins : List (Addr × Obj)} {σ : L2.St} {H : Hp} {s : Shared} {Q : VK} {r d : Addr} {n : Nat} {P : Nat → Value → Prop} {OK : Heap → Prop} (K0 : PySem.W.KdlSrc X.prog X.w "dict" r d n P OK) (hc : X.calm = true) (hu : X.A.units + 64 < cLine) (hok : OK s.heap) (hn : n ≤ sizeLine) (I : Inv X pins σ H s)
    (conv : ∀ acc : Array Value, PySem.ItemsOf P acc n → ∃ ps : List PV, EachIs (fun v (p : PV) => RelV p.2 v) acc.toList ps ∧ SortPV X.K H ps ∧ ∀ l, H l = none → Q (.ref l) (upd H l (.lst ((sortPV ps).map fun p => p.2)))) :
    wpAny (model X.prog X.w) X.A (call (.builtin "sorted") [.ref r]) (EP X pins σ Q) X.xe s := by
  refine Calls.call_function_entry PyProof.Rows.kind_sorted PyProof.Rows.plain_sorted PyProof.Rows.entry_sorted (PyProof.Rows.args_sorted1 _) ?_
  unfold Builtin.«sorted»
  refine wpAny_bind (m := checkCount "sorted" 1 1 _) (wpAny_pure ?_)
  refine wpAny_bind (PySem.W.kdu_collect (A := X.A.in1) K0 (I.ok.hd hc) hok hn fun h' tk acc hk hacc => ?_)
  obtain ⟨ps, e, S, q⟩ := conv acc hacc
  have hl : acc.toList.length = ps.length := e.length
  have I1 : Inv X pins σ H { s with heap := h', toks := tk } := I.kept hk
  refine wpAny_bind (wpAny_newList ?_ (by rw [hl]; exact S.sz))
  have hoL : (h'.push (seqObj "list" acc.toList.toArray 0)).get? h'.objs.size = some (seqObj "list" acc.toList.toArray 0) := Heap.get?_push_size _ rfl
  show wpAny _ _ _ _ _ { s with heap := h'.push (seqObj "list" acc.toList.toArray 0), toks := tk }
  have old : ∀ b o, h'.get? b = some o → (PySem.W.sortingHeap (h'.push (seqObj "list" acc.toList.toArray 0)) h'.objs.size acc.toList).get? b = some o := fun b o eb =>
    PySem.W.sortingHeap_old (Nat.ne_of_lt (Heap.lt_size eb)) (Heap.get?_push_of_some _ eb)
  have er : EachIs (fun v (p : PV) => ∃ as, Reads (PySem.W.sortingHeap (h'.push (seqObj "list" acc.toList.toArray 0)) h'.objs.size acc.toList) v p.1 as) acc.toList ps := each_and e fun v p hp rp => by
    obtain ⟨as, r⟩ := Dp.reads I1 p.1 p.2 v (S.dp p hp) rp
    exact ⟨as, PyProof.Rows.Reads.keeps old r⟩
  have un : ∀ p ∈ ps, X.A.in1.in1.units + p.1.depth < cLine := fun p hp => by
    have h1 := S.de p hp
    have h2 : X.A.in1.in1.units ≤ X.A.units + 2 := Nat.le_refl _
    omega
  have body := PySem.W.SortsAt.data (prog := X.prog) (w := X.w) (A := X.A.in1.in1) (s := { s with heap := PySem.W.sortingHeap (h'.push (seqObj "list" acc.toList.toArray 0)) h'.objs.size acc.toList, toks := tk }) (PySem.W.each_map (R := fun v d => ∃ as, Reads (PySem.W.sortingHeap (h'.push (seqObj "list" acc.toList.toArray 0)) h'.objs.size acc.toList) v d as) (fun p : PV => p.1) er) S.al S.so (PySem.W.bound_map un)
  refine wpAny_bind (wpAny_holding (wpAny_call_entry PyProof.Rows.slot_list_sort ⟨_, hoL, rfl⟩ PyProof.Rows.entry_list_sort
    (PySem.W.list_sort_vals (s := { s with heap := h'.push (seqObj "list" acc.toList.toArray 0), toks := tk }) hoL body (by rw [hl]; exact S.sz) ⟨_, rfl, ?_⟩) (PyProof.Rows.args_list_sort _)))
  have eo := PySem.W.sortVals_data (R := fun v (p : PV) => RelV p.2 v) (enc := fun p : PV => p.1) false e er S.al
  obtain ⟨c, hc2⟩ := sortedHeap_at (vs := acc.toList) (out := (PySem.W.sortVals (PySem.W.dataKind (PySem.W.sortingHeap (h'.push (seqObj "list" acc.toList.toArray 0)) h'.objs.size acc.toList) (ps.map fun p => p.1)) false acc.toList acc.toList).toArray) hoL
  have hlen : ((sortPV ps).map fun p => p.2).length ≤ sizeLine := by rw [List.length_map, sortPV_len]; exact S.sz
  refine wpAny_pure ⟨_, rfl, .ref h'.objs.size, _, I1.laid (t' := tk) (o := .lst ((sortPV ps).map fun p => p.2)) (fun b u eb => ?_) (Nat.le_refl _) ⟨hlen, _, c, vals_each eo, hc2⟩, rfl, q _ (I1.hok.fresh (Nat.le_refl _))⟩
  have hb : b < h'.objs.size := Heap.lt_size eb
  rw [sortedHeap_old (Nat.ne_of_lt hb) (by rw [size_push']; exact Nat.lt_succ_of_lt hb)]
  exact Heap.get?_push_of_some _ eb
end
def keyPy : Key → PyData
  | .inl i => .int i
  | .inr x => .str x
theorem keyPy_dp {K : PySem.W.Frag} {H : Hp} : ∀ k : Key, Dp K H (kV k) (keyPy k)
  | .inl i => .int i
  | .inr x => .str x
def ktPy (k : List Key) : PyData := .tuple (k.map keyPy)
theorem ktPy_dp {K : PySem.W.Frag} {H : Hp} {b : Addr} {k : List Key} (h : H b = some (.tup (k.map kV))) : Dp K H (.ref b) (ktPy k) := by
  refine .tup (SqT.of h) ?_
  clear h
  induction k with
  | nil => exact .nil
  | cons x r ih => exact .cons (keyPy_dp x) ih
/-- what stands at key addresses -/
def rSortDT (K : PySem.W.Frag) : List V → Hp → VK → Prop := fun vs H Q => ∃ d kvs, vs = [V.ref d] ∧ Rd H d (.dT kvs) ∧ ∀ bs, IsKeys H kvs bs → SortPV K H ((kvs.map fun p => ktPy p.1).zip (bs.map V.ref)) ∧
  ∀ l, H l = none → Q (.ref l) (upd H l (.lst ((sortPV ((kvs.map fun p => ktPy p.1).zip (bs.map V.ref))).map fun p => p.2)))
section
variable {X : Cx}
theorem entries_at {es : Array DictEntry} {xs : List (List Key × Addr × Value)} {f : (List Key × Addr × Value) → DictEntry} (he : es.toList = xs.map f) (j : Nat) : es[j]? = (xs[j]?).map f := by
  rw [← Array.getElem?_toList, he, List.getElem?_map]
theorem cr_sortDT (hc : X.calm = true) (hu : X.A.units + 64 < cLine) : CallR X (.builtin "sorted") (rSortDT X.K) := by
  intro pins s σ H vs us Q I rr hyp
  obtain ⟨d, kvs, rfl, hd, q⟩ := hyp
  rw [Vals.ref1 rr]
  obtain ⟨hz, hs, xs, pr, o, es, ep, ho, hx, hdt, he, hn⟩ := (show ObjOk X.prog X.w H s.heap d (.dT kvs) from hd.ok I.hok)
  have l1 : es.size = xs.length := by rw [← Array.length_toList, he, List.length_map]
  have l2 : kvs.length = xs.length := Paired.length pr
  refine sorted_src (kdl_raw hs hx hdt) hc hu ho (by omega) I fun acc hacc => ?_
  have kk := isKeys_of pr
  obtain ⟨S, q⟩ := q _ kk
  refine ⟨_, ?_, S, q⟩
  have ea : acc.toList = (xs.map fun x => x.2.1).map Value.ref := by
    apply List.ext_getElem?
    intro j
    rw [List.getElem?_map, List.getElem?_map]
    cases hj : acc.toList[j]? with
    | none =>
      have h1 := List.getElem?_eq_none_iff.mp hj
      have h2 : acc.toList.length = es.size := by rw [Array.length_toList]; exact hacc.1
      rw [List.getElem?_eq_none (by omega)]; rfl
    | some v =>
      obtain ⟨en, hen, hv⟩ := hacc.2 j v (by rw [← Array.getElem?_toList]; exact hj)
      rw [entries_at he] at hen
      cases hb : xs[j]? with
      | none => rw [hb] at hen; cases hen
      | some b =>
        rw [hb] at hen
        have e2 : en = entryOfKey (tupleKind (mixKind X.prog X.w)) b := (Option.some.inj hen).symm
        rw [hv, e2]; rfl
  refine each_vals ?_
  rw [List.map_snd_zip (by rw [List.length_map, List.length_map, List.length_map]; omega), ea]
  exact vals_refs _
end
/-! ### key tuples taken to the shared heap -/
def Wd.adopt (w : Wd) (bs : List Addr) : Wd := ⟨w.G, fun a => if a ∈ bs then w.H a else w.S a, w.H⟩
section
variable {K : PySem.W.Frag} {w : Wd} {bs : List Addr}
theorem adopt_same (wf : Wf w) : Same w.S (w.adopt bs).S := fun a o e => by
  show (if a ∈ bs then w.H a else w.S a) = some o
  split
  · exact wf.sh a o e
  · exact e
theorem Wf.adopt (wf : Wf w) (h : ∀ b ∈ bs, ∃ vs, w.H b = some (.tup vs)) : Wf (w.adopt bs) := by
  refine ⟨fun a o e => ?_, fun a ℓ e => ?_⟩
  · have e : (if a ∈ bs then w.H a else w.S a) = some o := e
    split at e
    · exact e
    · exact wf.sh a o e
  · obtain ⟨h1, h2⟩ := wf.tg a ℓ e
    refine ⟨?_, h2⟩
    show (if a ∈ bs then w.H a else w.S a) = none
    by_cases hb : a ∈ bs
    · obtain ⟨vs, q⟩ := h a hb
      rw [q] at h2
      exact h2.elim
    · rw [if_neg hb]; exact h1
theorem EndE.adopt {σ : Sl} {ρ : En} {τ : Nat} (st : StE K w σ ρ) (h : ∀ b ∈ bs, ∃ vs, w.H b = some (.tup vs)) : EndE K τ w σ ρ ρ (w.adopt bs) :=
  ⟨rfl, st.to (st.wf.adopt h) (adopt_same st.wf) fun i hi a s e => ⟨e, rfl⟩, ⟨adopt_same st.wf, fun a ℓ e _ => ⟨e, rfl⟩⟩⟩
end
theorem skey_py {d : D} (h : isSKey d = true) : keyPy (skey d) = d.py := by
  cases d <;> first | rfl | cases h
theorem tkey_py {d : D} (h : isTKey d = true) : ktPy (tkey d) = d.py := by
  cases d with
  | tup o cs =>
    have h : cs.all isSKey = true := h
    show PyData.tuple ((cs.map skey).map keyPy) = .tuple (pyL cs)
    have key : ∀ cs : List D, cs.all isSKey = true → (cs.map skey).map keyPy = pyL cs := fun cs => by
      induction cs with
      | nil => intro _; rfl
      | cons c r ih =>
        intro h
        simp only [List.all_cons, Bool.and_eq_true] at h
        simp only [List.map_cons, pyL, skey_py h.1]
        rw [ih h.2]
    rw [key cs h]
  | _ => cases h
theorem skey_rep {K : PySem.W.Frag} {w : Wd} {d : D} (h : isSKey d = true) {ℓ : Loc} : Rep K w d ℓ (kV (skey d)) := by
  cases d <;> first | rfl | cases h
theorem skeys_rep {K : PySem.W.Frag} {w : Wd} : ∀ {cs : List D} {ℓ : Loc} {j : Nat}, cs.all isSKey = true → RepL K w cs ℓ j ((cs.map skey).map kV)
  | [], _, _, _ => rfl
  | c :: r, ℓ, j, h => by
    simp only [List.all_cons, Bool.and_eq_true] at h
    simp only [List.map_cons, RepL]
    exact ⟨_, _, rfl, skey_rep h.1, skeys_rep h.2⟩
theorem skeys_own {cs : List D} (h : cs.all isSKey = true) : ownL cs = false := ownL_iff.mpr fun d hd => by
  have := List.all_eq_true.mp h d hd
  cases d <;> first | rfl | cases this
theorem paired_at {α β : Type} {R : α → β → Prop} : ∀ {as : List α} {bs : List β}, Paired R as bs → ∀ {i : Nat} {a : α} {b : β}, as[i]? = some a → bs[i]? = some b → R a b
  | _, _, .nil, i, a, b, h, _ => by simp at h
  | _, _, .cons q t, 0, a, b, h, g => by cases h; cases g; exact q
  | _, _, .cons q t, i + 1, a, b, h, g => paired_at t (i := i) (by simpa using h) (by simpa using g)
/-- sorted(d), d's keys tuples -/
def dSortD : DC
  | [.dct _ t ks _], Q => t = true ∧ ownL ks = false ∧ (∀ k ∈ ks, k.kids.length ≤ 1000) ∧ ks.length ≤ sizeLine ∧ SortOk ks ∧ Q (.lst .flat (sortD ks))
  | _, _ => False
section
variable {X : Cx}
theorem fc_sortD (hu : X.A.units + 64 < cLine) (hc : X.calm = true := by rfl) : FC X (.builtin "sorted") dSortD := by
  refine ⟨_, cr_sortDT hc hu, fun τ w σ ρ vs ds Q Qv hn st rs hd hq => ?_⟩
  unfold dSortD at hd
  split at hd
  · rename_i o t ks dd
    obtain ⟨rfl, ho, hk, hz, S, q⟩ := hd
    obtain ⟨v, ℓ, rfl, r⟩ := reps1 rs
    obtain ⟨a, us, rfl, h1, hl, hks, h2⟩ := dct_at st.wf r
    have hT : ∀ k ∈ ks, isTKey k = true := fun k hk => by
      unfold keysOk at hks
      simp only [Bool.and_eq_true] at hks
      exact List.all_eq_true.mp hks.1 k hk
    have e1 : ((ks.map tkey).zip us).map (fun p => ktPy p.1) = ks.map D.py := by
      have : (fun p : List Key × V => ktPy p.1) = ktPy ∘ Prod.fst := rfl
      rw [this, ← List.map_map, List.map_fst_zip (by rw [List.length_map]; omega), List.map_map]
      exact List.map_congr_left fun k hk => tkey_py (hT k hk)
    refine ⟨a, (ks.map tkey).zip us, rfl, h1, fun bs hbs => ?_⟩
    have lb : bs.length = ks.length := by
      have := Paired.length hbs
      rw [List.length_zip, List.length_map] at this
      omega
    have hb : ∀ (i : Nat) (b : Addr) (k : D), bs[i]? = some b → ks[i]? = some k → w.H b = some (.tup ((tkey k).map kV)) := fun i b k e2 e3 => by
      have hi := (List.getElem?_eq_some_iff.mp e3).1
      have e4 : us[i]? = some us[i] := List.getElem?_eq_getElem (by omega)
      have e5 : ((ks.map tkey).zip us)[i]? = some (tkey k, us[i]) := by
        rw [List.getElem?_zip_eq_some]
        exact ⟨by rw [List.getElem?_map, e3]; rfl, e4⟩
      exact paired_at hbs e5 e2
    have hall : ∀ b ∈ bs, ∃ vs, w.H b = some (.tup vs) := fun b hm => by
      obtain ⟨i, e2⟩ := List.getElem?_of_mem hm
      have hi := (List.getElem?_eq_some_iff.mp e2).1
      exact ⟨_, hb i b _ e2 (List.getElem?_eq_getElem (by omega))⟩
    have ea := EndE.adopt (τ := τ) st hall
    have rl : ∀ ℓ j, RepL X.K (w.adopt bs) ks ℓ j (bs.map V.ref) := fun ℓ j => RepL.of (by rw [List.length_map]; exact lb) fun i k v e2 e3 => by
      rw [List.getElem?_map] at e3
      cases e4 : bs[i]? with
      | none => rw [e4] at e3; cases e3
      | some b =>
        rw [e4] at e3
        cases e3
        have hm := List.mem_of_getElem? e2
        have kT := hT k hm
        have kz := hk k hm
        have ko := ownL_iff.mp ho k hm
        have hH := hb i b k e4 e2
        cases k with
        | tup o' cs =>
          have ko : o' = false := ko
          subst ko
          have kT : cs.all isSKey = true := kT
          have kz : cs.length ≤ 1000 := kz
          simp only [Rep]
          refine ⟨b, (cs.map skey).map kV, rfl, ?_, ⟨by rw [sizeLine_eq]; omega, fun _ => skeys_own kT⟩, skeys_rep kT⟩
          show (if b ∈ bs then w.H b else w.S b) = _
          rw [if_pos (List.mem_of_getElem? e4)]
          exact hH
        | _ => cases kT
    have ps : (((ks.map tkey).zip us).map fun p => ktPy p.1).zip (bs.map V.ref) = pvOf ks (bs.map V.ref) := by
      rw [e1]
      unfold pvOf
      rw [List.zip_map_left]
      rfl
    rw [ps]
    refine ⟨sortOk_pv (K := X.K) (w := w.adopt bs) ea.st.wf S hz rl, fun l nl => ?_⟩
    obtain ⟨e, r⟩ := EndE.own (τ := τ) .flat ea.st nl (sorted_reps (ℓ' := [τ]) ho (rl [] 0)) (by rw [sortD_len]; exact hz) (fun _ => sortD_own ho) rfl
    exact hq _ _ _ q (ea.trans e (Nat.le_refl _)) r
  · exact hd.elim
end
end FL
/-! FL19: x[k] += e, x += e, reversed rows. -/
namespace FL
open PySem PySem.Spec PyProof.Rows L2
section
variable {X : Cx}
theorem pget_list : PGet X (rIxL X.K) := by
  intro pins s σ H x y v u Q I rx ry h
  obtain ⟨p, xs, i, z, rfl, rfl, hq, he, q⟩ := h
  cases rx
  obtain ⟨t, rfl⟩ := ry
  obtain ⟨its, r, pl, hz⟩ := I.list hq
  obtain ⟨j, h1, h2, h3, h4, h5⟩ := atI_get he
  obtain ⟨w, ew, rw'⟩ := r.get h2
  have hl := r.length
  have hn := line63
  have done : EP X pins σ Q w s := ⟨z, H, I, rw', q⟩
  by_cases h0 : 0 ≤ i
  · have hj : i.toNat = j := Option.some.inj ((seqIndex_of h0 h5).symm.trans h1)
    exact wpAny_getItem_list pl.isList h0 (by omega) (by rw [hj]; simpa using ew) done
  · have hj : (i + (its.toArray.size : Int)).toNat = j := by
      rw [List.size_toArray, ← hl]
      exact Option.some.inj ((seqIndex_neg (by omega) h4).symm.trans h1)
    exact wpAny_getItem_list_neg pl.isList (by omega) (by rw [List.size_toArray] <;> omega) (by omega) (by rw [hj]; simpa using ew) done
end
def intAt (o : Option D) (Q : Int → Prop) : Prop := match o with
  | some (.int a) => Q a
  | _ => False
theorem intAt_of {o : Option D} {a : Int} {Q : Int → Prop} (h : o = some (.int a)) (q : Q a) : intAt o Q := by subst h; exact q
theorem intAt_elim {o : Option D} {Q : Int → Prop} (h : intAt o Q) : ∃ a, o = some (.int a) ∧ Q a := by
  unfold intAt at h
  split at h
  · exact ⟨_, rfl, h⟩
  · exact h.elim
/-- x[k] op= e, x a list of ints -/
def rAugL (f : Int → Int → Int) (i : Nat) (rk : RO) (re : RE) : RS := fun ρ E F => oN i ρ E fun _ ρ0 => rk ρ0 E fun k ρ1 => on1 ρ1 k fun dk => onLst ρ1 i fun _ ds1 => match dk with
  | .int n => intAt (atI ds1 n) fun old => re ρ1 E fun d ρ2 => onLst ρ2 i fun o ds => match d with
    | .int b => natAt (ixN ds.length n) fun j => nf (ρ2.set i (some (.lst o (ds.set j (.int (f old b)))))) F.nx
    | _ => False
  | _ => False
section
variable {X : Cx} {W : WX} {M : List Nat} {pos tpos p2 : Pos}
theorem se_augL {K : PySem.W.Frag} {f : Int → Int → Int} {i : Nat} {tk te : TE} {rk : RO} {re : RE} (l : SOp K W tk rk) (l' : SE K W te re) : SS K W M (tAugS (fun σ H Q => ∃ x, σ[i]? = some (some x) ∧ Q x H) tk te (rIxL K) (ipI f) L2.rSetL) (rAugL f i rk re) := by
  intro w σ ρ E F D st h hf
  obtain ⟨⟨d0, e0⟩, h⟩ := oN_elim h
  obtain ⟨v0, ev, _⟩ := st.rep i d0 e0
  refine ⟨v0, ev, ?_⟩
  refine l (ρ.length + 1) w σ ρ E _ _ (Nat.lt_succ_self _) st h (fun ak ρ1 w1 vk h1 e1 r1 => ?_) hf.sx
  obtain ⟨dk, ek, h1⟩ := on1_elim h1
  obtain ⟨o1, ds1, ed1, ho1, h1⟩ := onLst_elim h1
  obtain ⟨ℓ, rk⟩ := ad_get e1.st r1 ek
  obtain ⟨v0', ev', r0⟩ := e1.st.rep i _ ed1
  rw [ev] at ev'; cases ev'
  obtain ⟨a, us, rfl, ta, ha, ⟨hz, hL⟩, rl⟩ := list_at ho1 r0 .here
  cases dk with
  | int n =>
    simp only [Rep] at rk
    subst rk
    obtain ⟨old, eo, h1⟩ := intAt_elim h1
    obtain ⟨z, ez, rz⟩ := rl.at eo rfl
    have rz := rz 0
    simp only [Rep] at rz
    subst rz
    refine ⟨a, us, n, .int old, rfl, rfl, SqL.of ha, ez, ?_⟩
    refine l' (ρ1.length + 1) w1 σ ρ1 E _ _ (Nat.lt_succ_self _) e1.st h1 (fun d ρ2 w2 v h2 e2 r2 => ?_) (hf.sx.then e1 (by rw [e1.len]; exact Nat.le_refl _))
    have e12 := e1.trans e2 (by rw [e1.len]; exact Nat.le_refl _)
    obtain ⟨o, ds, ed, ho, h2⟩ := onLst_elim h2
    obtain ⟨v0', ev', r0'⟩ := e12.st.rep i _ ed
    rw [ev] at ev'; cases ev'
    obtain ⟨a', us', ea, ta', ha', ⟨hz', hL'⟩, rl'⟩ := list_at ho r0' .here
    cases ea
    cases d with
    | int b =>
      simp only [Rep] at r2
      subst r2
      obtain ⟨j, ej, h2⟩ := natAt_elim h2
      refine ⟨old, b, rfl, rfl, a, us', n, j, rfl, rfl, ha', by rw [rl'.length]; exact ej, ?_⟩
      have hin := (List.getElem?_eq_some_iff.mp ed).1
      rw [e12.len] at hin
      have rr : RepL K (w2.ren (moveT (ρ.length + 1) ((i + 1) :: [] ++ [j]))) (ds.set j (.int (f old b))) ((i + 1) :: []) 0 (us'.set j (.int (f old b))) := by
        refine RepL.set (RepL.of rl'.length fun q dq vq e3 e4 => ?_) rfl
        obtain ⟨v3, e5, r3⟩ := rl'.get e3
        rw [e4] at e5; cases e5
        exact r3.mv (by omega)
      have hL2 : Lt o (ds.set j (.int (f old b))) := by
        have := hL'.set (j := j) (d := .int (f old b))
        cases o <;> exact this
      have ee := list_end (i := i) (τ := ρ.length + 1) (p := []) ho ho e12.st ed ev r0' .here (by rw [e12.len]; omega) (Nat.le_refl _) rr (by rw [List.length_set]; exact hz') hL2
      exact hf.nx _ _ σ (nf_of h2) ((e12.trans ee (Nat.le_refl _)).s (Nat.lt_succ_self _))
    | _ => exact h2.elim
  | _ => exact h1.elim
theorem fs_augL (i : Nat) {x : Str} {k e : Expr} {rk : RO} {re : RE} (hk : FO X W k rk) (he : FE X W e re) (hN : X.N[i]? = some x := by rfl) (hv : Vis X.env.scope x := by first | exact Or.inl rfl | exact Or.inr (Or.inl rfl) | exact Or.inr (Or.inr rfl)) (hd : (x == ("__debug__" : Str)) = false := by decide)
    (hcd : (x == ("__classdict__" : Str)) = false := by decide) (ha : ∀ ov iv new, augStore k ov iv new = (do holding [new, ov, iv] (setItem ov iv new); release [new, ov, iv] []; pure .next) := by intros; rfl) : FS X W M (.AugAssign (.Subscript (.Name x p2) k tpos) .Add e pos) (rAugL (fun a b => a + b) i rk re) := by
  obtain ⟨t, p, l⟩ := hk.ex
  obtain ⟨t', p', l'⟩ := he.ex
  exact ⟨_, ps_augS (pe_var hN hv hd hcd) p pget_list p' ip_add set_list ha, se_augL l l'⟩
end
/-- x op= e, x an int -/
def rAug (f : Int → Int → Int) (i : Nat) (re : RE) : RS := fun ρ E F => match ρ[i]? with
  | some (some (.int a)) => re ρ E fun d ρ' => match d with
    | .int b => nf (ρ'.set i (some (.int (f a b)))) F.nx
    | _ => False
  | _ => False
section
variable {X : Cx} {W : WX} {M : List Nat} {pos pos' : Pos}
theorem se_aug {K : PySem.W.Frag} {f : Int → Int → Int} {i : Nat} {te : TE} {re : RE} (k : SE K W te re) (hM : M.contains i = false) : SS K W M (tAug i te (ipI f)) (rAug f i re) := by
  intro w σ ρ E F D st h hf
  unfold rAug at h
  split at h
  · rename_i a e
    obtain ⟨v, ev, r⟩ := st.rep i _ e
    simp only [Rep] at r
    subst r
    refine ⟨_, ev, ?_⟩
    refine k _ w σ ρ E _ _ (Nat.lt_succ_self _) st h (fun d ρ' w' v q e r => ?_) hf.sx
    cases d with
    | int b =>
      simp only [Rep] at r
      subst r
      have q : F.nx (ρ'.set i (some (.int (f a b)))) := nf_of q
      refine ⟨a, b, rfl, rfl, ?_⟩
      have es := e.s (M := M) (Nat.lt_succ_self _)
      exact hf.nx _ (w'.ren (dropT i)) _ q (es.trans (e.st.putI (M := M) i (d := .int (f a b)) rfl (fun _ => rfl) hM))
    | _ => exact q.elim
  · exact h.elim
theorem fs_aug (i : Nat) {x : Str} {e : Expr} {re : RE} (he : FE X W e re) (hN : X.N.Nodup) (hi : X.N[i]? = some x := by rfl) (hx : L2.Loc X.env.scope x := by first | exact .inl rfl | exact .inr rfl) (hM : M.contains i = false := by rfl) (hf : X.fn x = true ∨ X.env.scope.names.lookup x = some .local := by first | exact .inl rfl | exact .inr rfl) :
    FS X W M (.AugAssign (.Name x pos') .Add e pos) (rAug (fun a b => a + b) i re) := by
  obtain ⟨t, p, k⟩ := he.ex
  exact ⟨_, ps_aug hN hi hx p ip_add hf, se_aug k hM⟩
end
end FL
/-! FL20: loops, cuts and comprehensions by the slots that they change; the box of a law's draws. -/
namespace FL
open PySem PySem.Spec PyProof.Rows L2
def slotO (ρ : En) (a : Nat) : Option D := match ρ[a]? with
  | some o => o
  | none => none
def readA (ρ : En) : List Nat → En
  | [] => []
  | a :: A => slotO ρ a :: readA ρ A
def putA (ρ : En) : List Nat → En → En
  | a :: A, s :: S => (putA ρ A S).set a s
  | _, _ => ρ
/-- slots A hold s, slots J anything -/
def putJ (ρ : En) (A J : List Nat) (s j : En) : En := putA (putA ρ J j) A s
theorem readA_len (ρ : En) : ∀ A : List Nat, (readA ρ A).length = A.length
  | [] => rfl
  | a :: A => by simp [readA, readA_len ρ A]
theorem len0 {α : Type} {l : List α} (h : l.length = 0) : l = [] := List.length_eq_zero_iff.mp h
theorem len1 {α : Type} {l : List α} (h : l.length = 1) : ∃ a, l = [a] := by match l, h with | [a], _ => exact ⟨a, rfl⟩
theorem len2 {α : Type} {l : List α} (h : l.length = 2) : ∃ a b, l = [a, b] := by match l, h with | [a, b], _ => exact ⟨a, b, rfl⟩
theorem len3 {α : Type} {l : List α} (h : l.length = 3) : ∃ a b c, l = [a, b, c] := by match l, h with | [a, b, c], _ => exact ⟨a, b, c, rfl⟩
theorem len4 {α : Type} {l : List α} (h : l.length = 4) : ∃ a b c d, l = [a, b, c, d] := by match l, h with | [a, b, c, d], _ => exact ⟨a, b, c, d, rfl⟩
theorem len5 {α : Type} {l : List α} (h : l.length = 5) : ∃ a b c d e, l = [a, b, c, d, e] := by match l, h with | [a, b, c, d, e], _ => exact ⟨a, b, c, d, e, rfl⟩
theorem len6 {α : Type} {l : List α} (h : l.length = 6) : ∃ a b c d e f, l = [a, b, c, d, e, f] := by match l, h with | [a, b, c, d, e, f], _ => exact ⟨a, b, c, d, e, f, rfl⟩
theorem len7 {α : Type} {l : List α} (h : l.length = 7) : ∃ a b c d e f g, l = [a, b, c, d, e, f, g] := by match l, h with | [a, b, c, d, e, f, g], _ => exact ⟨a, b, c, d, e, f, g, rfl⟩
theorem len8 {α : Type} {l : List α} (h : l.length = 8) : ∃ a b c d e f g i, l = [a, b, c, d, e, f, g, i] := by match l, h with | [a, b, c, d, e, f, g, i], _ => exact ⟨a, b, c, d, e, f, g, i, rfl⟩
theorem forR_on {body : D → RS} {E : EE} {F : Fin} (A J : List Nat) (I : Nat → En → Prop) (ds : List D) (ρ0 : En) (h0 : I 0 (readA ρ0 A))
    (step : ∀ i d s j, ds[i]? = some d → j.length = J.length → I i s → nf (putJ ρ0 A J s j) fun ρ => body d ρ E (F.lp fun ρ' => ρ' = putJ ρ0 A J (readA ρ' A) (readA ρ' J) ∧ I (i + 1) (readA ρ' A)))
    (fin : ∀ s j, j.length = J.length → I ds.length s → nf (putJ ρ0 A J s j) F.nx) (e0 : ρ0 = putJ ρ0 A J (readA ρ0 A) (readA ρ0 J) := by rfl) : forR body ds ρ0 E F := by
  refine forR_inv (fun k ρ' => ρ' = putJ ρ0 A J (readA ρ' A) (readA ρ' J) ∧ I k (readA ρ' A)) ds 0 ρ0 ⟨e0, h0⟩ (fun i d ρ hd h => ?_) fun ρ h => ?_
  · rw [Nat.zero_add] at h ⊢
    have := nf_of (step i d _ _ hd (readA_len ρ J) h.2)
    rw [← h.1] at this
    exact this
  · rw [Nat.zero_add] at h
    have := nf_of (fin _ _ (readA_len ρ J) h.2)
    rw [← h.1] at this
    exact this
theorem cut_on {r : RS} {ρ0 : En} {E : EE} {F : Fin} (A J : List Nat) (I : En → Prop) (h : r ρ0 E (F.wn fun ρ' => ρ' = putJ ρ0 A J (readA ρ' A) (readA ρ' J) ∧ I (readA ρ' A))) (fin : ∀ s j, j.length = J.length → I s → nf (putJ ρ0 A J s j) F.nx) : CutG r ρ0 E F :=
  ⟨⟨_, h, fun ρ' h => by
    have := nf_of (fin _ _ (readA_len ρ' J) h.2)
    rw [← h.1] at this
    exact this⟩⟩
theorem compR_on {f : D → En → (Option D → En → Prop) → Prop} {vs : List Nat} {Q : Ow → List D → En → Prop} (A : List Nat) (I : Nat → List D → En → Prop) (ds : List D) (ρ0 : En) (h0 : I 0 [] (readA ρ0 A))
    (step : ∀ i d acc s, ds[i]? = some d → I i acc s → nf (putA ρ0 A s) fun ρ => f d ρ fun o ρ' => (∀ y, o = some y → y.own = false) ∧ wipeD ρ' vs = putA ρ0 A (readA (wipeD ρ' vs) A) ∧ I (i + 1) (acc ++ o.toList) (readA (wipeD ρ' vs) A))
    (fin : ∀ acc s, I ds.length acc s → nf (putA ρ0 A s) (Q .flat acc)) (e0 : ρ0 = putA ρ0 A (readA ρ0 A) := by rfl) : compR f vs ds ρ0 .flat [] Q := by
  refine compR_flat (fun k acc ρ' => ρ' = putA ρ0 A (readA ρ' A) ∧ I k acc (readA ρ' A)) ds 0 [] ρ0 ⟨e0, h0⟩ (fun i d acc ρ hd h => ?_) fun acc ρ h => ?_
  · rw [Nat.zero_add] at h ⊢
    have := nf_of (step i d acc _ hd h.2)
    rw [← h.1] at this
    exact this
  · rw [Nat.zero_add] at h
    have := nf_of (fin _ _ h.2)
    rw [← h.1] at this
    exact this
/-- the box of a law's draws -/
structure Bx where
  a : Int
  m : Int
  c : Int
  h : 0 ≤ a
def bxD (b : Bx) : D := .lst .flat [.int b.a, .int b.m, .int b.c]
/-- a comprehension each of whose parts is drawn from the box of slot j -/
theorem compR_drawK {α : Type} {f : D → En → (Option D → En → Prop) → Prop} {vs : List Nat} {Q : Ow → List D → En → Prop} (j : Nat) (enc : α → D) (P : Nat → α → Prop) (ρ0 : En) (ho : ∀ x, (enc x).own = false) : ∀ (ds : List D) (k : Nat) (acc : List D) (b0 : Bx) (ρ : En), ρ = putA ρ0 [j] [some (bxD b0)] →
    (∀ i d (b : Bx), ds[i]? = some d → nf (putA ρ0 [j] [some (bxD b)]) fun ρ => f d ρ fun o ρ' => ∃ (x : α) (b' : Bx), o = some (enc x) ∧ P (k + i) x ∧ wipeD ρ' vs = putA ρ0 [j] [some (bxD b')]) →
    (∀ (xs : List α) (b : Bx), xs.length = ds.length → (∀ i x, xs[i]? = some x → P (k + i) x) → nf (putA ρ0 [j] [some (bxD b)]) (Q .flat (acc ++ xs.map enc))) → compR f vs ds ρ .flat acc Q
  | [], k, acc, b0, ρ, e, _, q => by
    have := nf_of (q [] b0 rfl (fun i x h => by simp at h))
    rw [← e] at this
    simpa [compR] using this
  | d :: ds, k, acc, b0, ρ, e, hs, q => by
    have h1 := nf_of (hs 0 d b0 rfl)
    rw [← e] at h1
    refine ⟨_, h1, fun o ρ' ⟨x, b', eo, hp, ew⟩ => ?_⟩
    subst eo
    have : kindR .flat (some (enc x)) = .flat := by simp only [kindR, ho x]
    rw [this]
    refine compR_drawK j enc P ρ0 ho ds (k + 1) _ b' _ ew (fun i d' b hd => ?_) fun xs b hl hx => ?_
    · have := hs (i + 1) d' b (by simpa using hd)
      rw [show k + (i + 1) = k + 1 + i by omega] at this
      exact this
    · have := q (x :: xs) b (by simp [hl]) fun i y hy => by
        cases i with
        | zero => cases hy; exact hp
        | succ i => have := hx i y (by simpa using hy); rwa [show k + 1 + i = k + (i + 1) by omega] at this
      simpa [List.append_assoc] using this
theorem compR_draw {α : Type} {f : D → En → (Option D → En → Prop) → Prop} {vs : List Nat} {Q : Ow → List D → En → Prop} (j : Nat) (enc : α → D) (P : Nat → α → Prop) (ds : List D) (ρ0 : En) (b0 : Bx) (ho : ∀ x, (enc x).own = false)
    (step : ∀ i d (b : Bx), ds[i]? = some d → nf (putA ρ0 [j] [some (bxD b)]) fun ρ => f d ρ fun o ρ' => ∃ (x : α) (b' : Bx), o = some (enc x) ∧ P i x ∧ wipeD ρ' vs = putA ρ0 [j] [some (bxD b')])
    (fin : ∀ (xs : List α) (b : Bx), xs.length = ds.length → (∀ i x, xs[i]? = some x → P i x) → nf (putA ρ0 [j] [some (bxD b)]) (Q .flat (xs.map enc))) (e0 : ρ0 = putA ρ0 [j] [some (bxD b0)] := by rfl) : compR f vs ds ρ0 .flat [] Q :=
  compR_drawK j enc P ρ0 ho ds 0 [] b0 ρ0 e0 (fun i d b h => by rw [Nat.zero_add]; exact step i d b h) fun xs b hl hx => fin xs b hl fun i x h => by have := hx i x h; rwa [Nat.zero_add] at this
end FL
/-! FL21: two or three names stored at once, owned ones too. -/
namespace FL
open PySem PySem.Spec PyProof.Rows L2
def setN {α : Type} (l : List α) : List Nat → List α → List α
  | [], _ => l
  | _ :: _, [] => l
  | i :: is, v :: vs => setN (l.set i v) is vs
theorem setN_len {α : Type} : ∀ (is : List Nat) (l vs : List α), (setN l is vs).length = l.length
  | [], l, vs => by simp [setN]
  | i :: is, l, [] => by simp [setN]
  | i :: is, l, v :: vs => by simp only [setN]; rw [setN_len is, List.length_set]
theorem setN_out {α : Type} : ∀ (is : List Nat) (l vs : List α) (k : Nat), k ∉ is → (setN l is vs)[k]? = l[k]?
  | [], l, vs, k, _ => by simp [setN]
  | i :: is, l, [], k, _ => by simp [setN]
  | i :: is, l, v :: vs, k, h => by
    simp only [setN]
    rw [setN_out is _ vs k fun z => h (List.mem_cons_of_mem _ z), List.getElem?_set_ne fun z => h (by rw [z]; exact List.mem_cons_self)]
theorem setN_in {α : Type} : ∀ (is : List Nat) (l vs : List α) (j i : Nat) (v : α), is.Nodup → is[j]? = some i → vs[j]? = some v → i < l.length → (setN l is vs)[i]? = some v
  | [], l, vs, j, i, v, _, h, _, _ => by simp at h
  | a :: is, l, [], j, i, v, _, _, h, _ => by simp at h
  | a :: is, l, u :: vs, 0, i, v, hn, h, hv, hl => by
    cases h; cases hv
    simp only [setN]
    rw [setN_out is _ vs a (List.nodup_cons.mp hn).1, List.getElem?_set_self hl]
  | a :: is, l, u :: vs, j + 1, i, v, hn, h, hv, hl => by
    simp only [setN]
    exact setN_in is _ vs j i v (List.nodup_cons.mp hn).2 (by simpa using h) (by simpa using hv) (by rw [List.length_set]; exact hl)
/-- temporaries n + 1, n + 2, .. go to the slots is -/
def tempN (n : Nat) (is : List Nat) : Loc → Option Loc
  | h :: s => if h - 1 ∈ is ∧ 0 < h then none else match is[h - (n + 1)]? with
    | some i => if n < h then some ((i + 1) :: s) else some (h :: s)
    | none => some (h :: s)
  | [] => some []
theorem storeN {K : PySem.W.Frag} {M : List Nat} {w : Wd} {σ : Sl} {ρ : En} {is : List Nat} {ds : List D} {vs : List V} (st : StE K w σ ρ) (hn : is.Nodup) (hl : ds.length = is.length) (hv : vs.length = is.length) (hr : ∀ i ∈ is, i < ρ.length) (hM : ∀ i ∈ is, M.contains i = false)
    (r : ∀ j d v, ds[j]? = some d → vs[j]? = some v → Rep K w d [ρ.length + 1 + j] v) : EndS K M w σ ρ (w.ren (tempN ρ.length is)) (setN σ is (vs.map some)) (setN ρ is (ds.map some)) := by
  refine ⟨setN_len _ _ _, ⟨st.wf.ren _, by rw [setN_len, setN_len]; exact st.len, fun i d e => ?_⟩, ⟨Same.refl _, fun a ℓ e ⟨h, s, e2, k⟩ => ?_⟩, fun j hj => ?_⟩
  · by_cases hi : i ∈ is
    · obtain ⟨j, hj, rfl⟩ := List.mem_iff_getElem.mp hi
      have hjd : j < ds.length := by omega
      have hjv : j < vs.length := by omega
      rw [setN_in is ρ (ds.map some) j is[j] (some ds[j]) hn (List.getElem?_eq_getElem hj) (by rw [List.getElem?_map, List.getElem?_eq_getElem hjd]; rfl) (hr _ hi)] at e
      cases e
      refine ⟨vs[j], setN_in is σ _ j _ _ hn (List.getElem?_eq_getElem hj) (by rw [List.getElem?_map, List.getElem?_eq_getElem hjv]; rfl) (by rw [st.len]; exact hr _ hi), ?_⟩
      refine (r j _ _ (List.getElem?_eq_getElem hjd) (List.getElem?_eq_getElem hjv)).ren fun s => ?_
      show (if _ then _ else _) = _
      rw [if_neg fun z => by have := hr _ z.1; omega, show ρ.length + 1 + j - (ρ.length + 1) = j by omega, List.getElem?_eq_getElem hj]
      exact if_pos (by omega)
    · rw [setN_out _ _ _ _ hi] at e ⊢
      obtain ⟨v', e1, r'⟩ := st.rep i d e
      have hl := (List.getElem?_eq_some_iff.mp e).1
      refine ⟨v', e1, r'.ren fun s => ?_⟩
      show (if _ then _ else _) = _
      rw [if_neg fun z => hi (by simpa using z.1)]
      split
      · rw [if_neg (by omega)]; rfl
      · rfl
  · subst e2
    refine ⟨ren_at e ?_, rfl⟩
    show (if _ then _ else _) = _
    rw [if_neg fun z => by have := hr _ z.1; omega]
    split
    · rw [if_neg (by omega)]
    · rfl
  · exact setN_out _ _ _ _ fun z => by
      have := hM j z
      rw [List.contains_iff_mem.mpr hj] at this; cases this
/-- the temporaries of P (counted from n + 1) frozen -/
def frzN : List Bool → List D → List D
  | b :: bs, d :: ds => (match b with | true => d | false => d.frz) :: frzN bs ds
  | _, _ => []
theorem frzN_get : ∀ (bs : List Bool) (ds : List D) (j : Nat) (d' : D), (frzN bs ds)[j]? = some d' → ∃ b d, bs[j]? = some b ∧ ds[j]? = some d ∧ d' = (match b with | true => d | false => d.frz)
  | [], ds, j, d', h => by simp [frzN] at h
  | b :: bs, [], j, d', h => by simp [frzN] at h
  | b :: bs, d :: ds, 0, d', h => by simp only [frzN] at h; cases h; exact ⟨b, d, rfl, rfl, rfl⟩
  | b :: bs, d :: ds, j + 1, d', h => by
    simp only [frzN, List.getElem?_cons_succ] at h
    obtain ⟨b', d2, h1, h2, h3⟩ := frzN_get bs ds j d' h
    exact ⟨b', d2, by simpa using h1, by simpa using h2, h3⟩
theorem frzN_len : ∀ (bs : List Bool) (ds : List D), bs.length = ds.length → (frzN bs ds).length = ds.length
  | [], [], _ => rfl
  | b :: bs, d :: ds, h => by simp only [frzN, List.length_cons]; rw [frzN_len bs ds (by simpa using h)]
  | [], _ :: _, h => by cases h
  | _ :: _, [], h => by cases h
def iceN (n : Nat) (bs : List Bool) : Loc → Bool := fun ℓ => match ℓ with
  | h :: _ => decide (n < h) && (bs[h - (n + 1)]? == some false)
  | [] => false
theorem ice_N {K : PySem.W.Frag} {w : Wd} {σ : Sl} {ρ : En} {bs : List Bool} {ds : List D} {vs : List V} (st : StE K w σ ρ) (r : ∀ j d v, ds[j]? = some d → vs[j]? = some v → Rep K w d [ρ.length + 1 + j] v) :
    EndE K (ρ.length + 1) w σ ρ ρ (w.ice (iceN ρ.length bs)) ∧ ∀ j d v, (frzN bs ds)[j]? = some d → vs[j]? = some v → Rep K (w.ice (iceN ρ.length bs)) d [ρ.length + 1 + j] v := by
  refine ⟨⟨rfl, st.to st.wf.ice (ice_same st.wf) fun i hi => ice_kept fun s => ?_, ⟨ice_same st.wf, fun a ℓ e ⟨h, s, e2, k⟩ => ?_⟩⟩, fun j d' v h1 h2 => ?_⟩
  · show (decide (ρ.length < i + 1) && _) = false
    rw [decide_eq_false (by omega)]; rfl
  · subst e2
    have := ice_kept (w := w) (ℓ := h :: s) (P := iceN ρ.length bs) (fun t => by
      show (decide (ρ.length < h) && _) = false
      rw [decide_eq_false (by omega)]; rfl) a [] (by simpa using e)
    simpa using this
  · obtain ⟨b, d, g1, g2, rfl⟩ := frzN_get bs ds j d' h1
    have rd := r j d v g2 h2
    have hj : ρ.length + 1 + j - (ρ.length + 1) = j := by omega
    cases b with
    | false =>
      refine Rep.frz (w := w) (ice_same st.wf) d (ice_frz fun s => ?_) rd
      show (decide (ρ.length < ρ.length + 1 + j) && (bs[ρ.length + 1 + j - (ρ.length + 1)]? == some false)) = true
      rw [hj, g1, decide_eq_true (by omega)]; rfl
    | true =>
      refine Rep.to (w := w) (ice_same st.wf) d (ice_kept fun s => ?_) rd
      show (decide (ρ.length < ρ.length + 1 + j) && (bs[ρ.length + 1 + j - (ρ.length + 1)]? == some false)) = false
      rw [hj, g1]
      simp
/-- a, b = x, y; a, b, c = x, y, z: each frozen, or (true) owned -/
def rParN (is : List Nat) (bs : List Bool) (ra : RA) : RS := fun ρ E F => ra ρ E fun ads ρ' => onVals ads fun ds => match is.all fun i => (ρ'[i]?).isSome with
  | true => nf (setN ρ' is ((frzN bs ds).map some)) F.nx
  | false => False
theorem all_lt {ρ : En} {is : List Nat} (h : (is.all fun i => (ρ[i]?).isSome) = true) : ∀ i ∈ is, i < ρ.length := fun i hi => by
  have := List.all_eq_true.mp h i hi
  cases e : ρ[i]? with
  | none => rw [e] at this; cases this
  | some d => exact (List.getElem?_eq_some_iff.mp e).1
section
variable {X : Cx} {W : WX} {M : List Nat} {pos px py pz pt pt2 : Pos}
theorem parN_end {σ : Sl} {w1 : Wd} {ρ1 : En} {is : List Nat} {bs : List Bool} {ds : List D} {vs : List V} (st : StE X.K w1 σ ρ1) (hn : is.Nodup) (hd : ds.length = is.length) (hb : bs.length = is.length) (hv : vs.length = is.length) (hr : ∀ i ∈ is, i < ρ1.length) (hM : ∀ i ∈ is, M.contains i = false)
    (r : ∀ j d v, ds[j]? = some d → vs[j]? = some v → Rep X.K w1 d [ρ1.length + 1 + j] v) : ∃ w2, w2.H = w1.H ∧ EndS X.K M w1 σ ρ1 w2 (setN σ is (vs.map some)) (setN ρ1 is ((frzN bs ds).map some)) := by
  obtain ⟨e2, r2⟩ := ice_N (bs := bs) st r
  exact ⟨(w1.ice (iceN ρ1.length bs)).ren (tempN ρ1.length is), rfl, (e2.s (Nat.lt_succ_self _)).trans (storeN e2.st hn (by rw [frzN_len _ _ (by omega)]; exact hd) hv hr hM r2)⟩
theorem fs_par2 (i j : Nat) (bs : List Bool) {x y : Str} {a b : Expr} {ra : RA} {kt k2 : Nat} (ha : FA X W [a, b] ra) (hN : X.N.Nodup) (hb : bs.length = 2 := by rfl) (hi : X.N[i]? = some x := by rfl) (hj : X.N[j]? = some y := by rfl) (hij : i ≠ j := by decide)
    (hx : X.env.scope.names.lookup x = some .local := by rfl) (hy : X.env.scope.names.lookup y = some .local := by rfl) (hMi : ([i, j].all fun i => !M.contains i) = true := by rfl) (hc : X.calm = true := by rfl)
    (hw : swappedStores [.Tuple [.Name x px, .Name y py] kt pt] (.Tuple [a, b] k2 pt2) X.env = pure (some [x, y]) := by rfl)
    (hs : swapsWithSole [.Tuple [.Name x px, .Name y py] kt pt] (.Tuple [a, b] k2 pt2) pos.line X.env = pure false := by rfl) : FS X W M (.Assign [.Tuple [.Name x px, .Name y py] kt pt] (.Tuple [a, b] k2 pt2) pos) (rParN [i, j] bs ra) := by
  obtain ⟨t, p, s⟩ := ha.ex
  refine ⟨_, ps_par hc hN hi hj hij hx hy p hw hs, fun w σ ρ E F D st h hf => ?_⟩
  refine s _ w σ ρ E _ _ (Nat.lt_succ_self _) st h (fun ads ρ1 w1 vs h1 l1 e1 r1 => ?_) hf.sx
  obtain ⟨ds, ev, q⟩ := onVals_elim h1
  obtain ⟨l2, l3, g⟩ := vals_at r1 ev
  have hr : ([i, j].all fun i => (ρ1[i]?).isSome) = true := by
    cases e : [i, j].all fun i => (ρ1[i]?).isSome with
    | true => rfl
    | false => rw [e] at q; exact q.elim
  rw [hr] at q
  have k1 : ds.length = 2 := by rw [l3, l1]; rfl
  match ds, vs, k1, l2, q, l3, g with
  | [d, e], [v, u], k1, l2, q, l3, g =>
    refine ⟨v, u, rfl, ?_⟩
    obtain ⟨w2, e0, e2⟩ := parN_end (M := M) (X := X) (bs := bs) (is := [i, j]) e1.st (by simp [hij]) rfl hb rfl (all_lt hr) (fun k hk => by
        have := List.all_eq_true.mp hMi k hk
        simpa using this) (fun k d v h1 h2 => by have := g k d v h1 h2; rwa [e1.len])
    rw [← e0]
    exact hf.nx _ w2 _ (nf_of q) ((e1.s (Nat.lt_succ_self _)).trans e2)
theorem fs_par3 (i j l : Nat) (bs : List Bool) {x y z : Str} {a b c : Expr} {ra : RA} {kt k2 : Nat} (ha : FA X W [a, b, c] ra) (hN : X.N.Nodup) (hb : bs.length = 3 := by rfl) (hi : X.N[i]? = some x := by rfl) (hj : X.N[j]? = some y := by rfl) (hl : X.N[l]? = some z := by rfl) (hij : i ≠ j := by decide) (hil : i ≠ l := by decide) (hjl : j ≠ l := by decide)
    (hx : X.env.scope.names.lookup x = some .local := by rfl) (hy : X.env.scope.names.lookup y = some .local := by rfl) (hz : X.env.scope.names.lookup z = some .local := by rfl) (hMi : ([i, j, l].all fun i => !M.contains i) = true := by rfl) (hc : X.calm = true := by rfl)
    (hw : swappedStores [.Tuple [.Name x px, .Name y py, .Name z pz] kt pt] (.Tuple [a, b, c] k2 pt2) X.env = pure (some [x, y, z]) := by rfl)
    (hs : swapsWithSole [.Tuple [.Name x px, .Name y py, .Name z pz] kt pt] (.Tuple [a, b, c] k2 pt2) pos.line X.env = pure false := by rfl) : FS X W M (.Assign [.Tuple [.Name x px, .Name y py, .Name z pz] kt pt] (.Tuple [a, b, c] k2 pt2) pos) (rParN [i, j, l] bs ra) := by
  obtain ⟨t, p, s⟩ := ha.ex
  refine ⟨_, ps_par3 hc hN hi hj hl hij hil hjl hx hy hz p hw hs, fun w σ ρ E F D st h hf => ?_⟩
  refine s _ w σ ρ E _ _ (Nat.lt_succ_self _) st h (fun ads ρ1 w1 vs h1 l1 e1 r1 => ?_) hf.sx
  obtain ⟨ds, ev, q⟩ := onVals_elim h1
  obtain ⟨l2, l3, g⟩ := vals_at r1 ev
  have hr : ([i, j, l].all fun i => (ρ1[i]?).isSome) = true := by
    cases e : [i, j, l].all fun i => (ρ1[i]?).isSome with
    | true => rfl
    | false => rw [e] at q; exact q.elim
  rw [hr] at q
  have k1 : ds.length = 3 := by rw [l3, l1]; rfl
  match ds, vs, k1, l2, q, l3, g with
  | [d, e, f], [v, u, u3], k1, l2, q, l3, g =>
    refine ⟨v, u, u3, rfl, ?_⟩
    obtain ⟨w2, e0, e2⟩ := parN_end (M := M) (X := X) (bs := bs) (is := [i, j, l]) e1.st (by simp [hij, hil, hjl]) rfl hb rfl (all_lt hr) (fun k hk => by
        have := List.all_eq_true.mp hMi k hk
        simpa using this) (fun k d v h1 h2 => by have := g k d v h1 h2; rwa [e1.len])
    rw [← e0]
    exact hf.nx _ w2 _ (nf_of q) ((e1.s (Nat.lt_succ_self _)).trans e2)
end
end FL
/-! FL22: plain data, for comparisons. -/
namespace FL
open PySem PySem.Spec PyProof.Rows L2
structure Sm (d : D) (n : Nat) : Prop where
  dat : d.dat = true
  dep : d.dep ≤ n
def SmL (ds : List D) (n : Nat) : Prop := ∀ d ∈ ds, Sm d n
theorem SmL.nil {n : Nat} : SmL [] n := fun d h => (nomatch h)
theorem SmL.cons {d : D} {ds : List D} {n : Nat} (h : Sm d n) (k : SmL ds n) : SmL (d :: ds) n := fun e he => by
  rcases List.mem_cons.mp he with rfl | he
  · exact h
  · exact k e he
theorem SmL.app {ds es : List D} {n : Nat} (h : SmL ds n) (k : SmL es n) : SmL (ds ++ es) n := fun e he => by
  rcases List.mem_append.mp he with he | he
  · exact h e he
  · exact k e he
theorem SmL.map {α : Type} {f : α → D} {xs : List α} {n : Nat} (h : ∀ x ∈ xs, Sm (f x) n) : SmL (xs.map f) n := fun d hd => by
  obtain ⟨x, hx, rfl⟩ := List.mem_map.mp hd
  exact h x hx
theorem SmL.dat {ds : List D} {n : Nat} (h : SmL ds n) : datL ds = true := datL_all.mpr fun d hd => (h d hd).dat
theorem SmL.dep {ds : List D} {n : Nat} (h : SmL ds n) : depL ds ≤ n := depL_le fun d hd => (h d hd).dep
theorem Sm.mono {d : D} {n m : Nat} (h : Sm d n) (k : n ≤ m) : Sm d m := ⟨h.dat, Nat.le_trans h.dep k⟩
theorem SmL.mono {ds : List D} {n m : Nat} (h : SmL ds n) (k : n ≤ m) : SmL ds m := fun d hd => (h d hd).mono k
theorem Sm.int {i : Int} {n : Nat} : Sm (.int i) n := ⟨rfl, Nat.zero_le _⟩
theorem Sm.bl {i : Bool} {n : Nat} : Sm (.bl i) n := ⟨rfl, Nat.zero_le _⟩
theorem Sm.non {n : Nat} : Sm .non n := ⟨rfl, Nat.zero_le _⟩
theorem Sm.str {i : Str} {n : Nat} : Sm (.str i) n := ⟨rfl, Nat.zero_le _⟩
theorem Sm.lst {o : Ow} {ds : List D} {n : Nat} (h : SmL ds n) : Sm (.lst o ds) (n + 1) := ⟨h.dat, Nat.succ_le_succ h.dep⟩
theorem Sm.tup {o : Bool} {ds : List D} {n : Nat} (h : SmL ds n) : Sm (.tup o ds) (n + 1) := ⟨h.dat, Nat.succ_le_succ h.dep⟩
theorem Sm.ro {o : Bool} {ds : List D} {n : Nat} (h : SmL ds n) : Sm (.ro o ds) (n + 1) := ⟨h.dat, Nat.succ_le_succ h.dep⟩
theorem Sm.ints {o : Ow} {xs : List Int} : Sm (.lst o (xs.map D.int)) 1 := .lst (.map fun _ _ => .int)
theorem Sm.intt {o : Bool} {xs : List Int} : Sm (.tup o (xs.map D.int)) 1 := .tup (.map fun _ _ => .int)
theorem Sm.min {a b : D} {n : Nat} (h : Sm a n) (k : n ≤ 60 := by decide) : min a.dep b.dep ≤ 60 := Nat.le_trans (Nat.min_le_left _ _) (Nat.le_trans h.dep k)
theorem pyL_ints (xs : List Int) : pyL (xs.map D.int) = xs.map PyData.int := by rw [pyL_map]; rfl
theorem zpD_map {α β : Type} (f : α → D) (g : β → D) : ∀ (xs : List α) (ys : List β), zpD (xs.map f) (ys.map g) = (xs.zip ys).map fun p => .tup false [f p.1, g p.2]
  | [], _ => by simp [zpD]
  | _ :: _, [] => by simp [zpD]
  | x :: xs, y :: ys => by simp [zpD, zpD_map f g xs ys]
theorem enD_map {α : Type} (f : α → D) : ∀ (k : Nat) (xs : List α), enD k (xs.map f) = (xs.zipIdx k).map fun p => .tup false [.int (p.2 : Nat), f p.1]
  | _, [] => by simp [enD]
  | k, x :: xs => by simp [enD, enD_map f (k + 1) xs]
/-- each part by itself -/
theorem compR_allE {α : Type} {f : D → En → (Option D → En → Prop) → Prop} {vs : List Nat} {Q : Ow → List D → En → Prop} {ds : List D} {ρ : En} (xs : List α) (g h : α → D) (e : ds = xs.map g)
    (k : ∀ x ∈ xs, f (g x) ρ fun o ρ' => o = some (h x) ∧ wipeD ρ' vs = ρ) (ho : ∀ x, (h x).own = false) (q : Q .flat (xs.map h) ρ) : compR f vs ds ρ .flat [] Q := by
  subst e
  exact compR_all g h xs ρ k ho q
/-- those parts that p takes -/
theorem compR_if {α : Type} {f : D → En → (Option D → En → Prop) → Prop} {vs : List Nat} {Q : Ow → List D → En → Prop} {ds : List D} {ρ : En} (xs : List α) (g : α → D) (p : α → Bool) (h : α → D) (e : ds = xs.map g)
    (k : ∀ x ∈ xs, f (g x) ρ fun o ρ' => (o = if p x then some (h x) else none) ∧ wipeD ρ' vs = ρ) (ho : ∀ x, (h x).own = false) (q : Q .flat ((xs.filter p).map h) ρ) : compR f vs ds ρ .flat [] Q := by
  subst e
  refine compR_map g (fun x => if p x then some (h x) else none) xs [] ρ k (fun x _ y e => by split at e <;> cases e; exact ho x) ?_
  have : xs.filterMap (fun x => if p x then some (h x) else none) = (xs.filter p).map h := by
    clear k q
    induction xs with
    | nil => rfl
    | cons x xs ih => rw [List.filterMap_cons, List.filter_cons]; cases p x <;> simp [ih]
  rw [List.nil_append, this]
  exact q
/-- parts that are owned -/
theorem compR_ownK {α : Type} {f : D → En → (Option D → En → Prop) → Prop} {vs : List Nat} {Q : Ow → List D → En → Prop} {ρ : En} (g h : α → D) (ho : ∀ x, (h x).own = true) : ∀ (xs : List α) (k : Ow) (acc : List D),
    (∀ x ∈ xs, f (g x) ρ fun o ρ' => o = some (h x) ∧ wipeD ρ' vs = ρ) → Q (match xs with | [] => k | _ => .deep) (acc ++ xs.map h) ρ → compR f vs (xs.map g) ρ k acc Q
  | [], k, acc, _, q => by simpa [compR] using q
  | x :: xs, k, acc, hs, q => by
    refine ⟨_, hs x List.mem_cons_self, fun o ρ' ⟨e1, e2⟩ => ?_⟩
    subst e1
    have : kindR k (some (h x)) = .deep := by simp only [kindR, ho x]
    rw [this, e2]
    refine compR_ownK g h ho xs .deep _ (fun y hy => hs y (List.mem_cons_of_mem _ hy)) ?_
    have e : acc ++ (some (h x)).toList ++ xs.map h = acc ++ (x :: xs).map h := by simp
    rw [e]
    cases xs <;> exact q
theorem compR_own {α : Type} {f : D → En → (Option D → En → Prop) → Prop} {vs : List Nat} {Q : Ow → List D → En → Prop} {ds : List D} {ρ : En} (xs : List α) (g h : α → D) (e : ds = xs.map g) (hne : xs ≠ [])
    (k : ∀ x ∈ xs, f (g x) ρ fun o ρ' => o = some (h x) ∧ wipeD ρ' vs = ρ) (ho : ∀ x, (h x).own = true) (q : Q .deep (xs.map h) ρ) : compR f vs ds ρ .flat [] Q := by
  subst e
  refine compR_ownK g h ho xs .flat [] k ?_
  cases xs with
  | nil => exact absurd rfl hne
  | cons x xs => exact q
/-- an int, or nothing yet -/
def isI (o : Option D) : Prop := o = none ∨ ∃ i : Int, o = some (.int i)
theorem isI.i {i : Int} : isI (some (.int i)) := .inr ⟨i, rfl⟩
theorem isI.n : isI none := .inl rfl
theorem eq_yes {a b : D} (h : a.dat = true) (e : a.py = b.py) : (false ^^ deq a b) = true := by rw [deq_py h e]; rfl
theorem ite01 {b : Bool} : (0 : Int) ≤ (if b = true then 1 else 0) ∧ (if b = true then (1 : Int) else 0) ≤ 1 := by cases b <;> decide
end FL
/-! FL23: list(reversed(xs)), at the library's level. -/
namespace PySem
open PySem PySem.Spec PyProof.Rows RT
variable {prog : Program} {w : World} {A : Around} {E : Value → Shared → Prop} {s : Shared}
theorem fl_extend_rev {R : Result → Shared → Prop} {it l S : Addr} {items : Array Value} {c₀ : Nat} (hh : A.handled = none) (hit : s.heap.IsRevIter it l ((items.size : Int) - 1)) (hl : s.heap.IsList l items) (hne : l ≠ it) (hn : items.size ≤ sizeLine) (hSi : S ≠ it) (hSl : S ≠ l)
    (hS : s.heap.get? S = some { cls := .type "list", data := .seq #[] c₀ })
    (hR : ∀ (h' : Heap) (tk : Nat) (acc : Array Value) (c : Nat), (∀ b o, b ≠ it → b ≠ S → s.heap.get? b = some o → h'.get? b = some o) → h'.get? S = some { cls := .type "list", dict := none, data := .seq acc c, slots := #[] } → ItemsOf (fun i v => items[items.size - 1 - i]? = some v) acc items.size → R (.ok (.ret .none)) { s with heap := h', toks := tk }) :
    wpAny (model prog w) A.in1 (Builtin.List.listExtendWith (.ref S) (.ref it) .none)
      (fun fin s' => match fin with | .done f => R (.ok f) s' | .again c' => c'.quiet = true ∧ codeAny (model prog w) A c' R s') (fun e s' => R (.error e) s') s := by
  have W := (Walks.listRev (prog := prog) (w := w) (A := A.in1) hh it l hne items).toS
  have hSf : S ∉ [it, l] := by simp only [List.mem_cons, List.not_mem_nil, or_false, not_or]; exact ⟨hSi, hSl⟩
  have hT : s.TypeIs (.ref it) "list_reverseiterator" := Heap.IsRevIter.typeIs hit
  have h1 : Builtin.List.listSameRef (.ref S) (.ref it) = false := by simp [Builtin.List.listSameRef, hSi]
  unfold Builtin.List.listExtendWith
  refine wpAny_bind (wpAny_typeOf hT ?_)
  rw [if_neg (by rw [h1]; decide)]
  refine wpAny_bind (wpAny_pyIter_revIter (s := s) hit ?_)
  refine wpAny_bind (wpAny_holding ?_)
  unfold Builtin.List.listLengthHint
  refine wpAny_bind (wpAny_specialOf hT nolen_lri ?_)
  show wpAny _ A.in1 (specialOf (Value.ref it) (Str.ofString "__length_hint__") >>= _) _ _ _
  refine wpAny_bind (wpAny_specialOf hT hint_lri ?_)
  generalize hid : ("list_reverseiterator.__length_hint__" : String) = id0
  wp_delta
  rw [show splitId id0 = some ("list_reverseiterator", "__length_hint__") from by subst hid; decide +kernel]
  subst hid
  refine wpAny_bind (wpAny_isInstance (b := true) hT (by rw [isSubtype_type]; kernel_rfl) ?_)
  refine wpAny_pure ?_
  rw [if_neg (by decide)]
  have e0 : ((items.size : Nat) : Int) - 1 - ((0 : Nat) : Int) = (items.size : Int) - 1 := by omega
  refine wpAny_pure ⟨plainId_quiet F.plain_extend_loop _, codeAny_extend_loopS W hn _ hSf _ items.size 0 _ _ _ rfl (Nat.zero_le _) ⟨Nat.zero_le _, by rw [e0]; exact hit, hl⟩ hS (ItemsOf.nil _) fun s' acc' c' hm hS' hacc => ?_⟩
  rw [Moved.eq_with hm]
  refine hR s'.heap s'.toks acc' c' (fun b o hb hb2 e => hm.heap b o (fun hmem => ?_) e) hS' hacc
  rcases List.mem_cons.mp hmem with e' | hmem
  · exact hb2 e'
  · exact hb (List.mem_singleton.mp hmem)
theorem fl_list_init_rev {R : Result → Shared → Prop} {it l S : Addr} {items : Array Value} (hh : A.handled = none) (hit : s.heap.IsRevIter it l ((items.size : Int) - 1)) (hl : s.heap.IsList l items) (hne : l ≠ it) (hn : items.size ≤ sizeLine) (hSi : S ≠ it) (hSl : S ≠ l)
    (hS : s.heap.get? S = some { cls := .type "list", data := .seq #[] })
    (hR : ∀ (h' : Heap) (tk : Nat) (acc : Array Value) (c : Nat), (∀ b o, b ≠ it → b ≠ S → s.heap.get? b = some o → h'.get? b = some o) → h'.get? S = some { cls := .type "list", dict := none, data := .seq acc c, slots := #[] } → ItemsOf (fun i v => items[items.size - 1 - i]? = some v) acc items.size → R (.ok (.ret .none)) { s with heap := h', toks := tk }) :
    wpAny (model prog w) A.in1 (Builtin.«list.__init__» ⟨[.ref S, .ref it], []⟩)
      (fun fin s' => match fin with | .done f => R (.ok f) s' | .again c' => c'.quiet = true ∧ codeAny (model prog w) A c' R s') (fun e s' => R (.error e) s') s := by
  show wpAny _ A.in1 (do let old ← Builtin.List.listItems (.ref S); Builtin.List.listUpdate (.ref S) (fun _ => #[]); letGo old.toList.reverse; Builtin.List.listExtendWith (.ref S) (.ref it) .none) _ _ s
  refine wpAny_bind ?_
  unfold Builtin.List.listItems
  refine wpAny_bind (wpAny_seqItems hS rfl (wpAny_pure ?_))
  show wpAny _ A.in1 (updateSeq S (fun _ => #[]) >>= fun _ => letGo (#[] : Array Value).toList.reverse >>= fun _ => Builtin.List.listExtendWith (.ref S) (.ref it) .none) _ _ s
  refine wpAny_bind (wpAny_updateSeq hS rfl ?_)
  have hS₂ := Heap.get?_update_self (Obj.mapSeq (fun _ => (#[] : Array Value))) hS rfl
  have oth : ∀ b o, b ≠ S → s.heap.get? b = some o → (s.heap.update S (Obj.mapSeq (fun _ => (#[] : Array Value)))).get? b = some o :=
    fun b o hb e => (Heap.get?_update_other _ _ (Ne.symm hb)).trans e
  refine wpAny_bind (wpAny_letGo ?_)
  obtain ⟨ol, hol, rl⟩ := id hl
  refine fl_extend_rev (s := { s with heap := s.heap.update S (Obj.mapSeq (fun _ => (#[] : Array Value))) }) hh (hit.at fun o e => oth it o (Ne.symm hSi) e) ⟨ol, oth l ol (Ne.symm hSl) hol, rl⟩ hne hn hSi hSl hS₂ fun h' tk acc c hk hS' hacc => ?_
  exact hR h' tk acc c (fun b o hb hb2 e => hk b o hb hb2 (oth b o hb2 e)) hS' hacc
theorem fl_call_list_rev {it l : Addr} {items : Array Value} {Q : Value → Shared → Prop} (hh : A.handled = none) (hit : s.heap.IsRevIter it l ((items.size : Int) - 1)) (hl : s.heap.IsList l items) (hne : l ≠ it) (hn : items.size ≤ sizeLine)
    (hQ : ∀ (h' : Heap) (tk : Nat) (acc : Array Value) (c : Nat), (∀ b o, b ≠ it → s.heap.get? b = some o → h'.get? b = some o) → h'.get? s.heap.objs.size = some { cls := .type "list", dict := none, data := .seq acc c, slots := #[] } → ItemsOf (fun i v => items[items.size - 1 - i]? = some v) acc items.size → Q (.ref s.heap.objs.size) { s with heap := h', toks := tk }) :
    wpAny (model prog w) A (call (.type "list") [.ref it]) Q E s := by
  obtain ⟨oi, hoi, _⟩ := id hit
  obtain ⟨ol, hol, _⟩ := id hl
  have hSi : s.heap.objs.size ≠ it := Nat.ne_of_gt (Heap.lt_size hoi)
  have hSl : s.heap.objs.size ≠ l := Nat.ne_of_gt (Heap.lt_size hol)
  refine callType_codes (Q₁ := fun obj s₁ => obj = .ref s.heap.objs.size ∧ s₁ = { s with heap := s.heap.push { cls := .type "list", data := .seq #[] } }) F.called_list (F.typeCall_list_1 _) F.entry_list_init
    (code_list_new _ ⟨rfl, rfl⟩) fun obj s₁ h₁ => ?_
  obtain ⟨rfl, rfl⟩ := h₁
  have hS : (s.heap.push { cls := .type "list", data := .seq #[] }).get? s.heap.objs.size = some { cls := .type "list", data := .seq #[] } := Heap.get?_push_size _ rfl
  refine ⟨⟨_, hS, rfl⟩, F.args_list_init_2 _ _, fl_list_init_rev (s := { s with heap := s.heap.push { cls := .type "list", data := .seq #[] } }) hh (hit.at fun o e => Heap.get?_push_of_some _ e) (hl.push _) hne hn hSi hSl hS fun h' tk acc c hk hS' hacc => ?_⟩
  exact ⟨rfl, hQ h' tk acc c (fun b o hb e => hk b o hb (Nat.ne_of_lt (Heap.lt_size e)) (Heap.get?_push_of_some _ e)) hS' hacc⟩
end PySem
namespace FL
open PySem PySem.Spec PyProof.Rows L2 RT
/-- list(reversed(x)), x a list -/
def tLstRev (K : PySem.W.Frag) (te : TE) : TE := fun σ H Q => te σ H fun v H1 => ∃ (a : Addr) (xs : List V), v = .ref a ∧ SqL K H1 a xs ∧ ∀ q, H1 q = none → Q (.ref q) (upd H1 q (.lst xs.reverse))
section
variable {X : Cx}
theorem pe_listRev {e : Expr} {te : TE} {p p2 pos pos2 : Pos} (hc : X.calm = true) (hg : Gl X "list") (hm : X.mg "list" = none) (hg2 : Gl X "reversed") (hm2 : X.mg "reversed" = none) (he : PE X e te)
    (hs : starEach [e] X.env = (false, eval e X.env) :: starEach [] X.env := by rfl)
    (hs2 : starEach [.Call (.Name "reversed" p2) [e] [] pos2] X.env = (false, eval (.Call (.Name "reversed" p2) [e] [] pos2) X.env) :: starEach [] X.env := by rfl) :
    PE X (.Call (.Name "list" p) [.Call (.Name "reversed" p2) [e] [] pos2] [] pos) (tLstRev X.K te) := by
  refine ⟨fun pins s σ H Q I h => ?_⟩
  refine Call_ (ld_blt I hg hm boot_list (PyProof.Rows.callWith_type1 (args_cons (Call_ (ld_blt I hg2 hm2 PyProof.Rows.boot_reversed (PyProof.Rows.callWith_type1 (args_cons (thn (he.run pins s σ H _ I h) fun u s1 ⟨v, H1, I1, r1, q1⟩ => args_nil ?_) hs) hs rfl))) hs2) hs2 rfl))
  obtain ⟨a, xs, ev, hq, q⟩ := q1
  subst ev
  obtain rfl : u = Value.ref a := r1
  obtain ⟨its, rv, p', hz⟩ := I1.list hq
  refine call_reversed_list p'.isList (args_nil ?_)
  have hl := p'.isList
  obtain ⟨ol, hol, _⟩ := id hl
  have hne : a ≠ s1.heap.objs.size := Nat.ne_of_lt (Heap.lt_size hol)
  have hn : its.toArray.size ≤ sizeLine := by rw [List.size_toArray, ← rv.length]; exact hz
  have hsz : (s1.heap.push (revObj a ((its.toArray.size : Int) - 1))).objs.size = s1.heap.objs.size + 1 := by simp [Heap.push]
  refine fl_call_list_rev (s := { s1 with heap := s1.heap.push (revObj a ((its.toArray.size : Int) - 1)) }) (I1.ok.hd hc) ⟨_, Heap.get?_push_size _ rfl, rfl, rfl⟩ (hl.push _) hne hn fun h' tk acc c hk hS hi => ?_
  have k0 : ∀ b o, s1.heap.get? b = some o → h'.get? b = some o := fun b o e => hk b o (Nat.ne_of_lt (Heap.lt_size e)) (Heap.get?_push_of_some _ e)
  refine ⟨.ref (s1.heap.push (revObj a ((its.toArray.size : Int) - 1))).objs.size, upd H1 (s1.heap.push (revObj a ((its.toArray.size : Int) - 1))).objs.size (.lst xs.reverse), I1.laid (t' := tk) k0 (by rw [hsz]; omega) (show ObjOk X.prog X.w _ h' _ (.lst xs.reverse) from ⟨by rw [List.length_reverse]; exact hz, acc.toList, c, vals_rev rv hi, ?_⟩), rfl, q _ (I1.hok.fresh (by rw [hsz]; omega))⟩
  rw [Array.toArray_toList]
  exact hS
end
end FL
/-! FL24: reversed, is of bools, chains, in. -/
namespace FL
open PySem PySem.Spec PyProof.Rows L2 RT
/-- list(reversed(x)) -/
def rLstRev (ra : RO) : RE := fun ρ E Q => ra ρ E fun x ρ1 => on1 ρ1 x fun dx => match dx with
  | .lst o ds => match o with
    | .deep => False
    | .flat => Q (.lst .flat ds.reverse) ρ1
    | .ice => Q (.lst .flat ds.reverse) ρ1
  | _ => False
section
variable {X : Cx} {W : WX} {M : List Nat} {pos p p2 pos2 : Pos}
theorem RepL.rev {K : PySem.W.Frag} {w : Wd} {ds : List D} {ℓ : Loc} {vs : List V} (ho : ownL ds = false) (h : ∀ ℓ j, RepL K w ds ℓ j vs) : RepL K w ds.reverse ℓ 0 vs.reverse := by
  have hl := (h [] 0).length
  refine RepL.of (by rw [List.length_reverse, List.length_reverse]; exact hl) fun j d v e1 e2 => ?_
  have hj := (List.getElem?_eq_some_iff.mp e1).1
  rw [List.length_reverse] at hj
  rw [List.getElem?_reverse hj] at e1
  rw [List.getElem?_reverse (by omega), hl] at e2
  obtain ⟨v', e3, r⟩ := (h [] 0).get e1
  rw [e2] at e3; cases e3
  exact r.free (Same.refl _) d (ownL_iff.mp ho d (List.mem_of_getElem? e1))
theorem fe_listRev {e : Expr} {ra : RO} (he : FO X W e ra) (hm : X.mg "list" = none) (hm2 : X.mg "reversed" = none) (hc : X.calm = true := by rfl) (hg : Gl X "list" := by rfl) (hg2 : Gl X "reversed" := by rfl)
    (hs : starEach [e] X.env = (false, eval e X.env) :: starEach [] X.env := by rfl)
    (hs2 : starEach [.Call (.Name "reversed" p2) [e] [] pos2] X.env = (false, eval (.Call (.Name "reversed" p2) [e] [] pos2) X.env) :: starEach [] X.env := by rfl) :
    FE X W (.Call (.Name "list" p) [.Call (.Name "reversed" p2) [e] [] pos2] [] pos) (rLstRev ra) := by
  obtain ⟨t, q, k⟩ := he.ex
  refine ⟨_, pe_listRev hc hg hm hg2 hm2 q hs hs2, fun τ w σ ρ E Q Qv hn st h hq hx => ?_⟩
  refine k τ w σ ρ E _ _ hn st h (fun x ρ1 w1 v h1 e1 r1 => ?_) hx
  obtain ⟨dx, ex, h1⟩ := on1_elim h1
  obtain ⟨ℓ, rx⟩ := ad_get e1.st r1 ex
  cases dx with
  | lst o ds =>
    have hz := lst_sz rx
    obtain ⟨a, us, rfl, g1, g2⟩ := lst_at e1.st.wf rx
    have key : o.light = true → Q (.lst .flat ds.reverse) ρ1 → ∃ (a' : Addr) (xs : List V), V.ref a = .ref a' ∧ SqL X.K w1.H a' xs ∧ ∀ q, w1.H q = none → Qv (.ref q) (upd w1.H q (.lst xs.reverse)) := fun ho hd => by
      have hL := hz.2 ho
      refine ⟨a, us, rfl, SqL.of g1, fun p n => ?_⟩
      obtain ⟨e2, r2⟩ := EndE.own (τ := τ) .flat e1.st n (RepL.rev (ℓ := [τ]) hL fun ℓ' j => RepL.free (w' := w1) (ℓ' := ℓ') (j' := j) (Same.refl _) ds hL g2) (by rw [List.length_reverse]; exact hz.1) (fun _ => by rw [ownL_iff] at hL ⊢; exact fun d hd => hL d (List.mem_reverse.mp hd)) rfl
      exact hq _ _ _ _ hd (e1.trans e2 (Nat.le_refl _)) r2
    cases o with
    | deep => exact h1.elim
    | flat => exact key rfl h1
    | ice => exact key rfl h1
  | _ => exact h1.elim
/-- for x in reversed(row) -/
def rItR (re : RE) : RI := fun ρ E Q => re ρ E fun d ρ' => match rowOf d with
  | some ds => Q ds.reverse ρ'
  | none => False
theorem it_rev {K : PySem.W.Frag} {w : Wd} {a : Addr} {vs : List V} {ds : List D} (h : SqL K w.S a vs) (ho : ownL ds = false) (r : ∀ ℓ j, RepL K w ds ℓ j vs) : ItOk K (Itv K a vs.length) ds.reverse w := by
  intro i w1 wf1 sm
  have hq : SqL K w1.H a vs := wf1.sh.seq (sm.seq h)
  have hl := (r [] 0).length
  refine ⟨fun d e => ?_, fun hl' => by show vs.length ≤ i; rw [List.length_reverse] at hl'; omega⟩
  have hi := (List.getElem?_eq_some_iff.mp e).1
  rw [List.length_reverse] at hi
  rw [List.getElem?_reverse hi] at e
  obtain ⟨v, ev, rv⟩ := (r [] 0).get e
  have ho' : d.own = false := ownL_iff.mp ho d (List.mem_of_getElem? e)
  rw [← hl] at ev
  refine ⟨⟨by omega, vs, v, hq, ev⟩, fun x H' y => ?_⟩
  obtain ⟨rfl, y⟩ := y
  have := y vs hq
  rw [ev] at this; cases this
  exact ⟨w1, rfl, .refl wf1, ho', fun ℓ => rv.free sm d ho'⟩
theorem it_revT {K : PySem.W.Frag} {w : Wd} {a : Addr} {vs : List V} {ds : List D} (h : SqT K w.S a vs) (ho : ownL ds = false) (r : ∀ ℓ j, RepL K w ds ℓ j vs) : ItOk K (ItvT K a vs.length) ds.reverse w := by
  intro i w1 wf1 sm
  have hq : SqT K w1.H a vs := same_rdT wf1.sh (same_rdT sm h)
  have hl := (r [] 0).length
  refine ⟨fun d e => ?_, fun hl' => by show vs.length ≤ i; rw [List.length_reverse] at hl'; omega⟩
  have hi := (List.getElem?_eq_some_iff.mp e).1
  rw [List.length_reverse] at hi
  rw [List.getElem?_reverse hi] at e
  obtain ⟨v, ev, rv⟩ := (r [] 0).get e
  have ho' : d.own = false := ownL_iff.mp ho d (List.mem_of_getElem? e)
  rw [← hl] at ev
  refine ⟨⟨by omega, vs, v, hq, ev⟩, fun x H' y => ?_⟩
  obtain ⟨rfl, y⟩ := y
  have := y vs hq
  rw [ev] at this; cases this
  exact ⟨w1, rfl, .refl wf1, ho', fun ℓ => rv.free sm d ho'⟩
theorem fi_rev {tg e : Expr} {re : RE} (h : FE X W e re) (hm : X.mg "reversed" = none) (hg : Gl X "reversed" := by rfl) (hs : starEach [e] X.env = (false, eval e X.env) :: starEach [] X.env := by rfl) : FI X W tg (.Call (.Name "reversed" p) [e] [] pos) (rItR re) := by
  obtain ⟨t, q, k⟩ := h.ex
  refine ⟨_, pi_revA hg hm q hs, fun τ w σ ρ E Q R hn st h hq hx => ?_⟩
  refine k τ w σ ρ E _ _ hn st h (fun d ρ1 w1 v h1 e1 r1 => ?_) hx
  cases er : rowOf d with
  | none => simp only [er] at h1
  | some ds =>
    simp only [er] at h1
    obtain ⟨w2, e0, e2, r2⟩ := EndE.iceT (by rw [e1.len]; exact hn) e1.st r1
    obtain ⟨b, a, vs, rfl, h2, hz, ho, h3⟩ := row_frz er (r2 [])
    rw [← e0]
    refine ⟨a, vs, rfl, ?_⟩
    cases b with
    | true => exact .inr ⟨same_rdT e2.st.wf.sh h2, hq ds.reverse ρ1 w2 _ h1 (by rw [List.length_reverse]; exact hz) (e1.trans e2 (Nat.le_refl _)) (it_revT h2 ho h3)⟩
    | false => exact .inl ⟨e2.st.wf.sh.seq h2, hq ds.reverse ρ1 w2 _ h1 (by rw [List.length_reverse]; exact hz) (e1.trans e2 (Nat.le_refl _)) (it_rev h2 ho h3)⟩
end
/-- a is b, of bools -/
def dIsB (neg : Bool) : DO
  | .bl a, .bl b, Q => Q (.bl (neg ^^ decide (a = b)))
  | _, _, _ => False
section
variable {X : Cx} {W : WX} {M : List Nat} {a b c : Expr} {ra rb rc : RO} {pos : Pos}
theorem fop_isB : FOp X (compareOp .Is) (dIsB false) := ⟨_, op_isBl, fun τ w σ ρ x y dx dy ℓ ℓ' Q Qv hn st rx ry hd hq => by
  cases dx <;> cases dy <;> first
    | exact hd.elim
    | (simp only [Rep] at rx ry; subst rx; subst ry; exact ⟨_, _, rfl, rfl, hq _ _ _ hd (.refl st) (by simp [Rep])⟩)⟩
theorem fop_notB : FOp X (compareOp .IsNot) (dIsB true) := ⟨_, op_notBl, fun τ w σ ρ x y dx dy ℓ ℓ' Q Qv hn st rx ry hd hq => by
  cases dx <;> cases dy <;> first
    | exact hd.elim
    | (simp only [Rep] at rx ry; subst rx; subst ry; exact ⟨_, _, rfl, rfl, hq _ _ _ hd (.refl st) (by simp [Rep])⟩)⟩
/-- a op b op' c -/
def rChain (d1 d2 : DO) (ra rb rc : RO) : RE := fun ρ E Q => ra ρ E fun x ρ1 => rb ρ1 E fun y ρ2 => on1 ρ2 x fun dx => on1 ρ2 y fun dy => d1 dx dy fun d => match d with
  | .bl b => (b = true → rc ρ2 E fun z ρ3 => on1 ρ3 y fun dy' => on1 ρ3 z fun dz => d2 dy' dz fun d' => Q d' ρ3) ∧ (b = false → Q (.bl false) ρ2)
  | _ => False
theorem so_chain {K : PySem.W.Frag} {r r' : R2} {d1 d2 : DO} {ta tb tc : TE} (sa : SOp K W ta ra) (sb : SOp K W tb rb) (sc : SOp K W tc rc) (so : SOK K r d1) (so' : SOK K r' d2) : SE K W (tChain r r' ta tb tc) (rChain d1 d2 ra rb rc) := by
  intro τ w σ ρ E Q Qv hn st hr hq hx
  refine sa τ w σ ρ E _ _ hn st hr (fun x ρ1 w1 v1 h1 e1 r1 => ?_) hx
  have hn1 : ρ1.length < τ + 1 := by rw [e1.len]; omega
  refine sb (τ + 1) w1 σ ρ1 E _ _ hn1 e1.st h1 (fun y ρ2 w2 v2 h2 e2 r2 => ?_) (hx.then e1 (Nat.le_succ _))
  obtain ⟨dx, ex, h2⟩ := on1_elim h2
  obtain ⟨dy, ey, h2⟩ := on1_elim h2
  have e12 := e1.trans e2 (Nat.le_succ _)
  obtain ⟨ℓ, rx⟩ := ad_get e12.st (r1.later (by rw [e1.len]; exact hn) e2) ex
  obtain ⟨ℓ', ry⟩ := ad_get e12.st r2 ey
  refine so (τ + 2) w2 σ ρ2 v1 v2 dx dy ℓ ℓ' _ _ (by rw [e12.len]; omega) e12.st rx ry h2 fun d w3 v3 q e3 r3 => ?_
  have e13 : EndE K τ w σ ρ ρ2 w3 := e12.trans e3 (by omega)
  cases d with
  | bl b =>
    simp only [Rep] at r3
    refine ⟨b, r3, ?_⟩
    cases b with
    | false =>
      rw [if_neg Bool.false_ne_true]
      exact hq _ _ _ _ (q.2 rfl) e13 rfl
    | true =>
      rw [if_pos rfl]
      refine sc (τ + 2) w3 σ ρ2 E _ _ (by rw [e12.len]; omega) e3.st (q.1 rfl) (fun z ρ3 w4 v4 h4 e4 r4 => ?_) (hx.then e13 (by omega))
      obtain ⟨dy', ey', h4⟩ := on1_elim h4
      obtain ⟨dz, ez, h4⟩ := on1_elim h4
      have r2' : AdAt K w4 σ y (τ + 1) v2 := (r2.later (by rw [e12.len]; omega) e3).later (by rw [e12.len]; omega) e4
      obtain ⟨ℓ2, ry2⟩ := ad_get e4.st r2' ey'
      obtain ⟨ℓ3, rz⟩ := ad_get e4.st r4 ez
      have e14 := e13.trans e4 (by omega)
      exact so' τ w4 σ ρ3 v2 v4 dy' dz ℓ2 ℓ3 _ _ (by rw [e14.len]; exact hn) e14.st ry2 rz h4 fun d5 w5 v5 q5 e5 r5 => hq d5 ρ3 w5 v5 q5 (e14.trans e5 (Nat.le_refl _)) r5
  | _ => exact q.elim
theorem fe_chain {op op' : CmpOp} {d1 d2 : DO} (ho : FOp X (compareOp op) d1) (ho' : FOp X (compareOp op') d2) (ha : FO X W a ra) (hb : FO X W b rb) (hc : FO X W c rc) (hm : lastMarks [op, op'] [b, c] = false := by with_unfolding_all rfl) : FE X W (.Compare a [op, op'] [b, c] pos) (rChain d1 d2 ra rb rc) := by
  obtain ⟨r, h1, h2⟩ := ho.ex
  obtain ⟨r', h1', h2'⟩ := ho'.ex
  obtain ⟨ta, pa, sa⟩ := ha.ex
  obtain ⟨tb, pb, sb⟩ := hb.ex
  obtain ⟨tc, pc, sc⟩ := hc.ex
  exact ⟨_, pe_chain h1 h1' pa pb pc hm, so_chain sa sb sc h2 h2'⟩
theorem ft_chain {op op' : CmpOp} {d1 d2 : DO} (ho : FOp X (compareOp op) d1) (ho' : FOp X (compareOp op') d2) (ha : FO X W a ra) (hb : FO X W b rb) (hc : FO X W c rc) (hm : lastMarks [op, op'] [b, c] = false := by with_unfolding_all rfl) : FT X W (.Compare a [op, op'] [b, c] pos) (rTst (rChain d1 d2 ra rb rc)) := by
  obtain ⟨r, h1, h2⟩ := ho.ex
  obtain ⟨r', h1', h2'⟩ := ho'.ex
  obtain ⟨ta, pa, sa⟩ := ha.ex
  obtain ⟨tb, pb, sb⟩ := hb.ex
  obtain ⟨tc, pc, sc⟩ := hc.ex
  exact ⟨_, pt_chain h1 h1' pa pb pc hm, st_tst (so_chain sa sb sc h2 h2')⟩
end
/-! ### in -/
def isFlat : D → Bool
  | .non => true
  | .bl _ => true
  | .int _ => true
  | .str _ => true
  | _ => false
def dV : D → V
  | .bl b => .bl b
  | .int i => .int i
  | .str s => .str s
  | _ => .non
def inD (k : D) (ds : List D) : Bool := inV (dV k) (ds.map dV)
theorem flat_rep {K : PySem.W.Frag} {w : Wd} {d : D} {ℓ : Loc} {v : V} (h : Rep K w d ℓ v) (f : isFlat d = true) : v = dV d ∧ flatV v = true := by
  cases d <;> first
    | (cases f; done)
    | (simp only [Rep] at h; subst h; exact ⟨rfl, rfl⟩)
theorem flats_rep {K : PySem.W.Frag} {w : Wd} : ∀ {ds : List D} {ℓ : Loc} {j : Nat} {vs : List V}, RepL K w ds ℓ j vs → ds.all isFlat = true → vs = ds.map dV ∧ vs.all flatV = true
  | [], _, _, _, h, _ => by simp only [RepL] at h; subst h; exact ⟨rfl, rfl⟩
  | d :: ds, ℓ, j, vs, h, f => by
    rw [List.all_cons, Bool.and_eq_true] at f
    simp only [RepL] at h
    obtain ⟨v, r, rfl, h1, h2⟩ := h
    obtain ⟨e1, e2⟩ := flat_rep h1 f.1
    obtain ⟨e3, e4⟩ := flats_rep h2 f.2
    exact ⟨by rw [List.map_cons, ← e1, ← e3], by rw [List.all_cons, e2, e4]; rfl⟩
/-- k in d -/
def dIn (neg : Bool) : DO
  | k, .dct _ t ks _, Q => keyOk t k = true ∧ Q (.bl (neg ^^ (kIdx t ks k).isSome))
  | k, .lst _ ds, Q => isFlat k = true ∧ ds.all isFlat = true ∧ Q (.bl (neg ^^ inD k ds))
  | k, .tup _ ds, Q => isFlat k = true ∧ ds.all isFlat = true ∧ Q (.bl (neg ^^ inD k ds))
  | k, .ro _ ds, Q => isFlat k = true ∧ ds.all isFlat = true ∧ Q (.bl (neg ^^ inD k ds))
  | _, _, _ => False
section
variable {X : Cx}
theorem op_din (hu : X.A.units + 1 < cLine) : OpR X (compareOp .In) (fun x y H Q => ∃ a o, y = .ref a ∧ DGet H a x o ∧ Q (.bl o.isSome) H) := by
  intro pins s σ H x y v u Q I rx ry h
  obtain ⟨a, o, rfl, g, q⟩ := h
  obtain rfl : u = Value.ref a := ry
  exact d_in hu I g rx fun s3 I3 => ⟨.bl o.isSome, H, I3, rfl, q⟩
theorem op_dnotin (hu : X.A.units + 1 < cLine) : OpR X (compareOp .NotIn) (fun x y H Q => ∃ a o, y = .ref a ∧ DGet H a x o ∧ Q (.bl (!o.isSome)) H) := by
  intro pins s σ H x y v u Q I rx ry h
  obtain ⟨a, o, rfl, g, q⟩ := h
  obtain rfl : u = Value.ref a := ry
  exact d_notIn hu I g rx fun s3 I3 => ⟨.bl (!o.isSome), H, I3, rfl, q⟩
theorem sok_in (neg : Bool) {τ : Nat} {w : Wd} {σ : Sl} {ρ : En} {x y : V} {dx dy : D} {ℓ ℓ' : Loc} {Q : D → Prop} {Qv : VK} (hn : ρ.length < τ) (st : StE X.K w σ ρ) (rx : Rep X.K w dx ℓ x) (ry : Rep X.K w dy ℓ' y) (hd : dIn neg dx dy Q)
    (hq : ∀ d w' v, Q d → EndE X.K τ w σ ρ ρ w' → Rep X.K w' d [τ] v → Qv v w'.H) : rIn X.K neg x y w.H Qv ∨ ∃ a o, y = .ref a ∧ DGet w.H a x o ∧ Qv (.bl (neg ^^ o.isSome)) w.H := by
  have fin : ∀ {ds : List D} {vs : List V} {a : Addr}, isFlat dx = true → ds.all isFlat = true → Q (.bl (neg ^^ inD dx ds)) → (SqL X.K w.H a vs ∨ SqT X.K w.H a vs) → RepL X.K w ds ℓ' 0 vs → rIn X.K neg x (.ref a) w.H Qv := fun {ds vs a} f1 f2 q hs rl => by
    obtain ⟨e1, e2⟩ := flat_rep rx f1
    obtain ⟨e3, e4⟩ := flats_rep rl f2
    refine ⟨_, _, rfl, hs, e2, e4, ?_⟩
    have : (if neg = true then !inV x vs else inV x vs) = (neg ^^ inD dx ds) := by
      unfold inD
      rw [← e1, ← e3]
      cases neg <;> simp
    rw [this]
    exact hq _ _ _ q (.refl st) rfl
  cases dy with
  | dct o t ks ds =>
    obtain ⟨hk, q⟩ := hd
    obtain ⟨a, vs, rfl, h1, h3, h4, h2⟩ := dct_at st.wf ry
    have g := DGet.of st.wf h1 h3 hk rx (fun e => by subst e; exact rep_tkey st.wf rx hk)
    refine .inr ⟨a, _, rfl, g, ?_⟩
    have : ((kIdx t ks dx).bind fun i => vs[i]?).isSome = (kIdx t ks dx).isSome := by
      cases e : kIdx t ks dx with
      | none => rfl
      | some i =>
        have hi : i < ks.length := by
          unfold kIdx at e
          exact (List.findIdx?_eq_some_iff_getElem.mp e).1
        show (vs[i]?).isSome = true
        rw [List.getElem?_eq_getElem (by omega)]; rfl
    rw [this]
    exact hq _ _ _ q (.refl st) rfl
  | lst o ds =>
    obtain ⟨f1, f2, q⟩ := hd
    obtain ⟨a, us, rfl, h1, h2⟩ := lst_at st.wf ry
    exact .inl (fin f1 f2 q (.inl (SqL.of h1)) h2)
  | tup o ds =>
    obtain ⟨f1, f2, q⟩ := hd
    obtain ⟨a, us, rfl, h1, h2⟩ := tup_at st.wf ry
    exact .inl (fin f1 f2 q (.inr (SqT.of h1)) h2)
  | ro t ds =>
    obtain ⟨f1, f2, q⟩ := hd
    simp only [Rep] at ry
    obtain ⟨a, us, rfl, h1, hz, h2⟩ := ry
    cases t with
    | true => exact .inl (fin f1 f2 q (.inr (same_rdT st.wf.sh h1)) h2)
    | false => exact .inl (fin f1 f2 q (.inl (st.wf.sh.seq h1)) h2)
  | _ => exact hd.elim
theorem fop_in (hu : X.A.units + 1 < cLine) : FOp X (compareOp .In) (dIn false) := ⟨_, op_in_seq.or (op_din hu), fun τ w σ ρ x y dx dy ℓ ℓ' Q Qv hn st rx ry hd hq => by
  rcases sok_in false hn st rx ry hd hq with h | ⟨a, o, e, g, q⟩
  · exact .inl h
  · exact .inr ⟨a, o, e, g, by simpa using q⟩⟩
theorem fop_notin (hu : X.A.units + 1 < cLine) : FOp X (compareOp .NotIn) (dIn true) := ⟨_, op_notIn_seq.or (op_dnotin hu), fun τ w σ ρ x y dx dy ℓ ℓ' Q Qv hn st rx ry hd hq => by
  rcases sok_in true hn st rx ry hd hq with h | ⟨a, o, e, g, q⟩
  · exact .inl h
  · exact .inr ⟨a, o, e, g, by simpa using q⟩⟩
end
theorem inD_int (i : Int) (xs : List Int) : inD (.int i) (xs.map D.int) = decide (i ∈ xs) := by
  unfold inD inV
  rw [List.map_map, List.any_map, Bool.eq_iff_iff, List.any_eq_true, decide_eq_true_iff]
  constructor
  · rintro ⟨x, hx, e⟩
    have : x = i := by simpa [dV, eqV] using e
    exact this ▸ hx
  · intro h
    exact ⟨i, h, by simp [dV, eqV]⟩
end FL
/-! FL25: places (names and parts of what they hold), methods of lists that stand there. -/
namespace FL
open PySem PySem.Spec PyProof.Rows L2 RT
def D.atS : D → List Nat → Option D
  | d, [] => some d
  | .tup _ ds, j :: p => match ds[j]? with
    | some e => e.atS p
    | none => none
  | .lst _ ds, j :: p => match ds[j]? with
    | some e => e.atS p
    | none => none
  | _, _ :: _ => none
section
variable {K : PySem.W.Frag} {w w' : Wd}
theorem AtV.to {d e : D} {ℓ : Loc} {v u : V} {p : List Nat} (hs : Same w.S w'.S) (h : AtV K w d ℓ v p e u) : ∀ {ℓ' : Loc}, KeptTo w w' ℓ ℓ' → AtV K w' d ℓ' v p e u := by
  induction h with
  | here => exact fun _ => .here
  | down h1 h2 h3 h4 h5 _ ih =>
    intro ℓ' k
    refine .down h1 (h2.later hs fun z => by simpa using k _ [] (by simpa using z)) h3 h4 h5 (ih (k.sub _))
/-- one step down from a place -/
theorem AtV.snoc {d e c : D} {ℓ : Loc} {v u x : V} {p : List Nat} {j : Nat} (h : AtV K w d ℓ v p e u) : AtV K w e (ℓ ++ p) u [j] c x → AtV K w d ℓ v (p ++ [j]) c x := by
  induction h with
  | here => intro g; rw [List.append_nil] at g; exact g
  | down h1 h2 h3 h4 h5 _ ih => intro g; exact .down h1 h2 h3 h4 h5 (ih (by rw [List.append_assoc]; exact g))
theorem hold {σ : Sl} {ρ : En} {i τ : Nat} {d0 dn : D} {v0 u : V} {p : List Nat} (st : StE K w σ ρ) (hi : ρ[i]? = some (some d0)) (hv : σ[i]? = some (some v0)) (at0 : AtV K w d0 [i + 1] v0 p dn u) (hτ : ρ.length < τ) :
    StE K (w.ren (moveT (i + 1) [τ])) σ (ρ.set i none) ∧ ∀ ρ1 w1, EndE K (τ + 1) (w.ren (moveT (i + 1) [τ])) σ (ρ.set i none) ρ1 w1 →
      EndE K τ w σ ρ (ρ1.set i (some d0)) (w1.ren (moveT τ [i + 1])) ∧ AtV K (w1.ren (moveT τ [i + 1])) d0 [i + 1] v0 p dn u ∧ ∀ d v h s, h ≠ τ → Rep K w1 d (h :: s) v → Rep K (w1.ren (moveT τ [i + 1])) d (h :: s) v := by
  have hin := (List.getElem?_eq_some_iff.mp hi).1
  obtain ⟨v0', ev', r0⟩ := st.rep i d0 hi
  rw [hv] at ev'; cases ev'
  have kt : KeptTo w (w.ren (moveT (i + 1) [τ])) [i + 1] [τ] := KeptTo.ren fun s => moveT_at
  refine ⟨⟨st.wf.ren _, by rw [List.length_set]; exact st.len, fun k d e => ?_⟩, fun ρ1 w1 e1 => ?_⟩
  · by_cases hk : k = i
    · subst hk
      rw [List.getElem?_set_self hin] at e
      cases e
    · rw [List.getElem?_set_ne (Ne.symm hk)] at e
      obtain ⟨v, e2, r⟩ := st.rep k d e
      exact ⟨v, e2, r.mv (by omega)⟩
  · have hl : ρ1.length = ρ.length := by rw [e1.len, List.length_set]
    have fx : ∀ a s, (w.ren (moveT (i + 1) [τ])).G a = some (τ :: s) → w1.G a = some (τ :: s) ∧ w1.H a = (w.ren (moveT (i + 1) [τ])).H a := fun a s e => e1.ext.f a _ e ⟨τ, s, rfl, .inr ⟨by rw [List.length_set]; exact hτ, Nat.lt_succ_self _⟩⟩
    have k1 : KeptTo (w.ren (moveT (i + 1) [τ])) w1 [τ] [τ] := fun a s e => fx a s e
    have k2 : KeptTo w1 (w1.ren (moveT τ [i + 1])) [τ] [i + 1] := KeptTo.ren fun s => moveT_at
    have r1 : Rep K w1 d0 [τ] v0 := (r0.ren fun s => moveT_at).to e1.ext.s d0 k1
    have r2 : Rep K (w1.ren (moveT τ [i + 1])) d0 [i + 1] v0 := r1.ren fun s => moveT_at
    have st2 : StE K (w1.ren (moveT τ [i + 1])) σ (ρ1.set i (some d0)) := ⟨e1.st.wf.ren _, by rw [List.length_set]; exact e1.st.len, fun k d e => by
      by_cases hk : k = i
      · subst hk
        rw [List.getElem?_set_self (by omega)] at e
        cases e
        exact ⟨v0, hv, r2⟩
      · rw [List.getElem?_set_ne (Ne.symm hk)] at e
        obtain ⟨v, e2, r⟩ := e1.st.rep k d e
        have := (List.getElem?_eq_some_iff.mp e).1
        exact ⟨v, e2, r.mv (by omega)⟩⟩
    refine ⟨⟨by rw [List.length_set, hl], st2, ⟨e1.ext.s, fun a ℓ e ⟨h, s, e2, q⟩ => ?_⟩⟩, AtV.to (w := w1) (w' := w1.ren (moveT τ [i + 1])) (Same.refl _) (AtV.to (w := w.ren (moveT (i + 1) [τ])) (w' := w1) e1.ext.s (AtV.to (w := w) (w' := w.ren (moveT (i + 1) [τ])) (Same.refl _) at0 kt) k1) k2, fun d v h s hh r => r.mv hh⟩
    subst e2
    have g1 : (w.ren (moveT (i + 1) [τ])).G a = some (h :: s) := ren_at e (moveT_ne (by omega))
    obtain ⟨g2, g3⟩ := e1.ext.f a _ g1 ⟨h, s, rfl, q.imp id fun q => by rw [List.length_set]; exact ⟨q.1, by omega⟩⟩
    exact ⟨ren_at g2 (moveT_ne (by omega)), g3⟩
end
abbrev RPl := En → EE → (Nat → List Nat → En → Prop) → Prop
/-- e names a place: slot i, path p -/
structure FPl (X : Cx) (W : WX) (e : Expr) (rp : RPl) : Prop where
  ex : ∃ t, PE X e t ∧ ∀ (τ : Nat) (w : Wd) (σ : Sl) (ρ : En) (E : EE) (Q : Nat → List Nat → En → Prop) (Qv : VK), ρ.length < τ → StE X.K w σ ρ → rp ρ E Q →
    (∀ i p ρ' w' d0 dn v0 v, Q i p ρ' → EndE X.K τ w σ ρ ρ' w' → ρ'[i]? = some (some d0) → d0.atS p = some dn → σ[i]? = some (some v0) → AtV X.K w' d0 [i + 1] v0 p dn v → Qv v w'.H) → SX X.K W τ w σ ρ E → t σ w.H Qv
def rpN (i : Nat) : RPl := fun ρ _ Q => match ρ[i]? with
  | some (some _) => Q i [] ρ
  | _ => False
/-- evaluated while slot i is held -/
def heldE (i : Nat) (d0 : D) (E : EE) : EE := fun c fs ρ' => E c fs (ρ'.set i (some d0))
def rpIx (rp : RPl) (rk : RE) : RPl := fun ρ E Q => rp ρ E fun i p ρ1 => match ρ1[i]? with
  | some (some d0) => rk (ρ1.set i none) (heldE i d0 E) fun dk ρ2 => match dk with
    | .int n => match d0.atS p with
      | some (.tup _ ds) => match ixN ds.length n with
        | some j => nf (ρ2.set i (some d0)) (Q i (p ++ [j]))
        | none => False
      | some (.lst _ ds) => match ixN ds.length n with
        | some j => nf (ρ2.set i (some d0)) (Q i (p ++ [j]))
        | none => False
      | _ => False
    | _ => False
  | _ => False
theorem held_sx {K : PySem.W.Frag} {W : WX} {τ : Nat} {w w1 : Wd} {σ : Sl} {ρ : En} {E : EE} {i : Nat} {d0 : D} (hx : SX K W τ w σ ρ E)
    (h : ∀ ρ1 w1', EndE K (τ + 1) w1 σ (ρ.set i none) ρ1 w1' → EndE K τ w σ ρ (ρ1.set i (some d0)) (w1'.ren (moveT τ [i + 1]))) : SX K W (τ + 1) w1 σ (ρ.set i none) (heldE i d0 E) := fun c fs ρ' w' x e en xr => by
  refine hx c fs _ (w'.ren (moveT τ [i + 1])) x e (h ρ' w' en) ?_
  cases x with
  | none => cases fs <;> exact xr
  | some a =>
    cases fs with
    | none => exact xr
    | some fs =>
      obtain ⟨us, h1, h2, h3, h4⟩ := xr
      exact ⟨us, h1, h2, h3, RepL.free (w := w') (w' := w'.ren (moveT τ [i + 1])) (Same.refl _) _ h3 h4⟩
theorem atS_snoc : ∀ {p : List Nat} {d e c : D} {j : Nat}, d.atS p = some e → e.atS [j] = some c → d.atS (p ++ [j]) = some c
  | [], d, e, c, j, h, g => by
    have : d = e := by cases d <;> (simp only [D.atS] at h; cases h; rfl)
    subst this; exact g
  | k :: p, d, e, c, j, h, g => by
    cases d with
    | tup o ds =>
      simp only [D.atS, List.cons_append] at h ⊢
      cases q : ds[k]? with
      | none => rw [q] at h; cases h
      | some d' => rw [q] at h; exact atS_snoc h g
    | lst o ds =>
      simp only [D.atS, List.cons_append] at h ⊢
      cases q : ds[k]? with
      | none => rw [q] at h; cases h
      | some d' => rw [q] at h; exact atS_snoc h g
    | _ => simp [D.atS] at h
theorem atI_ixN {α : Type} {xs : List α} {n : Int} {j : Nat} {x : α} (h : ixN xs.length n = some j) (e : xs[j]? = some x) : atI xs n = some x := by
  unfold atI
  rw [h]; exact e
section
variable {X : Cx} {W : WX} {M : List Nat} {pos pos' p2 apos : Pos}
theorem fp_name (i : Nat) {x : Str} (hN : X.N[i]? = some x := by rfl) (hv : Vis X.env.scope x := by first | exact Or.inl rfl | exact Or.inr (Or.inl rfl) | exact Or.inr (Or.inr rfl)) (hd : (x == ("__debug__" : Str)) = false := by decide)
    (hcd : (x == ("__classdict__" : Str)) = false := by decide) : FPl X W (.Name x p2) (rpN i) := by
  refine ⟨_, pe_var hN hv hd hcd, fun τ w σ ρ E Q Qv hn st h hq hx => ?_⟩
  unfold rpN at h
  split at h
  · rename_i d0 e0
    obtain ⟨v0, ev, r0⟩ := st.rep i _ e0
    exact ⟨v0, ev, hq i [] ρ w d0 d0 v0 v0 h (.refl st) e0 (by cases d0 <;> rfl) ev .here⟩
  · exact h.elim
theorem fp_ix {e k : Expr} {rp : RPl} {rk : RE} (he : FPl X W e rp) (hk : FE X W k rk) (hs : PlainIx k := by exact fun _ _ => rfl) : FPl X W (.Subscript e k pos) (rpIx rp rk) := by
  obtain ⟨t, q, l⟩ := he.ex
  obtain ⟨t', q', l'⟩ := hk.ex
  refine ⟨_, pe_ix ix_seq q q' hs, fun τ w σ ρ E Q Qv hn st h hq hx => ?_⟩
  refine l τ w σ ρ E _ _ hn st h (fun i p ρ1 w1 d0 dn v0 v h1 e1 hi ha hv at0 => ?_) hx
  have hn1 : ρ1.length < τ := by rw [e1.len]; exact hn
  obtain ⟨s1, back⟩ := hold e1.st hi hv at0 hn1
  have hx1 : SX X.K W τ w1 σ ρ1 E := hx.then e1 (Nat.le_refl _)
  simp only [hi] at h1
  refine l' (τ + 1) (w1.ren (moveT (i + 1) [τ])) σ (ρ1.set i none) _ _ _ (by rw [List.length_set]; omega) s1 h1 (fun dk ρ2 w2 vk h2 e2 r2 => ?_) (held_sx hx1 fun ρ' w' en => (back ρ' w' en).1)
  obtain ⟨b1, b2, b3⟩ := back ρ2 w2 e2
  cases dk with
  | int n =>
    simp only [Rep] at r2
    subst r2
    have hl2 : ρ2.length = ρ1.length := by rw [e2.len, List.length_set]
    have hin := (List.getElem?_eq_some_iff.mp hi).1
    have key : ∀ {ds : List D} {j : Nat}, dn.kids = ds → dn.seen = true → dn.inner = true → (∀ c, ds[j]? = some c → dn.atS [j] = some c) → ixN ds.length n = some j → (∀ a vs, Nd X.K (w2.ren (moveT τ [i + 1])) dn ([i + 1] ++ p) a vs → SqL X.K w2.H a vs ∨ SqT X.K w2.H a vs) → Q i (p ++ [j]) (ρ2.set i (some d0)) → rIx X.K v (.int n) w2.H Qv := by
      intro ds j hk hse hin' hat hj hsq qq
      obtain ⟨v0', ev', r0⟩ := b1.st.rep i d0 (List.getElem?_set_self (by omega))
      rw [hv] at ev'; cases ev'
      have rn := b2.rep r0
      rw [rep_inner hin'] at rn
      obtain ⟨a, vs, rfl, nd, sz, rl⟩ := rn
      rw [hk] at rl
      have hjl := ixN_lt hj
      obtain ⟨c, hc⟩ : ∃ c, ds[j]? = some c := ⟨_, List.getElem?_eq_getElem hjl⟩
      obtain ⟨x, ex, rx⟩ := rl.get hc
      rw [Nat.zero_add] at rx
      have a3 : AtV X.K (w2.ren (moveT τ [i + 1])) d0 [i + 1] v0 (p ++ [j]) c x := b2.snoc (.down hse nd (by rw [hk]; exact rl.length) (by rw [hk]; exact hc) ex .here)
      have fin := hq i (p ++ [j]) (ρ2.set i (some d0)) _ d0 c v0 x qq (e1.trans b1 (Nat.le_refl _)) (List.getElem?_set_self (by omega)) (atS_snoc ha (hat c hc)) hv a3
      have hat2 : atI vs n = some x := atI_ixN (by rw [rl.length]; exact hj) ex
      rcases hsq a vs nd with hs | hs
      · exact .inl ⟨a, vs, n, x, rfl, rfl, hs, hat2, fin⟩
      · exact .inr (.inl ⟨a, vs, n, x, rfl, rfl, hs, hat2, fin⟩)
    simp only [ha] at h2
    cases dn with
    | tup o ds =>
      dsimp only at h2
      cases ej : ixN ds.length n with
      | none => rw [ej] at h2; exact h2.elim
      | some j =>
        rw [ej] at h2
        exact key rfl rfl rfl (fun c hc => by have hc : ds[j]? = some c := hc; simp only [D.atS]; rw [hc]) ej (fun a vs nd => .inr (SqT.of (e2.st.wf.sh _ _ nd))) (nf_of h2)
    | lst o ds =>
      dsimp only at h2
      cases ej : ixN ds.length n with
      | none => rw [ej] at h2; exact h2.elim
      | some j =>
        rw [ej] at h2
        refine key rfl rfl rfl (fun c hc => by have hc : ds[j]? = some c := hc; simp only [D.atS]; rw [hc]) ej (fun a vs nd => .inl (SqL.of ?_)) (nf_of h2)
        simp only [Nd] at nd
        cases q : o.mine with
        | true => rw [q] at nd; exact nd.2
        | false => rw [q] at nd; exact e2.st.wf.sh _ _ nd
    | _ => exact h2.elim
  | _ => exact h2.elim
/-- what a list method without arguments does: its answer, the list then (light parts only, unless it is emptied) -/
inductive M0 where
  | clear | reverse | pop
def M0.act : M0 → Ow → List D → (D → Ow → List D → Prop) → Prop
  | .clear, _, _, Q => Q .non .flat []
  | .reverse, .flat, ds, Q => Q .non .flat ds.reverse
  | .pop, .flat, ds, Q => match ds.getLast? with
    | some d => Q d .flat ds.dropLast
    | none => False
  | _, _, _, _ => False
def rM0 (m : M0) (rp : RPl) : RE := fun ρ E Q => rp ρ E fun i p ρ1 => match ρ1[i]? with
  | some (some d0) => match d0.atS p with
    | some (.lst o ds) => o.mine = true ∧ m.act o ds fun r o' ds' => nf (ρ1.set i (some (d0.put p (.lst o' ds')))) (Q r)
    | _ => False
  | _ => False
def rAppP (rp : RPl) (re : RE) : RE := fun ρ E Q => rp ρ E fun i p ρ1 => match ρ1[i]? with
  | some (some d0) => match d0.atS p with
    | some (.lst o ds) => re (ρ1.set i none) (heldE i d0 E) fun d ρ2 => o.mine = true ∧ ds.length < sizeLine ∧ nf (ρ2.set i (some (d0.put p (.lst (o.more d.own) (ds ++ [d]))))) (Q .non)
    | _ => False
  | _ => False
theorem seen_at {K : PySem.W.Frag} {w : Wd} {d0 dn : D} {h0 : Nat} {v0 v : V} {p : List Nat} {o : Ow} {ds : List D} (ho : o.mine = true) (r0 : Rep K w d0 [h0] v0) (at0 : AtV K w d0 [h0] v0 p (.lst o ds) v) : tyV K "list" v w.H ∧ ∃ a us, v = .ref a ∧ w.G a = some (h0 :: p) ∧ w.H a = some (.lst us) ∧ (ds.length ≤ sizeLine ∧ Lt o ds) ∧ RepL K w ds (h0 :: p) 0 us := by
  obtain ⟨a, us, rfl, g, h, z, r⟩ := list_at ho r0 at0
  exact ⟨.inl ⟨rfl, _, SqL.of h⟩, a, us, rfl, g, h, z, r⟩
theorem m0_end {K : PySem.W.Frag} {w : Wd} {σ : Sl} {ρ : En} {i τ : Nat} {d0 : D} {v0 : V} {p : List Nat} {o : Ow} {ds ds' : List D} {a : Addr} {us' : List V} (ho : o.mine = true) (st : StE K w σ ρ) (hi : ρ[i]? = some (some d0)) (hv : σ[i]? = some (some v0)) (r0 : Rep K w d0 [i + 1] v0)
    (at0 : AtV K w d0 [i + 1] v0 p (.lst o ds) (.ref a)) (hτ : ρ.length < τ) (rl : RepL K w ds' ((i + 1) :: p) 0 us') (hL : ownL ds' = false) (hz : ds'.length ≤ sizeLine) : EndE K τ w σ ρ (ρ.set i (some (d0.put p (.lst .flat ds')))) ((w.ren (moveT τ [])).put a (.lst us')) :=
  list_end (o' := .flat) ho rfl st hi hv r0 at0 hτ (Nat.le_refl _) (RepL.free (w := w) (w' := w.ren (moveT τ [])) (Same.refl _) ds' hL rl) hz (fun _ => hL)
theorem fe_m0 {T : String} (m : M0) {e : Expr} {rp : RPl} {name : Str} {id : String} {r : V → List V → Hp → VK → Prop} (he : FPl X W e rp) (slot : Slot "list" name id) (hty : typeOf (.builtin id) = pure (.type "method_descriptor")) (hm : MtR X id r)
    (hr : ∀ {τ : Nat} {w : Wd} {σ : Sl} {ρ : En} {i : Nat} {d0 : D} {v0 : V} {p : List Nat} {o : Ow} {ds : List D} {a : Addr} {us : List V} {Q : D → Ow → List D → Prop} {Qv : VK}, o.mine = true → StE X.K w σ ρ → ρ[i]? = some (some d0) → σ[i]? = some (some v0) → Rep X.K w d0 [i + 1] v0 → AtV X.K w d0 [i + 1] v0 p (.lst o ds) (.ref a) →
      w.H a = some (.lst us) → (ds.length ≤ sizeLine ∧ Lt o ds) → RepL X.K w ds ((i + 1) :: p) 0 us → ρ.length < τ → m.act o ds Q →
      (∀ d ds' w' v, Q d .flat ds' → EndE X.K τ w σ ρ (ρ.set i (some (d0.put p (.lst .flat ds')))) w' → Rep X.K w' d [τ] v → Qv v w'.H) → r (.ref a) [] w.H Qv)
    (hbase : attributeBase e name X.env (eval e X.env) = eval e X.env := by rfl) (hline : (apos.endLine == pos.endLine) = true ∨ True := by exact Or.inr trivial) (hline2 : (apos.endLine == pos.line) = true := by rfl) : FE X W (.Call (.Attribute e name apos) [] [] pos) (rM0 m rp) := by
  obtain ⟨t, q, l⟩ := he.ex
  refine ⟨_, pe_bm0 PySem.F.plainAttrs_list slot hty hm q hbase hline2, fun τ w σ ρ E Q Qv hn st h hq hx => ?_⟩
  refine l τ w σ ρ E _ _ hn st h (fun i p ρ1 w1 d0 dn v0 v h1 e1 hi ha hv at0 => ?_) hx
  simp only [hi, ha] at h1
  obtain ⟨v0', ev', r0⟩ := e1.st.rep i d0 hi
  rw [hv] at ev'; cases ev'
  cases dn with
  | lst o ds =>
    obtain ⟨ho, h1⟩ := h1
    obtain ⟨ty, a, us, rfl, g, hh, z, rl⟩ := seen_at (dn := .non) ho r0 at0
    refine ⟨ty, hr ho e1.st hi hv r0 at0 hh z rl (by rw [e1.len]; exact hn) h1 fun d ds' w' v' q' e' r' => hq _ _ _ _ (nf_of q') (e1.trans e' (Nat.le_refl _)) r'⟩
  | _ => exact h1.elim
theorem fe_clear {e : Expr} {rp : RPl} (he : FPl X W e rp) (hbase : attributeBase e "clear" X.env (eval e X.env) = eval e X.env := by rfl) (hline2 : (apos.endLine == pos.line) = true := by rfl) : FE X W (.Call (.Attribute e "clear" apos) [] [] pos) (rM0 .clear rp) :=
  fe_m0 (T := "list") .clear he PySem.F.slot_list_clear PySem.F.type_list_clear mt_clear (fun {τ w σ ρ i d0 v0 p o ds a us Q Qv} ho st hi hv r0 at0 hh z rl hn ha k =>
    ⟨a, us, rfl, rfl, hh, k .non [] _ .non ha (m0_end (us' := []) ho st hi hv r0 at0 hn (by simp [RepL]) rfl (Nat.zero_le _)) rfl⟩) hbase (.inr trivial) hline2
theorem fe_reverse {e : Expr} {rp : RPl} (he : FPl X W e rp) (hbase : attributeBase e "reverse" X.env (eval e X.env) = eval e X.env := by rfl) (hline2 : (apos.endLine == pos.line) = true := by rfl) : FE X W (.Call (.Attribute e "reverse" apos) [] [] pos) (rM0 .reverse rp) :=
  fe_m0 (T := "list") .reverse he PySem.F.slot_list_reverse PySem.F.type_list_reverse mt_reverse (fun {τ w σ ρ i d0 v0 p o ds a us Q Qv} ho st hi hv r0 at0 hh z rl hn ha k => by
    cases o with
    | flat =>
      have hL : ownL ds = false := z.2 rfl
      have hL' : ownL ds.reverse = false := by rw [ownL_iff] at hL ⊢; exact fun d hd => hL d (List.mem_reverse.mp hd)
      exact ⟨a, us, rfl, rfl, hh, k .non ds.reverse _ .non ha (m0_end (us' := us.reverse) ho st hi hv r0 at0 hn (RepL.rev hL fun ℓ j => RepL.free (w := w) (w' := w) (Same.refl _) ds hL rl) hL' (by rw [List.length_reverse]; exact z.1)) rfl⟩
    | _ => exact ha.elim) hbase (.inr trivial) hline2
theorem fe_pop {e : Expr} {rp : RPl} (he : FPl X W e rp) (hbase : attributeBase e "pop" X.env (eval e X.env) = eval e X.env := by rfl) (hline2 : (apos.endLine == pos.line) = true := by rfl) : FE X W (.Call (.Attribute e "pop" apos) [] [] pos) (rM0 .pop rp) :=
  fe_m0 (T := "list") .pop he PySem.F.slot_list_pop PySem.F.type_list_pop mt_pop (fun {τ w σ ρ i d0 v0 p o ds a us Q Qv} ho st hi hv r0 at0 hh z rl hn ha k => by
    cases o with
    | flat =>
      have hL : ownL ds = false := z.2 rfl
      have ha : (match ds.getLast? with | some d => Q d .flat ds.dropLast | none => False) := ha
      cases el : ds.getLast? with
      | none => rw [el] at ha; exact ha.elim
      | some d =>
        rw [el] at ha
        have hd : ds[ds.length - 1]? = some d := by rw [← List.getLast?_eq_getElem?]; exact el
        obtain ⟨x, ex, rx⟩ := rl.get hd
        have hx : us[us.length - 1]? = some x := by rw [rl.length]; exact ex
        have hdl : ownL ds.dropLast = false := by rw [ownL_iff] at hL ⊢; exact fun d hd => hL d (List.dropLast_subset _ hd)
        have rl' : RepL X.K w ds.dropLast ((i + 1) :: p) 0 us.dropLast := RepL.of (by rw [List.length_dropLast, List.length_dropLast, rl.length]) fun j d v e1 e2 => by
          have hj := (List.getElem?_eq_some_iff.mp e1).1
          rw [List.length_dropLast] at hj
          rw [List.getElem?_dropLast, if_pos (by omega)] at e1
          rw [List.getElem?_dropLast, if_pos (by rw [rl.length]; omega)] at e2
          obtain ⟨y, e3, ry⟩ := rl.get e1
          rw [e2] at e3; cases e3
          exact ry
        exact ⟨a, us, x, rfl, rfl, hh, hx, k d ds.dropLast ((w.ren (moveT τ [])).put a (.lst us.dropLast)) x ha (m0_end (us' := us.dropLast) ho st hi hv r0 at0 hn rl' hdl (by rw [List.length_dropLast]; omega)) (Rep.free (w := w) (w' := (w.ren (moveT τ [])).put a (.lst us.dropLast)) (Same.refl _) d (ownL_iff.mp hL d (List.mem_of_getElem? hd)) rx)⟩
    | _ => exact ha.elim) hbase (.inr trivial) hline2
theorem fe_appP {e e1 : Expr} {rp : RPl} {re : RE} (he : FPl X W e rp) (h1 : FE X W e1 re) (hbase : attributeBase e "append" X.env (eval e X.env) = eval e X.env := by rfl)
    (hfew : ((backTo pos (starEach [e1] X.env)).all (fun x => !x.1) && (backToKw pos (keywordEach [] X.env)).all (fun x => x.1.isSome)
      && decide ([e1].length + ([] : List Keyword).length + (if ([] : List Keyword).isEmpty then 0 else 1) < 30)) = true := by rfl)
    (hline : (apos.endLine == pos.line) = true := by rfl) (hs : starEach [e1] X.env = (false, eval e1 X.env) :: starEach [] X.env := by rfl) (hplain : (backTo pos (starEach [] X.env)).any (·.1) = false := by rfl) :
    FE X W (.Call (.Attribute e "append" apos) [e1] [] pos) (rAppP rp re) := by
  obtain ⟨t, q, l⟩ := he.ex
  obtain ⟨t', q', l'⟩ := h1.ex
  refine ⟨_, pe_bm PySem.F.plainAttrs_list PySem.F.slot_list_append PySem.F.type_list_append mt_append q (pa_cons q' pa_nil hs) hbase hfew hline hs hplain, fun τ w σ ρ E Q Qv hn st h hq hx => ?_⟩
  refine l τ w σ ρ E _ _ hn st h (fun i p ρ1 w1 d0 dn v0 v h1 e1 hi ha hv at0 => ?_) hx
  have hn1 : ρ1.length < τ := by rw [e1.len]; exact hn
  obtain ⟨s1, back⟩ := hold e1.st hi hv at0 hn1
  have hx1 : SX X.K W τ w1 σ ρ1 E := hx.then e1 (Nat.le_refl _)
  simp only [hi] at h1
  obtain ⟨v0', ev', r0⟩ := e1.st.rep i d0 hi
  rw [hv] at ev'; cases ev'
  have ty : ∀ {o : Ow} {ds : List D}, dn = .lst o ds → tyV X.K "list" v w1.H := fun {o ds} ed => by
    subst ed
    have rn := at0.rep r0
    exact tyL e1.st.wf rn
  have isl : ∃ o ds, dn = .lst o ds := by
    rw [ha] at h1
    cases dn with
    | lst o ds => exact ⟨o, ds, rfl⟩
    | _ => exact h1.elim
  obtain ⟨o, ds, rfl⟩ := isl
  simp only [ha] at h1
  refine ⟨ty rfl, ?_⟩
  refine l' (τ + 1) (w1.ren (moveT (i + 1) [τ])) σ (ρ1.set i none) _ _ _ (by rw [List.length_set]; omega) s1 h1 (fun d ρ2 w2 vd h2 e2 r2 => ?_) (held_sx hx1 fun ρ' w' en => (back ρ' w' en).1)
  obtain ⟨b1, b2, b3⟩ := back ρ2 w2 e2
  obtain ⟨ho, hz, h2⟩ := h2
  have hin := (List.getElem?_eq_some_iff.mp hi).1
  have hl2 : ρ2.length = ρ1.length := by rw [e2.len, List.length_set]
  have hi2 : (ρ2.set i (some d0))[i]? = some (some d0) := List.getElem?_set_self (by omega)
  obtain ⟨v0', ev', r0'⟩ := b1.st.rep i d0 hi2
  rw [hv] at ev'; cases ev'
  obtain ⟨a, us, rfl, g, hh, z, rl⟩ := list_at ho r0' b2
  refine ⟨a, us, vd, rfl, rfl, hh, by rw [rl.length]; exact hz, ?_⟩
  have rd : Rep X.K (w2.ren (moveT τ [i + 1])) d [τ + 1] vd := b3 d vd (τ + 1) [] (by omega) r2
  have rr : RepL X.K ((w2.ren (moveT τ [i + 1])).ren (moveT (τ + 1) ((i + 1) :: p ++ [ds.length]))) (ds ++ [d]) ((i + 1) :: p) 0 (us ++ [vd]) := by
    refine RepL.app (RepL.of rl.length fun q dq vq e3 e4 => ?_) (RepL.one ?_)
    · obtain ⟨v3, e5, r3⟩ := rl.get e3
      rw [e4] at e5; cases e5
      exact r3.mv (by omega)
    · rw [Nat.zero_add]; exact rd.mvT
  have ee := list_end (i := i) (τ := τ) (p := p) ho (more_mine ho d.own) b1.st hi2 hv r0' b2 (by rw [List.length_set]; omega) (Nat.le_succ _) rr (by rw [List.length_append]; exact hz) z.2.app
  rw [List.set_set] at ee
  exact hq .non _ _ .non (nf_of h2) (e1.trans (b1.trans ee (Nat.le_refl _)) (Nat.le_refl _)) rfl
end
end FL
/-! FL26: x.pop(i), x.insert(i, e), x[k][j] = e, list(range(..)). -/
namespace FL
open PySem PySem.Spec PyProof.Rows L2 RT
/-- x.pop(e), of light parts -/
def rPopAt (i : Nat) (re : RE) : RE := fun ρ E Q => onLst ρ i fun _ _ => re ρ E fun d ρ1 => onLst ρ1 i fun o ds => match d with
  | .int n => match o with
    | .flat => natAt (ixN ds.length n) fun k => (-(2 ^ 62) ≤ n ∧ n < 2 ^ 62) ∧ pick ds[k]? fun y => nf (ρ1.set i (some (.lst .flat (ds.eraseIdx k)))) (Q y)
    | _ => False
  | _ => False
/-- x.insert(a, e), a not below 0 -/
def rIns (i : Nat) (ra : RA) : RE := fun ρ E Q => onLst ρ i fun _ _ => ra ρ E fun ads ρ1 => onVals ads fun ds => match ds with
  | [.int n, d] => onLst ρ1 i fun o xs => match o with
    | .flat => d.own = false ∧ (0 ≤ n ∧ n < 2 ^ 62) ∧ xs.length < sizeLine ∧ nf (ρ1.set i (some (.lst .flat (xs.take n.toNat ++ [d] ++ xs.drop n.toNat)))) (Q .non)
    | _ => False
  | _ => False
section
variable {X : Cx} {W : WX} {M : List Nat} {pos pos' p2 p3 apos : Pos}
theorem fe_popAt (i : Nat) {x : Str} {e : Expr} {re : RE} (he : FE X W e re) (hN : X.N[i]? = some x := by rfl) (hv : Vis X.env.scope x := by first | exact Or.inl rfl | exact Or.inr (Or.inl rfl) | exact Or.inr (Or.inr rfl)) (hd : (x == ("__debug__" : Str)) = false := by decide)
    (hcd : (x == ("__classdict__" : Str)) = false := by decide) (hbase : attributeBase (.Name x p2) "pop" X.env (eval (.Name x p2) X.env) = eval (.Name x p2) X.env := by rfl)
    (hfew : ((backTo pos (starEach [e] X.env)).all (fun x => !x.1) && (backToKw pos (keywordEach [] X.env)).all (fun x => x.1.isSome)
      && decide ([e].length + ([] : List Keyword).length + (if ([] : List Keyword).isEmpty then 0 else 1) < 30)) = true := by rfl)
    (hline : (apos.endLine == pos.line) = true := by rfl) (hs : starEach [e] X.env = (false, eval e X.env) :: starEach [] X.env := by rfl) (hplain : (backTo pos (starEach [] X.env)).any (·.1) = false := by rfl) :
    FE X W (.Call (.Attribute (.Name x p2) "pop" apos) [e] [] pos) (rPopAt i re) := by
  obtain ⟨t, p, l⟩ := he.ex
  refine ⟨_, pe_bm PySem.F.plainAttrs_list PySem.F.slot_list_pop PySem.F.type_list_pop mt_popAt (pe_var hN hv hd hcd) (pa_cons p pa_nil hs) hbase hfew hline hs hplain, fun τ w σ ρ E Q Qv hn st h hq hx => ?_⟩
  obtain ⟨o0, ds0, e0, _, h⟩ := onLst_elim h
  obtain ⟨v0, ev, r00⟩ := st.rep i _ e0
  refine ⟨v0, ev, tyL st.wf r00, ?_⟩
  refine l τ w σ ρ E _ _ hn st h (fun d ρ1 w1 v h1 e1 r1 => ?_) hx
  obtain ⟨o, ds, ed, ho, h1⟩ := onLst_elim h1
  cases d with
  | int n =>
    cases o with
    | flat =>
      dsimp only at h1
      obtain ⟨k, ek, ⟨b1, b2⟩, h1⟩ := natAt_elim h1
      · obtain ⟨y, ey, _, h1⟩ := pick_elim h1
        · simp only [Rep] at r1
          subst r1
          obtain ⟨v0', ev', r0⟩ := e1.st.rep i _ ed
          rw [ev] at ev'; cases ev'
          obtain ⟨a, us, rfl, ta, ha, z, rl⟩ := list_at ho r0 .here
          have hL : ownL ds = false := z.2 rfl
          obtain ⟨x, ex, rx⟩ := rl.get ey
          have he : ownL (ds.eraseIdx k) = false := by rw [ownL_iff] at hL ⊢; exact fun d hd => hL d (List.eraseIdx_subset hd)
          have rl' : RepL X.K w1 (ds.eraseIdx k) ((i + 1) :: []) 0 (us.eraseIdx k) := RepL.of (by rw [List.length_eraseIdx, List.length_eraseIdx, rl.length]) fun j d v e1 e2 => by
            rw [List.getElem?_eraseIdx] at e1 e2
            split at e1
            · rename_i hj
              rw [if_pos hj] at e2
              obtain ⟨v', e3, r⟩ := rl.get e1
              rw [e2] at e3; cases e3
              exact r
            · rename_i hj
              rw [if_neg hj] at e2
              obtain ⟨v', e3, r⟩ := rl.get e1
              rw [e2] at e3; cases e3
              exact r.free (Same.refl _) d (ownL_iff.mp hL d (List.mem_of_getElem? e1))
          have hkl := (List.getElem?_eq_some_iff.mp ey).1
          refine ⟨a, us, n, k, x, rfl, rfl, ha, by omega, by omega, (ixN_seq (by rw [rl.length]; exact ek)).1, ex, ?_⟩
          exact hq y _ ((w1.ren (moveT τ [])).put a (.lst (us.eraseIdx k))) x (nf_of h1) (e1.trans (m0_end (us' := us.eraseIdx k) ho e1.st ed ev r0 .here (by rw [e1.len]; exact hn) rl' he (by rw [List.length_eraseIdx]; split <;> omega)) (Nat.le_refl _))
            (Rep.free (w := w1) (w' := (w1.ren (moveT τ [])).put a (.lst (us.eraseIdx k))) (Same.refl _) y (ownL_iff.mp hL y (List.mem_of_getElem? ey)) rx)
    | _ => exact h1.elim
  | _ => cases o <;> exact h1.elim
theorem fe_ins (i : Nat) {x : Str} {e1 e2 : Expr} {ra : RA} (he : FA X W [e1, e2] ra) (hN : X.N[i]? = some x := by rfl) (hv : Vis X.env.scope x := by first | exact Or.inl rfl | exact Or.inr (Or.inl rfl) | exact Or.inr (Or.inr rfl)) (hd : (x == ("__debug__" : Str)) = false := by decide)
    (hcd : (x == ("__classdict__" : Str)) = false := by decide) (hbase : attributeBase (.Name x p2) "insert" X.env (eval (.Name x p2) X.env) = eval (.Name x p2) X.env := by rfl)
    (hfew : ((backTo pos (starEach [e1, e2] X.env)).all (fun x => !x.1) && (backToKw pos (keywordEach [] X.env)).all (fun x => x.1.isSome)
      && decide ([e1, e2].length + ([] : List Keyword).length + (if ([] : List Keyword).isEmpty then 0 else 1) < 30)) = true := by rfl)
    (hline : (apos.endLine == pos.line) = true := by rfl) (hs : starEach [e1, e2] X.env = (false, eval e1 X.env) :: starEach [e2] X.env := by rfl) (hplain : (backTo pos (starEach [e2] X.env)).any (·.1) = false := by rfl) :
    FE X W (.Call (.Attribute (.Name x p2) "insert" apos) [e1, e2] [] pos) (rIns i ra) := by
  obtain ⟨t, p, l⟩ := he.ex
  refine ⟨_, pe_bm PySem.F.plainAttrs_list PySem.F.slot_list_insert PySem.F.type_list_insert mt_insert (pe_var hN hv hd hcd) p hbase hfew hline hs hplain, fun τ w σ ρ E Q Qv hn st h hq hx => ?_⟩
  obtain ⟨o0, ds0, e0, _, h⟩ := onLst_elim h
  obtain ⟨v0, ev, r00⟩ := st.rep i _ e0
  refine ⟨v0, ev, tyL st.wf r00, ?_⟩
  refine l τ w σ ρ E _ _ hn st h (fun ads ρ1 w1 vs h1 l1 e1 r1 => ?_) hx
  obtain ⟨ds, ea, h1⟩ := onVals_elim h1
  obtain ⟨l2, l3, g⟩ := vals_at r1 ea
  split at h1
  · rename_i n d
    match vs, l2, g with
    | [v1, v2], _, g =>
      have r1' := g 0 _ v1 rfl rfl
      have r2' := g 1 _ v2 rfl rfl
      simp only [Rep] at r1'
      subst r1'
      obtain ⟨o, xs, ed, ho, h1⟩ := onLst_elim h1
      cases o with
      | flat =>
        obtain ⟨hdo, ⟨b1, b2⟩, hz, h1⟩ := h1
        obtain ⟨v0', ev', r0⟩ := e1.st.rep i _ ed
        rw [ev] at ev'; cases ev'
        obtain ⟨a, us, rfl, ta, ha, z, rl⟩ := list_at ho r0 .here
        have hL : ownL xs = false := z.2 rfl
        refine ⟨a, us, n, v2, rfl, rfl, ha, by rw [rl.length]; exact hz, b1, by omega, ?_⟩
        have hL' : ownL (xs.take n.toNat ++ [d] ++ xs.drop n.toNat) = false := by
          rw [ownL_iff] at hL ⊢
          intro y hy
          simp only [List.append_assoc, List.mem_append, List.mem_singleton] at hy
          rcases hy with hy | rfl | hy
          · exact hL y (List.mem_of_mem_take hy)
          · exact hdo
          · exact hL y (List.mem_of_mem_drop hy)
        have rl' : RepL X.K w1 (xs.take n.toNat ++ [d] ++ xs.drop n.toNat) ((i + 1) :: []) 0 (us.take n.toNat ++ [v2] ++ us.drop n.toNat) := by
          have fr : ∀ ys : List D, ownL ys = false → ∀ ws ℓ j ℓ' j', RepL X.K w1 ys ℓ j ws → RepL X.K w1 ys ℓ' j' ws := fun ys hy ws ℓ j ℓ' j' r => RepL.free (w := w1) (w' := w1) (Same.refl _) ys hy r
          have ltk : ownL (xs.take n.toNat) = false := by rw [ownL_iff] at hL ⊢; exact fun y hy => hL y (List.mem_of_mem_take hy)
          have ldr : ownL (xs.drop n.toNat) = false := by rw [ownL_iff] at hL ⊢; exact fun y hy => hL y (List.mem_of_mem_drop hy)
          have tk : RepL X.K w1 (xs.take n.toNat) ((i + 1) :: []) 0 (us.take n.toNat) := RepL.of (by rw [List.length_take, List.length_take, rl.length]) fun j d v e1 e2 => by
            rw [List.getElem?_take] at e1 e2
            split at e1
            · rename_i hj
              rw [if_pos hj] at e2
              obtain ⟨v', e3, r⟩ := rl.get e1
              rw [e2] at e3; cases e3
              exact r
            · cases e1
          have dr : RepL X.K w1 (xs.drop n.toNat) ((i + 1) :: []) 0 (us.drop n.toNat) := RepL.of (by rw [List.length_drop, List.length_drop, rl.length]) fun j d v e1 e2 => by
            rw [List.getElem?_drop] at e1 e2
            obtain ⟨v', e3, r⟩ := rl.get e1
            rw [e2] at e3; cases e3
            exact r.free (Same.refl _) d (ownL_iff.mp hL d (List.mem_of_getElem? e1))
          exact RepL.app (RepL.app tk (RepL.one (r2'.free (Same.refl _) d hdo))) (fr _ ldr _ _ _ _ _ dr)
        exact hq .non _ _ .non (nf_of h1) (e1.trans (m0_end (us' := us.take n.toNat ++ [v2] ++ us.drop n.toNat) ho e1.st ed ev r0 .here (by rw [e1.len]; exact hn) rl' hL' (by simp only [List.length_append, List.length_take, List.length_drop, List.length_singleton]; omega)) (Nat.le_refl _)) rfl
      | _ => exact h1.elim
  · exact h1.elim
/-- list(range(n)), list(range(a, b)) -/
def rLstRg1 (ra : RO) : RE := fun ρ E Q => ra ρ E fun x ρ1 => on1 ρ1 x fun dx => match dx with
  | .int n => (n ≤ 16777216 ∧ -(2 ^ 62) ≤ n) ∧ Q (.lst .flat (rgD 0 n)) ρ1
  | _ => False
theorem repl_rg {K : PySem.W.Frag} {w : Wd} (a b : Int) (ℓ : Loc) : RepL K w (rgD a b) ℓ 0 (rgV a b) := RepL.of (by rw [rgD_len, rgV_length]) fun j d v e1 e2 => by
  unfold rgD at e1
  unfold rgV at e2
  rw [List.getElem?_map] at e1 e2
  cases q : (List.range (b - a).toNat)[j]? with
  | none => rw [q] at e1; cases e1
  | some k => rw [q] at e1 e2; cases e1; cases e2; rfl
theorem fe_lstRg1 {a : Expr} {ra : RO} (ha : FO X W a ra) (hm : X.mg "list" = none) (hm2 : X.mg "range" = none) (hc : X.calm = true := by rfl) (hg : Gl X "list" := by rfl) (hg2 : Gl X "range" := by rfl)
    (na : starEach [a] X.env = (false, eval a X.env) :: starEach [] X.env := by rfl) (nb : starEach [.Call (.Name "range" p2) [a] [] p3] X.env = (false, eval (.Call (.Name "range" p2) [a] [] p3) X.env) :: starEach [] X.env := by rfl) :
    FE X W (.Call (.Name "list" pos') [.Call (.Name "range" p2) [a] [] p3] [] pos) (rLstRg1 ra) := by
  obtain ⟨t, q, k⟩ := ha.ex
  refine ⟨_, pe_listRg hc hg hm (prg_1 hg2 hm2 q na) nb, fun τ w σ ρ E Q Qv hn st h hq hx => ?_⟩
  refine k τ w σ ρ E _ _ hn st h (fun x ρ1 w1 v h1 e1 r1 => ?_) hx
  obtain ⟨dx, ex, h1⟩ := on1_elim h1
  obtain ⟨ℓ, rx⟩ := ad_get e1.st r1 ex
  cases dx with
  | int n =>
    simp only [Rep] at rx
    subst rx
    obtain ⟨⟨b1, b2⟩, h1⟩ := h1
    refine ⟨n, rfl, ⟨by omega, by omega, by omega, by omega, by omega⟩, fun p nn => ?_⟩
    have ho : ownL (rgD 0 n) = false := by unfold rgD; exact own_map fun _ => rfl
    obtain ⟨e2, r2⟩ := EndE.own (τ := τ) .flat e1.st nn (repl_rg 0 n [τ]) (by rw [rgD_len, sizeLine_eq]; omega) (fun _ => ho) rfl
    exact hq _ _ _ _ h1 (e1.trans e2 (Nat.le_refl _)) r2
  | _ => exact h1.elim
end
end FL
/-! FL27: x[a:b:c] of lists. -/
namespace FL
open PySem PySem.Spec PyProof.Rows L2 RT
def pickL {α : Type} (xs : List α) (lo hi st : Option Int) : List α :=
  (sliceRange (sliceBounds lo hi st xs.length).1 (sliceBounds lo hi st xs.length).2.1 (sliceBounds lo hi st xs.length).2.2).filterMap (xs[·]?)
def tSlSt (K : PySem.W.Frag) (te : TE) (tl th ts : TO) : TE := fun σ H Q => te σ H fun x H1 => tl σ H1 fun lo H2 => th σ H2 fun hi H3 => ts σ H3 fun st H4 => ∃ a xs, x = .ref a ∧ SqL K H4 a xs ∧ st ≠ some 0 ∧ ∀ p, H4 p = none → Q (.ref p) (upd H4 p (.lst (pickL xs lo hi st)))
theorem vals_pick {xs : List V} {its : List Value} (r : Vals xs its) (lo hi st : Option Int) : Vals (pickL xs lo hi st) (slicePick its.toArray lo hi st).toList := by
  unfold pickL slicePick
  have hl : its.toArray.size = xs.length := by rw [List.size_toArray, r.length]
  rw [hl]
  generalize sliceRange _ _ _ = ks
  simp only [List.getElem?_toArray]
  induction ks with
  | nil => exact .nil
  | cons k ks ih =>
    rw [List.filterMap_cons, List.filterMap_cons]
    cases e : xs[k]? with
    | none =>
      have : its[k]? = none := by rw [List.getElem?_eq_none_iff] at e ⊢; rw [← r.length]; exact e
      rw [this]; exact ih
    | some x =>
      obtain ⟨u, eu, ru⟩ := r.get e
      rw [eu]
      exact .cons ru ih
section
variable {X : Cx}
theorem pe_slStep {e : Expr} {te : TE} {lo hi st : Option Expr} {tl th ts : TO} {p3 pos : Pos} (he : PE X e te) (hl : PO X lo tl) (hh : PO X hi th) (hs : PO X st ts) (hv : ∀ a b, subscripted (.Slice lo hi st p3) false a b = operate [a, b] (getItem a b) := by intro _ _; with_unfolding_all rfl) : PE X (.Subscript e (.Slice lo hi st p3) pos) (tSlSt X.K te tl th ts) := by
  refine ⟨fun pins s σ H Q I h => ?_⟩
  refine Subscript_ (thn (he.run pins s σ H _ I h) fun v s1 ⟨x, H1, I1, r1, q1⟩ => ?_)
  refine wpAny_Slice (thn (hl.run pins s1 σ H1 _ I1 q1) fun vl s2 ⟨l, H2, I2, pl, q2⟩ => ?_)
  refine thn (hh.run pins s2 σ H2 _ I2 q2) fun vu s3 ⟨u, H3, I3, pu, q3⟩ => ?_
  refine thn (hs.run pins s3 σ H3 _ I3 q3) fun vs s4 ⟨o, H4, I4, ps, q4⟩ => ?_
  obtain ⟨a, xs, ex, hx, h0, q⟩ := q4
  subst ex
  cases r1
  have I5 : Inv X pins σ H4 { s4 with heap := s4.heap.push { cls := .type "slice", data := .fields #[vl, vu, vs] } } := I4.kept (t' := s4.toks) fun b ob q => Heap.get?_push_of_some _ q
  obtain ⟨its, r, ht, hz⟩ := I5.list hx
  have hlen := r.length
  show wpAny (model X.prog X.w) X.A (subscriptTail e (.Slice lo hi st p3) (.ref a) (.ref s4.heap.objs.size)) (EP X pins σ Q) X.xe { s4 with heap := s4.heap.push { cls := .type "slice", data := .fields #[vl, vu, vs] } }
  refine tail_any (ops := [.ref a, .ref s4.heap.objs.size]) ht.isList.typeIs (PySem.slot_list_getitem.lookup) ?_ (hv _ _)
  refine wpAny_getItem_list_slice ht.isList (Heap.IsSliceOf.new _ vl vu vs) pl pu ps h0 ?_ (by rw [List.size_toArray]; omega)
  refine ⟨.ref _, _, I5.laid (t' := s4.toks) (o := .lst (pickL xs l u o)) (fun b ob q => Heap.get?_push_of_some _ q) (Nat.le_refl _) ?_, rfl, q _ (I5.hok.fresh (Nat.le_refl _))⟩
  refine ⟨?_, _, 0, vals_pick r l u o, ?_⟩
  · have := slicePick_size_le its.toArray l u o
    have e := (vals_pick r l u o).length
    have e2 : (slicePick its.toArray l u o).toList.length = (slicePick its.toArray l u o).size := Array.length_toList
    have hs : its.toArray.size = its.length := by simp
    omega
  · rw [Array.toArray_toList]
    exact Heap.get?_push_size _ rfl
end
theorem pickL_le {α : Type} (xs : List α) (lo hi st : Option Int) (f : α → Value) : (pickL xs lo hi st).length ≤ xs.length := by
  have := slicePick_size_le (xs.map f).toArray lo hi st
  unfold slicePick at this
  unfold pickL
  simp only [List.size_toArray, List.length_map, List.getElem?_toArray] at this
  have e : ∀ ks : List Nat, (ks.filterMap fun k => (xs.map f)[k]?).length = (ks.filterMap (xs[·]?)).length := fun ks => by
    induction ks with
    | nil => rfl
    | cons k ks ih =>
      rw [List.filterMap_cons, List.filterMap_cons, List.getElem?_map]
      cases xs[k]? with
      | none => exact ih
      | some x => exact congrArg Nat.succ ih
  rw [e] at this
  exact this
/-- x[lo:hi:st], x a list -/
def rSlSt (ra : RO) (rl rh rs : RP) : RE := fun ρ E Q => ra ρ E fun x ρ1 => rl ρ1 E fun lo ρ2 => rh ρ2 E fun hi ρ3 => rs ρ3 E fun st ρ4 => on1 ρ4 x fun dx => match lstOf dx with
  | some ds => st ≠ some 0 ∧ Q (.lst .flat (pickL ds lo hi st)) ρ4
  | none => False
theorem pickL_own {ds : List D} (h : ownL ds = false) (lo hi st : Option Int) : ownL (pickL ds lo hi st) = false := ownL_iff.mpr fun d hd => by
  obtain ⟨k, _, e⟩ := List.mem_filterMap.mp hd
  exact ownL_iff.mp h d (List.mem_of_getElem? e)
theorem RepL.pick {K : PySem.W.Frag} {w : Wd} {ds : List D} {vs : List V} (ho : ownL ds = false) (h : ∀ ℓ j, RepL K w ds ℓ j vs) (lo hi st : Option Int) : ∀ ℓ j, RepL K w (pickL ds lo hi st) ℓ j (pickL vs lo hi st) := by
  have hl := (h [] 0).length
  unfold pickL
  rw [hl]
  generalize sliceRange _ _ _ = ks
  induction ks with
  | nil => intro ℓ j; simp [RepL]
  | cons k ks ih =>
    intro ℓ j
    rw [List.filterMap_cons, List.filterMap_cons]
    cases e : ds[k]? with
    | none =>
      have : vs[k]? = none := by rw [List.getElem?_eq_none_iff] at e ⊢; omega
      rw [this]; exact ih ℓ j
    | some d =>
      obtain ⟨v, ev, rv⟩ := (h [] 0).get e
      rw [ev]
      simp only [RepL]
      exact ⟨v, _, rfl, rv.free (Same.refl _) d (ownL_iff.mp ho d (List.mem_of_getElem? e)), ih ℓ (j + 1)⟩
theorem pickL_map {α β : Type} (f : α → β) (xs : List α) (lo hi st : Option Int) : pickL (xs.map f) lo hi st = (pickL xs lo hi st).map f := by
  unfold pickL
  rw [List.length_map, List.map_filterMap]
  congr 1
  funext k
  rw [List.getElem?_map]
theorem cut_mid {α : Type} {xs : List α} {a b : Nat} (h : b ≤ xs.length) (hab : a ≤ b) : cutL xs (some (a : Int)) (some (b : Int)) = (xs.drop a).take (b - a) := by
  unfold cutL
  rw [HT.sIx_nat, HT.sIx_nat, Nat.min_eq_left h, Nat.min_eq_left (by omega)]
theorem cut_to {α : Type} {xs : List α} {b : Nat} (h : b ≤ xs.length) : cutL xs none (some (b : Int)) = xs.take b := by
  unfold cutL
  rw [HT.sIx_nat, HT.sIx_none, Nat.min_eq_left h, List.drop_zero, Nat.sub_zero]
theorem cut_from {α : Type} {xs : List α} {a : Nat} (h : a ≤ xs.length) : cutL xs (some (a : Int)) none = xs.drop a := by
  unfold cutL
  rw [HT.sIx_nat, HT.sIx_none, Nat.min_eq_left h, List.take_of_length_le (by rw [List.length_drop]; omega)]
theorem pick_col {ys : List Int} {m p c : Nat} (hl : ys.length = m * p) (hc : c < p) : pickL ys (some (c : Int)) none (some (p : Int)) = (List.range m).map fun b => ys.getD (b * p + c) 0 := by
  unfold pickL
  by_cases hm : m = 0
  · subst hm
    have : ys = [] := List.length_eq_zero_iff.mp (by omega)
    subst this
    simp
  have hmp : p ≤ m * p := Nat.le_mul_of_pos_left p (by omega)
  have e1 : (sliceBounds (some (c : Int)) none (some (p : Int)) ys.length).1 = c := by
    simp only [sliceBounds, Option.getD_some]
    rw [if_pos (by omega), if_neg (by omega)]
    omega
  have e2 : (sliceBounds (some (c : Int)) none (some (p : Int)) ys.length).2.1 = ys.length := by
    simp only [sliceBounds, Option.getD_some]
    rw [if_pos (by omega)]
  have e3 : (sliceBounds (some (c : Int)) none (some (p : Int)) ys.length).2.2 = p := rfl
  rw [e1, e2, e3]
  unfold sliceRange
  rw [if_pos (by omega), if_pos (by omega)]
  have ec : (((ys.length : Nat) : Int) - c + p - 1) / p = m := by
    rw [hl]
    have : (((m * p : Nat) : Int) - c + p - 1) = (p - 1 - c : Int) + m * p := by push_cast; omega
    rw [this, Int.add_mul_ediv_right _ _ (by omega), Int.ediv_eq_zero_of_lt (by omega) (by omega), Int.zero_add]
  rw [ec]
  show List.filterMap (fun x => ys[x]?) (List.map (fun (k : Nat) => ((c : Int) + p * (k : Int)).toNat) (List.range (m : Int).toNat)) = _
  rw [Int.toNat_natCast, List.filterMap_map]
  have key : ∀ b, b < m → ys[((c : Int) + p * (b : Int)).toNat]? = some (ys.getD (b * p + c) 0) := fun b hb => by
    have i1 : ((c : Int) + p * (b : Int)).toNat = b * p + c := by
      have : (c : Int) + p * (b : Int) = ((b * p + c : Nat) : Int) := by push_cast; rw [Int.mul_comm]; omega
      rw [this]; rfl
    have h1 : (b + 1) * p ≤ m * p := Nat.mul_le_mul_right p hb
    rw [Nat.succ_mul] at h1
    rw [i1, List.getD_eq_getElem?_getD, List.getElem?_eq_getElem (by omega)]; rfl
  have fm : ∀ l : List Nat, (∀ b ∈ l, b < m) → l.filterMap ((fun x => ys[x]?) ∘ fun (k : Nat) => ((c : Int) + p * (k : Int)).toNat) = l.map fun b => ys.getD (b * p + c) 0 := fun l => by
    induction l with
    | nil => intro _; rfl
    | cons b l ih =>
      intro h
      rw [List.filterMap_cons]
      rw [show ((fun x => ys[x]?) ∘ fun (k : Nat) => ((c : Int) + p * (k : Int)).toNat) b = some (ys.getD (b * p + c) 0) from key b (h b List.mem_cons_self)]
      exact congrArg _ (ih fun x hx => h x (List.mem_cons_of_mem _ hx))
  exact fm _ fun b hb => List.mem_range.mp hb
section
variable {X : Cx} {W : WX}
theorem fe_slSt {a : Expr} {lo hi st : Option Expr} {ra : RO} {rl rh rs : RP} {p2 pos : Pos} (ha : FO X W a ra) (hl : FP X W lo rl) (hh : FP X W hi rh) (hs : FP X W st rs) (hv : ∀ a b, subscripted (.Slice lo hi st p2) false a b = operate [a, b] (getItem a b) := by intro _ _; with_unfolding_all rfl) : FE X W (.Subscript a (.Slice lo hi st p2) pos) (rSlSt ra rl rh rs) := by
  obtain ⟨ta, pa, ka⟩ := ha.ex
  obtain ⟨tl, pl, kl⟩ := hl.ex
  obtain ⟨th, ph, kh⟩ := hh.ex
  obtain ⟨ts, ps, ks⟩ := hs.ex
  refine ⟨_, pe_slStep pa pl ph ps hv, fun τ w σ ρ E Q Qv hn st' h hq hx => ?_⟩
  refine ka τ w σ ρ E _ _ hn st' h (fun x ρ1 w1 v h1 e1 r1 => ?_) hx
  refine kl (τ + 1) w1 σ ρ1 E _ _ (by rw [e1.len]; omega) e1.st h1 (fun o ρ2 w2 h2 e2 => ?_) (hx.then e1 (Nat.le_succ _))
  have e12 := e1.trans e2 (Nat.le_succ _)
  refine kh (τ + 1) w2 σ ρ2 E _ _ (by rw [e12.len]; omega) e2.st h2 (fun o' ρ3 w3 h3 e3 => ?_) (hx.then e12 (Nat.le_succ _))
  have e13 := e12.trans e3 (Nat.le_succ _)
  refine ks (τ + 1) w3 σ ρ3 E _ _ (by rw [e13.len]; omega) e3.st h3 (fun o3 ρ4 w4 h4 e4 => ?_) (hx.then e13 (Nat.le_succ _))
  have e14 := e13.trans e4 (Nat.le_succ _)
  have r4 : AdAt X.K w4 σ x τ v := ((r1.later (by rw [e1.len]; exact hn) e2).later (by rw [e12.len]; exact hn) e3).later (by rw [e13.len]; exact hn) e4
  obtain ⟨dx, ex, q⟩ := on1_elim h4
  obtain ⟨ℓ, r⟩ := ad_get e4.st r4 ex
  cases el : lstOf dx with
  | some ds =>
    simp only [el] at q
    obtain ⟨q0, q⟩ := q
    obtain ⟨b, vs, rfl, h5, hz, ho, h6⟩ := lst_seq e4.st.wf el r
    refine ⟨b, vs, rfl, h5, q0, fun p n => ?_⟩
    obtain ⟨e5, r5⟩ := EndE.own (τ := τ) .flat e4.st n (RepL.pick ho h6 o o' o3 [τ] 0) (Nat.le_trans (pickL_le ds _ _ _ fun _ => .none) hz) (fun _ => pickL_own ho _ _ _) rfl
    exact hq _ ρ4 _ _ q (e14.trans e5 (Nat.le_refl _)) r5
  | none => simp only [el] at q
end
end FL
/-! FL28: dict(pairs), keys tuples. -/
namespace FL
open PySem PySem.Spec PyProof.Rows L2 RT
abbrev QT := Addr × List Key × Addr × V
def mergeT (qs : List QT) : List (List Key × V) := qs.foldl (fun (acc : List (List Key × V)) (q : QT) => putK acc q.2.1 q.2.2.2) []
section
variable {X : Cx}
theorem pairsT_of {pins : List (Addr × Obj)} {σ : L2.St} {H : Hp} {s : Shared} (I : Inv X pins σ H s) : ∀ {qs : List QT}, (∀ q : QT, q ∈ qs → SqT X.K H q.1 [.ref q.2.2.1, q.2.2.2] ∧ H q.2.2.1 = some (.tup (q.2.1.map kV))) →
    ∃ us : List Value, us.length = qs.length ∧ ∀ (j : Nat) (q : QT) (u : Value), qs[j]? = some q → us[j]? = some u → RelV q.2.2.2 u ∧ IsTup s.heap q.1 #[.ref q.2.2.1, u] ∧ (tupleKind (mixKind X.prog X.w)).is s.heap q.2.1 q.2.2.1
  | [], _ => ⟨[], rfl, fun j q u e => by simp at e⟩
  | q :: qs, h => by
    obtain ⟨us, hl, hp⟩ := pairsT_of I fun z hz => h z (List.mem_cons_of_mem _ hz)
    obtain ⟨h1, h2⟩ := h q List.mem_cons_self
    obtain ⟨its, rv, ht, _⟩ := I.tuple h1
    obtain ⟨u, y, ei, ru, ry⟩ := vals2 rv
    subst ei
    cases ru
    refine ⟨y :: us, by rw [List.length_cons, List.length_cons, hl], fun j z u e1 e2 => ?_⟩
    cases j with
    | zero =>
      cases e1; cases e2
      exact ⟨ry, ht, key_of I.hok h2⟩
    | succ j => exact hp j z u (by simpa using e1) (by simpa using e2)
theorem kt_merge {H : Hp} : ∀ {qs : List QT} {us : List Value} {kvs : List (List Key × V)} {xs : List (List Key × Addr × Value)}, us.length = qs.length → (∀ (j : Nat) (q : QT) (u : Value), qs[j]? = some q → us[j]? = some u → RelV q.2.2.2 u) → (∀ q : QT, q ∈ qs → H q.2.2.1 = some (.tup (q.2.1.map kV))) → KT H kvs xs →
    KT H (qs.foldl (fun (acc : List (List Key × V)) (q : QT) => putK acc q.2.1 q.2.2.2) kvs) (storedAllH xs ((qs.zip us).map fun z => (z.1.2.1, z.1.2.2.1, z.2)))
  | [], us, kvs, xs, hl, _, _, r => by
    have : us = [] := List.length_eq_zero_iff.mp hl
    subst this
    exact r
  | q :: qs, [], kvs, xs, hl, _, _, r => by simp at hl
  | q :: qs, u :: us, kvs, xs, hl, hr, hk, r => by
    have r1 := r.put q.2.1 (hk q List.mem_cons_self) (hr 0 q u rfl rfl)
    exact kt_merge (qs := qs) (us := us) (by simpa using hl) (fun j z v e1 e2 => hr (j + 1) z v (by simpa using e1) (by simpa using e2)) (fun z hz => hk z (List.mem_cons_of_mem _ hz)) r1
theorem call_dictPT (hcalm : X.calm = true) (hu : X.A.units + 2 < cLine) : CallR X (.type "dict") (fun xs H Q => ∃ (a : Addr) (qs : List QT), xs = [.ref a] ∧ SqL X.K H a (qs.map fun q => V.ref q.1) ∧ (∀ q : QT, q ∈ qs → SqT X.K H q.1 [.ref q.2.2.1, q.2.2.2] ∧ H q.2.2.1 = some (.tup (q.2.1.map kV))) ∧
    ∀ p, H p = none → Q (.ref p) (upd H p (.dT (mergeT qs)))) := by
  intro pins s σ H xs us0 Q I r q
  obtain ⟨a, qs, ex, hq, hp, q⟩ := q
  subst ex
  obtain ⟨u, eu, rx⟩ := vals1 r
  subst eu
  cases rx
  obtain ⟨its, rv, pl, hz⟩ := I.list hq
  have rv' : Vals ((qs.map (·.1)).map V.ref) its := by rw [List.map_map]; exact rv
  have ei := refs_at rv'
  subst ei
  rw [List.length_map] at hz
  obtain ⟨us, hl, hpr⟩ := pairsT_of I hp
  let prs : List (Value × Value) := (qs.zip us).map fun z => (.ref z.1.2.2.1, z.2)
  let Ts : Nat → Addr := fun j => match qs[j]? with | some z => z.1 | none => 0
  let ps : List (List Key × Addr × Value) := (qs.zip us).map fun z => (z.1.2.1, z.1.2.2.1, z.2)
  have hlen : prs.length = qs.length := by show ((qs.zip us).map _).length = _; rw [List.length_map, List.length_zip]; omega
  have getz : ∀ (j : Nat) (q : QT), qs[j]? = some q → ∃ u, us[j]? = some u ∧ (qs.zip us)[j]? = some (q, u) := fun j z e => by
    have hj := (List.getElem?_eq_some_iff.mp e).1
    have hj2 : j < us.length := by omega
    refine ⟨us[j], List.getElem?_eq_getElem hj2, ?_⟩
    rw [List.getElem?_eq_getElem (by rw [List.length_zip]; omega), List.getElem_zip]
    rw [List.getElem?_eq_getElem hj] at e
    rw [Option.some.inj e]
  have pit : PairItems s.heap ((qs.map (·.1)).map Value.ref).toArray Ts prs := by
    refine ⟨by simp [hlen], fun j k v e => ?_⟩
    have hj : j < qs.length := by rw [← hlen]; exact (List.getElem?_eq_some_iff.mp e).1
    have eq := List.getElem?_eq_getElem hj
    obtain ⟨u, eu, ez⟩ := getz j _ eq
    have e' : prs[j]? = some (.ref (qs[j]).2.2.1, u) := by show ((qs.zip us).map _)[j]? = _; rw [List.getElem?_map, ez]; rfl
    rw [e'] at e
    cases e
    have et : Ts j = (qs[j]).1 := by show (match qs[j]? with | some z => z.1 | none => 0) = _; rw [eq]
    refine ⟨by rw [et]; simp [eq], ?_⟩
    rw [et]
    obtain ⟨_, h2, _⟩ := hpr j _ _ eq eu
    obtain ⟨o, h5, h6, n, h7⟩ := h2
    exact .inl ⟨o, h5, h6, n, h7⟩
  have pH : PairsHaveH (tupleKind (mixKind X.prog X.w)) prs.length (PairRel prs) ps := by
    refine ⟨by show ((qs.zip us).map _).length = _; rw [hlen, List.length_map, List.length_zip]; omega, fun i key v e => ?_⟩
    have hj : i < qs.length := by rw [← hlen]; exact (List.getElem?_eq_some_iff.mp e).1
    have eq := List.getElem?_eq_getElem hj
    obtain ⟨u, eu, ez⟩ := getz i _ eq
    have e' : prs[i]? = some (.ref (qs[i]).2.2.1, u) := by show ((qs.zip us).map _)[i]? = _; rw [List.getElem?_map, ez]; rfl
    have e : prs[i]? = some (key, v) := e
    rw [e'] at e
    cases e
    exact ⟨(qs[i]).2.1, (qs[i]).2.2.1, by show ((qs.zip us).map _)[i]? = _; rw [List.getElem?_map, ez]; rfl, rfl⟩
  have ik : ∀ h', (∀ b o, b ≠ s.heap.objs.size → b ∉ ([] : List Addr) → s.heap.get? b = some o → h'.get? b = some o) → ∀ x ∈ ps, (tupleKind (mixKind X.prog X.w)).is h' x.1 x.2.1 := fun h' hk x hx => by
    obtain ⟨⟨z, u⟩, hz, rfl⟩ := List.mem_map.mp hx
    obtain ⟨j, hj⟩ := List.mem_iff_getElem?.mp hz
    obtain ⟨hjq, hju⟩ := List.getElem?_zip_eq_some.mp hj
    obtain ⟨_, _, h3⟩ := hpr j z u hjq hju
    obtain ⟨o, i3, n, g1, g2, g3, g4⟩ := h3
    exact ⟨o, i3, n, hk _ _ (Nat.ne_of_lt (Heap.lt_size g1)) (by simp) g1, g2, g3, g4⟩
  refine call_dict_pairsH (PairArg.list a ((qs.map (·.1)).map Value.ref).toArray Ts prs) (I.ok.hd hcalm) (show X.A.in1.in1.units < cLine from hu) ⟨?_, pit⟩ pH ik (by rw [hlen]; simpa using hz) fun h' tk hd' hk => ?_
  · obtain ⟨o, n, ho, hc, hd, hdat⟩ := pl
    exact ⟨o, n, ho, hc, hd, hdat⟩
  · have hm : (s.heap.objs.size == sysModules) = false := beq_eq_false_iff_ne.mpr (Nat.ne_of_gt I.big)
    have kt : KT (upd H s.heap.objs.size (.dT (mergeT qs))) (mergeT qs) (storedAllH [] ps) := kt_merge hl (fun j z u e1 e2 => (hpr j z u e1 e2).1) (fun z hz => by
      rw [upd_ne (ne_of_none (hp z hz).2 (I.hok.fresh (Nat.le_refl _)))]
      exact (hp z hz).2) .nil
    have hlen2 := Paired.length kt
    have hlen3 := storedAllH_length ps []
    have hlen4 : ps.length ≤ qs.length := by show ((qs.zip us).map _).length ≤ _; rw [List.length_map, List.length_zip]; omega
    obtain ⟨o, es, ep, g1, g2, g3, g4, _, g5⟩ := hd'
    exact ⟨.ref s.heap.objs.size, upd H s.heap.objs.size (.dT (mergeT qs)), I.laid (t' := tk) (fun b o e => hk b o (by simp) e) (Nat.le_refl _) (show ObjOk X.prog X.w _ _ _ (.dT (mergeT qs)) from ⟨by simp at hlen3; omega, hm, _, kt, o, es, ep, g1, g2, g3, g4, g5⟩), rfl, q _ (I.hok.fresh (Nat.le_refl _))⟩
end
/-! ### over data -/
def mkS {α : Type} (t : Bool) (ks : List D) (us : List α) (kvs : List (D × α)) : List D × List α := kvs.foldl (fun s kv => (putKs t s.1 kv.1, putDs t s.1 kv.1 s.2 kv.2)) (ks, us)
structure MkOk (K : PySem.W.Frag) (w : Wd) (t : Bool) (ks : List D) (ds : List D) (ℓ : Loc) (us : List V) : Prop where
  l : ks.length = us.length
  k : keysOk t ks = true
  r : RepL K w ds ℓ 0 us
  o : ownL ds = false
theorem MkOk.put {K : PySem.W.Frag} {w : Wd} {t : Bool} {ks ds : List D} {ℓ : Loc} {us : List V} (h : MkOk K w t ks ds ℓ us) {k d : D} {v : V} (hk : keyOk t k = true) (ho : d.own = false) (r : ∀ ℓ, Rep K w d ℓ v) : MkOk K w t (putKs t ks k) (putDs t ks k ds d) ℓ (putDs t ks k us v) :=
  ⟨putDs_len h.l, putKs_ok h.k hk, RepL.put h.r fun _ _ => r _, by
    have := h.o
    unfold putDs
    split
    · rw [ownL_iff] at this ⊢
      intro e he
      rcases List.mem_or_eq_of_mem_set he with he | rfl
      · exact this e he
      · exact ho
    · rw [ownL_append, this]; simp [ownL, ho]⟩
theorem mkT {K : PySem.W.Frag} {w : Wd} (wf : Wf w) {ℓ' : Loc} : ∀ {kvs : List (D × D)} {ℓ : Loc} {j : Nat} {vs : List V}, RepL K w (kvs.map fun p => D.tup false [p.1, p.2]) ℓ j vs → (∀ p ∈ kvs, keyOk true p.1 = true) →
    ∃ qs : List QT, vs = qs.map (fun q => V.ref q.1) ∧ (∀ q : QT, q ∈ qs → SqT K w.H q.1 [.ref q.2.2.1, q.2.2.2] ∧ w.H q.2.2.1 = some (.tup (q.2.1.map kV))) ∧
      ∀ ks ds us, MkOk K w true ks ds ℓ' us → ∃ us', qs.foldl (fun (acc : List (List Key × V)) (q : QT) => putK acc q.2.1 q.2.2.2) ((ks.map tkey).zip us) = ((mkS true ks ds kvs).1.map tkey).zip us' ∧ MkOk K w true (mkS true ks ds kvs).1 (mkS true ks ds kvs).2 ℓ' us'
  | [], ℓ, j, vs, h, _ => by
    simp only [List.map_nil, RepL] at h
    subst h
    exact ⟨[], rfl, fun q hq => (nomatch hq), fun ks ds us ok => ⟨us, rfl, ok⟩⟩
  | p :: kvs, ℓ, j, vs, h, hk => by
    simp only [List.map_cons, RepL] at h
    obtain ⟨v, r, rfl, h1, h2⟩ := h
    obtain ⟨qs, rfl, g1, g2⟩ := mkT wf (ℓ' := ℓ') h2 fun z hz => hk z (List.mem_cons_of_mem _ hz)
    have hz := (tup_sz h1).2 rfl
    simp only [ownL, Bool.or_false, Bool.or_eq_false_iff] at hz
    obtain ⟨T, ws, rfl, ht, hr⟩ := tup_at wf h1
    simp only [RepL] at hr
    obtain ⟨vk, r1, rfl, rk, vd, r2, rfl, rd, rfl⟩ := hr
    obtain ⟨b, rfl, hb⟩ := rep_tkey wf rk (hk p List.mem_cons_self)
    refine ⟨(T, tkey p.1, b, vd) :: qs, rfl, fun q hq => ?_, fun ks ds us ok => ?_⟩
    · rcases List.mem_cons.mp hq with rfl | hq
      · exact ⟨SqT.of ht, hb⟩
      · exact g1 q hq
    · have ok1 := ok.put (d := p.2) (v := vd) (hk p List.mem_cons_self) hz.2 fun ℓ2 => rd.free (Same.refl _) p.2 hz.2
      obtain ⟨us', e1, e2⟩ := g2 _ _ _ ok1
      refine ⟨us', ?_, e2⟩
      have e3 := dHO_put (t := true) (k := p.1) (v := vd) ok.l ok.k
      rw [if_pos rfl] at e3
      have e4 : ((putKs true ks p.1).map tkey).zip (putDs true ks p.1 us vd) = putK ((ks.map tkey).zip us) (tkey p.1) vd := by injection e3
      rw [List.foldl_cons]
      show qs.foldl _ (putK ((ks.map tkey).zip us) (tkey p.1) vd) = _
      rw [← e4]
      exact e1
theorem mkK {K : PySem.W.Frag} {w : Wd} (wf : Wf w) {ℓ' : Loc} : ∀ {kvs : List (D × D)} {ℓ : Loc} {j : Nat} {vs : List V}, RepL K w (kvs.map fun p => D.tup false [p.1, p.2]) ℓ j vs → (∀ p ∈ kvs, keyOk false p.1 = true) →
    ∃ (ps : List Addr) (qs : List (Key × V)), vs = ps.map V.ref ∧ Paired (fun p kv => SqT K w.H p [kV kv.1, kv.2]) ps qs ∧
      ∀ ks ds us, MkOk K w false ks ds ℓ' us → ∃ us', mergeK ((ks.map skey).zip us) qs = ((mkS false ks ds kvs).1.map skey).zip us' ∧ MkOk K w false (mkS false ks ds kvs).1 (mkS false ks ds kvs).2 ℓ' us'
  | [], ℓ, j, vs, h, _ => by
    simp only [List.map_nil, RepL] at h
    subst h
    exact ⟨[], [], rfl, .nil, fun ks ds us ok => ⟨us, rfl, ok⟩⟩
  | p :: kvs, ℓ, j, vs, h, hk => by
    simp only [List.map_cons, RepL] at h
    obtain ⟨v, r, rfl, h1, h2⟩ := h
    obtain ⟨ps, qs, rfl, g1, g2⟩ := mkK wf (ℓ' := ℓ') h2 fun z hz => hk z (List.mem_cons_of_mem _ hz)
    have hz := (tup_sz h1).2 rfl
    simp only [ownL, Bool.or_false, Bool.or_eq_false_iff] at hz
    obtain ⟨T, ws, rfl, ht, hr⟩ := tup_at wf h1
    simp only [RepL] at hr
    obtain ⟨vk, r1, rfl, rk, vd, r2, rfl, rd, rfl⟩ := hr
    have ek := rep_skey rk (hk p List.mem_cons_self)
    subst ek
    refine ⟨T :: ps, (skey p.1, vd) :: qs, rfl, .cons (SqT.of ht) g1, fun ks ds us ok => ?_⟩
    have ok1 := ok.put (d := p.2) (v := vd) (hk p List.mem_cons_self) hz.2 fun ℓ2 => rd.free (Same.refl _) p.2 hz.2
    obtain ⟨us', e1, e2⟩ := g2 _ _ _ ok1
    refine ⟨us', ?_, e2⟩
    have e3 := dHO_put (t := false) (k := p.1) (v := vd) ok.l ok.k
    rw [if_neg Bool.false_ne_true] at e3
    have e4 : ((putKs false ks p.1).map skey).zip (putDs false ks p.1 us vd) = putK ((ks.map skey).zip us) (skey p.1) vd := by injection e3
    show mergeK (putK ((ks.map skey).zip us) (skey p.1) vd) qs = _
    rw [← e4]
    exact e1
/-- dict(pairs); t: the keys are tuples -/
def dDictP (t : Bool) : DC
  | [.lst o ps], Q => o.light = true ∧ ∃ kvs : List (D × D), ps = kvs.map (fun p => D.tup false [p.1, p.2]) ∧ (∀ p ∈ kvs, keyOk t p.1 = true) ∧ Q (.dct .flat t (mkS t [] [] kvs).1 (mkS t [] [] kvs).2)
  | _, _ => False
theorem EndE.ownD {K : PySem.W.Frag} {τ : Nat} {w : Wd} {σ : Sl} {ρ : En} {t : Bool} {ks ds : List D} {us : List V} (st : StE K w σ ρ) {p : Addr} (n : w.H p = none) (h : MkOk K w t ks ds [τ] us) : EndE K τ w σ ρ ρ (w.new p [τ] (dHO t ks us)) ∧ Rep K (w.new p [τ] (dHO t ks us)) (.dct .flat t ks ds) [τ] (.ref p) := by
  refine ⟨.new st n (by cases t <;> trivial), ?_⟩
  rw [rep_inner rfl]
  refine ⟨p, us, rfl, ?_, ⟨h.l, h.k, fun _ => h.o⟩, RepL.to (w := w) (w' := w.new p [τ] (dHO t ks us)) (Same.refl _) ds (new_kept st.wf n) h.r⟩
  refine ⟨?_, upd_same⟩
  show (if p = p then _ else _) = _
  rw [if_pos rfl]
section
variable {X : Cx}
theorem mk_nil {K : PySem.W.Frag} {w : Wd} {t : Bool} {ℓ : Loc} : MkOk K w t [] [] ℓ [] := ⟨rfl, by cases t <;> simp [keysOk], by simp [RepL], rfl⟩
theorem fc_dictPT (hu : X.A.units + 2 < cLine) (hc : X.calm = true := by rfl) : FC X (.type "dict") (dDictP true) := by
  refine ⟨_, call_dictPT hc hu, fun τ w σ ρ vs ds Q Qv hn st rs hd hq => ?_⟩
  unfold dDictP at hd
  split at hd
  · rename_i o ps
    obtain ⟨ho, kvs, rfl, hk, q⟩ := hd
    obtain ⟨v, ℓ, rfl, r⟩ := reps1 rs
    obtain ⟨a, us, rfl, h1, h2⟩ := lst_at st.wf r
    obtain ⟨qs, rfl, g1, g2⟩ := mkT st.wf (ℓ' := [τ]) h2 hk
    obtain ⟨us', e1, ok⟩ := g2 [] [] [] mk_nil
    refine ⟨a, qs, rfl, SqL.of h1, g1, fun p n => ?_⟩
    obtain ⟨e2, r2⟩ := EndE.ownD st n ok
    have e3 : HO.dT (mergeT qs) = dHO true (mkS true [] [] kvs).1 us' := congrArg HO.dT e1
    rw [e3]
    exact hq _ _ _ q e2 r2
  · exact hd.elim
theorem fc_dictPK (hc : X.calm = true := by rfl) : FC X (.type "dict") (dDictP false) := by
  refine ⟨_, call_dictP hc, fun τ w σ ρ vs ds Q Qv hn st rs hd hq => ?_⟩
  unfold dDictP at hd
  split at hd
  · rename_i o ps
    obtain ⟨ho, kvs, rfl, hk, q⟩ := hd
    obtain ⟨v, ℓ, rfl, r⟩ := reps1 rs
    obtain ⟨a, us, rfl, h1, h2⟩ := lst_at st.wf r
    obtain ⟨ps, qs, rfl, g1, g2⟩ := mkK st.wf (ℓ' := [τ]) h2 hk
    obtain ⟨us', e1, ok⟩ := g2 [] [] [] mk_nil
    refine ⟨a, ps, qs, rfl, SqL.of h1, g1, fun p n => ?_⟩
    obtain ⟨e2, r2⟩ := EndE.ownD st n ok
    have e3 : HO.dK (mergeK [] qs) = dHO false (mkS false [] [] kvs).1 us' := congrArg HO.dK e1
    rw [e3]
    exact hq _ _ _ q e2 r2
  · exact hd.elim
end
end FL
/-! FL29: dicts walked (under a lock). -/
namespace FL
open PySem PySem.Spec PyProof.Rows L2 RT
/-- two worlds that differ in a dict's lock -/
structure Sw (w w' : Wd) (a : Addr) (u : HO) : Prop where
  du : ∃ t ks vs, u = dHO t ks vs
  G : w'.G = w.G
  S : ∀ b, b ≠ a → w'.S b = w.S b
  H : ∀ b, b ≠ a → w'.H b = w.H b
  r : Rd w.S a u
  r' : Rd w'.S a u
  e : w'.H a = w'.S a
def plainHO : HO → Bool
  | .tup _ => true
  | .lst _ => true
  | .ins _ _ _ => true
  | .frz _ (.tup _) => true
  | .frz _ (.lst _) => true
  | _ => false
section
variable {K : PySem.W.Frag} {w w' : Wd} {a : Addr} {u : HO}
theorem Sw.ne (h : Sw w w' a u) {b : Addr} {o : HO} (e : w.S b = some o) (ho : plainHO o = true) : b ≠ a := fun z => by
  subst z
  obtain ⟨t, ks, vs, rfl⟩ := h.du
  rcases h.r with r | ⟨x, r⟩
  · rw [e] at r
    cases r
    cases t <;> cases ho
  · rw [e] at r
    cases r
    cases t <;> cases ho
theorem Sw.neG (h : Sw w w' a u) (wf : Wf w) {b : Addr} {ℓ : Loc} (e : w.G b = some ℓ) : b ≠ a := fun z => by
  subst z
  have := (wf.tg _ _ e).1
  rcases h.r with r | ⟨x, r⟩ <;> rw [this] at r <;> cases r
theorem Nd.sw (h : Sw w w' a u) (wf : Wf w) {d : D} {ℓ : Loc} {b : Addr} {vs : List V} (n : Nd K w d ℓ b vs) : Nd K w' d ℓ b vs := by
  have own : ∀ {o : Ow} {x : HO}, plainHO x = true → (if o.mine then w.G b = some ℓ ∧ w.H b = some x else w.S b = some x) → if o.mine then w'.G b = some ℓ ∧ w'.H b = some x else w'.S b = some x := fun {o x} hx n => by
    cases e : o.mine with
    | true =>
      rw [e] at n
      exact ⟨by rw [h.G]; exact n.1, by rw [h.H b (h.neG wf n.1)]; exact n.2⟩
    | false =>
      rw [e] at n
      exact (h.S b (h.ne n hx)).trans n
  cases d with
  | tup o ds => exact (h.S b (h.ne n rfl)).trans n
  | lst o ds => exact own rfl n
  | ro t ds =>
    have rd : ∀ {x : HO}, plainHO x = true → plainHO (.frz default x) = true → (∀ o, plainHO (.frz o x) = true) → Rd w.S b x → Rd w'.S b x := fun h1 _ h3 r => by
      rcases r with r | ⟨o, r⟩
      · exact .inl ((h.S b (h.ne r h1)).trans r)
      · exact .inr ⟨o, (h.S b (h.ne r (h3 o))).trans r⟩
    cases t with
    | true =>
      rcases n with n | n
      · exact .inl (rd rfl rfl (fun _ => rfl) n)
      · exact .inr n
    | false =>
      rcases n with n | n
      · exact .inl (rd rfl rfl (fun _ => rfl) n)
      · exact .inr n
  | dct o t ks ds =>
    simp only [Nd] at n ⊢
    cases e : o.mine with
    | true =>
      rw [e] at n
      exact ⟨by rw [h.G]; exact n.1, by rw [h.H b (h.neG wf n.1)]; exact n.2⟩
    | false =>
      rw [e] at n
      have n : Rd w.S b (dHO t ks vs) := n
      by_cases hb : b = a
      · subst hb
        have eu : dHO t ks vs = u := by
          obtain ⟨t', ks', vs', rfl⟩ := h.du
          have fz : ∀ x t ks vs t' ks' vs', (dHO t ks vs) ≠ .frz x (dHO t' ks' vs') := fun x t ks vs t' ks' vs' z => by cases t <;> cases z
          rcases n with n | ⟨x, n⟩ <;> rcases h.r with r | ⟨y, r⟩ <;> rw [n] at r
          · exact Option.some.inj r
          · exact absurd (Option.some.inj r) (fz _ _ _ _ _ _ _)
          · exact absurd (Option.some.inj r).symm (fz _ _ _ _ _ _ _)
          · have := Option.some.inj r
            injection this
        show Rd w'.S b (dHO t ks vs)
        rw [eu]; exact h.r'
      · rcases n with n | ⟨x, n⟩
        · exact .inl ((h.S b hb).trans n)
        · exact .inr ⟨x, (h.S b hb).trans n⟩
  | ins o C fs ds => obtain ⟨dx, n⟩ := n; exact ⟨dx, own rfl n⟩
  | _ => exact n.elim
mutual
theorem Rep.sw (h : Sw w w' a u) (wf : Wf w) : ∀ (d : D) {ℓ : Loc} {v : V}, Rep K w d ℓ v → Rep K w' d ℓ v
  | .any, _, _, r => leaf_rep rfl r
  | .non, _, _, r => leaf_rep rfl r
  | .bl _, _, _, r => leaf_rep rfl r
  | .int _, _, _, r => leaf_rep rfl r
  | .str _, _, _, r => leaf_rep rfl r
  | .obj _, _, _, r => leaf_rep rfl r
  | .ty _, _, _, r => leaf_rep rfl r
  | .tup o ds, ℓ, v, r => by
    rw [rep_inner rfl] at r ⊢
    obtain ⟨b, vs, e, h1, hz, h2⟩ := r
    exact ⟨b, vs, e, h1.sw h wf, hz, RepL.sw h wf ds h2⟩
  | .lst o ds, ℓ, v, r => by
    rw [rep_inner rfl] at r ⊢
    obtain ⟨b, vs, e, h1, hz, h2⟩ := r
    exact ⟨b, vs, e, h1.sw h wf, hz, RepL.sw h wf ds h2⟩
  | .ro t ds, ℓ, v, r => by
    rw [rep_inner rfl] at r ⊢
    obtain ⟨b, vs, e, h1, hz, h2⟩ := r
    exact ⟨b, vs, e, h1.sw h wf, hz, RepL.sw h wf ds h2⟩
  | .dct o t ks ds, ℓ, v, r => by
    rw [rep_inner rfl] at r ⊢
    obtain ⟨b, vs, e, h1, hz, h2⟩ := r
    exact ⟨b, vs, e, h1.sw h wf, hz, RepL.sw h wf ds h2⟩
  | .ins o C fs ds, ℓ, v, r => by
    rw [rep_inner rfl] at r ⊢
    obtain ⟨b, vs, e, h1, hz, h2⟩ := r
    exact ⟨b, vs, e, h1.sw h wf, hz, RepL.sw h wf ds h2⟩
theorem RepL.sw (h : Sw w w' a u) (wf : Wf w) : ∀ (ds : List D) {ℓ : Loc} {j : Nat} {vs : List V}, RepL K w ds ℓ j vs → RepL K w' ds ℓ j vs
  | [], _, _, _, r => by simpa [RepL] using r
  | d :: ds, ℓ, j, vs, r => by
    simp only [RepL] at r ⊢
    obtain ⟨v, us, e, h1, h2⟩ := r
    exact ⟨v, us, e, Rep.sw h wf d h1, RepL.sw h wf ds h2⟩
end
theorem Sw.wf (h : Sw w w' a u) (wf : Wf w) : Wf w' := ⟨fun b o e => by
    by_cases hb : b = a
    · subst hb; rw [h.e]; exact e
    · rw [h.S b hb] at e; rw [h.H b hb]; exact wf.sh b o e, fun b ℓ e => by
    rw [h.G] at e
    have hb := h.neG wf e
    rw [h.S b hb, h.H b hb]; exact wf.tg b ℓ e⟩
theorem StE.sw {σ : Sl} {ρ : En} (h : Sw w w' a u) (st : StE K w σ ρ) : StE K w' σ ρ := ⟨h.wf st.wf, st.len, fun i d e => by
  obtain ⟨v, e1, r⟩ := st.rep i d e
  exact ⟨v, e1, Rep.sw h st.wf d r⟩⟩
/-- the lock laid on -/
def Wd.lock (w : Wd) (a : Addr) (od : Obj) (u : HO) : Wd := ⟨w.G, upd w.S a (.frz od u), upd w.H a (.frz od u)⟩
/-- .. taken off -/
def Wd.unlock (w : Wd) (a : Addr) (u : HO) : Wd := ⟨w.G, upd w.S a u, upd w.H a u⟩
theorem sw_lock {od : Obj} (du : ∃ t ks vs, u = dHO t ks vs) (e : w.S a = some u) : Sw w (w.lock a od u) a u := ⟨du, rfl, fun b hb => upd_ne hb, fun b hb => upd_ne hb, .inl e, .inr ⟨od, upd_same⟩, by show upd w.H a _ a = upd w.S a _ a; rw [upd_same, upd_same]⟩
theorem sw_unlock {od : Obj} (du : ∃ t ks vs, u = dHO t ks vs) (e : w.S a = some (.frz od u)) : Sw w (w.unlock a u) a u := ⟨du, rfl, fun b hb => upd_ne hb, fun b hb => upd_ne hb, .inr ⟨od, e⟩, .inl upd_same, by show upd w.H a _ a = upd w.S a _ a; rw [upd_same, upd_same]⟩
/-- what holds between a world and a later one of the locked world, unlocked -/
theorem ext_lock {n τ : Nat} {od : Obj} (wf : Wf w) (du : ∃ t ks vs, u = dHO t ks vs) (e : w.S a = some u) {w3 : Wd} (x : Ext n τ (w.lock a od u) w3) : Ext n τ w (w3.unlock a u) := by
  have sw := sw_lock (od := od) du e
  refine ⟨fun b o eb => ?_, fun b ℓ g f => ?_⟩
  · by_cases hb : b = a
    · subst hb
      rw [e] at eb; cases eb
      exact upd_same
    · show upd w3.S a u b = some o
      rw [upd_ne hb]
      refine x.s b o ?_
      show upd w.S a _ b = some o
      rw [upd_ne hb]; exact eb
  · have hb := sw.neG wf g
    obtain ⟨h1, h2⟩ := x.f b ℓ g f
    refine ⟨h1, ?_⟩
    show upd w3.H a u b = w.H b
    rw [upd_ne hb, h2]
    exact upd_ne hb
end
/-! ### two readings of one text -/
theorem pe_or {X : Cx} {e : Expr} {t u : TE} (h : PE X e t) (k : PE X e u) : PE X e (fun σ H Q => t σ H Q ∨ u σ H Q) :=
  ⟨fun pins s σ H Q I q => q.elim (h.run pins s σ H Q I) (k.run pins s σ H Q I)⟩
theorem ps_or {X : Cx} {e : Stmt} {t u : TS} (h : PS X e t) (k : PS X e u) : PS X e (fun D σ H => t D σ H ∨ u D σ H) :=
  ⟨fun pins s σ H D I q => q.elim (h.run pins s σ H D I) (k.run pins s σ H D I)⟩
/-! ### the keys of the dict in slot i -/
def rItK (i : Nat) : RI := fun ρ _ Q => match ρ[i]? with
  | some (some (.dct _ t ks _)) => ownL ks = false ∧ (∀ k ∈ ks, k.kids.length ≤ 1000) ∧ ks.length ≤ sizeLine ∧ Q ks ρ
  | _ => False
/-- slot i holds a locked dict -/
def LkS (i : Nat) : LW := fun w σ _ => ∃ (a : Addr) (od : Obj) (t : Bool) (ks : List D) (vs : List V), σ[i]? = some (some (.ref a)) ∧ w.S a = some (.frz od (dHO t ks vs))
theorem dHO_inj {t t' : Bool} {ks ks' : List D} {vs vs' : List V} {w : Wd} {a : Addr} {od : Obj} (h : Rd w.S a (dHO t ks vs)) (e : w.S a = some (.frz od (dHO t' ks' vs'))) : dHO t' ks' vs' = dHO t ks vs := by
  rcases h with h | ⟨x, h⟩
  · rw [e] at h
    cases t <;> cases h
  · rw [e] at h
    have h := Option.some.inj h
    injection h
theorem it_keys {K : PySem.W.Frag} {w : Wd} {a : Addr} {od : Obj} {t : Bool} {ks : List D} {vs : List V} (e : w.S a = some (.frz od (dHO t ks vs))) (hl : ks.length = vs.length) (hks : keysOk t ks = true) (ho : ownL ks = false) (hz : ∀ k ∈ ks, k.kids.length ≤ 1000) :
    ItOk K (match t with | true => Itkt a od ((ks.map tkey).zip vs) | false => Itk a od ((ks.map skey).zip vs)) ks w := by
  have hK : ∀ k ∈ ks, keyOk t k = true := fun k hk => by
    unfold keysOk at hks
    simp only [Bool.and_eq_true] at hks
    exact List.all_eq_true.mp hks.1 k hk
  cases t with
  | false =>
    intro i w1 wf1 sm
    have eH : w1.H a = some (.frz od (.dK ((ks.map skey).zip vs))) := wf1.sh _ _ (sm _ _ e)
    have zl : ((ks.map skey).zip vs).length = ks.length := by rw [List.length_zip, List.length_map]; omega
    refine ⟨fun d ed => ?_, fun hi => ⟨eH, by omega⟩⟩
    have hi := (List.getElem?_eq_some_iff.mp ed).1
    have hm := List.mem_of_getElem? ed
    refine ⟨⟨eH, by omega⟩, fun x H' y => ?_⟩
    obtain ⟨rfl, k, v, ek, rfl⟩ := y
    obtain ⟨h1, h2⟩ := List.getElem?_zip_eq_some.mp ek
    rw [List.getElem?_map, ed] at h1
    cases h1
    exact ⟨w1, rfl, .refl wf1, ownL_iff.mp ho d hm, fun ℓ => skey_rep (hK d hm)⟩
  | true =>
    intro i w1 wf1 sm
    have eH : w1.H a = some (.frz od (.dT ((ks.map tkey).zip vs))) := wf1.sh _ _ (sm _ _ e)
    have zl : ((ks.map tkey).zip vs).length = ks.length := by rw [List.length_zip, List.length_map]; omega
    refine ⟨fun d ed => ?_, fun hi => ⟨eH, by omega⟩⟩
    have hi := (List.getElem?_eq_some_iff.mp ed).1
    have hm := List.mem_of_getElem? ed
    refine ⟨⟨eH, by omega⟩, fun x H' y => ?_⟩
    obtain ⟨rfl, k, v, q, ek, rfl, hq⟩ := y
    obtain ⟨h1, h2⟩ := List.getElem?_zip_eq_some.mp ek
    rw [List.getElem?_map, ed] at h1
    cases h1
    have kT := hK d hm
    have kz := hz d hm
    have ko := ownL_iff.mp ho d hm
    have hall : ∀ b ∈ [q], ∃ vs, w1.H b = some (.tup vs) := fun b hb => by
      have : b = q := by simpa using hb
      subst this; exact ⟨_, hq⟩
    refine ⟨w1.adopt [q], rfl, ⟨wf1.adopt hall, adopt_same wf1, fun ℓ a s e => ⟨e, rfl⟩⟩, ko, fun ℓ => ?_⟩
    cases d with
    | tup o' cs =>
      have ko : o' = false := ko
      subst ko
      have kT : cs.all isSKey = true := kT
      have kz : cs.length ≤ 1000 := kz
      simp only [Rep]
      refine ⟨q, (cs.map skey).map kV, rfl, ?_, ⟨by rw [sizeLine_eq]; omega, fun _ => skeys_own kT⟩, skeys_rep kT⟩
      show (if q ∈ [q] then w1.H q else w1.S q) = _
      rw [if_pos (List.mem_singleton.mpr rfl)]
      exact hq
    | _ => cases kT
section
variable {X : Cx} {W : WX} {M : List Nat} {pos : Pos}
theorem fi_keys {i : Nat} {x : Str} {tg : Expr} (hN : X.N[i]? = some x := by rfl) (hv : Vis X.env.scope x := by first | exact Or.inl rfl | exact Or.inr (Or.inl rfl) | exact Or.inr (Or.inr rfl)) (hd : (x == ("__debug__" : Str)) = false := by decide)
    (hcd : (x == ("__classdict__" : Str)) = false := by decide) : ∃ wi, PI X tg (.Name x pos) wi ∧ SIL X.K W (LkS i) wi (rItK i) := by
  refine ⟨_, pi_keys (pe_var hN hv hd hcd), fun τ w σ ρ E Q R hL hn st hr hq hx => ?_⟩
  unfold rItK at hr
  split at hr
  · rename_i o t ks ds e
    obtain ⟨ho, hz, hzl, q⟩ := hr
    obtain ⟨a, od, t', ks', vs', ev, eS⟩ := hL
    obtain ⟨v, e1, r⟩ := st.rep i _ e
    rw [ev] at e1
    cases e1
    obtain ⟨b, us, eb, h1, h2, h3⟩ := (rep_inner rfl).mp r
    cases eb
    have ice : Rd w.S a (dHO t ks us) := by
      simp only [Nd] at h1
      cases em : o.mine with
      | true =>
        rw [em] at h1
        have := (st.wf.tg _ _ h1.1).1
        rw [eS] at this; cases this
      | false => rw [em] at h1; exact h1
    rw [dHO_inj ice eS] at eS
    have io := it_keys (K := X.K) eS h2.1 h2.2.1 ho hz
    have eH := st.wf.sh _ _ eS
    refine ⟨_, ev, a, od, rfl, ?_⟩
    cases t with
    | false => exact .inl ⟨_, eH, hq ks ρ w _ q hzl (.refl st) io⟩
    | true => exact .inr ⟨_, eH, hq ks ρ w _ q hzl (.refl st) io⟩
  · exact hr.elim
end
/-- the dict in slot i is frozen -/
def onIce (i : Nat) (ρ : En) (k : En → Prop) : Prop := match ρ[i]? with
  | some (some (.dct o t ks ds)) => nf (ρ.set i (some (D.dct o t ks ds).frz)) k
  | _ => False
theorem onIce_elim {i : Nat} {ρ : En} {k : En → Prop} (h : onIce i ρ k) : ∃ d o t ks ds, ρ[i]? = some (some d) ∧ d = .dct o t ks ds ∧ k (ρ.set i (some d.frz)) := by
  unfold onIce at h
  split at h
  · rename_i o t ks ds e
    exact ⟨_, _, _, _, _, e, rfl, nf_of h⟩
  · exact h.elim
theorem frz_dct {o : Ow} {t : Bool} {ks ds : List D} : ∃ ds', (D.dct o t ks ds).frz = .dct .ice t ks ds' := by
  cases o <;> exact ⟨_, rfl⟩
/-- slot i frozen: a dict, locked or not -/
theorem ice_dct {K : PySem.W.Frag} {w : Wd} {σ : Sl} {ρ : En} {τ i : Nat} {k : En → Prop} (hn : ρ.length < τ) (st : StE K w σ ρ) (h : onIce i ρ k) :
    ∃ w' ρ' a t ks vs, w'.H = w.H ∧ EndE K τ w σ ρ ρ' w' ∧ k ρ' ∧ σ[i]? = some (some (.ref a)) ∧ Rd w'.S a (dHO t ks vs) := by
  obtain ⟨d, o, t, ks, ds, e, ed, hk⟩ := onIce_elim h
  obtain ⟨v, ev, _⟩ := st.rep i d e
  obtain ⟨w', e0, e2, r2⟩ := ice_slot hn st e ev
  have r := r2 []
  rw [ed] at r
  obtain ⟨ds', ef⟩ := frz_dct (o := o) (t := t) (ks := ks) (ds := ds)
  rw [ef] at r
  obtain ⟨b, us, rfl, h1, _⟩ := (rep_inner rfl).mp r
  exact ⟨w', _, b, t, ks, us, e0, e2, hk, ev, h1⟩
section
variable {K : PySem.W.Frag} {W : WX} {M : List Nat}
theorem mut_dHO {t : Bool} {ks : List D} {vs : List V} : Mut (some (dHO t ks vs)) := by cases t <;> trivial
theorem sx0 {τ : Nat} {w : Wd} {σ : Sl} {ρ : En} : SX K W τ w σ ρ E0D := fun _ _ _ _ _ h => h.elim
theorem se_lock {i : Nat} {t : TE} {r : RE} (h : SEL K W (LkS i) t r) : SE K W (fun σ H Q => t σ H Q ∨ tLockE t σ H Q) (fun ρ _ Q => onIce i ρ fun ρ' => r ρ' E0D Q) := by
  intro τ w σ ρ E Q Qv hn st hr hq hx
  obtain ⟨w1, ρ1, a, tt, ks, vs, e0, e1, hk, ev, rd⟩ := ice_dct (K := K) hn st hr
  have hn1 : ρ1.length < τ := by rw [e1.len]; exact hn
  rw [← e0]
  rcases rd with rd | ⟨od, rd⟩
  · refine .inr ⟨a, _, e1.st.wf.sh _ _ rd, mut_dHO, fun od => ?_⟩
    have sw := sw_lock (od := od) ⟨tt, ks, vs, rfl⟩ rd
    refine h τ (w1.lock a od (dHO tt ks vs)) σ ρ1 E0D _ _ ⟨a, od, tt, ks, vs, ev, upd_same⟩ hn1 (e1.st.sw sw) hk (fun d ρ2 w2 v q e2 r2 => ?_) sx0
    have hS : w2.S a = some (.frz od (dHO tt ks vs)) := e2.ext.s _ _ upd_same
    have su := sw_unlock ⟨tt, ks, vs, rfl⟩ hS
    refine ⟨e2.st.wf.sh _ _ hS, ?_⟩
    refine hq d ρ2 (w2.unlock a (dHO tt ks vs)) v q (e1.trans (τ' := τ) ⟨e2.len, e2.st.sw su, ext_lock e1.st.wf ⟨tt, ks, vs, rfl⟩ rd e2.ext⟩ (Nat.le_refl _)) (Rep.sw su e2.st.wf d r2)
  · exact .inl (h τ w1 σ ρ1 E0D _ _ ⟨a, od, tt, ks, vs, ev, rd⟩ hn1 e1.st hk (fun d ρ2 w2 v q e2 r2 => hq d ρ2 w2 v q (e1.trans e2 (Nat.le_refl _)) r2) sx0)
theorem ss_lock {i : Nat} {t : TS} {r : RS} (h : SSL K W (LkS i) M t r) : SS K W M (fun D σ H => t D σ H ∨ tLock t D σ H) (fun ρ _ F => onIce i ρ fun ρ' => r ρ' E0D F) := by
  intro w σ ρ E F D st hr hf
  obtain ⟨w1, ρ1, a, tt, ks, vs, e0, e1, hk, ev, rd⟩ := ice_dct (K := K) (Nat.lt_succ_self _) st hr
  have es := e1.s (M := M) (Nat.lt_succ_self _)
  have hf1 := hf.then es
  rw [← e0]
  rcases rd with rd | ⟨od, rd⟩
  · refine .inr ⟨a, _, e1.st.wf.sh _ _ rd, mut_dHO, fun od => ?_⟩
    have sw := sw_lock (od := od) ⟨tt, ks, vs, rfl⟩ rd
    have key : ∀ {ρ' : En} {w' : Wd} {σ' : Sl}, EndS K M (w1.lock a od (dHO tt ks vs)) σ ρ1 w' σ' ρ' → Wf w' ∧ w'.H a = some (.frz od (dHO tt ks vs)) ∧ Sw w' (w'.unlock a (dHO tt ks vs)) a (dHO tt ks vs) ∧ EndS K M w1 σ ρ1 (w'.unlock a (dHO tt ks vs)) σ' ρ' := fun {ρ' w' σ'} e2 => by
      have hS : w'.S a = some (.frz od (dHO tt ks vs)) := e2.ext.s _ _ upd_same
      have su := sw_unlock ⟨tt, ks, vs, rfl⟩ hS
      exact ⟨e2.st.wf, e2.st.wf.sh _ _ hS, su, ⟨e2.len, e2.st.sw su, ext_lock e1.st.wf ⟨tt, ks, vs, rfl⟩ rd e2.ext, e2.km⟩⟩
    refine h (w1.lock a od (dHO tt ks vs)) σ ρ1 E0D F _ ⟨a, od, tt, ks, vs, ev, upd_same⟩ (e1.st.sw sw) hk ⟨fun ρ' w' σ' q e => ?_, fun d ρ' w' σ' v q e r => ?_, fun ρ' w' σ' q e => ?_, fun ρ' w' σ' q e => ?_, fun _ _ _ _ _ _ h => h.elim⟩
    · obtain ⟨_, k2, _, k4⟩ := key e
      exact ⟨k2, hf1.nx ρ' _ σ' q k4⟩
    · obtain ⟨k1, k2, k3, k4⟩ := key e
      exact ⟨k2, hf1.rt d ρ' _ σ' v q k4 (Rep.sw k3 k1 d r)⟩
    · obtain ⟨_, k2, _, k4⟩ := key e
      exact ⟨k2, hf1.bk ρ' _ σ' q k4⟩
    · obtain ⟨_, k2, _, k4⟩ := key e
      exact ⟨k2, hf1.ct ρ' _ σ' q k4⟩
  · refine .inl (h w1 σ ρ1 E0D F _ ⟨a, od, tt, ks, vs, ev, rd⟩ e1.st hk ⟨hf1.nx, hf1.rt, hf1.bk, hf1.ct, fun _ _ _ _ _ _ h => h.elim⟩)
end
/-- [.. for x in d], d a dict -/
def rCompD (i : Nat) (rg : RG) (rt : RT) (re : RE) (vs : List Nat) : RE := fun ρ _ Q => onIce i ρ fun ρ' => rComp (rItK i) rg rt re vs ρ' E0D Q
/-- for x in d -/
def rForD (i : Nat) (rg : RG) (rb : RS) : RS := fun ρ _ F => onIce i ρ fun ρ' => rFor (rItK i) rg rb ρ' E0D F
section
variable {X : Cx} {W : WX} {M : List Nat} {pos : Pos}
theorem fe_lcD (i : Nat) (vs : List Nat) {elt tg : Expr} {x : Str} {ipos : Pos} {ifs : List Expr} {scope : Scope} {own : List (Str × Nat)} {rg : RG} {rt : RT} {re : RE} (hN : X.N.Nodup) (ok : BlkOk X.N X.env.scope scope own)
    (hg : ∀ c : BlkC, FG (Cx.blkC X scope c) vs tg rg) (ht : ∀ c : BlkC, FTs (Cx.blkC X scope c) W0 ifs rt) (he : ∀ c : BlkC, FE (Cx.blkC X scope c) W0 elt re) (hNi : X.N[i]? = some x := by rfl) (hvi : Vis X.env.scope x := by first | exact Or.inl rfl | exact Or.inr (Or.inl rfl) | exact Or.inr (Or.inr rfl)) (hd : (x == ("__debug__" : Str)) = false := by decide)
    (hcd : (x == ("__classdict__" : Str)) = false := by decide) (hv : own.map (·.2) = vs := by rfl) (hc : X.calm = true := by rfl) (hs : ∀ y, foldedSetIterable (.Name x ipos) X.env y = pure y := by intro _; rfl) :
    FE X W (.ListComp elt [⟨tg, .Name x ipos, ifs, 0⟩] scope pos) (rCompD i rg rt re vs) := by
  obtain ⟨wi, g, tt, te, p, pg, pt, pe, k⟩ := lc_exL (W := W) (LkS i) vs (fi_keys hNi hvi hd hcd) hg ht he
  have pl : PE X (.ListComp elt [⟨tg, .Name x ipos, ifs, 0⟩] scope pos) (tLc wi g tt te vs) := by rw [← hv]; exact pe_lc hc hN p ok (fun s H C cl fp => pg (s, H, C, cl, fp)) (fun s H C cl fp => pt (s, H, C, cl, fp)) (fun s H C cl fp => pe (s, H, C, cl, fp)) hs
  exact ⟨_, pe_or pl (pe_lock pl), se_lock k⟩
theorem fs_forD (i : Nat) (A : List Nat) {tg : Expr} {x : Str} {ipos : Pos} {body : List Stmt} {rg : RG} {rb : RS} (hp : PassesOwn (model X.prog X.w) X.A X.env X.xe) (hg : FG X A tg rg) (hb : FSs X W M body rb) (hNi : X.N[i]? = some x := by rfl) (hvi : Vis X.env.scope x := by first | exact Or.inl rfl | exact Or.inr (Or.inl rfl) | exact Or.inr (Or.inr rfl)) (hd : (x == ("__debug__" : Str)) = false := by decide)
    (hcd : (x == ("__classdict__" : Str)) = false := by decide) (hA : (M.all fun i => !A.contains i) = true := by rfl) (hc : X.calm = true := by rfl) (hs : ∀ y, foldedSetIterable (.Name x ipos) X.env y = pure y := by intro _; rfl) : FS X W M (.For tg (.Name x ipos) body [] pos) (rForD i rg rb) := by
  obtain ⟨t, p, k⟩ := fs_forL (LkS i) A hp (fi_keys hNi hvi hd hcd) hg hb hA hc hs
  exact ⟨_, ps_or p (ps_lock p), ss_lock k⟩
end
end FL
/-! FL30: a tuple and a tuple of owned parts, added. -/
namespace FL
open PySem PySem.Spec PyProof.Rows L2 RT
theorem hu2 {n : Nat} (h : n + 64 < cLine) : n + 2 < cLine := by omega
/-- a frozen tuple and a tuple at the next temporary, added -/
def rCatT (ra rb : RE) : RE := fun ρ E Q => ra ρ E fun dx ρ1 => rb ρ1 E fun dy ρ2 => match dx with
  | .tup false xs => match dy with
    | .tup o ys => xs.length + ys.length ≤ sizeLine ∧ ys.isEmpty = false ∧ Q (.tup o (xs ++ ys)) ρ2
    | _ => False
  | _ => False
/-- the parts of τ + 1 become τ's, from n on -/
def catT (τ n : Nat) : Loc → Option Loc
  | h :: j :: s => if h = τ + 1 then some (τ :: (n + j) :: s) else some (h :: j :: s)
  | [h] => some [h]
  | [] => some []
theorem catT_calm {m τ n : Nat} (h : m < τ) : Calm m τ (catT τ n) := ⟨fun a s q => by
  cases s with
  | nil => rfl
  | cons j s =>
    show (if _ then _ else _) = _
    rw [if_neg (by omega)]⟩
theorem reps_catT {K : PySem.W.Frag} {w : Wd} {ds : List D} {τ n : Nat} {vs : List V} (h : RepL K w ds [τ + 1] 0 vs) : RepL K (w.ren (catT τ n)) ds [τ] n vs := by
  refine RepL.of h.length fun i d v e1 e2 => ?_
  obtain ⟨v', e3, r⟩ := h.get e1
  rw [e2] at e3; cases e3
  rw [Nat.zero_add] at r
  refine r.ren fun s => ?_
  show (if _ then _ else _) = _
  rw [if_pos rfl]; rfl
section
variable {X : Cx} {W : WX} {a b : Expr} {ra rb : RE} {pos : Pos}
theorem fe_catT (ha : FE X W a ra) (hb : FE X W b rb) : FE X W (.BinOp a .Add b pos) (rCatT ra rb) := by
  obtain ⟨ta, pa, sa⟩ := ha.ex
  obtain ⟨tb, pb, sb⟩ := hb.ex
  refine ⟨_, pe_op op_catA pa pb, fun τ w σ ρ E Q Qv hn st hr hq hx => ?_⟩
  refine sa τ w σ ρ E _ _ hn st hr (fun dx ρ1 w1 v1 h1 e1 r1 => ?_) hx
  have hn1 : ρ1.length < τ + 1 := by rw [e1.len]; omega
  refine sb (τ + 1) w1 σ ρ1 E _ _ hn1 e1.st h1 (fun dy ρ2 w2 v2 h2 e2 r2 => ?_) (hx.then e1 (Nat.le_succ _))
  have e12 := e1.trans e2 (Nat.le_succ _)
  split at h2
  · rename_i xs
    split at h2
    · rename_i o ys
      obtain ⟨hz, hy, q⟩ := h2
      have ox := (tup_sz r1).2 rfl
      have r1 : Rep X.K w2 (.tup false xs) [τ] v1 := r1.free e2.ext.s _ rfl
      obtain ⟨a, vs, rfl, h1, hl⟩ := tup_at e12.st.wf r1
      have sz2 := tup_sz r2
      obtain ⟨b, us, rfl, k1, kl⟩ := tup_at e12.st.wf r2
      have l1 := hl.length
      have l2 := kl.length
      have er := EndE.ren (τ := τ) e12.st (catT_calm (n := xs.length) (by rw [e12.len]; exact hn))
      have rl : RepL X.K (w2.ren (catT τ xs.length)) (xs ++ ys) [τ] 0 (vs ++ us) := (RepL.free (w := w2) (w' := w2.ren (catT τ xs.length)) (ℓ := [τ]) (j := 0) (Same.refl _) xs ox hl).app (by rw [Nat.zero_add]; exact reps_catT kl)
      have hy' : us ≠ [] := fun z => by
        subst z
        cases ys with
        | nil => cases hy
        | cons _ _ => cases l2
      refine ⟨a, b, vs, us, rfl, rfl, SqT.of h1, SqT.of k1, by omega, fun z => ?_, fun _ z => absurd z hy', fun _ _ p n => ?_⟩
      · -- the first is empty: the second itself
        subst z
        have hx0 : xs = [] := List.length_eq_zero_iff.mp (by rw [← l1]; rfl)
        subst hx0
        have r3 : Rep X.K (w2.ren (catT τ 0)) (.tup o ys) [τ] (.ref b) := by
          simp only [Rep] at r2 ⊢
          obtain ⟨b', us', eb, g1, g2, g3⟩ := r2
          cases eb
          have : us' = us := by
            have := e12.st.wf.sh _ _ g1
            rw [k1] at this; cases this; rfl
          subst this
          exact ⟨b, us', rfl, g1, g2, reps_catT g3⟩
        exact hq (.tup o ys) ρ2 (w2.ren (catT τ 0)) _ q (e12.trans er (Nat.le_refl _)) r3
      · obtain ⟨e3, r3⟩ := EndE.tup (τ := τ) o er.st (p := p) n rl (by rw [List.length_append]; exact hz) (fun z => by
          subst z
          rw [ownL_iff]
          intro d hd
          rcases List.mem_append.mp hd with h | h
          · exact ownL_iff.mp ox d h
          · exact ownL_iff.mp (sz2.2 rfl) d h)
        exact hq _ ρ2 _ _ q ((e12.trans er (Nat.le_refl _)).trans e3 (Nat.le_refl _)) r3
    · exact h2.elim
  · exact h2.elim
end
end FL
/-! FL31: a name frozen for one expression only (lent to readers), and thawed. -/
namespace FL
open PySem PySem.Spec PyProof.Rows L2 RT
mutual
/-- no frozen node that could change: it is no part of what was lent -/
def D.clean : D → Bool
  | .tup _ ds => cleanL ds
  | .lst o ds => match o with
    | .ice => false
    | _ => cleanL ds
  | .ro t ds => match t with
    | true => cleanL ds
    | false => false
  | .dct o _ _ ds => match o with
    | .ice => false
    | _ => cleanL ds
  | .ins o _ _ ds => match o with
    | .ice => false
    | _ => cleanL ds
  | .any => true
  | .non => true
  | .bl _ => true
  | .int _ => true
  | .str _ => true
  | .obj _ => true
  | .ty _ => true
def cleanL : List D → Bool
  | [] => true
  | d :: ds => d.clean && cleanL ds
end
theorem cleanL_all {ds : List D} : cleanL ds = true ↔ ∀ d ∈ ds, d.clean = true := by
  induction ds with
  | nil => simp [cleanL]
  | cons d r ih => simp [cleanL, ih]
/-- w'' is w' but for some changeable shared nodes -/
structure Tw (w' w'' : Wd) : Prop where
  G : ∀ a ℓ, w'.G a = some ℓ → w''.G a = some ℓ
  S : ∀ a o, w'.S a = some o → ¬ Mut (some o) → w''.S a = some o
  H : w''.H = w'.H
section
variable {K : PySem.W.Frag} {w' w'' : Wd}
theorem Nd.thaw (h : Tw w' w'') {d : D} {ℓ : Loc} {a : Addr} {vs : List V} (hd : d.clean = true) (n : Nd K w' d ℓ a vs) : Nd K w'' d ℓ a vs := by
  cases d with
  | tup o ds => exact h.S _ _ n fun z => z.elim
  | lst o ds =>
    cases o with
    | ice => cases hd
    | flat => exact ⟨h.G _ _ n.1, by rw [h.H]; exact n.2⟩
    | deep => exact ⟨h.G _ _ n.1, by rw [h.H]; exact n.2⟩
  | ro t ds =>
    cases t with
    | false => cases hd
    | true =>
      rcases n with (n | ⟨o, n⟩) | n
      · exact .inl (.inl (h.S _ _ n fun z => z.elim))
      · exact .inl (.inr ⟨o, h.S _ _ n fun z => z.elim⟩)
      · exact .inr n
  | dct o t ks ds =>
    cases o with
    | ice => cases hd
    | flat => exact ⟨h.G _ _ n.1, by rw [h.H]; exact n.2⟩
    | deep => exact ⟨h.G _ _ n.1, by rw [h.H]; exact n.2⟩
  | ins o C fs ds =>
    obtain ⟨dx, n⟩ := n
    cases o with
    | ice => cases hd
    | flat => exact ⟨dx, h.G _ _ n.1, by rw [h.H]; exact n.2⟩
    | deep => exact ⟨dx, h.G _ _ n.1, by rw [h.H]; exact n.2⟩
  | _ => exact n.elim
theorem clean_kids {d : D} (h : d.clean = true) : cleanL d.kids = true := by
  cases d with
  | tup o ds => exact h
  | lst o ds => cases o <;> first | (cases h; done) | exact h
  | ro t ds => cases t <;> first | (cases h; done) | exact h
  | dct o t ks ds => cases o <;> first | (cases h; done) | exact h
  | ins o C fs ds => cases o <;> first | (cases h; done) | exact h
  | _ => rfl
mutual
theorem Rep.thaw (h : Tw w' w'') : ∀ (d : D) {ℓ : Loc} {v : V}, d.clean = true → Rep K w' d ℓ v → Rep K w'' d ℓ v
  | .any, _, _, _, r => leaf_rep rfl r
  | .non, _, _, _, r => leaf_rep rfl r
  | .bl _, _, _, _, r => leaf_rep rfl r
  | .int _, _, _, _, r => leaf_rep rfl r
  | .str _, _, _, _, r => leaf_rep rfl r
  | .obj _, _, _, _, r => leaf_rep rfl r
  | .ty _, _, _, _, r => leaf_rep rfl r
  | .tup o ds, ℓ, v, c, r => by
    rw [rep_inner rfl] at r ⊢
    obtain ⟨b, vs, e, h1, hz, h2⟩ := r
    exact ⟨b, vs, e, h1.thaw h c, hz, RepL.thaw h ds (clean_kids c) h2⟩
  | .lst o ds, ℓ, v, c, r => by
    rw [rep_inner rfl] at r ⊢
    obtain ⟨b, vs, e, h1, hz, h2⟩ := r
    exact ⟨b, vs, e, h1.thaw h c, hz, RepL.thaw h ds (clean_kids c) h2⟩
  | .ro t ds, ℓ, v, c, r => by
    rw [rep_inner rfl] at r ⊢
    obtain ⟨b, vs, e, h1, hz, h2⟩ := r
    exact ⟨b, vs, e, h1.thaw h c, hz, RepL.thaw h ds (clean_kids c) h2⟩
  | .dct o t ks ds, ℓ, v, c, r => by
    rw [rep_inner rfl] at r ⊢
    obtain ⟨b, vs, e, h1, hz, h2⟩ := r
    exact ⟨b, vs, e, h1.thaw h c, hz, RepL.thaw h ds (clean_kids c) h2⟩
  | .ins o C fs ds, ℓ, v, c, r => by
    rw [rep_inner rfl] at r ⊢
    obtain ⟨b, vs, e, h1, hz, h2⟩ := r
    exact ⟨b, vs, e, h1.thaw h c, hz, RepL.thaw h ds (clean_kids c) h2⟩
theorem RepL.thaw (h : Tw w' w'') : ∀ (ds : List D) {ℓ : Loc} {j : Nat} {vs : List V}, cleanL ds = true → RepL K w' ds ℓ j vs → RepL K w'' ds ℓ j vs
  | [], _, _, _, _, r => by simpa [RepL] using r
  | d :: ds, ℓ, j, vs, c, r => by
    simp only [cleanL, Bool.and_eq_true] at c
    simp only [RepL] at r ⊢
    obtain ⟨v, us, e, h1, h2⟩ := r
    exact ⟨v, us, e, Rep.thaw h d c.1 h1, RepL.thaw h ds c.2 h2⟩
end
end
/-- of slot i -/
def isOf (i : Nat) (o : Option Loc) : Bool := match o with
  | some (h :: _) => h == i + 1
  | _ => false
def Wd.thaw (w w' : Wd) (i : Nat) : Wd := ⟨fun a => if isOf i (w.G a) then w.G a else w'.G a, fun a => if isOf i (w.G a) then none else w'.S a, w'.H⟩
def iceS (i : Nat) : Loc → Bool := fun ℓ => match ℓ with | h :: _ => h == i + 1 | [] => false
theorem isOf_some {i : Nat} {o : Option Loc} (h : isOf i o = true) : ∃ s, o = some ((i + 1) :: s) := by
  unfold isOf at h
  split at h
  · rename_i x s
    have : x = i + 1 := by simpa using h
    subst this
    exact ⟨s, rfl⟩
  · cases h
section
variable {K : PySem.W.Frag} {w w' : Wd} {i : Nat}
theorem thaw_at (wf : Wf w) (wf' : Wf w') (hs : Same (w.ice (iceS i)).S w'.S) {a : Addr} (h : isOf i (w.G a) = true) : w.S a = none ∧ Mut (w.H a) ∧ w'.H a = w.H a ∧ w'.S a = w.H a ∧ w'.G a = none := by
  obtain ⟨s, e⟩ := isOf_some h
  obtain ⟨h1, h2⟩ := wf.tg _ _ e
  obtain ⟨o, eo⟩ : ∃ o, w.H a = some o := by
    cases q : w.H a with
    | none => rw [q] at h2; exact h2.elim
    | some o => exact ⟨o, rfl⟩
  have e1 : (w.ice (iceS i)).S a = some o := by
    show (match w.G a with | some ℓ => if iceS i ℓ then w.H a else w.S a | none => w.S a) = some o
    rw [e]
    show (if iceS i ((i + 1) :: s) then w.H a else w.S a) = some o
    rw [if_pos (by show (i + 1 == i + 1) = true; simp)]
    exact eo
  have e2 := hs _ _ e1
  refine ⟨h1, h2, by rw [wf'.sh _ _ e2, eo], by rw [e2, eo], ?_⟩
  cases q : w'.G a with
  | none => rfl
  | some ℓ =>
    have := (wf'.tg _ _ q).1
    rw [e2] at this; cases this
theorem thaw_wf (wf : Wf w) (wf' : Wf w') (hs : Same (w.ice (iceS i)).S w'.S) : Wf (w.thaw w' i) := by
  refine ⟨fun a o e => ?_, fun a ℓ e => ?_⟩
  · have e : (if isOf i (w.G a) then none else w'.S a) = some o := e
    split at e
    · cases e
    · exact wf'.sh _ _ e
  · have e : (if isOf i (w.G a) then w.G a else w'.G a) = some ℓ := e
    by_cases h : isOf i (w.G a) = true
    · obtain ⟨h1, h2, h3, h4, h5⟩ := thaw_at wf wf' hs h
      refine ⟨if_pos h, ?_⟩
      show Mut (w'.H a)
      rw [h3]; exact h2
    · rw [if_neg h] at e
      obtain ⟨h1, h2⟩ := wf'.tg _ _ e
      exact ⟨by show (if isOf i (w.G a) then none else w'.S a) = none; rw [if_neg h]; exact h1, h2⟩
theorem thaw_tw (wf : Wf w) (wf' : Wf w') (hs : Same (w.ice (iceS i)).S w'.S) : Tw w' (w.thaw w' i) := by
  refine ⟨fun a ℓ e => ?_, fun a o e m => ?_, rfl⟩
  · show (if isOf i (w.G a) then w.G a else w'.G a) = some ℓ
    by_cases h : isOf i (w.G a) = true
    · have := (thaw_at wf wf' hs h).2.2.2.2
      rw [e] at this; cases this
    · rw [if_neg h]; exact e
  · show (if isOf i (w.G a) then none else w'.S a) = some o
    by_cases h : isOf i (w.G a) = true
    · obtain ⟨_, h2, _, h4, _⟩ := thaw_at wf wf' hs h
      rw [h4] at e
      rw [e] at h2
      exact absurd h2 m
    · rw [if_neg h]; exact e
theorem thaw_same (wf : Wf w) (hs : Same (w.ice (iceS i)).S w'.S) : Same w.S (w.thaw w' i).S := fun a o e => by
  show (if isOf i (w.G a) then none else w'.S a) = some o
  by_cases h : isOf i (w.G a) = true
  · obtain ⟨s, g⟩ := isOf_some h
    rw [(wf.tg _ _ g).1] at e; cases e
  · rw [if_neg h]
    exact hs _ _ (ice_same wf _ _ e)
theorem thaw_ext {n τ : Nat} (wf : Wf w) (hi : i < n) (x : Ext n τ (w.ice (iceS i)) w') : Ext n τ w (w.thaw w' i) := by
  refine ⟨thaw_same wf x.s, fun a ℓ e f => ?_⟩
  obtain ⟨h, s, rfl, hh⟩ := f
  have hne : ¬ h = i + 1 := by omega
  have h0 : isOf i (w.G a) = false := by
    rw [e]
    show (h == i + 1) = false
    simpa using hne
  have e1 : (w.ice (iceS i)).G a = some (h :: s) := by
    show (match w.G a with | some ℓ => if iceS i ℓ then none else some ℓ | none => none) = _
    rw [e]
    show (if iceS i (h :: s) then none else some (h :: s)) = _
    rw [if_neg (by show ¬ (h == i + 1) = true; simpa using hne)]
  obtain ⟨g1, g2⟩ := x.f a _ e1 ⟨h, s, rfl, hh⟩
  refine ⟨?_, g2⟩
  show (if isOf i (w.G a) then w.G a else w'.G a) = _
  rw [h0]
  exact g1
/-- what the other names hold -/
def tw (a b : Option D) : Prop := match b with
  | none => True
  | some d => d.clean = true ∨ (d.own = false ∧ a = some d)
def twL : En → En → Prop
  | a :: ρ1, b :: ρ' => tw a b ∧ twL ρ1 ρ'
  | _, _ => True
theorem twL_at : ∀ {ρ1 ρ' : En} {j : Nat} {d : D}, ρ'.length = ρ1.length → twL ρ1 ρ' → ρ'[j]? = some (some d) → d.clean = true ∨ (d.own = false ∧ ρ1[j]? = some (some d))
  | [], [], j, d, _, _, e => by simp at e
  | a :: ρ1, b :: ρ', 0, d, _, h, e => by
    have e : b = some d := by simpa using e
    subst e
    rcases h.1 with h | ⟨h, h2⟩
    · exact .inl h
    · exact .inr ⟨h, by simpa using h2⟩
  | a :: ρ1, b :: ρ', j + 1, d, hl, h, e => twL_at (ρ1 := ρ1) (ρ' := ρ') (j := j) (by simpa using hl) h.2 (by simpa using e)
theorem thaw_st {σ : Sl} {ρ ρ' : En} {d : D} {v : V} {τ : Nat} (st : StE K w σ ρ) (ed : ρ[i]? = some (some d)) (ev : σ[i]? = some (some v)) (rv : Rep K w d [i + 1] v) (e : EndE K τ (w.ice (iceS i)) σ (ρ.set i (some d.frz)) ρ' w') (h : twL (ρ.set i (some d.frz)) ρ') :
    EndE K τ w σ ρ (ρ'.set i (some d)) (w.thaw w' i) := by
  have hi := (List.getElem?_eq_some_iff.mp ed).1
  have hl : ρ'.length = ρ.length := by have := e.len; rw [List.length_set] at this; exact this
  have wf' := e.st.wf
  have x : Ext ρ.length τ (w.ice (iceS i)) w' := by have := e.ext; rw [List.length_set] at this; exact this
  have twd := thaw_tw st.wf wf' x.s
  have sm := thaw_same st.wf x.s
  refine ⟨by rw [List.length_set]; exact hl, ⟨thaw_wf st.wf wf' x.s, by rw [List.length_set]; exact e.st.len, fun j d' e' => ?_⟩, thaw_ext st.wf hi x⟩
  by_cases hj : j = i
  · subst hj
    rw [List.getElem?_set_self (by rw [hl]; exact hi)] at e'
    cases e'
    refine ⟨v, ev, Rep.to (w := w) sm d (fun a s g => ?_) rv⟩
    have h1 : isOf j (w.G a) = true := by
      rw [g]
      show (j + 1 == j + 1) = true
      simp
    refine ⟨?_, (thaw_at st.wf wf' x.s h1).2.2.1⟩
    show (if isOf j (w.G a) then w.G a else w'.G a) = _
    rw [if_pos h1]; exact g
  · rw [List.getElem?_set_ne (Ne.symm hj)] at e'
    obtain ⟨u, eu, r⟩ := e.st.rep j d' e'
    refine ⟨u, eu, ?_⟩
    rcases twL_at e.len h e' with c | ⟨c, e1⟩
    · exact Rep.thaw twd d' c r
    · rw [List.getElem?_set_ne (Ne.symm hj)] at e1
      obtain ⟨u', eu', r'⟩ := st.rep j d' e1
      rw [eu] at eu'; cases eu'
      exact r'.free sm d' c
theorem ice_slot' {σ : Sl} {ρ : En} {d : D} {τ : Nat} (hn : ρ.length < τ) (st : StE K w σ ρ) (e : ρ[i]? = some (some d)) : EndE K τ w σ ρ (ρ.set i (some d.frz)) (w.ice (iceS i)) := by
  refine ⟨by rw [List.length_set], ⟨st.wf.ice, by rw [List.length_set]; exact st.len, fun j d' e' => ?_⟩, ⟨ice_same st.wf, fun a ℓ e3 ⟨h, s, e2, k⟩ => ?_⟩⟩
  · have hi := (List.getElem?_eq_some_iff.mp e).1
    by_cases hj : j = i
    · subst hj
      rw [List.getElem?_set_self hi] at e'
      cases e'
      obtain ⟨v, ev, r⟩ := st.rep j d e
      exact ⟨v, ev, Rep.frz (w := w) (ice_same st.wf) d (ice_frz fun s => by show (j + 1 == j + 1) = true; simp) r⟩
    · rw [List.getElem?_set_ne (Ne.symm hj)] at e'
      obtain ⟨u, e4, r2⟩ := st.rep j d' e'
      exact ⟨u, e4, Rep.to (w := w) (ice_same st.wf) d' (ice_kept fun s => by show (j + 1 == i + 1) = false; simp; omega) r2⟩
  · subst e2
    have hi := (List.getElem?_eq_some_iff.mp e).1
    have := ice_kept (w := w) (ℓ := h :: s) (P := iceS i) (fun t => by
      show (h == i + 1) = false
      simp; omega) a [] (by simpa using e3)
    simpa using this
end
/-- e with slot i lent -/
def rThaw (i : Nat) (re : RE) : RE := fun ρ _ Q => match ρ[i]? with
  | some (some d) => nf (ρ.set i (some d.frz)) fun ρ1 => re ρ1 E0D fun r ρ' => twL ρ1 ρ' ∧ r.clean = true ∧ nf (ρ'.set i (some d)) (Q r)
  | _ => False
def rThawT (i : Nat) (rt : RT) : RT := fun ρ _ Q => match ρ[i]? with
  | some (some d) => nf (ρ.set i (some d.frz)) fun ρ1 => rt ρ1 E0D fun b ρ' => twL ρ1 ρ' ∧ nf (ρ'.set i (some d)) (Q b)
  | _ => False
theorem se_thaw {K : PySem.W.Frag} {W : WX} (i : Nat) {t : TE} {re : RE} (k : SE K W t re) : SE K W t (rThaw i re) := by
  intro τ w σ ρ E Q Qv hn st hr hq hx
  unfold rThaw at hr
  split at hr
  · rename_i d ed
    have hr := nf_of hr
    obtain ⟨v, ev, rv⟩ := st.rep i d ed
    have e1 := ice_slot' hn st ed
    refine k τ (w.ice (iceS i)) σ _ E0D _ _ (by rw [e1.len]; exact hn) e1.st hr (fun r ρ' w' v' q e2 r2 => ?_) (fun _ _ _ _ _ z => z.elim)
    obtain ⟨q1, q2, q3⟩ := q
    have x : Ext ρ.length τ (w.ice (iceS i)) w' := by have := e2.ext; rw [List.length_set] at this; exact this
    exact hq r _ (w.thaw w' i) v' (nf_of q3) (thaw_st st ed ev rv e2 q1) (Rep.thaw (thaw_tw st.wf e2.st.wf x.s) r q2 r2)
  · exact hr.elim
theorem st_thaw {K : PySem.W.Frag} {W : WX} (i : Nat) {t : TT} {rt : RT} (k : STt K W t rt) : STt K W t (rThawT i rt) := by
  intro τ w σ ρ E Q Qv hn st hr hq hx
  unfold rThawT at hr
  split at hr
  · rename_i d ed
    have hr := nf_of hr
    obtain ⟨v, ev, rv⟩ := st.rep i d ed
    have e1 := ice_slot' hn st ed
    refine k τ (w.ice (iceS i)) σ _ E0D _ _ (by rw [e1.len]; exact hn) e1.st hr (fun b ρ' w' q e2 => ?_) (fun _ _ _ _ _ z => z.elim)
    exact hq b _ (w.thaw w' i) (nf_of q.2) (thaw_st st ed ev rv e2 q.1)
  · exact hr.elim
section
variable {X : Cx} {W : WX} {M : List Nat} {e : Expr}
theorem fe_thaw (i : Nat) {re : RE} (h : FE X W e re) : FE X W e (rThaw i re) := by
  obtain ⟨t, p, k⟩ := h.ex
  exact ⟨t, p, se_thaw i k⟩
theorem ft_thaw (i : Nat) {rt : RT} (h : FT X W e rt) : FT X W e (rThawT i rt) := by
  obtain ⟨t, p, k⟩ := h.ex
  exact ⟨t, p, st_thaw i k⟩
def thaws : List Nat → RE → RE
  | [], r => r
  | i :: is, r => rThaw i (thaws is r)
theorem se_thaws {K : PySem.W.Frag} {W : WX} {t : TE} {re : RE} (k : SE K W t re) : ∀ is : List Nat, SE K W t (thaws is re)
  | [] => k
  | i :: is => se_thaw i (se_thaws k is)
/-- x = [comprehension], names lent -/
theorem fs_setLcT (is : List Nat) (i : Nat) (vs : List Nat) {y : Str} {elt tg iter : Expr} {ifs : List Expr} {scope : Scope} {own : List (Str × Nat)} {py pos spos : Pos} {ri : RI} {rg : RG} {rt : RT} {re : RE} (hN : X.N.Nodup) (hi : FI X W tg iter ri) (ok : BlkOk X.N X.env.scope scope own)
    (hg : ∀ c : BlkC, FG (Cx.blkC X scope c) vs tg rg) (ht : ∀ c : BlkC, FTs (Cx.blkC X scope c) W0 ifs rt) (he : ∀ c : BlkC, FE (Cx.blkC X scope c) W0 elt re) (hy : X.N[i]? = some y := by rfl) (hyl : X.env.scope.names.lookup y = some .local := by rfl) (hM : M.contains i = false := by rfl)
    (hsw : swapsWith (.ListComp elt [⟨tg, iter, ifs, 0⟩] scope pos) (some (.Name y py)) spos.line X.env = pure true := by rfl) (hv : own.map (·.2) = vs := by rfl) (hc : X.calm = true := by rfl) (hs : ∀ x, foldedSetIterable iter X.env x = pure x := by intro _; rfl) :
    FS X W M (.Assign [.Name y py] (.ListComp elt [⟨tg, iter, ifs, 0⟩] scope pos) spos) (rSet i (thaws is (rComp ri rg rt re vs))) := by
  obtain ⟨wi, g, tt, te, p, pg, pt, pe, k⟩ := lc_ex vs hi hg ht he
  exact ⟨_, by have := ps_setLc (i := i) hc hN hy hyl hsw p ok (fun s H C cl fp => pg (s, H, C, cl, fp)) (fun s H C cl fp => pt (s, H, C, cl, fp)) (fun s H C cl fp => pe (s, H, C, cl, fp)) hs; rw [hv] at this; exact this, se_set (se_thaws k is) hM⟩
theorem fs_setLcFT (is : List Nat) (i : Nat) (vs : List Nat) {y : Str} {elt tg iter : Expr} {ifs : List Expr} {scope : Scope} {own : List (Str × Nat)} {py pos spos : Pos} {ri : RI} {rg : RG} {rt : RT} {re : RE} (hN : X.N.Nodup) (hi : FI X W tg iter ri) (ok : BlkOk X.N X.env.scope scope own)
    (hg : ∀ c : BlkC, FG (Cx.blkC X scope c) vs tg rg) (ht : ∀ c : BlkC, FTs (Cx.blkC X scope c) W0 ifs rt) (he : ∀ c : BlkC, FE (Cx.blkC X scope c) W0 elt re) (hy : X.N[i]? = some y := by rfl) (hyl : X.env.scope.names.lookup y = some .local := by rfl) (hM : M.contains i = false := by rfl)
    (hsw : swapsWith (.ListComp elt [⟨tg, iter, ifs, 0⟩] scope pos) (some (.Name y py)) spos.line X.env = pure true := by rfl) (hv : own.map (·.2) = vs := by rfl) (hc : X.calm = true := by rfl) (hs : ∀ x, foldedSetIterable iter X.env x = pure x := by intro _; rfl) :
    FS X W M (.Assign [.Name y py] (.ListComp elt [⟨tg, iter, ifs, 0⟩] scope pos) spos) (rSetF i (thaws is (rComp ri rg rt re vs))) := by
  obtain ⟨wi, g, tt, te, p, pg, pt, pe, k⟩ := lc_ex vs hi hg ht he
  exact ⟨_, by have := ps_setLc (i := i) hc hN hy hyl hsw p ok (fun s H C cl fp => pg (s, H, C, cl, fp)) (fun s H C cl fp => pt (s, H, C, cl, fp)) (fun s H C cl fp => pe (s, H, C, cl, fp)) hs; rw [hv] at this; exact this, se_setF (se_thaws k is) hM⟩
end
/-- none, or frozen -/
def isF (a : Option D) : Prop := a = none ∨ ∃ d, a = some d ∧ d.own = false
theorem tw_isF {a : Option D} (h : isF a) : tw a a := by
  rcases h with rfl | ⟨d, rfl, h⟩
  · trivial
  · exact .inr ⟨h, rfl⟩
theorem isF_none : isF none := .inl rfl
theorem isF_some {d : D} (h : d.own = false := by rfl) : isF (some d) := .inr ⟨d, rfl, h⟩
end FL
namespace Cm
open PySem PySem.Spec PyProof.Rows L2 FL
/-! ### _law_cell_at -/
def rb_law_cell_at : RS := (rSeq (rIf (rTst (rBin dLt (oV (rVar 1)) (oV (rCB dLen (rAC (oV (rVar 0)) rA0))))) (rRet (rBin dIx (oV (rVar 0)) (oV (rVar 1)))) rNx)
  (rRet (rC (.int 0))))
abbrev RD_law_cell_at (r : FSpec) : Prop := ∀ ds ED QD, ds.length = 2 → r ds ED QD → rb_law_cell_at (startD ["_law_script", "_law_k"] ds) (fun c fs ρ => ED c fs (ρ.take 2)) (finD 2 QD)
/-! ### _law_mixed -/
def rb_law_mixed : RS := (rSeq (rSetF 2 (rIc (fun i => i % 2147483647) (oV (rIc (fun i => i * 48271) (oV (rIc (fun i => i + 1) (oV (rBin dAdd (oV (rIc (fun i => i % 1000000007) (oV (rVar 0)))) (oV (rIc (fun i => 7 * i) (oV (rVar 1))))))))))))
  (rSeq (rSetF 3 (rIc (fun i => i % 998244353) (oV (rBin dMulX (oV (rVar 2)) (oV (rIc (fun i => i + 3) (oV (rBin dAdd (oV (rIc (fun i => i % 1009) (oV (rVar 2)))) (oV (rVar 1))))))))))
  (rRet (rIc (fun i => i / 64) (oV (rIc (fun i => i % 2147483629) (oV (rBin dAdd (oV (rIc (fun i => i * 39373) (oV (rVar 3)))) (oV (rVar 2))))))))))
abbrev RD_law_mixed (r : FSpec) : Prop := ∀ ds ED QD, ds.length = 2 → r ds ED QD → rb_law_mixed (startD ["_law_number", "_law_k", "_law_once", "_law_twice"] ds) (fun c fs ρ => ED c fs (ρ.take 2)) (finD 2 QD)
/-! ### _law_box -/
def rb_law_box (r_law_cell_at : FSpec) (r_law_mixed : FSpec) : RS := (rSeq (rSetF 2 (rCall [] r_law_cell_at (rAC (oV (rVar 0)) (rAC (oV (rVar 1)) rA0))))
  (rRet (rLst (rAC (oV (rBin dMulX (oV (rCB dAbs (rAC (oV (rVar 2)) rA0))) (oV (rCB dInt (rAC (oV (rBin dGe (oV (rCB dAbs (rAC (oV (rVar 2)) rA0))) (oV (rC (.int (10 ^ 18)))))) rA0))))) (rAC (oV (rCall [] r_law_mixed (rAC (oV (rVar 2)) (rAC (oV (rIc (fun i => 900 + i) (oV (rVar 1)))) rA0)))) (rAC (oV (rC (.int 0))) rA0))))))
abbrev RD_law_box (r : FSpec) (r_law_cell_at : FSpec) (r_law_mixed : FSpec) : Prop := ∀ ds ED QD, ds.length = 2 → r ds ED QD → (rb_law_box r_law_cell_at r_law_mixed) (startD ["_law_script", "_law_k", "_law_cell"] ds) (fun c fs ρ => ED c fs (ρ.take 2)) (finD 2 QD)
/-! ### _law_take -/
def rb_law_take (r_law_mixed : FSpec) : RS := (rSeq (rIf (rTst (rBin dGt (oV (rBin dIx (oN 0) (oV (rC (.int 0))))) (oV (rC (.int 0))))) (rSeq (rSetF 2 (rBin dMod (oV (rBin dIx (oN 0) (oV (rC (.int 0))))) (oV (rVar 1))))
  (rSeq (rSetL 0 (oV (rC (.int 0))) (rBin dFdiv (oV (rBin dIx (oN 0) (oV (rC (.int 0))))) (oV (rVar 1))))
  (rRet (rVar 2)))) rNx)
  (rSeq (rAsg (gTp 2 (gCs (gNm 2) (gCs (gNm 3) gNl))) (rTup (rAC (oV (rC (.int 0))) (rAC (oV (rC (.int 1))) rA0))))
  (rSeq (rWhile (rTst (rBin dLt (oV (rVar 3)) (oV (rVar 1)))) (rSeq (rSetL 0 (oV (rC (.int 2))) (rIc (fun i => i + 1) (oV (rBin dIx (oN 0) (oV (rC (.int 2)))))))
  (rSeq (rSetF 2 (rBin dAdd (oV (rIc (fun i => i * 33554432) (oV (rVar 2)))) (oV (rCall [] r_law_mixed (rAC (oV (rBin dIx (oN 0) (oV (rC (.int 1))))) (rAC (oV (rBin dIx (oN 0) (oV (rC (.int 2))))) rA0))))))
  (rSetF 3 (rIc (fun i => i * 33554432) (oV (rVar 3)))))))
  (rRet (rBin dMod (oV (rVar 2)) (oV (rVar 1)))))))
abbrev RD_law_take (r : FSpec) (r_law_mixed : FSpec) : Prop := ∀ ds ED QD, ds.length = 2 → r ds ED QD → (rb_law_take r_law_mixed) (startD ["_law_box_here", "_law_many", "_law_found", "_law_reach"] ds) (fun c fs ρ => ED c fs (ρ.take 2)) (finD 2 QD)
/-! ### _law_number -/
def rb_law_number (r_law_take : FSpec) : RS := (rSeq (rSetF 1 (rCall [0] r_law_take (rAC (oN 0) (rAC (oV (rC (.int 9))) rA0))))
  (rSeq (rIf (rTst (rBin dEq (oV (rVar 1)) (oV (rC (.int 0))))) (rRet (rIc (fun i => i - 1000) (oV (rCall [0] r_law_take (rAC (oN 0) (rAC (oV (rC (.int 2001))) rA0)))))) rNx)
  (rRet (rBin dIx (oV (rLst (rAC (oV (rC (.int 0))) (rAC (oV (rC (.int 0))) (rAC (oV (rC (.int 0))) (rAC (oV (rC (.int 1))) (rAC (oV (rC (.int 1))) (rAC (oV (rC (.int 1))) (rAC (oV (rC (.int (-1)))) (rAC (oV (rC (.int (-1)))) (rAC (oV (rC (.int 2))) rA0))))))))))) (oV (rVar 1))))))
abbrev RD_law_number (r : FSpec) (r_law_take : FSpec) : Prop := ∀ ds ED QD, ds.length = 1 → r ds ED QD → (rb_law_number r_law_take) (startD ["_law_box_here", "_law_way"] ds) (fun c fs ρ => ED c fs (ρ.take 1)) (finD 1 QD)
/-! ### _law_part -/
def rb_law_part (r_law_number : FSpec) : RS := (rRet (rCB dTuple (rAC (oV (rComp (rRg1 (rAC (oV (rVar 1)) rA0)) (gNm 2) rYes (rCall [0] r_law_number (rAC (oN 0) rA0)) [2])) rA0)))
abbrev RD_law_part (r : FSpec) (r_law_number : FSpec) : Prop := ∀ ds ED QD, ds.length = 2 → r ds ED QD → (rb_law_part r_law_number) (startD ["_law_box_here", "_law_length", "_law_k"] ds) (fun c fs ρ => ED c fs (ρ.take 2)) (finD 2 QD)
/-! ### _law_scheme -/
def rb_law_scheme (r_law_take : FSpec) (r_law_part : FSpec) : RS := (rSeq (rSet 3 (rLst rA0))
  (rSeq (rFor (rRg1 (rAC (oV (rVar 2)) rA0)) (gNm 4) (rSeq (rSet 5 (rComp (rItA (rVar 1)) (gNm 8) rYes (rCall [0] r_law_part (rAC (oN 0) (rAC (oV (rVar 8)) rA0))) [8]))
  (rSeq (rSetF 6 (rCall [0] r_law_take (rAC (oN 0) (rAC (oV (rC (.int 8))) rA0))))
  (rSeq (rCut (rIf (rAnd (rTst (rBin dLt (oV (rVar 6)) (oV (rC (.int 3))))) (rTst (rBin dNe (oN 3) (oV (rLst rA0))))) (rSetL 5 (oV (rVar 6)) (rBin dIx (oV (rBin dIx (oN 3) (oV (rCall [0] r_law_take (rAC (oN 0) (rAC (oV (rCB dLen (rAC (oN 3) rA0))) rA0)))))) (oV (rVar 6)))) rNx))
  (rSeq (rCut (rIf (rTst (rBin dEq (oV (rVar 6)) (oV (rC (.int 3))))) (rSeq (rSetF 7 (rCall [0] r_law_take (rAC (oN 0) (rAC (oV (rC (.int 3))) rA0))))
  (rSetL 5 (oV (rVar 7)) (rBin dMulX (oV (rTup (rAC (oV (rC (.int 0))) rA0))) (oV (rBin dIx (oV (rVar 1)) (oV (rVar 7))))))) rNx))
  (rDrop (rApp 3 (rCB dTuple (rAC (oN 5) rA0)))))))))
  (rRet (rBin dAdd (oV (rCB dTuple (rAC (oV (rVar 1)) rA0))) (oV (rFrz (rTup (rAC (oV (rIce 3)) rA0))))))))
abbrev RD_law_scheme (r : FSpec) (r_law_take : FSpec) (r_law_part : FSpec) : Prop := ∀ ds ED QD, ds.length = 3 → r ds ED QD → (rb_law_scheme r_law_take r_law_part) (startD ["_law_box_here", "_law_lengths", "_law_count", "_law_products", "_law_k", "_law_product", "_law_way", "_law_side", "_law_length"] ds) (fun c fs ρ => ED c fs (ρ.take 3)) (finD 3 QD)
/-! ### times_in -/
def rb_times_in : RS := (rRet (rCB dLen (rAC (oV (rBin dIx (oV (rVar 0)) (oV (rC (.int 3))))) rA0)))
abbrev RD_times_in (r : FSpec) : Prop := ∀ ds ED QD, ds.length = 1 → r ds ED QD → rb_times_in (startD ["scheme"] ds) (fun c fs ρ => ED c fs (ρ.take 1)) (finD 1 QD)
/-! ### less_one -/
def rb_less_one : RS := (rRet (rCB dMax2 (rAC (oV (rC (.int 0))) (rAC (oV (rIc (fun i => i - 1) (oV (rCB dLen (rAC (oV (rComp (rItA (rVar 0)) (gNm 1) (rTst (rBin dNe (oV (rVar 1)) (oV (rC (.int 0))))) (rVar 1) [1])) rA0))))) rA0))))
abbrev RD_less_one (r : FSpec) : Prop := ∀ ds ED QD, ds.length = 1 → r ds ED QD → rb_less_one (startD ["numbers", "number"] ds) (fun c fs ρ => ED c fs (ρ.take 1)) (finD 1 QD)
/-! ### sums_in -/
def rb_sums_in (r_less_one : FSpec) : RS := (rSeq (rSetF 1 (rBin dIx (oV (rVar 0)) (oV (rC (.int 3)))))
  (rSeq (rSetF 2 (rCB dSum (rAC (oV (rComp (rItA (rVar 1)) (gTp 3 (gCs (gNm 3) (gCs (gNm 4) (gCs (gNm 5) gNl)))) rYes (rBin dAdd (oV (rCall [] r_less_one (rAC (oV (rVar 3)) rA0))) (oV (rCall [] r_less_one (rAC (oV (rVar 4)) rA0)))) [5, 4, 3])) rA0)))
  (rRet (rBin dAdd (oV (rVar 2)) (oV (rCB dSum (rAC (oV (rComp (rRg1 (rAC (oV (rBin dIx (oV (rVar 0)) (oV (rC (.int 2))))) rA0)) (gNm 6) rYes (rCall [] r_less_one (rAC (oV (rComp (rItA (rVar 1)) (gTp 3 (gCs (gNm 3) (gCs (gNm 4) (gCs (gNm 5) gNl)))) rYes (rBin dIx (oV (rVar 5)) (oV (rVar 6))) [5, 4, 3])) rA0)) [6])) rA0)))))))
abbrev RD_sums_in (r : FSpec) (r_less_one : FSpec) : Prop := ∀ ds ED QD, ds.length = 1 → r ds ED QD → (rb_sums_in r_less_one) (startD ["scheme", "products", "total", "l", "r", "o", "k"] ds) (fun c fs ρ => ED c fs (ρ.take 1)) (finD 1 QD)
/-! ### task_of -/
def rb_task_of : RS := (rSeq (rSet 4 (rDNew true))
  (rSeq (rFor (rItA (rVar 3)) (gTp 4 (gCs (gNm 5) (gCs (gNm 6) (gCs (gNm 7) (gCs (gNm 8) gNl))))) (rSetD 4 (oV (rTup (rAC (oV (rVar 5)) (rAC (oV (rVar 6)) (rAC (oV (rVar 7)) rA0))))) (rBin dAdd (oV (rGet2 (oN 4) (oV (rTup (rAC (oV (rVar 5)) (rAC (oV (rVar 6)) (rAC (oV (rVar 7)) rA0))))) (rC (.int 0)))) (oV (rVar 8)))))
  (rRet (rTup (rAC (oV (rVar 0)) (rAC (oV (rVar 1)) (rAC (oV (rVar 2)) (rAC (oV (rComp (rItA (rCB dSortD (rAC (oN 4) rA0))) (gNm 9) (rTst (rBin dNe (oV (rBin dIx (oN 4) (oV (rVar 9)))) (oV (rC (.int 0))))) (rBin dAdd (oV (rVar 9)) (oV (rFrz (rTup (rAC (oV (rBin dIx (oN 4) (oV (rVar 9)))) rA0))))) [9])) rA0))))))))
abbrev RD_task_of (r : FSpec) : Prop := ∀ ds ED QD, ds.length = 4 → r ds ED QD → rb_task_of (startD ["left", "right", "many", "terms", "found", "k", "i", "j", "c", "place"] ds) (fun c fs ρ => ED c fs (ρ.take 4)) (finD 4 QD)
/-! ### value_of -/
def rb_value_of : RS := (rSeq (rSet 3 (rBin dMulX (oV (rLst (rAC (oV (rC (.int 0))) rA0))) (oV (rBin dIx (oV (rVar 0)) (oV (rC (.int 2)))))))
  (rSeq (rFor (rItA (rBin dIx (oV (rVar 0)) (oV (rC (.int 3))))) (gTp 4 (gCs (gNm 4) (gCs (gNm 5) (gCs (gNm 6) (gCs (gNm 7) gNl))))) (rAugL (fun a b => a + b) 3 (oV (rVar 4)) (rBin dMulX (oV (rBin dMulX (oV (rVar 7)) (oV (rBin dIx (oV (rVar 1)) (oV (rVar 5)))))) (oV (rBin dIx (oV (rVar 2)) (oV (rVar 6)))))))
  (rRet (rVar 3))))
abbrev RD_value_of (r : FSpec) : Prop := ∀ ds ED QD, ds.length = 3 → r ds ED QD → rb_value_of (startD ["task", "one", "other", "row", "k", "i", "j", "c"] ds) (fun c fs ρ => ED c fs (ρ.take 3)) (finD 3 QD)
/-! ### line_task -/
def rb_line_task (r_task_of : FSpec) : RS := (rSeq (rSet 2 (rLst rA0))
  (rSeq (rFor (rRg1 (rAC (oV (rVar 0)) rA0)) (gNm 3) (rDrop (rExt 2 (rComp (rRg1 (rAC (oV (rVar 1)) rA0)) (gNm 4) rYes (rTup (rAC (oV (rBin dAdd (oV (rVar 3)) (oV (rVar 4)))) (rAC (oV (rVar 3)) (rAC (oV (rVar 4)) (rAC (oV (rC (.int 1))) rA0))))) [4]))))
  (rRet (rCall [] r_task_of (rAC (oV (rVar 0)) (rAC (oV (rVar 1)) (rAC (oV (rIc (fun i => i - 1) (oV (rBin dAdd (oV (rVar 0)) (oV (rVar 1)))))) (rAC (oN 2) rA0))))))))
abbrev RD_line_task (r : FSpec) (r_task_of : FSpec) : Prop := ∀ ds ED QD, ds.length = 2 → r ds ED QD → (rb_line_task r_task_of) (startD ["n", "m", "terms", "i", "j"] ds) (fun c fs ρ => ED c fs (ρ.take 2)) (finD 2 QD)
/-! ### ring_task -/
def rb_ring_task (r_task_of : FSpec) : RS := (rSeq (rSet 2 (rLst rA0))
  (rSeq (rFor (rRg1 (rAC (oV (rVar 0)) rA0)) (gNm 3) (rDrop (rExt 2 (rComp (rRg1 (rAC (oV (rVar 0)) rA0)) (gNm 4) rYes (rTup (rAC (oV (rBin dMod (oV (rBin dAdd (oV (rVar 3)) (oV (rVar 4)))) (oV (rVar 0)))) (rAC (oV (rVar 3)) (rAC (oV (rVar 4)) (rAC (oV (rIfE (rTst (rBin dLt (oV (rBin dAdd (oV (rVar 3)) (oV (rVar 4)))) (oV (rVar 0)))) (rC (.int 1)) (rVar 1))) rA0))))) [4]))))
  (rRet (rCall [] r_task_of (rAC (oV (rVar 0)) (rAC (oV (rVar 0)) (rAC (oV (rVar 0)) (rAC (oN 2) rA0))))))))
abbrev RD_ring_task (r : FSpec) (r_task_of : FSpec) : Prop := ∀ ds ED QD, ds.length = 2 → r ds ED QD → (rb_ring_task r_task_of) (startD ["n", "turn", "terms", "i", "j"] ds) (fun c fs ρ => ED c fs (ρ.take 2)) (finD 2 QD)
/-! ### _law_row -/
def rb_law_row (r_law_take : FSpec) : RS := (rSeq (rSetF 2 (rBin dIx (oV (rLst (rAC (oV (rC (.int 9))) (rAC (oV (rC (.int 9))) (rAC (oV (rC (.int 9))) (rAC (oV (rC (.int (10 ^ 12)))) rA0)))))) (oV (rCall [0] r_law_take (rAC (oN 0) (rAC (oV (rC (.int 4))) rA0))))))
  (rRet (rComp (rRg1 (rAC (oV (rVar 1)) rA0)) (gNm 3) rYes (rBin dSub (oV (rCall [0] r_law_take (rAC (oN 0) (rAC (oV (rIc (fun i => i + 1) (oV (rIc (fun i => 2 * i) (oV (rVar 2)))))) rA0)))) (oV (rVar 2))) [3])))
abbrev RD_law_row (r : FSpec) (r_law_take : FSpec) : Prop := ∀ ds ED QD, ds.length = 2 → r ds ED QD → (rb_law_row r_law_take) (startD ["_law_box_here", "_law_length", "_law_most", "_law_k"] ds) (fun c fs ρ => ED c fs (ρ.take 2)) (finD 2 QD)
/-! ### table_task -/
def rb_table_task (r_task_of : FSpec) : RS := (rSeq (rSet 3 (rLst rA0))
  (rSeq (rFor (rRg1 (rAC (oV (rVar 0)) rA0)) (gNm 4) (rFor (rRg1 (rAC (oV (rVar 2)) rA0)) (gNm 5) (rDrop (rExt 3 (rComp (rRg1 (rAC (oV (rVar 1)) rA0)) (gNm 6) rYes (rTup (rAC (oV (rBin dAdd (oV (rBin dMulX (oV (rVar 4)) (oV (rVar 2)))) (oV (rVar 5)))) (rAC (oV (rBin dAdd (oV (rBin dMulX (oV (rVar 4)) (oV (rVar 1)))) (oV (rVar 6)))) (rAC (oV (rBin dAdd (oV (rBin dMulX (oV (rVar 6)) (oV (rVar 2)))) (oV (rVar 5)))) (rAC (oV (rC (.int 1))) rA0))))) [6])))))
  (rRet (rCall [] r_task_of (rAC (oV (rBin dMulX (oV (rVar 0)) (oV (rVar 1)))) (rAC (oV (rBin dMulX (oV (rVar 1)) (oV (rVar 2)))) (rAC (oV (rBin dMulX (oV (rVar 0)) (oV (rVar 2)))) (rAC (oN 3) rA0))))))))
abbrev RD_table_task (r : FSpec) (r_task_of : FSpec) : Prop := ∀ ds ED QD, ds.length = 3 → r ds ED QD → (rb_table_task r_task_of) (startD ["n", "m", "p", "terms", "a", "c", "b"] ds) (fun c fs ρ => ED c fs (ρ.take 3)) (finD 3 QD)
end Cm
/-! contracts of the helpers that most laws share -/
namespace Cm
open PySem PySem.Spec PyProof.Rows L2 FL
theorem fdOk {b : Int} (h0 : 0 < b) (h : b < 2 ^ 64) : 0 < b ∧ b.natAbs.log2 < 9000 := ⟨h0, (wide_div (i := 0) h0 (b := 64) (by omega) (by decide) (by decide)).2⟩
theorem mulL {a b : Int} (h0 : -(2 ^ 64) < a) (h : a < 2 ^ 64) : MulOk a b := .inl (.inl ⟨h0, h⟩)
theorem mulR {a b : Int} (h0 : -(2 ^ 64) < b) (h : b < 2 ^ 64) : MulOk a b := .inl (.inr ⟨h0, h⟩)
def inBd (lo hi : Int) : List D → Prop
  | [] => True
  | .int v :: r => (lo ≤ v ∧ v ≤ hi) ∧ inBd lo hi r
  | _ => False
theorem inBd_mem {lo hi : Int} : ∀ {ds : List D}, inBd lo hi ds → ∀ {i : Nat} {d : D}, ds[i]? = some d → ∃ v, d = .int v ∧ lo ≤ v ∧ v ≤ hi
  | [], _, i, d, e => by simp at e
  | .int v :: r, h, 0, d, e => by cases e; exact ⟨v, rfl, h.1⟩
  | .int v :: r, h, i + 1, d, e => inBd_mem h.2 (i := i) (by simpa using e)
theorem pick_int {ds : List D} {k : Int} {Q : D → Prop} (lo hi : Int) (h0 : 0 ≤ k) (h1 : k < ds.length) (all : inBd lo hi ds) (q : ∀ v, lo ≤ v → v ≤ hi → Q (.int v)) : pick (atI ds k) Q := by
  obtain ⟨j, rfl⟩ : ∃ j : Nat, k = (j : Int) := ⟨k.toNat, by omega⟩
  have hj : j < ds.length := by omega
  obtain ⟨v, e, b1, b2⟩ := inBd_mem all (List.getElem?_eq_getElem hj)
  exact pick_of (atI_nat (by rw [List.getElem?_eq_getElem hj, e])) rfl (q v b1 b2)
theorem rgD_at {lo hi : Int} {i : Nat} {x : D} (h : (rgD lo hi)[i]? = some x) : x = .int (lo + i) ∧ lo + i < hi := by
  unfold rgD at h
  rw [List.getElem?_map] at h
  obtain ⟨j, e, rfl⟩ := Option.map_eq_some_iff.mp h
  obtain ⟨h1, e⟩ := List.getElem?_eq_some_iff.mp e
  rw [List.getElem_range] at e
  rw [List.length_range] at h1
  subst e
  exact ⟨rfl, by omega⟩
set_option maxHeartbeats 0
def r_law_mixed : FSpec := fun ds _ Q => ∃ a b : Int, ds = [.int a, .int b] ∧ ∀ r os, 0 ≤ r → r < 33554432 → Q (.int r) os
theorem rd_law_mixed : ∀ ds ED QD, ds.length = 2 → r_law_mixed ds ED QD → rb_law_mixed (startD ["_law_number", "_law_k", "_law_once", "_law_twice"] ds) (fun c fs ρ => ED c fs (ρ.take 2)) (finD 2 QD) := by
  rintro ds ED QD - ⟨a, b, rfl, q⟩
  refine ⟨mulL ?_ ?_, q _ _ ?_ ?_⟩
  all_goals ((try dsimp only); omega)
def r_law_cell_at : FSpec := fun ds _ Q => ∃ (ns : List Int) (k : Int), ds = [.ro false (ns.map D.int), .int k] ∧ 0 ≤ k ∧ ∀ r os, (r = 0 ∨ r ∈ ns) → Q (.int r) os
theorem atI_ints {ns : List Int} {k : Int} (h0 : 0 ≤ k) (h : k < ns.length) : ∃ n, n ∈ ns ∧ atI (ns.map D.int) k = some (.int n) := by
  obtain ⟨j, rfl⟩ : ∃ j : Nat, k = (j : Int) := ⟨k.toNat, by omega⟩
  have hj : j < ns.length := by omega
  exact ⟨ns[j], List.getElem_mem hj, atI_nat (by rw [List.getElem?_map, List.getElem?_eq_getElem hj]; rfl)⟩
theorem rd_law_cell_at : ∀ ds ED QD, ds.length = 2 → r_law_cell_at ds ED QD → rb_law_cell_at (startD ["_law_script", "_law_k"] ds) (fun c fs ρ => ED c fs (ρ.take 2)) (finD 2 QD) := by
  rintro ds ED QD - ⟨ns, k, rfl, h0, q⟩
  refine ⟨fun h => ?_, fun h => q _ _ (.inl rfl)⟩
  obtain ⟨n, hm, e⟩ := atI_ints (ns := ns) h0 (by simpa using h)
  exact pick_of e rfl (q _ _ (.inr hm))
def r_law_box : FSpec := fun ds _ Q => ∃ (ns : List Int) (k : Int), ds = [.ro false (ns.map D.int), .int k] ∧ 0 ≤ k ∧ ∀ (b : Bx) os, Q (bxD b) os
theorem rd_law_box : ∀ ds ED QD, ds.length = 2 → r_law_box ds ED QD → rb_law_box r_law_cell_at r_law_mixed (startD ["_law_script", "_law_k", "_law_cell"] ds) (fun c fs ρ => ED c fs (ρ.take 2)) (finD 2 QD) := by
  rintro ds ED QD - ⟨ns, k, rfl, h0, q⟩
  refine ⟨ns, k, rfl, h0, fun r os hr => ⟨mulR ?_ ?_, ?_⟩⟩
  · split <;> omega
  · split <;> omega
  · refine ⟨r, 900 + k, rfl, fun m os _ _ => q ⟨_, m, 0, ?_⟩ _⟩
    apply Int.mul_nonneg
    · split <;> omega
    · split <;> omega
/-- b draws a number below n -/
def r_law_take : FSpec := fun ds _ Q => ∃ (b : Bx) (n : Int), ds = [bxD b, .int n] ∧ (0 < n ∧ n < 2 ^ 64) ∧ ∀ r (b' : Bx) tl, 0 ≤ r → r < n → Q (.int r) (some (bxD b') :: tl)
theorem rd_law_take : ∀ ds ED QD, ds.length = 2 → r_law_take ds ED QD → rb_law_take r_law_mixed (startD ["_law_box_here", "_law_many", "_law_found", "_law_reach"] ds) (fun c fs ρ => ED c fs (ρ.take 2)) (finD 2 QD) := by
  rintro ds ED QD - ⟨⟨a, m, c, h0⟩, n, rfl, ⟨h1, h2⟩, q⟩
  refine ⟨fun h => ?_, fun h => ?_⟩
  · exact ⟨h1, fdOk h1 h2, q _ ⟨_, _, _, Int.ediv_nonneg h0 (by omega)⟩ _ (Int.emod_nonneg _ (by omega)) (Int.emod_lt_of_pos _ h1)⟩
  · refine ⟨rfl, fun k ρ => ∃ c f r : Int, ρ = [some (bxD ⟨a, m, c, h0⟩), some (.int n), some (.int f), some (.int r)] ∧ 0 < r ∧ k = (n - r).toNat, ⟨_, c, 0, 1, rfl, by omega, rfl⟩, ?_⟩
    rintro k ρ ⟨c, f, r, rfl, hr, rfl⟩
    refine ⟨fun h => ?_, fun h => ?_⟩
    · have h : r < n := by simpa using h
      exact ⟨_, _, rfl, fun x os _ _ => ⟨(n - r * 33554432).toNat, (by (try dsimp only); omega), c + 1, f * 33554432 + x, r * 33554432, rfl, (by (try dsimp only); omega), rfl⟩⟩
    · exact ⟨h1, q _ ⟨_, _, _, h0⟩ _ (Int.emod_nonneg _ (by omega)) (Int.emod_lt_of_pos _ h1)⟩
/-! ### numbers, parts, schemes -/
def InB (xs : List Int) : Prop := ∀ x ∈ xs, -1000 ≤ x ∧ x ≤ 1000
def r_law_number : FSpec := fun ds _ Q => ∃ b : Bx, ds = [bxD b] ∧ ∀ x (b' : Bx) tl, -1000 ≤ x → x ≤ 1000 → Q (.int x) (some (bxD b') :: tl)
theorem rd_law_number : RD_law_number r_law_number r_law_take := by
  rintro ds ED QD - ⟨b, rfl, q⟩
  refine ⟨b, 9, rfl, by decide, fun x b _ x1 x2 => ⟨fun h => ?_, fun h => ?_⟩⟩
  · exact ⟨b, 2001, rfl, by decide, fun y b _ y1 y2 => q _ _ _ (by (try dsimp only); omega) (by (try dsimp only); omega)⟩
  · exact pick_int (-1) 2 x1 (by simpa using x2) (by simp only [inBd, and_true]; omega) fun v v1 v2 => q _ _ _ (by omega) (by omega)
def rowD (xs : List Int) : D := .tup false (xs.map D.int)
theorem all_in {P : Int → Prop} {xs : List Int} (h : ∀ (i : Nat) x, xs[i]? = some x → P x) : ∀ x ∈ xs, P x := fun x hx => by
  obtain ⟨i, hi, e⟩ := List.mem_iff_getElem.mp hx
  exact h i x (by rw [List.getElem?_eq_getElem hi, e])
def r_law_part : FSpec := fun ds _ Q => ∃ (b : Bx) (n : Int), ds = [bxD b, .int n] ∧ (0 ≤ n ∧ n ≤ 1000) ∧ ∀ xs (b' : Bx) tl, xs.length = n.toNat → InB xs → Q (rowD xs) (some (bxD b') :: tl)
theorem rd_law_part : RD_law_part r_law_part r_law_number := by
  rintro ds ED QD - ⟨b, n, rfl, ⟨n0, n1⟩, q⟩
  refine ⟨⟨by decide, by omega, by omega⟩, ⟨compR_draw 0 D.int (fun _ x => -1000 ≤ x ∧ x ≤ 1000) _ _ b (fun _ => rfl) (fun i d b hd => ?_) fun xs b hl hx => ?_⟩⟩
  · exact ⟨fun _ => ⟨b, rfl, fun x b' tl x1 x2 => ⟨x, b', rfl, ⟨x1, x2⟩, rfl⟩⟩, fun h => (nomatch h)⟩
  · exact q xs b _ (by rw [hl, rgD_len]; omega) (all_in hx)
/-- a product: three parts -/
structure Pr where
  l : List Int
  r : List Int
  o : List Int
def prD (p : Pr) : D := .tup false [rowD p.l, rowD p.r, rowD p.o]
structure Pr.ok (p : Pr) (n m k : Int) : Prop where
  ll : p.l.length = n.toNat
  lr : p.r.length = m.toNat
  lo : p.o.length = k.toNat
  bl : InB p.l
  br : InB p.r
  bo : InB p.o
def schD (n m k : Int) (ps : List Pr) : D := .tup false [.int n, .int m, .int k, .lst .ice (ps.map prD)]
def lensD (n m k : Int) : D := .lst .ice [.int n, .int m, .int k]
theorem row_own (xs : List Int) : (rowD xs).own = false := rfl
theorem pr_own (p : Pr) : (prD p).own = false := rfl
theorem rep_ints (n : Nat) : (List.replicate n [D.int 0]).flatten = (List.replicate n (0 : Int)).map D.int := by
  induction n with
  | zero => rfl
  | succ n ih => rw [List.replicate_succ, List.flatten_cons, ih, List.replicate_succ, List.map_cons]; rfl
theorem InB.rep (n : Nat) : InB (List.replicate n 0) := fun x hx => by rw [(List.mem_replicate.mp hx).2]; omega
theorem three {x : Int} (h0 : 0 ≤ x) (h : x < 3) : x = 0 ∨ x = 1 ∨ x = 2 := by omega
def r_law_scheme : FSpec := fun ds _ Q => ∃ (b : Bx) (n1 n2 n3 cnt : Int), ds = [bxD b, lensD n1 n2 n3, .int cnt] ∧ (0 ≤ n1 ∧ n1 ≤ 1000) ∧ (0 ≤ n2 ∧ n2 ≤ 1000) ∧ (0 ≤ n3 ∧ n3 ≤ 1000) ∧ (0 ≤ cnt ∧ cnt ≤ 1000) ∧
  ∀ (ps : List Pr) (b' : Bx) tl, ps.length = cnt.toNat → (∀ p ∈ ps, p.ok n1 n2 n3) → Q (schD n1 n2 n3 ps) (some (bxD b') :: tl)
theorem all_snoc {α : Type} {P : α → Prop} {l : List α} {a : α} (h : ∀ x ∈ l, P x) (ha : P a) : ∀ x ∈ l ++ [a], P x := fun x hx => by
  rcases List.mem_append.mp hx with hx | hx
  · exact h x hx
  · rw [List.mem_singleton.mp hx]; exact ha
theorem pr_dat (p : Pr) : (prD p).dat = true := by
  simp only [prD, rowD, D.dat, datL, Bool.and_true]
  rw [datL_map fun _ _ => rfl, datL_map fun _ _ => rfl, datL_map fun _ _ => rfl]; rfl
theorem rd_law_scheme : RD_law_scheme r_law_scheme r_law_take r_law_part := by
  rintro ds ED QD - ⟨b, n1, n2, n3, cnt, rfl, hn1, hn2, hn3, ⟨c0, c1⟩, q⟩
  refine ⟨⟨by decide, by omega, by omega⟩, ?_⟩
  refine ⟨forR_on [0, 3] [4, 5, 6, 7, 8] (fun k s => ∃ (ps : List Pr) (b : Bx), s = [some (bxD b), some (.lst .flat (ps.map prD))] ∧ ps.length = k ∧ (∀ p ∈ ps, p.ok n1 n2 n3)) _ _ ⟨[], b, rfl, rfl, fun p h => (nomatch h)⟩ ?_ ?_⟩
  · rintro i x s j hx hj ⟨ps, b, rfl, hl', hps⟩
    obtain ⟨e4, e5, e6, e7, e8, rfl⟩ := len5 hj
    obtain ⟨rfl, hic⟩ := rgD_at hx
    -- the product's parts
    refine ⟨compR_draw 0 rowD (fun i (xs : List Int) => ([n1.toNat, n2.toNat, n3.toNat] : List Nat)[i]? = some xs.length ∧ InB xs) [.int n1, .int n2, .int n3] _ b (fun _ => rfl) (fun j d b hd => ?_) fun Ls b hl hx => ?_⟩
    · have key : ∃ n : Int, d = .int n ∧ 0 ≤ n ∧ n ≤ 1000 ∧ ([n1.toNat, n2.toNat, n3.toNat] : List Nat)[j]? = some n.toNat := by
        match j, hd with
        | 0, hd => cases hd; exact ⟨n1, rfl, hn1.1, hn1.2, rfl⟩
        | 1, hd => cases hd; exact ⟨n2, rfl, hn2.1, hn2.2, rfl⟩
        | 2, hd => cases hd; exact ⟨n3, rfl, hn3.1, hn3.2, rfl⟩
        | j + 3, hd => simp at hd
      obtain ⟨n, rfl, k0, k1, kj⟩ := key
      exact ⟨fun _ => ⟨b, n, rfl, ⟨k0, k1⟩, fun xs b' tl hx hbx => ⟨xs, b', rfl, ⟨by rw [hx]; exact kj, hbx⟩, rfl⟩⟩, fun h => (nomatch h)⟩
    · obtain ⟨l, r, o, rfl⟩ : ∃ l r o, Ls = [l, r, o] := by match Ls, hl with | [l, r, o], _ => exact ⟨l, r, o, rfl⟩
      obtain ⟨hl1, hl⟩ := hx 0 l rfl
      obtain ⟨hl2, hr⟩ := hx 1 r rfl
      obtain ⟨hl3, ho⟩ := hx 2 o rfl
      replace hl1 : l.length = n1.toNat := (by simpa using hl1.symm)
      replace hl2 : r.length = n2.toNat := (by simpa using hl2.symm)
      replace hl3 : o.length = n3.toNat := (by simpa using hl3.symm)
      refine ⟨b, 8, rfl, by decide, fun way b _ w0 w1 => ?_⟩
      have dps : datL (ps.map prD) = true := datL_map fun p _ => pr_dat p
      have ne : deq (D.lst .flat (ps.map prD)) (D.lst (Ow.of (ownL [])) []) = ps.isEmpty := by
        rw [deq_nilL]; cases ps <;> rfl
      refine cut_on [0, 5] [] (fun s => ∃ (p : Pr) (b : Bx), s = [some (bxD b), some (.lst .flat [rowD p.l, rowD p.r, rowD p.o])] ∧ p.ok n1 n2 n3) ?_ ?_
      · refine ⟨fun h => ⟨dps, rfl, by simp [D.dep, depL], fun h2 => ?_, fun h2 => ?_⟩, fun h => ⟨fun z => (nomatch z), fun _ => ⟨rfl, ⟨l, r, o⟩, b, rfl, ⟨hl1, hl2, hl3, hl, hr, ho⟩⟩⟩⟩
        · have hw : way < 3 := by simpa using h
          rw [ne] at h2
          have hne : ps ≠ [] := by rintro rfl; cases h2
          have hpos : 0 < ps.length := List.length_pos_iff.mpr hne
          refine ⟨_, (ps.length : Int), (by show [_, D.int ((ps.map prD).length : Nat)] = _; rw [List.length_map]), by omega, fun x b _ x0 x1 => ?_⟩
          obtain ⟨j, rfl⟩ : ∃ j : Nat, x = (j : Int) := ⟨x.toNat, by omega⟩
          have hj : j < ps.length := by omega
          refine pick_of (d := prD ps[j]) (atI_nat (by rw [List.getElem?_map, List.getElem?_eq_getElem hj]; rfl)) rfl ?_
          have ok := hps _ (List.getElem_mem hj)
          rcases three w0 hw with rfl | rfl | rfl
          · exact ⟨rfl, ⟨ps[j].l, r, o⟩, b, rfl, ⟨ok.ll, hl2, hl3, ok.bl, hr, ho⟩⟩
          · exact ⟨rfl, ⟨l, ps[j].r, o⟩, b, rfl, ⟨hl1, ok.lr, hl3, hl, ok.br, ho⟩⟩
          · exact ⟨rfl, ⟨l, r, ps[j].o⟩, b, rfl, ⟨hl1, hl2, ok.lo, hl, hr, ok.bo⟩⟩
        · exact ⟨rfl, ⟨l, r, o⟩, b, rfl, ⟨hl1, hl2, hl3, hl, hr, ho⟩⟩
      · rintro s j hj ⟨p, b, rfl, hp⟩
        obtain rfl := len0 hj
        refine cut_on [0, 5] [7] (fun s => ∃ (p : Pr) (b : Bx), s = [some (bxD b), some (.lst .flat [rowD p.l, rowD p.r, rowD p.o])] ∧ p.ok n1 n2 n3) ?_ ?_
        · refine ⟨fun h => ?_, fun h => ⟨rfl, p, b, rfl, hp⟩⟩
          refine ⟨b, 3, rfl, by decide, fun s b _ s0 s1 => ?_⟩
          rcases three s0 s1 with rfl | rfl | rfl
          · refine ⟨⟨by simp, by simp, by omega, by omega⟩, rfl, ⟨List.replicate n1.toNat 0, p.r, p.o⟩, b, ?_, ⟨by simp, hp.lr, hp.lo, .rep _, hp.br, hp.bo⟩⟩
            rw [rep_ints]; rfl
          · refine ⟨⟨by simp, by simp, by omega, by omega⟩, rfl, ⟨p.l, List.replicate n2.toNat 0, p.o⟩, b, ?_, ⟨hp.ll, by simp, hp.lo, hp.bl, .rep _, hp.bo⟩⟩
            rw [rep_ints]; rfl
          · refine ⟨⟨by simp, by simp, by omega, by omega⟩, rfl, ⟨p.l, p.r, List.replicate n3.toNat 0⟩, b, ?_, ⟨hp.ll, hp.lr, by simp, hp.bl, hp.br, .rep _⟩⟩
            rw [rep_ints]; rfl
        · rintro s j hj ⟨p, b, rfl, hp⟩
          obtain ⟨e7, rfl⟩ := len1 hj
          exact ⟨by rw [List.length_map, sizeLine_eq]; omega, rfl, ps ++ [p], b, (by rw [List.map_append]; rfl), by simp [hl'], all_snoc hps hp⟩
  · rintro s j hj ⟨ps, b, rfl, hl, hps⟩
    obtain ⟨e4, e5, e6, e7, e8, rfl⟩ := len5 hj
    exact ⟨by (show (3 : Nat) + 1 ≤ sizeLine); decide, q ps b _ (by rw [hl, rgD_len]; omega) hps⟩
end Cm
set_option maxHeartbeats 0
/-! rows of ints sorted; tasks -/
namespace Cm
open PySem PySem.Spec PyProof.Rows L2 FL
open PySem.W (EachIs AllAlike dataLe)
theorem row_py (xs : List Int) : (rowD xs).py = .tuple (xs.map PyData.int) := by
  show PyData.tuple (pyL (xs.map D.int)) = _
  rw [pyL_map]; rfl
theorem row_dat (xs : List Int) : (rowD xs).dat = true := datL_map fun _ _ => rfl
theorem row_dep (xs : List Int) : (rowD xs).dep ≤ 1 := by
  show depL (xs.map D.int) + 1 ≤ 1
  have := depL_map (f := D.int) (xs := xs) (n := 0) fun x _ => Nat.le_refl _
  omega
theorem row_le (xs ys : List Int) : dataLe false D.py (rowD xs) (rowD ys) = decide (xs ≤ ys) := by
  rw [PySem.W.dataLe_eq]
  show (!PySem.W.dataLt (rowD ys).py (rowD xs).py) = _
  rw [row_py, row_py, PySem.W.dataLt_tuple]
  have := PySem.W.dataLt_ints ys xs
  unfold PySem.W.rowLt at this
  rw [this]
  by_cases h : ys < xs
  · rw [decide_eq_true h, decide_eq_false (by exact fun z => z h)]; rfl
  · rw [decide_eq_false h, decide_eq_true (by exact h)]; rfl
abbrev leR (xs ys : List Int) : Bool := decide (xs ≤ ys)
theorem sort_rows (rs : List (List Int)) : sortD (rs.map rowD) = (rs.mergeSort leR).map rowD := by
  unfold sortD
  exact (List.map_mergeSort (r := leR) (s := dataLe false D.py) (f := rowD) fun a _ b _ => (row_le a b).symm).symm
theorem alike_rows : ∀ (xs ys : List Int), xs.length = ys.length → PySem.W.alike (rowD xs).py (rowD ys).py = true := by
  intro xs ys h
  rw [row_py, row_py]
  simp only [PySem.W.alike, PySem.W.alike_ints]
theorem sortOk_rows {rs : List (List Int)} (n : Nat) (h : ∀ r ∈ rs, r.length = n + 1) : SortOk (rs.map rowD) := by
  refine ⟨datL_map fun r _ => row_dat r, ?_, .inl ?_, fun d hd => ?_⟩
  · intro d hd d' hd'
    rw [List.map_map] at hd hd'
    obtain ⟨r, hr, rfl⟩ := List.mem_map.mp hd
    obtain ⟨r', hr', rfl⟩ := List.mem_map.mp hd'
    exact alike_rows r r' (by rw [h r hr, h r' hr'])
  · intro d hd
    rw [List.map_map] at hd
    obtain ⟨r, hr, rfl⟩ := List.mem_map.mp hd
    have := h r hr
    match r, this with
    | x :: r, _ => exact ⟨_, _, row_py _⟩
  · obtain ⟨r, hr, rfl⟩ := List.mem_map.mp hd
    have := row_dep r
    omega
theorem leR_trans (a b c : List Int) (h : leR a b = true) (g : leR b c = true) : leR a c = true := by
  simp only [leR, decide_eq_true_eq] at h g ⊢
  exact List.le_trans h g
theorem leR_total (a b : List Int) : (leR a b || leR b a) = true := by
  simp only [leR, Bool.or_eq_true, decide_eq_true_eq]
  exact List.le_total a b
theorem sorted_rows (rs : List (List Int)) : (rs.mergeSort leR).Pairwise fun a b => leR a b = true := List.pairwise_mergeSort leR_trans leR_total rs
/-- one list in order -/
theorem rows_uniq {rs qs : List (List Int)} (p : rs.Perm qs) (h : rs.Pairwise fun a b => leR a b = true) (g : qs.Pairwise fun a b => leR a b = true) : rs = qs :=
  List.Perm.eq_of_pairwise (fun a b _ _ h g => by
    simp only [leR, decide_eq_true_eq] at h g
    exact List.le_antisymm h g) h g p
theorem sort_uniq {rs qs : List (List Int)} (p : rs.Perm qs) (g : qs.Pairwise fun a b => leR a b = true) : rs.mergeSort leR = qs :=
  rows_uniq ((List.mergeSort_perm rs _).trans p) (sorted_rows rs) g
/-! ### dicts of rows -/
theorem row_tkey (xs : List Int) : tkey (rowD xs) = xs.map Sum.inl := by
  show (xs.map D.int).map skey = _
  rw [List.map_map]; rfl
theorem inl_inj : ∀ {xs ys : List Int}, (xs.map (Sum.inl : Int → Key)) = ys.map Sum.inl → xs = ys
  | [], [], _ => rfl
  | [], _ :: _, h => by cases h
  | _ :: _, [], h => by cases h
  | x :: xs, y :: ys, h => by
    simp only [List.map_cons, List.cons.injEq, Sum.inl.injEq] at h
    rw [h.1, inl_inj h.2]
theorem row_keyEq (xs ys : List Int) : keyEq true (rowD xs) (rowD ys) = decide (xs = ys) := by
  unfold keyEq
  rw [row_tkey, row_tkey]
  by_cases h : xs = ys
  · rw [h]; simp
  · rw [decide_eq_false h]
    simp only [if_true]
    exact decide_eq_false fun z => h (inl_inj z)
theorem row_keyOk (xs : List Int) : keyOk true (rowD xs) = true := by
  show (xs.map D.int).all isSKey = true
  rw [List.all_map, List.all_eq_true]
  intro x _; rfl
theorem row_kIdx (P : List (List Int)) (q : List Int) : kIdx true (P.map rowD) (rowD q) = P.findIdx? fun p => decide (p = q) := by
  unfold kIdx
  rw [List.findIdx?_map]
  congr 1
  funext p
  exact row_keyEq p q
/-- one place more -/
def addP (P : List (List Int)) (q : List Int) : List (List Int) := if q ∈ P then P else P ++ [q]
theorem addP_nodup {P : List (List Int)} {q : List Int} (h : P.Nodup) : (addP P q).Nodup := by
  unfold addP
  split
  · exact h
  · rename_i hq
    rw [List.nodup_append]
    exact ⟨h, by simp, fun a ha b hb => by rw [List.mem_singleton.mp hb]; exact fun z => hq (z ▸ ha)⟩
theorem idx_in {P : List (List Int)} {q : List Int} (h : q ∈ P) : ∃ i, (P.findIdx? fun p => decide (p = q)) = some i ∧ P[i]? = some q := by
  cases e : P.findIdx? fun p => decide (p = q) with
  | none => have := List.findIdx?_eq_none_iff.mp e q h; simp at this
  | some i =>
    obtain ⟨h1, h2, _⟩ := List.findIdx?_eq_some_iff_getElem.mp e
    exact ⟨i, rfl, by rw [List.getElem?_eq_getElem h1]; simpa using h2⟩
theorem idx_out {P : List (List Int)} {q : List Int} (h : q ∉ P) : (P.findIdx? fun p => decide (p = q)) = none :=
  List.findIdx?_eq_none_iff.mpr fun p hp => decide_eq_false fun z => h (z ▸ hp)
theorem look_rows {g : List Int → D} {P : List (List Int)} {q : List Int} : dLook true (P.map rowD) (P.map g) (rowD q) = if q ∈ P then some (g q) else none := by
  unfold dLook
  rw [row_kIdx]
  by_cases h : q ∈ P
  · obtain ⟨i, e1, e2⟩ := idx_in h
    rw [e1, if_pos h]
    show (P.map g)[i]? = _
    rw [List.getElem?_map, e2]; rfl
  · rw [idx_out h, if_neg h]; rfl
theorem putKs_rows {P : List (List Int)} {q : List Int} : putKs true (P.map rowD) (rowD q) = (addP P q).map rowD := by
  unfold putKs addP
  rw [row_kIdx]
  by_cases h : q ∈ P
  · obtain ⟨i, e1, e2⟩ := idx_in h
    rw [e1, if_pos h]
  · rw [idx_out h, if_neg h, List.map_append]; rfl
theorem putDs_rows {g g' : List Int → D} {P : List (List Int)} {q : List Int} {d : D} (hn : P.Nodup) (h1 : g' q = d) (h2 : ∀ p, p ≠ q → g' p = g p) : putDs true (P.map rowD) (rowD q) (P.map g) d = (addP P q).map g' := by
  unfold putDs addP
  rw [row_kIdx]
  by_cases h : q ∈ P
  · obtain ⟨i, e1, e2⟩ := idx_in h
    rw [e1, if_pos h]
    show (P.map g).set i d = P.map g'
    apply List.ext_getElem?
    intro j
    by_cases hj : i = j
    · subst hj
      have hi := (List.getElem?_eq_some_iff.mp e2).1
      rw [List.getElem?_set_self (by rw [List.length_map]; exact hi), List.getElem?_map, e2]
      exact congrArg some h1.symm
    · rw [List.getElem?_set_ne hj, List.getElem?_map, List.getElem?_map]
      cases e3 : P[j]? with
      | none => rfl
      | some p =>
        have : p ≠ q := fun z => by
          subst z
          exact hj ((List.getElem?_inj (List.getElem?_eq_some_iff.mp e2).1 hn).mp (e2.trans e3.symm))
        exact congrArg some (h2 p this).symm
  · rw [idx_out h, if_neg h, List.map_append]
    show P.map g ++ [d] = _
    rw [List.map_congr_left fun p hp => (h2 p fun z => h (z ▸ hp)).symm, List.map_singleton, h1]
/-! ### tasks -/
structure Tm where
  k : Int
  i : Int
  j : Int
  c : Int
def Tm.pl (t : Tm) : List Int := [t.k, t.i, t.j]
def Tm.row (t : Tm) : List Int := [t.k, t.i, t.j, t.c]
def tmD (t : Tm) : D := rowD t.row
def tsum (ts : List Tm) (p : List Int) : Int := ((ts.filter fun t => decide (t.pl = p)).map fun t => t.c).sum
def pls (ts : List Tm) : List (List Int) := ts.foldl (fun P t => addP P t.pl) []
def canon (ts : List Tm) : List (List Int) := ((pls ts).mergeSort leR).filterMap fun p => if tsum ts p ≠ 0 then some (p ++ [tsum ts p]) else none
theorem tsum_snoc (ts : List Tm) (t : Tm) (p : List Int) : tsum (ts ++ [t]) p = tsum ts p + (if t.pl = p then t.c else 0) := by
  unfold tsum
  rw [List.filter_append, List.map_append, List.sum_append]
  congr 1
  by_cases h : t.pl = p
  · rw [if_pos h, List.filter_cons, if_pos (by simpa using h)]; simp
  · rw [if_neg h, List.filter_cons, if_neg (by simpa using h)]; simp
theorem pls_snoc (ts : List Tm) (t : Tm) : pls (ts ++ [t]) = addP (pls ts) t.pl := by
  unfold pls
  rw [List.foldl_append]; rfl
theorem snoc_ind {α : Type} {C : List α → Prop} (h0 : C []) (h1 : ∀ l a, C l → C (l ++ [a])) (l : List α) : C l := by
  have : ∀ r : List α, C r.reverse := fun r => by
    induction r with
    | nil => exact h0
    | cons a r ih => rw [List.reverse_cons]; exact h1 _ a ih
  have := this l.reverse
  rwa [List.reverse_reverse] at this
theorem pls_nodup (ts : List Tm) : (pls ts).Nodup := snoc_ind (C := fun ts => (pls ts).Nodup) (by simp [pls]) (fun l a h => by rw [pls_snoc]; exact addP_nodup h) ts
theorem mem_addP {P : List (List Int)} {q p : List Int} : p ∈ addP P q ↔ p ∈ P ∨ p = q := by
  unfold addP
  split
  · rename_i h
    exact ⟨.inl, fun z => z.elim id fun e => e ▸ h⟩
  · rw [List.mem_append, List.mem_singleton]
theorem mem_pls (ts : List Tm) (p : List Int) : p ∈ pls ts ↔ ∃ t ∈ ts, t.pl = p := by
  refine snoc_ind (C := fun ts => p ∈ pls ts ↔ ∃ t ∈ ts, t.pl = p) (by simp [pls]) (fun l a h => ?_) ts
  rw [pls_snoc, mem_addP, h]
  constructor
  · rintro (⟨t, ht, e⟩ | e)
    · exact ⟨t, List.mem_append_left _ ht, e⟩
    · exact ⟨a, by simp, e.symm⟩
  · rintro ⟨t, ht, e⟩
    rcases List.mem_append.mp ht with ht | ht
    · exact .inl ⟨t, ht, e⟩
    · rw [List.mem_singleton.mp ht] at e
      exact .inr e.symm
theorem pls_len (ts : List Tm) : (pls ts).length ≤ ts.length := by
  refine snoc_ind (C := fun ts => (pls ts).length ≤ ts.length) (by simp [pls]) (fun l a h => ?_) ts
  rw [pls_snoc, List.length_append, List.length_singleton]
  unfold addP
  split
  · omega
  · rw [List.length_append, List.length_singleton]; omega
theorem tsum_out {ts : List Tm} {p : List Int} (h : p ∉ pls ts) : tsum ts p = 0 := by
  unfold tsum
  rw [List.filter_eq_nil_iff.mpr fun t ht => by
    intro z
    exact h ((mem_pls ts p).mpr ⟨t, ht, by simpa using z⟩)]
  rfl
theorem pls_three {ts : List Tm} {p : List Int} (h : p ∈ pls ts) : p.length = 3 := by
  obtain ⟨t, _, rfl⟩ := (mem_pls ts p).mp h
  rfl
def r_task_of : FSpec := fun ds _ Q => ∃ (l r m : Int) (o : Ow) (ts : List Tm), ds = [.int l, .int r, .int m, .lst o (ts.map tmD)] ∧ o = .ice ∧ ts.length ≤ 8000000 ∧ ∀ os, Q (.tup true [.int l, .int r, .int m, .lst .flat ((canon ts).map rowD)]) os
theorem rd_task_of : RD_task_of r_task_of := by
  rintro ds ED QD - ⟨l, r, m, o, ts, rfl, rfl, hz, q⟩
  refine ⟨forR_inv (fun k ρ => ∃ ks vs e5 e6 e7 e8 e9, ρ = [some (.int l), some (.int r), some (.int m), some (.lst .ice (ts.map tmD)), some (.dct .flat true ks vs), e5, e6, e7, e8, e9] ∧ ks = (pls (ts.take k)).map rowD ∧ vs = (pls (ts.take k)).map fun p => .int (tsum (ts.take k) p)) _ 0 _ ⟨_, _, _, _, _, _, _, rfl, rfl, rfl⟩ ?_ ?_⟩
  · rintro i x ρ hx ⟨_, _, e5, e6, e7, e8, e9, rfl, rfl, rfl⟩
    rw [List.getElem?_map] at hx
    obtain ⟨t, ht, rfl⟩ := Option.map_eq_some_iff.mp hx
    have hi := (List.getElem?_eq_some_iff.mp ht).1
    rw [Nat.zero_add]
    have et : ts.take (i + 1) = ts.take i ++ [t] := by rw [List.take_succ, ht]; rfl
    refine ⟨rfl, rfl, row_keyOk t.pl, rfl, ?_⟩
    refine pickOr_of (y := .int (tsum (ts.take i) t.pl)) ?_ rfl ?_
    · have := look_rows (g := fun p => .int (tsum (ts.take i) p)) (P := pls (ts.take i)) (q := t.pl)
      by_cases h : t.pl ∈ pls (ts.take i)
      · rw [if_pos h] at this; exact .inl this
      · rw [if_neg h] at this; exact .inr ⟨this, by rw [tsum_out h]⟩
    have hl : (pls (ts.take i)).length < sizeLine := by
      have := pls_len (ts.take i)
      rw [List.length_take] at this
      rw [sizeLine_eq]; omega
    refine ⟨row_keyOk t.pl, by rw [List.length_map]; exact hl, ⟨_, _, _, _, _, _, _, rfl, ?_, ?_⟩⟩
    · rw [et, pls_snoc]
      exact putKs_rows (P := pls (ts.take i)) (q := t.pl)
    · rw [et, pls_snoc]
      exact putDs_rows (g := fun p => D.int (tsum (ts.take i) p)) (g' := fun p => D.int (tsum (ts.take i ++ [t]) p)) (P := pls (ts.take i)) (q := t.pl) (d := .int (tsum (ts.take i) t.pl + t.c)) (pls_nodup _) (by rw [tsum_snoc, if_pos rfl]) (fun p hp => by rw [tsum_snoc, if_neg (Ne.symm hp), Int.add_zero])
  · rintro ρ ⟨_, _, e5, e6, e7, e8, e9, rfl, rfl, rfl⟩
    rw [Nat.zero_add, List.length_map, List.take_length]
    have hl := pls_len ts
    have h3 : ∀ p ∈ pls ts, p.length = 2 + 1 := fun p hp => pls_three hp
    refine ⟨rfl, own_map fun _ => rfl, fun k hk => ?_, by rw [List.length_map, sizeLine_eq]; omega, sortOk_rows 2 h3, ?_⟩
    · obtain ⟨p, hp, rfl⟩ := List.mem_map.mp hk
      show (p.map D.int).length ≤ 1000
      rw [List.length_map, h3 p hp]; decide
    rw [sort_rows]
    refine ⟨compR_map rowD (fun p => if tsum ts p ≠ 0 then some (rowD (p ++ [tsum ts p])) else none) _ [] _ (fun p hp => ?_) (fun p _ y e => by split at e <;> cases e; rfl) ?_⟩
    · have hm : p ∈ pls ts := List.mem_mergeSort.mp hp
      have lk : dLook true ((pls ts).map rowD) ((pls ts).map fun p => .int (tsum ts p)) (rowD p) = some (.int (tsum ts p)) := by rw [look_rows, if_pos hm]
      refine ⟨row_keyOk p, pick_of lk rfl ⟨fun h => ?_, fun h => ?_⟩⟩
      · have hne : tsum ts p ≠ 0 := by simpa using h
        refine ⟨row_keyOk p, pick_of lk rfl ⟨?_, ?_, rfl⟩⟩
        · rw [List.length_map, h3 p hm]
          show (2 + 1 + 1 : Nat) ≤ sizeLine
          decide
        · rw [if_pos hne]
          unfold rowD
          rw [List.map_append]; rfl
      · have he : tsum ts p = 0 := by simpa using h
        refine ⟨?_, rfl⟩
        rw [if_neg (by simpa using he)]
    · have e : (canon ts).map rowD = ((pls ts).mergeSort leR).filterMap fun p => if tsum ts p ≠ 0 then some (rowD (p ++ [tsum ts p])) else none := by
        unfold canon
        rw [List.map_filterMap]
        congr 1
        funext p
        split <;> rfl
      rw [List.nil_append, ← e]
      exact q _
/-! ### value_of -/
/-- what the terms tell at k -/
def valAt (ts : List Tm) (xs ys : List Int) (k : Nat) : Int := ((ts.filter fun t => decide (t.k = (k : Int))).map fun t => t.c * xs.getD t.i.toNat 0 * ys.getD t.j.toNat 0).sum
def vals (m : Nat) (ts : List Tm) (xs ys : List Int) : List Int := (List.range m).map fun k => valAt ts xs ys k
def Wide64 (xs : List Int) : Prop := ∀ x ∈ xs, -(2 ^ 64) < x ∧ x < 2 ^ 64
structure Tm.fits (t : Tm) (m a b : Nat) : Prop where
  k0 : 0 ≤ t.k
  k1 : t.k < m
  i0 : 0 ≤ t.i
  i1 : t.i < a
  j0 : 0 ≤ t.j
  j1 : t.j < b
  c0 : -(2 ^ 64) < t.c
  c1 : t.c < 2 ^ 64
theorem valAt_snoc (ts : List Tm) (t : Tm) (xs ys : List Int) (k : Nat) : valAt (ts ++ [t]) xs ys k = valAt ts xs ys k + (if t.k = (k : Int) then t.c * xs.getD t.i.toNat 0 * ys.getD t.j.toNat 0 else 0) := by
  unfold valAt
  rw [List.filter_append, List.map_append, List.sum_append]
  congr 1
  by_cases h : t.k = (k : Int)
  · rw [if_pos h, List.filter_cons, if_pos (by simpa using h)]; simp
  · rw [if_neg h, List.filter_cons, if_neg (by simpa using h)]; simp
def isNumsD (d : D) (xs : List Int) : Prop := d = rowD xs ∨ d = .lst .ice (xs.map D.int)
theorem atI_nums {xs : List Int} {k : Int} (h0 : 0 ≤ k) (h : k < xs.length) : atI (xs.map D.int) k = some (.int (xs.getD k.toNat 0)) := by
  obtain ⟨j, rfl⟩ : ∃ j : Nat, k = (j : Int) := ⟨k.toNat, by omega⟩
  have hj : j < xs.length := by omega
  refine atI_nat ?_
  rw [List.getElem?_map, List.getElem?_eq_getElem hj, List.getD_eq_getElem?_getD, show (j : Int).toNat = j from rfl, List.getElem?_eq_getElem hj]; rfl
theorem ixN_of {n : Nat} {k : Int} (h0 : 0 ≤ k) (h : k < n) : ixN n k = some k.toNat := by
  unfold ixN
  rw [if_pos h0, if_pos (by omega)]
def r_value_of : FSpec := fun ds _ Q => ∃ (l r : Int) (m : Nat) (o : Ow) (ts : List Tm) (dx dy : D) (xs ys : List Int), ds = [.tup false [.int l, .int r, .int m, .lst .ice (ts.map tmD)], dx, dy] ∧ isNumsD dx xs ∧ isNumsD dy ys ∧ m ≤ 1000000 ∧ (∀ t ∈ ts, t.fits m xs.length ys.length) ∧ Wide64 ys ∧
  ∀ os, Q (.lst .flat ((vals m ts xs ys).map D.int)) os
theorem rd_value_of : RD_value_of r_value_of := by
  rintro ds ED QD - ⟨l, r, m, o, ts, dx, dy, xs, ys, rfl, hx, hy, hm, hts, hw, q⟩
  refine ⟨by omega, by omega, by rw [sizeLine_eq]; simp; omega, ?_⟩
  refine ⟨forR_inv (fun k ρ => ∃ vs e4 e5 e6 e7, ρ = [some (.tup false [.int l, .int r, .int m, .lst .ice (ts.map tmD)]), some dx, some dy, some (.lst .flat vs), e4, e5, e6, e7] ∧ vs = (vals m (ts.take k) xs ys).map D.int) _ 0 _ ⟨_, _, _, _, _, rfl, ?_⟩ ?_ ?_⟩
  · have e := rep_ints m
    show (List.replicate (m : Int).toNat [D.int 0]).flatten = _
    rw [show (m : Int).toNat = m from rfl, e]
    congr 1
    apply List.ext_getElem?
    intro j
    unfold vals
    rw [List.getElem?_map, List.getElem?_replicate]
    by_cases hj : j < m
    · rw [if_pos hj, List.getElem?_range hj]; rfl
    · rw [if_neg hj, List.getElem?_eq_none (by simpa using hj)]; rfl
  · rintro i x ρ hx' ⟨_, e4, e5, e6, e7, rfl, rfl⟩
    rw [List.getElem?_map] at hx'
    obtain ⟨t, ht, rfl⟩ := Option.map_eq_some_iff.mp hx'
    rw [Nat.zero_add]
    have et : ts.take (i + 1) = ts.take i ++ [t] := by rw [List.take_succ, ht]; rfl
    have f := hts t (List.mem_of_getElem? ht)
    have lv : (vals m (ts.take i) xs ys).length = m := by unfold vals; rw [List.length_map, List.length_range]
    have k2 : t.k.toNat < m := by have := f.k0; have := f.k1; omega
    have gv : (vals m (ts.take i) xs ys).getD t.k.toNat 0 = valAt (ts.take i) xs ys t.k.toNat := by
      unfold vals
      rw [List.getD_eq_getElem?_getD, List.getElem?_map, List.getElem?_range k2]; rfl
    have ax := atI_nums f.i0 (by have := f.i1; omega : t.i < xs.length)
    have ay := atI_nums f.j0 (by have := f.j1; omega : t.j < ys.length)
    have wy := hw (ys.getD t.j.toNat 0) (by
      have : t.j.toNat < ys.length := by have := f.j0; have := f.j1; omega
      rw [List.getD_eq_getElem?_getD, List.getElem?_eq_getElem this]; exact List.getElem_mem this)
    refine ⟨rfl, intAt_of (a := valAt (ts.take i) xs ys t.k.toNat) ?_ ?_⟩
    · have := atI_nums (xs := vals m (ts.take i) xs ys) f.k0 (by rw [lv]; exact f.k1)
      rw [gv] at this; exact this
    have stp : ((vals m (ts.take i) xs ys).map D.int).set t.k.toNat (.int (valAt (ts.take i) xs ys t.k.toNat + t.c * xs.getD t.i.toNat 0 * ys.getD t.j.toNat 0)) = (vals m (ts.take (i + 1)) xs ys).map D.int := by
      apply List.ext_getElem?
      intro j
      have lm : ((vals m (ts.take i) xs ys).map D.int).length = m := by rw [List.length_map, lv]
      by_cases hj : t.k.toNat = j
      · subst hj
        rw [List.getElem?_set_self (by rw [lm]; exact k2)]
        unfold vals
        rw [List.map_map, List.getElem?_map, List.getElem?_range k2]
        rw [et]
        show some (D.int _) = some (D.int (valAt (ts.take i ++ [t]) xs ys t.k.toNat))
        rw [valAt_snoc, if_pos (by have := f.k0; omega)]
      · rw [List.getElem?_set_ne hj]
        unfold vals
        rw [List.map_map, List.map_map, List.getElem?_map, List.getElem?_map]
        cases e : (List.range m)[j]? with
        | none => rfl
        | some j' =>
          have : j' = j := by
            have h := List.getElem?_eq_some_iff.mp e
            obtain ⟨_, h⟩ := h
            rw [List.getElem_range] at h; exact h.symm
          subst this
          rw [et]
          show some (D.int (valAt (ts.take i) xs ys j')) = some (D.int (valAt (ts.take i ++ [t]) xs ys j'))
          rw [valAt_snoc, if_neg (by have := f.k0; omega), Int.add_zero]
    have idx : ixN ((vals m (ts.take i) xs ys).map D.int).length t.k = some t.k.toNat := ixN_of f.k0 (by rw [List.length_map, lv]; exact f.k1)
    rcases hx with rfl | rfl <;> rcases hy with rfl | rfl
    all_goals exact pick_of ax rfl ⟨mulL f.c0 f.c1, pick_of ay rfl ⟨mulR wy.1 wy.2, natAt_of idx ⟨_, _, _, _, _, rfl, stp⟩⟩⟩
  · rintro ρ ⟨_, e4, e5, e6, e7, rfl, rfl⟩
    rw [Nat.zero_add, List.length_map, List.take_length]
    exact q _
/-! ### rows drawn -/
def InT (xs : List Int) : Prop := ∀ x ∈ xs, -(10 ^ 12) ≤ x ∧ x ≤ 10 ^ 12
def r_law_row : FSpec := fun ds _ Q => ∃ (b : Bx) (n : Int), ds = [bxD b, .int n] ∧ (0 ≤ n ∧ n ≤ 1000) ∧ ∀ xs (b' : Bx) tl, xs.length = n.toNat → InT xs → Q (.lst .flat (xs.map D.int)) (some (bxD b') :: tl)
theorem rd_law_row : RD_law_row r_law_row r_law_take := by
  rintro ds ED QD - ⟨b, n, rfl, ⟨n0, n1⟩, q⟩
  refine ⟨b, 4, rfl, by decide, fun x b _ x0 x1 => ?_⟩
  refine pick_int 9 (10 ^ 12) x0 (by simpa using x1) (by simp only [inBd, and_true]; omega) fun v v0 v1 => ?_
  refine ⟨⟨by decide, by omega, by omega⟩, ⟨compR_draw 0 D.int (fun _ x => -(10 ^ 12) ≤ x ∧ x ≤ 10 ^ 12) _ _ b (fun _ => rfl) (fun i d b hd => ?_) fun xs b hl hx => ?_⟩⟩
  · exact ⟨fun _ => ⟨b, _, rfl, ⟨(by (try dsimp only); omega), (by (try dsimp only); omega)⟩, fun x b' tl x1 x2 => ⟨x - v, b', rfl, by (have x2 : x < 2 * v + 1 := x2); omega, rfl⟩⟩, fun h => (nomatch h)⟩
  · exact q xs b _ (by rw [hl, rgD_len]; omega) (all_in hx)
/-! ### rings -/
def ringT (n : Nat) (turn : Int) (i : Nat) : List Tm := (List.range n).map fun (j : Nat) => ⟨((i : Int) + j) % n, i, j, if (i : Int) + j < n then 1 else turn⟩
def ringTs (n : Nat) (turn : Int) (k : Nat) : List Tm := (List.range k).flatMap (ringT n turn)
theorem ringTs_succ (n : Nat) (turn : Int) (k : Nat) : ringTs n turn (k + 1) = ringTs n turn k ++ ringT n turn k := by
  unfold ringTs
  rw [List.range_succ, List.flatMap_append]; simp
theorem ringTs_len (n : Nat) (turn : Int) : ∀ k, (ringTs n turn k).length = k * n
  | 0 => by simp [ringTs]
  | k + 1 => by rw [ringTs_succ, List.length_append, ringTs_len n turn k, Nat.succ_mul]; simp [ringT]
def r_ring_task : FSpec := fun ds _ Q => ∃ (n : Nat) (turn : Int), ds = [.int n, .int turn] ∧ 1 ≤ n ∧ n ≤ 1000 ∧ ∀ os, Q (.tup true [.int n, .int n, .int n, .lst .flat ((canon (ringTs n turn n)).map rowD)]) os
theorem rd_ring_task : RD_ring_task r_ring_task r_task_of := by
  rintro ds ED QD - ⟨n, turn, rfl, n0, n1, q⟩
  refine ⟨⟨by decide, by omega, by omega⟩, ⟨forR_inv (fun k ρ => ∃ vs e3 e4, ρ = [some (.int n), some (.int turn), some (.lst .flat vs), e3, e4] ∧ vs = (ringTs n turn k).map tmD) _ 0 _ ⟨_, _, _, rfl, rfl⟩ ?_ ?_⟩⟩
  · rintro i x ρ hx ⟨_, e3, e4, rfl, rfl⟩
    obtain ⟨rfl, hi⟩ := rgD_at hx
    have hi : i < n := by omega
    refine ⟨⟨by decide, by omega, by omega⟩, ⟨compR_all (fun j : Nat => D.int (0 + (j : Int))) (fun j => tmD ⟨((i : Int) + j) % n, i, j, if (i : Int) + j < n then 1 else turn⟩) (List.range ((n : Int) - 0).toNat) _ (fun j hj => ?_) (fun _ => rfl) ?_⟩⟩
    · refine ⟨fun _ => ⟨by omega, fun h => ⟨?_, rfl⟩, fun h => ⟨?_, rfl⟩⟩, fun h => (nomatch h)⟩
      · have h : 0 + (i : Int) + (0 + j) < n := by simpa using h
        rw [if_pos (by omega), Int.zero_add, Int.zero_add]; rfl
      · have h : ¬ 0 + (i : Int) + (0 + j) < n := by simpa using h
        rw [if_neg (by omega), Int.zero_add, Int.zero_add]; rfl
    · refine ⟨rfl, ?_, _, _, _, rfl, ?_⟩
      · rw [List.length_map, List.length_map, List.length_range, Nat.zero_add, ringTs_len, sizeLine_eq]
        have : i * n ≤ 1000 * 1000 := Nat.mul_le_mul (by omega) (by omega)
        omega
      · rw [Nat.zero_add, ringTs_succ, List.map_append]
        congr 1
        unfold ringT
        rw [List.map_map, show ((n : Int) - 0).toNat = n by omega]; rfl
  · rintro ρ ⟨_, e3, e4, rfl, rfl⟩
    have hn : 0 + (rgD 0 n).length = n := by rw [rgD_len]; omega
    rw [hn]
    exact ⟨n, n, n, .ice, ringTs n turn n, rfl, rfl, by rw [ringTs_len]; have : n * n ≤ 1000 * 1000 := Nat.mul_le_mul (by omega) (by omega); omega, fun _ => q _⟩
/-! ### lines -/
def lineT (m : Nat) (i : Nat) : List Tm := (List.range m).map fun (j : Nat) => ⟨(i : Int) + j, i, j, 1⟩
def lineTs (m : Nat) (k : Nat) : List Tm := (List.range k).flatMap (lineT m)
theorem lineTs_succ (m k : Nat) : lineTs m (k + 1) = lineTs m k ++ lineT m k := by
  unfold lineTs
  rw [List.range_succ, List.flatMap_append]; simp
theorem lineTs_len (m : Nat) : ∀ k, (lineTs m k).length = k * m
  | 0 => by simp [lineTs]
  | k + 1 => by rw [lineTs_succ, List.length_append, lineTs_len m k, Nat.succ_mul]; simp [lineT]
def r_line_task : FSpec := fun ds _ Q => ∃ (n m : Nat), ds = [.int n, .int m] ∧ 1 ≤ n ∧ n ≤ 1000 ∧ 1 ≤ m ∧ m ≤ 1000 ∧ ∀ os, Q (.tup true [.int n, .int m, .int ((n : Int) + m - 1), .lst .flat ((canon (lineTs m n)).map rowD)]) os
theorem rd_line_task : RD_line_task r_line_task r_task_of := by
  rintro ds ED QD - ⟨n, m, rfl, n0, n1, m0, m1, q⟩
  refine ⟨⟨by decide, by omega, by omega⟩, ⟨forR_inv (fun k ρ => ∃ vs e3 e4, ρ = [some (.int n), some (.int m), some (.lst .flat vs), e3, e4] ∧ vs = (lineTs m k).map tmD) _ 0 _ ⟨_, _, _, rfl, rfl⟩ ?_ ?_⟩⟩
  · rintro i x ρ hx ⟨_, e3, e4, rfl, rfl⟩
    obtain ⟨rfl, hi⟩ := rgD_at hx
    have hi : i < n := by omega
    refine ⟨⟨by decide, by omega, by omega⟩, ⟨compR_all (fun j : Nat => D.int (0 + (j : Int))) (fun j => tmD ⟨(i : Int) + j, i, j, 1⟩) (List.range ((m : Int) - 0).toNat) _ (fun j hj => ⟨fun _ => ⟨?_, rfl⟩, fun h => (nomatch h)⟩) (fun _ => rfl) ?_⟩⟩
    · rw [Int.zero_add, Int.zero_add]; rfl
    · refine ⟨rfl, ?_, _, _, _, rfl, ?_⟩
      · rw [List.length_map, List.length_map, List.length_range, Nat.zero_add, lineTs_len, sizeLine_eq]
        have : i * m ≤ 1000 * 1000 := Nat.mul_le_mul (by omega) (by omega)
        omega
      · rw [Nat.zero_add, lineTs_succ, List.map_append]
        congr 1
        unfold lineT
        rw [List.map_map, show ((m : Int) - 0).toNat = m by omega]; rfl
  · rintro ρ ⟨_, e3, e4, rfl, rfl⟩
    have hn : 0 + (rgD 0 n).length = n := by rw [rgD_len]; omega
    rw [hn]
    exact ⟨n, m, _, .ice, lineTs m n, rfl, rfl, by rw [lineTs_len]; have : n * m ≤ 1000 * 1000 := Nat.mul_le_mul (by omega) (by omega); omega, fun _ => q _⟩
/-! ### tasks whose places differ -/
theorem le_app : ∀ {a b : List Int} (x y : List Int), a.length = b.length → a ≠ b → (leR (a ++ x) (b ++ y) = leR a b)
  | [], [], _, _, _, h => absurd rfl h
  | [], _ :: _, _, _, h, _ => by cases h
  | _ :: _, [], _, _, h, _ => by cases h
  | p :: a, q :: b, x, y, hl, hn => by
    simp only [leR, List.cons_append]
    rw [decide_eq_decide, List.cons_le_cons_iff, List.cons_le_cons_iff]
    by_cases e : p = q
    · subst e
      have hn : a ≠ b := fun z => hn (by rw [z])
      have ih := le_app x y (by simpa using hl) hn
      simp only [leR, decide_eq_decide] at ih
      rw [ih]
    · constructor
      · rintro (h | ⟨h, _⟩)
        · exact .inl h
        · exact absurd h e
      · rintro (h | ⟨h, _⟩)
        · exact .inl h
        · exact absurd h e
theorem fm_map {α β : Type} {f : α → Option β} {g : α → β} : ∀ (l : List α), (∀ x ∈ l, f x = some (g x)) → l.filterMap f = l.map g
  | [], _ => rfl
  | x :: l, h => by rw [List.filterMap_cons, h x List.mem_cons_self, List.map_cons, fm_map l fun y hy => h y (List.mem_cons_of_mem _ hy)]
theorem pls_distinct {ts : List Tm} (h : (ts.map Tm.pl).Nodup) : pls ts = ts.map Tm.pl := by
  refine snoc_ind (C := fun ts => (ts.map Tm.pl).Nodup → pls ts = ts.map Tm.pl) (fun _ => rfl) (fun l a ih h => ?_) ts h
  rw [List.map_append, List.nodup_append] at h
  rw [pls_snoc, ih h.1, List.map_append]
  unfold addP
  rw [if_neg fun hm => h.2.2 _ hm _ (by simp) rfl]; rfl
theorem tsum_distinct {ts : List Tm} (h : (ts.map Tm.pl).Nodup) {t : Tm} (ht : t ∈ ts) : tsum ts t.pl = t.c := by
  refine snoc_ind (C := fun ts => (ts.map Tm.pl).Nodup → t ∈ ts → tsum ts t.pl = t.c) (fun _ h => (nomatch h)) (fun l a ih h ht => ?_) ts h ht
  rw [List.map_append, List.nodup_append] at h
  rw [tsum_snoc]
  rcases List.mem_append.mp ht with hl | ha
  · rw [ih h.1 hl, if_neg fun z => h.2.2 t.pl (List.mem_map.mpr ⟨t, hl, rfl⟩) a.pl (by simp) z.symm, Int.add_zero]
  · have ha : t = a := by simpa using ha
    subst ha
    rw [if_pos rfl, tsum_out fun z => by
      obtain ⟨u, hu, e⟩ := (mem_pls l t.pl).mp z
      exact h.2.2 u.pl (List.mem_map.mpr ⟨u, hu, rfl⟩) t.pl (by simp) e, Int.zero_add]
theorem canon_distinct {ts : List Tm} (h : (ts.map Tm.pl).Nodup) (hc : ∀ t ∈ ts, t.c ≠ 0) : canon ts = (ts.map Tm.row).mergeSort leR := by
  unfold canon
  rw [pls_distinct h]
  have e1 : ((ts.map Tm.pl).mergeSort leR).filterMap (fun p => if tsum ts p ≠ 0 then some (p ++ [tsum ts p]) else none) = ((ts.map Tm.pl).mergeSort leR).map fun p => p ++ [tsum ts p] := by
    refine fm_map _ fun p hp => ?_
    obtain ⟨t, ht, rfl⟩ := List.mem_map.mp (List.mem_mergeSort.mp hp)
    rw [tsum_distinct h ht, if_pos (hc t ht)]
  rw [e1, List.map_mergeSort (r := leR) (s := leR) (f := fun p => p ++ [tsum ts p]) fun a ha b hb => ?_, List.map_map]
  · congr 1
    refine List.map_congr_left fun t ht => ?_
    show t.pl ++ [tsum ts t.pl] = t.row
    rw [tsum_distinct h ht]; rfl
  · obtain ⟨t, ht, rfl⟩ := List.mem_map.mp ha
    obtain ⟨u, hu, rfl⟩ := List.mem_map.mp hb
    by_cases e : t.pl = u.pl
    · rw [e]
      simp only [leR]
      rw [decide_eq_true (List.le_refl _), decide_eq_true (List.le_refl _)]
    · exact (le_app (a := t.pl) (b := u.pl) _ _ rfl e).symm
/-! ### what terms tell, in any order -/
theorem valAt_append (ts us : List Tm) (xs ys : List Int) (k : Nat) : valAt (ts ++ us) xs ys k = valAt ts xs ys k + valAt us xs ys k := by
  unfold valAt
  rw [List.filter_append, List.map_append, List.sum_append]
theorem valAt_cons (t : Tm) (ts : List Tm) (xs ys : List Int) (k : Nat) : valAt (t :: ts) xs ys k = (if t.k = (k : Int) then t.c * xs.getD t.i.toNat 0 * ys.getD t.j.toNat 0 else 0) + valAt ts xs ys k := by
  rw [← List.singleton_append, valAt_append]
  congr 1
  have := valAt_snoc [] t xs ys k
  rw [List.nil_append] at this
  rw [this]
  show (0 : Int) + _ = _
  rw [Int.zero_add]
theorem valAt_perm {ts us : List Tm} (p : ts.Perm us) (xs ys : List Int) (k : Nat) : valAt ts xs ys k = valAt us xs ys k := by
  induction p with
  | nil => rfl
  | cons t _ ih => rw [valAt_cons, valAt_cons, ih]
  | swap a b l => rw [valAt_cons, valAt_cons, valAt_cons, valAt_cons]; omega
  | trans _ _ ih1 ih2 => exact ih1.trans ih2
theorem vals_perm {m : Nat} {ts us : List Tm} (p : ts.Perm us) (xs ys : List Int) : vals m ts xs ys = vals m us xs ys := List.map_congr_left fun k _ => valAt_perm p xs ys k
/-- terms in the order of their rows -/
def sortT (ts : List Tm) : List Tm := ts.mergeSort fun a b => leR a.row b.row
theorem sortT_perm (ts : List Tm) : (sortT ts).Perm ts := List.mergeSort_perm ts _
theorem sortT_row (ts : List Tm) : (ts.map Tm.row).mergeSort leR = (sortT ts).map Tm.row := by
  unfold sortT
  exact (List.map_mergeSort (r := fun a b : Tm => leR a.row b.row) (s := leR) (f := Tm.row) fun _ _ _ _ => rfl).symm
theorem canon_sortT {ts : List Tm} (h : (ts.map Tm.pl).Nodup) (hc : ∀ t ∈ ts, t.c ≠ 0) : (canon ts).map rowD = (sortT ts).map tmD := by
  rw [canon_distinct h hc, sortT_row, List.map_map]; rfl
theorem sortD_tms (ts : List Tm) : sortD (ts.map tmD) = (sortT ts).map tmD := by
  have : ts.map tmD = (ts.map Tm.row).map rowD := by rw [List.map_map]; rfl
  rw [this, sort_rows, sortT_row, List.map_map]; rfl
/-! ### the terms of a task -/
def tmOf (p : List Int) (c : Int) : Tm := ⟨p.getD 0 0, p.getD 1 0, p.getD 2 0, c⟩
def canonT (ts : List Tm) : List Tm := ((pls ts).mergeSort leR).filterMap fun p => if tsum ts p ≠ 0 then some (tmOf p (tsum ts p)) else none
theorem tmOf_pl {p : List Int} {c : Int} (h : p.length = 3) : (tmOf p c).pl = p ∧ (tmOf p c).row = p ++ [c] := by
  match p, h with
  | [a, b, d], _ => exact ⟨rfl, rfl⟩
theorem fm_congr {α β : Type} {f g : α → Option β} : ∀ {l : List α}, (∀ x ∈ l, f x = g x) → l.filterMap f = l.filterMap g
  | [], _ => rfl
  | x :: l, h => by rw [List.filterMap_cons, List.filterMap_cons, h x List.mem_cons_self, fm_congr fun y hy => h y (List.mem_cons_of_mem _ hy)]
theorem fm_if {α β : Type} {p : α → Prop} [DecidablePred p] {f : α → β} : ∀ (l : List α), l.filterMap (fun t => if p t then some (f t) else none) = (l.filter fun t => decide (p t)).map f
  | [] => rfl
  | t :: l => by
    rw [List.filterMap_cons, List.filter_cons]
    by_cases h : p t
    · rw [if_pos h, if_pos (by simpa using h), List.map_cons, fm_if l]
    · rw [if_neg h, if_neg (by simpa using h), fm_if l]
theorem canon_T (ts : List Tm) : (canon ts).map rowD = (canonT ts).map tmD := by
  unfold canon canonT
  rw [List.map_filterMap, List.map_filterMap]
  refine fm_congr fun p hp => ?_
  have h3 := pls_three (List.mem_mergeSort.mp hp)
  by_cases h : tsum ts p ≠ 0
  · rw [if_pos h, if_pos h]
    show some (rowD _) = some (rowD _)
    rw [(tmOf_pl h3).2]
  · rw [if_neg h, if_neg h]; rfl
theorem canonT_mem {ts : List Tm} {t : Tm} (h : t ∈ canonT ts) : (∃ u ∈ ts, t.pl = u.pl) ∧ t.c = tsum ts t.pl ∧ t.c ≠ 0 := by
  unfold canonT at h
  obtain ⟨p, hp, e⟩ := List.mem_filterMap.mp h
  have hp := List.mem_mergeSort.mp hp
  have h3 := pls_three hp
  split at e
  · rename_i hn
    cases e
    obtain ⟨u, hu, eu⟩ := (mem_pls ts p).mp hp
    rw [(tmOf_pl h3).1]
    exact ⟨⟨u, hu, eu.symm⟩, rfl, hn⟩
  · cases e
theorem sum_bd {B : Int} (hB : 0 ≤ B) : ∀ (l : List Int), (∀ x ∈ l, -B ≤ x ∧ x ≤ B) → -(l.length * B) ≤ l.sum ∧ l.sum ≤ l.length * B
  | [], _ => by simp
  | x :: l, h => by
    have h1 := h x List.mem_cons_self
    have h2 := sum_bd hB l fun y hy => h y (List.mem_cons_of_mem _ hy)
    rw [List.sum_cons, List.length_cons]
    have : ((l.length + 1 : Nat) : Int) * B = l.length * B + B := by rw [Int.natCast_add, Int.add_mul]; simp
    omega
theorem tsum_bd {B : Int} (hB : 0 ≤ B) {ts : List Tm} (h : ∀ t ∈ ts, -B ≤ t.c ∧ t.c ≤ B) (p : List Int) : -(ts.length * B) ≤ tsum ts p ∧ tsum ts p ≤ ts.length * B := by
  have h1 := sum_bd hB ((ts.filter fun t => decide (t.pl = p)).map fun t => t.c) fun x hx => by
    obtain ⟨t, ht, rfl⟩ := List.mem_map.mp hx
    exact h t (List.mem_filter.mp ht).1
  rw [List.length_map] at h1
  have h2 : ((ts.filter fun t => decide (t.pl = p)).length : Int) * B ≤ ts.length * B := Int.mul_le_mul_of_nonneg_right (by have := List.length_filter_le (fun t : Tm => decide (t.pl = p)) ts; omega) hB
  unfold tsum
  omega
/-- a term of places below m, a, b and a number within B -/
structure Tm.inB (t : Tm) (m a b : Int) (B : Int) : Prop where
  k0 : 0 ≤ t.k
  k1 : t.k < m
  i0 : 0 ≤ t.i
  i1 : t.i < a
  j0 : 0 ≤ t.j
  j1 : t.j < b
  c0 : -B ≤ t.c
  c1 : t.c ≤ B
theorem canonT_in {ts : List Tm} {m a b B : Int} (hB : 0 ≤ B) (h : ∀ t ∈ ts, t.inB m a b B) : ∀ t ∈ canonT ts, t.inB m a b (ts.length * B) := fun t ht => by
  obtain ⟨⟨u, hu, e⟩, ec, _⟩ := canonT_mem ht
  have f := h u hu
  have bd := tsum_bd hB (fun t ht => ⟨(h t ht).c0, (h t ht).c1⟩) t.pl
  rw [← ec] at bd
  simp only [Tm.pl, List.cons.injEq, and_true] at e
  obtain ⟨e1, e2, e3⟩ := e
  exact ⟨by rw [e1]; exact f.k0, by rw [e1]; exact f.k1, by rw [e2]; exact f.i0, by rw [e2]; exact f.i1, by rw [e3]; exact f.j0, by rw [e3]; exact f.j1, bd.1, bd.2⟩
theorem Tm.inB.fits {t : Tm} {m a b B : Int} {m' a' b' : Nat} (h : t.inB m a b B) (hm : m ≤ m') (ha : a ≤ a') (hb : b ≤ b') (hB : B < 2 ^ 64) : t.fits m' a' b' :=
  ⟨h.k0, by have := h.k1; omega, h.i0, by have := h.i1; omega, h.j0, by have := h.j1; omega, by have := h.c0; omega, by have := h.c1; omega⟩
theorem vals_succ (k : Nat) (ts : List Tm) (xs ys : List Int) : vals (k + 1) ts xs ys = vals k ts xs ys ++ [valAt ts xs ys k] := by
  unfold vals
  rw [List.range_succ, List.map_append]; rfl
theorem valAt_add (ts : List Tm) (xs zs ys : List Int) (k : Nat) (hl : xs.length = zs.length) : valAt ts ((xs.zip zs).map fun p => p.1 + p.2) ys k = valAt ts xs ys k + valAt ts zs ys k := by
  induction ts with
  | nil => rfl
  | cons t ts ih =>
    rw [valAt_cons, valAt_cons, valAt_cons, ih]
    have e : ∀ j, ((xs.zip zs).map fun p => p.1 + p.2).getD j 0 = xs.getD j 0 + zs.getD j 0 := fun j => by
      rw [List.getD_eq_getElem?_getD, List.getD_eq_getElem?_getD, List.getD_eq_getElem?_getD, List.getElem?_map]
      by_cases h : j < xs.length
      · have h2 : j < zs.length := by omega
        rw [List.getElem?_eq_getElem (by rw [List.length_zip]; omega), List.getElem_zip, List.getElem?_eq_getElem h, List.getElem?_eq_getElem h2]; rfl
      · rw [List.getElem?_eq_none (by rw [List.length_zip]; omega), List.getElem?_eq_none (by omega), List.getElem?_eq_none (by omega)]; rfl
    rw [e]
    split
    · rw [Int.mul_add, Int.add_mul]; omega
    · omega
theorem valAt_smul (ts : List Tm) (xs ys : List Int) (c : Int) (k : Nat) : valAt ts xs (ys.map fun y => c * y) k = c * valAt ts xs ys k := by
  induction ts with
  | nil => exact (Int.mul_zero c).symm
  | cons t ts ih =>
    rw [valAt_cons, valAt_cons, ih, Int.mul_add]
    have e : ∀ j, (ys.map fun y => c * y).getD j 0 = c * ys.getD j 0 := fun j => by
      rw [List.getD_eq_getElem?_getD, List.getD_eq_getElem?_getD, List.getElem?_map]
      cases ys[j]? with
      | none => exact (Int.mul_zero c).symm
      | some y => rfl
    rw [e]
    split
    · rw [Int.mul_left_comm]
    · rw [Int.mul_zero]
theorem vals_len (m : Nat) (ts : List Tm) (xs ys : List Int) : (vals m ts xs ys).length = m := by unfold vals; rw [List.length_map, List.length_range]
theorem vals_add (m : Nat) (ts : List Tm) (xs zs ys : List Int) (hl : xs.length = zs.length) : ((vals m ts xs ys).zip (vals m ts zs ys)).map (fun p => D.int (p.1 + p.2)) = (vals m ts ((xs.zip zs).map fun p => p.1 + p.2) ys).map D.int := by
  unfold vals
  rw [List.zip_map', List.map_map, List.map_map]
  refine List.map_congr_left fun k _ => ?_
  exact congrArg D.int (valAt_add ts xs zs ys k hl).symm
theorem vals_smul (m : Nat) (ts : List Tm) (xs ys : List Int) (c : Int) : vals m ts xs (ys.map fun y => c * y) = (vals m ts xs ys).map fun v => c * v := by
  unfold vals
  rw [List.map_map]
  exact List.map_congr_left fun k _ => valAt_smul ts xs ys c k
end Cm
/-! FL32: isinstance(x, (T, U)). -/
namespace FL
open PySem PySem.Spec PyProof.Rows L2 RT
def dIsi2 : DC
  | [d, .tup false [.ty n, .ty m]], Q => match isTy d n with
    | some b => match isTy d m with
      | some c => Q (.bl (b || c))
      | none => False
    | none => False
  | _, _ => False
theorem isTy_of {d : D} {n : String} {b : Bool} (h : isTy d n = some b) : ∃ a, tyOf d = some a ∧ n ∈ tyKnown ∧ b = subTy a n := by
  unfold isTy at h
  split at h
  · rename_i a e
    split at h
    · rename_i hk
      cases h
      exact ⟨a, e, by simpa using hk, rfl⟩
    · cases h
  · cases h
section
variable {X : Cx}
theorem fc_isi2 : FC X (.builtin "isinstance") dIsi2 := by
  refine ⟨_, call_isiT, fun τ w σ ρ vs ds Q Qv hn st rs hd hq => ?_⟩
  unfold dIsi2 at hd
  split at hd
  · rename_i d n m
    obtain ⟨v, u, ℓ, ℓ', rfl, r, r'⟩ := reps2 rs
    obtain ⟨tp, us, rfl, h1, h2⟩ := tup_at st.wf r'
    simp only [RepL, Rep] at h2
    obtain ⟨_, _, rfl, rfl, _, _, rfl, rfl, rfl⟩ := h2
    split at hd
    · rename_i b eb
      split at hd
      · rename_i c ec
        obtain ⟨a, ea, hn1, rfl⟩ := isTy_of eb
        obtain ⟨a', ea', hm1, rfl⟩ := isTy_of ec
        rw [ea] at ea'; cases ea'
        obtain ⟨ty, hm⟩ := tyOf_rep st.wf r ea
        refine ⟨v, tp, _, .type a, [.type n, .type m], subTy a n || subTy a m, rfl, h1, .cons (.ty n) (.cons (.ty m) .nil), ty, ?_, hq _ w _ hd (.refl st) rfl⟩
        have k1 := kit_ty (K := X.K) (kit_known a hm n hn1)
        have k2 := kit_ty (K := X.K) (kit_known a hm m hm1)
        simp only [PySem.W.kitAny, k1, k2]
        cases subTy a n <;> cases subTy a m <;> rfl
      · exact hd.elim
    · exact hd.elim
  · exact hd.elim
end
end FL
/-! FL33: == of dicts whose keys are tuples (values ints). -/
namespace PySem.W
open PySem PySem.Calls PyProof.Rows PyProof.V PySem.Spec
section
variable {prog : Program} {w : World} {K : Type} [DecidableEq K] {knd : HeapKind prog w K} {A : Around} {E : Value → Shared → Prop} {s : Shared}
inductive HitsH {K : Type} [DecidableEq K] (prog : Program) (w : World) (A : Around) (s : Shared) (xb : List (K × Addr × Value)) : List (K × Addr × Value) → Bool → Prop
  | nil : HitsH prog w A s xb [] true
  | miss {k : K} {p : Addr × Value} {r : List (K × Addr × Value)} : atKey xb k = none → HitsH prog w A s xb ((k, p) :: r) false
  | hit {k : K} {p q : Addr × Value} {r : List (K × Addr × Value)} {e b : Bool} : atKey xb k = some q → SeqAt.EqP prog w A s p.2 q.2 e → HitsH prog w A s xb r b → HitsH prog w A s xb ((k, p) :: r) (e && b)
theorem HitsH.inv {xb : List (K × Addr × Value)} {k : K} {p : Addr × Value} {r : List (K × Addr × Value)} {b : Bool} (h : HitsH prog w A s xb ((k, p) :: r) b) :
    (atKey xb k = none ∧ b = false) ∨ ∃ y e b', atKey xb k = some y ∧ SeqAt.EqP prog w A s p.2 y.2 e ∧ HitsH prog w A s xb r b' ∧ b = (e && b') := by
  cases h with
  | miss hn => exact .inl ⟨hn, rfl⟩
  | hit hy he hr => exact .inr ⟨_, _, _, hy, he, hr, rfl⟩
theorem samePairsH {nm : String} {a b : Addr} {xa xb : List (K × Addr × Value)} {r : Bool} {Q : Bool → Shared → Prop} (ha : (a == sysModules) = false) (hb : (b == sysModules) = false) (hu : knd.room A)
    (da : s.heap.DictOfH knd a xa) (db : s.heap.DictOfH knd b xb) (hits : xa.length = xb.length → HitsH prog w A s xb xa r) (h : Q (xa.length == xb.length && r) s) :
    wpAny (model prog w) A (Builtin.Dict.samePairs nm a b) Q E s := by
  obtain ⟨oa, es, ep, hoa, _, hda, hea, hisa, hna⟩ := da
  obtain ⟨ob, es', ep', hob, _, hdb, heb, hisb, hnb⟩ := db
  have hla : xa.length = es.size := (size_of_entries hea).symm
  have hlb : xb.length = es'.size := (size_of_entries heb).symm
  rw [hla, hlb] at h
  unfold Builtin.Dict.samePairs Builtin.Dict.showsAll
  rw [if_neg (show ¬ (a == sysModules) = true by rw [ha]; exact Bool.false_ne_true), if_neg (show ¬ (b == sysModules) = true by rw [hb]; exact Bool.false_ne_true)]
  refine wpAny_bind (wpAny_pure (wpAny_bind (wpAny_pure ?_)))
  refine wpAny_bind (wpAny_dictEntries hoa hda ?_)
  dsimp only
  refine wpAny_bind (wpAny_dictEntries hob hdb ?_)
  by_cases hsz : es.size = es'.size
  case neg =>
    rw [if_pos (by simpa using hsz)]
    have hbf : (es.size == es'.size) = false := by simpa using hsz
    rw [hbf, Bool.false_and] at h
    exact wpAny_bind (wpAny_rule (wpAny_pure h))
  case pos =>
    have h' : Q r s := by simpa [hsz] using h
    have hits' := hits (by rw [hla, hlb]; exact hsz)
    rw [if_neg (by rw [hsz]; simp)]
    refine wpAny_bind (wpAny_dictEpoch hoa hda ?_)
    refine wpAny_bind ?_
    rw [Std.Legacy.Range.forIn_eq_forIn_range']
    simp only [Std.Legacy.Range.size, Nat.sub_zero, Nat.add_sub_cancel, Nat.div_one]
    refine wpAny_forIn_list _
      (fun rest q s' => s' = s ∧ q = (none, ()) ∧ ∃ i, rest = List.range' i (es.size - i) ∧ i ≤ es.size ∧ HitsH prog w A s xb (xa.drop i) r)
      _ ?_ ?_ _ _ ⟨rfl, rfl, 0, by simp, Nat.zero_le _, hits'⟩
    · rintro x rest q s' ⟨rfl, rfl, i, hr, hi, hpre⟩
      have hlt : i < es.size := by
        rcases Nat.lt_or_ge i es.size with h | h
        · exact h
        · rw [Nat.sub_eq_zero_of_le h] at hr; simp at hr
      obtain ⟨rfl, hrest⟩ : x = i ∧ rest = List.range' (i + 1) (es.size - (i + 1)) := by
        have e : es.size - i = (es.size - (i + 1)) + 1 := by omega
        rw [e, List.range'_succ] at hr
        injection hr with h1 h2
        exact ⟨h1, h2⟩
      refine wpAny_bind (wpAny_dictEntries hoa hda ?_)
      rw [Array.getElem?_eq_getElem hlt]
      have hlt' : x < xa.length := by rw [hla]; exact hlt
      obtain ⟨k, p, hkv⟩ : ∃ k p, xa[x] = (k, p) := ⟨_, _, rfl⟩
      have hdrop : xa.drop x = (k, p) :: xa.drop (x + 1) := by rw [← hkv]; exact List.drop_eq_getElem_cons hlt'
      have hent : es[x] = entryOfKey knd (k, p) := by
        have := entry_at hea x
        rw [Array.getElem?_eq_getElem hlt, List.getElem?_eq_getElem hlt', hkv] at this
        exact Option.some.inj this
      have hkey : knd.is s'.heap k p.1 := by
        have := hisa _ (List.getElem_mem hlt')
        rw [hkv] at this
        exact this
      rw [hdrop] at hpre
      show wpAny _ _ (holding [es[x].key, es[x].val] _ >>= _) _ _ _
      rw [hent]
      show wpAny _ _ (holding [Value.ref p.1, p.2] _ >>= _) _ _ _
      refine wpAny_bind (wpAny_holding (wpAny_bind (wpAny_dictFind_heap hu hkey hob hdb heb hisb hnb (fun hn => ?_) (fun j q hj => ?_))))
      · have hn : atKey xb k = none := atKey_none_of_get hn
        rcases hpre.inv with ⟨_, er⟩ | ⟨y, _, _, hy, _⟩
        · rw [er] at h'
          refine wpAny_pure ?_
          show wpAny _ _ (if (!false) = true then _ else _) _ _ _
          rw [if_pos (by decide)]
          exact wpAny_pure (wpAny_pure h')
        · rw [hn] at hy; exact nomatch hy
      · have hv' : atKey xb k = some q := atKey_of_get hnb hj
        have hjlt : j < es'.size := by rw [← hlb]; exact (List.getElem?_eq_some_iff.mp hj).1
        have hentb : es'[j] = entryOfKey knd (k, q) := by
          have := entry_at heb j
          rw [Array.getElem?_eq_getElem hjlt, hj] at this
          exact Option.some.inj this
        refine wpAny_bind (wpAny_dictEntries hob hdb ?_)
        rw [Array.getElem?_eq_getElem hjlt]
        rcases hpre.inv with ⟨hn, _⟩ | ⟨y, e, b', hy, he, hrr, er⟩
        · rw [hv'] at hn; exact nomatch hn
        · have ey : q = y := Option.some.inj (hv'.symm.trans hy)
          rw [← ey] at he
          have he : SeqAt.EqP prog w A s' p.2 es'[j].val e := by rw [hentb]; exact he
          refine wpAny_holding (he _ _ ?_)
          cases e with
          | false =>
            rw [er, Bool.false_and] at h'
            show wpAny _ _ (if (!false) = true then _ else _) _ _ _
            rw [if_pos (by decide)]
            exact wpAny_pure (wpAny_pure h')
          | true =>
            rw [Bool.true_and] at er
            rw [← er] at hrr
            show wpAny _ _ (if (!true) = true then _ else _) _ _ _
            rw [if_neg (by decide)]
            refine wpAny_bind (wpAny_dictEpoch hoa hda ?_)
            rw [if_neg (by simp)]
            exact wpAny_pure ⟨rfl, rfl, x + 1, hrest, hlt, hrr⟩
    · rintro q s' ⟨rfl, rfl, i, hr, hi, hpre⟩
      have hin : i = es.size := by
        rcases Nat.lt_or_ge i es.size with h | h
        · have e : es.size - i = (es.size - (i + 1)) + 1 := by omega
          rw [e, List.range'_succ] at hr; exact nomatch hr
        · exact Nat.le_antisymm hi h
      refine wpAny_pure ?_
      rw [hin, ← hla, List.drop_length] at hpre
      cases hpre
      exact h'
end
end PySem.W
namespace PySem.W
open PySem PySem.Calls PyProof.Rows PyProof.V PySem.Spec
section
variable {prog : Program} {w : World} {K : Type} [DecidableEq K] {knd : HeapKind prog w K} {A : Around} {E : Value → Shared → Prop} {s : Shared}
theorem eqH {a b : Addr} {xa xb : List (K × Addr × Value)} {r : Bool} {Q : Value → Shared → Prop} (ha : (a == sysModules) = false) (hb : (b == sysModules) = false) (hr : knd.room A.in1)
    (da : s.heap.DictOfH knd a xa) (db : s.heap.DictOfH knd b xb) (hu : A.units < cLine) (hits : xa.length = xb.length → HitsH prog w A.in1 s xb xa r) (h : Q (.bool (xa.length == xb.length && r)) s) :
    wpAny (model prog w) A (compareOp .Eq (.ref a) (.ref b)) Q E s := by
  refine wpAny_richCompare_same_room (op := .Eq) da.typeIs db.typeIs PySem.F.slot_dict_eq (wpAny_call_entry PySem.F.slot_dict_eq da.typeIs PySem.F.entry_dict_eq ?_ (PySem.F.args_dict_eq_2 _ _)) hu
  show wpAny _ _ (Builtin.Dict.dictSlotArgs "__eq__" ⟨[.ref a, .ref b], []⟩ >>= _) _ _ s
  refine wpAny_bind ?_
  unfold Builtin.Dict.dictSlotArgs
  refine wpAny_bind (wpAny_notOrdered_dict da.typeIs ?_)
  show wpAny _ _ (pure (Value.ref a, Value.ref b)) _ _ s
  refine wpAny_pure ?_
  refine wpAny_bind (wpAny_isInstance (T := "dict") db.typeIs PySem.F.sub_dict_dict ?_)
  simp only [Bool.not_true, Bool.false_eq_true, if_false]
  refine wpAny_bind (wpAny_pure (wpAny_bind (wpAny_pure ?_)))
  refine wpAny_bind (samePairsH ha hb hr da db hits ?_)
  refine wpAny_pure ⟨_, rfl, ?_, ?_⟩
  · exact fun x => nomatch x
  · simpa using h
theorem neH {a b : Addr} {xa xb : List (K × Addr × Value)} {r : Bool} {Q : Value → Shared → Prop} (ha : (a == sysModules) = false) (hb : (b == sysModules) = false) (hr : knd.room A.in1)
    (da : s.heap.DictOfH knd a xa) (db : s.heap.DictOfH knd b xb) (hu : A.units < cLine) (hits : xa.length = xb.length → HitsH prog w A.in1 s xb xa r) (h : Q (.bool (!(xa.length == xb.length && r))) s) :
    wpAny (model prog w) A (compareOp .NotEq (.ref a) (.ref b)) Q E s := by
  refine wpAny_richCompare_same_room (op := .NotEq) da.typeIs db.typeIs PySem.F.slot_dict_ne (wpAny_call_entry PySem.F.slot_dict_ne da.typeIs PySem.F.entry_dict_ne ?_ (PySem.F.args_dict_ne_2 _ _)) hu
  show wpAny _ _ (Builtin.Dict.dictSlotArgs "__ne__" ⟨[.ref a, .ref b], []⟩ >>= _) _ _ s
  refine wpAny_bind ?_
  unfold Builtin.Dict.dictSlotArgs
  refine wpAny_bind (wpAny_notOrdered_dict da.typeIs ?_)
  show wpAny _ _ (pure (Value.ref a, Value.ref b)) _ _ s
  refine wpAny_pure ?_
  refine wpAny_bind (wpAny_isInstance (T := "dict") db.typeIs PySem.F.sub_dict_dict ?_)
  simp only [Bool.not_true, Bool.false_eq_true, if_false]
  refine wpAny_bind (wpAny_pure (wpAny_bind (wpAny_pure ?_)))
  refine wpAny_bind (samePairsH ha hb hr da db hits ?_)
  refine wpAny_pure ⟨_, rfl, ?_, ?_⟩
  · exact fun x => nomatch x
  · simpa using h
end
end PySem.W
namespace FL
open PySem PySem.Spec PyProof.Rows L2 RT
def valEq (o : Option V) (v : V) : Bool := match o with
  | some (.int j) => match v with
    | .int i => decide (i = j)
    | _ => false
  | _ => false
/-- the rows of ka are kb's too -/
def tabIn (ka kb : List (List Key × V)) : Bool := ka.all fun p => valEq (valV kb p.1) p.2
def intsV (ka : List (List Key × V)) : Prop := ∀ p ∈ ka, ∃ i, p.2 = .int i
def rEqDT (neg : Bool) : R2 := fun x y H Q => ∃ (a b : Addr) (ka kb : List (List Key × V)), x = .ref a ∧ y = .ref b ∧ Rd H a (.dT ka) ∧ Rd H b (.dT kb) ∧ intsV ka ∧ intsV kb ∧ Q (.bl (neg ^^ (ka.length == kb.length && tabIn ka kb))) H
theorem valV_mem {kb : List (List Key × V)} {k : List Key} {y : V} (h : valV kb k = some y) : ∃ p ∈ kb, p.2 = y := by
  unfold valV at h
  obtain ⟨p, hp, e⟩ := Option.map_eq_some_iff.mp h
  exact ⟨p, List.mem_of_find?_eq_some hp, e⟩
section
variable {X : Cx}
theorem hits_of {A : Around} {s : Shared} {H : Hp} {kb : List (List Key × V)} {xb : List (List Key × Addr × Value)} (rb : KT H kb xb) (ib : intsV kb) : ∀ {ka : List (List Key × V)} {xa : List (List Key × Addr × Value)}, KT H ka xa → intsV ka → PySem.W.HitsH X.prog X.w A s xb xa (tabIn ka kb)
  | _, _, .nil, _ => .nil
  | _, _, @Paired.cons _ _ _ p q ps qs h t, ia => by
    obtain ⟨k, v⟩ := p
    obtain ⟨k', a, u⟩ := q
    obtain ⟨h1, _, h3⟩ := h
    have h1 : k = k' := h1
    subst h1
    obtain ⟨i, ei⟩ := ia _ List.mem_cons_self
    have ei : v = .int i := ei
    subst ei
    have h3 : RelV (.int i) u := h3
    have ih := hits_of (A := A) (s := s) rb ib t fun p hp => ia p (List.mem_cons_of_mem _ hp)
    have rv := rb.val k
    show PySem.W.HitsH X.prog X.w A s xb _ (valEq (valV kb k) (.int i) && tabIn ps kb)
    cases e1 : atKey xb k with
    | none =>
      rw [e1] at rv
      cases e2 : valV kb k with
      | some z => rw [e2] at rv; exact rv.elim
      | none => exact .miss e1
    | some z =>
      rw [e1] at rv
      cases e2 : valV kb k with
      | none => rw [e2] at rv; exact rv.elim
      | some y =>
        rw [e2] at rv
        have hm : ∃ p ∈ kb, p.2 = y := valV_mem e2
        obtain ⟨p, hp, rfl⟩ := hm
        obtain ⟨j, ej⟩ := ib p hp
        rw [ej] at rv ⊢
        have rv : RelV (.int j) z.2 := rv
        obtain ⟨t1, rfl⟩ := h3
        obtain ⟨t2, e3⟩ := rv
        refine .hit e1 ?_ ih
        show PySem.SeqAt.EqP X.prog X.w A s (Value.int i t1) z.2 (decide (i = j))
        rw [e3]
        exact (PySem.W.keq_flat (PyProof.V.Flat.int i t1) (PyProof.V.Flat.int j t2)).eqP
theorem len_eq {H : Hp} {ka : List (List Key × V)} {xa : List (List Key × Addr × Value)} (r : KT H ka xa) : xa.length = ka.length := (Paired.length r).symm
theorem op_eqDT (hu : X.A.units + 64 < cLine) : OpR X (compareOp .Eq) (rEqDT false) := by
  intro pins s σ H x y v u Q I rx ry h
  obtain ⟨a, b, ka, kb, rfl, rfl, ha, hb, ia, ib, q⟩ := h
  obtain rfl : v = .ref a := rx
  obtain rfl : u = .ref b := ry
  obtain ⟨za, hda, xa, ra, da⟩ := dt_rd I.hok ha
  obtain ⟨zb, hdb, xb, rb, db⟩ := dt_rd I.hok hb
  refine PySem.W.eqH hda hdb (tupleKind_room_in1 (by omega)) da db (by omega) (fun _ => hits_of rb ib ra ia) ?_
  rw [len_eq ra, len_eq rb]
  exact ⟨.bl _, H, I, by rw [Bool.false_xor]; rfl, q⟩
theorem op_neDT (hu : X.A.units + 64 < cLine) : OpR X (compareOp .NotEq) (rEqDT true) := by
  intro pins s σ H x y v u Q I rx ry h
  obtain ⟨a, b, ka, kb, rfl, rfl, ha, hb, ia, ib, q⟩ := h
  obtain rfl : v = .ref a := rx
  obtain rfl : u = .ref b := ry
  obtain ⟨za, hda, xa, ra, da⟩ := dt_rd I.hok ha
  obtain ⟨zb, hdb, xb, rb, db⟩ := dt_rd I.hok hb
  refine PySem.W.neH hda hdb (tupleKind_room_in1 (by omega)) da db (by omega) (fun _ => hits_of rb ib ra ia) ?_
  rw [len_eq ra, len_eq rb]
  exact ⟨.bl _, H, I, by rw [Bool.true_xor]; rfl, q⟩
/-- the int at a key -/
def intK (ks : List D) (ns : List Int) (k : D) : Option Int := (kIdx true ks k).bind fun i => ns[i]?
def tabD (ks : List D) (ns : List Int) (ks' : List D) (ns' : List Int) : Bool := (ks.zip ns).all fun p => decide (intK ks' ns' p.1 = some p.2)
/-- == of dicts of tuple keys, their values ints -/
def dEqT (neg : Bool) : DO := fun a b Q => ∃ o ks ns o' ks' ns', a = .dct o true ks (ns.map D.int) ∧ b = .dct o' true ks' (ns'.map D.int) ∧ Q (.bl (neg ^^ (ks.length == ks'.length && tabD ks ns ks' ns')))
theorem repL_ints {K : PySem.W.Frag} {w : Wd} : ∀ {ns : List Int} {ℓ : Loc} {j : Nat} {vs : List V}, RepL K w (ns.map D.int) ℓ j vs → vs = ns.map V.int
  | [], _, _, _, h => h
  | n :: ns, _, _, _, h => by
    obtain ⟨v, r, rfl, h1, h2⟩ := h
    have h1 : v = .int n := h1
    rw [h1, repL_ints h2]; rfl
theorem valEq_int (o : Option Int) (i : Int) : valEq (o.map V.int) (.int i) = decide (o = some i) := by
  cases o with
  | none => rfl
  | some j =>
    show decide (i = j) = decide (some j = some i)
    rw [Bool.eq_iff_iff]
    simp [eq_comm]
theorem tabIn_eq {ks' : List D} {ns' : List Int} : ∀ (ks : List D) (ns : List Int), tabIn ((ks.map tkey).zip (ns.map V.int)) ((ks'.map tkey).zip (ns'.map V.int)) = tabD ks ns ks' ns'
  | [], _ => rfl
  | _ :: _, [] => rfl
  | k :: ks, n :: ns => by
    have ih := tabIn_eq (ks' := ks') (ns' := ns') ks ns
    unfold tabIn tabD at ih ⊢
    rw [List.map_cons, List.map_cons, List.zip_cons_cons, List.zip_cons_cons, List.all_cons, List.all_cons, ih]
    congr 1
    rw [valV_zip]
    show valEq ((kIdx true ks' k).bind fun i => (ns'.map V.int)[i]?) (.int n) = _
    rw [← valEq_int]
    congr 1
    unfold intK
    cases kIdx true ks' k with
    | none => rfl
    | some i => simp [List.getElem?_map]
theorem ints_zip {ks : List (List Key)} {ns : List Int} : intsV (ks.zip (ns.map V.int)) := fun p hp => by
  obtain ⟨i, hi, e⟩ := List.mem_iff_getElem.mp hp
  rw [List.getElem_zip, List.getElem_map] at e
  exact ⟨_, by rw [← e]⟩
theorem sok_eqT (neg : Bool) : SOK X.K (rEqDT neg) (dEqT neg) := by
  intro τ w σ ρ x y dx dy ℓ ℓ' Q Qv hn st rx ry hd hq
  obtain ⟨o, ks, ns, o', ks', ns', rfl, rfl, q⟩ := hd
  obtain ⟨a, us, rfl, h1, h3, h4, h2⟩ := dct_at st.wf rx
  obtain ⟨b, vs, rfl, g1, g3, g4, g2⟩ := dct_at st.wf ry
  cases repL_ints h2
  cases repL_ints g2
  refine ⟨a, b, _, _, rfl, rfl, h1, g1, ints_zip, ints_zip, ?_⟩
  rw [tabIn_eq, List.length_zip, List.length_zip, List.length_map, List.length_map, List.length_map, List.length_map]
  rw [List.length_map] at h3 g3
  rw [h3, g3, Nat.min_self, Nat.min_self]
  rw [h3, g3] at q
  exact hq _ w _ q (.refl st) rfl
theorem fop_eqT (hu : X.A.units + 64 < cLine) : FOp X (compareOp .Eq) (dEqT false) := ⟨_, op_eqDT hu, sok_eqT false⟩
theorem fop_neT (hu : X.A.units + 64 < cLine) : FOp X (compareOp .NotEq) (dEqT true) := ⟨_, op_neDT hu, sok_eqT true⟩
end
end FL
/-! FL34: order of tuples of ints. -/
namespace FL
open PySem PySem.Spec PyProof.Rows L2
def dLtT : DO := fun a b Q => ∃ ns ms : List Int, a = .tup false (ns.map D.int) ∧ b = .tup false (ms.map D.int) ∧ Q (.bl (HT.lexLt ns ms))
theorem hu0 {X : Cx} (h : X.A.units + 64 < cLine) : X.A.units < cLine := by omega
theorem fop_ltT {X : Cx} (hu : X.A.units < cLine) : FOp X (compareOp .Lt) dLtT := ⟨_, op_ltT hu, by
  intro τ w σ ρ x y dx dy ℓ ℓ' Q Qv hn st rx ry hd hq
  obtain ⟨ns, ms, rfl, rfl, q⟩ := hd
  obtain ⟨a, us, rfl, h1, h2⟩ := tup_at st.wf rx
  obtain ⟨b, vs, rfl, g1, g2⟩ := tup_at st.wf ry
  cases repL_ints h2
  cases repL_ints g2
  exact ⟨a, b, ns, ms, rfl, rfl, SqT.of h1, SqT.of g1, hq _ w _ q (.refl st) rfl⟩⟩
/-- as lists stand -/
theorem lexLt_iff : ∀ ns ms : List Int, HT.lexLt ns ms = decide (ns < ms)
  | [], [] => by simp [HT.lexLt]
  | [], _ :: _ => by simp [HT.lexLt]
  | _ :: _, [] => by simp [HT.lexLt]
  | n :: ns, m :: ms => by
    have ih := lexLt_iff ns ms
    rw [Bool.eq_iff_iff, decide_eq_true_iff, List.cons_lt_cons_iff]
    unfold HT.lexLt
    by_cases h : n = m
    · subst h
      simp [ih]
    · simp [h]
end FL
/-! FL35: many junk slots. -/
namespace FL
theorem len9 {α : Type} {l : List α} (h : l.length = 9) : ∃ a b c d e f g i j, l = [a, b, c, d, e, f, g, i, j] := by match l, h with | [a, b, c, d, e, f, g, i, j], _ => exact ⟨_, _, _, _, _, _, _, _, _, rfl⟩
theorem len10 {α : Type} {l : List α} (h : l.length = 10) : ∃ a b c d e f g i j k, l = [a, b, c, d, e, f, g, i, j, k] := by match l, h with | [a, b, c, d, e, f, g, i, j, k], _ => exact ⟨_, _, _, _, _, _, _, _, _, _, rfl⟩
theorem len11 {α : Type} {l : List α} (h : l.length = 11) : ∃ a b c d e f g i j k m, l = [a, b, c, d, e, f, g, i, j, k, m] := by match l, h with | [a, b, c, d, e, f, g, i, j, k, m], _ => exact ⟨_, _, _, _, _, _, _, _, _, _, _, rfl⟩
theorem len12 {α : Type} {l : List α} (h : l.length = 12) : ∃ a b c d e f g i j k m n, l = [a, b, c, d, e, f, g, i, j, k, m, n] := by match l, h with | [a, b, c, d, e, f, g, i, j, k, m, n], _ => exact ⟨_, _, _, _, _, _, _, _, _, _, _, _, rfl⟩
theorem len13 {α : Type} {l : List α} (h : l.length = 13) : ∃ a b c d e f g i j k m n o, l = [a, b, c, d, e, f, g, i, j, k, m, n, o] := by match l, h with | [a, b, c, d, e, f, g, i, j, k, m, n, o], _ => exact ⟨_, _, _, _, _, _, _, _, _, _, _, _, _, rfl⟩
open PySem PySem.Spec PyProof.Rows L2
section
variable {X : Cx} {W : WX} {k : Nat} {f : Addr} {fd : FuncData} {ps : List Str} {M : List Nat} {r : FSpec} {x : Str} {p pos : Pos} {ra : RA}
theorem pe_callS0 {CX : CXT} {sp : Sp} {E : L2.St → XK} (F : FnOk X.prog X.w X.K X.mg X.base CX k f fd ps sp) (hr : Room k X.A) (hg : Gl X x) (hm : X.mg x = some (.ref f)) (hk : PySem.W.keepIn X.K (.ref f) = true) (hb : Binds X.K fd ps []) (hx : ∀ σ, PassesAt CX X σ (E σ))
    (hdb : (x == ("__debug__" : Str)) = false := by decide) : PE X (.Call (.Name x p) [] [] pos) (tCallS sp E tNil) := by
  refine ⟨fun pins s σ H Q I h => ?_⟩
  refine wpAny_Call_Name_kw (ld_glob I hg hm ?_ hdb)
  exact PySem.W.callWith_K0 I.kIn hk (run_fnS (us := []) F hr hb (hx σ) I .nil h)
/-- f() -/
theorem fe_call0 (tk : Takes X W) (F : FnOk X.prog X.w X.K X.mg X.base (L2.CX X.prog X.w) k f fd ps (FnD X.K 0 M r)) (hr : Room k X.A) (hm : X.mg x = some (.ref f)) (hk : PySem.W.keepIn X.K (.ref f) = true) (hb : Binds X.K fd ps [])
    (hg : Gl X x := by rfl) (hdb : (x == ("__debug__" : Str)) = false := by decide) : FE X W (.Call (.Name x p) [] [] pos) (rCall M r rA0) := by
  refine ⟨_, pe_callS0 (E := WE W) F hr hg hm hk hb (fun σ => passAt tk σ) hdb, fun τ w σ ρ E Q Qv hn st h hq hx => ?_⟩
  have s0 : ArgsAt X.K w σ [] τ [] := rfl
  exact call_sound (ads := []) hn st rfl s0 h (fun d ρ' w' v q e2 r2 => hq d ρ' w' v q e2 r2) hx
end
end FL
/-! FL36: max and min of a tuple of whole numbers. -/
namespace FL
open PySem PySem.Spec PyProof.Rows L2
section
variable {prog : Program} {w : World} {A : Around} {E : Value → Shared → Prop} {s : Shared} {l : Addr} {xs : Array (Int × Tok)}
def tupIt (l : Addr) : PySem.Obj := { cls := .type "tuple_iterator", data := .fields #[.ref l, .int 0 0] }
theorem iter_intTup {Q : Value → Shared → Prop} (hl : s.heap.IsTuple l (intItems xs))
    (h : ∀ s₂ : Shared, s₂ = { s with heap := s.heap.push (tupIt l) } → (s₂.heap.IsTupleIter s.heap.objs.size l 0 ∧ s₂.heap.IsTuple l (intItems xs)) → (∀ b ∈ [s.heap.objs.size, l], b < s₂.heap.objs.size) → l ≠ s.heap.objs.size → Q (.ref s.heap.objs.size) s₂) :
    wpAny (model prog w) A (pyIter (.ref l)) Q E s := by
  have hlt : l < s.heap.objs.size := by obtain ⟨_, e, _⟩ := hl; exact Heap.lt_size e
  refine wpAny_pyIter_tuple hl (h _ rfl ⟨⟨_, Heap.get?_push_size _ rfl, rfl, rfl⟩, hl.push _⟩ (fun b hb => ?_) (Nat.ne_of_lt hlt))
  show b < (s.heap.push _).objs.size
  rw [Heap.size_push]
  rcases List.mem_cons.mp hb with rfl | hb
  · exact Nat.lt_succ_self _
  · obtain rfl := List.mem_singleton.mp hb
    exact Nat.lt_succ_of_lt hlt
theorem old_keptT {h' : Heap} (hk : ∀ b o, b ∉ [s.heap.objs.size] → (s.heap.push (tupIt l)).get? b = some o → h'.get? b = some o) : ∀ b o, s.heap.get? b = some o → h'.get? b = some o := fun b o e => by
  refine hk b o (fun hm => ?_) (Heap.get?_push_of_some _ e)
  exact absurd ((List.mem_singleton.mp hm) ▸ Heap.lt_size e) (Nat.lt_irrefl _)
theorem max_intTup {Q : Value → Shared → Prop} (hh : A.handled = none) (hl : s.heap.IsTuple l (intItems xs)) (hne : 0 < xs.size)
    (h : ∀ v h' tk, (intItems xs)[argBest (fun i j => decide (numAt xs i > numAt xs j)) (xs.size - 1)]? = some v → (∀ b o, s.heap.get? b = some o → h'.get? b = some o) → Q v { s with heap := h', toks := tk }) :
    wpAny (model prog w) A (call (.builtin "max") [.ref l]) Q E s := by
  refine call_max_walk (iter_intTup hl fun s₂ e st hfp hlI => ?_)
  subst e
  refine ⟨_, _, _, _, _, _, _, rfl, Walks.tuple (A := A.in1) hh _ l hlI (intItems xs), st, hfp, by simpa [intItems] using hne, CmpOf.ints_gt (numAt xs) (fun _ _ => intItems_at), fun v h' tk hP hk => ?_⟩
  exact h v h' tk (by simpa [intItems] using hP) (old_keptT hk)
theorem min_intTup {Q : Value → Shared → Prop} (hh : A.handled = none) (hl : s.heap.IsTuple l (intItems xs)) (hne : 0 < xs.size)
    (h : ∀ v h' tk, (intItems xs)[argBest (fun i j => decide (numAt xs i < numAt xs j)) (xs.size - 1)]? = some v → (∀ b o, s.heap.get? b = some o → h'.get? b = some o) → Q v { s with heap := h', toks := tk }) :
    wpAny (model prog w) A (call (.builtin "min") [.ref l]) Q E s := by
  refine call_min_walk (iter_intTup hl fun s₂ e st hfp hlI => ?_)
  subst e
  refine ⟨_, _, _, _, _, _, _, rfl, Walks.tuple (A := A.in1) hh _ l hlI (intItems xs), st, hfp, by simpa [intItems] using hne, CmpOf.ints_lt (numAt xs) (fun _ _ => intItems_at), fun v h' tk hP hk => ?_⟩
  exact h v h' tk (by simpa [intItems] using hP) (old_keptT hk)
theorem max_rawT {its : List Value} {ns : List Int} {Q : Value → Shared → Prop} (hh : A.handled = none) (hl : s.heap.IsTuple l its.toArray) (hi : IntsAre its ns) (hne : 0 < ns.length)
    (h : ∀ h' tk M t', (∀ b o, s.heap.get? b = some o → h'.get? b = some o) → M ∈ ns → (∀ a, a ∈ ns → a ≤ M) → Q (.int M t') { s with heap := h', toks := tk }) : wpAny (model prog w) A (call (.builtin "max") [.ref l]) Q E s := by
  obtain ⟨xs, e⟩ := hi.allInts.items
  have hn : numsOf (intItems xs).toList = ns := by rw [← e]; exact hi.numsOf
  rw [nums_intItems] at hn
  subst hn
  rw [e] at hl
  have hsz : 0 < xs.size := by simpa using hne
  refine max_intTup hh hl hsz fun v h' tk hv hk => ?_
  obtain ⟨t, rfl⟩ := intItems_at hv
  obtain ⟨h1, h2⟩ := argBest_gt (numAt xs) (xs.size - 1)
  refine h h' tk _ t hk ?_ fun a ha => ?_
  · rw [numAt_eq]; exact PySem.getD_mem (by rw [List.length_map, Array.length_toList]; omega)
  · obtain ⟨j, hj, rfl⟩ := mem_getD ha
    rw [List.length_map, Array.length_toList] at hj
    rw [← numAt_eq]; exact h2 j (by omega)
theorem min_rawT {its : List Value} {ns : List Int} {Q : Value → Shared → Prop} (hh : A.handled = none) (hl : s.heap.IsTuple l its.toArray) (hi : IntsAre its ns) (hne : 0 < ns.length)
    (h : ∀ h' tk M t', (∀ b o, s.heap.get? b = some o → h'.get? b = some o) → M ∈ ns → (∀ a, a ∈ ns → M ≤ a) → Q (.int M t') { s with heap := h', toks := tk }) : wpAny (model prog w) A (call (.builtin "min") [.ref l]) Q E s := by
  obtain ⟨xs, e⟩ := hi.allInts.items
  have hn : numsOf (intItems xs).toList = ns := by rw [← e]; exact hi.numsOf
  rw [nums_intItems] at hn
  subst hn
  rw [e] at hl
  have hsz : 0 < xs.size := by simpa using hne
  refine min_intTup hh hl hsz fun v h' tk hv hk => ?_
  obtain ⟨t, rfl⟩ := intItems_at hv
  obtain ⟨h1, h2⟩ := argBest_lt (numAt xs) (xs.size - 1)
  refine h h' tk _ t hk ?_ fun a ha => ?_
  · rw [numAt_eq]; exact PySem.getD_mem (by rw [List.length_map, Array.length_toList]; omega)
  · obtain ⟨j, hj, rfl⟩ := mem_getD ha
    rw [List.length_map, Array.length_toList] at hj
    rw [← numAt_eq]; exact h2 j (by omega)
end
def rMaxT (K : PySem.W.Frag) : List V → Hp → VK → Prop := fun vs H Q => ∃ (a : Addr) (ns : List Int), vs = [V.ref a] ∧ SqT K H a (ns.map V.int) ∧ 0 < ns.length ∧ ∀ m, m ∈ ns → (∀ y, y ∈ ns → y ≤ m) → Q (.int m) H
def rMinT (K : PySem.W.Frag) : List V → Hp → VK → Prop := fun vs H Q => ∃ (a : Addr) (ns : List Int), vs = [V.ref a] ∧ SqT K H a (ns.map V.int) ∧ 0 < ns.length ∧ ∀ m, m ∈ ns → (∀ y, y ∈ ns → m ≤ y) → Q (.int m) H
section
variable {X : Cx}
theorem cr_maxT (hc : X.calm = true) : CallR X (.builtin "max") (rMaxT X.K) := by
  intro pins s σ H vs us Q I r h
  obtain ⟨a, ns, rfl, hs, hne, q⟩ := h
  obtain ⟨its, rv, hl, _⟩ := I.tuple hs
  rw [Vals.ref1 r]
  exact max_rawT (I.ok.hd hc) hl rv.ints hne fun h' tk m t' hk h1 h2 => ⟨.int _, H, I.kept hk, ⟨_, rfl⟩, q m h1 h2⟩
theorem cr_minT (hc : X.calm = true) : CallR X (.builtin "min") (rMinT X.K) := by
  intro pins s σ H vs us Q I r h
  obtain ⟨a, ns, rfl, hs, hne, q⟩ := h
  obtain ⟨its, rv, hl, _⟩ := I.tuple hs
  rw [Vals.ref1 r]
  exact min_rawT (I.ok.hd hc) hl rv.ints hne fun h' tk m t' hk h1 h2 => ⟨.int _, H, I.kept hk, ⟨_, rfl⟩, q m h1 h2⟩
/-- a callee of one tuple -/
def dT1 (p : List D → (D → Prop) → Prop) : DC
  | [d], Q => match tupOf d with
    | some ds => p ds Q
    | none => False
  | _, _ => False
def dMaxT : DC := dT1 fun ds Q => ∃ ns : List Int, ds = ns.map D.int ∧ ns ≠ [] ∧ ∀ m, m ∈ ns → (∀ y, y ∈ ns → y ≤ m) → Q (.int m)
def dMinT : DC := dT1 fun ds Q => ∃ ns : List Int, ds = ns.map D.int ∧ ns ≠ [] ∧ ∀ m, m ∈ ns → (∀ y, y ∈ ns → m ≤ y) → Q (.int m)
theorem fc_T1 {f : Value} {r : List V → Hp → VK → Prop} {p : List D → (D → Prop) → Prop} (hc : CallR X f r)
    (h : ∀ (τ : Nat) (w : Wd) (σ : Sl) (ρ : En) (a : Addr) (vs : List V) (ds : List D) (Q : D → Prop) (Qv : VK), ρ.length < τ → StE X.K w σ ρ → SqT X.K w.H a vs → ownL ds = false → ds.length ≤ sizeLine → (∀ ℓ j, RepL X.K w ds ℓ j vs) → p ds Q →
      (∀ d w' v, Q d → EndE X.K τ w σ ρ ρ w' → Rep X.K w' d [τ] v → Qv v w'.H) → r [.ref a] w.H Qv) : FC X f (dT1 p) := by
  refine ⟨r, hc, fun τ w σ ρ vs ds Q Qv hn st rs hd hq => ?_⟩
  unfold dT1 at hd
  split at hd
  · rename_i d
    obtain ⟨v, ℓ, rfl, rr⟩ := reps1 rs
    cases e : tupOf d with
    | none => simp only [e] at hd
    | some ds =>
      simp only [e] at hd
      obtain ⟨a, vs, rfl, h1, hz, ho, h2⟩ := tup_seq st.wf e rr
      exact h τ w σ ρ a vs ds Q Qv hn st h1 ho hz h2 hd hq
  · exact hd.elim
theorem fc_maxT (hc : X.calm = true := by rfl) : FC X (.builtin "max") dMaxT := fc_T1 (cr_maxT hc) fun τ w σ ρ a vs ds Q Qv hn st h1 ho hz h2 ⟨ns, e, hne, q⟩ hq => by
  subst e
  obtain rfl := repl_ints (h2 [] 0)
  exact ⟨a, ns, rfl, h1, List.length_pos_iff.mpr hne, fun m h3 h4 => hq _ w _ (q m h3 h4) (.refl st) rfl⟩
theorem fc_minT (hc : X.calm = true := by rfl) : FC X (.builtin "min") dMinT := fc_T1 (cr_minT hc) fun τ w σ ρ a vs ds Q Qv hn st h1 ho hz h2 ⟨ns, e, hne, q⟩ hq => by
  subst e
  obtain rfl := repl_ints (h2 [] 0)
  exact ⟨a, ns, rfl, h1, List.length_pos_iff.mpr hne, fun m h3 h4 => hq _ w _ (q m h3 h4) (.refl st) rfl⟩
end
end FL
/-! FL37: d.setdefault(k, [..])[n] = e, d a dict with tuple keys. -/
namespace FL
open PySem PySem.Spec PyProof.Rows L2
section
variable {X : Cx} {pins : List (Addr × PySem.Obj)} {σ : L2.St} {H : Hp} {s : Shared} {a b : Addr} {r : Value} {d : V} {k : List Key} {A : Around} {E : Value → Shared → Prop}
theorem d_setdT {kvs : List (List Key × V)} {Q : Value → Shared → Prop} (hu : A.units + 1 < cLine) (I : Inv X pins σ H s) (e : H a = some (.dT kvs)) (eb : H b = some (.tup (k.map kV))) (rd : RelV d r) (hl : kvs.length < sizeLine)
    (h1 : ∀ v, valV kvs k = some v → ∀ (w' : Value) (s' : Shared), Inv X pins σ H s' → RelV v w' → Q w' s') (h2 : valV kvs k = none → ∀ (w' : Value) (s' : Shared), Inv X pins σ (upd H a (.dT (putK kvs k d))) s' → RelV d w' → Q w' s') :
    wpAny (model X.prog X.w) A (call (.builtin "dict.setdefault") [.ref a, .ref b, r]) Q E s := by
  obtain ⟨z, hd, xs, rel, dd⟩ := dt_of I.hok e
  have hz : xs.length ≤ sizeLine := by rw [← Paired.length rel]; exact z
  refine call_setdefault_heap (knd := tupleKind (mixKind X.prog X.w)) (tupleKind_room_in1 hu) (key_of I.hok eb) hd dd (fun p hp => ?_) (fun hn h' dd' hs => ?_) hz
  · have q := rel.val k
    rw [hp] at q
    cases q0 : valV kvs k with
    | none => rw [q0] at q; exact (show False from q).elim
    | some v0 => rw [q0] at q; exact h1 v0 q0 _ _ (I.tok _) q
  · have q := rel.val k
    rw [hn] at q
    cases q0 : valV kvs k with
    | some v0 => rw [q0] at q; exact (show False from q).elim
    | none =>
      have hl2 : (putK kvs k d).length ≤ sizeLine := by have := length_putK kvs k d; omega
      obtain ⟨q, es, ep, hq, g2, g3, g4, _, g5⟩ := dd'
      refine h2 q0 _ _ (d_write I (by rw [e]; exact True.intro) hs ⟨q, hq⟩ ⟨hl2, hd, _, (rel.put k eb rd).keeps fun c ys ec => ?_, q, es, ep, hq, g2, g3, g4, g5⟩) rd
      rw [upd_ne (ne_of ec e (fun z => nomatch z))]
      exact ec
end
/-- d.setdefault(y, z), y a tuple -/
def tSetdT (td ty tx : TE) : TE := fun σ H Q => td σ H fun x H1 => ∃ a, x = .ref a ∧ IsD H1 a ∧ ty σ H1 fun y H2 => tx σ H2 fun z H3 => ∃ (kvs : List (List Key × V)) (k : List Key) (b : Addr), H3 a = some (.dT kvs) ∧ y = .ref b ∧ H3 b = some (.tup (k.map kV)) ∧ kvs.length < sizeLine ∧
  (∀ v, valV kvs k = some v → Q v H3) ∧ (valV kvs k = none → Q z (upd H3 a (.dT (putK kvs k z))))
section
variable {X : Cx} {o e f : Expr} {td ty tx : TE} {apos cpos : Pos}
theorem pe_setdT (hu : X.A.units + 1 < cLine) (ho : PE X o td) (he : PE X e ty) (hf : PE X f tx) (m : M2 X o "setdefault" apos e f cpos) : PE X (.Call (.Attribute o "setdefault" apos) [e, f] [] cpos) (tSetdT td ty tx) := by
  refine ⟨fun pins s σ H Q I h => ?_⟩
  refine wpAny_Call_method m.base m.few m.line PySem.F.plainAttrs_dict PySem.F.slot_dict_setdefault PySem.F.type_dict_setdefault (thn (ho.run pins s σ H _ I h) fun u s1 ⟨x, H1, I1, rx, a, ex, d, q1⟩ => ?_)
  subst ex
  obtain rfl : u = Value.ref a := rx
  obtain ⟨t1, t2, _⟩ := isD_at I1 d
  refine ⟨t1, t2, ?_⟩
  rw [m.trees]
  refine Calls.callWith_builtin rfl (Calls.evalArgs_plain (Calls.spliced_cons (thn (he.run pins s1 σ H1 _ I1 q1) fun iv s2 ⟨y, H2, I2, ry, q2⟩ =>
    Calls.spliced_cons (thn (hf.run pins s2 σ H2 _ I2 q2) fun fv s3 ⟨z, H3, I3, rz, kvs, k, b, ea, ey, eb, hl, q3, q4⟩ => Calls.spliced_nil ?_))))
  subst ey
  obtain rfl : iv = Value.ref b := ry
  exact d_setdT hu I3 ea eb rz hl (fun v hv w' s4 I4 rw' => ⟨v, _, I4, rw', q3 v hv⟩) fun hn w' s4 I4 rw' => ⟨z, _, I4, rw', q4 hn⟩
end
def setdK (ρ : En) (i n : Nat) (o : Ow) (ks ds : List D) (dk x c : D) (K : En → Prop) : Prop := match c with
  | .int v => match ρ[n]? with
    | some (some (.int m)) => match kIdx true ks dk with
      | some j => match ds[j]? with
        | some (.lst o' xs) => o'.mine = true ∧ natAt (ixN xs.length m) fun q => nf (ρ.set i (some (.dct o true ks (ds.set j (.lst o' (xs.set q (.int v))))))) K
        | _ => False
      | none => match x with
        | .lst o' xs => o'.mine = true ∧ natAt (ixN xs.length m) fun q => nf (ρ.set i (some (.dct .deep true (ks ++ [dk]) (ds ++ [.lst o' (xs.set q (.int v))])))) K
        | _ => False
    | _ => False
  | _ => False
/-- d.setdefault(k, x)[n] = e, n a name -/
def rSetDef (i n : Nat) (rk : RO) (rx re : RE) : RS := fun ρ E F => re ρ E fun c ρ1 => onDct ρ1 i fun _ _ _ _ => rk ρ1 E fun k ρ2 => rx ρ2 E fun x ρ3 => on1 ρ3 k fun dk => onDct ρ3 i fun o t ks ds =>
  t = true ∧ keyOk true dk = true ∧ ks.length < sizeLine ∧ setdK ρ3 i n o ks ds dk x c F.nx
theorem Lt.set1 {o : Ow} {ds : List D} (h : Lt o ds) (j : Nat) (v : Int) : Lt o (ds.set j (.int v)) := by
  have := h.set (j := j) (d := .int v)
  exact this
theorem valV_lk {ks : List D} {us : List V} {k : D} : valV ((ks.map tkey).zip us) (tkey k) = (kIdx true ks k).bind fun i => us[i]? := valV_zip tkey k ks us
theorem rep_set1 {K : PySem.W.Frag} {w : Wd} {xs : List D} {us : List V} {ℓ : Loc} {q : Nat} {v : Int} (h : RepL K w xs ℓ 0 us) : RepL K w (xs.set q (.int v)) ℓ 0 (us.set q (.int v)) := h.set (by simp [Rep])
section
variable {X : Cx} {W : WX} {M : List Nat} {pos pos' p2 p3 apos cpos : Pos}
theorem fs_setDef (i n : Nat) {x y : Str} {k e xd : Expr} {rk : RO} {re rx : RE} (he : FE X W e re) (hk : FO X W k rk) (hx0 : FE X W xd rx) (hu : X.A.units + 1 < cLine) (hN : X.N[i]? = some x := by rfl) (hNy : X.N[n]? = some y := by rfl)
    (hv : Vis X.env.scope x := by first | exact Or.inl rfl | exact Or.inr (Or.inl rfl) | exact Or.inr (Or.inr rfl)) (hvy : Vis X.env.scope y := by first | exact Or.inl rfl | exact Or.inr (Or.inl rfl) | exact Or.inr (Or.inr rfl)) (hd : (x == ("__debug__" : Str)) = false := by decide) (hdy : (y == ("__debug__" : Str)) = false := by decide)
    (hcd : (x == ("__classdict__" : Str)) = false := by decide) (hcdy : (y == ("__classdict__" : Str)) = false := by decide) (m : M2 X (.Name x p2) "setdefault" apos k xd cpos := by exact ⟨rfl, rfl, rfl, rfl⟩)
    (ha : ∀ v, assign (.Subscript (.Call (.Attribute (.Name x p2) "setdefault" apos) [k, xd] [] cpos) (.Name y p3) pos') X.env v = (do
      let ov ← holding [v] (eval (.Call (.Attribute (.Name x p2) "setdefault" apos) [k, xd] [] cpos) X.env)
      let iv ← holding [v, ov] (eval (.Name y p3) X.env)
      standAt pos'
      holding [v, ov, iv] (setItem ov iv v)
      release [v, ov, iv] []) := by intro _; rfl) (hs : swapsWithSole [.Subscript (.Call (.Attribute (.Name x p2) "setdefault" apos) [k, xd] [] cpos) (.Name y p3) pos'] e pos.line X.env = pure false := by rfl) (hw : swappedStores [.Subscript (.Call (.Attribute (.Name x p2) "setdefault" apos) [k, xd] [] cpos) (.Name y p3) pos'] e X.env = pure none := by rfl)
    (h1 : (assignEach [.Subscript (.Call (.Attribute (.Name x p2) "setdefault" apos) [k, xd] [] cpos) (.Name y p3) pos'] X.env).map (·.2) = [assign (.Subscript (.Call (.Attribute (.Name x p2) "setdefault" apos) [k, xd] [] cpos) (.Name y p3) pos') X.env] := by rfl) :
    FS X W M (.Assign [.Subscript (.Call (.Attribute (.Name x p2) "setdefault" apos) [k, xd] [] cpos) (.Name y p3) pos'] e pos) (rSetDef i n rk rx re) := by
  obtain ⟨t, p, l⟩ := he.ex
  obtain ⟨t1, p1, l1⟩ := hk.ex
  obtain ⟨t2, p2', l2⟩ := hx0.ex
  refine ⟨_, ps_asg p (pg_sub (pe_setdT hu (pe_var hN hv hd hcd) p1 p2' m) (pe_var hNy hvy hdy hcdy) set_list ha) hs hw h1, fun w σ ρ E F DD st h hf => ?_⟩
  refine l _ w σ ρ E _ _ (Nat.lt_succ_self _) st h (fun c ρ1 w1 v h1 e1 r1 => ?_) hf.sx
  obtain ⟨o0, tt0, ks0, ds0, ed0, ho0, h1⟩ := onDct_elim h1
  obtain ⟨v0, ev, r00⟩ := e1.st.rep i _ ed0
  obtain ⟨a, rfl, hD⟩ := isD_of e1.st.wf r00 rfl
  refine ⟨.ref a, ev, a, rfl, hD, ?_⟩
  refine l1 (ρ1.length + 2) w1 σ ρ1 E _ _ (by omega) e1.st h1 (fun ak ρ2 w2 v1 h2 e2 r2 => ?_) (hf.sx.then e1 (by rw [e1.len]; omega))
  have e12 := e1.trans e2 (by rw [e1.len]; omega)
  refine l2 (ρ1.length + 3) w2 σ ρ2 E _ _ (by rw [e2.len]; omega) e2.st h2 (fun dx ρ3 w3 v2 h3 e3 r3 => ?_) (hf.sx.then e12 (by rw [e1.len]; omega))
  have e13 := e12.trans e3 (by rw [e1.len]; omega)
  obtain ⟨dk, ek, h3⟩ := on1_elim h3
  obtain ⟨o, tt, ks, ds, ed, ho, htt, hko, hkl, q⟩ := onDct_elim h3
  subst htt
  have r2' : AdAt X.K w3 σ ak (ρ1.length + 2) v1 := r2.later (by rw [e2.len]; omega) e3
  obtain ⟨ℓk, rk⟩ := ad_get e3.st r2' ek
  obtain ⟨v0', ev', r0⟩ := e13.st.rep i _ ed
  rw [ev] at ev'; cases ev'
  obtain ⟨a', us, ea, ta, hA, ⟨hl, hks, hL⟩, rl⟩ := dict_at ho r0 .here
  cases ea
  obtain ⟨b, rfl, hb⟩ := rep_tkey e13.st.wf rk hko
  have hA' : w3.H a = some (.dT ((ks.map tkey).zip us)) := hA
  have hlen : ((ks.map tkey).zip us).length < sizeLine := by rw [List.length_zip, List.length_map]; omega
  have hin := (List.getElem?_eq_some_iff.mp ed).1
  rw [e13.len] at hin
  cases c with
  | int v' =>
    unfold setdK at q
    simp only at q
    split at q
    · rename_i m' en
      obtain ⟨vn, evn, rn⟩ := e13.st.rep n _ en
      simp only [Rep] at rn
      subst rn
      simp only [Rep] at r1
      subst r1
      refine ⟨_, tkey dk, b, hA', rfl, hb, hlen, fun vv hvv => ?_, fun hnn => ?_⟩
      · rw [valV_lk] at hvv
        cases eI : kIdx true ks dk with
        | none => rw [eI] at hvv; cases hvv
        | some j =>
          rw [eI] at hvv
          have hvv : us[j]? = some vv := hvv
          simp only [eI] at q
          split at q
          · rename_i o' xs ej
            obtain ⟨ho', q⟩ := q
            obtain ⟨qi, eq', q⟩ := natAt_elim q
            obtain ⟨v3, e5, r5⟩ := rl.get ej
            rw [hvv] at e5; cases e5
            have nd : Nd X.K w3 (.dct o true ks ds) [i + 1] a us := by
              show if o.mine then _ else _
              rw [if_pos ho]; exact ⟨ta, hA⟩
            have at0 : AtV X.K w3 (.dct o true ks ds) [i + 1] (.ref a) [j] (.lst o' xs) vv := .down rfl nd rl.length ej hvv .here
            obtain ⟨a2, us2, rfl, ta2, ha2, ⟨hz2, hL2⟩, rl2⟩ := list_at ho' r0 at0
            refine ⟨.int m', evn, a2, us2, m', qi, rfl, rfl, ha2, by rw [rl2.length]; exact eq', ?_⟩
            have rr : RepL X.K (w3.ren (moveT (ρ.length + 1) [0])) (xs.set qi (.int v')) ((i + 1) :: [j]) 0 (us2.set qi (.int v')) := by
              refine rep_set1 (RepL.of rl2.length fun q dq vq e3 e4 => ?_)
              obtain ⟨v3, e5, r3⟩ := rl2.get e3
              rw [e4] at e5; cases e5
              exact r3.mv (by omega)
            have ee := list_end (i := i) (τ := ρ.length + 1) (p := [j]) ho' ho' e13.st ed ev r0 at0 (by rw [e13.len]; omega) (Nat.le_refl _) rr (by rw [List.length_set]; exact hz2) (hL2.set1 qi v')
            have ep : (D.dct o true ks ds).put [j] (.lst o' (xs.set qi (.int v'))) = .dct o true ks (ds.set j (.lst o' (xs.set qi (.int v')))) := by
              simp only [D.put, D.kids, ej]; rfl
            rw [ep] at ee
            exact hf.nx _ _ σ (nf_of q) ((e13.trans ee (Nat.le_refl _)).s (Nat.lt_succ_self _))
          · exact q.elim
      · rw [valV_lk] at hnn
        have eI : kIdx true ks dk = none := by
          cases eI : kIdx true ks dk with
          | none => rfl
          | some j =>
            rw [eI] at hnn
            obtain ⟨hj, _⟩ := List.findIdx?_eq_some_iff_getElem.mp eI
            have hnn : us[j]? = none := hnn
            rw [List.getElem?_eq_none_iff] at hnn
            omega
        simp only [eI] at q
        cases dx with
        | lst o' xs =>
          obtain ⟨ho', q⟩ := q
          obtain ⟨qi, eq', q⟩ := natAt_elim q
          have eK : putKs true ks dk = ks ++ [dk] := by unfold putKs; rw [eI]
          have eD : ∀ {α : Type} (ds : List α) (d : α), putDs true ks dk ds d = ds ++ [d] := fun ds d => by unfold putDs; rw [eI]
          have eH : dHO true (ks ++ [dk]) (us ++ [v2]) = .dT (putK ((ks.map tkey).zip us) (tkey dk) v2) := by
            have := dHO_put (k := dk) (v := v2) hl hks
            rw [eK, eD] at this
            exact this
          rw [← eH]
          have rr : RepL X.K (w3.ren (moveT (ρ1.length + 3) ((i + 1) :: [] ++ [ds.length]))) (ds ++ [.lst o' xs]) ((i + 1) :: []) 0 (us ++ [v2]) := by
            have base : RepL X.K (w3.ren (moveT (ρ1.length + 3) ((i + 1) :: [] ++ [ds.length]))) ds ((i + 1) :: []) 0 us := RepL.of rl.length fun q dq vq e3 e4 => by
              obtain ⟨v3, e5, r3⟩ := rl.get e3
              rw [e4] at e5; cases e5
              exact r3.mv (by rw [e1.len]; omega)
            exact base.app (RepL.one (by rw [Nat.zero_add]; exact r3.mvT))
          have hks' : keysOk true (ks ++ [dk]) = true := by have := putKs_ok hks hko; rw [eK] at this; exact this
          have ee := dict_end (i := i) (τ := ρ.length + 1) (τ1 := ρ1.length + 3) (o' := .deep) (ks' := ks ++ [dk]) (p := []) ho rfl e13.st ed ev r0 .here (by rw [e13.len]; omega) (by rw [e1.len]; omega) rr ⟨by rw [List.length_append, List.length_append, hl]; rfl, hks', fun z => nomatch z⟩
          have ep : (D.dct o true ks ds).put [] (.dct .deep true (ks ++ [dk]) (ds ++ [.lst o' xs])) = .dct .deep true (ks ++ [dk]) (ds ++ [.lst o' xs]) := rfl
          rw [ep] at ee
          generalize hw4 : (w3.ren (moveT (ρ1.length + 3) ((i + 1) :: [] ++ [ds.length]))).put a (dHO true (ks ++ [dk]) (us ++ [v2])) = w4 at ee
          have hH : w4.H = upd w3.H a (dHO true (ks ++ [dk]) (us ++ [v2])) := by rw [← hw4]; rfl
          rw [← hH]
          have hin3 : i < ρ3.length := by rw [e13.len]; exact hin
          have ed4 : (ρ3.set i (some (.dct .deep true (ks ++ [dk]) (ds ++ [.lst o' xs]))))[i]? = some (some (.dct .deep true (ks ++ [dk]) (ds ++ [.lst o' xs]))) := List.getElem?_set_self hin3
          obtain ⟨v4, ev4, r4⟩ := ee.st.rep i _ ed4
          rw [ev] at ev4; cases ev4
          obtain ⟨a4, us4, ea4, ta4, hA4, ⟨hl4, _, _⟩, rl4⟩ := dict_at rfl r4 .here
          cases ea4
          have eu : us4 = us ++ [v2] := by
            rw [hH, upd_same] at hA4
            have hA4 := Option.some.inj hA4
            have hz : ((ks ++ [dk]).map tkey).zip (us ++ [v2]) = ((ks ++ [dk]).map tkey).zip us4 := HO.dT.inj hA4
            exact (zip_inj (by rw [List.length_map, List.length_append, List.length_append, hl]; rfl) (by rw [List.length_map]; exact hl4) hz).symm
          subst eu
          have hlu : us.length = ds.length := rl.length
          have ej : (ds ++ [D.lst o' xs])[ds.length]? = some (.lst o' xs) := by simp
          have evj : (us ++ [v2])[ds.length]? = some v2 := by rw [← hlu]; simp
          have nd : Nd X.K w4 (.dct .deep true (ks ++ [dk]) (ds ++ [.lst o' xs])) [i + 1] a (us ++ [v2]) := ⟨ta4, hA4⟩
          have at0 : AtV X.K w4 (.dct .deep true (ks ++ [dk]) (ds ++ [.lst o' xs])) [i + 1] (.ref a) [ds.length] (.lst o' xs) v2 := .down rfl nd rl4.length ej evj .here
          obtain ⟨a2, us2, rfl, ta2, ha2, ⟨hz2, hL2⟩, rl2⟩ := list_at ho' r4 at0
          refine ⟨.int m', evn, a2, us2, m', qi, rfl, rfl, ha2, by rw [rl2.length]; exact eq', ?_⟩
          have rr2 : RepL X.K (w4.ren (moveT (ρ.length + 1) [0])) (xs.set qi (.int v')) ((i + 1) :: [ds.length]) 0 (us2.set qi (.int v')) := by
            refine rep_set1 (RepL.of rl2.length fun q dq vq e3 e4 => ?_)
            obtain ⟨v3, e5, r3⟩ := rl2.get e3
            rw [e4] at e5; cases e5
            exact r3.mv (by omega)
          have ee2 := list_end (i := i) (τ := ρ.length + 1) (p := [ds.length]) ho' ho' ee.st ed4 ev r4 at0 (by rw [List.length_set, e13.len]; omega) (Nat.le_refl _) rr2 (by rw [List.length_set]; exact hz2) (hL2.set1 qi v')
          have ep2 : (D.dct .deep true (ks ++ [dk]) (ds ++ [.lst o' xs])).put [ds.length] (.lst o' (xs.set qi (.int v'))) = .dct .deep true (ks ++ [dk]) (ds ++ [.lst o' (xs.set qi (.int v'))]) := by
            simp only [D.put, D.kids, ej]
            show D.dct .deep true (ks ++ [dk]) ((ds ++ [D.lst o' xs]).set ds.length _) = _
            rw [List.set_append_right _ _ (Nat.le_refl _)]; simp
          rw [ep2, List.set_set] at ee2
          exact hf.nx _ _ σ (nf_of q) (((e13.trans ee (Nat.le_refl _)).trans ee2 (Nat.le_refl _)).s (Nat.lt_succ_self _))
        | _ => exact q.elim
    · exact q.elim
  | _ => exact q.elim
end
end FL
/-! FL38: == and != of a dict of ints or texts with the empty one. -/
namespace FL
open PySem PySem.Spec PyProof.Rows L2
section
variable {X : Cx}
def rEq0 (neg : Bool) : R2 := fun x y H Q => ∃ (a b : Addr) (ks : List (Key × V)), x = .ref a ∧ y = .ref b ∧ Rd H a (.dK ks) ∧ Rd H b (.dK []) ∧ Q (.bl (neg ^^ ks.isEmpty)) H
theorem isE_len {α : Type} (ks : List α) : ks.isEmpty = (ks.length == 0) := by cases ks <;> rfl
theorem op_eq0 (hu : X.A.units < cLine) : OpR X (compareOp .Eq) (rEq0 false) := by
  intro pins s σ H x y v u Q I rx ry h
  obtain ⟨a, b, ks, rfl, rfl, ea, eb, q⟩ := h
  obtain rfl : v = Value.ref a := rx
  obtain rfl : u = Value.ref b := ry
  obtain ⟨_, ya, va, ra, da⟩ := dk_rd I.hok ea
  obtain ⟨_, yb, vb, rb, db⟩ := dk_rd I.hok eb
  have hb : vb.length = 0 := by rw [← rb.length]; rfl
  have ha : va.length = ks.length := ra.length.symm
  refine PySem.W.keq_eq (knd := mixKind X.prog X.w) (r := true) ya yb da db hu (fun hl => hits_all rb ra fun p hp => ?_) ?_
  · have : ks = [] := List.length_eq_zero_iff.mp (by omega)
    subst this; cases hp
  · rw [Bool.and_true, hb, ha, ← isE_len]
    exact ⟨.bl _, H, I, by rw [Bool.false_xor]; rfl, q⟩
theorem op_ne0 (hu : X.A.units < cLine) : OpR X (compareOp .NotEq) (rEq0 true) := by
  intro pins s σ H x y v u Q I rx ry h
  obtain ⟨a, b, ks, rfl, rfl, ea, eb, q⟩ := h
  obtain rfl : v = Value.ref a := rx
  obtain rfl : u = Value.ref b := ry
  obtain ⟨_, ya, va, ra, da⟩ := dk_rd I.hok ea
  obtain ⟨_, yb, vb, rb, db⟩ := dk_rd I.hok eb
  have hb : vb.length = 0 := by rw [← rb.length]; rfl
  have ha : va.length = ks.length := ra.length.symm
  refine PySem.W.keq_ne (knd := mixKind X.prog X.w) (r := true) ya yb da db hu (fun hl => hits_all rb ra fun p hp => ?_) ?_
  · have : ks = [] := List.length_eq_zero_iff.mp (by omega)
    subst this; cases hp
  · rw [Bool.and_true, hb, ha, ← isE_len]
    exact ⟨.bl _, H, I, by rw [Bool.true_xor]; rfl, q⟩
/-- d == {}, d a dict of ints or texts -/
def dEq0 (neg : Bool) : DO := fun a b Q => ∃ o ks ds o', a = .dct o false ks ds ∧ b = .dct o' false [] [] ∧ Q (.bl (neg ^^ ks.isEmpty))
theorem sok_eq0 (neg : Bool) : SOK X.K (rEq0 neg) (dEq0 neg) := by
  intro τ w σ ρ x y dx dy ℓ ℓ' Q Qv hn st rx ry hd hq
  obtain ⟨o, ks, ds, o', rfl, rfl, q⟩ := hd
  obtain ⟨a, us, rfl, h1, h3, h4, h2⟩ := dct_at st.wf rx
  obtain ⟨b, vs, rfl, g1, g3, g4, g2⟩ := dct_at st.wf ry
  have hv : vs = [] := List.length_eq_zero_iff.mp g3.symm
  subst hv
  refine ⟨a, b, _, rfl, rfl, h1, g1, ?_⟩
  have e : ((ks.map skey).zip us).isEmpty = ks.isEmpty := by
    rw [isE_len, isE_len, List.length_zip, List.length_map, h3, Nat.min_self]
  rw [e]
  exact hq _ w _ q (.refl st) rfl
theorem fop_eq0 (hu : X.A.units + 64 < cLine) : FOp X (compareOp .Eq) (dEq0 false) := ⟨_, op_eq0 (by omega), sok_eq0 false⟩
theorem fop_ne0 (hu : X.A.units + 64 < cLine) : FOp X (compareOp .NotEq) (dEq0 true) := ⟨_, op_ne0 (by omega), sok_eq0 true⟩
end
end FL
/-! FL39: e[k].clear(), e a call's answer. -/
namespace FL
open PySem PySem.Spec PyProof.Rows L2
/-- a temporary's object is written -/
theorem put_tmp {K : PySem.W.Frag} {w : Wd} {σ : Sl} {ρ : En} {τ : Nat} {p : Loc} {a : Addr} {u : HO} (st : StE K w σ ρ) (hn : ρ.length < τ) (g : w.G a = some (τ :: p)) (m : Mut (some u)) : EndE K τ w σ ρ ρ (w.put a u) := by
  refine ⟨rfl, ⟨st.wf.put g m, st.len, fun j d e => ?_⟩, ⟨Same.refl _, fun b ℓ e ⟨h, s, e2, q⟩ => ⟨e, upd_ne fun z => ?_⟩⟩⟩
  · obtain ⟨v, e1, r⟩ := st.rep j d e
    have hj := (List.getElem?_eq_some_iff.mp e).1
    refine ⟨v, e1, Rep.to (w := w) (w' := w.put a u) (Same.refl _) d (put_kept g fun s z => ?_) r⟩
    injection z with z _
    omega
  · subst z
    rw [g] at e
    injection e with e
    subst e
    injection e2 with e2 _
    omega
/-- e[k].clear() -/
def rClrT (re rk : RE) : RE := fun ρ E Q => re ρ E fun d ρ1 => rk ρ1 E fun dk ρ2 => match dk with
  | .int n => match d with
    | .tup _ ds => match ixN ds.length n with
      | some j => match ds[j]? with
        | some (.lst o xs) => o.mine = true ∧ Q .non ρ2
        | _ => False
      | none => False
    | _ => False
  | _ => False
section
variable {X : Cx} {W : WX} {pos pos' apos : Pos}
theorem fe_clrT {e k : Expr} {re rk : RE} (he : FE X W e re) (hk : FE X W k rk) (hs : PlainIx k := by exact fun _ _ => rfl) (hbase : attributeBase (.Subscript e k pos') "clear" X.env (eval (.Subscript e k pos') X.env) = eval (.Subscript e k pos') X.env := by rfl) (hline2 : (apos.endLine == pos.line) = true := by rfl) :
    FE X W (.Call (.Attribute (.Subscript e k pos') "clear" apos) [] [] pos) (rClrT re rk) := by
  obtain ⟨t, p, l⟩ := he.ex
  obtain ⟨t', p', l'⟩ := hk.ex
  refine ⟨_, pe_bm0 PySem.F.plainAttrs_list PySem.F.slot_list_clear PySem.F.type_list_clear mt_clear (pe_ix ix_seq p p' hs) hbase hline2, fun τ w σ ρ E Q Qv hn st h hq hx => ?_⟩
  refine l τ w σ ρ E _ _ hn st h (fun d ρ1 w1 v h1 e1 r1 => ?_) hx
  refine l' (τ + 1) w1 σ ρ1 E _ _ (by rw [e1.len]; omega) e1.st h1 (fun dk ρ2 w2 vk h2 e2 r2 => ?_) (hx.then e1 (by omega))
  have e12 := e1.trans e2 (by omega)
  have r1' : Rep X.K w2 d [τ] v := e2.ext.rep (r := []) ⟨by rw [e1.len]; exact hn, by omega⟩ r1
  cases dk with
  | int n =>
    simp only [Rep] at r2
    subst r2
    cases d with
    | tup o ds =>
      dsimp only at h2
      cases ej : ixN ds.length n with
      | none => rw [ej] at h2; exact h2.elim
      | some j =>
        simp only [ej] at h2
        cases ex : ds[j]? with
        | none => simp only [ex] at h2
        | some c =>
          simp only [ex] at h2
          cases c with
          | lst o' xs =>
            obtain ⟨ho, q⟩ := h2
            have rn := r1'
            rw [rep_inner rfl] at rn
            obtain ⟨a, vs, rfl, nd, sz, rl⟩ := rn
            have rl : RepL X.K w2 ds [τ] 0 vs := rl
            obtain ⟨x, ev, rx⟩ := rl.get ex
            have nd' : w2.S a = some (.tup vs) := nd
            have at0 : AtV X.K w2 (.tup o ds) [τ] (.ref a) [j] (.lst o' xs) x := .down rfl nd rl.length ex ev .here
            obtain ⟨ty, a2, us, rfl, g, hh, z, rl2⟩ := seen_at (dn := .non) ho r1' at0
            have hat : atI vs n = some (.ref a2) := atI_ixN (by rw [rl.length]; exact ej) ev
            refine .inr (.inl ⟨a, vs, n, _, rfl, rfl, SqT.of (e2.st.wf.sh _ _ nd'), hat, ty, a2, us, rfl, rfl, hh, ?_⟩)
            have ee := put_tmp (u := .lst []) e2.st (by rw [e12.len]; exact hn) g trivial
            exact hq .non ρ2 (w2.put a2 (.lst [])) .non q (e12.trans ee (Nat.le_refl _)) rfl
          | _ => exact h2.elim
    | _ => exact h2.elim
  | _ => exact h2.elim
end
end FL
/-! FL40: x is None, as a test. -/
namespace FL
open PySem PySem.Spec PyProof.Rows L2
def dIsN0 (neg : Bool) : DO := fun a b Q => match b with
  | .non => match isNon a with
    | some c => Q (.bl (neg ^^ c))
    | none => False
  | _ => False
section
variable {X : Cx}
theorem fop_isN0 : FOp X (compareOp .Is) (dIsN0 false) := ⟨_, op_isN, fun τ w σ ρ x y dx dy ℓ ℓ' Q Qv hn st rx ry hd hq => by
  cases dy with
  | non =>
    unfold dIsN0 at hd
    simp only at hd
    cases e : isNon dx with
    | none => simp only [e] at hd
    | some c =>
      simp only [e] at hd
      simp only [Rep] at ry
      refine ⟨ry, hq _ _ _ hd (.refl st) ?_⟩
      simp only [Rep]
      rw [isNon_rep rx e, Bool.false_xor]
  | _ => exact hd.elim⟩
theorem fop_notN0 : FOp X (compareOp .IsNot) (dIsN0 true) := ⟨_, op_notN, fun τ w σ ρ x y dx dy ℓ ℓ' Q Qv hn st rx ry hd hq => by
  cases dy with
  | non =>
    unfold dIsN0 at hd
    simp only at hd
    cases e : isNon dx with
    | none => simp only [e] at hd
    | some c =>
      simp only [e] at hd
      simp only [Rep] at ry
      refine ⟨ry, hq _ _ _ hd (.refl st) ?_⟩
      simp only [Rep]
      rw [isNon_rep rx e, Bool.true_xor]
  | _ => exact hd.elim⟩
end
end FL
/-! FL41: sorted(set(rows)), rows of whole numbers. -/
namespace FL
open PySem PySem.Spec PyProof.Rows L2
def rowT (r : List Int) : D := .tup false (r.map D.int)
theorem le_of_code {B : Int} : ∀ {n m : List Int}, n.length = m.length → TS.Bd B n → TS.Bd B m → TS.code B n ≤ TS.code B m → n ≤ m
  | [], [], _, _, _, _ => List.le_refl _
  | [], _ :: _, h, _, _, _ => nomatch h
  | _ :: _, [], h, _, _, _ => nomatch h
  | d :: r, e :: q, hl, hn, hm, h => by
    have hl' : r.length = q.length := by simpa using hl
    rw [List.cons_le_cons_iff]
    rcases Int.lt_trichotomy d e with k | k | k
    · exact .inl k
    · subst k
      refine .inr ⟨rfl, le_of_code hl' hn.tail hm.tail ?_⟩
      have := (TS.code_same (B := B) (d := d) hl'.symm)
      have h2 : ¬ TS.code B (d :: q) < TS.code B (d :: r) := by omega
      rw [this] at h2
      omega
    · have := TS.code_lt hl'.symm hm.tail hn.tail k
      omega
theorem rows_ks {K : PySem.W.Frag} {w : Wd} : ∀ {rs : List (List Int)} {us : List V} {ℓ : Loc} {j : Nat}, RepL K w (rs.map rowT) ℓ j us → ∃ ks : List (Addr × List Int), us = ks.map (fun p => V.ref p.1) ∧ ks.map (·.2) = rs ∧ ∀ p ∈ ks, w.S p.1 = some (.tup (p.2.map V.int))
  | [], us, ℓ, j, h => ⟨[], h, rfl, fun _ h => (nomatch h)⟩
  | r :: rs, us, ℓ, j, h => by
    obtain ⟨v, us', rfl, h1, h2⟩ := h
    obtain ⟨ks, rfl, e2, e3⟩ := rows_ks h2
    have h1 : Rep K w (.tup false (r.map D.int)) (ℓ ++ [j]) v := h1
    rw [rep_inner rfl] at h1
    obtain ⟨a, vs, rfl, nd, _, rl⟩ := h1
    obtain rfl := repl_ints rl
    refine ⟨(a, r) :: ks, rfl, by rw [List.map_cons, e2], fun p hp => ?_⟩
    rcases List.mem_cons.mp hp with rfl | hp
    · exact nd
    · exact e3 p hp
theorem repl_of_ints {K : PySem.W.Frag} {w : Wd} : ∀ {ns : List Int} {ℓ : Loc} {j : Nat}, RepL K w (ns.map D.int) ℓ j (ns.map V.int)
  | [], _, _ => by simp [RepL]
  | n :: ns, ℓ, j => ⟨.int n, ns.map V.int, rfl, by simp [Rep], repl_of_ints⟩
/-- sorted(set(e)) -/
def rSortSet (ra : RA) : RE := fun ρ E Q => ra ρ E fun ads ρ1 => onAds ρ1 ads fun ds => match ds with
  | [.lst _ xs] => ∃ (rs : List (List Int)) (d : Nat) (B : Int), xs = rs.map rowT ∧ rs.length < 64 ∧ (1 ≤ d ∧ d ≤ 1000) ∧ (∀ r ∈ rs, r.length = d ∧ TS.Bd B r) ∧
    ∀ rs' : List (List Int), rs'.Nodup → (∀ r, r ∈ rs' ↔ r ∈ rs) → (rs'.Pairwise fun a b => a ≤ b) → Q (.lst .flat (rs'.map rowT)) ρ1
  | _ => False
section
variable {X : Cx} {W : WX} {e : Expr} {pos pos' p p2 : Pos} {ra : RA}
theorem fe_sortSet (ha : FA X W [e] ra) (hu : X.A.units + 64 < cLine) (hm : X.mg "sorted" = none) (hm2 : X.mg "set" = none) (hc : X.calm = true := by rfl) (hg : Gl X "sorted" := by rfl) (hg2 : Gl X "set" := by rfl)
    (he : starEach [e] X.env = [(false, eval e X.env)] := by rfl)
    (he2 : starEach [.Call (.Name "set" p2) [e] [] pos'] X.env = [(false, eval (.Call (.Name "set" p2) [e] [] pos') X.env)] := by rfl) :
    FE X W (.Call (.Name "sorted" p) [.Call (.Name "set" p2) [e] [] pos'] [] pos) (rSortSet ra) := by
  obtain ⟨t, pa, sa⟩ := ha.ex
  have pset := pe_callTy (p := p2) (pos := pos') (cr_setOfT (X := X) hc hu) hg2 hm2 (by decide +kernel) pa (by decide) (by decide) he
  refine ⟨_, pe_callB (cr_sortedT hc) hg hm (by decide +kernel) (pa_cons pset pa_nil) (by decide) (by decide) he2, fun τ w σ ρ E Q Qv hn st h hq hx => ?_⟩
  refine sa τ w σ ρ E _ _ hn st h (fun ads ρ1 w1 vs h1 l1 e1 r1 => ?_) hx
  obtain ⟨ds, ev, q⟩ := onAds_elim h1
  have rs0 := ads_any e1.st r1 ev
  have hn1 : ρ1.length < τ := by rw [e1.len]; exact hn
  split at q
  · rename_i o xs
    obtain ⟨rs, d, B, rfl, h64, ⟨hd, hd2⟩, hb, q⟩ := q
    obtain ⟨v, ℓ, rfl, r⟩ := reps1 rs0
    obtain ⟨a, us, rfl, g1, g2⟩ := lst_at e1.st.wf r
    obtain ⟨ks, rfl, ek, hk⟩ := rows_ks g2
    have hkl : ks.length = rs.length := by rw [← ek, List.length_map]
    have hkb : ∀ p ∈ ks, p.2.length = d ∧ TS.Bd B p.2 := fun p hp => hb p.2 (by rw [← ek]; exact List.mem_map.mpr ⟨p, hp, rfl⟩)
    refine ⟨a, ks, rfl, SqL.of g1, fun p hp => SqT.of (e1.st.wf.sh _ _ (hk p hp)), by omega, fun s L hn2 hL1 hL2 => ?_⟩
    have e2 := EndE.shr (τ := τ) e1.st hn2 (o := SetTO X.prog X.w s L)
    have hS : ∀ p ∈ L, (w1.shr s (SetTO X.prog X.w s L)).S p.1 = some (.tup (p.2.map V.int)) := fun p hp => shr_same e1.st.wf hn2 _ _ (hk p (hL1 p hp))
    refine ⟨s, L, d, B, rfl, upd_same, fun p hp => SqT.of (e2.st.wf.sh _ _ (hS p hp)), hd, fun p hp => hkb p (hL1 p hp), fun L' z pm nd l64 pw hz => ?_⟩
    have rl : RepL X.K (w1.shr s (SetTO X.prog X.w s L)) ((L'.map (·.2)).map rowT) [τ] 0 (L'.map fun q => V.ref q.1) := by
      refine RepL.of (by simp) fun i dq vq e3 e4 => ?_
      rw [List.getElem?_map, List.getElem?_map] at e3
      rw [List.getElem?_map] at e4
      cases el : L'[i]? with
      | none => rw [el] at e4; cases e4
      | some p =>
        rw [el] at e3 e4
        cases e3
        cases e4
        have hp : p ∈ L := pm.mem_iff.mp (List.mem_of_getElem? el)
        show Rep X.K _ (.tup false (p.2.map D.int)) _ (.ref p.1)
        rw [rep_inner rfl]
        refine ⟨p.1, p.2.map V.int, rfl, hS p hp, ⟨?_, fun _ => own_map fun _ => rfl⟩, repl_of_ints⟩
        have := (hkb p (hL1 p hp)).1
        show (p.2.map D.int).length ≤ sizeLine
        rw [List.length_map, sizeLine_eq]; omega
    obtain ⟨e3, r3⟩ := EndE.own (τ := τ) .flat e2.st hz rl (by rw [List.length_map, List.length_map, sizeLine_eq]; omega) (fun _ => own_map fun _ => rfl) rfl
    refine hq (.lst .flat ((L'.map (·.2)).map rowT)) ρ1 _ (.ref z) (q (L'.map (·.2)) nd (fun r => ⟨fun hr => ?_, fun hr => ?_⟩) ?_) ((e1.trans e2 (Nat.le_refl _)).trans e3 (Nat.le_refl _)) r3
    · obtain ⟨p, hp, rfl⟩ := List.mem_map.mp hr
      rw [← ek]
      exact List.mem_map.mpr ⟨p, hL1 p (pm.mem_iff.mp hp), rfl⟩
    · rw [← ek] at hr
      obtain ⟨p, hp, rfl⟩ := List.mem_map.mp hr
      obtain ⟨p', hp', e⟩ := List.mem_map.mp (hL2 p hp)
      exact List.mem_map.mpr ⟨p', pm.mem_iff.mpr hp', e⟩
    · refine List.pairwise_map.mpr (pw.imp_of_mem fun {x y} hx hy h => ?_)
      have b1 := hkb x (hL1 x (pm.mem_iff.mp hx))
      have b2 := hkb y (hL1 y (pm.mem_iff.mp hy))
      exact le_of_code (b1.1.trans b2.1.symm) b1.2 b2.2 h
  · exact q.elim
end
end FL
/-! FL42: a or b, where a is a list. -/
namespace FL
open PySem PySem.Spec PyProof.Rows L2
def rOrT (r s : RE) : RE := fun ρ E Q => r ρ E fun d ρ1 => match d with
  | .lst o ds => (ds.isEmpty = false → Q (.lst o ds) ρ1) ∧ (ds.isEmpty = true → s ρ1 E Q)
  | _ => False
section
variable {X : Cx} {W : WX} {a b : Expr} {rest : List Expr} {re se : RE} {pos : Pos}
theorem fe_orT (h : FE X W a re) (g : FE X W (.BoolOp .Or (b :: rest) pos) se) : FE X W (.BoolOp .Or (a :: b :: rest) pos) (rOrT re se) := by
  obtain ⟨t, p, k⟩ := h.ex
  obtain ⟨u, q, l⟩ := g.ex
  refine ⟨_, pe_orT p q, fun τ w σ ρ E Q Qv hn st h hq hx => ?_⟩
  refine k τ w σ ρ E _ _ hn st h (fun d ρ1 w1 v h1 e1 r1 => ?_) hx
  cases d with
  | lst o ds =>
    obtain ⟨c, us, rfl, hc, rl⟩ := lst_at e1.st.wf r1
    have el : us.isEmpty = ds.isEmpty := by
      have := rl.length
      cases us <;> cases ds <;> simp at this ⊢
    refine ⟨!us.isEmpty, .inl ⟨us, SqL.of hc, rfl⟩, ?_⟩
    rw [el]
    cases ee : ds.isEmpty with
    | false =>
      rw [if_pos (show (!false) = true from rfl)]
      exact hq _ ρ1 w1 _ (h1.1 ee) e1 r1
    | true =>
      rw [if_neg (show ¬ (!true) = true by decide)]
      exact l τ w1 σ ρ1 E _ _ (by rw [e1.len]; exact hn) e1.st (h1.2 ee) (fun b ρ2 w2 v h2 e2 r2 => hq b ρ2 w2 v h2 (e1.trans e2 (Nat.le_refl _)) r2) (hx.then e1 (Nat.le_refl _))
  | _ => exact h1.elim
end
end FL
/-! FL43: a call whose first argument is a place (x[k], ..) that the def changes. -/
namespace FL
open PySem PySem.Spec PyProof.Rows L2
def valsOf : List AD → Option (List D)
  | [] => some []
  | .val d :: r => match valsOf r with
    | some ds => some (d.frz :: ds)
    | none => none
  | .brw _ :: _ => none
def putO (d0 : D) (p : List Nat) : Option D → Option D
  | some d => some (d0.put p d)
  | none => none
def rCallP (r : FSpec) (rp : RPl) (ra : RA) : RE := fun ρ E Q => rp ρ E fun i p ρ1 => match ρ1[i]? with
  | some (some d0) => match d0.atS p with
    | some dn => ra (ρ1.set i none) (heldE i d0 E) fun ads ρ2 => match valsOf ads with
      | some ds => dn.own = true ∧ r (dn :: ds) (fun c fs os => E c fs (ρ2.set i (putO d0 p (oGet os 0)))) (fun d os => nf (ρ2.set i (putO d0 p (oGet os 0))) (Q d))
      | none => False
    | none => False
  | _ => False
theorem valsOf_get : ∀ {ads : List AD} {ds : List D}, valsOf ads = some ds → ds.length = ads.length ∧ ∀ (q : Nat) (d : D), ds[q]? = some d → ∃ d0, ads[q]? = some (.val d0) ∧ d = d0.frz
  | [], ds, h => by cases h; exact ⟨rfl, fun q d e => by simp at e⟩
  | .val d0 :: r, ds, h => by
    simp only [valsOf] at h
    split at h
    · rename_i ds' e
      cases h
      obtain ⟨h1, h2⟩ := valsOf_get e
      refine ⟨by simp [h1], fun q d e => ?_⟩
      cases q with
      | zero => cases e; exact ⟨_, rfl, rfl⟩
      | succ q => exact h2 q d (by simpa using e)
    · cases h
  | .brw i :: r, ds, h => by cases h
/-- into the def -/
def inP (i : Nat) (p : List Nat) (τ : Nat) : Loc → Option Loc := fun ℓ => match ((i + 1) :: p).isPrefixOf ℓ with
  | true => some (1 :: ℓ.drop (p.length + 1))
  | false => match ℓ with
    | h :: s => if τ ≤ h then none else some (0 :: h :: s)
    | [] => some [0]
def outP (i : Nat) (p : List Nat) (τ m : Nat) : Loc → Option Loc
  | 0 :: s => some s
  | 1 :: s => some ((i + 1) :: p ++ s)
  | h :: s => if h = m + 1 then some (τ :: s) else none
  | [] => none
def icP (τ : Nat) : Loc → Bool
  | h :: _ => decide (τ ≤ h)
  | [] => false
theorem inP_at (i : Nat) (p : List Nat) (τ : Nat) (s : Loc) : inP i p τ ((i + 1) :: p ++ s) = some (1 :: s) := by
  unfold inP
  rw [show ((i + 1) :: p).isPrefixOf ((i + 1) :: p ++ s) = true from List.isPrefixOf_iff_prefix.mpr (List.prefix_append _ _)]
  dsimp only
  rw [List.cons_append, List.drop_succ_cons, List.drop_left]
theorem inP_ne {i : Nat} {p : List Nat} {τ h : Nat} {s : Loc} (hp : ¬ ((i + 1) :: p <+: h :: s)) (hh : h < τ) : inP i p τ (h :: s) = some (0 :: h :: s) := by
  unfold inP
  rw [show ((i + 1) :: p).isPrefixOf (h :: s) = false by
    cases q : ((i + 1) :: p).isPrefixOf (h :: s) with
    | false => rfl
    | true => exact absurd (List.isPrefixOf_iff_prefix.mp q) hp]
  show (if τ ≤ h then none else some (0 :: h :: s)) = _
  rw [if_neg (by omega)]
theorem outP_ret {i : Nat} {p : List Nat} {τ m : Nat} (hm : 1 ≤ m) (s : Loc) : outP i p τ m ((m + 1) :: s) = some (τ :: s) := by
  obtain ⟨m, rfl⟩ : ∃ k, m = k + 1 := ⟨m - 1, by omega⟩
  show (if m + 1 + 1 = m + 1 + 1 then some (τ :: s) else none) = _
  rw [if_pos rfl]
section
variable {X : Cx} {W : WX}
theorem callP_sound {m τ τ1 : Nat} {r : FSpec} {w : Wd} {σ : Sl} {ρ : En} {E : EE} {Q : D → En → Prop} {Qv : VK} {ads : List AD} {vs : List V} {ds : List D} {i : Nat} {d0 dn : D} {v0 u : V} {p : List Nat} (hn : ρ.length < τ) (h1 : τ ≤ τ1) (st : StE X.K w σ ρ)
    (hi : ρ[i]? = some (some d0)) (hv : σ[i]? = some (some v0)) (at0 : AtV X.K w d0 [i + 1] v0 p dn u) (hl : ads.length + 1 = m) (ha : ArgsAt X.K w σ ads τ1 vs) (hd : valsOf ads = some ds) (ho : dn.own = true)
    (h : r (dn :: ds) (fun c fs os => E c fs (ρ.set i (putO d0 p (oGet os 0)))) (fun d os => nf (ρ.set i (putO d0 p (oGet os 0))) (Q d)))
    (hq : ∀ d ρ' w' v, Q d ρ' → EndE X.K τ w σ ρ ρ' w' → Rep X.K w' d [τ] v → Qv v w'.H) (hx : SX X.K W τ w σ ρ E) : FnD X.K m [0] r (u :: vs) w.H Qv (WE W σ) := by
  have hin := (List.getElem?_eq_some_iff.mp hi).1
  obtain ⟨v0', ev', r0⟩ := st.rep i d0 hi
  rw [hv] at ev'; cases ev'
  obtain ⟨lv, av⟩ := argsAt_get ha
  obtain ⟨ld, gd⟩ := valsOf_get hd
  have rn := at0.rep r0
  refine ⟨by simp [lv]; omega, (w.ice (icP τ1)).ren (inP i p τ1), dn :: ds, _, _, rfl, st.wf.ice.ren _, by simp [ld]; omega, fun j d v e1 e2 => ?_, h, fun d os w' v hQ eF rv => ?_, fun c fs os w' x hE eF rx => ?_⟩
  · cases j with
    | zero =>
      cases e1; cases e2
      refine Rep.ren (ℓ := (i + 1) :: p) (Rep.to (w' := w.ice (icP τ1)) (ice_same st.wf) dn (ice_kept fun s => ?_) rn) fun s => inP_at i p τ1 s
      show decide (τ1 ≤ i + 1) = false
      exact decide_eq_false (by omega)
    | succ j =>
      have e1 : ds[j]? = some d := by simpa using e1
      have e2 : vs[j]? = some v := by simpa using e2
      obtain ⟨d1, ea, rfl⟩ := gd j d e1
      have at1 : Rep X.K w d1 [τ1 + j] v := av j _ v ea e2
      refine Rep.free (w := w.ice (icP τ1)) (w' := (w.ice (icP τ1)).ren (inP i p τ1)) (ℓ := [τ1 + j]) (Same.refl _) _ (frz_own d1) (Rep.frz (ice_same st.wf) d1 (ice_frz fun s => ?_) at1)
      show decide (τ1 ≤ τ1 + j) = true
      exact decide_eq_true (by omega)
  all_goals
    have key : EndE X.K τ w σ ρ (ρ.set i (putO d0 p (oGet os 0))) (w'.ren (outP i p τ m)) := by
      have back : ∀ a h s, w.G a = some (h :: s) → h < τ1 → ¬ ((i + 1) :: p <+: h :: s) → (w'.ren (outP i p τ m)).G a = some (h :: s) ∧ w'.H a = w.H a := fun a h s e1 e2 e3 => by
        have g1 : (w.ice (icP τ1)).G a = some (h :: s) := by
          have := (ice_kept (w := w) (P := icP τ1) (ℓ := h :: s) (fun t => decide_eq_false (by omega)) a [] (by simpa using e1)).1
          simpa using this
        obtain ⟨k1, k2⟩ := eF.f a (h :: s) (ren_at g1 (inP_ne e3 e2))
        exact ⟨ren_at k1 rfl, k2⟩
      have hss : Same w.S w'.S := (ice_same st.wf).trans eF.s
      refine ⟨by rw [List.length_set], ⟨eF.wf.ren _, by rw [List.length_set]; exact st.len, fun k d' e => ?_⟩, ⟨hss, fun a ℓ e ⟨h, s, e2, k⟩ => ?_⟩⟩
      · by_cases hk : k = i
        · subst hk
          rw [List.getElem?_set_self hin] at e
          have e : putO d0 p (oGet os 0) = some d' := Option.some.inj e
          cases q : oGet os 0 with
          | none => rw [q] at e; cases e
          | some d1 =>
            rw [q] at e
            cases e
            have q1 : os[0]? = some (some d1) := by
              unfold oGet at q
              cases z : os[0]? with
              | none => rw [z] at q; cases q
              | some o => rw [z] at q; have q : o = some d1 := q; rw [q]
            refine ⟨v0, hv, at0.put (w' := w'.ren (outP k p τ m)) r0 hss (fun _ => ho) (fun b l hb p1 p2 => ?_) ?_⟩
            · obtain ⟨t, rfl⟩ := p1
              exact back b (k + 1) t hb (by omega) p2
            · exact (eF.args 0 rfl d1 u q1 rfl).ren fun s => rfl
        · rw [List.getElem?_set_ne (Ne.symm hk)] at e
          obtain ⟨v', e3, r3⟩ := st.rep k d' e
          have hkl := (List.getElem?_eq_some_iff.mp e).1
          exact ⟨v', e3, Rep.to (w' := w'.ren (outP i p τ m)) hss d' (fun a s e6 => back a (k + 1) s e6 (by omega) fun z => by
            have := (List.cons_prefix_cons.mp z).1
            omega) r3⟩
      · subst e2
        refine back a h s e (by omega) fun z => ?_
        have := (List.cons_prefix_cons.mp z).1
        omega
  · exact hq d _ (w'.ren (outP i p τ m)) v (nf_of hQ) key (rv.ren fun s => outP_ret (by omega) s)
  · refine hx c fs _ (w'.ren (outP i p τ m)) x hE key ?_
    cases x with
    | none => cases fs <;> exact rx
    | some a =>
      cases fs with
      | none => exact rx
      | some fs =>
        obtain ⟨us, h1, h2, h3, h4⟩ := rx
        exact ⟨us, h1, h2, h3, RepL.free (w := w') (w' := w'.ren (outP i p τ m)) (Same.refl _) _ h3 h4⟩
variable {k : Nat} {f : Addr} {fd : FuncData} {ps : List Str} {r : FSpec} {x : Str} {p pos : Pos} {e e1 : Expr} {es : List Expr} {rp : RPl} {ra : RA}
theorem args_mv {K : PySem.W.Frag} {w w' : Wd} {σ : Sl} {τ : Nat} (h : ∀ d v j, τ ≤ j → Rep K w d [j] v → Rep K w' d [j] v) : ∀ {ads : List AD} {t : Nat} {vs : List V}, τ ≤ t → ArgsAt K w σ ads t vs → ArgsAt K w' σ ads t vs
  | [], _, _, _, g => g
  | .val d :: r, t, vs, ht, g => by
    obtain ⟨v, us, e, g1, g2⟩ := g
    exact ⟨v, us, e, h d v t ht g1, args_mv h (Nat.le_succ_of_le ht) g2⟩
  | .brw i :: r, t, vs, ht, g => by
    obtain ⟨v, us, e, g1, g2⟩ := g
    exact ⟨v, us, e, g1, args_mv h (Nat.le_succ_of_le ht) g2⟩
theorem fe_callP {m : Nat} (tk : Takes X W) (F : FnOk X.prog X.w X.K X.mg X.base (L2.CX X.prog X.w) k f fd ps (FnD X.K m [0] r)) (hr : Room k X.A) (hm : X.mg x = some (.ref f)) (hk : PySem.W.keepIn X.K (.ref f) = true) (hb : Binds X.K fd ps [])
    (hp : FPl X W e rp) (ha : FA X W es ra) (hl : es.length + 1 = m := by rfl) (hg : Gl X x := by rfl) (hdb : (x == ("__debug__" : Str)) = false := by decide) (he : starEach (e :: es) X.env = (false, eval e X.env) :: starEach es X.env := by rfl) (hpl : (backTo pos (starEach es X.env)).any (·.1) = false := by rfl) :
    FE X W (.Call (.Name x p) (e :: es) [] pos) (rCallP r rp ra) := by
  obtain ⟨t, q, l⟩ := hp.ex
  obtain ⟨t', q', l'⟩ := ha.ex
  refine ⟨_, pe_callS (E := WE W) F hr hg hm hk hb (fun σ => passAt tk σ) (pa_cons q q' he) hdb he hpl, fun τ w σ ρ E Q Qv hn st h hq hx => ?_⟩
  refine l τ w σ ρ E _ _ hn st h (fun i p ρ1 w1 d0 dn v0 v h1 e1 hi ha hv at0 => ?_) hx
  have hn1 : ρ1.length < τ := by rw [e1.len]; exact hn
  obtain ⟨s1, back⟩ := hold e1.st hi hv at0 hn1
  have hx1 : SX X.K W τ w1 σ ρ1 E := hx.then e1 (Nat.le_refl _)
  simp only [hi, ha] at h1
  refine l' (τ + 1) (w1.ren (moveT (i + 1) [τ])) σ (ρ1.set i none) _ _ _ (by rw [List.length_set]; omega) s1 h1 (fun ads ρ2 w2 vs h2 l2 e2 r2 => ?_) (held_sx hx1 fun ρ' w' en => (back ρ' w' en).1)
  obtain ⟨b1, b2, b3⟩ := back ρ2 w2 e2
  have hin := (List.getElem?_eq_some_iff.mp hi).1
  have hl2 : ρ2.length = ρ1.length := by rw [e2.len, List.length_set]
  have hi2 : (ρ2.set i (some d0))[i]? = some (some d0) := List.getElem?_set_self (by omega)
  cases ev : valsOf ads with
  | none => simp only [ev] at h2
  | some ds =>
    simp only [ev] at h2
    obtain ⟨ho, h2⟩ := h2
    refine callP_sound (w := w2.ren (moveT τ [i + 1])) (τ := τ) (τ1 := τ + 1) (E := E) (Q := Q) (by rw [List.length_set]; omega) (Nat.le_succ _) b1.st hi2 hv b2 (by rw [l2]; exact hl) (args_mv (τ := τ + 1) (fun d v j hj r => b3 d v j [] (by omega) r) (Nat.le_refl _) r2) ev ho ?_ (fun d ρ' w' v q e2 r2 => hq d ρ' w' v q (e1.trans (b1.trans e2 (Nat.le_refl _)) (Nat.le_refl _)) r2) (hx.then (e1.trans b1 (Nat.le_refl _)) (Nat.le_refl _))
    have es : ∀ o : Option D, (ρ2.set i (some d0)).set i o = ρ2.set i o := fun o => List.set_set ..
    simp only [es]
    exact h2
end
end FL
/-! FL44: for x in place: x.append(c), of lists that stand in an owned list. -/
namespace FL
open PySem PySem.Spec PyProof.Rows L2
def appD (c : Int) : D → D
  | .lst o xs => .lst o (xs ++ [.int c])
  | d => d
def flatRow (d : D) : Prop := ∃ xs, d = .lst .flat xs ∧ xs.length < sizeLine
def rForApp (x : Nat) (c : Int) (rp : RPl) : RS := fun ρ E F => rp ρ E fun i p ρ1 => match ρ1[i]? with
  | some (some d0) => match d0.atS p with
    | some (.lst o rows) => (o.mine = true ∧ i ≠ x ∧ x < ρ1.length) ∧ (∀ d ∈ rows, flatRow d) ∧ nf ((ρ1.set i (some (d0.put p (.lst o (rows.map (appD c)))))).set x none) F.nx
    | _ => False
  | _ => False
section
variable {K : PySem.W.Frag} {w w' : Wd}
theorem withKids_seen {d : D} {es : List D} : (d.withKids es).seen = d.seen := by cases d <;> rfl
theorem appD_own (c : Int) (d : D) : (appD c d).own = d.own := by cases d <;> rfl
end
section
variable {X : Cx} {W : WX} {M : List Nat} {pos p2 apos cp epos : Pos}
theorem fs_forApp (x : Nat) {nm : Str} {iter : Expr} {c : Int} {j : Nat} {cpos : Pos} {rp : RPl} {tp : Pos} (hp : PassesOwn (model X.prog X.w) X.A X.env X.xe) (hi : FPl X W iter rp) (hNd : X.N.Nodup)
    (hN : X.N[x]? = some nm := by rfl) (hx : L2.Loc X.env.scope nm := by first | exact .inl rfl | exact .inr rfl) (hf : X.fn nm = true ∨ X.env.scope.names.lookup nm = some .local := by first | exact .inl rfl | exact .inr rfl)
    (hv : Vis X.env.scope nm := by first | exact Or.inl rfl | exact Or.inr (Or.inl rfl) | exact Or.inr (Or.inr rfl)) (hd : (nm == ("__debug__" : Str)) = false := by decide) (hcd : (nm == ("__classdict__" : Str)) = false := by decide)
    (hbase : attributeBase (.Name nm p2) "append" X.env (eval (.Name nm p2) X.env) = eval (.Name nm p2) X.env := by rfl)
    (hfew : ((backTo cp (starEach [.Constant (.int c) j cpos] X.env)).all (fun x => !x.1) && (backToKw cp (keywordEach [] X.env)).all (fun x => x.1.isSome)
      && decide ([(.Constant (.int c) j cpos : Expr)].length + ([] : List Keyword).length + (if ([] : List Keyword).isEmpty then 0 else 1) < 30)) = true := by rfl)
    (hline : (apos.endLine == cp.line) = true := by rfl) (hst : starEach [.Constant (.int c) j cpos] X.env = (false, eval (.Constant (.int c) j cpos) X.env) :: starEach [] X.env := by rfl) (hplain : (backTo cp (starEach [] X.env)).any (·.1) = false := by rfl)
    (hsw : swapsWith (.Call (.Attribute (.Name nm p2) "append" apos) [.Constant (.int c) j cpos] [] cp) none epos.line X.env = pure false := by rfl)
    (hA : (M.all fun i => !(i == x)) = true := by rfl) (hc : X.calm = true := by rfl) (hs : ∀ x, foldedSetIterable iter X.env x = pure x := by intro _; rfl) :
    FS X W M (.For (.Name nm tp) iter [.Expr (.Call (.Attribute (.Name nm p2) "append" apos) [.Constant (.int c) j cpos] [] cp) epos] [] pos) (rForApp x c rp) := by
  obtain ⟨t, q, l⟩ := hi.ex
  refine ⟨_, ps_for hp hc (pi_list q) (pg_name hNd hN hx hf) (pss_one (ps_expr (pe_bm PySem.F.plainAttrs_list PySem.F.slot_list_append PySem.F.type_list_append mt_append (pe_var hN hv hd hcd) (pa_cons pe_int pa_nil hst) hbase hfew hline hst hplain) hsw)) hs, fun w σ ρ E F D st h hff => ?_⟩
  refine l _ w σ ρ E _ _ (Nat.lt_succ_self _) st h (fun i p ρ1 w1 d0 dn v0 v h1 e1 hi ha hv at0 => ?_) hff.sx
  simp only [hi, ha] at h1
  obtain ⟨v0', ev', r0⟩ := e1.st.rep i d0 hi
  rw [hv] at ev'; cases ev'
  cases dn with
  | lst o rows =>
    obtain ⟨⟨ho, hne, hxl0⟩, hfl, hq⟩ := h1
    obtain ⟨a, us, rfl, ta, hha, ⟨hz, hLt⟩, rl⟩ := list_at ho r0 at0
    refine ⟨a, rfl, ⟨us, SqL.of hha⟩, ?_⟩
    have hin := (List.getElem?_eq_some_iff.mp hi).1
    -- between the turns
    let rowsK : Nat → List FL.D := fun k => (rows.take k).map (appD c) ++ rows.drop k
    have rget : ∀ k q, (rowsK k)[q]? = (rows[q]?).map fun d => if q < k then appD c d else d := fun k q => by
      show ((rows.take k).map (appD c) ++ rows.drop k)[q]? = _
      by_cases hq : q < k
      · simp only [if_pos hq]
        by_cases hl : q < rows.length
        · rw [List.getElem?_append_left (by rw [List.length_map, List.length_take]; omega), List.getElem?_map, List.getElem?_take, if_pos hq]
        · rw [List.getElem?_append_right (by rw [List.length_map, List.length_take]; omega), List.getElem?_drop, List.getElem?_eq_none (by rw [List.length_map, List.length_take]; omega), List.getElem?_eq_none (by omega)]; rfl
      · simp only [if_neg hq]
        rw [List.getElem?_append_right (by rw [List.length_map, List.length_take]; omega), List.getElem?_drop, List.length_map, List.length_take]
        by_cases hl : k ≤ rows.length
        · rw [Nat.min_eq_left hl, show k + (q - k) = q by omega]; simp
        · rw [List.getElem?_eq_none (by omega), List.getElem?_eq_none (by omega)]; rfl
    have rlen : ∀ k, (rowsK k).length = rows.length := fun k => by
      show ((rows.take k).map (appD c) ++ rows.drop k).length = _
      simp; omega
    let Inv : Nat → L2.St → Wd → Prop := fun k σ' w' => (Wf w' ∧ Same w1.S w'.S) ∧ (∀ b ℓ, w1.G b = some ℓ → ¬ ((i + 1) :: p <+: ℓ) → w'.G b = some ℓ ∧ w'.H b = w1.H b) ∧ (w'.G a = some ((i + 1) :: p) ∧ w'.H a = some (.lst us)) ∧
      RepL X.K w' (rowsK k) ((i + 1) :: p) 0 us ∧ (σ'.length = σ.length ∧ ∀ q, q ≠ x → σ'[q]? = σ[q]?)
    -- the end of a turn told
    have fin : ∀ k σ' w', k = rows.length → Inv k σ' w' → EndS X.K M w1 σ ρ1 w' σ' ((ρ1.set i (some (d0.put p (.lst o (rows.map (appD c)))))).set x none) := by
      rintro k σ' w' rfl ⟨⟨wf, sm⟩, kp, ⟨ga, hha'⟩, rr, sl, so⟩
      have er : rowsK rows.length = rows.map (appD c) := by
        show (rows.take rows.length).map (appD c) ++ rows.drop rows.length = _
        rw [List.take_length, List.drop_length, List.append_nil]
      rw [er] at rr
      refine ⟨by rw [List.length_set, List.length_set], ⟨wf, by rw [List.length_set, List.length_set, sl]; exact e1.st.len, fun q d e => ?_⟩, ⟨sm, fun b ℓ e ⟨h, s, e2, z⟩ => ?_⟩, fun q hqM => ?_⟩
      · by_cases hqx : q = x
        · subst hqx
          have : q < ((ρ1.set i (some (d0.put p (.lst o (rows.map (appD c)))))).set q none).length := (List.getElem?_eq_some_iff.mp e).1
          rw [List.getElem?_set_self (by simpa using this)] at e; cases e
        · rw [List.getElem?_set_ne (Ne.symm hqx)] at e
          rw [so q hqx]
          by_cases hqi : q = i
          · subst hqi
            rw [List.getElem?_set_self hin] at e
            cases e
            refine ⟨v0, hv, at0.put (w' := w') r0 sm (fun _ => ho) (fun b ℓ hb p1 p2 => kp b ℓ hb p2) ?_⟩
            simp only [Rep]
            refine ⟨a, us, rfl, by rw [if_pos ho]; exact ⟨ga, hha'⟩, ⟨by rw [List.length_map]; exact hz, fun z => ?_⟩, rr⟩
            have := hLt z
            rw [ownL_iff] at this ⊢
            intro d hd
            obtain ⟨d', hd', rfl⟩ := List.mem_map.mp hd
            rw [appD_own]; exact this d' hd'
          · rw [List.getElem?_set_ne (Ne.symm hqi)] at e
            obtain ⟨v', e3, r3⟩ := e1.st.rep q d e
            refine ⟨v', e3, r3.to sm d fun b s hb => kp b _ hb fun z => ?_⟩
            have := (List.cons_prefix_cons.mp z).1
            omega
      · subst e2
        refine kp b _ e fun z2 => ?_
        have := (List.cons_prefix_cons.mp z2).1
        omega
      · refine so q fun z => ?_
        subst z
        have := List.all_eq_true.mp hA q hqM
        simp at this
    have es := e1.s (M := M) (Nat.lt_succ_self _)
    have hf1 := hff.then es
    refine ⟨fun k m σ' H' => m = rows.length - k ∧ k ≤ rows.length ∧ ∃ w', w'.H = H' ∧ Inv k σ' w', ⟨_, rfl, Nat.zero_le _, w1, rfl, ⟨⟨e1.st.wf, Same.refl _⟩, fun b ℓ hb _ => ⟨hb, rfl⟩, ⟨ta, hha⟩, rl, rfl, fun _ _ => rfl⟩⟩, ?_⟩
    rintro k m σ2 H2 ⟨rfl, hk2, w2, rfl, iv⟩
    have iv' := iv
    obtain ⟨⟨wf, sm⟩, kp, ⟨ga, hha'⟩, rr, sl, so⟩ := iv
    by_cases hlt : k < rows.length
    · have hu : k < us.length := by rw [rl.length]; exact hlt
      refine .inr ⟨⟨us, us[k], SqL.of hha', List.getElem?_eq_getElem hu⟩, fun σ' H' => ∃ w', w'.H = H' ∧ Inv (k + 1) σ' w', fun σ' H' ⟨w', e, h⟩ => ⟨rows.length - (k + 1), by omega, rfl, hlt, w', e, h⟩, fun y H' yl => ?_⟩
      obtain ⟨rfl, yl⟩ := yl
      have ey : us[k]? = some y := yl us (SqL.of hha')
      obtain ⟨xs, ed, hxl⟩ := hfl rows[k] (List.getElem_mem hlt)
      have ek : (rowsK k)[k]? = some (.lst .flat xs) := by
        rw [rget, List.getElem?_eq_getElem hlt, Option.map_some, if_neg (Nat.lt_irrefl _), ed]
      obtain ⟨y', ey', ry⟩ := rr.get ek
      rw [ey] at ey'; cases ey'
      rw [Nat.zero_add] at ry
      have ry' := ry
      simp only [Rep] at ry
      obtain ⟨b, ys, rfl, hb, ⟨hzb, hLb⟩, rb⟩ := ry
      obtain ⟨tb, hhb⟩ := (show _ ∧ _ from hb)
      show gName x _ σ2 w2.H _
      have hxσ : x < σ2.length := by
        rw [sl, e1.st.len]
        exact hxl0
      refine ⟨.ref b, List.getElem?_set_self hxσ, .inl ⟨rfl, ys, SqL.of hhb⟩, ?_⟩
      refine ⟨b, ys, .int c, rfl, rfl, hhb, by rw [rb.length]; exact hxl, ?_⟩
      refine ⟨w2.put b (.lst (ys ++ [.int c])), rfl, ⟨wf.put tb trivial, sm⟩, fun b' ℓ hb' hp' => ?_, ⟨ga, ?_⟩, ?_, by rw [List.length_set]; exact sl, fun q hq => by rw [List.getElem?_set_ne (Ne.symm hq)]; exact so q hq⟩
      · obtain ⟨k1, k2⟩ := kp b' ℓ hb' hp'
        refine ⟨k1, ?_⟩
        have : b' ≠ b := fun z => by
          subst z
          rw [tb] at k1
          cases k1
          exact hp' (List.prefix_append _ _)
        exact (upd_ne this).trans k2
      · have : a ≠ b := fun z => by
          subst z
          rw [tb] at ga
          have := congrArg List.length (Option.some.inj ga)
          simp at this
        exact (upd_ne this).trans hha'
      · refine RepL.of (by rw [rlen]; exact rl.length) fun q dq vq e3 e4 => ?_
        rw [Nat.zero_add]
        rw [rget] at e3
        by_cases hqk : q = k
        · subst hqk
          rw [List.getElem?_eq_getElem hlt, Option.map_some, if_pos (Nat.lt_succ_self _), ed] at e3
          cases e3
          rw [ey] at e4; cases e4
          simp only [appD, Rep]
          refine ⟨b, ys ++ [V.int c], rfl, (show w2.G b = some _ ∧ upd w2.H b (.lst (ys ++ [.int c])) b = some (.lst (ys ++ [.int c])) from ⟨tb, upd_same⟩), ⟨by simp; omega, fun z => by rw [ownL_append, hLb z]; rfl⟩, ?_⟩
          have hL0 : ownL xs = false := hLb rfl
          exact RepL.app (RepL.free (w := w2) (w' := w2.put b (.lst (ys ++ [.int c]))) (Same.refl _) xs hL0 rb) (RepL.one rfl)
        · have e5 : (rowsK k)[q]? = some dq := by
            rw [rget, ← e3]
            congr 1
            funext d
            by_cases z : q < k
            · rw [if_pos z, if_pos (by omega)]
            · rw [if_neg z, if_neg (by omega)]
          obtain ⟨v3, e6, r3⟩ := rr.get e5
          rw [e4] at e6; cases e6
          rw [Nat.zero_add] at r3
          refine Rep.to (w := w2) (w' := w2.put b (.lst (ys ++ [.int c]))) (Same.refl _) dq (put_kept tb fun s z => ?_) r3
          rw [List.append_assoc] at z
          have z := List.append_cancel_left z
          simp at z
          exact hqk z.1
    · have : k = rows.length := by omega
      exact .inl ⟨⟨us, SqL.of hha', by rw [rl.length]; omega⟩, hf1.nx _ w2 σ2 (nf_of hq) (fin k σ2 w2 this iv')⟩
  | _ => exact h1.elim
end
end FL
/-! FL45: comprehensions of drawn parts that are owned and frozen afterwards. -/
namespace FL
open PySem PySem.Spec PyProof.Rows L2
theorem kind_step {kd : Ow} {acc : List D} {y : D} (hk : (kd = .flat ∧ ownL acc = false) ∨ kd = .deep) : (kindR kd (some y) = .flat ∧ ownL (acc ++ [y]) = false) ∨ kindR kd (some y) = .deep := by
  cases qy : y.own with
  | true => right; simp only [kindR, qy]
  | false =>
    rcases hk with ⟨rfl, h⟩ | rfl
    · left; simp only [kindR, qy]; exact ⟨trivial, by rw [ownL_append, h]; simp [ownL, qy]⟩
    · right; simp only [kindR, qy]
theorem kind_frz {kd : Ow} {ys es : List D} (h1 : (kd = .flat ∧ ownL ys = false) ∨ kd = .deep) (h2 : ys.map D.frz = es) : (D.lst kd ys).frz = .lst .ice es := by
  rcases h1 with ⟨rfl, h⟩ | rfl
  · show D.lst .ice ys = _
    rw [← h2, ← frzL_map, frzL_id ys h]
  · show D.lst .ice (frzL ys) = _
    rw [frzL_map, h2]
theorem compR_drawFK {α : Type} {f : D → En → (Option D → En → Prop) → Prop} {vs : List Nat} {Q : Ow → List D → En → Prop} (j : Nat) (enc : α → D) (P : Nat → α → Prop) (ρ0 : En) : ∀ (ds : List D) (k : Nat) (kd : Ow) (acc : List D) (b0 : Bx) (ρ : En), ((kd = .flat ∧ ownL acc = false) ∨ kd = .deep) → ρ = putA ρ0 [j] [some (bxD b0)] →
    (∀ i d (b : Bx), ds[i]? = some d → nf (putA ρ0 [j] [some (bxD b)]) fun ρ => f d ρ fun o ρ' => ∃ (y : D) (x : α) (b' : Bx), o = some y ∧ y.frz = enc x ∧ P (k + i) x ∧ wipeD ρ' vs = putA ρ0 [j] [some (bxD b')]) →
    (∀ (xs : List α) (b : Bx) kd' ys, xs.length = ds.length → (∀ i x, xs[i]? = some x → P (k + i) x) → ((kd' = .flat ∧ ownL ys = false) ∨ kd' = .deep) → ys.map D.frz = acc.map D.frz ++ xs.map enc → nf (putA ρ0 [j] [some (bxD b)]) (Q kd' ys)) → compR f vs ds ρ kd acc Q
  | [], k, kd, acc, b0, ρ, hk, e, _, q => by
    have := nf_of (q [] b0 kd acc rfl (fun i x h => by simp at h) hk (by simp))
    rw [← e] at this
    simpa [compR] using this
  | d :: ds, k, kd, acc, b0, ρ, hk, e, hs, q => by
    have h1 := nf_of (hs 0 d b0 rfl)
    rw [← e] at h1
    refine ⟨_, h1, fun o ρ' ⟨y, x, b', eo, ey, hp, ew⟩ => ?_⟩
    subst eo
    refine compR_drawFK j enc P ρ0 ds (k + 1) _ _ b' _ (kind_step hk) ew (fun i d b h => ?_) fun xs b kd' ys hl hx h2 h3 => ?_
    · have := hs (i + 1) d b (by simpa using h)
      rw [show k + (i + 1) = k + 1 + i by omega] at this
      exact this
    · refine q (x :: xs) b kd' ys (by simp [hl]) (fun i z hz => ?_) h2 (by rw [h3]; simp [ey])
      cases i with
      | zero => cases hz; exact hp
      | succ i =>
        have := hx i z (by simpa using hz)
        rw [show k + (i + 1) = k + 1 + i by omega]
        exact this
theorem compR_drawF {α : Type} {f : D → En → (Option D → En → Prop) → Prop} {vs : List Nat} {Q : Ow → List D → En → Prop} (j : Nat) (enc : α → D) (P : Nat → α → Prop) (ds : List D) (ρ0 : En) (b0 : Bx)
    (step : ∀ i d (b : Bx), ds[i]? = some d → nf (putA ρ0 [j] [some (bxD b)]) fun ρ => f d ρ fun o ρ' => ∃ (y : D) (x : α) (b' : Bx), o = some y ∧ y.frz = enc x ∧ P i x ∧ wipeD ρ' vs = putA ρ0 [j] [some (bxD b')])
    (fin : ∀ (xs : List α) (b : Bx) kd ys, xs.length = ds.length → (∀ i x, xs[i]? = some x → P i x) → (D.lst kd ys).frz = .lst .ice (xs.map enc) → nf (putA ρ0 [j] [some (bxD b)]) (Q kd ys)) (e0 : ρ0 = putA ρ0 [j] [some (bxD b0)] := by rfl) : compR f vs ds ρ0 .flat [] Q :=
  compR_drawFK j enc P ρ0 ds 0 .flat [] b0 ρ0 (.inl ⟨rfl, rfl⟩) e0 (fun i d b h => by rw [Nat.zero_add]; exact step i d b h) fun xs b kd ys hl hx h2 h3 => fin xs b kd ys hl (fun i x h => by have := hx i x h; rwa [Nat.zero_add] at this) (kind_frz h2 (by simpa using h3))
end FL
/-! FL46: tuples among the module's constants; stores x[k] as targets. -/
namespace FL
open PySem PySem.Spec PyProof.Rows L2
mutual
/-- what stands in the module's frozen objects -/
def KV (K : PySem.W.Frag) : D → Value → Prop
  | .int i, v => ∃ t, v = .int i t
  | .str s, v => ∃ t, v = .str s t
  | .ro t ds, v => ∃ a o its n, v = .ref a ∧ t = true ∧ K.lookup a = some o ∧ o.cls = .type "tuple" ∧ o.data = .seq its n ∧ its.size ≤ sizeLine ∧ KVL K ds its.toList
  | _, _ => False
def KVL (K : PySem.W.Frag) : List D → List Value → Prop
  | [], vs => vs = []
  | d :: ds, vs => ∃ v r, vs = v :: r ∧ KV K d v ∧ KVL K ds r
end
mutual
theorem KV.rep {K : PySem.W.Frag} : ∀ {d : D} {u : Value}, KV K d u → ∃ v, RelV v u ∧ d.own = false ∧ ∀ w ℓ, Rep K w d ℓ v
  | .int i, u, h => by
    simp only [KV] at h
    obtain ⟨t, rfl⟩ := h
    exact ⟨.int i, ⟨t, rfl⟩, rfl, fun w ℓ => rfl⟩
  | .str s, u, h => by
    simp only [KV] at h
    obtain ⟨t, rfl⟩ := h
    exact ⟨.str s, ⟨t, rfl⟩, rfl, fun w ℓ => rfl⟩
  | .ro t ds, u, h => by
    simp only [KV] at h
    obtain ⟨a, o, its, n, rfl, rfl, hk, hc, hs, hz, hl⟩ := h
    obtain ⟨vs, rv, ho, rr⟩ := KVL.rep hl
    have hlen : ds.length = its.size := by
      have h1 := (rr ⟨fun _ => none, fun _ => none, fun _ => none⟩ [] 0).length
      have h2 := rv.length
      simp at h2
      omega
    refine ⟨.ref a, rfl, rfl, fun w ℓ => ?_⟩
    simp only [Rep]
    exact ⟨a, vs, rfl, by rw [if_pos trivial]; exact .inr ⟨o, its, n, hk, hc, hs, hz, rv⟩, ⟨by omega, ho⟩, rr w ℓ 0⟩
  | .any, _, h => by simp only [KV] at h
  | .non, _, h => by simp only [KV] at h
  | .bl _, _, h => by simp only [KV] at h
  | .obj _, _, h => by simp only [KV] at h
  | .ty _, _, h => by simp only [KV] at h
  | .tup _ _, _, h => by simp only [KV] at h
  | .lst _ _, _, h => by simp only [KV] at h
  | .dct _ _ _ _, _, h => by simp only [KV] at h
  | .ins _ _ _ _, _, h => by simp only [KV] at h
theorem KVL.rep {K : PySem.W.Frag} : ∀ {ds : List D} {us : List Value}, KVL K ds us → ∃ vs, Vals vs us ∧ ownL ds = false ∧ ∀ w ℓ j, RepL K w ds ℓ j vs
  | [], us, h => by
    simp only [KVL] at h
    subst h
    exact ⟨[], .nil, rfl, fun w ℓ j => by simp [RepL]⟩
  | d :: ds, us, h => by
    simp only [KVL] at h
    obtain ⟨v, r, rfl, h1, h2⟩ := h
    obtain ⟨x, e1, o1, r1⟩ := KV.rep h1
    obtain ⟨xs, e2, o2, r2⟩ := KVL.rep h2
    refine ⟨x :: xs, .cons e1 e2, by simp [ownL, o1, o2], fun w ℓ j => ?_⟩
    simp only [RepL]
    exact ⟨x, xs, rfl, r1 _ _, r2 _ _ _⟩
end
theorem KV.mk {K : PySem.W.Frag} {ds : List D} {a : Addr} {od : Option Addr} {its : Array Value} {n : Nat} {sl : Array (Option Value)} (hk : K.lookup a = some ⟨.type "tuple", od, .seq its n, sl⟩) (hz : its.size ≤ sizeLine) (hl : KVL K ds its.toList) : KV K (.ro true ds) (.ref a) := by
  simp only [KV]
  exact ⟨a, _, its, n, rfl, trivial, hk, rfl, rfl, hz, hl⟩
theorem KVL.nil' {K : PySem.W.Frag} : KVL K [] [] := by simp only [KVL]
theorem KVL.cons' {K : PySem.W.Frag} {d : D} {ds : List D} {v : Value} {r : List Value} (h : KV K d v) (g : KVL K ds r) : KVL K (d :: ds) (v :: r) := by
  simp only [KVL]
  exact ⟨v, r, rfl, h, g⟩
theorem KV.int' {K : PySem.W.Frag} {i : Int} {t : Tok} : KV K (.int i) (.int i t) := by
  simp only [KV]
  exact ⟨t, rfl⟩
theorem KV.str' {K : PySem.W.Frag} {s : Str} {t : Tok} : KV K (.str s) (.str s t) := by
  simp only [KV]
  exact ⟨t, rfl⟩
section
variable {X : Cx} {W : WX}
theorem fe_globT {x : Str} {u : Value} {pos : Pos} {d : D} (hg : Gl X x) (hm : X.mg x = some u ∧ KV X.K d u) (hd : (x == ("__debug__" : Str)) = false := by decide) : FE X W (.Name x pos) (rC d) := by
  obtain ⟨v, r, _, h⟩ := hm.2.rep
  exact ⟨_, pe_glob hg hm.1 r hd, se_C fun w τ => h w [τ]⟩
end
/-- x[k] as a target: x a name's list, k a name or a constant -/
def gSubAt (i : Nat) (n : Int) : RG := fun d ρ Q => onLst ρ i fun o ds => natAt (ixN ds.length n) fun j => nf (ρ.set i (some (.lst o (ds.set j d)))) Q
def gSubN (i k : Nat) : RG := fun d ρ Q => match ρ[k]? with
  | some (some (.int n)) => gSubAt i n d ρ Q
  | _ => False
section
variable {X : Cx} {A : List Nat} {pos pos' p2 p3 : Pos}
theorem sub_at {K : PySem.W.Frag} {i : Nat} {n : Int} {w : Wd} {σ : Sl} {ρ : En} {d : D} {v : V} {Q : En → Prop} {Qg : Sl → Hp → Prop} (ho : d.own = false) (hr : ∀ ℓ, Rep K w d ℓ v) (st : StE K w σ ρ) (h : gSubAt i n d ρ Q)
    (hq : ∀ ρ' w' σ', Q ρ' → EndG K A w σ ρ w' σ' ρ' → Qg σ' w'.H) : ∃ v0, σ[i]? = some (some v0) ∧ L2.rSetL v0 (.int n) v w.H (Qg σ) := by
  obtain ⟨o, ds, ed, hom, h2⟩ := onLst_elim h
  obtain ⟨v0, ev, r0⟩ := st.rep i _ ed
  obtain ⟨a, us, rfl, ta, ha, ⟨hz, hL⟩, rl⟩ := list_at hom r0 .here
  have hin := (List.getElem?_eq_some_iff.mp ed).1
  obtain ⟨j, ej, h2⟩ := natAt_elim h2
  refine ⟨_, ev, a, us, n, j, rfl, rfl, ha, by rw [rl.length]; exact ej, ?_⟩
  have rr : RepL K (w.ren (moveT (ρ.length + 1) [ρ.length + 1])) (ds.set j d) ((i + 1) :: []) 0 (us.set j v) := by
    refine RepL.set (RepL.of rl.length fun q dq vq e3 e4 => ?_) (Rep.free (w := w) (w' := w.ren (moveT (ρ.length + 1) [ρ.length + 1])) (Same.refl _) d ho (hr []))
    obtain ⟨v3, e5, r3⟩ := rl.get e3
    rw [e4] at e5; cases e5
    exact r3.mv (by omega)
  have hL' : Lt o (ds.set j d) := by
    have := hL.set (j := j) (d := d)
    rw [ho] at this
    exact this
  have ee := list_end (i := i) (τ := ρ.length + 1) (p := []) hom hom st ed ev r0 .here (Nat.lt_succ_self _) (Nat.le_refl _) rr (by rw [List.length_set]; exact hz) hL'
  refine hq _ _ σ (nf_of h2) ⟨by rw [List.length_set], ee.st, fun T => ⟨Same.refl _, fun b ℓ e ⟨hh, s, e3, q⟩ => ?_⟩, fun _ _ => rfl⟩
  subst e3
  refine ⟨ren_at e ?_, upd_ne fun z => ?_⟩
  · show (if _ then _ else _) = _
    split
    · rename_i e4; subst e4; rfl
    · rfl
  · subst z
    rw [ta] at e
    injection e with e
    injection e with e _
    omega
theorem fg_subN (i k : Nat) {x y : Str} (hN : X.N[i]? = some x := by rfl) (hM : X.N[k]? = some y := by rfl) (hv : Vis X.env.scope x := by first | exact Or.inl rfl | exact Or.inr (Or.inl rfl) | exact Or.inr (Or.inr rfl)) (hw : Vis X.env.scope y := by first | exact Or.inl rfl | exact Or.inr (Or.inl rfl) | exact Or.inr (Or.inr rfl))
    (hd : (x == ("__debug__" : Str)) = false := by decide) (hcd : (x == ("__classdict__" : Str)) = false := by decide) (hd2 : (y == ("__debug__" : Str)) = false := by decide) (hcd2 : (y == ("__classdict__" : Str)) = false := by decide) (ha : ∀ v, assign (.Subscript (.Name x p2) (.Name y p3) pos') X.env v = (do
      let ov ← holding [v] (eval (.Name x p2) X.env)
      let iv ← holding [v, ov] (eval (.Name y p3) X.env)
      standAt pos'
      holding [v, ov, iv] (setItem ov iv v)
      release [v, ov, iv] []) := by intro _; rfl) : FG X A (.Subscript (.Name x p2) (.Name y p3) pos') (gSubN i k) := by
  refine ⟨_, pg_sub (pe_var hN hv hd hcd) (pe_var hM hw hd2 hcd2) set_list ha, fun w σ ρ d v Q Qg ho hr st h hq => ?_⟩
  unfold gSubN at h
  split at h
  · rename_i n en
    obtain ⟨v0, ev, hs⟩ := sub_at ho hr st h hq
    obtain ⟨u, eu, ru⟩ := st.rep k _ en
    simp only [Rep] at ru
    subst ru
    exact ⟨v0, ev, _, eu, hs⟩
  · exact h.elim
theorem fg_subC (i : Nat) (n : Int) {x : Str} {jj : Nat} (hN : X.N[i]? = some x := by rfl) (hv : Vis X.env.scope x := by first | exact Or.inl rfl | exact Or.inr (Or.inl rfl) | exact Or.inr (Or.inr rfl))
    (hd : (x == ("__debug__" : Str)) = false := by decide) (hcd : (x == ("__classdict__" : Str)) = false := by decide) (ha : ∀ v, assign (.Subscript (.Name x p2) (.Constant (.int n) jj p3) pos') X.env v = (do
      let ov ← holding [v] (eval (.Name x p2) X.env)
      let iv ← holding [v, ov] (eval (.Constant (.int n) jj p3) X.env)
      standAt pos'
      holding [v, ov, iv] (setItem ov iv v)
      release [v, ov, iv] []) := by intro _; rfl) : FG X A (.Subscript (.Name x p2) (.Constant (.int n) jj p3) pos') (gSubAt i n) := by
  refine ⟨_, pg_sub (pe_var hN hv hd hcd) pe_int set_list ha, fun w σ ρ d v Q Qg ho hr st h hq => ?_⟩
  obtain ⟨v0, ev, hs⟩ := sub_at ho hr st h hq
  exact ⟨v0, ev, hs⟩
end
end FL
/-! FL47: xs.index(n) of a list of ints in which n stands -/
namespace FL
open PySem PySem.Spec PyProof.Rows L2
/-- e.index(k) -/
def rIdx (re rk : RE) : RE := fun ρ E Q => re ρ E fun d ρ1 => (∃ o ds, d = .lst o ds) ∧ rk ρ1 E fun dk ρ2 => ∃ (o : Ow) (ns : List Int) (n : Int) (j : Nat), d = .lst o (ns.map D.int) ∧ dk = .int n ∧ ns[j]? = some n ∧ (∀ (m : Nat) (n' : Int), m < j → ns[m]? = some n' → n' ≠ n) ∧ Q (.int (j : Nat)) ρ2
theorem eqV_int {a b : Int} (h : a ≠ b) : eqV (.int a) (.int b) = false := by
  show decide _ = false
  exact decide_eq_false h
section
variable {X : Cx} {W : WX} {pos apos : Pos}
theorem fe_idx {e k : Expr} {re rk : RE} (he : FE X W e re) (hk : FE X W k rk) (hbase : attributeBase e "index" X.env (eval e X.env) = eval e X.env := by rfl)
    (hfew : ((backTo pos (starEach [k] X.env)).all (fun x => !x.1) && (backToKw pos (keywordEach [] X.env)).all (fun x => x.1.isSome)
      && decide ([k].length + ([] : List Keyword).length + (if ([] : List Keyword).isEmpty then 0 else 1) < 30)) = true := by rfl)
    (hline : (apos.endLine == pos.line) = true := by rfl) (hs : starEach [k] X.env = (false, eval k X.env) :: starEach [] X.env := by rfl) (hplain : (backTo pos (starEach [] X.env)).any (·.1) = false := by rfl) :
    FE X W (.Call (.Attribute e "index" apos) [k] [] pos) (rIdx re rk) := by
  obtain ⟨t, p, l⟩ := he.ex
  obtain ⟨t', p', l'⟩ := hk.ex
  refine ⟨_, pe_bm PySem.F.plainAttrs_list PySem.F.slot_list_index PySem.F.type_list_index mt_index p (pa_cons p' pa_nil hs) hbase hfew hline hs hplain, fun τ w σ ρ E Q Qv hn st h hq hx => ?_⟩
  refine l τ w σ ρ E _ _ hn st h (fun d ρ1 w1 v h1 e1 r1 => ?_) hx
  obtain ⟨⟨o, ds, rfl⟩, h1⟩ := h1
  refine ⟨tyL e1.st.wf r1, ?_⟩
  refine l' (τ + 1) w1 σ ρ1 E _ _ (by rw [e1.len]; omega) e1.st h1 (fun dk ρ2 w2 vk h2 e2 r2 => ?_) (hx.then e1 (by omega))
  obtain ⟨o', ns, n, j, ed, rfl, hj, hno, q⟩ := h2
  cases ed
  have e12 := e1.trans e2 (by omega)
  have r1' : Rep X.K w2 (.lst o (ns.map D.int)) [τ] v := e2.ext.rep (r := []) ⟨by rw [e1.len]; exact hn, by omega⟩ r1
  obtain ⟨a, vs, rfl, h1, h2⟩ := lst_at e2.st.wf r1'
  obtain rfl := repl_ints h2
  simp only [Rep] at r2
  subst r2
  refine ⟨a, ns.map V.int, .int n, j, .int n, rfl, rfl, SqL.of h1, rfl, ?_, ?_, ?_, ?_, ?_⟩
  · rw [List.all_map]; exact List.all_eq_true.mpr fun x _ => rfl
  · rw [List.getElem?_map, hj]; rfl
  · show decide _ = true
    exact decide_eq_true rfl
  · intro m z' hm hz
    rw [List.getElem?_map] at hz
    cases ez : ns[m]? with
    | none => rw [ez] at hz; cases hz
    | some n' => rw [ez] at hz; cases hz; exact eqV_int (hno m n' hm ez)
  · exact hq _ ρ2 w2 _ q e12 rfl
end
end FL
/-! FL48: max of three ints -/
namespace FL
open PySem PySem.Spec PyProof.Rows L2
def max3 (i j k : Int) : Int := if (if i < j then j else i) < k then k else (if i < j then j else i)
theorem max3_le {i j k n : Int} : max3 i j k ≤ n ↔ i ≤ n ∧ j ≤ n ∧ k ≤ n := by
  unfold max3
  split <;> split <;> (try split at *) <;> omega
def dMax3 : DC
  | [.int i, .int j, .int k], Q => Q (.int (max3 i j k))
  | _, _ => False
theorem reps3 {K : PySem.W.Frag} {w : Wd} {d e f : D} {vs : List V} (h : RepsAny K w [d, e, f] vs) : ∃ v u z ℓ ℓ' ℓ'', vs = [v, u, z] ∧ Rep K w d ℓ v ∧ Rep K w e ℓ' u ∧ Rep K w f ℓ'' z := by
  obtain ⟨v, us, rfl, ⟨ℓ, r⟩, h2⟩ := h
  obtain ⟨u, z, ℓ', ℓ'', rfl, r', r''⟩ := reps2 h2
  exact ⟨v, u, z, ℓ, ℓ', ℓ'', rfl, r, r', r''⟩
section
variable {X : Cx} {W : WX}
theorem fc_max3 (hc : X.calm = true := by rfl) : FC X (.builtin "max") dMax3 := by
  refine ⟨_, call_max3Nu hc, fun τ w σ ρ vs ds Q Qv hn st rs hd hq => ?_⟩
  unfold dMax3 at hd
  split at hd
  · rename_i i j k
    obtain ⟨v, u, z, ℓ, ℓ', ℓ'', rfl, r, r', r''⟩ := reps3 rs
    simp only [Rep] at r r' r''
    subst r; subst r'; subst r''
    refine ⟨_, _, _, .int (max3 i j k), rfl, ?_, hq _ w _ hd (.refl st) rfl⟩
    show ((some (if decide (i < j) = true then V.int j else V.int i)).bind fun m => nuMax2 m (.int k)) = _
    unfold max3
    by_cases h : i < j
    · simp only [h, decide_true, if_true, Option.bind_some]
      show some (if decide (j < k) = true then V.int k else V.int j) = _
      by_cases g : j < k <;> simp [g]
    · simp only [h, decide_false, if_false, Option.bind_some, Bool.false_eq_true]
      show some (if decide (i < k) = true then V.int k else V.int i) = _
      by_cases g : i < k <;> simp [g]
  · exact hd.elim
end
end FL
/-! FL49: statements that are never reached; membership by equality of all parts -/
namespace FL
open PySem PySem.Spec PyProof.Rows L2
def rNever : RS := fun _ _ _ => False
theorem fs_never {X : Cx} {W : WX} {M : List Nat} {st : Stmt} : FS X W M st rNever :=
  ⟨fun _ _ _ => False, ⟨fun _ _ _ _ _ _ h => h.elim⟩, fun _ _ _ _ _ _ _ h _ => h.elim⟩
def inDD (k : D) (ds : List D) : Bool := ds.any fun y => deq y k
/-- k in c, whatever its members are -/
def dInD (neg : Bool) : DO
  | k, .lst _ ds, Q => k.dat = true ∧ datL ds = true ∧ min (depL ds) k.dep ≤ 60 ∧ Q (.bl (neg ^^ inDD k ds))
  | k, .tup _ ds, Q => k.dat = true ∧ datL ds = true ∧ min (depL ds) k.dep ≤ 60 ∧ Q (.bl (neg ^^ inDD k ds))
  | _, _, _ => False
def rInP (K : PySem.W.Frag) (neg : Bool) : R2 := fun x y H Q => ∃ (d : PyData) (xs : List PyData), Dp K H x d ∧ (Dp K H y (.list xs) ∨ Dp K H y (.tuple xs)) ∧ d.plain = true ∧ PyData.plainAll xs = true ∧ min (PyData.depthAll xs) d.depth ≤ 60 ∧ Q (.bl (neg ^^ xs.any fun y => PyData.eqv y d)) H
theorem op_inP {X : Cx} (hu : X.A.units + 64 < cLine) : OpR X (compareOp .In) (rInP X.K false) := by
  intro pins s σ H x y v u Q I rx ry h
  obtain ⟨d, xs, hd, he, sd, se, hm, q⟩ := h
  obtain ⟨as, r1⟩ := Dp.reads I d x v hd rx
  rcases he with he | he
  · obtain ⟨bs, r2⟩ := Dp.reads I _ y u he ry
    exact SeqAt.in_list_data r2 r1 se sd (by omega) ⟨.bl _, H, I, by rw [Bool.false_xor]; rfl, q⟩
  · obtain ⟨bs, r2⟩ := Dp.reads I _ y u he ry
    exact SeqAt.in_tuple_data r2 r1 se sd (by omega) ⟨.bl _, H, I, by rw [Bool.false_xor]; rfl, q⟩
theorem op_notInP {X : Cx} (hu : X.A.units + 64 < cLine) : OpR X (compareOp .NotIn) (rInP X.K true) := by
  intro pins s σ H x y v u Q I rx ry h
  obtain ⟨d, xs, hd, he, sd, se, hm, q⟩ := h
  obtain ⟨as, r1⟩ := Dp.reads I d x v hd rx
  rcases he with he | he
  · obtain ⟨bs, r2⟩ := Dp.reads I _ y u he ry
    exact SeqAt.notIn_list_data r2 r1 se sd (by omega) ⟨.bl _, H, I, by rw [Bool.true_xor]; rfl, q⟩
  · obtain ⟨bs, r2⟩ := Dp.reads I _ y u he ry
    exact SeqAt.notIn_tuple_data r2 r1 se sd (by omega) ⟨.bl _, H, I, by rw [Bool.true_xor]; rfl, q⟩
theorem inDD_py (k : D) : ∀ ds : List D, (pyL ds).any (fun y => PyData.eqv y k.py) = inDD k ds
  | [] => rfl
  | d :: ds => by
    unfold inDD
    rw [List.any_cons, pyL, List.any_cons, inDD_py k ds]; rfl
theorem sok_inP {K : PySem.W.Frag} {neg : Bool} : SOK K (rInP K neg) (dInD neg) := by
  intro τ w σ ρ x y dx dy ℓ ℓ' Q Qv hn st rx ry hq hv
  cases dy with
  | lst o ds =>
    obtain ⟨h1, h2, h3, q⟩ := hq
    have r2 := rep_dp st.wf (.lst o ds) (by simpa [D.dat] using h2) ry
    simp only [D.py] at r2
    exact ⟨_, _, rep_dp st.wf dx h1 rx, .inl r2, py_plain _ h1, pyL_plain _ h2, by rw [py_dep _ h1, pyL_dep _ h2]; exact h3, by rw [inDD_py]; exact hv _ w _ q (.refl st) rfl⟩
  | tup o ds =>
    obtain ⟨h1, h2, h3, q⟩ := hq
    have r2 := rep_dp st.wf (.tup o ds) (by simpa [D.dat] using h2) ry
    simp only [D.py] at r2
    exact ⟨_, _, rep_dp st.wf dx h1 rx, .inr r2, py_plain _ h1, pyL_plain _ h2, by rw [py_dep _ h1, pyL_dep _ h2]; exact h3, by rw [inDD_py]; exact hv _ w _ q (.refl st) rfl⟩
  | _ => exact hq.elim
section
variable {X : Cx}
theorem fop_inD (hu : X.A.units + 64 < cLine) : FOp X (compareOp .In) (dInD false) := ⟨_, op_inP hu, sok_inP⟩
theorem fop_notinD (hu : X.A.units + 64 < cLine) : FOp X (compareOp .NotIn) (dInD true) := ⟨_, op_notInP hu, sok_inP⟩
end
end FL
/-! FL50: defs as values; a call of one of two defs -/
namespace FL
open PySem PySem.Spec PyProof.Rows L2
/-- what is called is one of two defs -/
def rCall2 (f1 f2 : Addr) (M : List Nat) (r1 r2 : FSpec) (rf : RE) (ra : RA) : RE := fun ρ E Q => rf ρ E fun d ρ1 => match d with
  | .obj a => (a = f1 ∧ rCall M r1 ra ρ1 E Q) ∨ (a = f2 ∧ rCall M r2 ra ρ1 E Q)
  | _ => False
section
variable {X : Cx} {W : WX} {k : Nat} {f1 f2 : Addr} {fd1 fd2 : FuncData} {ps1 ps2 : List Str} {M : List Nat} {r1 r2 : FSpec} {ra : RA} {rf : RE} {fe e : Expr} {es : List Expr} {p pos : Pos} {x : Str}
theorem fe_fnv {f : Addr} (hm : X.mg x = some (.ref f)) (hg : Gl X x := by rfl) (hdb : (x == ("__debug__" : Str)) = false := by decide) : FE X W (.Name x p) (rC (.obj f)) :=
  ⟨_, pe_glob (v := .ref f) hg hm rfl hdb, fun τ w σ ρ E Q Qv hn st h hq hx => hq _ _ w _ h (.refl st) rfl⟩
theorem fe_call2 {m : Nat} (tk : Takes X W) (hf : FE X W fe rf) (F1 : FnOk X.prog X.w X.K X.mg X.base (L2.CX X.prog X.w) k f1 fd1 ps1 (FnD X.K m M r1)) (F2 : FnOk X.prog X.w X.K X.mg X.base (L2.CX X.prog X.w) k f2 fd2 ps2 (FnD X.K m M r2)) (hr : Room k X.A)
    (hk1 : PySem.W.keepIn X.K (.ref f1) = true) (hk2 : PySem.W.keepIn X.K (.ref f2) = true) (hb1 : Binds X.K fd1 ps1 []) (hb2 : Binds X.K fd2 ps2 [])
    (ha : FA X W (e :: es) ra) (hl : (e :: es).length = m := by rfl) (he : starEach (e :: es) X.env = (false, eval e X.env) :: starEach es X.env := by rfl) (hpl : (backTo pos (starEach es X.env)).any (·.1) = false := by rfl)
    (ht : eval (.Call fe (e :: es) [] pos) X.env = (do callWith pos (← eval fe X.env) [] (backTo pos (starEach (e :: es) X.env)) (backToKw pos (keywordEach [] X.env))) := by rfl) :
    FE X W (.Call fe (e :: es) [] pos) (rCall2 f1 f2 M r1 r2 rf ra) := by
  obtain ⟨tf, pf, sf⟩ := hf.ex
  obtain ⟨t, pa, sa⟩ := ha.ex
  refine ⟨fun σ H Q => tf σ H fun v H1 => (v = .ref f1 ∧ tCallS (FnD X.K m M r1) (WE W) t σ H1 Q) ∨ (v = .ref f2 ∧ tCallS (FnD X.K m M r2) (WE W) t σ H1 Q), ⟨fun pins s σ H Q I h => ?_⟩, fun τ w σ ρ E Q Qv hn st h hq hx => ?_⟩
  · rw [ht]
    refine wpAny_bind (thn (pf.run pins s σ H _ I h) fun u s1 ⟨v, H1, I1, rv, q⟩ => ?_)
    rcases q with ⟨rfl, q⟩ | ⟨rfl, q⟩
    · cases rv
      refine PySem.W.callWith_K (h₀ := X.base) I1.ok.mod.kin hk1 (thn (pa.run pos pins s1 σ H1 _ I1 q) fun us s2 ⟨vs, H2, I2, r, q⟩ => ⟨I2.kIn, ?_⟩) he hpl
      exact run_fnS F1 hr hb1 (passAt tk σ) I2 r q
    · cases rv
      refine PySem.W.callWith_K (h₀ := X.base) I1.ok.mod.kin hk2 (thn (pa.run pos pins s1 σ H1 _ I1 q) fun us s2 ⟨vs, H2, I2, r, q⟩ => ⟨I2.kIn, ?_⟩) he hpl
      exact run_fnS F2 hr hb2 (passAt tk σ) I2 r q
  · refine sf τ w σ ρ E _ _ hn st h (fun d ρ1 w1 v1 h1 e1 q1 => ?_) hx
    cases d with
    | obj a =>
      simp only [Rep] at q1
      subst q1
      have hn1 : ρ1.length < τ := by rw [e1.len]; exact hn
      rcases h1 with ⟨rfl, h1⟩ | ⟨rfl, h1⟩
      · refine .inl ⟨rfl, sa τ w1 σ ρ1 E _ _ hn1 e1.st h1 (fun ads ρ2 w2 vs h2 l2 e2 r2 => ?_) (hx.then e1 (Nat.le_refl _))⟩
        have e12 := e1.trans e2 (Nat.le_refl _)
        exact call_sound (by rw [e12.len]; exact hn) e2.st (l2.trans hl) r2 h2 (fun d ρ' w' v q e3 r3 => hq d ρ' w' v q (e12.trans e3 (Nat.le_refl _)) r3) (hx.then e12 (Nat.le_refl _))
      · refine .inr ⟨rfl, sa τ w1 σ ρ1 E _ _ hn1 e1.st h1 (fun ads ρ2 w2 vs h2 l2 e2 r2 => ?_) (hx.then e1 (Nat.le_refl _))⟩
        have e12 := e1.trans e2 (Nat.le_refl _)
        exact call_sound (by rw [e12.len]; exact hn) e2.st (l2.trans hl) r2 h2 (fun d ρ' w' v q e3 r3 => hq d ρ' w' v q (e12.trans e3 (Nat.le_refl _)) r3) (hx.then e12 (Nat.le_refl _))
    | _ => exact h1.elim
end
end FL
/-! FL51: list(d) of a dict of tuple keys; min of a list of rows of ints -/
namespace FL
open PySem PySem.Spec PyProof.Rows L2
/-- list(d), d's keys tuples -/
def dListD : DC
  | [.dct _ t ks _], Q => t = true ∧ ownL ks = false ∧ (∀ k ∈ ks, k.kids.length ≤ 1000) ∧ ks.length ≤ sizeLine ∧ Q (.lst .flat ks)
  | _, _ => False
section
variable {X : Cx}
theorem fc_listD (hc : X.calm = true := by rfl) : FC X (.type "list") dListD := by
  refine ⟨_, call_list_dT hc, fun τ w σ ρ vs ds Q Qv hn st rs hd hq => ?_⟩
  unfold dListD at hd
  split at hd
  · rename_i o t ks dd
    obtain ⟨rfl, ho, hk, hz, q⟩ := hd
    obtain ⟨v, ℓ, rfl, r⟩ := reps1 rs
    obtain ⟨a, us, rfl, h1, hl, hks, h2⟩ := dct_at st.wf r
    have hT : ∀ k ∈ ks, isTKey k = true := fun k hk => by
      unfold keysOk at hks
      simp only [Bool.and_eq_true] at hks
      exact List.all_eq_true.mp hks.1 k hk
    refine ⟨a, (ks.map tkey).zip us, rfl, h1, fun l bs nl hbs => ?_⟩
    have lb : bs.length = ks.length := by
      have := Paired.length hbs
      rw [List.length_zip, List.length_map] at this
      omega
    have hb : ∀ (i : Nat) (b : Addr) (k : D), bs[i]? = some b → ks[i]? = some k → w.H b = some (.tup ((tkey k).map kV)) := fun i b k e2 e3 => by
      have hi := (List.getElem?_eq_some_iff.mp e3).1
      have e4 : us[i]? = some us[i] := List.getElem?_eq_getElem (by omega)
      have e5 : ((ks.map tkey).zip us)[i]? = some (tkey k, us[i]) := by
        rw [List.getElem?_zip_eq_some]
        exact ⟨by rw [List.getElem?_map, e3]; rfl, e4⟩
      exact paired_at hbs e5 e2
    have hall : ∀ b ∈ bs, ∃ vs, w.H b = some (.tup vs) := fun b hm => by
      obtain ⟨i, e2⟩ := List.getElem?_of_mem hm
      have hi := (List.getElem?_eq_some_iff.mp e2).1
      exact ⟨_, hb i b _ e2 (List.getElem?_eq_getElem (by omega))⟩
    have ea := EndE.adopt (τ := τ) st hall
    have rl : ∀ ℓ j, RepL X.K (w.adopt bs) ks ℓ j (bs.map V.ref) := fun ℓ j => RepL.of (by rw [List.length_map]; exact lb) fun i k v e2 e3 => by
      rw [List.getElem?_map] at e3
      cases e4 : bs[i]? with
      | none => rw [e4] at e3; cases e3
      | some b =>
        rw [e4] at e3
        cases e3
        have hm := List.mem_of_getElem? e2
        have kT := hT k hm
        have kz := hk k hm
        have ko := ownL_iff.mp ho k hm
        have hH := hb i b k e4 e2
        cases k with
        | tup o' cs =>
          have ko : o' = false := ko
          subst ko
          have kT : cs.all isSKey = true := kT
          have kz : cs.length ≤ 1000 := kz
          simp only [Rep]
          refine ⟨b, (cs.map skey).map kV, rfl, ?_, ⟨by rw [sizeLine_eq]; omega, fun _ => skeys_own kT⟩, skeys_rep kT⟩
          show (if b ∈ bs then w.H b else w.S b) = _
          rw [if_pos (List.mem_of_getElem? e4)]
          exact hH
        | _ => cases kT
    obtain ⟨e, r⟩ := EndE.own (τ := τ) .flat ea.st nl (rl [τ] 0) hz (fun _ => ho) rfl
    exact hq _ _ _ q (ea.trans e (Nat.le_refl _)) r
  · exact hd.elim
end
/-! ### min of rows -/
def minR (x : List Int) (xs : List (List Int)) : List Int := xs.foldl (fun a y => if y < a then y else a) x
theorem minR_mem : ∀ (xs : List (List Int)) (x : List Int), minR x xs ∈ x :: xs
  | [], x => List.mem_cons_self
  | y :: ys, x => by
    show minR (if y < x then y else x) ys ∈ _
    have h := minR_mem ys (if y < x then y else x)
    rcases List.mem_cons.mp h with e | e
    · rw [e]
      split
      · exact List.mem_cons_of_mem _ List.mem_cons_self
      · exact List.mem_cons_self
    · exact List.mem_cons_of_mem _ (List.mem_cons_of_mem _ e)
theorem minR_le : ∀ (xs : List (List Int)) (x : List Int), ∀ y ∈ x :: xs, minR x xs ≤ y
  | [], x, y, h => by rw [List.mem_singleton.mp h]; exact List.le_refl _
  | z :: ys, x, y, h => by
    show minR (if z < x then z else x) ys ≤ y
    have ih := minR_le ys (if z < x then z else x)
    have h0 := ih _ List.mem_cons_self
    rcases List.mem_cons.mp h with rfl | h
    · refine List.le_trans h0 ?_
      split
      · rename_i hz
        exact List.le_of_lt hz
      · exact List.le_refl _
    · rcases List.mem_cons.mp h with rfl | h
      · refine List.le_trans h0 ?_
        split
        · exact List.le_refl _
        · rename_i hz
          exact List.not_lt.mp hz
      · exact ih y (List.mem_cons_of_mem _ h)
def rowP (xs : List Int) : PyData := .tuple (xs.map PyData.int)
theorem minD_rows : ∀ (xs : List (List Int)) (x : List Int), PySem.W.minD (rowP x) (xs.map rowP) = rowP (minR x xs)
  | [], _ => rfl
  | y :: ys, x => by
    show PySem.W.minD (if PySem.W.dataLt (rowP y) (rowP x) = true then rowP y else rowP x) (ys.map rowP) = rowP (minR (if y < x then y else x) ys)
    have e : PySem.W.dataLt (rowP y) (rowP x) = decide (y < x) := by
      unfold rowP
      rw [PySem.W.dataLt_tuple]
      exact PySem.W.dataLt_ints y x
    rw [e]
    by_cases h : y < x
    · rw [if_pos (decide_eq_true h), if_pos h]; exact minD_rows ys y
    · rw [if_neg (by simpa using h), if_neg h]; exact minD_rows ys x
def dMinR : DC := dL1 fun ds Q => ∃ rs : List (List Int), ds = rs.map (fun r => D.tup false (r.map D.int)) ∧ rs ≠ [] ∧ ∀ m, m ∈ rs → (∀ y ∈ rs, m ≤ y) → Q (.tup false (m.map D.int))
def rMinR (K : PySem.W.Frag) : List V → Hp → VK → Prop := fun vs H Q => ∃ (a : Addr) (us : List V) (x : List Int) (xs : List (List Int)), vs = [V.ref a] ∧ SqL K H a us ∧ DpAll K H us ((x :: xs).map rowP) ∧ ∀ (i : Nat) (v : V), us[i]? = some v → (x :: xs)[i]? = some (minR x xs) → Q v H
section
variable {X : Cx}
theorem row_plain (x : List Int) : (rowP x).plain = true := by
  have := py_plain (.tup false (x.map D.int)) (by simp only [D.dat]; exact datL_map fun _ _ => rfl)
  simp only [D.py] at this
  rw [pyL_map] at this
  exact this
theorem row_depth (x : List Int) : (rowP x).depth ≤ 1 := by
  have h : (D.tup false (x.map D.int)).dat = true := by simp only [D.dat]; exact datL_map fun _ _ => rfl
  have e := py_dep (.tup false (x.map D.int)) h
  have e2 : (D.tup false (x.map D.int)).py = rowP x := by
    simp only [D.py]
    rw [pyL_map]; rfl
  rw [e2] at e
  rw [e]
  show depL (x.map D.int) + 1 ≤ 1
  have := depL_map (f := D.int) (xs := x) (n := 0) fun x _ => Nat.le_refl _
  omega
theorem rows_depth : ∀ xs : List (List Int), PyData.depthAll (xs.map rowP) ≤ 1
  | [] => Nat.zero_le _
  | x :: xs => by
    have h1 := row_depth x
    have h2 := rows_depth xs
    show max (rowP x).depth (PyData.depthAll (xs.map rowP)) ≤ 1
    omega
theorem rowP_inj {x y : List Int} (h : rowP x = rowP y) : x = y := by
  unfold rowP at h
  injection h with h
  exact List.map_inj_right (fun a b h => by injection h) |>.mp h
theorem vals_at_of : ∀ {xs : List V} {us : List Value} {i : Nat} {u : Value}, Vals xs us → us[i]? = some u → ∃ x, xs[i]? = some x ∧ RelV x u
  | _, _, i, _, .nil, h => by simp at h
  | _, _, 0, _, .cons r _, h => by cases h; exact ⟨_, rfl, r⟩
  | _, _, i + 1, _, .cons _ t, h => vals_at_of (i := i) t (by simpa using h)
theorem cr_minR (hc : X.calm = true) (hu : X.A.units + 64 < cLine) : CallR X (.builtin "min") (rMinR X.K) := by
  intro pins s σ H vs us' Q I r hyp
  obtain ⟨a, us, x, xs, rfl, hs, hd, q⟩ := hyp
  obtain ⟨its, rv, hl, hz⟩ := I.list hs
  rw [Vals.ref1 r]
  obtain ⟨as, rd⟩ := Dp.readsAll I _ _ _ hd rv
  have rd : ReadsAll s.heap its.toArray.toList (rowP x :: xs.map rowP) as := by simpa using rd
  refine PySem.W.min_list_data (I.ok.hd hc) hl.isList rd ⟨fun d hd d' hd' => ?_, fun d hd => ?_⟩ ?_ fun i v h' tk bs hv hr hk => ?_
  · have key : ∀ d ∈ rowP x :: xs.map rowP, ∃ y, d = rowP y := fun d hd => by
      rcases List.mem_cons.mp hd with rfl | hd
      · exact ⟨x, rfl⟩
      · obtain ⟨y, _, rfl⟩ := List.mem_map.mp hd
        exact ⟨y, rfl⟩
    obtain ⟨y, rfl⟩ := key d hd
    obtain ⟨z, rfl⟩ := key d' hd'
    simp only [rowP, PySem.W.alike, PySem.W.alike_ints]
  · rcases List.mem_cons.mp hd with rfl | hd
    · intro z; cases z
    · obtain ⟨y, _, rfl⟩ := List.mem_map.mp hd
      intro z; cases z
  · have := rows_depth (x :: xs)
    rw [List.map_cons] at this
    omega
  · have hv' : its[i]? = some v := by simpa using hv
    have hi := (List.getElem?_eq_some_iff.mp hv').1
    have hlen := rv.length
    have rv0 := rv
    obtain ⟨bs2, r2, hlt, _, _⟩ := PySem.W.readsAll_at (h := s.heap) (vs := its) (xs := rowP x :: xs.map rowP) (as := as) (by simpa using rd) i v hv'
    have hx : i < (x :: xs).length := by simpa using hlt
    have e1 : (rowP x :: xs.map rowP).getD i .none = rowP ((x :: xs)[i]) := by
      rw [List.getD_eq_getElem?_getD, ← List.map_cons, List.getElem?_map, List.getElem?_eq_getElem hx]; rfl
    rw [e1] at r2
    have e2 := PySem.SeqAt.plain_unique _ _ _ _ _ (row_plain _) (PySem.W.reads_keeps hk r2) hr
    rw [minD_rows] at e2
    have e3 := rowP_inj e2
    have hu' : i < us.length := by omega
    obtain ⟨v0, h0, rel⟩ := vals_at_of rv hv'
    exact ⟨v0, H, I.kept hk, rel, q i v0 h0 (by rw [List.getElem?_eq_getElem hx, e3])⟩
theorem fc_minR (hu : X.A.units + 64 < cLine) (hc : X.calm = true := by rfl) : FC X (.builtin "min") dMinR := fc_L1 (cr_minR hc hu) fun τ w σ ρ a vs ds Q Qv hn st h1 ho hz h2 ⟨rs, e, hne, q⟩ hq => by
  subst e
  match rs, hne, q, h2 with
  | x :: xs, _, q, h2 =>
    have hd := rep_dps st.wf ((x :: xs).map fun r => D.tup false (r.map D.int)) (datL_map fun r _ => by show datL _ = true; exact datL_map fun _ _ => rfl) (h2 [] 0)
    have e : pyL ((x :: xs).map fun r => D.tup false (r.map D.int)) = (x :: xs).map rowP := by
      rw [pyL_map]
      refine List.map_congr_left fun r _ => ?_
      simp only [D.py]
      rw [pyL_map]; rfl
    rw [e] at hd
    refine ⟨a, vs, x, xs, rfl, h1, hd, fun i v hv hx => ?_⟩
    have hm := minR_mem xs x
    have hq' := q (minR x xs) hm (minR_le xs x)
    refine hq _ w _ hq' (.refl st) ?_
    have hl := (h2 [τ] 0).length
    obtain ⟨v', e3, r⟩ := (h2 [τ] 0).get (i := i) (d := D.tup false ((minR x xs).map D.int)) (by rw [List.getElem?_map, hx]; rfl)
    rw [hv] at e3
    cases e3
    exact r.free (Same.refl _) _ rfl
end
end FL
/-! FL52: x = y[k], the list at y's place k a name of its own for one statement; both frozen behind it. -/
namespace FL
open PySem PySem.Spec PyProof.Rows L2 RT
/-- the place k of slot j becomes temporary n + 1 -/
def outTo (n j k : Nat) : Loc → Option Loc
  | h :: s => if h = n + 1 then none else if h = j + 1 then (match s with | y :: t => if y = k then some ((n + 1) :: t) else none | [] => none) else some (h :: s)
  | [] => some []
def rAlias (i j k : Nat) (re : RE) (rb u : RS) : RS := fun ρ E F => ∃ (ds : List D) (o : Ow) (xs : List D), ρ[j]? = some (some (.tup true ds)) ∧ ds[k]? = some (.lst o xs) ∧ ownL (ds.set k .non) = false ∧ (i < ρ.length ∧ i ≠ j) ∧
  (∀ a, nf (ρ.set j (some (.tup false (ds.set k (.obj a))))) fun ρ1 => re ρ1 E0D fun r ρ' => r = .obj a ∧ ρ' = ρ1) ∧
  nf ((ρ.set j none).set i (some (.lst o xs))) fun ρA => rb ρA E (F.wn fun ρ' => ∃ d, ρ'[i]? = some (some d) ∧ nf ((ρ'.set i (some d.frz)).set j (some (.tup false (ds.set k d.frz)))) fun ρ2 => u ρ2 E F)
section
variable {K : PySem.W.Frag}
theorem st_weak {w : Wd} {σ : Sl} {ρ ρ' : En} (st : StE K w σ ρ) (hl : ρ'.length = ρ.length) (h : ∀ (i : Nat) (d : D), ρ'[i]? = some (some d) → ρ[i]? = some (some d)) : StE K w σ ρ' := ⟨st.wf, by rw [hl]; exact st.len, fun i d e => st.rep i d (h i d e)⟩
theorem ss_alias {W : WX} {M : List Nat} {te : TE} {tb tu : TS} {re : RE} {rb u : RS} (i j k : Nat) (ke : SE K W te re) (kb : SS K W (i :: j :: M) tb rb) (ku : SS K W M tu u) (hM : M.contains i = false) :
    SS K W M (tSeq (tAsg te (gName i)) (tSeq tb tu)) (rAlias i j k re rb u) := by
  intro w σ ρ E F Z st ⟨ds, o, xs, ej, ek, ho, ⟨hi, hij⟩, hre, hb⟩ hf
  have hj : j < ρ.length := (List.getElem?_eq_some_iff.mp ej).1
  obtain ⟨vj, evj, rj⟩ := st.rep j _ ej
  simp only [Rep] at rj
  obtain ⟨b, vs, rfl, hS, ⟨hz, _⟩, rl⟩ := rj
  obtain ⟨v, hv, rx⟩ := rl.get ek
  have rx0 := rx
  simp only [Rep] at rx0
  obtain ⟨a, us, rfl, _⟩ := rx0
  have hk : k < ds.length := (List.getElem?_eq_some_iff.mp ek).1
  have other : ∀ {y : Nat} {d : D}, y ≠ k → ds[y]? = some d → d.own = false := fun {y d} hy e => ownL_iff.mp ho d (List.mem_of_getElem? (i := y) (by rw [List.getElem?_set_ne (Ne.symm hy)]; exact e))
  -- the tuple's parts with another one at k
  have parts : ∀ {w' : Wd} {d : D} {ℓ : Loc}, Same w.S w'.S → d.own = false → (∀ ℓ, Rep K w' d ℓ (.ref a)) → Rep K w' (.tup false (ds.set k d)) ℓ (.ref b) := fun {w' d ℓ} hs hd r => by
    simp only [Rep]
    refine ⟨b, vs, rfl, hs _ _ hS, ⟨by rw [List.length_set]; exact hz, fun _ => ?_⟩, RepL.of (by rw [List.length_set]; exact rl.length) fun y d' v' e1 e2 => ?_⟩
    · rw [ownL_iff]
      intro d' hd'
      obtain ⟨y, e⟩ := List.getElem?_of_mem hd'
      by_cases hy : y = k
      · subst hy
        rw [List.getElem?_set_self hk] at e
        cases e; exact hd
      · rw [List.getElem?_set_ne (Ne.symm hy)] at e
        exact other hy e
    · by_cases hy : y = k
      · subst hy
        rw [List.getElem?_set_self hk] at e1
        rw [hv] at e2
        cases e1; cases e2
        exact r _
      · rw [List.getElem?_set_ne (Ne.symm hy)] at e1
        obtain ⟨v2, e3, r2⟩ := rl.get e1
        rw [e2] at e3; cases e3
        exact r2.free hs d' (other hy e1)
  -- the place taken out
  let f := outTo ρ.length j k
  have ff : ∀ {h : Nat} (s : Loc), h ≠ ρ.length + 1 → h ≠ j + 1 → f (h :: s) = some (h :: s) := fun {h} s h1 h2 => by
    show (if _ then _ else _) = _
    rw [if_neg h1, if_neg h2]
  have e1 : EndS K M w σ ρ (w.ren f) σ (ρ.set j (some (.tup false (ds.set k (.obj a))))) := by
    refine ⟨by rw [List.length_set], ⟨st.wf.ren f, by rw [List.length_set]; exact st.len, fun y d e => ?_⟩, ⟨Same.refl _, fun c ℓ g ⟨h, s, e2, q⟩ => ?_⟩, fun _ _ => rfl⟩
    · by_cases hy : y = j
      · subst hy
        rw [List.getElem?_set_self hj] at e
        cases e
        exact ⟨_, evj, parts (Same.refl _) rfl fun ℓ => by simp only [Rep]⟩
      · rw [List.getElem?_set_ne (Ne.symm hy)] at e
        have hy2 := (List.getElem?_eq_some_iff.mp e).1
        obtain ⟨v', e', r'⟩ := st.rep y d e
        exact ⟨v', e', r'.ren fun s => ff s (by omega) (by omega)⟩
    · subst e2
      have q : h = 0 := by omega
      subst q
      exact ⟨ren_at g (ff s (by omega) (by omega)), rfl⟩
  have rt : Rep K (w.ren f) (.lst o xs) [ρ.length + 1] (.ref a) := rx.ren fun s => by
    show (if _ then _ else _) = _
    rw [if_neg (by omega), if_pos rfl]
    show (if 0 + k = k then _ else _) = _
    rw [if_pos (Nat.zero_add k)]; rfl
  have hl1 : (ρ.set j (some (D.tup false (ds.set k (.obj a))))).length = ρ.length := List.length_set ..
  refine ke (ρ.length + 2) (w.ren f) σ _ E0D _ _ (by rw [hl1]; omega) e1.st (nf_of (hre a)) (fun r ρ' w' v q e2 r2 => ?_) (fun _ _ _ _ _ z => z.elim)
  obtain ⟨rfl, rfl⟩ := q
  have r2 : v = .ref a := by simpa only [Rep] using r2
  subst r2
  have x2 := e2.ext
  rw [hl1] at x2
  have rt2 : Rep K w' (.lst o xs) [ρ.length + 1] (.ref a) := x2.rep ⟨by omega, by omega⟩ rt
  have e3 := store_end (M := M) e2.st (by rw [hl1]; exact rt2) (by rw [hl1]; exact hi) hM
  have e12 : EndS K M w σ ρ w' σ _ := e1.trans (e2.s (by rw [hl1]; omega))
  have e13 := e12.trans e3
  have hl2 : ((ρ.set j none).set i (some (D.lst o xs))).length = ρ.length := by rw [List.length_set, List.length_set]
  have stA : StE K (w'.ren (tempTo (ρ.set j (some (D.tup false (ds.set k (.obj a))))).length i)) (σ.set i (some (.ref a))) ((ρ.set j none).set i (some (.lst o xs))) := by
    refine st_weak e3.st (by rw [List.length_set, List.length_set, List.length_set, List.length_set]) fun y d e => ?_
    by_cases hy : y = i
    · subst hy
      rw [List.getElem?_set_self (by rw [List.length_set]; exact hi)] at e ⊢
      exact e
    · rw [List.getElem?_set_ne (Ne.symm hy)] at e ⊢
      by_cases hy2 : y = j
      · subst hy2
        rw [List.getElem?_set_self hj] at e
        cases e
      · rw [List.getElem?_set_ne (Ne.symm hy2)] at e ⊢
        exact e
  generalize hA : w'.ren (tempTo (ρ.set j (some (D.tup false (ds.set k (.obj a))))).length i) = wA at e3 e13 stA
  have eH : wA.H = w'.H := by rw [← hA]; rfl
  have hb := nf_of hb
  have mk : ∀ {w2 σ2 ρ2}, EndS K (i :: j :: M) wA (σ.set i (some (.ref a))) ((ρ.set j none).set i (some (.lst o xs))) w2 σ2 ρ2 → EndS K M w σ ρ w2 σ2 ρ2 := fun {w2 σ2 ρ2} e => by
    refine ⟨e.len.trans hl2, e.st, e13.ext.trans (by have := e.ext; rw [hl2] at this; exact this), fun y hy => ?_⟩
    have hyi : y ≠ i := fun z => by
      subst z
      have : M.contains y = true := by simpa using hy
      rw [hM] at this; cases this
    rw [e.km y (List.mem_cons_of_mem _ (List.mem_cons_of_mem _ hy)), List.getElem?_set_ne (Ne.symm hyi)]
  show tb _ (σ.set i (some (.ref a))) w'.H
  rw [← eH]
  refine kb wA (σ.set i (some (.ref a))) _ E (F.wn _) ⟨fun σ H => tu Z σ H, Z.rt, Z.bk, Z.ct⟩ stA hb ⟨fun ρ' w2 σ2 q e => ?_, fun d ρ' w2 σ2 v q e r => ?_, fun ρ' w2 σ2 q e => hf.bk _ _ _ q (mk e), fun ρ' w2 σ2 q e => hf.ct _ _ _ q (mk e), fun c fs ρ' w2 σ2 x q e r => hf.ex _ _ _ _ _ _ q (mk e) r⟩
  · obtain ⟨d, ed, q⟩ := q
    have q := nf_of q
    have hl3 := e.len.trans hl2
    obtain ⟨v, ev, r⟩ := e.st.rep i d ed
    have evi : v = .ref a := by
      have := e.km i List.mem_cons_self
      rw [ev, List.getElem?_set_self (by rw [st.len]; exact hi)] at this
      exact Option.some.inj (Option.some.inj this)
    subst evi
    have evj2 : σ2[j]? = some (some (.ref b)) := by
      rw [e.km j (List.mem_cons_of_mem _ List.mem_cons_self), List.getElem?_set_ne hij]; exact evj
    have e4 := ice_slot' (τ := ρ'.length + 1) (Nat.lt_succ_self _) e.st ed
    have r4 : ∀ ℓ, Rep K (w2.ice (iceS i)) d.frz ℓ (.ref a) := fun ℓ => Rep.frz (w := w2) (ice_same e.st.wf) d (ice_frz fun s => by show (i + 1 == i + 1) = true; simp) r
    have sm : Same w.S (w2.ice (iceS i)).S := (mk e).ext.s.trans e4.ext.s
    have e5 : EndS K M w σ ρ (w2.ice (iceS i)) σ2 ((ρ'.set i (some d.frz)).set j (some (.tup false (ds.set k d.frz)))) := by
      refine ⟨by rw [List.length_set, List.length_set]; exact hl3, ⟨e4.st.wf, by rw [List.length_set]; exact e4.st.len, fun y d' e' => ?_⟩, (mk e).ext.trans (by have := e4.ext; rw [hl3] at this; exact this), (mk e).km⟩
      by_cases hy : y = j
      · subst hy
        rw [List.getElem?_set_self (by rw [List.length_set, hl3]; exact hj)] at e'
        cases e'
        exact ⟨_, evj2, parts sm (frz_own d) r4⟩
      · rw [List.getElem?_set_ne (Ne.symm hy)] at e'
        exact e4.st.rep y d' e'
    exact ku (w2.ice (iceS i)) σ2 _ E F Z e5.st q (hf.then e5)
  · exact hf.rt _ _ _ _ _ q (mk e) (by rw [hl2] at r; exact r)
end
section
variable {X : Cx} {W : WX} {M : List Nat} {e : Expr} {pos pos' : Pos} {re : RE}
theorem fss_alias {stB : Stmt} {rest : List Stmt} {rb u : RS} (i j k : Nat) {x : Str} (he : FE X W e re) (hB : FS X W (i :: j :: M) stB rb) (hu : FSs X W M rest u) (hN : X.N.Nodup) (hi : X.N[i]? = some x := by rfl) (hx : L2.Loc X.env.scope x := by first | exact .inl rfl | exact .inr rfl) (hM : M.contains i = false := by rfl) (hs : swapsWith e (some (.Name x pos')) pos.line X.env = pure false := by rfl) (hf : X.fn x = true ∨ X.env.scope.names.lookup x = some .local := by first | exact .inl rfl | exact .inr rfl) :
    FSs X W M (.Assign [.Name x pos'] e pos :: stB :: rest) (rAlias i j k re rb u) := by
  obtain ⟨t, p, ke⟩ := he.ex
  obtain ⟨tb, pb, kb⟩ := hB.ex
  obtain ⟨tu, pu, ku⟩ := hu.ex
  exact ⟨_, pss_cons (ps_set hN hi hx p hs hf) (pss_cons pb pu), ss_alias i j k ke kb ku hM⟩
end
end FL
/-! FL53: dict(d) of a dict whose keys are tuples of ints (their hash values are unlike: computed). -/
namespace FL
open PySem PySem.Spec PyProof.Rows L2 RT
/-- the hash value of a tuple of ints -/
def hkT (t : List Int) : Int := reduceHash (Builtin.Tuple.tupleHashOf (t.map hashInt))
section
variable {X : Cx}
theorem kt_hash {P : Program} {w : World} {H : Hp} : ∀ {kvs : List (List Key × V)} {ks : List (List Key × Addr × Value)}, KT H kvs ks → (ks.map fun x => (tupleKind (mixKind P w)).hash x.1) = kvs.map fun z => tupleKeyHash (mixKind P w) z.1
  | _, _, .nil => rfl
  | _, _, .cons hq t => by rw [List.map_cons, List.map_cons, kt_hash t, hq.1]; rfl
theorem call_dictCT (hc : X.calm = true) (hu : X.A.units + 2 < cLine) : CallR X (.type "dict") (fun xs H Q => ∃ (a : Addr) (kvs : List (List Key × V)), xs = [V.ref a] ∧ Rd H a (.dT kvs) ∧ (kvs.map fun z => tupleKeyHash (mixKind X.prog X.w) z.1).Nodup ∧ ∀ p, H p = none → Q (.ref p) (upd H p (.dT kvs))) := by
  intro pins s σ H xs us Q I r h
  obtain ⟨d, kvs, rfl, hd, hn, q⟩ := h
  obtain ⟨u, rfl, rx⟩ := r.one
  cases rx
  obtain ⟨z, hs, ks, pr, dd⟩ := dt_rd I.hok hd
  have hsz : ks.length ≤ sizeLine := by rw [← Paired.length pr]; exact z
  obtain ⟨od, esd, epd, hod, hxd, hdd, hed, hisd, hnd⟩ := id dd
  have hlt := Heap.lt_size hod
  have hns : (s.heap.objs.size == sysModules) = false := beq_eq_false_iff_ne.mpr (Nat.ne_of_gt I.big)
  have hkeep : ∀ b o, s.heap.get? b = some o → (s.heap.push { cls := .type "dict", data := .dict #[] }).get? b = some o := fun b o e => Heap.get?_push_of_some _ e
  refine callType_codes (Q₁ := fun obj s₁ => obj = .ref s.heap.objs.size ∧ s₁ = { s with heap := s.heap.push { cls := .type "dict", data := .dict #[] } }) F.kt_called_dict (F.kt_typeCall_dict_1 _) F.entry_dict_init (kt_code_dict_new _ ⟨rfl, rfl⟩) ?_
  rintro obj s₁ ⟨rfl, rfl⟩
  have hT : Shared.TypeIs { s with heap := s.heap.push { cls := .type "dict", data := .dict #[] } } (.ref s.heap.objs.size) "dict" := ⟨_, Heap.get?_push_size _ rfl, rfl⟩
  refine ⟨hT, F.args_dict_init_2 _ _, ?_⟩
  unfold Builtin.«dict.__init__»
  refine wpAny_bind ?_
  unfold Builtin.Dict.selfAndRest
  refine wpAny_bind (wpAny_notOrdered_dict hT ?_)
  show wpAny _ _ (pure (s.heap.objs.size, [Value.ref d])) _ _ _
  refine wpAny_pure ?_
  have dd1 : (s.heap.push { cls := .type "dict", data := .dict #[] }).DictOfH (tupleKind (mixKind X.prog X.w)) d ks :=
    ⟨od, esd, epd, hkeep _ _ hod, hxd, hdd, hed, fun x hx => by
      obtain ⟨o, i3, n, g1, g2, g3, g4⟩ := hisd x hx
      exact ⟨o, i3, n, hkeep _ _ g1, g2, g3, g4⟩, hnd⟩
  have keyTup : ∀ x ∈ ks, Shared.TypeIs { s with heap := s.heap.push { cls := .type "dict", data := .dict #[] } } (.ref x.2.1) "tuple" := fun x hx => by
    obtain ⟨o, i3, n, g1, g2, g3, g4⟩ := hisd x hx
    exact ⟨o, hkeep _ _ g1, g2⟩
  have hap : (ks.map fun x => (tupleKind (mixKind X.prog X.w)).hash x.1).Nodup := by
    have : (ks.map fun x => (tupleKind (mixKind X.prog X.w)).hash x.1) = kvs.map fun z => tupleKeyHash (mixKind X.prog X.w) z.1 := kt_hash pr
    rw [this]; exact hn
  refine updateFrom_dictH (A := X.A.in1) (kvs := []) (more := ks) .none (show X.A.in1.in1.units < cLine from hu) (Nat.ne_of_gt hlt) hs (Heap.DictOfH.new s.heap) dd1 (.inr ⟨keyTup, hap⟩) (by simpa using hsz) fun h' hd' ho' hsb => ?_
  rw [storedAllH_nil_of_nodup ks hnd] at hd'
  obtain ⟨o, es, ep, g1, g2, g3, g4, _, g5⟩ := hd'
  have kt : KT (upd H s.heap.objs.size (.dT kvs)) kvs ks := Paired.mapP pr fun p q z => ⟨z.1, by rw [upd_ne (ne_of_none z.2.1 (I.hok.fresh (Nat.le_refl _)))]; exact z.2.1, z.2.2⟩
  have hk : ∀ b o, s.heap.get? b = some o → h'.get? b = some o := fun b o e => by
    rw [hsb.2 b (Nat.ne_of_lt (Heap.lt_size e))]
    exact hkeep b o e
  exact ⟨rfl, .ref s.heap.objs.size, upd H s.heap.objs.size (.dT kvs), I.laid (t' := s.toks) (fun b o e => hk b o e) (Nat.le_refl _) (show ObjOk X.prog X.w _ _ _ (.dT kvs) from ⟨z, hns, _, kt, o, es, ep, g1, g2, g3, g4, g5⟩), rfl, q _ (I.hok.fresh (Nat.le_refl _))⟩
end
theorem hk_key (P : Program) (w : World) (r : List Int) : tupleKeyHash (mixKind P w) (tkey (.tup false (r.map D.int))) = hkT r := by
  unfold tupleKeyHash hkT
  congr 2
  show ((r.map D.int).map skey).map _ = _
  rw [List.map_map, List.map_map]
  rfl
/-- dict(d), d's keys tuples of ints -/
def dDictC : DC
  | [.dct _ t ks vs], Q => t = true ∧ ownL vs = false ∧ ∃ rs : List (List Int), ks = rs.map (fun r => D.tup false (r.map D.int)) ∧ (rs.map hkT).Nodup ∧ Q (.dct .flat true ks vs)
  | _, _ => False
section
variable {X : Cx}
theorem fc_dictCT (hu : X.A.units + 2 < cLine) (hc : X.calm = true := by rfl) : FC X (.type "dict") dDictC := by
  refine ⟨_, call_dictCT hc hu, fun τ w σ ρ vs ds Q Qv hn st rs hd hq => ?_⟩
  unfold dDictC at hd
  split at hd
  · rename_i o t ks dd
    obtain ⟨rfl, ho, rr, e, hnd, q⟩ := hd
    obtain ⟨v, ℓ, rfl, r⟩ := reps1 rs
    obtain ⟨a, us, rfl, h1, hl, hks, h2⟩ := dct_at st.wf r
    refine ⟨a, (ks.map tkey).zip us, rfl, h1, ?_, fun p n => ?_⟩
    · have e1 : ((ks.map tkey).zip us).map (fun z => tupleKeyHash (mixKind X.prog X.w) z.1) = rr.map hkT := by
        rw [show (fun z : List Key × V => tupleKeyHash (mixKind X.prog X.w) z.1) = (fun k => tupleKeyHash (mixKind X.prog X.w) k) ∘ Prod.fst from rfl, ← List.map_map, List.map_fst_zip (by rw [List.length_map]; omega), e, List.map_map, List.map_map]
        exact List.map_congr_left fun r _ => hk_key _ _ r
      rw [e1]; exact hnd
    · obtain ⟨e2, r2⟩ := EndE.ownD (τ := τ) st n (⟨hl, hks, RepL.free (w := w) (w' := w) (Same.refl _) dd ho h2, ho⟩ : MkOk X.K w true ks dd [τ] us)
      exact hq _ _ _ q e2 r2
  · exact hd.elim
end
/-! ### tuples of three small ints hash unlike -/
def bx3 (n : Nat) : List (List Int) := (List.range n).flatMap fun (k : Nat) => (List.range n).flatMap fun (i : Nat) => (List.range n).map fun (j : Nat) => [(k : Int), (i : Int), (j : Int)]
def hnT (t : List Int) : Nat := (hkT t + 2 ^ 63).toNat
def inN (x : Nat) : List Nat → Bool
  | [] => false
  | y :: ys => Nat.beq x y || inN x ys
def ndB : List Nat → Bool
  | [] => true
  | x :: xs => !(inN x xs) && ndB xs
theorem inN_of {x : Nat} : ∀ {l : List Nat}, x ∈ l → inN x l = true
  | y :: ys, h => by
    unfold inN
    rcases List.mem_cons.mp h with rfl | h
    · rw [show Nat.beq x x = true from Nat.beq_refl x]; rfl
    · rw [inN_of h, Bool.or_true]
theorem ndB_nd : ∀ {l : List Nat}, ndB l = true → l.Nodup
  | [], _ => List.nodup_nil
  | x :: xs, h => by
    unfold ndB at h
    rw [Bool.and_eq_true] at h
    refine List.nodup_cons.mpr ⟨fun z => ?_, ndB_nd h.2⟩
    rw [inN_of z] at h
    exact absurd h.1 (by decide)
theorem hnd7 : ndB ((bx3 7).map hnT) = true := by decide +kernel
theorem hk_inj7 {p q : List Int} (hp : p ∈ bx3 7) (hq : q ∈ bx3 7) (h : hkT p = hkT q) : p = q := by
  have nd := ndB_nd hnd7
  obtain ⟨i, hi⟩ := List.getElem?_of_mem hp
  obtain ⟨j, hj⟩ := List.getElem?_of_mem hq
  have e1 : ((bx3 7).map hnT)[i]? = some (hnT p) := by rw [List.getElem?_map, hi]; rfl
  have e2 : ((bx3 7).map hnT)[j]? = some (hnT q) := by rw [List.getElem?_map, hj]; rfl
  have e3 : hnT p = hnT q := by unfold hnT; rw [h]
  have hil := (List.getElem?_eq_some_iff.mp e1).1
  have : i = j := (List.getElem?_inj hil nd).mp (by rw [e1, e2, e3])
  subst this
  rw [hi] at hj
  exact Option.some.inj hj
theorem bx3_mem {n k i j : Nat} (h1 : k < n) (h2 : i < n) (h3 : j < n) : [(k : Int), (i : Int), (j : Int)] ∈ bx3 n :=
  List.mem_flatMap.mpr ⟨k, List.mem_range.mpr h1, List.mem_flatMap.mpr ⟨i, List.mem_range.mpr h2, List.mem_map.mpr ⟨j, List.mem_range.mpr h3, rfl⟩⟩⟩
/-- places below 7 hash unlike -/
theorem hk_nodup {L : List (List Int)} (nd : L.Nodup) (h : ∀ p ∈ L, p ∈ bx3 7) : (L.map hkT).Nodup := by
  induction L with
  | nil => exact List.nodup_nil
  | cons p L ih =>
    have h1 := List.nodup_cons.mp nd
    rw [List.map_cons]
    refine List.nodup_cons.mpr ⟨fun z => ?_, ih h1.2 fun q hq => h q (List.mem_cons_of_mem _ hq)⟩
    obtain ⟨q, hq, e⟩ := List.mem_map.mp z
    have := hk_inj7 (h q (List.mem_cons_of_mem _ hq)) (h p List.mem_cons_self) e
    subst this
    exact h1.1 hq
end FL
/-! FL54: d.pop(k, x) at a place, d's keys tuples. -/
namespace FL
open PySem PySem.Spec PyProof.Rows L2 RT
theorem drop_erase {κ α : Type} [DecidableEq κ] {k : κ} : ∀ {ks : List κ} {us : List α} {j : Nat}, ks.Nodup → ks[j]? = some k → ks.length = us.length → (ks.zip us).filter (fun kv => decide (kv.1 ≠ k)) = (ks.eraseIdx j).zip (us.eraseIdx j)
  | [], _, _, _, e, _ => by simp at e
  | x :: ks, [], _, _, _, l => by simp at l
  | x :: ks, u :: us, 0, nd, e, l => by
    have e : x = k := by simpa using e
    subst e
    have h := List.nodup_cons.mp nd
    rw [List.zip_cons_cons, List.filter_cons, if_neg (by simp)]
    show _ = ks.zip us
    refine List.filter_eq_self.mpr fun p hp => ?_
    have : p.1 ∈ ks := (List.of_mem_zip (a := p.1) (b := p.2) hp).1
    simp only [decide_eq_true_eq]
    exact fun z => h.1 (z ▸ this)
  | x :: ks, u :: us, j + 1, nd, e, l => by
    have h := List.nodup_cons.mp nd
    have e : ks[j]? = some k := by simpa using e
    have hx : x ≠ k := fun z => h.1 (z ▸ List.mem_of_getElem? e)
    rw [List.zip_cons_cons, List.filter_cons, if_pos (by simpa using hx), drop_erase h.2 e (by simpa using l)]
    rfl
theorem er_map {α β : Type} (f : α → β) : ∀ (l : List α) (j : Nat), (l.map f).eraseIdx j = (l.eraseIdx j).map f
  | [], _ => rfl
  | _ :: _, 0 => rfl
  | a :: l, j + 1 => by
    rw [List.map_cons, List.eraseIdx_cons_succ, List.eraseIdx_cons_succ, List.map_cons, er_map f l j]
def rPopDT (rp : RPl) (ra : RA) : RE := fun ρ E Q => rp ρ E fun i p ρ1 => match ρ1[i]? with
  | some (some d0) => match d0.atS p with
    | some (.dct o t ks vs) => o = .flat ∧ ra (ρ1.set i none) (heldE i d0 E) fun ads ρ2 => onVals ads fun ds => match ds with
      | [k, d] => t = true ∧ keyOk true k = true ∧ d.own = false ∧ (match kIdx true ks k with
        | some j => pick vs[j]? fun y => nf (ρ2.set i (some (d0.put p (.dct .flat true (ks.eraseIdx j) (vs.eraseIdx j))))) (Q y)
        | none => nf (ρ2.set i (some d0)) (Q d))
      | _ => False
    | _ => False
  | _ => False
theorem tyD {K : PySem.W.Frag} {w : Wd} (wf : Wf w) {o : Ow} (ho : o.mine = true) {t : Bool} {ks ds : List D} {ℓ : Loc} {v : V} (h : Rep K w (.dct o t ks ds) ℓ v) : tyV K "dict" v w.H := by
  simp only [Rep] at h
  obtain ⟨a, vs, rfl, h1, _⟩ := h
  rw [ho] at h1
  refine .inr (.inr (.inl ⟨rfl, ?_⟩))
  rw [h1.2]
  unfold dHO
  cases t with
  | true => exact .inr ⟨_, rfl⟩
  | false => exact .inl ⟨_, rfl⟩
section
variable {X : Cx} {W : WX} {M : List Nat} {pos pos' p2 apos : Pos}
theorem fe_popDT {e e1 e2 : Expr} {rp : RPl} {ra : RA} (he : FPl X W e rp) (h1 : FA X W [e1, e2] ra) (hu : X.A.units + 1 < cLine) (hbase : attributeBase e "pop" X.env (eval e X.env) = eval e X.env := by rfl)
    (hfew : ((backTo pos (starEach [e1, e2] X.env)).all (fun x => !x.1) && (backToKw pos (keywordEach [] X.env)).all (fun x => x.1.isSome)
      && decide ([e1, e2].length + ([] : List Keyword).length + (if ([] : List Keyword).isEmpty then 0 else 1) < 30)) = true := by rfl)
    (hline : (apos.endLine == pos.line) = true := by rfl) (hs : starEach [e1, e2] X.env = (false, eval e1 X.env) :: starEach [e2] X.env := by rfl) (hplain : (backTo pos (starEach [e2] X.env)).any (·.1) = false := by rfl) :
    FE X W (.Call (.Attribute e "pop" apos) [e1, e2] [] pos) (rPopDT rp ra) := by
  obtain ⟨t, q, l⟩ := he.ex
  obtain ⟨t', q', l'⟩ := h1.ex
  refine ⟨_, pe_bm PySem.F.plainAttrs_dict PySem.F.slot_dict_pop PySem.F.type_dict_pop (L2.DX.mt_popT hu) q q' hbase hfew hline hs hplain, fun τ w σ ρ E Q Qv hn st h hq hx => ?_⟩
  refine l τ w σ ρ E _ _ hn st h (fun i p ρ1 w1 d0 dn v0 v h1 e1 hi ha hv at0 => ?_) hx
  have hn1 : ρ1.length < τ := by rw [e1.len]; exact hn
  obtain ⟨s1, back⟩ := hold e1.st hi hv at0 hn1
  have hx1 : SX X.K W τ w1 σ ρ1 E := hx.then e1 (Nat.le_refl _)
  simp only [hi] at h1
  obtain ⟨v0', ev', r0⟩ := e1.st.rep i d0 hi
  rw [hv] at ev'; cases ev'
  have isl : ∃ o t ks vs, dn = .dct o t ks vs := by
    rw [ha] at h1
    cases dn with
    | dct o t ks vs => exact ⟨o, t, ks, vs, rfl⟩
    | _ => exact h1.elim
  obtain ⟨o, tt, ks, vs, rfl⟩ := isl
  simp only [ha] at h1
  obtain ⟨rfl, h1⟩ := h1
  refine ⟨tyD e1.st.wf rfl (at0.rep r0), ?_⟩
  refine l' (τ + 1) (w1.ren (moveT (i + 1) [τ])) σ (ρ1.set i none) _ _ _ (by rw [List.length_set]; omega) s1 h1 (fun ads ρ2 w2 xs h2 l2 e2 r2 => ?_) (held_sx hx1 fun ρ' w' en => (back ρ' w' en).1)
  obtain ⟨b1, b2, b3⟩ := back ρ2 w2 e2
  obtain ⟨es, ea, h2⟩ := onVals_elim h2
  obtain ⟨l3, l4, g⟩ := vals_at r2 ea
  have hin := (List.getElem?_eq_some_iff.mp hi).1
  have hl2 : ρ2.length = ρ1.length := by rw [e2.len, List.length_set]
  have hi2 : (ρ2.set i (some d0))[i]? = some (some d0) := List.getElem?_set_self (by omega)
  obtain ⟨v0', ev', r0'⟩ := b1.st.rep i d0 hi2
  rw [hv] at ev'; cases ev'
  obtain ⟨a, us, rfl, gg, hh, ⟨hlk, hks, hL⟩, rl⟩ := dict_at rfl r0' b2
  split at h2
  · rename_i k d
    match xs, l3, g with
    | [v1, v2], _, g =>
      obtain ⟨rfl, hko, hdo, h2⟩ := h2
      have r1' := b3 _ _ _ _ (by omega) (g 0 _ v1 rfl rfl)
      have r2' := b3 _ _ _ _ (by omega) (g 1 _ v2 rfl rfl)
      obtain ⟨b, rfl, hb⟩ := rep_tkey b1.st.wf r1' hko
      have hnd : (ks.map tkey).Nodup := by
        unfold keysOk at hks
        simp only [Bool.and_eq_true] at hks
        simpa using hks.2
      have hval : valV ((ks.map tkey).zip us) (tkey k) = (kIdx true ks k).bind fun i => us[i]? := valV_zip tkey k ks us
      have en : EndE X.K τ w σ ρ (ρ2.set i (some d0)) (w2.ren (moveT τ [i + 1])) := e1.trans b1 (Nat.le_refl _)
      cases ej : kIdx true ks k with
      | none =>
        rw [ej] at h2 hval
        refine ⟨a, (ks.map tkey).zip us, tkey k, b, v2, rfl, rfl, hh, hb, fun y hy => ?_, fun hy => ?_⟩
        · rw [hval] at hy; cases hy
        · exact hq d _ (w2.ren (moveT τ [i + 1])) v2 (nf_of h2) en (Rep.free (w := w2.ren (moveT τ [i + 1])) (w' := w2.ren (moveT τ [i + 1])) (Same.refl _) d hdo r2')
      | some jj =>
        rw [ej] at h2 hval
        dsimp only at h2
        obtain ⟨y, ey, hyo, h2⟩ := pick_elim h2
        have hj : (ks.map tkey)[jj]? = some (tkey k) := by
          unfold kIdx at ej
          obtain ⟨hjl, he, _⟩ := List.findIdx?_eq_some_iff_getElem.mp ej
          rw [List.getElem?_map, List.getElem?_eq_getElem hjl]
          have : tkey ks[jj] = tkey k := by simpa [keyEq] using he
          rw [Option.map_some, this]
        obtain ⟨z, ez, rz⟩ := rl.get ey
        have hval : valV ((ks.map tkey).zip us) (tkey k) = some z := by rw [hval]; exact ez
        have hdrop : dropK ((ks.map tkey).zip us) (tkey k) = ((ks.eraseIdx jj).map tkey).zip (us.eraseIdx jj) := by
          unfold dropK
          rw [drop_erase hnd hj (by rw [List.length_map]; exact hlk), er_map]
        have hLv : ownL vs = false := hL rfl
        have hLe : ownL (vs.eraseIdx jj) = false := by rw [ownL_iff] at hLv ⊢; exact fun d hd => hLv d (List.eraseIdx_subset hd)
        have hjl : jj < us.length := (List.getElem?_eq_some_iff.mp ez).1
        have rr : RepL X.K ((w2.ren (moveT τ [i + 1])).ren (moveT τ [])) (vs.eraseIdx jj) ((i + 1) :: p) 0 (us.eraseIdx jj) := RepL.of (by rw [List.length_eraseIdx, List.length_eraseIdx, rl.length]) fun m d' v' f1 f2 => by
          have fr : ∀ {m' : Nat}, vs[m']? = some d' → us[m']? = some v' → Rep X.K ((w2.ren (moveT τ [i + 1])).ren (moveT τ [])) d' ((i + 1) :: p ++ [0 + m]) v' := fun {m'} f3 f4 => by
            obtain ⟨v5, f5, r5⟩ := rl.get f3
            rw [f4] at f5; cases f5
            exact Rep.free (w := w2.ren (moveT τ [i + 1])) (w' := (w2.ren (moveT τ [i + 1])).ren (moveT τ [])) (Same.refl _) d' (ownL_iff.mp hLv d' (List.mem_of_getElem? f3)) r5
          rw [List.getElem?_eraseIdx] at f1 f2
          split at f1
          · rename_i hm
            rw [if_pos hm] at f2
            exact fr f1 f2
          · rename_i hm
            rw [if_neg hm] at f2
            exact fr f1 f2
        have hks' : keysOk true (ks.eraseIdx jj) = true := by
          unfold keysOk at hks ⊢
          simp only [Bool.and_eq_true] at hks ⊢
          refine ⟨List.all_eq_true.mpr fun x hx => List.all_eq_true.mp hks.1 x (List.eraseIdx_subset hx), ?_⟩
          show decide ((ks.eraseIdx jj).map tkey).Nodup = true
          rw [decide_eq_true_iff, ← er_map]
          exact hnd.eraseIdx _
        have ee := dict_end (i := i) (τ := τ) (τ1 := τ) (p := p) (o' := .flat) (t := true) (ks' := ks.eraseIdx jj) (ds' := vs.eraseIdx jj) rfl rfl b1.st hi2 hv r0' b2 (by rw [List.length_set]; omega) (Nat.le_refl _) rr ⟨by rw [List.length_eraseIdx, List.length_eraseIdx, hlk], hks', fun _ => hLe⟩
        rw [List.set_set] at ee
        refine ⟨a, (ks.map tkey).zip us, tkey k, b, v2, rfl, rfl, hh, hb, fun y' hy => ?_, fun hy => ?_⟩
        · rw [hval] at hy
          cases hy
          rw [hdrop]
          exact hq y _ _ z (nf_of h2) (en.trans ee (Nat.le_refl _)) (Rep.free (w := w2.ren (moveT τ [i + 1])) (w' := ((w2.ren (moveT τ [i + 1])).ren (moveT τ [])).put a (dHO true (ks.eraseIdx jj) (us.eraseIdx jj))) (Same.refl _) y hyo rz)
        · rw [hval] at hy; cases hy
  · exact h2.elim
end
end FL
/-! FL55: raise C('..'); try: .. except C as e: .. (one clause); isinstance(e, ..) of what was caught. -/
namespace FL
open PySem PySem.Spec PyProof.Rows L2 RT
abbrev bmVal : List Value := [.type "ValueError", .type "Exception", .type "BaseException", .type "object"]
/-- what is asked of an exception class of the program (below ValueError, without __init__) -/
structure EC (K : PySem.W.Frag) (C : Addr) : Prop where
  q : PySem.W.excIn K C bmVal "ValueError.__new__" = true
  kp : PySem.W.keepIn K (.ref C) = true
  sb : PySem.W.subIn K (.ref C) (.type "BaseException") = some true
  ty : PySem.W.typeIn K (.ref C) = some (.type "type")
  ex : ExcC K C
def rRaise (c : Addr) : RS := fun ρ E F => E (.ref c) none ρ
section
variable {X : Cx} {W : WX} {M : List Nat} {C : Addr}
theorem fs_raise {x m : Str} {j : Nat} {p p2 pos pos' : Pos} (tk : Takes X W) (c : EC X.K C) (g : X.mg x = some (.ref C)) (hg : Gl X x := by rfl) (hdb : (x == ("__debug__" : Str)) = false := by decide) (hc : X.calm = true := by rfl) :
    FS X W M (.Raise (some (.Call (.Name x p) [.Constant (.str m) j p2] [] pos)) none pos') (rRaise C) :=
  ⟨_, ps_raise hc tk (pmk_own PySem.F.excBase_ValueError c.q g c.kp (raises_own c.sb c.ty) hg hdb), fun w σ ρ E F Z st h hf => hf.ex _ none ρ w σ none h (.refl st) trivial⟩
/-- try: .. except C as e: ..; cN the class of what the body may raise -/
def rTryAs (i : Nat) (cN : Addr) (rb : RS) (rs : Addr → RS) : RS := fun ρ E F => rb ρ (fun c fs ρ' => c = .ref cN ∧ fs = none ∧ ∀ a, nf (ρ'.set i (some (.obj a))) fun ρ1 => rs a ρ1 E0D
  ⟨fun ρ2 => nf (ρ2.set i none) F.nx, F.rt, fun ρ2 => F.bk (ρ2.set i none), fun ρ2 => F.ct (ρ2.set i none)⟩) F
theorem end_set {K : PySem.W.Frag} {M : List Nat} {w : Wd} {σ : Sl} {ρ : En} {i : Nat} {v : Option V} {d : Option D} (st : StE K w σ ρ) (hM : M.contains i = false) (h : ∀ e, d = some e → ∃ u, v = some u ∧ Rep K w e [i + 1] u) : EndS K M w σ ρ w (σ.set i v) (ρ.set i d) := by
  refine ⟨List.length_set .., ⟨st.wf, by rw [List.length_set, List.length_set]; exact st.len, fun j e he => ?_⟩, .refl, fun j hj => ?_⟩
  · by_cases hji : j = i
    · subst hji
      have hl := (List.getElem?_eq_some_iff.mp he).1
      rw [List.length_set] at hl
      rw [List.getElem?_set_self hl] at he
      have he : d = some e := by simpa using he
      obtain ⟨u, hu, r⟩ := h e he
      exact ⟨u, by rw [List.getElem?_set_self (by rw [st.len]; exact hl), hu], r⟩
    · rw [List.getElem?_set_ne (Ne.symm hji)] at he ⊢
      exact st.rep j e he
  · have hji : j ≠ i := fun z => by
      subst z
      have : M.contains j = true := by simpa using hj
      rw [hM] at this; cases this
    rw [List.getElem?_set_ne (Ne.symm hji)]
theorem fs_tryAs {x n : Str} {cT cN : Addr} {i : Nat} {body suite : List Stmt} {b₀ : Stmt} {np pos pos' : Pos} {rb : RS} {rs : Addr → RS} (tk : Takes X W) (hN : X.N.Nodup) (g : X.mg x = some (.ref cT)) (hm : PySem.W.exmOne X.K (.ref cN) (.ref cT) = some true)
    (hB : ∀ (W' : WX) (pn : List (Addr × Obj)) (xe : Value → Shared → Prop), Takes (X.tr pn xe) W' → PassesOwn (model X.prog X.w) X.A X.env xe → FSs (X.tr pn xe) W' M body rb)
    (hS : ∀ (a : Addr) (oe : Obj) (pn : List (Addr × Obj)), Zc (.ref cN) none oe → (∃ vs, oe.data = .fields vs) → FSs (X.suite a ((a, oe) :: pn)) W0 M (b₀ :: suite) (rs a))
    (hi : X.N[i]? = some n := by rfl) (hs : X.stack = X.env :: X.outer := by rfl) (hf : X.env.frame = some X.env.locals := by rfl) (hln : X.env.kindOf n = some .local := by rfl) (hM : M.contains i = false := by rfl) (hg : Gl X x := by rfl) (hdb : (x == ("__debug__" : Str)) = false := by decide) :
    FS X W M (.Try body [.ExceptHandler (some (.Name x np)) (some n) (b₀ :: suite) pos'] [] [] pos) (rTryAs i cN rb rs) := by
  let tb : WX → TS := fun W' Z σ H => ∃ w ρ E F, w.H = H ∧ StE X.K w σ ρ ∧ rb ρ E F ∧ SF X.K W' M w σ ρ E F Z
  let ts : Addr → Value → Option Addr → TS := fun a cls d Z σ H => cls = .ref cN ∧ d = none ∧ ∃ w ρ E F, w.H = H ∧ StE X.K w σ ρ ∧ rs a ρ E F ∧ SF X.K W0 M w σ ρ E F Z
  refine ⟨_, ps_try_as (tb := tb) (ts := ts) hs hf hN hi hln (c := .ref cT) ⟨hg, hdb, .inl g⟩ tk (fun W' pn xe t po => ?_) (fun a oe cls d pn hz hv => ?_), fun w σ ρ E F Z st h hfr => ?_⟩
  · obtain ⟨t', p, k⟩ := (hB W' pn xe t po).ex
    exact ⟨fun pins s σ H Z I ⟨w, ρ, E, F, e, st, h, hf⟩ => p.run pins s σ H Z I (by subst e; exact k w σ ρ E F Z st h hf)⟩
  · refine ⟨fun pins s σ H Z I ⟨e1, e2, w, ρ, E, F, e, st, h, hf⟩ => ?_⟩
    subst e1 e2
    obtain ⟨t', p, k⟩ := (hS a oe pn hz hv).ex
    exact p.run pins s σ H Z I (by subst e; exact k w σ ρ E F Z st h hf)
  · refine ⟨w, ρ, _, F, rfl, st, h, ⟨hfr.nx, hfr.rt, hfr.bk, hfr.ct, fun c fs ρ' w' σ' x hx en xr => ?_⟩⟩
    obtain ⟨rfl, rfl, hx⟩ := hx
    cases x with
    | some x => exact xr.elim
    | none =>
      refine ⟨true, hm, fun _ a ha => ⟨rfl, rfl, w', ρ'.set i (some (.obj a)), E0D, _, rfl, ?_, nf_of (hx a), ?_⟩, fun z => nomatch z⟩
      · exact (end_set (M := M) en.st hM fun e he => by cases he; exact ⟨_, rfl, by simp only [Rep]⟩).st
      · have e1 := en.trans (end_set (M := M) (v := some (.ref a)) (d := some (.obj a)) en.st hM fun e he => by cases he; exact ⟨_, rfl, by simp only [Rep]⟩)
        have back : ∀ {ρ2 w2 σ2}, EndS X.K M w' (σ'.set i (some (.ref a))) (ρ'.set i (some (.obj a))) w2 σ2 ρ2 → EndS X.K M w σ ρ w2 (σ2.set i none) (ρ2.set i none) := fun {ρ2 w2 σ2} e => (e1.trans e).trans (end_set e.st hM fun e he => by cases he)
        refine ⟨fun ρ2 w2 σ2 q e => hfr.nx _ _ _ (nf_of q) (back e), fun d ρ2 w2 σ2 v q e r => ?_, fun ρ2 w2 σ2 q e => hfr.bk _ _ _ q (back e), fun ρ2 w2 σ2 q e => hfr.ct _ _ _ q (back e), fun _ _ _ _ _ _ z => z.elim⟩
        have el := e1.len
        exact hfr.rt _ _ _ _ _ q (e1.trans e) (by rw [el] at r; exact r)
end
/-! ### isinstance of what was caught -/
def cvD : D → Value
  | .obj c => .ref c
  | .ty n => .type n
  | _ => .none
/-- isinstance(e, c): b -/
def dIsE (a : Addr) (c : D) (b : Bool) : DC := fun ds Q => ds = [.obj a, c] ∧ Q (.bl b)
/-- isinstance(e, (C1, C2, ..)): b -/
def dIsET (a : Addr) (cs : List Addr) (b : Bool) : DC := fun ds Q => ds = [.obj a, .tup false (cs.map D.obj)] ∧ Q (.bl b)
section
variable {X : Cx} {a cN : Addr} {oe : Obj} {pn : List (Addr × Obj)}
theorem call_isET (C : ExcC X.K cN) (hz : Zc (.ref cN) none oe) (hf : ∃ vs, oe.data = .fields vs) : CallR (X.suite a ((a, oe) :: pn)) (.builtin "isinstance") (fun xs H Q => ∃ (tp : Addr) (cs : List Addr) (b : Bool), xs = [.ref a, .ref tp] ∧ H tp = some (.tup (cs.map V.ref)) ∧ PySem.W.kitAny X.K (.ref cN) (cs.map Value.ref) = some b ∧ Q (.bl b) H) := by
  intro pins s σ H xs us Q I r h
  obtain ⟨tp, cs, b, rfl, hT, e, q⟩ := h
  obtain ⟨u1, u2, rfl, r1, r2⟩ := vals2 r
  cases (show u2 = Value.ref tp from r2)
  cases (show u1 = Value.ref a from r1)
  obtain ⟨hget, _⟩ := I.pin (a, oe) (List.mem_append.mpr (.inl List.mem_cons_self))
  obtain ⟨vs, hv⟩ := hf
  have J : PySem.W.InstAt s.heap a oe cN none := by
    obtain ⟨oc, od, oda, osl⟩ := oe
    obtain ⟨h1, h2⟩ := hz
    dsimp only at h1 h2 hv
    subst h1 h2 hv
    exact ⟨hget, rfl, rfl, trivial⟩
  obtain ⟨_, its, rv, o, h1, h2, n, h3⟩ := (show ObjOk X.prog X.w H s.heap tp (.tup (cs.map V.ref)) from I.hok tp _ hT)
  have e3 : its = cs.map Value.ref := refs_at rv
  subst e3
  obtain ⟨oc, od, dt, sl⟩ := o
  simp only at h2 h3
  subst h2 h3
  exact PySem.W.kia_tup (PySem.W.handS_kitx_exc C.hg C.hk C.hs C.hd C.ha C.hn C.ht C.hm) I.kIn J h1 e (fun z => nomatch z) fun tk => ⟨.bl b, H, I.kept (t' := tk) fun _ _ z => z, rfl, q⟩
theorem repL_objs {K : PySem.W.Frag} {w : Wd} : ∀ {cs : List Addr} {ℓ : Loc} {j : Nat} {vs : List V}, RepL K w (cs.map D.obj) ℓ j vs → vs = cs.map V.ref
  | [], _, _, _, h => h
  | c :: cs, _, _, _, h => by
    obtain ⟨v, r, rfl, h1, h2⟩ := h
    have h1 : v = .ref c := h1
    rw [h1, repL_objs h2]; rfl
theorem fc_isE {c : D} {b : Bool} (C : ExcC X.K cN) (hz : Zc (.ref cN) none oe) (hf : ∃ vs, oe.data = .fields vs) (e : PySem.W.kitOne X.K (.ref cN) (cvD c) = some b) (hc : (∃ d, c = .obj d) ∨ ∃ n, c = .ty n) : FC (X.suite a ((a, oe) :: pn)) (.builtin "isinstance") (dIsE a c b) := by
  refine ⟨_, call_isE C hz hf, fun τ w σ ρ vs ds Q Qv hn st rs hd hq => ?_⟩
  obtain ⟨rfl, q⟩ := hd
  obtain ⟨v, u, ℓ, ℓ', rfl, r1, r2⟩ := reps2 rs
  cases (show v = V.ref a from r1)
  rcases hc with ⟨d, rfl⟩ | ⟨n, rfl⟩
  · cases (show u = V.ref d from r2)
    exact ⟨.ref d, .ref d, b, rfl, fun u r => r, e, hq _ w _ q (.refl st) rfl⟩
  · cases (show u = V.ty n from r2)
    exact ⟨.ty n, .type n, b, rfl, fun u r => r, e, hq _ w _ q (.refl st) rfl⟩
theorem fc_isET {cs : List Addr} {b : Bool} (C : ExcC X.K cN) (hz : Zc (.ref cN) none oe) (hf : ∃ vs, oe.data = .fields vs) (e : PySem.W.kitAny X.K (.ref cN) (cs.map Value.ref) = some b) : FC (X.suite a ((a, oe) :: pn)) (.builtin "isinstance") (dIsET a cs b) := by
  refine ⟨_, call_isET C hz hf, fun τ w σ ρ vs ds Q Qv hn st rs hd hq => ?_⟩
  obtain ⟨rfl, q⟩ := hd
  obtain ⟨v, u, ℓ, ℓ', rfl, r1, r2⟩ := reps2 rs
  cases (show v = V.ref a from r1)
  obtain ⟨tp, us, rfl, ht, rl⟩ := tup_at st.wf r2
  rw [repL_objs rl] at ht
  exact ⟨tp, cs, b, rfl, ht, e, hq _ w _ q (.refl st) rfl⟩
end
/-- a class as a value -/
theorem fe_cls {X : Cx} {W : WX} {x : Str} {p : Pos} {C : Addr} (hm : X.mg x = some (.ref C)) (hg : Gl X x := by rfl) (hdb : (x == ("__debug__" : Str)) = false := by decide) : FE X W (.Name x p) (rC (.obj C)) := fe_fnv hm hg hdb
end FL
/-! FL56: texts: str(number), sep.join(texts). -/
namespace FL
open PySem PySem.Spec PyProof.Rows L2
def dStrI : DC := fun ds Q => match ds with
  | [.int i] => i.natAbs.log2 < 1920 ∧ Q (.str (toString i))
  | _ => False
/-- o.join(e) -/
def rJoin (ro re : RE) : RE := fun ρ E Q => ro ρ E fun d ρ1 => (∃ a, d = .str a) ∧ re ρ1 E fun dk ρ2 => ∃ (a : Str) (ys : List Str), d = .str a ∧ (lstOf dk = some (ys.map D.str) ∨ tupOf dk = some (ys.map D.str)) ∧
  (ys.map (·.length)).sum + ys.length * a.length ≤ 16777216 ∧ Q (.str (Txt.join a ys)) ρ2
section
variable {K : PySem.W.Frag} {w : Wd}
theorem repl_strs : ∀ {ns : List Str} {ℓ : Loc} {j : Nat} {vs : List V}, RepL K w (ns.map D.str) ℓ j vs → vs = ns.map V.str
  | [], _, _, _, h => by simpa [RepL] using h
  | n :: ns, _, _, _, h => by
    simp only [List.map_cons, RepL, Rep] at h
    obtain ⟨v, r, rfl, rfl, h2⟩ := h
    rw [repl_strs h2]; rfl
end
section
variable {X : Cx} {W : WX} {pos apos : Pos}
theorem fc_strI : FC X (.type "str") dStrI := by
  refine ⟨_, call_str_int, fun τ w σ ρ vs ds Q Qv hn st rs hd hq => ?_⟩
  unfold dStrI at hd
  split at hd
  · obtain ⟨v, ℓ, rfl, r⟩ := reps1 rs
    simp only [Rep] at r
    subst r
    exact ⟨_, rfl, hd.1, hq _ w _ hd.2 (.refl st) rfl⟩
  · exact hd.elim
theorem fe_join {o e : Expr} {ro re : RE} (ho : FE X W o ro) (he : FE X W e re) (hs : starEach [e] X.env = [(false, eval e X.env)] := by rfl) (hbase : attributeBase o "join" X.env (eval o X.env) = eval o X.env := by rfl)
    (hline : (apos.endLine == pos.line) = true := by rfl) : FE X W (.Call (.Attribute o "join" apos) [e] [] pos) (rJoin ro re) := by
  obtain ⟨t, p, l⟩ := ho.ex
  obtain ⟨t', p', l'⟩ := he.ex
  refine ⟨_, pe_join p p' hs hbase hline, fun τ w σ ρ E Q Qv hn st h hq hx => ?_⟩
  refine l τ w σ ρ E _ _ hn st h (fun d ρ1 w1 v h1 e1 r1 => ?_) hx
  obtain ⟨⟨a, rfl⟩, h1⟩ := h1
  simp only [Rep] at r1
  subst r1
  refine ⟨⟨a, rfl⟩, ?_⟩
  refine l' (τ + 1) w1 σ ρ1 E _ _ (by rw [e1.len]; omega) e1.st h1 (fun dk ρ2 w2 vk h2 e2 r2 => ?_) (hx.then e1 (by omega))
  obtain ⟨a', ys, ea, hk, hb, q⟩ := h2
  cases ea
  have e12 := e1.trans e2 (by omega)
  rcases hk with hk | hk
  · obtain ⟨p, vs, rfl, hq2, _, _, hr⟩ := lst_seq e2.st.wf hk r2
    obtain rfl := repl_strs (hr [] 0)
    exact ⟨a, p, ys, rfl, rfl, .inl hq2, hb, hq _ ρ2 w2 _ q e12 rfl⟩
  · obtain ⟨p, vs, rfl, hq2, _, _, hr⟩ := tup_seq e2.st.wf hk r2
    obtain rfl := repl_strs (hr [] 0)
    exact ⟨a, p, ys, rfl, rfl, .inr hq2, hb, hq _ ρ2 w2 _ q e12 rfl⟩
end
end FL
namespace Cm
open PySem PySem.Spec PyProof.Rows L2 FL
/-! ### sum_text -/
def rb_sum_text : RS := (rSeq (rSetF 1 (rComp (rEn (rAC (oV (rVar 0)) rA0)) (gTp 2 (gCs (gNm 2) (gCs (gNm 3) gNl))) (rTst (rBin dNe (oV (rVar 3)) (oV (rC (.int 0))))) (rBin dAdd (oV (rBin dAdd (oV (rCB dStrI (rAC (oV (rVar 3)) rA0))) (oV (rC (.str ":"))))) (oV (rCB dStrI (rAC (oV (rVar 2)) rA0)))) [3, 2]))
  (rRet (rIfE (rTst (rBin dGt (oV (rCB dLen (rAC (oV (rVar 1)) rA0))) (oV (rC (.int 0))))) (rJoin (rC (.str " ")) (rVar 1)) (rC (.str "-")))))
abbrev RD_sum_text (r : FSpec) : Prop := ∀ ds ED QD, ds.length = 1 → r ds ED QD → rb_sum_text (startD ["part", "words", "place", "number"] ds) (fun c fs ρ => ED c fs (ρ.take 1)) (finD 1 QD)
/-! ### product_text -/
def rb_product_text (r_sum_text : FSpec) : RS := (rSeq (rAsg (gTp 3 (gCs (gNm 1) (gCs (gNm 2) (gCs (gNm 3) gNl)))) (rVar 0))
  (rRet (rBin dAdd (oV (rBin dAdd (oV (rBin dAdd (oV (rBin dAdd (oV (rCall [] r_sum_text (rAC (oV (rVar 1)) rA0))) (oV (rC (.str " * "))))) (oV (rCall [] r_sum_text (rAC (oV (rVar 2)) rA0))))) (oV (rC (.str " > "))))) (oV (rCall [] r_sum_text (rAC (oV (rVar 3)) rA0))))))
abbrev RD_product_text (r : FSpec) (r_sum_text : FSpec) : Prop := ∀ ds ED QD, ds.length = 1 → r ds ED QD → (rb_product_text r_sum_text) (startD ["product", "l", "r", "o"] ds) (fun c fs ρ => ED c fs (ρ.take 1)) (finD 1 QD)
/-! ### scheme_text -/
def rb_scheme_text (r_product_text : FSpec) : RS := (rSeq (rSetF 1 (rLst (rAC (oV (rJoin (rC (.str " ")) (rBin dAdd (oV (rLst (rAC (oV (rC (.str "scheme"))) rA0))) (oV (rComp (rItA (rSl (oV (rVar 0)) rP0 (rP1 (rC (.int 3))))) (gNm 3) rYes (rCB dStrI (rAC (oV (rVar 3)) rA0)) [3]))))) rA0)))
  (rRet (rJoin (rC (.str "\n")) (rBin dAdd (oV (rVar 1)) (oV (rComp (rItA (rBin dIx (oV (rVar 0)) (oV (rC (.int 3))))) (gNm 2) rYes (rCall [] r_product_text (rAC (oV (rVar 2)) rA0)) [2]))))))
abbrev RD_scheme_text (r : FSpec) (r_product_text : FSpec) : Prop := ∀ ds ED QD, ds.length = 1 → r ds ED QD → (rb_scheme_text r_product_text) (startD ["scheme", "rows", "product", "length"] ds) (fun c fs ρ => ED c fs (ρ.take 1)) (finD 1 QD)
/-! ### _law_lengths -/
def rb_law_lengths (r_law_take : FSpec) : RS := (rRet (rComp (rRg1 (rAC (oV (rC (.int 3))) rA0)) (gNm 2) rYes (rIc (fun i => 1 + i) (oV (rCall [0] r_law_take (rAC (oN 0) (rAC (oV (rVar 1)) rA0))))) [2]))
abbrev RD_law_lengths (r : FSpec) (r_law_take : FSpec) : Prop := ∀ ds ED QD, ds.length = 2 → r ds ED QD → (rb_law_lengths r_law_take) (startD ["_law_box_here", "_law_most", "_law_side"] ds) (fun c fs ρ => ED c fs (ρ.take 2)) (finD 2 QD)
/-! ### _law_wide -/
def rb_law_wide (r_law_scheme : FSpec) (r_law_take : FSpec) (r_law_lengths : FSpec) : RS := (rSeq (rSetF 1 (rBin dIx (oV (rLst (rAC (oV (rC (.int 4))) (rAC (oV (rC (.int 4))) (rAC (oV (rC (.int 4))) (rAC (oV (rC (.int 12))) (rAC (oV (rC (.int 12))) (rAC (oV (rC (.int 4))) (rAC (oV (rC (.int 4))) (rAC (oV (rC (.int 81))) rA0)))))))))) (oV (rCall [0] r_law_take (rAC (oN 0) (rAC (oV (rC (.int 8))) rA0))))))
  (rSeq (rSetF 2 (rBin dIx (oV (rLst (rAC (oV (rC (.int 3))) (rAC (oV (rC (.int 5))) (rAC (oV (rC (.int 1))) (rAC (oV (rC (.int 12))) (rAC (oV (rC (.int 4))) (rAC (oV (rC (.int 2))) (rAC (oV (rC (.int 0))) (rAC (oV (rC (.int 60))) rA0)))))))))) (oV (rCall [0] r_law_take (rAC (oN 0) (rAC (oV (rC (.int 8))) rA0))))))
  (rSeq (rCut (rIf (rTst (rBin dEq (oV (rVar 1)) (oV (rC (.int 81))))) (rSetF 2 (rCB dMin2 (rAC (oV (rVar 2)) (rAC (oV (rC (.int 5))) rA0)))) rNx))
  (rRet (rCall [0] r_law_scheme (rAC (oN 0) (rAC (oV (rCall [0] r_law_lengths (rAC (oN 0) (rAC (oV (rVar 1)) rA0)))) (rAC (oV (rVar 2)) rA0))))))))
abbrev RD_law_wide (r : FSpec) (r_law_scheme : FSpec) (r_law_take : FSpec) (r_law_lengths : FSpec) : Prop := ∀ ds ED QD, ds.length = 1 → r ds ED QD → (rb_law_wide r_law_scheme r_law_take r_law_lengths) (startD ["_law_box_here", "_law_most", "_law_count"] ds) (fun c fs ρ => ED c fs (ρ.take 1)) (finD 1 QD)
/-! ### _law_sum -/
def rb_law_sum : RS := (rSeq (rSet 1 (rLst rA0))
  (rSeq (rFor (rEn (rAC (oV (rVar 0)) rA0)) (gTp 2 (gCs (gNm 2) (gCs (gNm 3) gNl))) (rIf (rTst (rBin dNe (oV (rVar 3)) (oV (rC (.int 0))))) (rDrop (rApp 1 (rBin dAdd (oV (rBin dAdd (oV (rCB dStrI (rAC (oV (rVar 3)) rA0))) (oV (rC (.str ":"))))) (oV (rCB dStrI (rAC (oV (rVar 2)) rA0)))))) rNx))
  (rRet (rJoin (rC (.str " ")) (rOrT (rVar 1) (rLst (rAC (oV (rC (.str "-"))) rA0)))))))
abbrev RD_law_sum (r : FSpec) : Prop := ∀ ds ED QD, ds.length = 1 → r ds ED QD → rb_law_sum (startD ["_law_part_here", "_law_words", "_law_place", "_law_number_here"] ds) (fun c fs ρ => ED c fs (ρ.take 1)) (finD 1 QD)
/-! ### _law_text -/
def rb_law_text (r_law_sum : FSpec) : RS := (rSeq (rSet 1 (rLst (rAC (oV (rBin dAdd (oV (rC (.str "scheme "))) (oV (rJoin (rC (.str " ")) (rComp (rItA (rSl (oV (rVar 0)) rP0 (rP1 (rC (.int 3))))) (gNm 5) rYes (rCB dStrI (rAC (oV (rVar 5)) rA0)) [5]))))) rA0)))
  (rSeq (rFor (rItA (rBin dIx (oV (rVar 0)) (oV (rC (.int 3))))) (gTp 3 (gCs (gNm 2) (gCs (gNm 3) (gCs (gNm 4) gNl)))) (rDrop (rApp 1 (rBin dAdd (oV (rBin dAdd (oV (rBin dAdd (oV (rBin dAdd (oV (rCall [] r_law_sum (rAC (oV (rVar 2)) rA0))) (oV (rC (.str " * "))))) (oV (rCall [] r_law_sum (rAC (oV (rVar 3)) rA0))))) (oV (rC (.str " > "))))) (oV (rCall [] r_law_sum (rAC (oV (rVar 4)) rA0)))))))
  (rRet (rJoin (rC (.str "\n")) (rVar 1)))))
abbrev RD_law_text (r : FSpec) (r_law_sum : FSpec) : Prop := ∀ ds ED QD, ds.length = 1 → r ds ED QD → (rb_law_text r_law_sum) (startD ["_law_scheme_here", "_law_rows", "_law_l", "_law_r", "_law_o", "_law_length"] ds) (fun c fs ρ => ED c fs (ρ.take 1)) (finD 1 QD)
end Cm
namespace Cm
open PySem PySem.Spec PyProof.Rows L2 FL
/-! ### sum_over -/
def rb_sum_over : RS := (rRet (rCB dSum (rAC (oV (rComp (rZp (rAC (oV (rVar 0)) (rAC (oV (rVar 1)) rA0))) (gTp 2 (gCs (gNm 2) (gCs (gNm 3) gNl))) rYes (rBin dMulX (oV (rVar 2)) (oV (rVar 3))) [3, 2])) rA0)))
abbrev RD_sum_over (r : FSpec) : Prop := ∀ ds ED QD, ds.length = 2 → r ds ED QD → rb_sum_over (startD ["part", "row", "number", "own"] ds) (fun c fs ρ => ED c fs (ρ.take 2)) (finD 2 QD)
/-! ### applied -/
def rb_applied (r_sum_over : FSpec) : RS := (rSeq (rSet 3 (rBin dMulX (oV (rLst (rAC (oV (rC (.int 0))) rA0))) (oV (rBin dIx (oV (rVar 0)) (oV (rC (.int 2)))))))
  (rSeq (rFor (rItA (rBin dIx (oV (rVar 0)) (oV (rC (.int 3))))) (gTp 3 (gCs (gNm 4) (gCs (gNm 5) (gCs (gNm 6) gNl)))) (rSeq (rSetF 7 (rBin dMulX (oV (rCall [] r_sum_over (rAC (oV (rVar 4)) (rAC (oV (rVar 1)) rA0)))) (oV (rCall [] r_sum_over (rAC (oV (rVar 5)) (rAC (oV (rVar 2)) rA0))))))
  (rSet 3 (rComp (rZp (rAC (oV (rIce 3)) (rAC (oV (rVar 6)) rA0))) (gTp 2 (gCs (gNm 8) (gCs (gNm 9) gNl))) rYes (rBin dAdd (oV (rVar 8)) (oV (rBin dMulX (oV (rVar 9)) (oV (rVar 7))))) [9, 8]))))
  (rRet (rVar 3))))
abbrev RD_applied (r : FSpec) (r_sum_over : FSpec) : Prop := ∀ ds ED QD, ds.length = 3 → r ds ED QD → (rb_applied r_sum_over) (startD ["scheme", "one", "other", "row", "l", "r", "o", "value", "number", "c"] ds) (fun c fs ρ => ED c fs (ρ.take 3)) (finD 3 QD)
end Cm
set_option maxHeartbeats 0
/-! schemes applied -/
namespace Cm
open PySem PySem.Spec PyProof.Rows L2 FL
/-- fewer than n bits -/
def Bt (n : Nat) (x : Int) : Prop := x.natAbs < 2 ^ n
theorem Bt.mul {a b : Nat} {x y : Int} (h : Bt a x) (k : Bt b y) : Bt (a + b) (x * y) := wide_lt h k
theorem Bt.mono {a b : Nat} {x : Int} (h : Bt a x) (k : a ≤ b) : Bt b x := Nat.lt_of_lt_of_le h (Nat.pow_le_pow_right (by decide) k)
theorem Bt.ok {a b : Nat} {x y : Int} (h : Bt a x) (k : Bt b y) (ha : 0 < a := by decide) (hb : 0 < b := by decide) (hab : a + b ≤ 1000000 := by decide) : MulOk x y := .inr (wide_mul h k ha hb hab)
theorem Bt.add {a : Nat} {x y : Int} (h : Bt a x) (k : Bt a y) : Bt (a + 1) (x + y) := by
  unfold Bt at *
  rw [Nat.pow_succ]
  omega
theorem Bt.zero {a : Nat} : Bt a 0 := Nat.two_pow_pos a
theorem Bt.neg {a : Nat} {x : Int} (h : Bt a x) : Bt a (-x) := by unfold Bt at *; omega
theorem Bt.sub {a : Nat} {x y : Int} (h : Bt a x) (k : Bt a y) : Bt (a + 1) (x - y) := h.add k.neg
theorem Bt.sum {a : Nat} : ∀ {l : List Int}, (∀ x ∈ l, Bt a x) → l.sum.natAbs ≤ l.length * 2 ^ a
  | [], _ => by simp
  | x :: l, h => by
    have h1 : x.natAbs < 2 ^ a := h x List.mem_cons_self
    have h2 := Bt.sum fun y hy => h y (List.mem_cons_of_mem _ hy)
    rw [List.sum_cons, List.length_cons, Nat.succ_mul]
    omega
theorem Bt.sumB {a b : Nat} {l : List Int} (h : ∀ x ∈ l, Bt a x) (hl : l.length < 2 ^ b) : Bt (a + b) l.sum := by
  have h1 := Bt.sum h
  have h2 : l.length * 2 ^ a < 2 ^ b * 2 ^ a := Nat.mul_lt_mul_of_pos_right hl (Nat.two_pow_pos a)
  unfold Bt
  rw [Nat.add_comm, Nat.pow_add]
  omega
def Bts (n : Nat) (xs : List Int) : Prop := ∀ x ∈ xs, Bt n x
theorem Bts.mono {a b : Nat} {xs : List Int} (h : Bts a xs) (k : a ≤ b) : Bts b xs := fun x hx => (h x hx).mono k
theorem bt_in {n : Nat} {B x : Int} (h0 : -B ≤ x) (h1 : x ≤ B) (hB : B.natAbs < 2 ^ n := by decide) : Bt n x := by
  unfold Bt
  omega
theorem InB.bts {xs : List Int} (h : InB xs) {n : Nat} (hn : 10 ≤ n := by decide) : Bts n xs := fun x hx => (bt_in (n := 10) (B := 1000) (h x hx).1 (h x hx).2).mono hn
theorem InT.bts {xs : List Int} (h : InT xs) {n : Nat} (hn : 40 ≤ n := by decide) : Bts n xs := fun x hx => (bt_in (n := 40) (B := 10 ^ 12) (h x hx).1 (h x hx).2).mono hn
theorem getD_mem {xs : List Int} {i : Nat} (h : i < xs.length) : xs.getD i 0 ∈ xs := by
  rw [List.getD_eq_getElem?_getD, List.getElem?_eq_getElem h]; exact List.getElem_mem h
theorem Bts.getD {n : Nat} {xs : List Int} (h : Bts n xs) (i : Nat) : Bt n (xs.getD i 0) := by
  by_cases hi : i < xs.length
  · exact h _ (getD_mem hi)
  · rw [List.getD_eq_getElem?_getD, List.getElem?_eq_none (by omega)]; exact Bt.zero
/-- two rows multiplied -/
def dot (xs ys : List Int) : Int := ((xs.zip ys).map fun p => p.1 * p.2).sum
theorem dot_bt {a b c : Nat} {xs ys : List Int} (hx : Bts a xs) (hy : Bts b ys) (hl : xs.length < 2 ^ c) : Bt (a + b + c) (dot xs ys) := by
  refine Bt.sumB (fun z hz => ?_) (by rw [List.length_map, List.length_zip]; omega)
  obtain ⟨p, hp, rfl⟩ := List.mem_map.mp hz
  exact (hx _ (List.of_mem_zip hp).1).mul (hy _ (List.of_mem_zip hp).2)
theorem getD_int {xs : List Int} {i : Nat} {x : Int} (h : xs[i]? = some x) : xs.getD i 0 = x := by rw [List.getD_eq_getElem?_getD, h]; rfl
theorem dot_range (n : Nat) : ∀ (xs ys : List Int), xs.length = n → ys.length = n → dot xs ys = ((List.range n).map fun i => xs.getD i 0 * ys.getD i 0).sum := by
  intro xs ys hx hy
  unfold dot
  congr 1
  apply List.ext_getElem?
  intro i
  rw [List.getElem?_map, List.getElem?_map]
  by_cases h : i < n
  · rw [List.getElem?_range h, List.getElem?_eq_getElem (by rw [List.length_zip]; omega), List.getElem_zip]
    show some _ = some (xs.getD i 0 * ys.getD i 0)
    rw [getD_int (List.getElem?_eq_getElem (by omega : i < xs.length)), getD_int (List.getElem?_eq_getElem (by omega : i < ys.length))]
  · rw [List.getElem?_eq_none (by rw [List.length_zip]; omega), List.getElem?_eq_none (by rw [List.length_range]; omega)]; rfl
def r_sum_over : FSpec := fun ds _ Q => ∃ (dx dy : D) (xs ys : List Int), ds = [dx, dy] ∧ isNumsD dx xs ∧ isNumsD dy ys ∧ Bts 10000 xs ∧ Bts 10000 ys ∧ ∀ os, Q (.int (dot xs ys)) os
theorem rd_sum_over : RD_sum_over r_sum_over := by
  rintro ds ED QD - ⟨dx, dy, xs, ys, rfl, hx, hy, bx, by', q⟩
  have key : ∀ p ∈ xs.zip ys, MulOk p.1 p.2 := fun p hp => (bx _ (List.of_mem_zip hp).1).ok (by' _ (List.of_mem_zip hp).2)
  rcases hx with rfl | rfl <;> rcases hy with rfl | rfl
  all_goals exact ⟨compR_allE (xs.zip ys) _ (fun p => .int (p.1 * p.2)) (zpD_map _ _ _ _) (fun p hp => ⟨rfl, fun _ => ⟨key p hp, rfl, rfl⟩, fun h => (nomatch h)⟩) (fun _ => rfl) ⟨_, (by rw [List.map_map]; rfl), q _⟩⟩
/-- a product of lengths n, m, k, its numbers of few bits -/
structure Pr.fit (p : Pr) (n m k : Nat) : Prop where
  ll : p.l.length = n
  lr : p.r.length = m
  lo : p.o.length = k
  bl : Bts 10000 p.l
  br : Bts 10000 p.r
  bo : Bts 10000 p.o
theorem Pr.ok.fit {p : Pr} {n m k : Int} (h : p.ok n m k) : p.fit n.toNat m.toNat k.toNat := ⟨h.ll, h.lr, h.lo, h.bl.bts, h.br.bts, h.bo.bts⟩
/-- what products tell at k -/
def telA (ps : List Pr) (xs ys : List Int) (k : Nat) : Int := (ps.map fun p => p.o.getD k 0 * (dot p.l xs * dot p.r ys)).sum
def tels (m : Nat) (ps : List Pr) (xs ys : List Int) : List Int := (List.range m).map (telA ps xs ys)
theorem tels_len (m : Nat) (ps : List Pr) (xs ys : List Int) : (tels m ps xs ys).length = m := by unfold tels; rw [List.length_map, List.length_range]
theorem telA_snoc (ps : List Pr) (p : Pr) (xs ys : List Int) (k : Nat) : telA (ps ++ [p]) xs ys k = telA ps xs ys k + p.o.getD k 0 * (dot p.l xs * dot p.r ys) := by
  unfold telA
  rw [List.map_append, List.sum_append]; simp
theorem sum_perm {l k : List Int} (h : l.Perm k) : l.sum = k.sum := by
  induction h with
  | nil => rfl
  | cons x _ ih => rw [List.sum_cons, List.sum_cons, ih]
  | swap x y l => simp only [List.sum_cons]; omega
  | trans _ _ a b => exact a.trans b
theorem telA_perm {ps qs : List Pr} (h : ps.Perm qs) (xs ys : List Int) (k : Nat) : telA ps xs ys k = telA qs xs ys k := sum_perm (h.map _)
theorem tels_perm {m : Nat} {ps qs : List Pr} (h : ps.Perm qs) (xs ys : List Int) : tels m ps xs ys = tels m qs xs ys := List.map_congr_left fun k _ => telA_perm h xs ys k
theorem tels_step (m : Nat) (ps : List Pr) (p : Pr) (xs ys : List Int) (hp : p.o.length = m) : ((tels m ps xs ys).zip p.o).map (fun q => q.1 + q.2 * (dot p.l xs * dot p.r ys)) = tels m (ps ++ [p]) xs ys := by
  apply List.ext_getElem?
  intro k
  unfold tels
  rw [List.getElem?_map, List.getElem?_map]
  by_cases h : k < m
  · rw [List.getElem?_eq_getElem (by rw [List.length_zip, List.length_map, List.length_range]; omega), List.getElem_zip, List.getElem_map, List.getElem_range, List.getElem?_range h]
    show some _ = some _
    rw [telA_snoc, getD_int (List.getElem?_eq_getElem (by omega : k < p.o.length))]
  · rw [List.getElem?_eq_none (by rw [List.length_zip, List.length_map, List.length_range]; omega), List.getElem?_eq_none (by rw [List.length_range]; omega)]; rfl
def r_applied : FSpec := fun ds _ Q => ∃ (n m : Int) (k : Nat) (ps : List Pr) (dx dy : D) (xs ys : List Int) (a b : Nat), ds = [schD n m k ps, dx, dy] ∧ isNumsD dx xs ∧ isNumsD dy ys ∧ (∀ p ∈ ps, p.fit a b k) ∧ k ≤ 1000000 ∧ a ≤ 1000000 ∧ b ≤ 1000000 ∧ Bts 10000 xs ∧ Bts 10000 ys ∧
  ∀ os, Q (.lst .flat ((tels k ps xs ys).map D.int)) os
theorem rd_applied : RD_applied r_applied r_sum_over := by
  rintro ds ED QD - ⟨n, m, k, ps, dx, dy, xs, ys, a, b, rfl, hx, hy, hps, hk, ha, hb, bx, by', q⟩
  have h0 : (List.replicate k [D.int 0]).flatten = (tels k [] xs ys).map D.int := by
    rw [rep_ints]
    congr 1
    unfold tels
    apply List.ext_getElem?
    intro j
    rw [List.getElem?_replicate, List.getElem?_map]
    by_cases hj : j < k
    · rw [if_pos hj, List.getElem?_range hj]; rfl
    · rw [if_neg hj, List.getElem?_eq_none (by rw [List.length_range]; omega)]; rfl
  have et : ∀ (i : Nat) (p : Pr), ps[i]? = some p → ps.take (i + 1) = ps.take i ++ [p] := fun i p e => by rw [List.take_succ, e]; rfl
  rcases hx with rfl | rfl <;> rcases hy with rfl | rfl
  all_goals
    refine ⟨by omega, by omega, by rw [sizeLine_eq]; simp; omega, ?_⟩
    refine ⟨forR_on [3] [4, 5, 6, 7, 8, 9] (fun i s => s = [some (.lst .flat ((tels k (ps.take i) xs ys).map D.int))]) _ _ (by rw [List.take_zero, ← h0]; rfl) ?_ ?_⟩
    · rintro i x s j hx' hj rfl
      obtain ⟨e4, e5, e6, e7, e8, e9, rfl⟩ := len6 hj
      rw [List.getElem?_map] at hx'
      obtain ⟨p, hp, rfl⟩ := Option.map_eq_some_iff.mp hx'
      have f := hps p (List.mem_of_getElem? hp)
      have b1 := dot_bt (c := 20) f.bl bx (by rw [f.ll]; omega)
      have b2 := dot_bt (c := 20) f.br by' (by rw [f.lr]; omega)
      refine ⟨rfl, _, _, p.l, xs, rfl, .inl rfl, (by first | exact .inl rfl | exact .inr rfl), f.bl, bx, fun _ => ?_⟩
      refine ⟨_, _, p.r, ys, rfl, .inl rfl, (by first | exact .inl rfl | exact .inr rfl), f.br, by', fun _ => ⟨b1.ok b2, ?_⟩⟩
      refine ⟨compR_allE ((tels k (ps.take i) xs ys).zip p.o) _ (fun q => .int (q.1 + q.2 * (dot p.l xs * dot p.r ys))) (zpD_map _ _ _ _) (fun q hq => ⟨rfl, fun _ => ⟨(f.bo _ (List.of_mem_zip hq).2).ok (b1.mul b2), rfl, rfl⟩, fun h => (nomatch h)⟩) (fun _ => rfl) ?_⟩
      refine ⟨rfl, ?_⟩
      rw [et i p hp, ← tels_step k _ p xs ys f.lo, List.map_map]
      rfl
    · rintro s j hj rfl
      obtain ⟨e4, e5, e6, e7, e8, e9, rfl⟩ := len6 hj
      rw [show (ps.map prD).length = ps.length by rw [List.length_map], List.take_length]
      exact q _
end Cm
set_option maxHeartbeats 0
/-! sums over lists -/
namespace Cm
open PySem PySem.Spec PyProof.Rows L2 FL
def Sg {α : Type} (l : List α) (f : α → Int) : Int := (l.map f).sum
section
variable {α β : Type}
theorem Sg_nil (f : α → Int) : Sg [] f = 0 := rfl
theorem Sg_cons (a : α) (l : List α) (f : α → Int) : Sg (a :: l) f = f a + Sg l f := by unfold Sg; rw [List.map_cons, List.sum_cons]
theorem Sg_append (l k : List α) (f : α → Int) : Sg (l ++ k) f = Sg l f + Sg k f := by unfold Sg; rw [List.map_append, List.sum_append]
theorem Sg_congr {l : List α} {f g : α → Int} (h : ∀ a ∈ l, f a = g a) : Sg l f = Sg l g := by unfold Sg; rw [List.map_congr_left h]
theorem Sg_zero (l : List α) : Sg l (fun _ => 0) = 0 := by
  induction l with
  | nil => rfl
  | cons a l ih => rw [Sg_cons, ih]; rfl
theorem Sg_zero' {l : List α} {f : α → Int} (h : ∀ a ∈ l, f a = 0) : Sg l f = 0 := (Sg_congr h).trans (Sg_zero l)
theorem Sg_add (l : List α) (f g : α → Int) : Sg l (fun a => f a + g a) = Sg l f + Sg l g := by
  induction l with
  | nil => rfl
  | cons a l ih => rw [Sg_cons, Sg_cons, Sg_cons, ih]; omega
theorem Sg_mul (c : Int) (l : List α) (f : α → Int) : c * Sg l f = Sg l fun a => c * f a := by
  induction l with
  | nil => exact Int.mul_zero c
  | cons a l ih => rw [Sg_cons, Sg_cons, Int.mul_add, ih]
theorem Sg_mulR (c : Int) (l : List α) (f : α → Int) : Sg l f * c = Sg l fun a => f a * c := by
  rw [Int.mul_comm, Sg_mul]
  exact Sg_congr fun a _ => Int.mul_comm _ _
theorem Sg_neg (l : List α) (f : α → Int) : -Sg l f = Sg l fun a => -f a := by
  induction l with
  | nil => rfl
  | cons a l ih => rw [Sg_cons, Sg_cons, ← ih]; omega
theorem Sg_comm (l : List α) (k : List β) (f : α → β → Int) : Sg l (fun a => Sg k (f a)) = Sg k fun b => Sg l fun a => f a b := by
  induction l with
  | nil => exact (Sg_zero k).symm
  | cons a l ih =>
    rw [Sg_cons, ih, ← Sg_add]
    exact Sg_congr fun b _ => (Sg_cons a l fun a => f a b).symm
theorem Sg_map (l : List α) (g : α → β) (f : β → Int) : Sg (l.map g) f = Sg l fun a => f (g a) := by unfold Sg; rw [List.map_map]; rfl
theorem Sg_flatMap (l : List α) (g : α → List β) (f : β → Int) : Sg (l.flatMap g) f = Sg l fun a => Sg (g a) f := by
  induction l with
  | nil => rfl
  | cons a l ih => rw [List.flatMap_cons, Sg_append, Sg_cons, ih]
theorem Sg_filter (l : List α) (p : α → Bool) (f : α → Int) : Sg (l.filter p) f = Sg l fun a => if p a then f a else 0 := by
  induction l with
  | nil => rfl
  | cons a l ih =>
    rw [List.filter_cons, Sg_cons]
    cases p a
    · rw [if_neg Bool.false_ne_true, if_neg Bool.false_ne_true, ih]; omega
    · rw [if_pos rfl, if_pos rfl, Sg_cons, ih]
theorem Sg_perm {l k : List α} (h : l.Perm k) (f : α → Int) : Sg l f = Sg k f := sum_perm (h.map f)
theorem Sg_prod (l : List α) (k : List β) (f : α → Int) (g : β → Int) : Sg l f * Sg k g = Sg l fun a => Sg k fun b => f a * g b := by
  rw [Sg_mulR]
  exact Sg_congr fun a _ => Sg_mul _ _ _
/-- one place of a list without doubles -/
theorem Sg_one [DecidableEq α] {l : List α} (h : l.Nodup) {b : α} (hb : b ∈ l) (f : α → Int) : Sg l (fun a => if a = b then f a else 0) = f b := by
  induction l with
  | nil => cases hb
  | cons a l ih =>
    rw [Sg_cons]
    have hn := List.nodup_cons.mp h
    by_cases e : a = b
    · subst e
      rw [if_pos rfl, Sg_zero' fun c hc => if_neg fun (z : c = a) => hn.1 (by rw [← z]; exact hc)]; omega
    · rw [if_neg e, ih hn.2 (by
        rcases List.mem_cons.mp hb with z | z
        · exact absurd z.symm e
        · exact z)]; omega
theorem Sg_none [DecidableEq α] {l : List α} {b : α} (hb : b ∉ l) (f : α → Int) : Sg l (fun a => if a = b then f a else 0) = 0 := Sg_zero' fun a ha => if_neg fun (z : a = b) => hb (by rw [← z]; exact ha)
end
theorem Sg_range_succ (n : Nat) (f : Nat → Int) : Sg (List.range (n + 1)) f = Sg (List.range n) f + f n := by rw [List.range_succ, Sg_append, Sg_cons, Sg_nil]; omega
theorem Sg_at {n b : Nat} (hb : b < n) (f : Nat → Int) : Sg (List.range n) (fun a => if a = b then f a else 0) = f b := Sg_one List.nodup_range (List.mem_range.mpr hb) f
theorem valAt_Sg (ts : List Tm) (xs ys : List Int) (k : Nat) : valAt ts xs ys k = Sg ts fun t => if t.k = (k : Int) then t.c * xs.getD t.i.toNat 0 * ys.getD t.j.toNat 0 else 0 := by
  have := Sg_filter ts (fun t => decide (t.k = (k : Int))) fun t => t.c * xs.getD t.i.toNat 0 * ys.getD t.j.toNat 0
  simp only [decide_eq_true_eq] at this
  exact this
theorem vals_snoc {N : Nat} (ts : List Tm) (t : Tm) (xs ys : List Int) {k : Nat} (hk : t.k = (k : Int)) (hN : k < N) : ((vals N ts xs ys).map D.int).set k (.int (valAt ts xs ys k + t.c * xs.getD t.i.toNat 0 * ys.getD t.j.toNat 0)) = (vals N (ts ++ [t]) xs ys).map D.int := by
  unfold vals
  apply List.ext_getElem?
  intro j
  by_cases e : k = j
  · subst e
    rw [List.getElem?_set_self (by simpa using hN), List.getElem?_map, List.getElem?_map, List.getElem?_range hN]
    show some (D.int _) = some (D.int (valAt (ts ++ [t]) xs ys k))
    rw [valAt_snoc, if_pos hk]
  · rw [List.getElem?_set_ne e, List.getElem?_map, List.getElem?_map, List.getElem?_map, List.getElem?_map]
    cases q : (List.range N)[j]? with
    | none => rfl
    | some j' =>
      have : j' = j := by
        obtain ⟨_, h⟩ := List.getElem?_eq_some_iff.mp q
        rw [List.getElem_range] at h; exact h.symm
      subst this
      show some (D.int (valAt ts xs ys j')) = some (D.int (valAt (ts ++ [t]) xs ys j'))
      rw [valAt_snoc, if_neg (by omega), Int.add_zero]
/-! ### rows as numbers -/
def poly (B : Int) (xs : List Int) : Int := xs.foldr (fun x t => t * B + x) 0
theorem poly_Sg (B : Int) : ∀ xs : List Int, poly B xs = Sg (List.range xs.length) fun k => xs.getD k 0 * B ^ k
  | [] => rfl
  | x :: xs => by
    show poly B xs * B + x = _
    rw [poly_Sg B xs, List.length_cons, List.range_succ_eq_map, Sg_cons, Sg_map, Sg_mulR, Int.add_comm]
    congr 1
    · show x = x * B ^ 0
      rw [Int.pow_zero, Int.mul_one]
    · refine Sg_congr fun k _ => ?_
      show xs.getD k 0 * B ^ k * B = xs.getD k 0 * B ^ (k + 1)
      rw [Int.pow_succ, Int.mul_assoc]
/-! ### the line -/
theorem line_Sg (n m : Nat) (xs ys : List Int) (k : Nat) : valAt (lineTs m n) xs ys k = Sg (List.range n) fun i => Sg (List.range m) fun j => if i + j = k then xs.getD i 0 * ys.getD j 0 else 0 := by
  rw [valAt_Sg]
  unfold lineTs
  rw [Sg_flatMap]
  refine Sg_congr fun i _ => ?_
  unfold lineT
  rw [Sg_map]
  refine Sg_congr fun j _ => ?_
  show (if (i : Int) + j = k then (1 : Int) * xs.getD i 0 * ys.getD j 0 else 0) = _
  by_cases h : i + j = k
  · rw [if_pos h, if_pos (by omega), Int.one_mul]
  · rw [if_neg h, if_neg (by omega)]
theorem line_comm (n m : Nat) (xs ys : List Int) (k : Nat) : valAt (lineTs m n) xs ys k = valAt (lineTs n m) ys xs k := by
  rw [line_Sg, line_Sg, Sg_comm]
  refine Sg_congr fun j _ => Sg_congr fun i _ => ?_
  rw [Nat.add_comm, Int.mul_comm]
theorem vals_getD {m : Nat} {ts : List Tm} {xs ys : List Int} {k : Nat} (h : k < m) : (vals m ts xs ys).getD k 0 = valAt ts xs ys k := by
  unfold vals
  rw [List.getD_eq_getElem?_getD, List.getElem?_map, List.getElem?_range h]; rfl
theorem line_poly (B : Int) (n m : Nat) (hn : 1 ≤ n) (hm : 1 ≤ m) (xs ys : List Int) (hx : xs.length = n) (hy : ys.length = m) : poly B (vals (n + m - 1) (lineTs m n) xs ys) = poly B xs * poly B ys := by
  rw [poly_Sg, poly_Sg, poly_Sg, Sg_prod, vals_len, hx, hy]
  have e1 : (Sg (List.range (n + m - 1)) fun k => (vals (n + m - 1) (lineTs m n) xs ys).getD k 0 * B ^ k) = Sg (List.range (n + m - 1)) fun k => Sg (List.range n) fun i => Sg (List.range m) fun j => if k = i + j then xs.getD i 0 * ys.getD j 0 * B ^ k else 0 := by
    refine Sg_congr fun k hk => ?_
    rw [vals_getD (List.mem_range.mp hk), line_Sg, Sg_mulR]
    refine Sg_congr fun i _ => ?_
    rw [Sg_mulR]
    refine Sg_congr fun j _ => ?_
    by_cases h : k = i + j
    · rw [if_pos h, if_pos h.symm]
    · rw [if_neg h, if_neg fun z => h z.symm, Int.zero_mul]
  rw [e1, Sg_comm]
  refine Sg_congr fun i hi => ?_
  rw [Sg_comm]
  refine Sg_congr fun j hj => ?_
  have hi := List.mem_range.mp hi
  have hj := List.mem_range.mp hj
  rw [Sg_at (by omega) fun k => xs.getD i 0 * ys.getD j 0 * B ^ k, Int.pow_add]
  simp only [Int.mul_assoc, Int.mul_left_comm]
theorem pair_nodup {α : Type} {g : Nat → Nat → α} (inj : ∀ i j i' j', g i j = g i' j' → i = i' ∧ j = j') (m : Nat) : ∀ k, ((List.range k).flatMap fun i => (List.range m).map (g i)).Nodup
  | 0 => by simp
  | k + 1 => by
    rw [List.range_succ, List.flatMap_append, List.nodup_append]
    refine ⟨pair_nodup inj m k, ?_, fun a ha b hb => ?_⟩
    · simp only [List.flatMap_cons, List.flatMap_nil, List.append_nil]
      rw [List.nodup_iff_pairwise_ne, List.pairwise_map]
      exact (List.nodup_range (n := m)).imp fun hab z => hab (inj _ _ _ _ z).2
    · obtain ⟨i, hi, ha⟩ := List.mem_flatMap.mp ha
      have hi := List.mem_range.mp hi
      obtain ⟨j, _, rfl⟩ := List.mem_map.mp ha
      have hb : b ∈ (List.range m).map (g k) := by simpa using hb
      obtain ⟨j', _, rfl⟩ := List.mem_map.mp hb
      intro z
      have := (inj _ _ _ _ z).1
      omega
theorem line_nodup (m n : Nat) : ((lineTs m n).map Tm.pl).Nodup := by
  have e : (lineTs m n).map Tm.pl = (List.range n).flatMap fun (i : Nat) => (List.range m).map fun (j : Nat) => [(i : Int) + j, (i : Int), (j : Int)] := by
    unfold lineTs
    rw [List.map_flatMap]
    congr 1
    funext i
    unfold lineT
    rw [List.map_map]; rfl
  rw [e]
  refine pair_nodup (fun i j i' j' z => ?_) m n
  simp only [List.cons.injEq, and_true] at z
  omega
theorem line_mem {m n : Nat} {t : Tm} (h : t ∈ lineTs m n) : ∃ i j : Nat, i < n ∧ j < m ∧ t = ⟨(i : Int) + j, i, j, 1⟩ := by
  obtain ⟨i, hi, h⟩ := List.mem_flatMap.mp h
  obtain ⟨j, hj, rfl⟩ := List.mem_map.mp h
  exact ⟨i, j, List.mem_range.mp hi, List.mem_range.mp hj, rfl⟩
theorem line_fits {m n : Nat} : ∀ t ∈ lineTs m n, t.fits (n + m - 1) n m := fun t h => by
  obtain ⟨i, j, hi, hj, rfl⟩ := line_mem h
  refine ⟨?_, ?_, ?_, ?_, ?_, ?_, ?_, ?_⟩
  · show (0 : Int) ≤ (i : Int) + j; omega
  · show (i : Int) + j < _; omega
  · show (0 : Int) ≤ i; omega
  · show (i : Int) < _; omega
  · show (0 : Int) ≤ j; omega
  · show (j : Int) < _; omega
  · show -(2 ^ 64) < (1 : Int); decide
  · show (1 : Int) < 2 ^ 64; decide
theorem line_canon (m n : Nat) : (canon (lineTs m n)).map rowD = (sortT (lineTs m n)).map tmD := canon_sortT (line_nodup m n) fun t h => by
  obtain ⟨i, j, _, _, rfl⟩ := line_mem h
  exact (by decide : (1 : Int) ≠ 0)
theorem sortOk_tms (ts : List Tm) : SortOk (ts.map tmD) := by
  have : ts.map tmD = (ts.map Tm.row).map rowD := by rw [List.map_map]; rfl
  rw [this]
  exact sortOk_rows 3 fun r hr => by obtain ⟨t, _, rfl⟩ := List.mem_map.mp hr; rfl
theorem tm_sm (t : Tm) : Sm (tmD t) 1 := .intt
theorem InT.wide {xs : List Int} (h : InT xs) : Wide64 xs := fun x hx => by have := h x hx; omega
theorem valAt_bt {a b c d : Nat} {ts : List Tm} {xs ys : List Int} (hc : ∀ t ∈ ts, Bt a t.c) (hx : Bts b xs) (hy : Bts c ys) (hl : ts.length < 2 ^ d) (k : Nat) : Bt (a + b + c + d) (valAt ts xs ys k) := by
  unfold valAt
  refine Bt.sumB (fun z hz => ?_) (by
    rw [List.length_map]
    exact Nat.lt_of_le_of_lt (List.length_filter_le _ _) hl)
  obtain ⟨t, ht, rfl⟩ := List.mem_map.mp hz
  exact ((hc t (List.mem_filter.mp ht).1).mul (hx.getD _)).mul (hy.getD _)
theorem vals_bt {a b c d m : Nat} {ts : List Tm} {xs ys : List Int} (hc : ∀ t ∈ ts, Bt a t.c) (hx : Bts b xs) (hy : Bts c ys) (hl : ts.length < 2 ^ d) : Bts (a + b + c + d) (vals m ts xs ys) := fun v hv => by
  obtain ⟨k, _, rfl⟩ := List.mem_map.mp hv
  exact valAt_bt hc hx hy hl k
end Cm
set_option maxHeartbeats 0
/-! tables -/
namespace Cm
open PySem PySem.Spec PyProof.Rows L2 FL
theorem flatMap_cons_perm {α β : Type} (f : α → β) (g : α → List β) : ∀ l : List α, (l.flatMap fun a => f a :: g a).Perm (l.map f ++ l.flatMap g)
  | [] => .refl _
  | a :: l => by
    rw [List.flatMap_cons, List.flatMap_cons, List.map_cons, List.cons_append, List.cons_append]
    refine .cons _ (((flatMap_cons_perm f g l).append_left _).trans ?_)
    rw [← List.append_assoc, ← List.append_assoc]
    exact List.perm_append_comm.append_right _
theorem flatMap_swap {α β γ : Type} (g : α → β → γ) (k : List β) : ∀ l : List α, (l.flatMap fun a => k.map (g a)).Perm (k.flatMap fun b => l.map fun a => g a b)
  | [] => by
    have : (k.flatMap fun b => ([] : List α).map fun a => g a b) = [] := by induction k <;> simp_all
    rw [this]; exact .refl _
  | a :: l => by
    rw [List.flatMap_cons]
    have h := flatMap_cons_perm (fun b => g a b) (fun b => l.map fun a => g a b) k
    have e : (k.flatMap fun b => (a :: l).map fun a => g a b) = k.flatMap fun b => g a b :: l.map fun a => g a b := by simp only [List.map_cons]
    rw [e]
    exact ((flatMap_swap g k l).append_left _).trans h.symm
theorem tm_row_inj {t u : Tm} (h : t.row = u.row) : t = u := by
  cases t; cases u
  simp only [Tm.row, List.cons.injEq, and_true] at h
  obtain ⟨rfl, rfl, rfl, rfl⟩ := h
  rfl
theorem sortT_congr {ts us : List Tm} (p : ts.Perm us) : sortT ts = sortT us := by
  have h : (sortT ts).map Tm.row = (sortT us).map Tm.row := by
    rw [← sortT_row, ← sortT_row]
    exact sort_uniq ((p.map _).trans (List.mergeSort_perm _ _).symm) (sorted_rows _)
  exact List.map_inj_right (fun _ _ e => tm_row_inj e) |>.mp h
theorem flat_len {α : Type} (f : Nat → Nat → α) (p : Nat) : ∀ n, ((List.range n).flatMap fun a => (List.range p).map (f a)).length = n * p
  | 0 => by simp
  | n + 1 => by rw [List.range_succ, List.flatMap_append, List.length_append, flat_len f p n, Nat.succ_mul]; simp
def tabT (m p a b c : Nat) : Tm := ⟨(a : Int) * p + c, (a : Int) * m + b, (b : Int) * p + c, 1⟩
def tabA (m p a : Nat) (j : Nat) : List Tm := (List.range j).flatMap fun c => (List.range m).map fun b => tabT m p a b c
def tabTs (m p : Nat) (i : Nat) : List Tm := (List.range i).flatMap fun a => tabA m p a p
/-- .. in another order -/
def tabA2 (m p a : Nat) (j : Nat) : List Tm := (List.range j).flatMap fun b => (List.range p).map fun c => tabT m p a b c
def tabTs2 (m p : Nat) (i : Nat) : List Tm := (List.range i).flatMap fun a => tabA2 m p a m
theorem flatMap_perm {α β : Type} {f g : α → List β} : ∀ {l : List α}, (∀ a ∈ l, (f a).Perm (g a)) → (l.flatMap f).Perm (l.flatMap g)
  | [], _ => .refl _
  | a :: l, h => by
    rw [List.flatMap_cons, List.flatMap_cons]
    exact (h a List.mem_cons_self).append (flatMap_perm fun b hb => h b (List.mem_cons_of_mem _ hb))
theorem tab_perm (m p n : Nat) : (tabTs2 m p n).Perm (tabTs m p n) := flatMap_perm fun a _ => (flatMap_swap (fun c b => tabT m p a b c) (List.range m) (List.range p)).symm
theorem tab_mem {m p n : Nat} {t : Tm} (h : t ∈ tabTs m p n) : ∃ a b c : Nat, a < n ∧ b < m ∧ c < p ∧ t = tabT m p a b c := by
  obtain ⟨a, ha, h⟩ := List.mem_flatMap.mp h
  obtain ⟨c, hc, h⟩ := List.mem_flatMap.mp h
  obtain ⟨b, hb, rfl⟩ := List.mem_map.mp h
  exact ⟨a, b, c, List.mem_range.mp ha, List.mem_range.mp hb, List.mem_range.mp hc, rfl⟩
theorem mul_add_inj {p a c a' c' : Nat} (hc : c < p) (hc' : c' < p) (h : a * p + c = a' * p + c') : a = a' ∧ c = c' := by
  have h1 : (a * p + c) / p = a := by rw [Nat.mul_comm, Nat.mul_add_div (by omega), Nat.div_eq_of_lt hc]; omega
  have h2 : (a' * p + c') / p = a' := by rw [Nat.mul_comm, Nat.mul_add_div (by omega), Nat.div_eq_of_lt hc']; omega
  have : a = a' := by rw [← h1, h, h2]
  subst this
  exact ⟨rfl, by omega⟩
theorem natPM (a m b : Nat) : ((a : Int) * m + b).toNat = a * m + b := by
  have : (a : Int) * m + b = ((a * m + b : Nat) : Int) := by push_cast; rfl
  rw [this]; rfl
theorem tabT_inj {m p a b c a' b' c' : Nat} (hb : b < m) (hb' : b' < m) (hc : c < p) (hc' : c' < p) (h : (tabT m p a b c).pl = (tabT m p a' b' c').pl) : a = a' ∧ b = b' ∧ c = c' := by
  simp only [tabT, Tm.pl, List.cons.injEq, and_true] at h
  obtain ⟨h1, h2, _⟩ := h
  have e1 : a * p + c = a' * p + c' := by have := h1; exact Int.ofNat_inj.mp (by push_cast; exact this)
  have e2 : a * m + b = a' * m + b' := by have := h2; exact Int.ofNat_inj.mp (by push_cast; exact this)
  obtain ⟨q1, q2⟩ := mul_add_inj hc hc' e1
  obtain ⟨q3, q4⟩ := mul_add_inj hb hb' e2
  exact ⟨q1, q4, q2⟩
theorem nodup_flatMap_range {β : Type} {f : Nat → List β} : ∀ n, (∀ i, i < n → (f i).Nodup) → (∀ i j, i < j → j < n → ∀ x ∈ f i, ∀ y ∈ f j, x ≠ y) → ((List.range n).flatMap f).Nodup
  | 0, _, _ => by simp
  | n + 1, h1, h2 => by
    rw [List.range_succ, List.flatMap_append, List.nodup_append]
    refine ⟨nodup_flatMap_range n (fun i hi => h1 i (by omega)) fun i j hij hj => h2 i j hij (by omega), by simpa using h1 n (by omega), fun x hx y hy => ?_⟩
    obtain ⟨i, hi, hx⟩ := List.mem_flatMap.mp hx
    have hi := List.mem_range.mp hi
    exact h2 i n hi (by omega) x hx y (by simpa using hy)
theorem tab_nodup (m p n : Nat) : ((tabTs m p n).map Tm.pl).Nodup := by
  unfold tabTs tabA
  rw [List.map_flatMap]
  refine nodup_flatMap_range n (fun a _ => ?_) fun a a' haa _ x hx y hy => ?_
  · rw [List.map_flatMap]
    refine nodup_flatMap_range p (fun c hc => ?_) fun c c' hcc hc' x hx y hy => ?_
    · rw [List.map_map, List.nodup_iff_pairwise_ne, List.pairwise_map]
      refine List.Pairwise.imp_of_mem ?_ (List.nodup_range (n := m))
      intro b b' hb hb' hne z
      exact hne (tabT_inj (List.mem_range.mp hb) (List.mem_range.mp hb') hc hc z).2.1
    · obtain ⟨t, ht, rfl⟩ := List.mem_map.mp hx
      obtain ⟨u, hu, rfl⟩ := List.mem_map.mp hy
      obtain ⟨b, hb, rfl⟩ := List.mem_map.mp ht
      obtain ⟨b', hb', rfl⟩ := List.mem_map.mp hu
      intro z
      have := (tabT_inj (List.mem_range.mp hb) (List.mem_range.mp hb') (by omega) hc' z).2.2
      omega
  · obtain ⟨t, ht, rfl⟩ := List.mem_map.mp hx
    obtain ⟨u, hu, rfl⟩ := List.mem_map.mp hy
    obtain ⟨c, hc, ht⟩ := List.mem_flatMap.mp ht
    obtain ⟨c', hc', hu⟩ := List.mem_flatMap.mp hu
    obtain ⟨b, hb, rfl⟩ := List.mem_map.mp ht
    obtain ⟨b', hb', rfl⟩ := List.mem_map.mp hu
    intro z
    have := (tabT_inj (List.mem_range.mp hb) (List.mem_range.mp hb') (List.mem_range.mp hc) (List.mem_range.mp hc') z).1
    omega
theorem tab_canon (m p n : Nat) : (canon (tabTs m p n)).map rowD = (sortT (tabTs m p n)).map tmD := canon_sortT (tab_nodup m p n) fun t h => by
  obtain ⟨a, b, c, _, _, _, rfl⟩ := tab_mem h
  exact (by decide : (1 : Int) ≠ 0)
theorem flat_lt {a p n c : Nat} (ha : a < n) (hc : c < p) : a * p + c < n * p := by
  have h1 : (a + 1) * p ≤ n * p := Nat.mul_le_mul_right p ha
  rw [Nat.succ_mul] at h1
  omega
theorem tab_fits {m p n : Nat} : ∀ t ∈ tabTs m p n, t.fits (n * p) (n * m) (m * p) := fun t h => by
  obtain ⟨a, b, c, ha, hb, hc, rfl⟩ := tab_mem h
  have h1 := flat_lt ha hc
  have h2 := flat_lt ha hb
  have h3 := flat_lt hb hc
  have i1 : (a : Int) * p + c = ((a * p + c : Nat) : Int) := by push_cast; rfl
  have i2 : (a : Int) * m + b = ((a * m + b : Nat) : Int) := by push_cast; rfl
  have i3 : (b : Int) * p + c = ((b * p + c : Nat) : Int) := by push_cast; rfl
  unfold tabT
  rw [i1, i2, i3]
  exact ⟨by dsimp only; omega, by dsimp only; omega, by dsimp only; omega, by dsimp only; omega, by dsimp only; omega, by dsimp only; omega, (by show -(2 ^ 64) < (1 : Int); decide), (by show (1 : Int) < 2 ^ 64; decide)⟩
theorem tabA_len (m p a : Nat) : ∀ j, (tabA m p a j).length = j * m
  | 0 => by simp [tabA]
  | j + 1 => by
    have := tabA_len m p a j
    unfold tabA at this ⊢
    rw [List.range_succ, List.flatMap_append, List.length_append, this, Nat.succ_mul]; simp
theorem tabA2_len (m p a : Nat) : ∀ j, (tabA2 m p a j).length = j * p
  | 0 => by simp [tabA2]
  | j + 1 => by
    have := tabA2_len m p a j
    unfold tabA2 at this ⊢
    rw [List.range_succ, List.flatMap_append, List.length_append, this, Nat.succ_mul]; simp
theorem tabTs_len (m p : Nat) : ∀ n, (tabTs m p n).length = n * (p * m)
  | 0 => by simp [tabTs]
  | n + 1 => by
    have := tabTs_len m p n
    unfold tabTs at this ⊢
    rw [List.range_succ, List.flatMap_append, List.length_append, this, Nat.succ_mul]; simp [tabA_len]
theorem tabTs_succ (m p n : Nat) : tabTs m p (n + 1) = tabTs m p n ++ tabA m p n p := by unfold tabTs; rw [List.range_succ, List.flatMap_append]; simp
theorem tabA_succ (m p a j : Nat) : tabA m p a (j + 1) = tabA m p a j ++ (List.range m).map fun b => tabT m p a b j := by unfold tabA; rw [List.range_succ, List.flatMap_append]; simp
theorem tabTs2_succ (m p n : Nat) : tabTs2 m p (n + 1) = tabTs2 m p n ++ tabA2 m p n m := by unfold tabTs2; rw [List.range_succ, List.flatMap_append]; simp
theorem tabA2_succ (m p a j : Nat) : tabA2 m p a (j + 1) = tabA2 m p a j ++ (List.range p).map fun c => tabT m p a j c := by unfold tabA2; rw [List.range_succ, List.flatMap_append]; simp
/-! ### what tables tell -/
theorem tab_Sg (m p n : Nat) (xs ys : List Int) {a c : Nat} (ha : a < n) (hc : c < p) : valAt (tabTs m p n) xs ys (a * p + c) = Sg (List.range m) fun b => xs.getD (a * m + b) 0 * ys.getD (b * p + c) 0 := by
  rw [valAt_Sg]
  unfold tabTs tabA
  rw [Sg_flatMap]
  have e : ∀ a', a' < n → (Sg ((List.range p).flatMap fun c => (List.range m).map fun b => tabT m p a' b c) fun t => if t.k = ((a * p + c : Nat) : Int) then t.c * xs.getD t.i.toNat 0 * ys.getD t.j.toNat 0 else 0) =
      if a' = a then Sg (List.range m) (fun b => xs.getD (a' * m + b) 0 * ys.getD (b * p + c) 0) else 0 := fun a' ha' => by
    rw [Sg_flatMap]
    have e2 : ∀ c', c' < p → (Sg ((List.range m).map fun b => tabT m p a' b c') fun t => if t.k = ((a * p + c : Nat) : Int) then t.c * xs.getD t.i.toNat 0 * ys.getD t.j.toNat 0 else 0) = if c' = c then (if a' = a then Sg (List.range m) (fun b => xs.getD (a' * m + b) 0 * ys.getD (b * p + c') 0) else 0) else 0 := fun c' hc' => by
      rw [Sg_map]
      by_cases h : a' * p + c' = a * p + c
      · obtain ⟨rfl, rfl⟩ := mul_add_inj hc' hc h
        rw [if_pos rfl, if_pos rfl]
        refine Sg_congr fun b _ => ?_
        have i1 : ((a' : Int) * p + c') = ((a' * p + c' : Nat) : Int) := by push_cast; rfl
        show (if (a' : Int) * p + c' = _ then (1 : Int) * xs.getD ((a' : Int) * m + b).toNat 0 * ys.getD ((b : Int) * p + c').toNat 0 else 0) = _
        rw [if_pos i1, Int.one_mul, natPM, natPM]
      · have : (if c' = c then (if a' = a then Sg (List.range m) (fun b => xs.getD (a' * m + b) 0 * ys.getD (b * p + c') 0) else 0) else 0) = 0 := by
          by_cases h1 : c' = c
          · rw [if_pos h1]
            by_cases h2 : a' = a
            · exact absurd (by rw [h1, h2]) h
            · rw [if_neg h2]
          · rw [if_neg h1]
        rw [this]
        refine Sg_zero' fun b _ => ?_
        show (if (a' : Int) * p + c' = _ then _ else (0 : Int)) = 0
        rw [if_neg fun z => h (Int.ofNat_inj.mp (by push_cast at z ⊢; exact z))]
    rw [Sg_congr (l := List.range p) (g := fun c' => if c' = c then (if a' = a then Sg (List.range m) (fun b => xs.getD (a' * m + b) 0 * ys.getD (b * p + c') 0) else 0) else 0) fun c' hc' => e2 c' (List.mem_range.mp hc')]
    rw [Sg_at hc fun c' => if a' = a then Sg (List.range m) (fun b => xs.getD (a' * m + b) 0 * ys.getD (b * p + c') 0) else 0]
  rw [Sg_congr (l := List.range n) (g := fun a' => if a' = a then Sg (List.range m) (fun b => xs.getD (a' * m + b) 0 * ys.getD (b * p + c) 0) else 0) fun a' ha' => e a' (List.mem_range.mp ha')]
  rw [Sg_at ha fun a' => Sg (List.range m) fun b => xs.getD (a' * m + b) 0 * ys.getD (b * p + c) 0]
theorem range_mul {α : Type} (f : Nat → α) (p : Nat) : ∀ n, (List.range (n * p)).map f = (List.range n).flatMap fun a => (List.range p).map fun c => f (a * p + c)
  | 0 => by simp
  | n + 1 => by
    rw [List.range_succ, List.flatMap_append, ← range_mul f p n, Nat.succ_mul, List.range_add, List.map_append, List.map_map]
    simp [Function.comp]
theorem tab_vals (m p n : Nat) (xs ys : List Int) : vals (n * p) (tabTs m p n) xs ys = (List.range n).flatMap fun a => (List.range p).map fun c => Sg (List.range m) fun b => xs.getD (a * m + b) 0 * ys.getD (b * p + c) 0 := by
  unfold vals
  rw [range_mul]
  have : ∀ a ∈ List.range n, ((List.range p).map fun c => valAt (tabTs m p n) xs ys (a * p + c)) = (List.range p).map fun c => Sg (List.range m) fun b => xs.getD (a * m + b) 0 * ys.getD (b * p + c) 0 := fun a ha => List.map_congr_left fun c hc => tab_Sg m p n xs ys (List.mem_range.mp ha) (List.mem_range.mp hc)
  have fm : ∀ {l : List Nat} {f g : Nat → List Int}, (∀ a ∈ l, f a = g a) → l.flatMap f = l.flatMap g := fun {l f g} h => by
    induction l with
    | nil => rfl
    | cons a l ih => rw [List.flatMap_cons, List.flatMap_cons, h a List.mem_cons_self, ih fun b hb => h b (List.mem_cons_of_mem _ hb)]
  exact fm this
def r_table_task : FSpec := fun ds _ Q => ∃ n m p : Nat, ds = [.int n, .int m, .int p] ∧ (n ≤ 100 ∧ m ≤ 100 ∧ p ≤ 100) ∧ ∀ os, Q (.tup true [.int ((n : Int) * m), .int ((m : Int) * p), .int ((n : Int) * p), .lst .flat ((sortT (tabTs m p n)).map tmD)]) os
theorem mulN {a b : Nat} (ha : a ≤ 1000000) : MulOk (a : Int) (b : Int) := mulL (by omega) (by omega)
theorem rd_table_task : RD_table_task r_table_task r_task_of := by
  rintro ds ED QD - ⟨n, m, p, rfl, ⟨n1, m1, p1⟩, q⟩
  refine ⟨⟨by decide, by omega, by omega⟩, ⟨forR_on [3] [4, 5, 6] (fun i s => s = [some (.lst .flat ((tabTs m p i).map tmD))]) _ _ rfl ?_ ?_⟩⟩
  · rintro a x s j hx hj rfl
    obtain ⟨e4, e5, e6, rfl⟩ := len3 hj
    obtain ⟨rfl, ha⟩ := rgD_at hx
    refine ⟨⟨by decide, by omega, by omega⟩, ⟨forR_on [3] [5, 6] (fun c s => s = [some (.lst .flat ((tabTs m p a ++ tabA m p a c).map tmD))]) _ _ (by simp [tabA]; rfl) ?_ ?_⟩⟩
    · rintro c x s j hx hj rfl
      obtain ⟨e5, e6, rfl⟩ := len2 hj
      obtain ⟨rfl, hc⟩ := rgD_at hx
      refine ⟨⟨by decide, by omega, by omega⟩, ⟨compR_allE (List.range ((m : Int) - 0).toNat) _ (fun b => tmD (tabT m p a b c)) rfl (fun b hb => ?_) (fun _ => rfl) ?_⟩⟩
      · have hb := List.mem_range.mp hb
        refine ⟨fun _ => ⟨mulL (by omega) (by omega), mulL (by omega) (by omega), mulL (by omega) (by omega), ?_, rfl⟩, fun h => (nomatch h)⟩
        rw [Int.zero_add, Int.zero_add, Int.zero_add]; rfl
      · refine ⟨rfl, ?_, rfl, ?_⟩
        · rw [List.length_map, List.length_map, List.length_range, List.length_append, tabTs_len, tabA_len, sizeLine_eq]
          have h1 : a * (p * m) ≤ 100 * (100 * 100) := Nat.mul_le_mul (by omega) (Nat.mul_le_mul p1 m1)
          have h2 : c * m ≤ 100 * 100 := Nat.mul_le_mul (by omega) m1
          omega
        · rw [tabA_succ, ← List.append_assoc, List.map_append (l₁ := tabTs m p a ++ tabA m p a c), show ((m : Int) - 0).toNat = m by omega, List.map_map]; rfl
    · rintro s j hj rfl
      obtain ⟨e5, e6, rfl⟩ := len2 hj
      refine ⟨rfl, ?_⟩
      rw [show (rgD 0 (p : Int)).length = p by rw [rgD_len]; omega, ← tabTs_succ]; rfl
  · rintro s j hj rfl
    obtain ⟨e4, e5, e6, rfl⟩ := len3 hj
    rw [show (rgD 0 (n : Int)).length = n by rw [rgD_len]; omega]
    refine ⟨mulN (by omega), mulN (by omega), mulN (by omega), _, _, _, .ice, tabTs m p n, rfl, rfl, ?_, fun _ => ?_⟩
    · rw [tabTs_len]
      have h1 : n * (p * m) ≤ 100 * (100 * 100) := Nat.mul_le_mul n1 (Nat.mul_le_mul p1 m1)
      omega
    · rw [tab_canon]; exact q _
end Cm
set_option maxHeartbeats 0
/-! terms put together tell the same -/
namespace Cm
open PySem PySem.Spec PyProof.Rows L2 FL
theorem Sg_pls (ts : List Tm) (f : List Int → Int) : Sg ts (fun t => t.c * f t.pl) = Sg (pls ts) fun p => tsum ts p * f p := by
  refine snoc_ind (C := fun ts => Sg ts (fun t => t.c * f t.pl) = Sg (pls ts) fun p => tsum ts p * f p) rfl (fun l t ih => ?_) ts
  rw [Sg_append, ih, Sg_cons, Sg_nil, Int.add_zero, pls_snoc]
  have e : ∀ P : List (List Int), Sg P (fun p => tsum (l ++ [t]) p * f p) = Sg P (fun p => tsum l p * f p) + Sg P fun p => if p = t.pl then t.c * f p else 0 := fun P => by
    rw [← Sg_add]
    refine Sg_congr fun p _ => ?_
    rw [tsum_snoc]
    by_cases h : p = t.pl
    · rw [if_pos h, if_pos h.symm, Int.add_mul]
    · rw [if_neg h, if_neg fun z => h z.symm, Int.add_zero, Int.add_zero]
  rw [e]
  unfold addP
  by_cases h : t.pl ∈ pls l
  · rw [if_pos h, Sg_one (pls_nodup l) h]
  · rw [if_neg h, Sg_append, Sg_append, Sg_cons, Sg_nil, Sg_cons, Sg_nil, if_pos rfl, Sg_none h, tsum_out h]
    omega
theorem Sg_canon (ts : List Tm) (f : List Int → Int) : Sg (canonT ts) (fun t => t.c * f t.pl) = Sg ts fun t => t.c * f t.pl := by
  rw [Sg_pls ts f, ← Sg_perm (List.mergeSort_perm (pls ts) leR)]
  unfold canonT
  have : ∀ P : List (List Int), (∀ p ∈ P, p.length = 3) → Sg (P.filterMap fun p => if tsum ts p ≠ 0 then some (tmOf p (tsum ts p)) else none) (fun t => t.c * f t.pl) = Sg P fun p => tsum ts p * f p := fun P hP => by
    induction P with
    | nil => rfl
    | cons p P ih =>
      rw [List.filterMap_cons, Sg_cons, ← ih fun q hq => hP q (List.mem_cons_of_mem _ hq)]
      by_cases h : tsum ts p ≠ 0
      · rw [if_pos h, Sg_cons]
        show tsum ts p * f (tmOf p (tsum ts p)).pl + _ = _
        rw [(tmOf_pl (hP p List.mem_cons_self)).1]
      · rw [if_neg h]
        have : tsum ts p = 0 := by omega
        rw [this, Int.zero_mul, Int.zero_add]
  exact this _ fun p hp => pls_three (List.mem_mergeSort.mp hp)
/-- valAt by places -/
theorem valAt_pl (ts : List Tm) (xs ys : List Int) (k : Nat) : valAt ts xs ys k = Sg ts fun t => t.c * (fun p : List Int => if p.getD 0 0 = (k : Int) then xs.getD (p.getD 1 0).toNat 0 * ys.getD (p.getD 2 0).toNat 0 else 0) t.pl := by
  rw [valAt_Sg]
  refine Sg_congr fun t _ => ?_
  show (if t.k = (k : Int) then t.c * xs.getD t.i.toNat 0 * ys.getD t.j.toNat 0 else 0) = t.c * (if t.k = (k : Int) then xs.getD t.i.toNat 0 * ys.getD t.j.toNat 0 else 0)
  split
  · rw [Int.mul_assoc]
  · rw [Int.mul_zero]
theorem valAt_canon (ts : List Tm) (xs ys : List Int) (k : Nat) : valAt (canonT ts) xs ys k = valAt ts xs ys k := by
  rw [valAt_pl, valAt_pl]
  exact Sg_canon ts fun p : List Int => if p.getD 0 0 = (k : Int) then xs.getD (p.getD 1 0).toNat 0 * ys.getD (p.getD 2 0).toNat 0 else 0
theorem vals_canon (m : Nat) (ts : List Tm) (xs ys : List Int) : vals m (canonT ts) xs ys = vals m ts xs ys := List.map_congr_left fun k _ => valAt_canon ts xs ys k
def Tm.neg (t : Tm) : Tm := ⟨t.k, t.i, t.j, 0 - t.c⟩
theorem valAt_neg (ts : List Tm) (xs ys : List Int) (k : Nat) : valAt (ts.map Tm.neg) xs ys k = 0 - valAt ts xs ys k := by
  rw [valAt_Sg, valAt_Sg, Sg_map, Int.zero_sub, Sg_neg]
  refine Sg_congr fun t _ => ?_
  show (if t.k = (k : Int) then (0 - t.c) * xs.getD t.i.toNat 0 * ys.getD t.j.toNat 0 else 0) = _
  split
  · rw [Int.zero_sub, Int.neg_mul, Int.neg_mul]
  · rfl
theorem vals_neg (m : Nat) (ts : List Tm) (xs ys : List Int) : vals m (ts.map Tm.neg) xs ys = (vals m ts xs ys).map fun v => 0 - v := by
  unfold vals
  rw [List.map_map]
  exact List.map_congr_left fun k _ => valAt_neg ts xs ys k
theorem vals_app (m : Nat) (ts us : List Tm) (xs ys : List Int) : ((vals m ts xs ys).zip (vals m us xs ys)).map (fun p => D.int (p.1 + p.2)) = (vals m (ts ++ us) xs ys).map D.int := by
  unfold vals
  rw [List.zip_map', List.map_map, List.map_map]
  exact List.map_congr_left fun k _ => congrArg D.int (valAt_append ts us xs ys k).symm
theorem canonT_len (ts : List Tm) : (canonT ts).length ≤ ts.length := by
  have := pls_len ts
  have h2 := List.length_filterMap_le (fun p => if tsum ts p ≠ 0 then some (tmOf p (tsum ts p)) else none) ((pls ts).mergeSort leR)
  rw [List.length_mergeSort] at h2
  have : (canonT ts).length ≤ (pls ts).length := h2
  omega
theorem ring_nodup (n : Nat) (turn : Int) : ((ringTs n turn n).map Tm.pl).Nodup := by
  have e : (ringTs n turn n).map Tm.pl = (List.range n).flatMap fun (i : Nat) => (List.range n).map fun (j : Nat) => [((i : Int) + j) % n, (i : Int), (j : Int)] := by
    unfold ringTs
    rw [List.map_flatMap]
    congr 1
    funext i
    unfold ringT
    rw [List.map_map]; rfl
  rw [e]
  refine pair_nodup (fun i j i' j' z => ?_) n n
  simp only [List.cons.injEq, and_true] at z
  omega
theorem ring_canon {n : Nat} {turn : Int} (ht : turn ≠ 0) : (canon (ringTs n turn n)).map rowD = (sortT (ringTs n turn n)).map tmD := canon_sortT (ring_nodup n turn) fun t h => by
  obtain ⟨i, _, h⟩ := List.mem_flatMap.mp h
  obtain ⟨j, _, rfl⟩ := List.mem_map.mp h
  show (if _ then (1 : Int) else turn) ≠ 0
  split
  · decide
  · exact ht
end Cm
namespace Cm
open PySem PySem.Spec PyProof.Rows L2 FL
/-! ### with_places -/
def rb_with_places : RS := (rRet (rComp (rEn (rAC (oV (rVar 0)) rA0)) (gTp 2 (gCs (gNm 1) (gCs (gNm 2) gNl))) (rTst (rBin dNe (oV (rVar 2)) (oV (rC (.int 0))))) (rTup (rAC (oV (rVar 1)) (rAC (oV (rVar 2)) rA0))) [2, 1]))
abbrev RD_with_places (r : FSpec) : Prop := ∀ ds ED QD, ds.length = 1 → r ds ED QD → rb_with_places (startD ["part", "place", "number"] ds) (fun c fs ρ => ED c fs (ρ.take 1)) (finD 1 QD)
/-! ### task_by -/
def rb_task_by (r_task_of : FSpec) (r_with_places : FSpec) : RS := (rSeq (rSet 1 (rLst rA0))
  (rSeq (rFor (rItA (rBin dIx (oV (rVar 0)) (oV (rC (.int 3))))) (gTp 3 (gCs (gNm 2) (gCs (gNm 3) (gCs (gNm 4) gNl)))) (rFor (rItA (rCall [] r_with_places (rAC (oV (rVar 2)) rA0))) (gTp 2 (gCs (gNm 5) (gCs (gNm 6) gNl))) (rFor (rItA (rCall [] r_with_places (rAC (oV (rVar 3)) rA0))) (gTp 2 (gCs (gNm 7) (gCs (gNm 8) gNl))) (rDrop (rExt 1 (rComp (rItA (rCall [] r_with_places (rAC (oV (rVar 4)) rA0))) (gTp 2 (gCs (gNm 9) (gCs (gNm 10) gNl))) rYes (rTup (rAC (oV (rVar 9)) (rAC (oV (rVar 5)) (rAC (oV (rVar 7)) (rAC (oV (rBin dMulX (oV (rBin dMulX (oV (rVar 6)) (oV (rVar 8)))) (oV (rVar 10)))) rA0))))) [10, 9]))))))
  (rRet (rCall [] r_task_of (rAC (oV (rBin dIx (oV (rVar 0)) (oV (rC (.int 0))))) (rAC (oV (rBin dIx (oV (rVar 0)) (oV (rC (.int 1))))) (rAC (oV (rBin dIx (oV (rVar 0)) (oV (rC (.int 2))))) (rAC (oN 1) rA0))))))))
abbrev RD_task_by (r : FSpec) (r_task_of : FSpec) (r_with_places : FSpec) : Prop := ∀ ds ED QD, ds.length = 1 → r ds ED QD → (rb_task_by r_task_of r_with_places) (startD ["scheme", "terms", "l", "r", "o", "i", "a", "j", "b", "k", "c"] ds) (fun c fs ρ => ED c fs (ρ.take 1)) (finD 1 QD)
/-! ### does -/
def rb_does (r_task_by : FSpec) : RS := (rRet (rBin dEq (oV (rCall [] r_task_by (rAC (oV (rVar 0)) rA0))) (oV (rVar 1))))
abbrev RD_does (r : FSpec) (r_task_by : FSpec) : Prop := ∀ ds ED QD, ds.length = 2 → r ds ED QD → (rb_does r_task_by) (startD ["scheme", "task"] ds) (fun c fs ρ => ED c fs (ρ.take 2)) (finD 2 QD)
/-! ### single -/
def rb_single : RS := (rRet (rComp (rRg1 (rAC (oV (rVar 0)) rA0)) (gNm 2) rYes (rCB dInt (rAC (oV (rBin dEq (oV (rVar 2)) (oV (rVar 1)))) rA0)) [2]))
abbrev RD_single (r : FSpec) : Prop := ∀ ds ED QD, ds.length = 2 → r ds ED QD → rb_single (startD ["length", "place", "here"] ds) (fun c fs ρ => ED c fs (ρ.take 2)) (finD 2 QD)
end Cm
/-! contracts: with_places, task_by, does, single -/
namespace Cm
open PySem PySem.Spec PyProof.Rows L2 FL
set_option maxHeartbeats 0
/-- the numbers that are not 0, with their places -/
def wp (xs : List Int) : List (Int × Nat) := xs.zipIdx.filter fun p => decide (p.1 ≠ 0)
def plD (p : Int × Nat) : D := .tup false [.int p.2, .int p.1]
theorem wp_mem {xs : List Int} {p : Int × Nat} (h : p ∈ wp xs) : p.1 ∈ xs ∧ p.2 < xs.length ∧ xs.getD p.2 0 = p.1 ∧ p.1 ≠ 0 := by
  obtain ⟨h1, h2⟩ := List.mem_filter.mp h
  obtain ⟨h3, h4, h5⟩ := List.mem_zipIdx h1
  simp only [Nat.sub_zero] at h5
  refine ⟨by rw [h5]; exact List.getElem_mem _, by simpa using h4, ?_, by simpa using h2⟩
  rw [h5, List.getD_eq_getElem?_getD, List.getElem?_eq_getElem (by simpa using h4)]; rfl
theorem wp_len (xs : List Int) : (wp xs).length ≤ xs.length := by
  unfold wp
  exact Nat.le_trans (List.length_filter_le _ _) (by rw [List.length_zipIdx]; exact Nat.le_refl _)
def r_with_places : FSpec := fun ds _ Q => ∃ xs : List Int, ds = [rowD xs] ∧ ∀ os, Q (.lst .flat ((wp xs).map plD)) os
theorem rd_with_places : RD_with_places r_with_places := by
  rintro ds ED QD - ⟨xs, rfl, q⟩
  refine ⟨compR_if (xs.zipIdx 0) (fun p => .tup false [.int (p.2 : Nat), .int p.1]) (fun p => decide (p.1 ≠ 0)) plD (enD_map D.int 0 xs) (fun p hp => ?_) (fun _ => rfl) (q _)⟩
  refine ⟨rfl, fun h => ?_, fun h => ?_⟩
  · have h : p.1 ≠ 0 := by simpa using h
    refine ⟨?_, rfl⟩
    rw [if_pos (by simpa using h)]; rfl
  · have h : p.1 = 0 := by simpa using h
    refine ⟨?_, rfl⟩
    rw [if_neg (by simpa using h)]
/-! ### the terms of a scheme -/
def byT3 (a b : Int × Nat) (o : List Int) : List Tm := (wp o).map fun c => ⟨c.2, a.2, b.2, a.1 * b.1 * c.1⟩
def byT2 (a : Int × Nat) (p : Pr) (r : List (Int × Nat)) : List Tm := r.flatMap fun b => byT3 a b p.o
def byT1 (p : Pr) (l : List (Int × Nat)) : List Tm := l.flatMap fun a => byT2 a p (wp p.r)
def byTs (ps : List Pr) : List Tm := ps.flatMap fun p => byT1 p (wp p.l)
theorem flat_take {α β : Type} (f : α → List β) {l : List α} {i : Nat} {a : α} (h : l[i]? = some a) : (l.take (i + 1)).flatMap f = (l.take i).flatMap f ++ f a := by
  rw [List.take_succ, h, List.flatMap_append]
  simp
theorem flat_le {α β : Type} (f : α → List β) (l : List α) (i : Nat) : ((l.take i).flatMap f).length ≤ (l.flatMap f).length := by
  conv => rhs; rw [← List.take_append_drop i l, List.flatMap_append, List.length_append]
  omega
theorem flat_le1 {α β : Type} (f : α → List β) {l : List α} {i : Nat} {a : α} (h : l[i]? = some a) : ((l.take i).flatMap f).length + (f a).length ≤ (l.flatMap f).length := by
  have := flat_le f l (i + 1)
  rw [flat_take f h, List.length_append] at this
  exact this
def taskD (l r m : Int) (ts : List Tm) : D := .tup true [.int l, .int r, .int m, .lst .flat (ts.map tmD)]
structure Pr.bts (p : Pr) (n : Nat) : Prop where
  l : Bts n p.l
  r : Bts n p.r
  o : Bts n p.o
theorem Pr.fit.bts {p : Pr} {a b c : Nat} (h : p.fit a b c) : p.bts 10000 := ⟨h.bl, h.br, h.bo.mono (by decide)⟩
def r_task_by : FSpec := fun ds _ Q => ∃ (n m k : Int) (ps : List Pr), ds = [schD n m k ps] ∧ (∀ p ∈ ps, p.bts 10000) ∧ (byTs ps).length ≤ 8000000 ∧ ∀ os, Q (taskD n m k (canonT (byTs ps))) os
theorem rd_task_by : RD_task_by r_task_by r_task_of r_with_places := by
  rintro ds ED QD - ⟨n, m, k, ps, rfl, hb, hz, q⟩
  refine ⟨forR_on [1] [2, 3, 4, 5, 6, 7, 8, 9, 10] (fun i s => s = [some (.lst .flat ((byTs (ps.take i)).map tmD))]) _ _ rfl ?_ ?_⟩
  · rintro i x s j hx hj rfl
    obtain ⟨e2, e3, e4, e5, e6, e7, e8, e9, e10, rfl⟩ : ∃ e2 e3 e4 e5 e6 e7 e8 e9 e10, j = [e2, e3, e4, e5, e6, e7, e8, e9, e10] := by
      match j, hj with
      | [a, b, c, d, e, f, g, h, i], _ => exact ⟨_, _, _, _, _, _, _, _, _, rfl⟩
    rw [List.getElem?_map] at hx
    obtain ⟨p, hp, rfl⟩ := Option.map_eq_some_iff.mp hx
    have hbp := hb p (List.mem_of_getElem? hp)
    have z1 := flat_le1 (fun p => byT1 p (wp p.l)) hp
    have t1 : byTs (ps.take (i + 1)) = byTs (ps.take i) ++ byT1 p (wp p.l) := flat_take (fun p => byT1 p (wp p.l)) hp
    refine ⟨rfl, p.l, rfl, fun _ => ⟨forR_on [1] [5, 6, 7, 8, 9, 10] (fun i1 s => s = [some (.lst .flat ((byTs (ps.take i) ++ byT1 p ((wp p.l).take i1)).map tmD))]) _ _ (by rw [List.take_zero]; simp [byT1]; rfl) ?_ ?_⟩⟩
    · rintro i1 x s j hx hj rfl
      obtain ⟨e5, e6, e7, e8, e9, e10, rfl⟩ := len6 hj
      rw [List.getElem?_map] at hx
      obtain ⟨a, ha, rfl⟩ := Option.map_eq_some_iff.mp hx
      have ma := wp_mem (List.mem_of_getElem? ha)
      have ba := hbp.l _ ma.1
      have z2 := flat_le1 (fun a => byT2 a p (wp p.r)) ha
      have t2 : byT1 p ((wp p.l).take (i1 + 1)) = byT1 p ((wp p.l).take i1) ++ byT2 a p (wp p.r) := flat_take (fun a => byT2 a p (wp p.r)) ha
      refine ⟨rfl, p.r, rfl, fun _ => ⟨forR_on [1] [7, 8, 9, 10] (fun i2 s => s = [some (.lst .flat ((byTs (ps.take i) ++ byT1 p ((wp p.l).take i1) ++ byT2 a p ((wp p.r).take i2)).map tmD))]) _ _ (by rw [List.take_zero]; simp [byT2]; rfl) ?_ ?_⟩⟩
      · rintro i2 x s j hx hj rfl
        obtain ⟨e7, e8, e9, e10, rfl⟩ := len4 hj
        rw [List.getElem?_map] at hx
        obtain ⟨b, hb', rfl⟩ := Option.map_eq_some_iff.mp hx
        have mb := wp_mem (List.mem_of_getElem? hb')
        have bb := hbp.r _ mb.1
        have z3 := flat_le1 (fun b => byT3 a b p.o) hb'
        have t3 : byT2 a p ((wp p.r).take (i2 + 1)) = byT2 a p ((wp p.r).take i2) ++ byT3 a b p.o := flat_take (fun b => byT3 a b p.o) hb'
        refine ⟨rfl, p.o, rfl, fun _ => ⟨compR_allE (wp p.o) plD (fun c => tmD ⟨c.2, a.2, b.2, a.1 * b.1 * c.1⟩) rfl (fun c hc => ?_) (fun _ => rfl) ?_⟩⟩
        · exact ⟨rfl, fun _ => ⟨ba.ok bb, (ba.mul bb).ok (hbp.o _ (wp_mem hc).1), rfl, rfl⟩, fun h => (nomatch h)⟩
        · refine ⟨rfl, ?_, rfl, ?_⟩
          · rw [List.length_map, List.length_map, List.length_append, List.length_append, sizeLine_eq]
            have : ((byT3 a b p.o).length) = (wp p.o).length := List.length_map _
            have y1 : (byTs (ps.take i)).length + (byT1 p (wp p.l)).length ≤ (byTs ps).length := z1
            have y2 : (byT1 p ((wp p.l).take i1)).length + (byT2 a p (wp p.r)).length ≤ (byT1 p (wp p.l)).length := z2
            have y3 : (byT2 a p ((wp p.r).take i2)).length + (byT3 a b p.o).length ≤ (byT2 a p (wp p.r)).length := z3
            omega
          · rw [t3, ← List.append_assoc, List.map_append (l₁ := byTs (ps.take i) ++ byT1 p ((wp p.l).take i1) ++ byT2 a p ((wp p.r).take i2))]
            unfold byT3
            rw [List.map_map]; rfl
      · rintro s j hj rfl
        obtain ⟨e7, e8, e9, e10, rfl⟩ := len4 hj
        refine ⟨rfl, ?_⟩
        rw [List.length_map, List.take_length, t2, ← List.append_assoc]; rfl
    · rintro s j hj rfl
      obtain ⟨e5, e6, e7, e8, e9, e10, rfl⟩ := len6 hj
      refine ⟨rfl, ?_⟩
      rw [List.length_map, List.take_length, t1]; rfl
  · rintro s j hj rfl
    obtain ⟨e2, e3, e4, e5, e6, e7, e8, e9, e10, rfl⟩ : ∃ e2 e3 e4 e5 e6 e7 e8 e9 e10, j = [e2, e3, e4, e5, e6, e7, e8, e9, e10] := by
      match j, hj with
      | [a, b, c, d, e, f, g, h, i], _ => exact ⟨_, _, _, _, _, _, _, _, _, rfl⟩
    rw [List.length_map, List.take_length]
    refine ⟨n, m, k, .ice, byTs ps, rfl, rfl, hz, fun _ => ?_⟩
    rw [canon_T]
    exact q _
/-- what a scheme is, asked by its terms -/
def r_does : FSpec := fun ds _ Q => ∃ (n m k : Int) (ps : List Pr) (d : List D), ds = [schD n m k ps, .tup false d] ∧ (∀ p ∈ ps, p.bts 10000) ∧ (byTs ps).length ≤ 8000000 ∧ datL d = true ∧ ∀ os, Q (.bl (false ^^ deq (taskD n m k (canonT (byTs ps))) (.tup false d))) os
theorem taskD_sm (l r m : Int) (ts : List Tm) : Sm (taskD l r m ts) 3 := .tup (.cons (.mono .int (by decide : 0 ≤ 2)) (.cons (.mono .int (by decide : 0 ≤ 2)) (.cons (.mono .int (by decide : 0 ≤ 2)) (.cons (.lst (.map fun t _ => tm_sm t)) .nil))))
theorem rd_does : RD_does r_does r_task_by := by
  rintro ds ED QD - ⟨n, m, k, ps, d, rfl, hb, hz, hd, q⟩
  exact ⟨n, m, k, ps, rfl, hb, hz, fun _ => ⟨(taskD_sm n m k _).dat, hd, (taskD_sm n m k _).min, q _⟩⟩
def sg (n : Nat) (k : Int) : List Int := (List.range n).map fun (i : Nat) => if decide ((i : Int) = k) then (1 : Int) else 0
def r_single : FSpec := fun ds _ Q => ∃ (n : Nat) (k : Int), ds = [.int n, .int k] ∧ n ≤ 1000000 ∧ ∀ os, Q (.lst .flat ((sg n k).map D.int)) os
theorem rd_single : RD_single r_single := by
  rintro ds ED QD - ⟨n, k, rfl, hn, q⟩
  refine ⟨⟨by decide, by omega, by omega⟩, ⟨compR_allE (List.range ((n : Int) - 0).toNat) _ (fun (i : Nat) => .int (if decide ((i : Int) = k) then 1 else 0)) rfl (fun i hi => ?_) (fun _ => rfl) ?_⟩⟩
  · refine ⟨fun _ => ⟨?_, rfl⟩, fun h => (nomatch h)⟩
    rw [Int.zero_add, Bool.false_xor]
  · have := q
    unfold sg at this
    rw [List.map_map] at this
    rw [show ((n : Int) - 0).toNat = n by omega]
    exact this _
def r_times_in : FSpec := fun ds _ Q => ∃ (n m k : Int) (ps : List Pr), ds = [schD n m k ps] ∧ ∀ os, Q (.int ps.length) os
theorem rd_times_in : RD_times_in r_times_in := by
  rintro ds ED QD - ⟨n, m, k, ps, rfl, q⟩
  have := q
  rw [← List.length_map (as := ps) prD] at this
  exact this _
end Cm
/-! plain laws: a scheme that computes what a task tells has the task's terms -/
namespace Cm
open PySem PySem.Spec PyProof.Rows L2 FL
set_option maxHeartbeats 0
theorem canonT_ext {ts us : List Tm} (h : ∀ p, (p ∈ pls ts ∨ p ∈ pls us) → tsum ts p = tsum us p) : canonT ts = canonT us := by
  have e : tsum ts = tsum us := by
    funext p
    by_cases h1 : p ∈ pls ts
    · exact h p (.inl h1)
    · by_cases h2 : p ∈ pls us
      · exact h p (.inr h2)
      · rw [tsum_out h1, tsum_out h2]
  unfold canonT
  rw [fm_if, fm_if, e]
  congr 1
  have nd : ∀ ts : List Tm, (((pls ts).mergeSort leR).filter fun p => decide (tsum us p ≠ 0)).Nodup := fun ts => ((List.mergeSort_perm _ _).nodup_iff.mpr (pls_nodup ts)).filter _
  have mem : ∀ (vs : List Tm), tsum vs = tsum us → ∀ p, p ∈ (((pls vs).mergeSort leR).filter fun p => decide (tsum us p ≠ 0)) ↔ tsum us p ≠ 0 := fun vs ev p => by
    rw [List.mem_filter, List.mem_mergeSort]
    refine ⟨fun h => by simpa using h.2, fun h => ⟨?_, by simpa using h⟩⟩
    by_cases hp : p ∈ pls vs
    · exact hp
    · exact absurd (by rw [← ev]; exact tsum_out hp) h
  refine rows_uniq ((List.perm_ext_iff_of_nodup (nd ts) (nd us)).mpr fun p => (mem ts e p).trans (mem us rfl p).symm) ((sorted_rows _).filter _) ((sorted_rows _).filter _)
theorem tsum_Sg (ts : List Tm) (p : List Int) : tsum ts p = Sg ts fun t => if t.pl = p then t.c else 0 := by
  show Sg (ts.filter fun t => decide (t.pl = p)) (fun t => t.c) = _
  rw [Sg_filter]
  exact Sg_congr fun t _ => by simp
theorem wp_at (xs : List Int) (i : Nat) : (Sg (wp xs) fun a => if a.2 = i then a.1 else 0) = xs.getD i 0 := by
  unfold wp
  rw [Sg_filter]
  have e1 : ∀ a ∈ xs.zipIdx, (if decide (a.1 ≠ 0) = true then (if a.2 = i then a.1 else 0) else 0) = (if a.2 = i then a.1 else 0) := fun a _ => by
    by_cases h : a.1 = 0
    · rw [if_neg (by simpa using h)]
      split <;> simp [h]
    · rw [if_pos (by simpa using h)]
  rw [Sg_congr e1]
  clear e1
  have key : ∀ (xs : List Int) (k : Nat), (Sg (xs.zipIdx k) fun a => if a.2 = k + i then a.1 else 0) = xs.getD i 0 := by
    induction i with
    | zero =>
      intro xs k
      cases xs with
      | nil => rfl
      | cons x xs =>
        rw [List.zipIdx_cons, Sg_cons, Sg_zero' fun a ha => ?_]
        · simp
        · have := (List.mem_zipIdx ha).1
          rw [if_neg (by omega)]
    | succ i ih =>
      intro xs k
      cases xs with
      | nil => rfl
      | cons x xs =>
        rw [List.zipIdx_cons, Sg_cons, if_neg (by (try dsimp only); omega), Int.zero_add]
        have := ih xs (k + 1)
        rw [show k + 1 + i = k + (i + 1) by omega] at this
        rw [this]; rfl
  have := key xs 0
  rw [Nat.zero_add] at this
  exact this
theorem pl_eq (a b c k i j : Nat) : ([(a : Int), b, c] = [(k : Int), i, j]) ↔ a = k ∧ b = i ∧ c = j := by
  simp [Int.natCast_inj]
theorem tsum_by (ps : List Pr) (k i j : Nat) : tsum (byTs ps) [(k : Int), i, j] = Sg ps fun p => p.o.getD k 0 * (p.l.getD i 0 * p.r.getD j 0) := by
  rw [tsum_Sg]
  unfold byTs
  rw [Sg_flatMap]
  refine Sg_congr fun p _ => ?_
  unfold byT1
  rw [Sg_flatMap, ← wp_at p.o k, ← wp_at p.l i, ← wp_at p.r j]
  rw [Sg_mulR (Sg (wp p.r) fun a => if a.2 = j then a.1 else 0) (wp p.l), Sg_mul (Sg (wp p.o) fun a => if a.2 = k then a.1 else 0) (wp p.l)]
  refine Sg_congr fun a _ => ?_
  unfold byT2
  rw [Sg_flatMap, Sg_mul (if a.2 = i then a.1 else 0) (wp p.r), Sg_mul (Sg (wp p.o) fun a => if a.2 = k then a.1 else 0) (wp p.r)]
  refine Sg_congr fun b _ => ?_
  unfold byT3
  rw [Sg_map, Sg_mulR _ (wp p.o)]
  refine Sg_congr fun c _ => ?_
  show (if [(c.2 : Int), (a.2 : Int), (b.2 : Int)] = [(k : Int), i, j] then a.1 * b.1 * c.1 else 0) = _
  by_cases h1 : c.2 = k
  · by_cases h2 : a.2 = i
    · by_cases h3 : b.2 = j
      · rw [if_pos ((pl_eq _ _ _ _ _ _).mpr ⟨h1, h2, h3⟩), if_pos h1, if_pos h2, if_pos h3]
        rw [Int.mul_comm]
      · rw [if_neg fun h => h3 ((pl_eq _ _ _ _ _ _).mp h).2.2, if_neg h3]; simp
    · rw [if_neg fun h => h2 ((pl_eq _ _ _ _ _ _).mp h).2.1, if_neg h2]; simp
  · rw [if_neg fun h => h1 ((pl_eq _ _ _ _ _ _).mp h).1, if_neg h1]; simp
/-- the row that is 1 at i alone -/
theorem sg_len (n : Nat) (k : Int) : (sg n k).length = n := by unfold sg; rw [List.length_map, List.length_range]
theorem sg_getD {n i m : Nat} (hm : m < n) : (sg n (i : Int)).getD m 0 = if m = i then 1 else 0 := by
  unfold sg
  rw [List.getD_eq_getElem?_getD, List.getElem?_map, List.getElem?_range hm]
  show (if decide ((m : Int) = i) = true then (1 : Int) else 0) = _
  by_cases h : m = i
  · rw [if_pos h, if_pos (by simpa using congrArg (Nat.cast (R := Int)) h)]
  · rw [if_neg h, if_neg (by simpa [Int.natCast_inj] using h)]
theorem dot_sg {n i : Nat} {xs : List Int} (hl : xs.length = n) (hi : i < n) : dot xs (sg n i) = xs.getD i 0 := by
  rw [dot_range n xs (sg n i) hl (sg_len n i)]
  show Sg (List.range n) _ = _
  rw [← Sg_at hi fun m => xs.getD m 0]
  exact Sg_congr fun m hm => by
    rw [sg_getD (List.mem_range.mp hm)]
    split <;> simp
theorem tsum_task {ts : List Tm} {a b c k i j : Nat} (hf : ∀ t ∈ ts, t.fits c a b) (hi : i < a) (hj : j < b) : tsum ts [(k : Int), i, j] = valAt ts (sg a i) (sg b j) k := by
  rw [tsum_Sg, valAt_Sg]
  refine Sg_congr fun t ht => ?_
  have f := hf t ht
  obtain ⟨tk, ti, tj, tc⟩ := t
  obtain ⟨k0, k1, i0, i1, j0, j1, c0, c1⟩ := f
  dsimp only at *
  obtain ⟨k', rfl⟩ : ∃ k' : Nat, tk = k' := ⟨tk.toNat, by omega⟩
  obtain ⟨i', rfl⟩ : ∃ k' : Nat, ti = k' := ⟨ti.toNat, by omega⟩
  obtain ⟨j', rfl⟩ : ∃ k' : Nat, tj = k' := ⟨tj.toNat, by omega⟩
  show (if [(k' : Int), i', j'] = [(k : Int), i, j] then tc else 0) = _
  rw [Int.toNat_natCast, Int.toNat_natCast, sg_getD (by omega), sg_getD (by omega)]
  by_cases h1 : k' = k
  · by_cases h2 : i' = i
    · by_cases h3 : j' = j
      · rw [if_pos ((pl_eq _ _ _ _ _ _).mpr ⟨h1, h2, h3⟩), if_pos (by omega), if_pos h2, if_pos h3]; simp
      · rw [if_neg fun h => h3 ((pl_eq _ _ _ _ _ _).mp h).2.2, if_neg h3]; simp
    · rw [if_neg fun h => h2 ((pl_eq _ _ _ _ _ _).mp h).2.1, if_neg h2]; simp
  · rw [if_neg fun h => h1 ((pl_eq _ _ _ _ _ _).mp h).1, if_neg (by omega)]
theorem tel_sg {ps : List Pr} {a b c k i j : Nat} (hf : ∀ p ∈ ps, p.l.length = a ∧ p.r.length = b ∧ p.o.length = c) (hi : i < a) (hj : j < b) : tsum (byTs ps) [(k : Int), i, j] = telA ps (sg a i) (sg b j) k := by
  rw [tsum_by]
  show _ = Sg ps _
  refine Sg_congr fun p hp => ?_
  obtain ⟨h1, h2, h3⟩ := hf p hp
  rw [dot_sg h1 hi, dot_sg h2 hj]
theorem by_mem {ps : List Pr} {t : Tm} (h : t ∈ byTs ps) : ∃ p ∈ ps, ∃ i j k : Nat, i < p.l.length ∧ j < p.r.length ∧ k < p.o.length ∧ t = ⟨k, i, j, p.l.getD i 0 * p.r.getD j 0 * p.o.getD k 0⟩ := by
  obtain ⟨p, hp, h⟩ := List.mem_flatMap.mp h
  obtain ⟨a, ha, h⟩ := List.mem_flatMap.mp h
  obtain ⟨b, hb, h⟩ := List.mem_flatMap.mp h
  obtain ⟨c, hc, rfl⟩ := List.mem_map.mp h
  have ma := wp_mem ha
  have mb := wp_mem hb
  have mc := wp_mem hc
  exact ⟨p, hp, a.2, b.2, c.2, ma.2.1, mb.2.1, mc.2.1, by rw [ma.2.2.1, mb.2.2.1, mc.2.2.1]⟩
/-- two that tell alike at unit rows have the same terms -/
theorem does_of {ps : List Pr} {ts : List Tm} {a b c : Nat} (hp : ∀ p ∈ ps, p.l.length = a ∧ p.r.length = b ∧ p.o.length = c) (ht : ∀ t ∈ ts, t.fits c a b)
    (h : ∀ i j k, i < a → j < b → k < c → telA ps (sg a i) (sg b j) k = valAt ts (sg a i) (sg b j) k) : canonT (byTs ps) = canonT ts := by
  refine canonT_ext fun p hm => ?_
  have key : ∃ k i j : Nat, k < c ∧ i < a ∧ j < b ∧ p = [(k : Int), i, j] := by
    rcases hm with hm | hm
    · obtain ⟨t, h1, rfl⟩ := (mem_pls _ _).mp hm
      obtain ⟨q, hq, i, j, k, h2, h3, h4, rfl⟩ := by_mem h1
      obtain ⟨l1, l2, l3⟩ := hp q hq
      exact ⟨k, i, j, by omega, by omega, by omega, rfl⟩
    · obtain ⟨t, h1, rfl⟩ := (mem_pls _ _).mp hm
      obtain ⟨k0, k1, i0, i1, j0, j1, _, _⟩ := ht t h1
      exact ⟨t.k.toNat, t.i.toNat, t.j.toNat, by omega, by omega, by omega, by
        show [t.k, t.i, t.j] = _
        rw [Int.toNat_of_nonneg k0, Int.toNat_of_nonneg i0, Int.toNat_of_nonneg j0]⟩
  obtain ⟨k, i, j, hk, hi, hj, rfl⟩ := key
  rw [tel_sg hp hi hj, tsum_task ht hi hj, h i j k hi hj hk]
end Cm
namespace Cm
open PySem PySem.Spec PyProof.Rows L2 FL
/-! ### _law_sums -/
def rb_law_sums (r_with_places : FSpec) : RS := (rSeq (rSet 1 (rDNew true))
  (rSeq (rFor (rItA (rBin dIx (oV (rVar 0)) (oV (rC (.int 3))))) (gTp 3 (gCs (gNm 2) (gCs (gNm 3) (gCs (gNm 4) gNl)))) (rSeq (rSetF 5 (rCall [] r_with_places (rAC (oV (rVar 3)) rA0)))
  (rSeq (rSetF 6 (rCall [] r_with_places (rAC (oV (rVar 4)) rA0)))
  (rFor (rItA (rCall [] r_with_places (rAC (oV (rVar 2)) rA0))) (gTp 2 (gCs (gNm 7) (gCs (gNm 8) gNl))) (rFor (rItA (rVar 5)) (gTp 2 (gCs (gNm 9) (gCs (gNm 10) gNl))) (rFor (rItA (rVar 6)) (gTp 2 (gCs (gNm 12) (gCs (gNm 13) gNl))) (rSetD 1 (oV (rTup (rAC (oV (rVar 12)) (rAC (oV (rVar 7)) (rAC (oV (rVar 9)) rA0))))) (rBin dAdd (oV (rGet2 (oN 1) (oV (rTup (rAC (oV (rVar 12)) (rAC (oV (rVar 7)) (rAC (oV (rVar 9)) rA0))))) (rC (.int 0)))) (oV (rBin dMulX (oV (rBin dMulX (oV (rVar 8)) (oV (rVar 10)))) (oV (rVar 13))))))))))))
  (rRet (rCB (dDictP true) (rAC (oV (rCompD 1 (gNm 11) (rTst (rBin dNe (oV (rBin dIx (oN 1) (oV (rVar 11)))) (oV (rC (.int 0))))) (rTup (rAC (oV (rVar 11)) (rAC (oV (rBin dIx (oN 1) (oV (rVar 11)))) rA0))) [11])) rA0)))))
abbrev RD_law_sums (r : FSpec) (r_with_places : FSpec) : Prop := ∀ ds ED QD, ds.length = 1 → r ds ED QD → (rb_law_sums r_with_places) (startD ["_law_scheme_here", "_law_found", "_law_l", "_law_r", "_law_o", "_law_rights", "_law_outs", "_law_i", "_law_a", "_law_j", "_law_b", "_law_place", "_law_k", "_law_c"] ds) (fun c fs ρ => ED c fs (ρ.take 1)) (finD 1 QD)
end Cm
/-! Ns: the law's own sums of a scheme (dict of places); dicts of places alike. -/
namespace Cm
open PySem PySem.Spec PyProof.Rows L2 FL
set_option maxHeartbeats 0
def tsD (ts : List Tm) : D := .dct .flat true ((pls ts).map rowD) ((pls ts).map fun p => .int (tsum ts p))
def nz (ts : List Tm) : List (List Int) := (pls ts).filter fun p => decide (tsum ts p ≠ 0)
def sumD (ts : List Tm) : D := .dct .flat true ((nz ts).map rowD) ((nz ts).map fun p => .int (tsum ts p))
theorem nodup_len {α : Type} [DecidableEq α] : ∀ {l k : List α}, l.Nodup → (∀ x ∈ l, x ∈ k) → l.length ≤ k.length
  | [], _, _, _ => Nat.zero_le _
  | a :: l, k, h, s => by
    have h1 := List.nodup_cons.mp h
    have ha := s a List.mem_cons_self
    have := nodup_len (k := k.erase a) h1.2 fun x hx => (List.mem_erase_of_ne (fun z => h1.1 (by rw [← z]; exact hx))).mpr (s x (List.mem_cons_of_mem _ hx))
    rw [List.length_erase_of_mem ha] at this
    have hk := List.length_pos_of_mem ha
    rw [List.length_cons]
    omega
theorem pls_in {U : List Tm} {L : List (List Int)} (h : ∀ t ∈ U, t.pl ∈ L) : (pls U).length ≤ L.length := nodup_len (pls_nodup U) fun p hp => by
  obtain ⟨t, ht, rfl⟩ := (mem_pls _ _).mp hp
  exact h t ht
theorem flat_sub {α β : Type} (f : α → List β) (l : List α) (i : Nat) {x : β} (h : x ∈ (l.take i).flatMap f) : x ∈ l.flatMap f := by
  obtain ⟨a, ha, h⟩ := List.mem_flatMap.mp h
  exact List.mem_flatMap.mpr ⟨a, List.mem_of_mem_take ha, h⟩
def r_law_sums : FSpec := fun ds _ Q => ∃ (n m k : Int) (ps : List Pr), ds = [schD n m k ps] ∧ (∀ p ∈ ps, p.bts 10000) ∧ (∃ L : List (List Int), (∀ t ∈ byTs ps, t.pl ∈ L) ∧ L.length ≤ 1000000) ∧ ∀ os, Q (sumD (byTs ps)) os
/-- a dict made of rows all new -/
theorem mkS_rows (g : List Int → D) : ∀ (xs P : List (List Int)) (vs : List D), (P ++ xs).Nodup → mkS true (P.map rowD) vs (xs.map fun p => (rowD p, g p)) = ((P ++ xs).map rowD, vs ++ xs.map g)
  | [], P, vs, _ => by simp [mkS]
  | x :: xs, P, vs, h => by
    have hx : x ∉ P := fun z => by
      rw [List.nodup_append] at h
      exact h.2.2 _ z _ List.mem_cons_self rfl
    have e : kIdx true (P.map rowD) (rowD x) = none := by rw [row_kIdx]; exact idx_out hx
    have ih := mkS_rows g xs (P ++ [x]) (vs ++ [g x]) (by rw [List.append_assoc]; exact h)
    unfold mkS at ih ⊢
    rw [List.map_cons, List.foldl_cons]
    show List.foldl _ (putKs true (P.map rowD) (rowD x), putDs true (P.map rowD) (rowD x) vs (g x)) _ = _
    unfold putKs putDs
    rw [e]
    rw [List.map_append] at ih
    refine (ih.trans ?_)
    simp
theorem ts_look (U : List Tm) (p : List Int) : dLook true ((pls U).map rowD) ((pls U).map fun p => .int (tsum U p)) (rowD p) = some (.int (tsum U p)) ∨ (dLook true ((pls U).map rowD) ((pls U).map fun p => D.int (tsum U p)) (rowD p) = none ∧ (D.int 0) = .int (tsum U p)) := by
  have := look_rows (g := fun p => D.int (tsum U p)) (P := pls U) (q := p)
  by_cases h : p ∈ pls U
  · rw [if_pos h] at this; exact .inl this
  · rw [if_neg h] at this; exact .inr ⟨this, by rw [tsum_out h]⟩
theorem ts_put (U : List Tm) (t : Tm) : D.dct .flat true (putKs true ((pls U).map rowD) (rowD t.pl)) (putDs true ((pls U).map rowD) (rowD t.pl) ((pls U).map fun p => .int (tsum U p)) (.int (tsum U t.pl + t.c))) = tsD (U ++ [t]) := by
  unfold tsD
  rw [pls_snoc]
  rw [putKs_rows, putDs_rows (g' := fun p => D.int (tsum (U ++ [t]) p)) (pls_nodup _) (by rw [tsum_snoc, if_pos rfl]) (fun p hp => by rw [tsum_snoc, if_neg (Ne.symm hp), Int.add_zero])]
theorem rd_law_sums : RD_law_sums r_law_sums r_with_places := by
  rintro ds ED QD - ⟨n, m, k, ps, rfl, hb, ⟨L, hL, hz⟩, q⟩
  show rb_law_sums _ [some (schD n m k ps), none, none, none, none, none, none, none, none, none, none, none, none, none] _ _
  refine ⟨forR_on [1] [2, 3, 4, 5, 6, 7, 8, 9, 10, 12, 13] (fun i s => s = [some (tsD (byTs (ps.take i)))]) _ _ rfl ?_ ?_⟩
  · rintro i x s j hx hj rfl
    obtain ⟨e2, e3, e4, e5, e6, e7, e8, e9, e10, e12, e13, rfl⟩ := len11 hj
    rw [List.getElem?_map] at hx
    obtain ⟨p, hp, rfl⟩ := Option.map_eq_some_iff.mp hx
    have hbp := hb p (List.mem_of_getElem? hp)
    have z1 := flat_le1 (fun p => byT1 p (wp p.l)) hp
    have t1 : byTs (ps.take (i + 1)) = byTs (ps.take i) ++ byT1 p (wp p.l) := flat_take (fun p => byT1 p (wp p.l)) hp
    refine ⟨rfl, p.r, rfl, fun _ => ⟨p.o, rfl, fun _ => ⟨p.l, rfl, fun _ => ⟨forR_on [1] [7, 8, 9, 10, 12, 13] (fun i1 s => s = [some (tsD (byTs (ps.take i) ++ byT1 p ((wp p.l).take i1)))]) _ _ (by rw [List.take_zero]; simp [byT1]; rfl) ?_ ?_⟩⟩⟩⟩
    · rintro i1 x s j hx hj rfl
      obtain ⟨e7, e8, e9, e10, e12, e13, rfl⟩ := len6 hj
      rw [List.getElem?_map] at hx
      obtain ⟨a, ha, rfl⟩ := Option.map_eq_some_iff.mp hx
      have ma := wp_mem (List.mem_of_getElem? ha)
      have ba := hbp.l _ ma.1
      have z2 := flat_le1 (fun a => byT2 a p (wp p.r)) ha
      have t2 : byT1 p ((wp p.l).take (i1 + 1)) = byT1 p ((wp p.l).take i1) ++ byT2 a p (wp p.r) := flat_take (fun a => byT2 a p (wp p.r)) ha
      refine ⟨rfl, ⟨forR_on [1] [9, 10, 12, 13] (fun i2 s => s = [some (tsD (byTs (ps.take i) ++ byT1 p ((wp p.l).take i1) ++ byT2 a p ((wp p.r).take i2)))]) _ _ (by rw [List.take_zero]; simp [byT2]; rfl) ?_ ?_⟩⟩
      · rintro i2 x s j hx hj rfl
        obtain ⟨e9, e10, e12, e13, rfl⟩ := len4 hj
        rw [List.getElem?_map] at hx
        obtain ⟨b, hb', rfl⟩ := Option.map_eq_some_iff.mp hx
        have mb := wp_mem (List.mem_of_getElem? hb')
        have bb := hbp.r _ mb.1
        have z3 := flat_le1 (fun b => byT3 a b p.o) hb'
        have t3 : byT2 a p ((wp p.r).take (i2 + 1)) = byT2 a p ((wp p.r).take i2) ++ byT3 a b p.o := flat_take (fun b => byT3 a b p.o) hb'
        refine ⟨rfl, ⟨forR_on [1] [12, 13] (fun i3 s => s = [some (tsD (byTs (ps.take i) ++ byT1 p ((wp p.l).take i1) ++ byT2 a p ((wp p.r).take i2) ++ (byT3 a b p.o).take i3))]) _ _ (by rw [List.take_zero, List.append_nil]; rfl) ?_ ?_⟩⟩
        · rintro i3 x s j hx hj rfl
          obtain ⟨e12, e13, rfl⟩ := len2 hj
          rw [List.getElem?_map] at hx
          obtain ⟨c, hc, rfl⟩ := Option.map_eq_some_iff.mp hx
          have mc := wp_mem (List.mem_of_getElem? hc)
          have bc := hbp.o _ mc.1
          generalize hW : byTs (ps.take i) ++ byT1 p ((wp p.l).take i1) ++ byT2 a p ((wp p.r).take i2) = W
          have h3 : (byT3 a b p.o)[i3]? = some ⟨c.2, a.2, b.2, a.1 * b.1 * c.1⟩ := by unfold byT3; rw [List.getElem?_map, hc]; rfl
          have t4 : (byT3 a b p.o).take (i3 + 1) = (byT3 a b p.o).take i3 ++ [⟨c.2, a.2, b.2, a.1 * b.1 * c.1⟩] := by rw [List.take_succ, h3]; rfl
          have u3 : ∀ x ∈ byT3 a b p.o, x ∈ byT2 a p (wp p.r) := fun x hx => List.mem_flatMap.mpr ⟨b, List.mem_of_getElem? hb', hx⟩
          have u2 : ∀ x ∈ byT2 a p (wp p.r), x ∈ byT1 p (wp p.l) := fun x hx => List.mem_flatMap.mpr ⟨a, List.mem_of_getElem? ha, hx⟩
          have u1 : ∀ x ∈ byT1 p (wp p.l), x ∈ byTs ps := fun x hx => List.mem_flatMap.mpr ⟨p, List.mem_of_getElem? hp, hx⟩
          generalize ht : (⟨c.2, a.2, b.2, a.1 * b.1 * c.1⟩ : Tm) = t at h3 t4
          have lb : ∀ x ∈ W ++ (byT3 a b p.o).take i3, x.pl ∈ L := fun x hx => hL x (by
            rw [← hW] at hx
            rcases List.mem_append.mp hx with hx | hx
            · rcases List.mem_append.mp hx with hx | hx
              · rcases List.mem_append.mp hx with hx | hx
                · exact flat_sub _ _ _ hx
                · exact u1 x (flat_sub _ _ _ hx)
              · exact u1 x (u2 x (flat_sub _ _ _ hx))
            · exact u1 x (u2 x (u3 x (List.mem_of_mem_take hx))))
          generalize (byT3 a b p.o).take i3 = V at t4 lb
          have lk := ts_look (W ++ V) t.pl
          have pt := ts_put (W ++ V) t
          have lp := pls_in lb
          rw [← ht] at lk pt
          refine ⟨rfl, rfl, row_keyOk [(c.2 : Int), a.2, b.2], rfl, pickOr_of lk rfl ⟨ba.ok bb, (ba.mul bb).ok bc, row_keyOk [(c.2 : Int), a.2, b.2], ?_, rfl, ?_⟩⟩
          · rw [List.length_map, sizeLine_eq]
            omega
          · rw [t4, ← ht, ← List.append_assoc]
            exact congrArg (fun d => [some d]) pt
        · rintro s j hj rfl
          obtain ⟨e12, e13, rfl⟩ := len2 hj
          refine ⟨rfl, ?_⟩
          rw [List.length_map, show (wp p.o).length = (byT3 a b p.o).length from (List.length_map _).symm, List.take_length, t3, ← List.append_assoc]; rfl
      · rintro s j hj rfl
        obtain ⟨e9, e10, e12, e13, rfl⟩ := len4 hj
        refine ⟨rfl, ?_⟩
        rw [List.length_map, List.take_length, t2, ← List.append_assoc]; rfl
    · rintro s j hj rfl
      obtain ⟨e7, e8, e9, e10, e12, e13, rfl⟩ := len6 hj
      refine ⟨rfl, ?_⟩
      rw [List.length_map, List.take_length, t1]; rfl
  · rintro s j hj rfl
    obtain ⟨e2, e3, e4, e5, e6, e7, e8, e9, e10, e12, e13, rfl⟩ := len11 hj
    rw [List.length_map, List.take_length]
    have hl := pls_in hL
    generalize byTs ps = U at hl q
    refine ⟨own_map fun _ => rfl, fun k hk => ?_, by rw [List.length_map, sizeLine_eq]; omega, ⟨compR_if (pls U) rowD (fun p => decide (tsum U p ≠ 0)) (fun p => .tup false [rowD p, .int (tsum U p)]) rfl (fun p hp => ?_) (fun _ => rfl) ?_⟩⟩
    · obtain ⟨p, hp, rfl⟩ := List.mem_map.mp hk
      show (p.map D.int).length ≤ 1000
      rw [List.length_map, pls_three hp]; decide
    · have lk : dLook true ((pls U).map rowD) ((pls U).map fun p => .int (tsum U p)) (rowD p) = some (.int (tsum U p)) := by rw [look_rows, if_pos hp]
      refine ⟨row_keyOk p, pick_of lk rfl ⟨fun h => ?_, fun h => ?_⟩⟩
      · have hne : tsum U p ≠ 0 := by simpa using h
        refine ⟨row_keyOk p, pick_of lk rfl ⟨?_, rfl⟩⟩
        rw [if_pos (decide_eq_true hne)]; rfl
      · have he : tsum U p = 0 := by simpa using h
        refine ⟨?_, rfl⟩
        rw [if_neg (by simpa using he)]
    · refine ⟨rfl, (nz U).map fun p => (rowD p, D.int (tsum U p)), by rw [List.map_map]; rfl, fun p hp => ?_, ?_⟩
      · obtain ⟨x, _, rfl⟩ := List.mem_map.mp hp
        exact row_keyOk x
      · have e := mkS_rows (fun p => D.int (tsum U p)) (nz U) [] [] (by rw [List.nil_append]; exact (pls_nodup U).filter _)
        rw [List.nil_append, List.nil_append] at e
        have q := q
        unfold sumD at q
        rw [show (nz U).map rowD = (mkS true ([] : List D) ([] : List D) ((nz U).map fun p => (rowD p, D.int (tsum U p)))).1 from (congrArg Prod.fst e).symm, show ((nz U).map fun p => D.int (tsum U p)) = (mkS true ([] : List D) ([] : List D) ((nz U).map fun p => (rowD p, D.int (tsum U p)))).2 from (congrArg Prod.snd e).symm] at q
        exact q _
theorem sums_len {ps : List Pr} (h : (byTs ps).length ≤ 1000000) : ∃ L : List (List Int), (∀ t ∈ byTs ps, t.pl ∈ L) ∧ L.length ≤ 1000000 := ⟨(byTs ps).map Tm.pl, fun t ht => List.mem_map.mpr ⟨t, ht, rfl⟩, by rw [List.length_map]; exact h⟩
/-! ### dicts of places alike -/
theorem intK_rows {g : List Int → Int} {P : List (List Int)} {q : List Int} (h : q ∈ P) : intK (P.map rowD) (P.map g) (rowD q) = some (g q) := by
  unfold intK
  rw [row_kIdx]
  obtain ⟨i, h1, h2⟩ := idx_in h
  rw [h1]
  show (P.map g)[i]? = _
  rw [List.getElem?_map, h2]; rfl
/-- == of two dicts of places that are alike -/
theorem same_dicts {P P' : List (List Int)} {g g' : List Int → Int} (n : P.Nodup) (n' : P'.Nodup) (hm : ∀ p, p ∈ P ↔ p ∈ P') (hg : ∀ p ∈ P, g p = g' p) : ((P.map rowD).length == (P'.map rowD).length && tabD (P.map rowD) (P.map g) (P'.map rowD) (P'.map g')) = true := by
  have pm : P.Perm P' := (List.perm_ext_iff_of_nodup n n').mpr hm
  rw [Bool.and_eq_true, List.length_map, List.length_map, pm.length_eq]
  refine ⟨beq_self_eq_true _, ?_⟩
  unfold tabD
  rw [List.zip_map', List.all_map, List.all_eq_true]
  intro p hp
  show decide (intK _ _ (rowD p) = some (g p)) = true
  rw [intK_rows ((hm p).mp hp), hg p hp]
  simp
theorem nz_mem (ts : List Tm) (p : List Int) : p ∈ nz ts ↔ tsum ts p ≠ 0 := by
  unfold nz
  rw [List.mem_filter, decide_eq_true_iff]
  refine ⟨fun h => h.2, fun h => ⟨?_, h⟩⟩
  exact Classical.byContradiction fun z => h (tsum_out z)
theorem nz_nodup (ts : List Tm) : (nz ts).Nodup := (pls_nodup ts).filter _
/-- dicts told by places -/
structure Dt (P : List (List Int)) (g : List Int → Int) (ts : List Tm) : Prop where
  nd : P.Nodup
  mem : ∀ p, p ∈ P ↔ tsum ts p ≠ 0
  val : ∀ p ∈ P, g p = tsum ts p
def dtD (o : Ow) (P : List (List Int)) (g : List Int → Int) : D := .dct o true (P.map rowD) ((P.map g).map D.int)
theorem Dt.sum (ts : List Tm) : Dt (nz ts) (tsum ts) ts := ⟨nz_nodup ts, nz_mem ts, fun _ _ => rfl⟩
theorem sumD_dt (ts : List Tm) : sumD ts = dtD .flat (nz ts) (tsum ts) := by unfold sumD dtD; rw [List.map_map]; rfl
theorem Dt.same {P P' : List (List Int)} {g g' : List Int → Int} {ts us : List Tm} (h : Dt P g ts) (h' : Dt P' g' us) (e : ∀ p, tsum ts p = tsum us p) : ((P.map rowD).length == (P'.map rowD).length && tabD (P.map rowD) (P.map g) (P'.map rowD) (P'.map g')) = true :=
  same_dicts h.nd h'.nd (fun p => by rw [h.mem, h'.mem, e]) fun p hp => by rw [h.val p hp, h'.val p ((h'.mem p).mpr (by rw [← e]; exact (h.mem p).mp hp)), e]
/-- == tells True -/
theorem dt_eq {o o' : Ow} {P P' : List (List Int)} {g g' : List Int → Int} {ts us : List Tm} {Q : D → Prop} (h : Dt P g ts) (h' : Dt P' g' us) (e : ∀ p, tsum ts p = tsum us p) (q : Q (.bl true)) : dEqT false (dtD o P g) (dtD o' P' g') Q :=
  ⟨o, _, _, o', _, _, rfl, rfl, by rw [h.same h' e]; exact q⟩
theorem dt_ne {o o' : Ow} {P P' : List (List Int)} {g g' : List Int → Int} {ts us : List Tm} {Q : D → Prop} (h : Dt P g ts) (h' : Dt P' g' us) (e : ∀ p, tsum ts p = tsum us p) (q : Q (.bl false)) : dEqT true (dtD o P g) (dtD o' P' g') Q :=
  ⟨o, _, _, o', _, _, rfl, rfl, by rw [h.same h' e]; exact q⟩
end Cm
/-! Mg: products of bounded numbers; what products tell, place by place. -/
namespace Cm
open PySem PySem.Spec PyProof.Rows L2 FL
def Mg (B : Int) (xs : List Int) : Prop := ∀ x ∈ xs, -B ≤ x ∧ x ≤ B
theorem Mg.mono {B C : Int} {xs : List Int} (h : Mg B xs) (k : B ≤ C) : Mg C xs := fun x hx => by have := h x hx; omega
theorem Mg.bts {B : Int} {xs : List Int} (h : Mg B xs) {n : Nat} (k : B.natAbs < 2 ^ n) : Bts n xs := fun x hx => bt_in (h x hx).1 (h x hx).2 k
structure Pr.mg (p : Pr) (B : Int) : Prop where
  l : Mg B p.l
  r : Mg B p.r
  o : Mg B p.o
theorem Pr.mg.mono {p : Pr} {B C : Int} (h : p.mg B) (k : B ≤ C) : p.mg C := ⟨h.l.mono k, h.r.mono k, h.o.mono k⟩
theorem Pr.mg.bts {p : Pr} {B : Int} (h : p.mg B) {n : Nat} (k : B.natAbs < 2 ^ n) : p.bts n := ⟨h.l.bts k, h.r.bts k, h.o.bts k⟩
/-- what a product tells at k, i, j -/
def Pr.one (p : Pr) (k i j : Nat) : Int := p.o.getD k 0 * (p.l.getD i 0 * p.r.getD j 0)
def tel (ps : List Pr) (k i j : Nat) : Int := Sg ps fun p => p.one k i j
theorem tel_by (ps : List Pr) (k i j : Nat) : tsum (byTs ps) [(k : Int), i, j] = tel ps k i j := tsum_by ps k i j
theorem tel_perm {ps qs : List Pr} (h : ps.Perm qs) (k i j : Nat) : tel ps k i j = tel qs k i j := Sg_perm h _
theorem tel_append (ps qs : List Pr) (k i j : Nat) : tel (ps ++ qs) k i j = tel ps k i j + tel qs k i j := Sg_append _ _ _
theorem tel_cons (p : Pr) (ps : List Pr) (k i j : Nat) : tel (p :: ps) k i j = p.one k i j + tel ps k i j := Sg_cons _ _ _
theorem tel_nil (k i j : Nat) : tel [] k i j = 0 := rfl
/-- places of natural numbers -/
def NatPl (ts : List Tm) : Prop := ∀ t ∈ ts, ∃ k i j : Nat, t.pl = [(k : Int), i, j]
theorem by_nat (ps : List Pr) : NatPl (byTs ps) := fun t ht => by
  obtain ⟨p, _, i, j, k, _, _, _, rfl⟩ := by_mem ht
  exact ⟨k, i, j, rfl⟩
theorem tsum_ext {ts us : List Tm} (h : NatPl ts) (g : NatPl us) (e : ∀ k i j : Nat, tsum ts [(k : Int), i, j] = tsum us [(k : Int), i, j]) (p : List Int) : tsum ts p = tsum us p := by
  by_cases h1 : p ∈ pls ts
  · obtain ⟨t, ht, rfl⟩ := (mem_pls _ _).mp h1
    obtain ⟨k, i, j, e1⟩ := h t ht
    rw [e1]; exact e k i j
  · by_cases h2 : p ∈ pls us
    · obtain ⟨t, ht, rfl⟩ := (mem_pls _ _).mp h2
      obtain ⟨k, i, j, e1⟩ := g t ht
      rw [e1]; exact e k i j
    · rw [tsum_out h1, tsum_out h2]
/-- terms of unlike places, none 0 -/
structure Dis (ts : List Tm) : Prop where
  nd : (ts.map Tm.pl).Nodup
  nz : ∀ t ∈ ts, t.c ≠ 0
theorem Dis.dt {ts : List Tm} (h : Dis ts) : Dt (pls ts) (tsum ts) ts := ⟨pls_nodup ts, fun p => by
  rw [mem_pls]
  constructor
  · rintro ⟨t, ht, rfl⟩
    rw [tsum_distinct h.nd ht]; exact h.nz t ht
  · intro hp
    exact Classical.byContradiction fun z => hp (tsum_out fun hz => z ((mem_pls _ _).mp hz)), fun _ _ => rfl⟩
theorem tsD_dt (ts : List Tm) : tsD ts = dtD .flat (pls ts) (tsum ts) := by unfold tsD dtD; rw [List.map_map]; rfl
theorem ts_store {T U : List Tm} {t : Tm} (h : (T.map Tm.pl).Nodup) (ht : t ∈ T) : D.dct .flat true (putKs true ((pls U).map rowD) (rowD t.pl)) (putDs true ((pls U).map rowD) (rowD t.pl) ((pls U).map fun p => .int (tsum T p)) (.int t.c)) = .dct .flat true ((pls (U ++ [t])).map rowD) ((pls (U ++ [t])).map fun p => .int (tsum T p)) := by
  rw [pls_snoc]
  rw [putKs_rows, putDs_rows (g' := fun p => D.int (tsum T p)) (pls_nodup _) (by rw [tsum_distinct h ht]) (fun p hp => rfl)]
/-- a dict that holds terms of T so far -/
def spD (T U : List Tm) : D := .dct .flat true ((pls U).map rowD) ((pls U).map fun p => .int (tsum T p))
theorem spD_all (T : List Tm) : spD T T = tsD T := rfl
theorem getD_neg (xs : List Int) (i : Nat) : (xs.map fun x => -x).getD i 0 = -xs.getD i 0 := by
  rw [List.getD_eq_getElem?_getD, List.getD_eq_getElem?_getD, List.getElem?_map]
  cases xs[i]? <;> rfl
theorem getD_subz {xs ys : List Int} (h : xs.length = ys.length) (i : Nat) : ((xs.zip ys).map fun p => p.1 - p.2).getD i 0 = xs.getD i 0 - ys.getD i 0 := by
  rw [List.getD_eq_getElem?_getD, List.getD_eq_getElem?_getD, List.getD_eq_getElem?_getD, List.getElem?_map]
  by_cases hi : i < xs.length
  · rw [List.getElem?_eq_getElem (l := xs.zip ys) (by rw [List.length_zip]; omega), List.getElem?_eq_getElem hi, List.getElem?_eq_getElem (h ▸ hi), List.getElem_zip]; rfl
  · rw [List.getElem?_eq_none (l := xs.zip ys) (by rw [List.length_zip]; omega), List.getElem?_eq_none (by omega), List.getElem?_eq_none (by omega)]; rfl
theorem Mg.neg {B : Int} {xs : List Int} (h : Mg B xs) : Mg B (xs.map fun x => -x) := fun x hx => by
  obtain ⟨y, hy, rfl⟩ := List.mem_map.mp hx
  have := h y hy; omega
theorem Mg.subz {B C E : Int} {xs ys : List Int} (h : Mg B xs) (k : Mg C ys) (e : B + C ≤ E := by omega) : Mg E ((xs.zip ys).map fun p => p.1 - p.2) := fun x hx => by
  obtain ⟨⟨a, b⟩, hy, rfl⟩ := List.mem_map.mp hx
  have h1 := h a (List.of_mem_zip hy).1
  have h2 := k b (List.of_mem_zip hy).2
  dsimp only; omega
theorem pick_at {α : Type} {f : α → D} {xs : List α} {k : Int} {Q : D → Prop} (h0 : 0 ≤ k) (h1 : k < xs.length) (ho : ∀ a, (f a).own = false) (q : ∀ a, xs[k.toNat]? = some a → Q (f a)) : pick (atI (xs.map f) k) Q := by
  have hx : k.toNat < xs.length := by omega
  refine pick_of (d := f xs[k.toNat]) ?_ (ho _) (q _ (List.getElem?_eq_getElem hx))
  unfold atI
  rw [ixN_of h0 (by rw [List.length_map]; exact h1)]
  show (xs.map f)[k.toNat]? = _
  rw [List.getElem?_map, List.getElem?_eq_getElem hx]; rfl
/-- a list with one more at a place -/
theorem ins_perm {α : Type} (xs : List α) (n : Nat) (a : α) : (xs.take n ++ [a] ++ xs.drop n).Perm (a :: xs) := by
  have h : (xs.take n ++ [a]).Perm ([a] ++ xs.take n) := List.perm_append_comm
  have := h.append_right (xs.drop n)
  rw [List.append_assoc [a], List.take_append_drop] at this
  exact this
theorem ins_map {α : Type} (f : α → D) (xs : List α) (n : Nat) (a : α) : (xs.map f).take n ++ [f a] ++ (xs.map f).drop n = (xs.take n ++ [a] ++ xs.drop n).map f := by simp [List.map_take, List.map_drop]
end Cm
/-! Tx: contracts of texts written: sum_text, product_text, scheme_text, and the laws' own -/
namespace Cm
open PySem PySem.Spec PyProof.Rows L2 FL
set_option maxHeartbeats 0
def itxt (i : Int) : Str := Str.ofString (toString i)
theorem itxt_len {i : Int} (h0 : -1000 ≤ i) (h1 : i ≤ 1000) : (itxt i).length ≤ 5 := by
  have : ∀ n : Fin 2001, (itxt ((n.val : Int) - 1000)).length ≤ 5 := by decide +kernel
  have := this ⟨(i + 1000).toNat, by omega⟩
  rw [show (((i + 1000).toNat : Nat) : Int) - 1000 = i by omega] at this
  exact this
theorem lg {i : Int} (h0 : -1000 ≤ i) (h1 : i ≤ 1000) : i.natAbs.log2 < 1920 := Nat.lt_of_le_of_lt (Nat.log2_le_self _) (by omega)
theorem join_len (a : Str) : ∀ ys : List Str, (Str.join a ys).length ≤ (ys.map (·.length)).sum + ys.length * a.length
  | [] => Nat.zero_le _
  | [x] => by show x.length ≤ x.length + 0 + 1 * a.length; omega
  | x :: z :: r => by
    have := join_len a (z :: r)
    show (x ++ a ++ Str.join a (z :: r)).length ≤ _
    rw [Str.length_append, Str.length_append]
    simp only [List.map_cons, List.sum_cons, List.length_cons, Nat.add_mul] at this ⊢
    omega
theorem sum_len {B : Nat} : ∀ ys : List Str, (∀ y ∈ ys, y.length ≤ B) → (ys.map (·.length)).sum ≤ ys.length * B
  | [], _ => Nat.zero_le _
  | y :: ys, h => by
    have h1 := h y (List.mem_cons_self ..)
    have h2 := sum_len ys fun z hz => h z (List.mem_cons_of_mem _ hz)
    rw [List.map_cons, List.sum_cons, List.length_cons, Nat.add_mul]; omega
theorem jlen {a : Str} {ys : List Str} {B : Nat} (h : ∀ y ∈ ys, y.length ≤ B) : (Txt.join a ys).length ≤ ys.length * (B + a.length) := by
  rw [show Txt.join a ys = Str.join a ys from TL.join_eq a ys]
  have := join_len a ys
  have := sum_len ys h
  rw [Nat.mul_add]; omega
/-! ### the texts -/
def wordT (p : Int × Nat) : Str := itxt p.1 ++ (":" : Str) ++ itxt (p.2 : Nat)
def sumT (xs : List Int) : Str := if wp xs = [] then "-" else Txt.join " " ((wp xs).map wordT)
def prT (p : Pr) : Str := sumT p.l ++ (" * " : Str) ++ sumT p.r ++ (" > " : Str) ++ sumT p.o
def headT (a b c : Int) : Str := Txt.join " " ["scheme", itxt a, itxt b, itxt c]
def schT (a b c : Int) (ps : List Pr) : Str := Txt.join "\n" (headT a b c :: ps.map prT)
structure Tp (xs : List Int) : Prop where
  ln : xs.length ≤ 81
  bd : InB xs
structure PrT (p : Pr) : Prop where
  l : Tp p.l
  r : Tp p.r
  o : Tp p.o
theorem word_len {xs : List Int} (h : Tp xs) {p : Int × Nat} (hp : p ∈ wp xs) : (wordT p).length ≤ 11 := by
  obtain ⟨h1, h2, _, _⟩ := wp_mem hp
  have a := itxt_len (h.bd _ h1).1 (h.bd _ h1).2
  have b := itxt_len (i := (p.2 : Nat)) (by omega) (by have := h.ln; omega)
  have c : (":" : Str).length = 1 := by decide +kernel
  unfold wordT
  rw [Str.length_append, Str.length_append]; omega
theorem sumT_len {xs : List Int} (h : Tp xs) : (sumT xs).length ≤ 972 := by
  unfold sumT
  split
  · have c : ("-" : Str).length = 1 := by decide +kernel
    omega
  · have := jlen (a := " ") (ys := (wp xs).map wordT) (B := 11) fun y hy => by
      obtain ⟨p, hp, rfl⟩ := List.mem_map.mp hy
      exact word_len h hp
    rw [List.length_map, show (" " : Str).length = 1 by decide +kernel] at this
    have := wp_len xs
    have := h.ln
    omega
theorem prT_len {p : Pr} (h : PrT p) : (prT p).length ≤ 2922 := by
  have a := sumT_len h.l
  have b := sumT_len h.r
  have c := sumT_len h.o
  have d : (" * " : Str).length = 3 := by decide +kernel
  have e : (" > " : Str).length = 3 := by decide +kernel
  unfold prT
  rw [Str.length_append, Str.length_append, Str.length_append, Str.length_append]; omega
/-! ### contracts -/
def r_sum_text : FSpec := fun ds _ Q => ∃ xs : List Int, ds = [rowD xs] ∧ Tp xs ∧ ∀ os, Q (.str (sumT xs)) os
theorem rd_sum_text : RD_sum_text r_sum_text := by
  rintro ds ED QD - ⟨xs, rfl, h, q⟩
  refine ⟨compR_if (xs.zipIdx 0) (fun p => .tup false [.int (p.2 : Nat), .int p.1]) (fun p => decide (p.1 ≠ 0)) (fun p => .str (wordT p)) (enD_map D.int 0 xs) (fun p hp => ?_) (fun _ => rfl) ?_⟩
  · refine ⟨rfl, fun hz => ?_, fun hz => ?_⟩
    · have hz : p.1 ≠ 0 := by simpa using hz
      have hw : p ∈ wp xs := List.mem_filter.mpr ⟨hp, by simpa using hz⟩
      obtain ⟨m1, m2, _, _⟩ := wp_mem hw
      have b1 := h.bd _ m1
      have hl := h.ln
      have l1 := itxt_len b1.1 b1.2
      have l2 := itxt_len (i := (p.2 : Nat)) (by omega) (by omega)
      have c : (":" : Str).length = 1 := by decide +kernel
      refine ⟨lg b1.1 b1.2, ?_, lg (by omega) (by omega), ?_, ?_⟩
      · show (itxt p.1).length + (":" : Str).length ≤ sizeLine
        rw [sizeLine_eq]; omega
      · show (itxt p.1 ++ (":" : Str)).length + (itxt (p.2 : Nat)).length ≤ sizeLine
        rw [Str.length_append, sizeLine_eq]; omega
      · exact ⟨by rw [if_pos (by simpa using hz)]; rfl, rfl⟩
    · have hz : p.1 = 0 := by simpa using hz
      refine ⟨?_, rfl⟩
      rw [if_neg (by simpa using hz)]
  · refine ⟨fun hz => ?_, fun hz => ?_⟩
    · have hz : wp xs ≠ [] := fun e => by
        change decide ((((wp xs).map fun p => D.str (wordT p)).length : Int) > 0) = true at hz
        rw [e] at hz; cases hz
      refine ⟨⟨_, rfl⟩, " ", (wp xs).map wordT, rfl, .inl (by rw [List.map_map]; rfl), ?_, ?_⟩
      · have := sum_len ((wp xs).map wordT) (B := 11) fun y hy => by
          obtain ⟨p, hp, rfl⟩ := List.mem_map.mp hy
          exact word_len h hp
        rw [List.length_map] at this ⊢
        rw [show (" " : Str).length = 1 by decide +kernel]
        have := wp_len xs
        have := h.ln
        omega
      · have := q [some (rowD xs)]
        unfold sumT at this
        rw [if_neg hz] at this
        exact this
    · have hz : wp xs = [] := by
        change decide ((((wp xs).map fun p => D.str (wordT p)).length : Int) > 0) = false at hz
        cases e : wp xs with
        | nil => rfl
        | cons a b => rw [e] at hz; simp at hz
      have := q [some (rowD xs)]
      unfold sumT at this
      rw [if_pos hz] at this
      exact this
def r_product_text : FSpec := fun ds _ Q => ∃ p : Pr, ds = [prD p] ∧ PrT p ∧ ∀ os, Q (.str (prT p)) os
theorem cat3 {a b c d e : Str} (ha : a.length ≤ 972) (hb : b.length = 3) (hc : c.length ≤ 972) (hd : d.length = 3) (he : e.length ≤ 972) :
    a.length + b.length ≤ sizeLine ∧ (a ++ b).length + c.length ≤ sizeLine ∧ (a ++ b ++ c).length + d.length ≤ sizeLine ∧ (a ++ b ++ c ++ d).length + e.length ≤ sizeLine := by
  rw [Str.length_append, Str.length_append, Str.length_append, sizeLine_eq]
  simp only [Str.length_append]
  omega
theorem rd_product_text : RD_product_text r_product_text r_sum_text := by
  rintro ds ED QD - ⟨p, rfl, h, q⟩
  obtain ⟨c1, c2, c3, c4⟩ := cat3 (sumT_len h.l) (b := " * ") (by decide +kernel) (sumT_len h.r) (d := " > ") (by decide +kernel) (sumT_len h.o)
  exact ⟨rfl, p.l, rfl, h.l, fun _ => ⟨c1, p.r, rfl, h.r, fun _ => ⟨c2, c3, p.o, rfl, h.o, fun _ => ⟨c4, q _⟩⟩⟩⟩
theorem headT_len {a b c : Nat} (hs : a ≤ 1000 ∧ b ≤ 1000 ∧ c ≤ 1000) : (headT a b c).length ≤ 44 := by
  have := jlen (a := " ") (ys := ["scheme", itxt (a : Nat), itxt (b : Nat), itxt (c : Nat)]) (B := 6) fun y hy => by
    have l1 := itxt_len (i := (a : Nat)) (by omega) (by omega)
    have l2 := itxt_len (i := (b : Nat)) (by omega) (by omega)
    have l3 := itxt_len (i := (c : Nat)) (by omega) (by omega)
    have l4 : ("scheme" : Str).length = 6 := by decide +kernel
    simp only [List.mem_cons, List.not_mem_nil, or_false] at hy
    rcases hy with rfl | rfl | rfl | rfl <;> omega
  rw [show (" " : Str).length = 1 by decide +kernel] at this
  exact Nat.le_trans this (show 4 * (6 + 1) ≤ 44 by decide)
theorem sch_sum {a b c : Nat} {ps : List Pr} (hs : a ≤ 1000 ∧ b ≤ 1000 ∧ c ≤ 1000) (h : ∀ p ∈ ps, PrT p) (hl : ps.length ≤ 1000) : (((headT a b c :: ps.map prT)).map (·.length)).sum + (headT a b c :: ps.map prT).length * ("\n" : Str).length ≤ 16777216 := by
  have := headT_len hs
  have := sum_len (ps.map prT) (B := 2922) fun y hy => by
    obtain ⟨p, hp, rfl⟩ := List.mem_map.mp hy
    exact prT_len (h p hp)
  rw [List.length_map] at this
  rw [List.map_cons, List.sum_cons, List.length_cons, List.length_map, show ("\n" : Str).length = 1 by decide +kernel]
  omega
def r_scheme_text : FSpec := fun ds _ Q => ∃ (a b c : Nat) (ps : List Pr), ds = [schD a b c ps] ∧ (a ≤ 1000 ∧ b ≤ 1000 ∧ c ≤ 1000) ∧ (∀ p ∈ ps, PrT p) ∧ ps.length ≤ 1000 ∧ ∀ os, Q (.str (schT a b c ps)) os
theorem rd_scheme_text : RD_scheme_text r_scheme_text r_product_text := by
  rintro ds ED QD - ⟨a, b, c, ps, rfl, hs, h, hl, q⟩
  refine ⟨⟨_, rfl⟩, ⟨compR_allE ([a, b, c] : List Nat) (fun n : Nat => D.int n) (fun n : Nat => .str (itxt n)) rfl (fun n hn => ?_) (fun _ => rfl) ?_⟩⟩
  · have : n ≤ 1000 := by simp at hn; omega
    exact ⟨fun _ => ⟨lg (by omega) (by omega), rfl, rfl⟩, fun h => (nomatch h)⟩
  refine ⟨by show (1 + 3 : Nat) ≤ sizeLine; decide, " ", ["scheme", itxt a, itxt b, itxt c], rfl, .inl rfl, ?_, ?_⟩
  · have l1 := itxt_len (i := (a : Nat)) (by omega) (by omega)
    have l2 := itxt_len (i := (b : Nat)) (by omega) (by omega)
    have l3 := itxt_len (i := (c : Nat)) (by omega) (by omega)
    have l4 : ("scheme" : Str).length = 6 := by decide +kernel
    have l5 : (" " : Str).length = 1 := by decide +kernel
    simp only [List.map_cons, List.map_nil, List.sum_cons, List.sum_nil, List.length_cons, List.length_nil]
    omega
  conv => whnf
  refine ⟨⟨_, rfl⟩, ⟨compR_allE ps prD (fun p => .str (prT p)) rfl (fun p hp => ⟨fun _ => ⟨p, rfl, h p hp, fun _ => ⟨rfl, rfl⟩⟩, fun h => (nomatch h)⟩) (fun _ => rfl) ?_⟩⟩
  refine ⟨by show 1 + (ps.map fun p => D.str (prT p)).length ≤ sizeLine; rw [List.length_map, sizeLine_eq]; omega, "\n", headT a b c :: ps.map prT, rfl, .inl (by rw [List.map_cons, List.map_map]; rfl), ?_, q _⟩
  exact sch_sum hs h hl
/-! ### the laws' own -/
def r_law_sum : FSpec := fun ds _ Q => ∃ xs : List Int, ds = [rowD xs] ∧ Tp xs ∧ ∀ os, Q (.str (sumT xs)) os
theorem rd_law_sum : RD_law_sum r_law_sum := by
  rintro ds ED QD - ⟨xs, rfl, h, q⟩
  refine ⟨forR_on [1] [2, 3] (fun k s => s = [some (.lst .flat ((((xs.zipIdx).take k).filter fun p => decide (p.1 ≠ 0)).map fun p => .str (wordT p)))]) _ _ rfl ?_ ?_⟩
  · rintro i d s j hd hj rfl
    obtain ⟨g2, g3, rfl⟩ := len2 hj
    rw [enD_map D.int 0 xs, List.getElem?_map] at hd
    obtain ⟨p, hp, rfl⟩ := Option.map_eq_some_iff.mp hd
    have ts : (xs.zipIdx.take (i + 1)).filter (fun p => decide (p.1 ≠ 0)) = (xs.zipIdx.take i).filter (fun p => decide (p.1 ≠ 0)) ++ if p.1 ≠ 0 then [p] else [] := by
      rw [List.take_add_one, hp, List.filter_append]
      congr 1
      show List.filter _ [p] = _
      by_cases e : p.1 = 0 <;> simp [e]
    refine ⟨rfl, fun hz => ?_, fun hz => ?_⟩
    · have hz : p.1 ≠ 0 := by simpa using hz
      have hw : p ∈ wp xs := List.mem_filter.mpr ⟨List.mem_of_getElem? hp, by simpa using hz⟩
      obtain ⟨m1, m2, _, _⟩ := wp_mem hw
      have b1 := h.bd _ m1
      have hl := h.ln
      have l1 := itxt_len b1.1 b1.2
      have l2 := itxt_len (i := (p.2 : Nat)) (by omega) (by omega)
      have c : (":" : Str).length = 1 := by decide +kernel
      rw [ts, if_pos hz]
      refine ⟨lg b1.1 b1.2, ?_, lg (by omega) (by omega), ?_, ?_⟩
      · show (itxt p.1).length + (":" : Str).length ≤ sizeLine
        rw [sizeLine_eq]; omega
      · show (itxt p.1 ++ (":" : Str)).length + (itxt (p.2 : Nat)).length ≤ sizeLine
        rw [Str.length_append, sizeLine_eq]; omega
      · rw [List.map_append]
        refine ⟨?_, rfl, rfl⟩
        rw [List.length_map]
        have := List.length_filter_le (fun p : Int × Nat => decide (p.1 ≠ 0)) (xs.zipIdx.take i)
        rw [List.length_take, List.length_zipIdx] at this
        rw [sizeLine_eq]; omega
    · have hz : p.1 = 0 := by simpa using hz
      rw [ts, if_neg (by simpa using hz), List.append_nil]
      exact ⟨rfl, rfl⟩
  · rintro s j hj rfl
    obtain ⟨g2, g3, rfl⟩ := len2 hj
    rw [List.take_of_length_le (by rw [enD_len, List.length_map, List.length_zipIdx]; exact Nat.le_refl _)]
    change nf (putJ [some (rowD xs), some (D.lst (Ow.of (ownL [])) []), none, none] [1] [2, 3] [some (.lst .flat ((wp xs).map fun p => .str (wordT p)))] [g2, g3]) _
    refine ⟨⟨_, rfl⟩, fun hz => ?_, fun hz => ?_⟩
    · have hz : wp xs ≠ [] := fun e => by rw [e] at hz; cases hz
      refine ⟨" ", (wp xs).map wordT, rfl, .inl (by rw [List.map_map]; rfl), ?_, ?_⟩
      · have := sum_len ((wp xs).map wordT) (B := 11) fun y hy => by
          obtain ⟨p, hp, rfl⟩ := List.mem_map.mp hy
          exact word_len h hp
        rw [List.length_map] at this ⊢
        rw [show (" " : Str).length = 1 by decide +kernel]
        have := wp_len xs
        have := h.ln
        omega
      · have := q [some (rowD xs)]
        unfold sumT at this
        rw [if_neg hz] at this
        exact this
    · have hz : wp xs = [] := by
        cases e : wp xs with
        | nil => rfl
        | cons a b => rw [e] at hz; cases hz
      refine ⟨" ", ["-"], rfl, .inl rfl, by decide +kernel, ?_⟩
      have := q [some (rowD xs)]
      unfold sumT at this
      rw [if_pos hz] at this
      rw [TL.join_eq]
      exact this
def r_law_text : FSpec := fun ds _ Q => ∃ (a b c : Nat) (ps : List Pr), ds = [schD a b c ps] ∧ (a ≤ 1000 ∧ b ≤ 1000 ∧ c ≤ 1000) ∧ (∀ p ∈ ps, PrT p) ∧ ps.length ≤ 1000 ∧ ∀ os, Q (.str (schT a b c ps)) os
theorem rd_law_text : RD_law_text r_law_text r_law_sum := by
  rintro ds ED QD - ⟨a, b, c, ps, rfl, hs, h, hl, q⟩
  have l1 := itxt_len (i := (a : Nat)) (by omega) (by omega)
  have l2 := itxt_len (i := (b : Nat)) (by omega) (by omega)
  have l3 := itxt_len (i := (c : Nat)) (by omega) (by omega)
  have l5 : (" " : Str).length = 1 := by decide +kernel
  refine ⟨⟨_, rfl⟩, ⟨compR_allE ([a, b, c] : List Nat) (fun n : Nat => D.int n) (fun n : Nat => .str (itxt n)) rfl (fun n hn => ?_) (fun _ => rfl) ?_⟩⟩
  · have : n ≤ 1000 := by simp at hn; omega
    exact ⟨fun _ => ⟨lg (by omega) (by omega), rfl, rfl⟩, fun h => (nomatch h)⟩
  refine ⟨" ", [itxt a, itxt b, itxt c], rfl, .inl rfl, ?_, ?_, ?_⟩
  · simp only [List.map_cons, List.map_nil, List.sum_cons, List.sum_nil, List.length_cons, List.length_nil]
    omega
  · have := jlen (a := " ") (ys := [itxt (a : Nat), itxt (b : Nat), itxt (c : Nat)]) (B := 6) fun y hy => by
      simp only [List.mem_cons, List.not_mem_nil, or_false] at hy
      rcases hy with rfl | rfl | rfl <;> omega
    rw [l5] at this
    have l6 : ("scheme " : Str).length = 7 := by decide +kernel
    rw [l6, sizeLine_eq]
    simp only [List.length_cons, List.length_nil] at this
    omega
  have hd : ("scheme " : Str) ++ Txt.join " " [itxt a, itxt b, itxt c] = headT a b c := by
    unfold headT
    rw [TL.join_eq, TL.join_eq]
    show ("scheme " : Str) ++ (itxt a ++ (" " : Str) ++ (itxt b ++ (" " : Str) ++ itxt c)) = ("scheme" : Str) ++ (" " : Str) ++ (itxt a ++ (" " : Str) ++ (itxt b ++ (" " : Str) ++ itxt c))
    rw [show (("scheme " : Str)) = ("scheme" : Str) ++ (" " : Str) by decide +kernel]
  rw [hd]
  conv => whnf
  refine ⟨forR_on [1] [2, 3, 4] (fun k s => s = [some (.lst .flat ((headT a b c :: (ps.take k).map prT).map D.str))]) _ _ rfl ?_ ?_⟩
  · rintro i d s j hx hj rfl
    obtain ⟨g2, g3, g4, rfl⟩ := len3 hj
    rw [List.getElem?_map] at hx
    obtain ⟨p, hp, rfl⟩ := Option.map_eq_some_iff.mp hx
    have hm := h p (List.mem_of_getElem? hp)
    obtain ⟨c1, c2, c3, c4⟩ := cat3 (sumT_len hm.l) (b := " * ") (by decide +kernel) (sumT_len hm.r) (d := " > ") (by decide +kernel) (sumT_len hm.o)
    refine ⟨rfl, p.l, rfl, hm.l, fun _ => ⟨c1, p.r, rfl, hm.r, fun _ => ⟨c2, c3, p.o, rfl, hm.o, fun _ => ⟨c4, ?_⟩⟩⟩⟩
    rw [List.take_add_one, hp, show (headT a b c :: (ps.take i ++ (some p).toList).map prT).map D.str = (headT a b c :: (ps.take i).map prT).map D.str ++ [.str (prT p)] by rw [List.map_append]; simp]
    refine ⟨?_, rfl, rfl⟩
    rw [List.length_map, List.length_cons, List.length_map, List.length_take, sizeLine_eq]; omega
  · rintro s j hj rfl
    obtain ⟨g2, g3, g4, rfl⟩ := len3 hj
    rw [List.length_map, List.take_length]
    exact ⟨⟨_, rfl⟩, "\n", _, rfl, .inl rfl, sch_sum hs h hl, q _⟩
def r_law_lengths : FSpec := fun ds _ Q => ∃ (x : Bx) (n : Nat), ds = [bxD x, .int n] ∧ (1 ≤ n ∧ n ≤ 999) ∧ ∀ (a b c : Nat) (x' : Bx) tl, ((1 ≤ a ∧ a ≤ n) ∧ (1 ≤ b ∧ b ≤ n) ∧ (1 ≤ c ∧ c ≤ n)) → Q (.lst .flat [.int a, .int b, .int c]) (some (bxD x') :: tl)
theorem rd_law_lengths : RD_law_lengths r_law_lengths r_law_take := by
  rintro ds ED QD - ⟨x, n, rfl, hn, q⟩
  refine ⟨⟨by decide, by decide⟩, ⟨compR_draw 0 (fun n : Nat => D.int n) (fun _ m => 1 ≤ m ∧ m ≤ n) _ _ x (fun _ => rfl) (fun i d x hd => ?_) fun Ls x hL hx => ?_⟩⟩
  · exact ⟨fun _ => ⟨x, n, rfl, by omega, fun v x' tl v0 v1 => ⟨(1 + v).toNat, x', (by show some (D.int (1 + v)) = some (D.int ((1 + v).toNat : Nat)); rw [show (((1 + v).toNat : Nat) : Int) = 1 + v by omega]), by omega, rfl⟩⟩, fun h => (nomatch h)⟩
  obtain ⟨a, b, c, rfl⟩ := len3 (l := Ls) (by rw [hL, rgD_len]; rfl)
  exact q a b c x _ ⟨hx 0 a rfl, hx 1 b rfl, hx 2 c rfl⟩
def r_law_wide : FSpec := fun ds _ Q => ∃ (x : Bx), ds = [bxD x] ∧ ∀ (a b c : Nat) (ps : List Pr) (x' : Bx) tl, (a ≤ 81 ∧ b ≤ 81 ∧ c ≤ 81) → (∀ p ∈ ps, PrT p) → ps.length ≤ 60 → Q (schD a b c ps) (some (bxD x') :: tl)
theorem rd_law_wide : RD_law_wide r_law_wide r_law_scheme r_law_take r_law_lengths := by
  rintro ds ED QD - ⟨x, rfl, q⟩
  refine ⟨x, 8, rfl, by decide, fun v x _ v0 v1 => ?_⟩
  refine pick_at (f := fun n : Nat => D.int n) (xs := [4, 4, 4, 12, 12, 4, 4, 81]) v0 v1 (fun _ => rfl) fun m hm => ?_
  have hm : 1 ≤ m ∧ m ≤ 81 := by
    have := List.mem_of_getElem? hm
    revert this
    simp only [List.mem_cons, List.not_mem_nil, or_false]
    omega
  refine ⟨x, 8, rfl, by decide, fun v x _ v0 v1 => ?_⟩
  refine pick_at (f := fun n : Nat => D.int n) (xs := [3, 5, 1, 12, 4, 2, 0, 60]) v0 v1 (fun _ => rfl) fun k hk => ?_
  have hk : k ≤ 60 := by
    have := List.mem_of_getElem? hk
    revert this
    simp only [List.mem_cons, List.not_mem_nil, or_false]
    omega
  refine cut_on [0, 1, 2] [] (fun st => ∃ (k : Nat), st = [some (bxD x), some (.int m), some (.int k)] ∧ k ≤ 60) ?_ ?_
  · refine ⟨fun _ => ⟨rfl, min k 5, ?_, by omega⟩, fun _ => ⟨rfl, k, rfl, hk⟩⟩
    show [some (bxD x), some (D.int m), some (D.int (if (5 : Int) < (k : Int) then 5 else (k : Int)))] = [some (bxD x), some (D.int m), some (D.int ((min k 5 : Nat) : Int))]
    rw [show (if (5 : Int) < (k : Int) then (5 : Int) else (k : Int)) = ((min k 5 : Nat) : Int) by split <;> omega]
  · rintro st j hj ⟨k, rfl, hk⟩
    obtain rfl := len0 hj
    refine ⟨x, m, rfl, by omega, fun a b c x _ hs => ?_⟩
    refine ⟨x, a, b, c, k, rfl, by omega, by omega, by omega, by omega, fun ps x _ hl hok => ?_⟩
    refine q a b c ps x _ (by omega) (fun p hp => ?_) (by omega)
    have := hok p hp
    exact ⟨⟨by rw [this.ll]; omega, this.bl⟩, ⟨by rw [this.lr]; omega, this.br⟩, ⟨by rw [this.lo]; omega, this.bo⟩⟩
end Cm
namespace K52
open PySem PySem.Spec PyProof.Rows L2 FL Cm
def topS (i : Nat) : Stmt := PySem.Challenge.pw_fewtimes_k52_schemes_written.main.body.getD i (.Pass ⟨0, 0, 0, 0⟩)
section
variable {P : Program} {w : World} {K : PySem.W.Frag} {mg : Str → Option Value} {base : Heap}
abbrev s_sum_text : Stmt := topS 2
abbrev s_product_text : Stmt := topS 3
abbrev s_scheme_text : Stmt := topS 4
abbrev s_law_cell_at : Stmt := topS 6
abbrev s_law_mixed : Stmt := topS 7
abbrev s_law_box : Stmt := topS 8
abbrev s_law_take : Stmt := topS 9
abbrev s_law_number : Stmt := topS 10
abbrev s_law_part : Stmt := topS 11
abbrev s_law_scheme : Stmt := topS 12
abbrev s_law_lengths : Stmt := topS 13
abbrev s_law_wide : Stmt := topS 14
abbrev s_law_sum : Stmt := topS 15
abbrev s_law_text : Stmt := topS 16
abbrev s_law : Stmt := topS 17
/-! ### sum_text -/
theorem sc_sum_text : FnScope ["part", "words", "place", "number"] ["part"] (defScope s_sum_text) := ⟨rfl, rfl, rfl, by decide +kernel, rfl, by decide +kernel, by decide +kernel⟩
theorem ok_sum_text {f_sum_text : Addr} {fd_sum_text : FuncData} {k : Nat} (D_sum_text : Df K mg "sum_text" s_sum_text ["part"] f_sum_text fd_sum_text) (z_enumerate : mg "enumerate" = none) (z_len : mg "len" = none) (z_str : mg "str" = none) {t_NOUGHTS : Value} (g_NOUGHTS : mg "NOUGHTS" = some t_NOUGHTS ∧ KV K (.str "-") t_NOUGHTS) {r : FSpec} (hrd : RD_sum_text r) :
    FnOk P w K mg base (L2.CX P w) (k + 1) f_sum_text fd_sum_text ["part"] (FnD K 1 [] r) := by
  refine fl_fn D_sum_text.fn sc_sum_text (by rfl) (fun cdv A outer s H E hr => ?_) hrd
  have tk := takes_of (X := cxOf (L2.CX P w) P w K mg base ["part", "words", "place", "number"] "sum_text" (defScope s_sum_text) f_sum_text cdv A outer s H E) rfl rfl rfl rfl
  exact (fss_cons (fs_setLcF 1 [3, 2] (own := [("number", 3), ("place", 2)]) sc_sum_text.nd (fi_enum (fa_cons (fo_val (fe_var (i := 0))) fa_nil) z_enumerate) (blkOk_by (own := [("number", 3), ("place", 2)]) (N := ["part", "words", "place", "number"]) (sc := defScope s_sum_text) (by decide +kernel)) (fun _ => (fg_tup (fgs_cons (fg_name 2 sc_sum_text.nd) (fgs_cons (fg_name 3 sc_sum_text.nd) fgs_nil)))) (fun _ => (fts_one (ft_cmp (fop_ne hr.units) (fo_val (fe_var (i := 3))) (fo_val fe_int)))) (fun _ => (fe_op fop_add (fo_val (fe_op fop_add (fo_val (fe_callTy fc_strI z_str (by decide +kernel) (fa_cons (fo_val (fe_var (i := 3))) fa_nil))) (fo_val fe_str))) (fo_val (fe_callTy fc_strI z_str (by decide +kernel) (fa_cons (fo_val (fe_var (i := 2))) fa_nil)))))) (fss_one (fs_ret (fe_ifE (ft_cmp fop_gt (fo_val (fe_callB fc_len z_len (by decide +kernel) (fa_cons (fo_val (fe_var (i := 1))) fa_nil))) (fo_val fe_int)) (fe_join fe_str (fe_var (i := 1))) (fe_globT rfl g_NOUGHTS)))))
/-! ### product_text -/
theorem sc_product_text : FnScope ["product", "l", "r", "o"] ["product"] (defScope s_product_text) := ⟨rfl, rfl, rfl, by decide +kernel, rfl, by decide +kernel, by decide +kernel⟩
theorem ok_product_text {f_product_text : Addr} {fd_product_text : FuncData} {f_sum_text : Addr} {fd_sum_text : FuncData} {k : Nat} (D_product_text : Df K mg "product_text" s_product_text ["product"] f_product_text fd_product_text) (D_sum_text : Df K mg "sum_text" s_sum_text ["part"] f_sum_text fd_sum_text) {r_sum_text : FSpec} (F_sum_text : FnOk P w K mg base (L2.CX P w) k f_sum_text fd_sum_text ["part"] (FnD K 1 [] r_sum_text)) {r : FSpec} (hrd : RD_product_text r r_sum_text) :
    FnOk P w K mg base (L2.CX P w) (k + 1) f_product_text fd_product_text ["product"] (FnD K 1 [] r) := by
  refine fl_fn D_product_text.fn sc_product_text (by rfl) (fun cdv A outer s H E hr => ?_) hrd
  have tk := takes_of (X := cxOf (L2.CX P w) P w K mg base ["product", "l", "r", "o"] "product_text" (defScope s_product_text) f_product_text cdv A outer s H E) rfl rfl rfl rfl
  exact (fss_cons (fs_asg [3, 2, 1] (fe_var (i := 0)) (fg_tup (fgs_cons (fg_name 1 sc_product_text.nd) (fgs_cons (fg_name 2 sc_product_text.nd) (fgs_cons (fg_name 3 sc_product_text.nd) fgs_nil))))) (fss_one (fs_ret (fe_op fop_add (fo_val (fe_op fop_add (fo_val (fe_op fop_add (fo_val (fe_op fop_add (fo_val (fe_call tk F_sum_text hr D_sum_text.mg D_sum_text.fn.kp D_sum_text.b (fa_cons (fo_val (fe_var (i := 1))) fa_nil))) (fo_val fe_str))) (fo_val (fe_call tk F_sum_text hr D_sum_text.mg D_sum_text.fn.kp D_sum_text.b (fa_cons (fo_val (fe_var (i := 2))) fa_nil))))) (fo_val fe_str))) (fo_val (fe_call tk F_sum_text hr D_sum_text.mg D_sum_text.fn.kp D_sum_text.b (fa_cons (fo_val (fe_var (i := 3))) fa_nil)))))))
/-! ### scheme_text -/
theorem sc_scheme_text : FnScope ["scheme", "rows", "product", "length"] ["scheme"] (defScope s_scheme_text) := ⟨rfl, rfl, rfl, by decide +kernel, rfl, by decide +kernel, by decide +kernel⟩
theorem ok_scheme_text {f_scheme_text : Addr} {fd_scheme_text : FuncData} {f_product_text : Addr} {fd_product_text : FuncData} {k : Nat} (D_scheme_text : Df K mg "scheme_text" s_scheme_text ["scheme"] f_scheme_text fd_scheme_text) (D_product_text : Df K mg "product_text" s_product_text ["product"] f_product_text fd_product_text) {r_product_text : FSpec} (F_product_text : FnOk P w K mg base (L2.CX P w) k f_product_text fd_product_text ["product"] (FnD K 1 [] r_product_text)) (z_str : mg "str" = none) {r : FSpec} (hrd : RD_scheme_text r r_product_text) :
    FnOk P w K mg base (L2.CX P w) (k + 1) f_scheme_text fd_scheme_text ["scheme"] (FnD K 1 [] r) := by
  refine fl_fn D_scheme_text.fn sc_scheme_text (by rfl) (fun cdv A outer s H E hr => ?_) hrd
  have tk := takes_of (X := cxOf (L2.CX P w) P w K mg base ["scheme", "rows", "product", "length"] "scheme_text" (defScope s_scheme_text) f_scheme_text cdv A outer s H E) rfl rfl rfl rfl
  exact (fss_cons (fs_setF 1 (fe_lst (fa_cons (fo_val (fe_join fe_str (fe_op fop_add (fo_val (fe_lst (fa_cons (fo_val fe_str) fa_nil))) (fo_val (fe_lc [3] (own := [("length", 3)]) sc_scheme_text.nd (fi_row (fe_sl (fo_val (fe_var (i := 0))) fp_none (fp_some fe_int))) (blkOk_by (own := [("length", 3)]) (N := ["scheme", "rows", "product", "length"]) (sc := defScope s_scheme_text) (by decide +kernel)) (fun _ => (fg_name 3 sc_scheme_text.nd)) (fun _ => fts_nil) (fun _ => (fe_callTy fc_strI z_str (by decide +kernel) (fa_cons (fo_val (fe_var (i := 3))) fa_nil)))))))) fa_nil)) sc_scheme_text.nd) (fss_one (fs_ret (fe_join fe_str (fe_op fop_add (fo_val (fe_var (i := 1))) (fo_val (fe_lc [2] (own := [("product", 2)]) sc_scheme_text.nd (fi_row (fe_ix (hu_of hr) (fo_val (fe_var (i := 0))) (fo_val fe_int))) (blkOk_by (own := [("product", 2)]) (N := ["scheme", "rows", "product", "length"]) (sc := defScope s_scheme_text) (by decide +kernel)) (fun _ => (fg_name 2 sc_scheme_text.nd)) (fun _ => fts_nil) (fun _ => (fe_call takes0 F_product_text hr D_product_text.mg D_product_text.fn.kp D_product_text.b (fa_cons (fo_val (fe_var (i := 2))) fa_nil))))))))))
/-! ### _law_cell_at -/
theorem sc_law_cell_at : FnScope ["_law_script", "_law_k"] ["_law_script", "_law_k"] (defScope s_law_cell_at) := ⟨rfl, rfl, rfl, by decide +kernel, rfl, by decide +kernel, by decide +kernel⟩
theorem ok_law_cell_at {f_law_cell_at : Addr} {fd_law_cell_at : FuncData} {k : Nat} (D_law_cell_at : Df K mg "_law_cell_at" s_law_cell_at ["_law_script", "_law_k"] f_law_cell_at fd_law_cell_at) (z_len : mg "len" = none) {r : FSpec} (hrd : RD_law_cell_at r) :
    FnOk P w K mg base (L2.CX P w) (k + 1) f_law_cell_at fd_law_cell_at ["_law_script", "_law_k"] (FnD K 2 [] r) := by
  refine fl_fn D_law_cell_at.fn sc_law_cell_at (by rfl) (fun cdv A outer s H E hr => ?_) hrd
  have tk := takes_of (X := cxOf (L2.CX P w) P w K mg base ["_law_script", "_law_k"] "_law_cell_at" (defScope s_law_cell_at) f_law_cell_at cdv A outer s H E) rfl rfl rfl rfl
  exact (fss_cons (fs_if (ft_cmp fop_lt (fo_val (fe_var (i := 1))) (fo_val (fe_callB fc_len z_len (by decide +kernel) (fa_cons (fo_val (fe_var (i := 0))) fa_nil)))) (fss_one (fs_ret (fe_ix (hu_of hr) (fo_val (fe_var (i := 0))) (fo_val (fe_var (i := 1)))))) fss_nil) (fss_one (fs_ret fe_int)))
/-! ### _law_mixed -/
theorem sc_law_mixed : FnScope ["_law_number_here", "_law_k", "_law_once", "_law_twice"] ["_law_number_here", "_law_k"] (defScope s_law_mixed) := ⟨rfl, rfl, rfl, by decide +kernel, rfl, by decide +kernel, by decide +kernel⟩
theorem ok_law_mixed {f_law_mixed : Addr} {fd_law_mixed : FuncData} {k : Nat} (D_law_mixed : Df K mg "_law_mixed" s_law_mixed ["_law_number_here", "_law_k"] f_law_mixed fd_law_mixed) {r : FSpec} (hrd : RD_law_mixed r) :
    FnOk P w K mg base (L2.CX P w) (k + 1) f_law_mixed fd_law_mixed ["_law_number_here", "_law_k"] (FnD K 2 [] r) := by
  refine fl_fn D_law_mixed.fn sc_law_mixed (by rfl) (fun cdv A outer s H E hr => ?_) hrd
  have tk := takes_of (X := cxOf (L2.CX P w) P w K mg base ["_law_number_here", "_law_k", "_law_once", "_law_twice"] "_law_mixed" (defScope s_law_mixed) f_law_mixed cdv A outer s H E) rfl rfl rfl rfl
  exact (fss_cons (fs_setF 2 (fe_modC (fo_val (fe_mulC (fo_val (fe_addC (fo_val (fe_op fop_add (fo_val (fe_modC (fo_val (fe_var (i := 0))))) (fo_val (fe_mulCl (fo_val (fe_var (i := 1)))))))))))) sc_law_mixed.nd) (fss_cons (fs_setF 3 (fe_modC (fo_val (fe_op fop_mulX (fo_val (fe_var (i := 2))) (fo_val (fe_addC (fo_val (fe_op fop_add (fo_val (fe_modC (fo_val (fe_var (i := 2))))) (fo_val (fe_var (i := 1)))))))))) sc_law_mixed.nd) (fss_one (fs_ret (fe_fdivC (fo_val (fe_modC (fo_val (fe_op fop_add (fo_val (fe_mulC (fo_val (fe_var (i := 3))))) (fo_val (fe_var (i := 2))))))))))))
/-! ### _law_box -/
theorem sc_law_box : FnScope ["_law_script", "_law_k", "_law_cell"] ["_law_script", "_law_k"] (defScope s_law_box) := ⟨rfl, rfl, rfl, by decide +kernel, rfl, by decide +kernel, by decide +kernel⟩
theorem ok_law_box {f_law_box : Addr} {fd_law_box : FuncData} {f_law_cell_at : Addr} {fd_law_cell_at : FuncData} {f_law_mixed : Addr} {fd_law_mixed : FuncData} {k : Nat} (D_law_box : Df K mg "_law_box" s_law_box ["_law_script", "_law_k"] f_law_box fd_law_box) (D_law_cell_at : Df K mg "_law_cell_at" s_law_cell_at ["_law_script", "_law_k"] f_law_cell_at fd_law_cell_at) (D_law_mixed : Df K mg "_law_mixed" s_law_mixed ["_law_number_here", "_law_k"] f_law_mixed fd_law_mixed) {r_law_cell_at : FSpec} (F_law_cell_at : FnOk P w K mg base (L2.CX P w) k f_law_cell_at fd_law_cell_at ["_law_script", "_law_k"] (FnD K 2 [] r_law_cell_at)) {r_law_mixed : FSpec} (F_law_mixed : FnOk P w K mg base (L2.CX P w) k f_law_mixed fd_law_mixed ["_law_number_here", "_law_k"] (FnD K 2 [] r_law_mixed)) (z_abs : mg "abs" = none) (z_int : mg "int" = none) {r : FSpec} (hrd : RD_law_box r r_law_cell_at r_law_mixed) :
    FnOk P w K mg base (L2.CX P w) (k + 1) f_law_box fd_law_box ["_law_script", "_law_k"] (FnD K 2 [] r) := by
  refine fl_fn D_law_box.fn sc_law_box (by rfl) (fun cdv A outer s H E hr => ?_) hrd
  have tk := takes_of (X := cxOf (L2.CX P w) P w K mg base ["_law_script", "_law_k", "_law_cell"] "_law_box" (defScope s_law_box) f_law_box cdv A outer s H E) rfl rfl rfl rfl
  exact (fss_cons (fs_setF 2 (fe_call tk F_law_cell_at hr D_law_cell_at.mg D_law_cell_at.fn.kp D_law_cell_at.b (fa_cons (fo_val (fe_var (i := 0))) (fa_cons (fo_val (fe_var (i := 1))) fa_nil))) sc_law_box.nd) (fss_one (fs_ret (fe_lst (fa_cons (fo_val (fe_op fop_mulX (fo_val (fe_callB fc_abs z_abs (by decide +kernel) (fa_cons (fo_val (fe_var (i := 2))) fa_nil))) (fo_val (fe_callTy fc_int z_int (by decide +kernel) (fa_cons (fo_val (fe_cmp fop_ge (fo_val (fe_callB fc_abs z_abs (by decide +kernel) (fa_cons (fo_val (fe_var (i := 2))) fa_nil))) (fo_val fe_powC))) fa_nil))))) (fa_cons (fo_val (fe_call tk F_law_mixed hr D_law_mixed.mg D_law_mixed.fn.kp D_law_mixed.b (fa_cons (fo_val (fe_var (i := 2))) (fa_cons (fo_val (fe_addCl (fo_val (fe_var (i := 1))))) fa_nil)))) (fa_cons (fo_val fe_int) fa_nil)))))))
/-! ### _law_take -/
theorem sc_law_take : FnScope ["_law_box_here", "_law_many", "_law_found", "_law_reach"] ["_law_box_here", "_law_many"] (defScope s_law_take) := ⟨rfl, rfl, rfl, by decide +kernel, rfl, by decide +kernel, by decide +kernel⟩
theorem ok_law_take {f_law_take : Addr} {fd_law_take : FuncData} {f_law_mixed : Addr} {fd_law_mixed : FuncData} {k : Nat} (D_law_take : Df K mg "_law_take" s_law_take ["_law_box_here", "_law_many"] f_law_take fd_law_take) (D_law_mixed : Df K mg "_law_mixed" s_law_mixed ["_law_number_here", "_law_k"] f_law_mixed fd_law_mixed) {r_law_mixed : FSpec} (F_law_mixed : FnOk P w K mg base (L2.CX P w) k f_law_mixed fd_law_mixed ["_law_number_here", "_law_k"] (FnD K 2 [] r_law_mixed)) {r : FSpec} (hrd : RD_law_take r r_law_mixed) :
    FnOk P w K mg base (L2.CX P w) (k + 1) f_law_take fd_law_take ["_law_box_here", "_law_many"] (FnD K 2 [0] r) := by
  refine fl_fn D_law_take.fn sc_law_take (by rfl) (fun cdv A outer s H E hr => ?_) hrd
  have tk := takes_of (X := cxOf (L2.CX P w) P w K mg base ["_law_box_here", "_law_many", "_law_found", "_law_reach"] "_law_take" (defScope s_law_take) f_law_take cdv A outer s H E) rfl rfl rfl rfl
  exact (fss_cons (fs_if (ft_cmp fop_gt (fo_val (fe_ix (hu_of hr) (fo_brw (i := 0)) (fo_val fe_int))) (fo_val fe_int)) (fss_cons (fs_setF 2 (fe_op fop_mod (fo_val (fe_ix (hu_of hr) (fo_brw (i := 0)) (fo_val fe_int))) (fo_val (fe_var (i := 1)))) sc_law_take.nd) (fss_cons (fs_setL 0 (fe_op fop_fdiv (fo_val (fe_ix (hu_of hr) (fo_brw (i := 0)) (fo_val fe_int))) (fo_val (fe_var (i := 1)))) (fo_val fe_int)) (fss_one (fs_ret (fe_var (i := 2)))))) fss_nil) (fss_cons (fs_asg [3, 2] (fe_tup (fa_cons (fo_val fe_int) (fa_cons (fo_val fe_int) fa_nil))) (fg_tup (fgs_cons (fg_name 2 sc_law_take.nd) (fgs_cons (fg_name 3 sc_law_take.nd) fgs_nil)))) (fss_cons (fs_while PassesOwn.leaving (ft_cmp fop_lt (fo_val (fe_var (i := 3))) (fo_val (fe_var (i := 1)))) (fss_cons (fs_setL 0 (fe_addC (fo_val (fe_ix (hu_of hr) (fo_brw (i := 0)) (fo_val fe_int)))) (fo_val fe_int)) (fss_cons (fs_setF 2 (fe_op fop_add (fo_val (fe_mulC (fo_val (fe_var (i := 2))))) (fo_val (fe_call tk F_law_mixed hr D_law_mixed.mg D_law_mixed.fn.kp D_law_mixed.b (fa_cons (fo_val (fe_ix (hu_of hr) (fo_brw (i := 0)) (fo_val fe_int))) (fa_cons (fo_val (fe_ix (hu_of hr) (fo_brw (i := 0)) (fo_val fe_int))) fa_nil))))) sc_law_take.nd) (fss_one (fs_setF 3 (fe_mulC (fo_val (fe_var (i := 3)))) sc_law_take.nd))))) (fss_one (fs_ret (fe_op fop_mod (fo_val (fe_var (i := 2))) (fo_val (fe_var (i := 1)))))))))
/-! ### _law_number -/
theorem sc_law_number : FnScope ["_law_box_here", "_law_way"] ["_law_box_here"] (defScope s_law_number) := ⟨rfl, rfl, rfl, by decide +kernel, rfl, by decide +kernel, by decide +kernel⟩
theorem ok_law_number {f_law_number : Addr} {fd_law_number : FuncData} {f_law_take : Addr} {fd_law_take : FuncData} {k : Nat} (D_law_number : Df K mg "_law_number" s_law_number ["_law_box_here"] f_law_number fd_law_number) (D_law_take : Df K mg "_law_take" s_law_take ["_law_box_here", "_law_many"] f_law_take fd_law_take) {r_law_take : FSpec} (F_law_take : FnOk P w K mg base (L2.CX P w) k f_law_take fd_law_take ["_law_box_here", "_law_many"] (FnD K 2 [0] r_law_take)) {r : FSpec} (hrd : RD_law_number r r_law_take) :
    FnOk P w K mg base (L2.CX P w) (k + 1) f_law_number fd_law_number ["_law_box_here"] (FnD K 1 [0] r) := by
  refine fl_fn D_law_number.fn sc_law_number (by rfl) (fun cdv A outer s H E hr => ?_) hrd
  have tk := takes_of (X := cxOf (L2.CX P w) P w K mg base ["_law_box_here", "_law_way"] "_law_number" (defScope s_law_number) f_law_number cdv A outer s H E) rfl rfl rfl rfl
  exact (fss_cons (fs_setF 1 (fe_call tk F_law_take hr D_law_take.mg D_law_take.fn.kp D_law_take.b (fa_cons (fo_brw (i := 0)) (fa_cons (fo_val fe_int) fa_nil))) sc_law_number.nd) (fss_cons (fs_if (ft_cmp (fop_eq hr.units) (fo_val (fe_var (i := 1))) (fo_val fe_int)) (fss_one (fs_ret (fe_subC (fo_val (fe_call tk F_law_take hr D_law_take.mg D_law_take.fn.kp D_law_take.b (fa_cons (fo_brw (i := 0)) (fa_cons (fo_val fe_int) fa_nil))))))) fss_nil) (fss_one (fs_ret (fe_ix (hu_of hr) (fo_val (fe_lst (fa_cons (fo_val fe_int) (fa_cons (fo_val fe_int) (fa_cons (fo_val fe_int) (fa_cons (fo_val fe_int) (fa_cons (fo_val fe_int) (fa_cons (fo_val fe_int) (fa_cons (fo_val fe_negC) (fa_cons (fo_val fe_negC) (fa_cons (fo_val fe_int) fa_nil))))))))))) (fo_val (fe_var (i := 1))))))))
/-! ### _law_part -/
theorem sc_law_part : FnScope ["_law_box_here", "_law_length", "_law_k"] ["_law_box_here", "_law_length"] (defScope s_law_part) := ⟨rfl, rfl, rfl, by decide +kernel, rfl, by decide +kernel, by decide +kernel⟩
theorem ok_law_part {f_law_part : Addr} {fd_law_part : FuncData} {f_law_number : Addr} {fd_law_number : FuncData} {k : Nat} (D_law_part : Df K mg "_law_part" s_law_part ["_law_box_here", "_law_length"] f_law_part fd_law_part) (D_law_number : Df K mg "_law_number" s_law_number ["_law_box_here"] f_law_number fd_law_number) {r_law_number : FSpec} (F_law_number : FnOk P w K mg base (L2.CX P w) k f_law_number fd_law_number ["_law_box_here"] (FnD K 1 [0] r_law_number)) (z_range : mg "range" = none) (z_tuple : mg "tuple" = none) {r : FSpec} (hrd : RD_law_part r r_law_number) :
    FnOk P w K mg base (L2.CX P w) (k + 1) f_law_part fd_law_part ["_law_box_here", "_law_length"] (FnD K 2 [0] r) := by
  refine fl_fn D_law_part.fn sc_law_part (by rfl) (fun cdv A outer s H E hr => ?_) hrd
  have tk := takes_of (X := cxOf (L2.CX P w) P w K mg base ["_law_box_here", "_law_length", "_law_k"] "_law_part" (defScope s_law_part) f_law_part cdv A outer s H E) rfl rfl rfl rfl
  exact (fss_one (fs_ret (fe_callTy fc_tuple z_tuple (by decide +kernel) (fa_cons (fo_val (fe_lc [2] (own := [("_law_k", 2)]) sc_law_part.nd (fi_range1 (fa_cons (fo_val (fe_var (i := 1))) fa_nil) z_range) (blkOk_by (own := [("_law_k", 2)]) (N := ["_law_box_here", "_law_length", "_law_k"]) (sc := defScope s_law_part) (by decide +kernel)) (fun _ => (fg_name 2 sc_law_part.nd)) (fun _ => fts_nil) (fun _ => (fe_call takes0 F_law_number hr D_law_number.mg D_law_number.fn.kp D_law_number.b (fa_cons (fo_brw (i := 0)) fa_nil))))) fa_nil))))
/-! ### _law_scheme -/
theorem sc_law_scheme : FnScope ["_law_box_here", "_law_lengths_here", "_law_count", "_law_products", "_law_k", "_law_product", "_law_way", "_law_side", "_law_length"] ["_law_box_here", "_law_lengths_here", "_law_count"] (defScope s_law_scheme) := ⟨rfl, rfl, rfl, by decide +kernel, rfl, by decide +kernel, by decide +kernel⟩
theorem ok_law_scheme {f_law_scheme : Addr} {fd_law_scheme : FuncData} {f_law_take : Addr} {fd_law_take : FuncData} {f_law_part : Addr} {fd_law_part : FuncData} {k : Nat} (D_law_scheme : Df K mg "_law_scheme" s_law_scheme ["_law_box_here", "_law_lengths_here", "_law_count"] f_law_scheme fd_law_scheme) (D_law_take : Df K mg "_law_take" s_law_take ["_law_box_here", "_law_many"] f_law_take fd_law_take) (D_law_part : Df K mg "_law_part" s_law_part ["_law_box_here", "_law_length"] f_law_part fd_law_part) {r_law_take : FSpec} (F_law_take : FnOk P w K mg base (L2.CX P w) k f_law_take fd_law_take ["_law_box_here", "_law_many"] (FnD K 2 [0] r_law_take)) {r_law_part : FSpec} (F_law_part : FnOk P w K mg base (L2.CX P w) k f_law_part fd_law_part ["_law_box_here", "_law_length"] (FnD K 2 [0] r_law_part)) (z_len : mg "len" = none) (z_range : mg "range" = none) (z_tuple : mg "tuple" = none) {r : FSpec} (hrd : RD_law_scheme r r_law_take r_law_part) :
    FnOk P w K mg base (L2.CX P w) (k + 1) f_law_scheme fd_law_scheme ["_law_box_here", "_law_lengths_here", "_law_count"] (FnD K 3 [0] r) := by
  refine fl_fn D_law_scheme.fn sc_law_scheme (by rfl) (fun cdv A outer s H E hr => ?_) hrd
  have tk := takes_of (X := cxOf (L2.CX P w) P w K mg base ["_law_box_here", "_law_lengths_here", "_law_count", "_law_products", "_law_k", "_law_product", "_law_way", "_law_side", "_law_length"] "_law_scheme" (defScope s_law_scheme) f_law_scheme cdv A outer s H E) rfl rfl rfl rfl
  exact (fss_cons (fs_set 3 (fe_lst fa_nil) sc_law_scheme.nd) (fss_cons (fs_for [4] PassesOwn.leaving (fi_range1 (fa_cons (fo_val (fe_var (i := 2))) fa_nil) z_range) (fg_name 4 sc_law_scheme.nd) (fss_cons (fs_setLc 5 [8] (own := [("_law_length", 8)]) sc_law_scheme.nd (fi_row (fe_var (i := 1))) (blkOk_by (own := [("_law_length", 8)]) (N := ["_law_box_here", "_law_lengths_here", "_law_count", "_law_products", "_law_k", "_law_product", "_law_way", "_law_side", "_law_length"]) (sc := defScope s_law_scheme) (by decide +kernel)) (fun _ => (fg_name 8 sc_law_scheme.nd)) (fun _ => fts_nil) (fun _ => (fe_call takes0 F_law_part hr D_law_part.mg D_law_part.fn.kp D_law_part.b (fa_cons (fo_brw (i := 0)) (fa_cons (fo_val (fe_var (i := 8))) fa_nil))))) (fss_cons (fs_setF 6 (fe_call tk F_law_take hr D_law_take.mg D_law_take.fn.kp D_law_take.b (fa_cons (fo_brw (i := 0)) (fa_cons (fo_val fe_int) fa_nil))) sc_law_scheme.nd) (fss_cons (fs_cut (fs_if (FW.ft (fw_and (ft_cmp fop_lt (fo_val (fe_var (i := 6))) (fo_val fe_int)) (fw_and1 (ft_cmp (fop_ne hr.units) (fo_brw (i := 3)) (fo_val (fe_lst fa_nil)))))) (fss_one (fs_setL 5 (fe_ix (hu_of hr) (fo_val (fe_ix (hu_of hr) (fo_brw (i := 3)) (fo_val (fe_call tk F_law_take hr D_law_take.mg D_law_take.fn.kp D_law_take.b (fa_cons (fo_brw (i := 0)) (fa_cons (fo_val (fe_callB fc_len z_len (by decide +kernel) (fa_cons (fo_brw (i := 3)) fa_nil))) fa_nil)))))) (fo_val (fe_var (i := 6)))) (fo_val (fe_var (i := 6))))) fss_nil)) (fss_cons (fs_cut (fs_if (ft_cmp (fop_eq hr.units) (fo_val (fe_var (i := 6))) (fo_val fe_int)) (fss_cons (fs_setF 7 (fe_call tk F_law_take hr D_law_take.mg D_law_take.fn.kp D_law_take.b (fa_cons (fo_brw (i := 0)) (fa_cons (fo_val fe_int) fa_nil))) sc_law_scheme.nd) (fss_one (fs_setL 5 (fe_op fop_mulX (fo_val (fe_tup (fa_cons (fo_val fe_int) fa_nil))) (fo_val (fe_ix (hu_of hr) (fo_val (fe_var (i := 1))) (fo_val (fe_var (i := 7)))))) (fo_val (fe_var (i := 7)))))) fss_nil)) (fss_one (fs_expr (fe_app 3 (fe_callTy fc_tuple z_tuple (by decide +kernel) (fa_cons (fo_brw (i := 5)) fa_nil)))))))))) (fss_one (fs_ret (fe_op fop_add (fo_val (fe_callTy fc_tuple z_tuple (by decide +kernel) (fa_cons (fo_val (fe_var (i := 1))) fa_nil))) (fo_val (fe_frz (fe_tup (fa_cons (fo_val (fe_ice (i := 3))) fa_nil)))))))))
/-! ### _law_lengths -/
theorem sc_law_lengths : FnScope ["_law_box_here", "_law_most", "_law_side"] ["_law_box_here", "_law_most"] (defScope s_law_lengths) := ⟨rfl, rfl, rfl, by decide +kernel, rfl, by decide +kernel, by decide +kernel⟩
theorem ok_law_lengths {f_law_lengths : Addr} {fd_law_lengths : FuncData} {f_law_take : Addr} {fd_law_take : FuncData} {k : Nat} (D_law_lengths : Df K mg "_law_lengths" s_law_lengths ["_law_box_here", "_law_most"] f_law_lengths fd_law_lengths) (D_law_take : Df K mg "_law_take" s_law_take ["_law_box_here", "_law_many"] f_law_take fd_law_take) {r_law_take : FSpec} (F_law_take : FnOk P w K mg base (L2.CX P w) k f_law_take fd_law_take ["_law_box_here", "_law_many"] (FnD K 2 [0] r_law_take)) (z_range : mg "range" = none) {r : FSpec} (hrd : RD_law_lengths r r_law_take) :
    FnOk P w K mg base (L2.CX P w) (k + 1) f_law_lengths fd_law_lengths ["_law_box_here", "_law_most"] (FnD K 2 [0] r) := by
  refine fl_fn D_law_lengths.fn sc_law_lengths (by rfl) (fun cdv A outer s H E hr => ?_) hrd
  have tk := takes_of (X := cxOf (L2.CX P w) P w K mg base ["_law_box_here", "_law_most", "_law_side"] "_law_lengths" (defScope s_law_lengths) f_law_lengths cdv A outer s H E) rfl rfl rfl rfl
  exact (fss_one (fs_ret (fe_lc [2] (own := [("_law_side", 2)]) sc_law_lengths.nd (fi_range1 (fa_cons (fo_val fe_int) fa_nil) z_range) (blkOk_by (own := [("_law_side", 2)]) (N := ["_law_box_here", "_law_most", "_law_side"]) (sc := defScope s_law_lengths) (by decide +kernel)) (fun _ => (fg_name 2 sc_law_lengths.nd)) (fun _ => fts_nil) (fun _ => (fe_addCl (fo_val (fe_call takes0 F_law_take hr D_law_take.mg D_law_take.fn.kp D_law_take.b (fa_cons (fo_brw (i := 0)) (fa_cons (fo_val (fe_var (i := 1))) fa_nil)))))))))
/-! ### _law_wide -/
theorem sc_law_wide : FnScope ["_law_box_here", "_law_most", "_law_count"] ["_law_box_here"] (defScope s_law_wide) := ⟨rfl, rfl, rfl, by decide +kernel, rfl, by decide +kernel, by decide +kernel⟩
theorem ok_law_wide {f_law_wide : Addr} {fd_law_wide : FuncData} {f_law_scheme : Addr} {fd_law_scheme : FuncData} {f_law_take : Addr} {fd_law_take : FuncData} {f_law_lengths : Addr} {fd_law_lengths : FuncData} {k : Nat} (D_law_wide : Df K mg "_law_wide" s_law_wide ["_law_box_here"] f_law_wide fd_law_wide) (D_law_scheme : Df K mg "_law_scheme" s_law_scheme ["_law_box_here", "_law_lengths_here", "_law_count"] f_law_scheme fd_law_scheme) (D_law_take : Df K mg "_law_take" s_law_take ["_law_box_here", "_law_many"] f_law_take fd_law_take) (D_law_lengths : Df K mg "_law_lengths" s_law_lengths ["_law_box_here", "_law_most"] f_law_lengths fd_law_lengths) {r_law_scheme : FSpec} (F_law_scheme : FnOk P w K mg base (L2.CX P w) k f_law_scheme fd_law_scheme ["_law_box_here", "_law_lengths_here", "_law_count"] (FnD K 3 [0] r_law_scheme)) {r_law_take : FSpec} (F_law_take : FnOk P w K mg base (L2.CX P w) k f_law_take fd_law_take ["_law_box_here", "_law_many"] (FnD K 2 [0] r_law_take)) {r_law_lengths : FSpec} (F_law_lengths : FnOk P w K mg base (L2.CX P w) k f_law_lengths fd_law_lengths ["_law_box_here", "_law_most"] (FnD K 2 [0] r_law_lengths)) (z_min : mg "min" = none) {r : FSpec} (hrd : RD_law_wide r r_law_scheme r_law_take r_law_lengths) :
    FnOk P w K mg base (L2.CX P w) (k + 1) f_law_wide fd_law_wide ["_law_box_here"] (FnD K 1 [0] r) := by
  refine fl_fn D_law_wide.fn sc_law_wide (by rfl) (fun cdv A outer s H E hr => ?_) hrd
  have tk := takes_of (X := cxOf (L2.CX P w) P w K mg base ["_law_box_here", "_law_most", "_law_count"] "_law_wide" (defScope s_law_wide) f_law_wide cdv A outer s H E) rfl rfl rfl rfl
  exact (fss_cons (fs_setF 1 (fe_ix (hu_of hr) (fo_val (fe_lst (fa_cons (fo_val fe_int) (fa_cons (fo_val fe_int) (fa_cons (fo_val fe_int) (fa_cons (fo_val fe_int) (fa_cons (fo_val fe_int) (fa_cons (fo_val fe_int) (fa_cons (fo_val fe_int) (fa_cons (fo_val fe_int) fa_nil)))))))))) (fo_val (fe_call tk F_law_take hr D_law_take.mg D_law_take.fn.kp D_law_take.b (fa_cons (fo_brw (i := 0)) (fa_cons (fo_val fe_int) fa_nil))))) sc_law_wide.nd) (fss_cons (fs_setF 2 (fe_ix (hu_of hr) (fo_val (fe_lst (fa_cons (fo_val fe_int) (fa_cons (fo_val fe_int) (fa_cons (fo_val fe_int) (fa_cons (fo_val fe_int) (fa_cons (fo_val fe_int) (fa_cons (fo_val fe_int) (fa_cons (fo_val fe_int) (fa_cons (fo_val fe_int) fa_nil)))))))))) (fo_val (fe_call tk F_law_take hr D_law_take.mg D_law_take.fn.kp D_law_take.b (fa_cons (fo_brw (i := 0)) (fa_cons (fo_val fe_int) fa_nil))))) sc_law_wide.nd) (fss_cons (fs_cut (fs_if (ft_cmp (fop_eq hr.units) (fo_val (fe_var (i := 1))) (fo_val fe_int)) (fss_one (fs_setF 2 (fe_callB fc_min2 z_min (by decide +kernel) (fa_cons (fo_val (fe_var (i := 2))) (fa_cons (fo_val fe_int) fa_nil))) sc_law_wide.nd)) fss_nil)) (fss_one (fs_ret (fe_call tk F_law_scheme hr D_law_scheme.mg D_law_scheme.fn.kp D_law_scheme.b (fa_cons (fo_brw (i := 0)) (fa_cons (fo_val (fe_call tk F_law_lengths hr D_law_lengths.mg D_law_lengths.fn.kp D_law_lengths.b (fa_cons (fo_brw (i := 0)) (fa_cons (fo_val (fe_var (i := 1))) fa_nil)))) (fa_cons (fo_val (fe_var (i := 2))) fa_nil)))))))))
/-! ### _law_sum -/
theorem sc_law_sum : FnScope ["_law_part_here", "_law_words", "_law_place", "_law_number_here"] ["_law_part_here"] (defScope s_law_sum) := ⟨rfl, rfl, rfl, by decide +kernel, rfl, by decide +kernel, by decide +kernel⟩
theorem ok_law_sum {f_law_sum : Addr} {fd_law_sum : FuncData} {k : Nat} (D_law_sum : Df K mg "_law_sum" s_law_sum ["_law_part_here"] f_law_sum fd_law_sum) (z_enumerate : mg "enumerate" = none) (z_str : mg "str" = none) {r : FSpec} (hrd : RD_law_sum r) :
    FnOk P w K mg base (L2.CX P w) (k + 1) f_law_sum fd_law_sum ["_law_part_here"] (FnD K 1 [] r) := by
  refine fl_fn D_law_sum.fn sc_law_sum (by rfl) (fun cdv A outer s H E hr => ?_) hrd
  have tk := takes_of (X := cxOf (L2.CX P w) P w K mg base ["_law_part_here", "_law_words", "_law_place", "_law_number_here"] "_law_sum" (defScope s_law_sum) f_law_sum cdv A outer s H E) rfl rfl rfl rfl
  exact (fss_cons (fs_set 1 (fe_lst fa_nil) sc_law_sum.nd) (fss_cons (fs_for [3, 2] PassesOwn.leaving (fi_enum (fa_cons (fo_val (fe_var (i := 0))) fa_nil) z_enumerate) (fg_tup (fgs_cons (fg_name 2 sc_law_sum.nd) (fgs_cons (fg_name 3 sc_law_sum.nd) fgs_nil))) (fss_one (fs_if (ft_cmp (fop_ne hr.units) (fo_val (fe_var (i := 3))) (fo_val fe_int)) (fss_one (fs_expr (fe_app 1 (fe_op fop_add (fo_val (fe_op fop_add (fo_val (fe_callTy fc_strI z_str (by decide +kernel) (fa_cons (fo_val (fe_var (i := 3))) fa_nil))) (fo_val fe_str))) (fo_val (fe_callTy fc_strI z_str (by decide +kernel) (fa_cons (fo_val (fe_var (i := 2))) fa_nil))))))) fss_nil))) (fss_one (fs_ret (fe_join fe_str (fe_orT (fe_var (i := 1)) (fe_one (fe_lst (fa_cons (fo_val fe_str) fa_nil)))))))))
/-! ### _law_text -/
theorem sc_law_text : FnScope ["_law_scheme_here", "_law_rows", "_law_l", "_law_r", "_law_o", "_law_length"] ["_law_scheme_here"] (defScope s_law_text) := ⟨rfl, rfl, rfl, by decide +kernel, rfl, by decide +kernel, by decide +kernel⟩
theorem ok_law_text {f_law_text : Addr} {fd_law_text : FuncData} {f_law_sum : Addr} {fd_law_sum : FuncData} {k : Nat} (D_law_text : Df K mg "_law_text" s_law_text ["_law_scheme_here"] f_law_text fd_law_text) (D_law_sum : Df K mg "_law_sum" s_law_sum ["_law_part_here"] f_law_sum fd_law_sum) {r_law_sum : FSpec} (F_law_sum : FnOk P w K mg base (L2.CX P w) k f_law_sum fd_law_sum ["_law_part_here"] (FnD K 1 [] r_law_sum)) (z_str : mg "str" = none) {r : FSpec} (hrd : RD_law_text r r_law_sum) :
    FnOk P w K mg base (L2.CX P w) (k + 1) f_law_text fd_law_text ["_law_scheme_here"] (FnD K 1 [] r) := by
  refine fl_fn D_law_text.fn sc_law_text (by rfl) (fun cdv A outer s H E hr => ?_) hrd
  have tk := takes_of (X := cxOf (L2.CX P w) P w K mg base ["_law_scheme_here", "_law_rows", "_law_l", "_law_r", "_law_o", "_law_length"] "_law_text" (defScope s_law_text) f_law_text cdv A outer s H E) rfl rfl rfl rfl
  exact (fss_cons (fs_set 1 (fe_lst (fa_cons (fo_val (fe_op fop_add (fo_val fe_str) (fo_val (fe_join fe_str (fe_lc [5] (own := [("_law_length", 5)]) sc_law_text.nd (fi_row (fe_sl (fo_val (fe_var (i := 0))) fp_none (fp_some fe_int))) (blkOk_by (own := [("_law_length", 5)]) (N := ["_law_scheme_here", "_law_rows", "_law_l", "_law_r", "_law_o", "_law_length"]) (sc := defScope s_law_text) (by decide +kernel)) (fun _ => (fg_name 5 sc_law_text.nd)) (fun _ => fts_nil) (fun _ => (fe_callTy fc_strI z_str (by decide +kernel) (fa_cons (fo_val (fe_var (i := 5))) fa_nil)))))))) fa_nil)) sc_law_text.nd) (fss_cons (fs_for [4, 3, 2] PassesOwn.leaving (fi_row (fe_ix (hu_of hr) (fo_val (fe_var (i := 0))) (fo_val fe_int))) (fg_tup (fgs_cons (fg_name 2 sc_law_text.nd) (fgs_cons (fg_name 3 sc_law_text.nd) (fgs_cons (fg_name 4 sc_law_text.nd) fgs_nil)))) (fss_one (fs_expr (fe_app 1 (fe_op fop_add (fo_val (fe_op fop_add (fo_val (fe_op fop_add (fo_val (fe_op fop_add (fo_val (fe_call tk F_law_sum hr D_law_sum.mg D_law_sum.fn.kp D_law_sum.b (fa_cons (fo_val (fe_var (i := 2))) fa_nil))) (fo_val fe_str))) (fo_val (fe_call tk F_law_sum hr D_law_sum.mg D_law_sum.fn.kp D_law_sum.b (fa_cons (fo_val (fe_var (i := 3))) fa_nil))))) (fo_val fe_str))) (fo_val (fe_call tk F_law_sum hr D_law_sum.mg D_law_sum.fn.kp D_law_sum.b (fa_cons (fo_val (fe_var (i := 4))) fa_nil)))))))) (fss_one (fs_ret (fe_join fe_str (fe_var (i := 1)))))))
/-! ### law -/
theorem sc_law : FnScope ["_law_script", "_law_k", "_law_scheme_here", "_law_handed", "_law_found"] ["_law_script"] (defScope s_law) := ⟨rfl, rfl, rfl, by decide +kernel, rfl, by decide +kernel, by decide +kernel⟩
def rb_law_l1 (r_law_wide : FSpec) (r_scheme_text : FSpec) (r_law_box : FSpec) (r_law_text : FSpec) : RS := (rSeq (rSetF 2 (rCall [0] r_law_wide (rAC (oV (rCall [] r_law_box (rAC (oV (rVar 0)) (rAC (oV (rVar 1)) rA0)))) rA0)))
  (rSeq (rSetF 3 (rBin dAdd (oV (rSl (oV (rVar 2)) rP0 (rP1 (rC (.int 3))))) (oV (rFrz (rTup (rAC (oV (rCB dList (rAC (oV (rBin dIx (oV (rVar 2)) (oV (rC (.int 3))))) rA0))) rA0))))))
  (rSeq (rSetF 4 (rCall [] r_scheme_text (rAC (oV (rVar 3)) rA0)))
  (rIf (rOr (rNot (rTst (rCB dIsi (rAC (oV (rVar 4)) (rAC (oV (rC (.ty "str"))) rA0))))) (rOr (rTst (rBin dNe (oV (rVar 4)) (oV (rCall [] r_law_text (rAC (oV (rVar 2)) rA0))))) (rTst (rBin dNe (oV (rVar 3)) (oV (rVar 2)))))) (rRet (rC (.bl false))) rNx))))
def rb_law (r_law_wide : FSpec) (r_scheme_text : FSpec) (r_law_box : FSpec) (r_law_text : FSpec) : RS := (rSeq (rFor (rRg1 (rAC (oV (rCB dMax2 (rAC (oV (rC (.int 4))) (rAC (oV (rCB dMin2 (rAC (oV (rCB dLen (rAC (oV (rVar 0)) rA0))) (rAC (oV (rC (.int 10))) rA0)))) rA0)))) rA0)) (gNm 1) (rb_law_l1 r_law_wide r_scheme_text r_law_box r_law_text))
  (rRet (rC (.bl true))))
abbrev RD_law (r : FSpec) (r_law_wide : FSpec) (r_scheme_text : FSpec) (r_law_box : FSpec) (r_law_text : FSpec) : Prop := ∀ ds ED QD, ds.length = 1 → r ds ED QD → (rb_law r_law_wide r_scheme_text r_law_box r_law_text) (startD ["_law_script", "_law_k", "_law_scheme_here", "_law_handed", "_law_found"] ds) (fun c fs ρ => ED c fs (ρ.take 1)) (finD 1 QD)
theorem ok_law {f_law : Addr} {fd_law : FuncData} {f_law_wide : Addr} {fd_law_wide : FuncData} {f_scheme_text : Addr} {fd_scheme_text : FuncData} {f_law_box : Addr} {fd_law_box : FuncData} {f_law_text : Addr} {fd_law_text : FuncData} {k : Nat} (D_law : Df K mg "law" s_law ["_law_script"] f_law fd_law) (D_law_wide : Df K mg "_law_wide" s_law_wide ["_law_box_here"] f_law_wide fd_law_wide) (D_scheme_text : Df K mg "scheme_text" s_scheme_text ["scheme"] f_scheme_text fd_scheme_text) (D_law_box : Df K mg "_law_box" s_law_box ["_law_script", "_law_k"] f_law_box fd_law_box) (D_law_text : Df K mg "_law_text" s_law_text ["_law_scheme_here"] f_law_text fd_law_text) {r_law_wide : FSpec} (F_law_wide : FnOk P w K mg base (L2.CX P w) k f_law_wide fd_law_wide ["_law_box_here"] (FnD K 1 [0] r_law_wide)) {r_scheme_text : FSpec} (F_scheme_text : FnOk P w K mg base (L2.CX P w) k f_scheme_text fd_scheme_text ["scheme"] (FnD K 1 [] r_scheme_text)) {r_law_box : FSpec} (F_law_box : FnOk P w K mg base (L2.CX P w) k f_law_box fd_law_box ["_law_script", "_law_k"] (FnD K 2 [] r_law_box)) {r_law_text : FSpec} (F_law_text : FnOk P w K mg base (L2.CX P w) k f_law_text fd_law_text ["_law_scheme_here"] (FnD K 1 [] r_law_text)) (z_isinstance : mg "isinstance" = none) (z_len : mg "len" = none) (z_list : mg "list" = none) (z_max : mg "max" = none) (z_min : mg "min" = none) (z_range : mg "range" = none) (z_str : mg "str" = none) {r : FSpec} (hrd : RD_law r r_law_wide r_scheme_text r_law_box r_law_text) :
    FnOk P w K mg base (L2.CX P w) (k + 1) f_law fd_law ["_law_script"] (FnD K 1 [] r) := by
  refine fl_fn D_law.fn sc_law (by rfl) (fun cdv A outer s H E hr => ?_) hrd
  have tk := takes_of (X := cxOf (L2.CX P w) P w K mg base ["_law_script", "_law_k", "_law_scheme_here", "_law_handed", "_law_found"] "law" (defScope s_law) f_law cdv A outer s H E) rfl rfl rfl rfl
  exact (fss_cons (fs_for [1] PassesOwn.leaving (fi_range1 (fa_cons (fo_val (fe_callB fc_max2 z_max (by decide +kernel) (fa_cons (fo_val fe_int) (fa_cons (fo_val (fe_callB fc_min2 z_min (by decide +kernel) (fa_cons (fo_val (fe_callB fc_len z_len (by decide +kernel) (fa_cons (fo_val (fe_var (i := 0))) fa_nil))) (fa_cons (fo_val fe_int) fa_nil)))) fa_nil)))) fa_nil) z_range) (fg_name 1 sc_law.nd) (fss_cons (fs_setF 2 (fe_call tk F_law_wide hr D_law_wide.mg D_law_wide.fn.kp D_law_wide.b (fa_cons (fo_val (fe_call tk F_law_box hr D_law_box.mg D_law_box.fn.kp D_law_box.b (fa_cons (fo_val (fe_var (i := 0))) (fa_cons (fo_val (fe_var (i := 1))) fa_nil)))) fa_nil)) sc_law.nd) (fss_cons (fs_setF 3 (fe_op fop_add (fo_val (fe_sl (fo_val (fe_var (i := 2))) fp_none (fp_some fe_int))) (fo_val (fe_frz (fe_tup (fa_cons (fo_val (fe_callTy fc_list z_list (by decide +kernel) (fa_cons (fo_val (fe_ix (hu_of hr) (fo_val (fe_var (i := 2))) (fo_val fe_int))) fa_nil))) fa_nil))))) sc_law.nd) (fss_cons (fs_setF 4 (fe_call tk F_scheme_text hr D_scheme_text.mg D_scheme_text.fn.kp D_scheme_text.b (fa_cons (fo_val (fe_var (i := 3))) fa_nil)) sc_law.nd) (fss_one (fs_if (FW.ft (fw_or (ft_not (ft_val (fe_callB fc_isi z_isinstance (by decide +kernel) (fa_cons (fo_val (fe_var (i := 4))) (fa_cons (fo_val (fe_ty (n := "str") z_str (by decide +kernel))) fa_nil))))) (fw_or (ft_cmp (fop_ne hr.units) (fo_val (fe_var (i := 4))) (fo_val (fe_call tk F_law_text hr D_law_text.mg D_law_text.fn.kp D_law_text.b (fa_cons (fo_val (fe_var (i := 2))) fa_nil)))) (fw_or1 (ft_cmp (fop_ne hr.units) (fo_val (fe_var (i := 3))) (fo_val (fe_var (i := 2)))))))) (fss_one (fs_ret fe_bl)) fss_nil)))))) (fss_one (fs_ret fe_bl)))
/-! ### the defs together -/
structure Ad where
  f_sum_text : Addr
  fd_sum_text : FuncData
  f_product_text : Addr
  fd_product_text : FuncData
  f_scheme_text : Addr
  fd_scheme_text : FuncData
  f_law_cell_at : Addr
  fd_law_cell_at : FuncData
  f_law_mixed : Addr
  fd_law_mixed : FuncData
  f_law_box : Addr
  fd_law_box : FuncData
  f_law_take : Addr
  fd_law_take : FuncData
  f_law_number : Addr
  fd_law_number : FuncData
  f_law_part : Addr
  fd_law_part : FuncData
  f_law_scheme : Addr
  fd_law_scheme : FuncData
  f_law_lengths : Addr
  fd_law_lengths : FuncData
  f_law_wide : Addr
  fd_law_wide : FuncData
  f_law_sum : Addr
  fd_law_sum : FuncData
  f_law_text : Addr
  fd_law_text : FuncData
  f_law : Addr
  fd_law : FuncData
  t_NOUGHTS : Value
structure Tb (K : PySem.W.Frag) (mg : Str → Option Value) (A : Ad) : Prop where
  D_sum_text : Df K mg "sum_text" s_sum_text ["part"] A.f_sum_text A.fd_sum_text
  D_product_text : Df K mg "product_text" s_product_text ["product"] A.f_product_text A.fd_product_text
  D_scheme_text : Df K mg "scheme_text" s_scheme_text ["scheme"] A.f_scheme_text A.fd_scheme_text
  D_law_cell_at : Df K mg "_law_cell_at" s_law_cell_at ["_law_script", "_law_k"] A.f_law_cell_at A.fd_law_cell_at
  D_law_mixed : Df K mg "_law_mixed" s_law_mixed ["_law_number_here", "_law_k"] A.f_law_mixed A.fd_law_mixed
  D_law_box : Df K mg "_law_box" s_law_box ["_law_script", "_law_k"] A.f_law_box A.fd_law_box
  D_law_take : Df K mg "_law_take" s_law_take ["_law_box_here", "_law_many"] A.f_law_take A.fd_law_take
  D_law_number : Df K mg "_law_number" s_law_number ["_law_box_here"] A.f_law_number A.fd_law_number
  D_law_part : Df K mg "_law_part" s_law_part ["_law_box_here", "_law_length"] A.f_law_part A.fd_law_part
  D_law_scheme : Df K mg "_law_scheme" s_law_scheme ["_law_box_here", "_law_lengths_here", "_law_count"] A.f_law_scheme A.fd_law_scheme
  D_law_lengths : Df K mg "_law_lengths" s_law_lengths ["_law_box_here", "_law_most"] A.f_law_lengths A.fd_law_lengths
  D_law_wide : Df K mg "_law_wide" s_law_wide ["_law_box_here"] A.f_law_wide A.fd_law_wide
  D_law_sum : Df K mg "_law_sum" s_law_sum ["_law_part_here"] A.f_law_sum A.fd_law_sum
  D_law_text : Df K mg "_law_text" s_law_text ["_law_scheme_here"] A.f_law_text A.fd_law_text
  D_law : Df K mg "law" s_law ["_law_script"] A.f_law A.fd_law
  z_abs : mg "abs" = none
  z_enumerate : mg "enumerate" = none
  z_int : mg "int" = none
  z_isinstance : mg "isinstance" = none
  z_len : mg "len" = none
  z_list : mg "list" = none
  z_max : mg "max" = none
  z_min : mg "min" = none
  z_range : mg "range" = none
  z_str : mg "str" = none
  z_tuple : mg "tuple" = none
  g_NOUGHTS : mg "NOUGHTS" = some A.t_NOUGHTS ∧ KV K (.str "-") A.t_NOUGHTS
end
end K52
namespace Cm
open PySem PySem.Spec PyProof.Rows L2 FL
/-! ### _law_single -/
def rb_law_single : RS := (rRet (rCB dTuple (rAC (oV (rComp (rRg1 (rAC (oV (rVar 0)) rA0)) (gNm 2) rYes (rCB dInt (rAC (oV (rBin dEq (oV (rVar 2)) (oV (rVar 1)))) rA0)) [2])) rA0)))
abbrev RD_law_single (r : FSpec) : Prop := ∀ ds ED QD, ds.length = 2 → r ds ED QD → rb_law_single (startD ["_law_length", "_law_place", "_law_here"] ds) (fun c fs ρ => ED c fs (ρ.take 2)) (finD 2 QD)
/-! ### _law_table_sums -/
def rb_law_table_sums : RS := (rSeq (rAsg (gTp 3 (gCs (gNm 3) (gCs (gNm 4) (gCs (gNm 5) gNl)))) (rVar 0))
  (rSeq (rSet 1 (rDNew true))
  (rSeq (rFor (rRg1 (rAC (oV (rVar 3)) rA0)) (gNm 2) (rFor (rRg1 (rAC (oV (rVar 4)) rA0)) (gNm 6) (rFor (rRg1 (rAC (oV (rVar 5)) rA0)) (gNm 7) (rSetD 1 (oV (rTup (rAC (oV (rBin dAdd (oV (rBin dMulX (oV (rVar 2)) (oV (rVar 5)))) (oV (rVar 7)))) (rAC (oV (rBin dAdd (oV (rBin dMulX (oV (rVar 2)) (oV (rVar 4)))) (oV (rVar 6)))) (rAC (oV (rBin dAdd (oV (rBin dMulX (oV (rVar 6)) (oV (rVar 5)))) (oV (rVar 7)))) rA0))))) (rC (.int 1))))))
  (rRet (rVar 1)))))
abbrev RD_law_table_sums (r : FSpec) : Prop := ∀ ds ED QD, ds.length = 1 → r ds ED QD → rb_law_table_sums (startD ["_law_sizes_here", "_law_found", "_law_a", "_law_n", "_law_m", "_law_p", "_law_b", "_law_c"] ds) (fun c fs ρ => ED c fs (ρ.take 1)) (finD 1 QD)
/-! ### _law_lengths_of -/
def rb_law_lengths_of : RS := (rRet (rTup (rAC (oV (rBin dMulX (oV (rBin dIx (oV (rVar 0)) (oV (rC (.int 0))))) (oV (rBin dIx (oV (rVar 0)) (oV (rC (.int 1))))))) (rAC (oV (rBin dMulX (oV (rBin dIx (oV (rVar 0)) (oV (rC (.int 1))))) (oV (rBin dIx (oV (rVar 0)) (oV (rC (.int 2))))))) (rAC (oV (rBin dMulX (oV (rBin dIx (oV (rVar 0)) (oV (rC (.int 0))))) (oV (rBin dIx (oV (rVar 0)) (oV (rC (.int 2))))))) rA0)))))
abbrev RD_law_lengths_of (r : FSpec) : Prop := ∀ ds ED QD, ds.length = 1 → r ds ED QD → rb_law_lengths_of (startD ["_law_sizes_here"] ds) (fun c fs ρ => ED c fs (ρ.take 1)) (finD 1 QD)
/-! ### _law_plainly -/
def rb_law_plainly (r_law_single : FSpec) : RS := (rRet (rComp (rItA (rCB dSortD (rAC (oV (rVar 1)) rA0))) (gTp 3 (gCs (gNm 2) (gCs (gNm 3) (gCs (gNm 4) gNl)))) rYes (rTup (rAC (oV (rCall [] r_law_single (rAC (oV (rBin dIx (oV (rVar 0)) (oV (rC (.int 0))))) (rAC (oV (rVar 3)) rA0)))) (rAC (oV (rCall [] r_law_single (rAC (oV (rBin dIx (oV (rVar 0)) (oV (rC (.int 1))))) (rAC (oV (rVar 4)) rA0)))) (rAC (oV (rCB dTuple (rAC (oV (rComp (rItA (rCall [] r_law_single (rAC (oV (rBin dIx (oV (rVar 0)) (oV (rC (.int 2))))) (rAC (oV (rVar 2)) rA0)))) (gNm 5) rYes (rBin dMulX (oV (rVar 5)) (oV (rBin dIx (oV (rVar 1)) (oV (rTup (rAC (oV (rVar 2)) (rAC (oV (rVar 3)) (rAC (oV (rVar 4)) rA0)))))))) [5])) rA0))) rA0)))) [4, 3, 2]))
abbrev RD_law_plainly (r : FSpec) (r_law_single : FSpec) : Prop := ∀ ds ED QD, ds.length = 2 → r ds ED QD → (rb_law_plainly r_law_single) (startD ["_law_lengths", "_law_sums_here", "_law_k", "_law_i", "_law_j", "_law_number"] ds) (fun c fs ρ => ED c fs (ρ.take 2)) (finD 2 QD)
/-! ### _law_turned_about -/
def rb_law_turned_about : RS := (rRet (rCB dTuple (rAC (oV (rComp (rItA (rVar 0)) (gNm 1) rYes (rIc (fun i => -i) (oV (rVar 1))) [1])) rA0)))
abbrev RD_law_turned_about (r : FSpec) : Prop := ∀ ds ED QD, ds.length = 1 → r ds ED QD → rb_law_turned_about (startD ["_law_part", "_law_number"] ds) (fun c fs ρ => ED c fs (ρ.take 1)) (finD 1 QD)
/-! ### _law_dressed -/
def rb_law_dressed (r_law_take : FSpec) (r_law_turned_about : FSpec) : RS := (rSeq (rSet 4 (rLst rA0))
  (rSeq (rFor (rItA (rVar 2)) (gTp 3 (gCs (gNm 6) (gCs (gNm 7) (gCs (gNm 8) gNl)))) (rSeq (rSetF 9 (rCall [0] r_law_take (rAC (oN 0) (rAC (oV (rC (.int 6))) rA0))))
  (rSeq (rCut (rIf (rTst (rBin dEq (oV (rVar 9)) (oV (rC (.int 0))))) (rParN [6, 8] [false, false] (rAC (oV (rCall [] r_law_turned_about (rAC (oV (rVar 6)) rA0))) (rAC (oV (rCall [] r_law_turned_about (rAC (oV (rVar 8)) rA0))) rA0))) rNx))
  (rSeq (rCut (rIf (rTst (rBin dEq (oV (rVar 9)) (oV (rC (.int 1))))) (rParN [6, 7] [false, false] (rAC (oV (rCall [] r_law_turned_about (rAC (oV (rVar 6)) rA0))) (rAC (oV (rCall [] r_law_turned_about (rAC (oV (rVar 7)) rA0))) rA0))) rNx))
  (rDrop (rIns 4 (rAC (oV (rCall [0] r_law_take (rAC (oN 0) (rAC (oV (rIc (fun i => i + 1) (oV (rCB dLen (rAC (oN 4) rA0))))) rA0)))) (rAC (oV (rTup (rAC (oV (rVar 6)) (rAC (oV (rVar 7)) (rAC (oV (rVar 8)) rA0))))) rA0))))))))
  (rSeq (rFor (rRg1 (rAC (oV (rCall [0] r_law_take (rAC (oN 0) (rAC (oV (rIc (fun i => i + 1) (oV (rVar 3)))) rA0)))) rA0)) (gNm 5) (rSeq (rSetF 10 (rCall [0] r_law_take (rAC (oN 0) (rAC (oV (rCB dLen (rAC (oN 4) rA0))) rA0))))
  (rSeq (rAsg (gTp 3 (gCs (gNm 6) (gCs (gNm 7) (gCs (gNm 8) gNl)))) (rBin dIx (oN 4) (oV (rVar 10))))
  (rSeq (rSetF 11 (rCall [0] r_law_take (rAC (oN 0) (rAC (oV (rC (.int 3))) rA0))))
  (rSeq (rSetF 12 (rCB dTuple (rAC (oV (rComp (rItA (rBin dIx (oV (rBin dIx (oN 4) (oV (rVar 10)))) (oV (rVar 11)))) (gNm 15) rYes (rIc (fun i => i - 2) (oV (rCall [0] r_law_take (rAC (oN 0) (rAC (oV (rC (.int 5))) rA0))))) [15])) rA0)))
  (rSeq (rSetF 13 (rCB dTuple (rAC (oV (rComp (rZp (rAC (oV (rBin dIx (oV (rBin dIx (oN 4) (oV (rVar 10)))) (oV (rVar 11)))) (rAC (oV (rVar 12)) rA0))) (gTp 2 (gCs (gNm 15) (gCs (gNm 16) gNl))) rYes (rBin dSub (oV (rVar 15)) (oV (rVar 16))) [16, 15])) rA0)))
  (rSeq (rSetL 4 (oV (rVar 10)) (rBin dAdd (oV (rBin dAdd (oV (rSl (oV (rBin dIx (oN 4) (oV (rVar 10)))) rP0 (rP1 (rVar 11)))) (oV (rFrz (rTup (rAC (oV (rVar 13)) rA0)))))) (oV (rSl (oV (rBin dIx (oN 4) (oV (rVar 10)))) (rP1 (rIc (fun i => i + 1) (oV (rVar 11)))) rP0))))
  (rSeq (rSetF 14 (rBin dAdd (oV (rBin dAdd (oV (rSl (oV (rTup (rAC (oV (rVar 6)) (rAC (oV (rVar 7)) (rAC (oV (rVar 8)) rA0))))) rP0 (rP1 (rVar 11)))) (oV (rFrz (rTup (rAC (oV (rVar 12)) rA0)))))) (oV (rSl (oV (rTup (rAC (oV (rVar 6)) (rAC (oV (rVar 7)) (rAC (oV (rVar 8)) rA0))))) (rP1 (rIc (fun i => i + 1) (oV (rVar 11)))) rP0))))
  (rDrop (rIns 4 (rAC (oV (rCall [0] r_law_take (rAC (oN 0) (rAC (oV (rIc (fun i => i + 1) (oV (rCB dLen (rAC (oN 4) rA0))))) rA0)))) (rAC (oV (rVar 14)) rA0))))))))))))
  (rRet (rBin dAdd (oV (rCB dTuple (rAC (oV (rVar 1)) rA0))) (oV (rFrz (rTup (rAC (oV (rIce 4)) rA0)))))))))
abbrev RD_law_dressed (r : FSpec) (r_law_take : FSpec) (r_law_turned_about : FSpec) : Prop := ∀ ds ED QD, ds.length = 4 → r ds ED QD → (rb_law_dressed r_law_take r_law_turned_about) (startD ["_law_box_here", "_law_lengths", "_law_products", "_law_most", "_law_found", "_law_turn", "_law_l", "_law_r", "_law_o", "_law_way", "_law_at", "_law_side", "_law_more", "_law_less", "_law_extra", "_law_number", "_law_other"] ds) (fun c fs ρ => ED c fs (ρ.take 4)) (finD 4 QD)
/-! ### _law_seven -/
def rb_law_seven : RS := (rRet (rLst (rAC (oV (rTup (rAC (oV (rTup (rAC (oV (rC (.int 1))) (rAC (oV (rC (.int 0))) (rAC (oV (rC (.int 0))) (rAC (oV (rC (.int 1))) rA0)))))) (rAC (oV (rTup (rAC (oV (rC (.int 1))) (rAC (oV (rC (.int 0))) (rAC (oV (rC (.int 0))) (rAC (oV (rC (.int 1))) rA0)))))) (rAC (oV (rTup (rAC (oV (rC (.int 1))) (rAC (oV (rC (.int 0))) (rAC (oV (rC (.int 0))) (rAC (oV (rC (.int 1))) rA0)))))) rA0))))) (rAC (oV (rTup (rAC (oV (rTup (rAC (oV (rC (.int 0))) (rAC (oV (rC (.int 0))) (rAC (oV (rC (.int 1))) (rAC (oV (rC (.int 1))) rA0)))))) (rAC (oV (rTup (rAC (oV (rC (.int 1))) (rAC (oV (rC (.int 0))) (rAC (oV (rC (.int 0))) (rAC (oV (rC (.int 0))) rA0)))))) (rAC (oV (rTup (rAC (oV (rC (.int 0))) (rAC (oV (rC (.int 0))) (rAC (oV (rC (.int 1))) (rAC (oV (rC (.int (-1)))) rA0)))))) rA0))))) (rAC (oV (rTup (rAC (oV (rTup (rAC (oV (rC (.int 1))) (rAC (oV (rC (.int 0))) (rAC (oV (rC (.int 0))) (rAC (oV (rC (.int 0))) rA0)))))) (rAC (oV (rTup (rAC (oV (rC (.int 0))) (rAC (oV (rC (.int 1))) (rAC (oV (rC (.int 0))) (rAC (oV (rC (.int (-1)))) rA0)))))) (rAC (oV (rTup (rAC (oV (rC (.int 0))) (rAC (oV (rC (.int 1))) (rAC (oV (rC (.int 0))) (rAC (oV (rC (.int 1))) rA0)))))) rA0))))) (rAC (oV (rTup (rAC (oV (rTup (rAC (oV (rC (.int 0))) (rAC (oV (rC (.int 0))) (rAC (oV (rC (.int 0))) (rAC (oV (rC (.int 1))) rA0)))))) (rAC (oV (rTup (rAC (oV (rC (.int (-1)))) (rAC (oV (rC (.int 0))) (rAC (oV (rC (.int 1))) (rAC (oV (rC (.int 0))) rA0)))))) (rAC (oV (rTup (rAC (oV (rC (.int 1))) (rAC (oV (rC (.int 0))) (rAC (oV (rC (.int 1))) (rAC (oV (rC (.int 0))) rA0)))))) rA0))))) (rAC (oV (rTup (rAC (oV (rTup (rAC (oV (rC (.int 1))) (rAC (oV (rC (.int 1))) (rAC (oV (rC (.int 0))) (rAC (oV (rC (.int 0))) rA0)))))) (rAC (oV (rTup (rAC (oV (rC (.int 0))) (rAC (oV (rC (.int 0))) (rAC (oV (rC (.int 0))) (rAC (oV (rC (.int 1))) rA0)))))) (rAC (oV (rTup (rAC (oV (rC (.int (-1)))) (rAC (oV (rC (.int 1))) (rAC (oV (rC (.int 0))) (rAC (oV (rC (.int 0))) rA0)))))) rA0))))) (rAC (oV (rTup (rAC (oV (rTup (rAC (oV (rC (.int (-1)))) (rAC (oV (rC (.int 0))) (rAC (oV (rC (.int 1))) (rAC (oV (rC (.int 0))) rA0)))))) (rAC (oV (rTup (rAC (oV (rC (.int 1))) (rAC (oV (rC (.int 1))) (rAC (oV (rC (.int 0))) (rAC (oV (rC (.int 0))) rA0)))))) (rAC (oV (rTup (rAC (oV (rC (.int 0))) (rAC (oV (rC (.int 0))) (rAC (oV (rC (.int 0))) (rAC (oV (rC (.int 1))) rA0)))))) rA0))))) (rAC (oV (rTup (rAC (oV (rTup (rAC (oV (rC (.int 0))) (rAC (oV (rC (.int 1))) (rAC (oV (rC (.int 0))) (rAC (oV (rC (.int (-1)))) rA0)))))) (rAC (oV (rTup (rAC (oV (rC (.int 0))) (rAC (oV (rC (.int 0))) (rAC (oV (rC (.int 1))) (rAC (oV (rC (.int 1))) rA0)))))) (rAC (oV (rTup (rAC (oV (rC (.int 1))) (rAC (oV (rC (.int 0))) (rAC (oV (rC (.int 0))) (rAC (oV (rC (.int 0))) rA0)))))) rA0))))) rA0)))))))))
abbrev RD_law_seven (r : FSpec) : Prop := ∀ ds ED QD, ds.length = 0 → r ds ED QD → rb_law_seven (startD [] ds) (fun c fs ρ => ED c fs (ρ.take 0)) (finD 0 QD)
/-! ### _law_tables -/
def rb_law_tables (r_law_lengths_of : FSpec) (r_law_dressed : FSpec) (r_law_plainly : FSpec) (r_law_take : FSpec) (r_law_seven : FSpec) (r_law_table_sums : FSpec) : RS := (rSeq (rIf (rAnd (rTst (rBin dEq (oV (rVar 1)) (oV (rTup (rAC (oV (rC (.int 2))) (rAC (oV (rC (.int 2))) (rAC (oV (rC (.int 2))) rA0))))))) (rTst (rBin dEq (oV (rCall [0] r_law_take (rAC (oN 0) (rAC (oV (rC (.int 2))) rA0)))) (oV (rC (.int 0)))))) (rRet (rCall [0] r_law_dressed (rAC (oN 0) (rAC (oV (rTup (rAC (oV (rC (.int 4))) (rAC (oV (rC (.int 4))) (rAC (oV (rC (.int 4))) rA0))))) (rAC (oV (rCall [] r_law_seven rA0)) (rAC (oV (rVar 2)) rA0)))))) rNx)
  (rSeq (rSetF 3 (rCall [] r_law_lengths_of (rAC (oV (rVar 1)) rA0)))
  (rRet (rCall [0] r_law_dressed (rAC (oN 0) (rAC (oV (rVar 3)) (rAC (oV (rCall [] r_law_plainly (rAC (oV (rVar 3)) (rAC (oV (rCall [] r_law_table_sums (rAC (oV (rVar 1)) rA0))) rA0)))) (rAC (oV (rVar 2)) rA0))))))))
abbrev RD_law_tables (r : FSpec) (r_law_lengths_of : FSpec) (r_law_dressed : FSpec) (r_law_plainly : FSpec) (r_law_take : FSpec) (r_law_seven : FSpec) (r_law_table_sums : FSpec) : Prop := ∀ ds ED QD, ds.length = 3 → r ds ED QD → (rb_law_tables r_law_lengths_of r_law_dressed r_law_plainly r_law_take r_law_seven r_law_table_sums) (startD ["_law_box_here", "_law_sizes_here", "_law_most", "_law_lengths"] ds) (fun c fs ρ => ED c fs (ρ.take 3)) (finD 3 QD)
/-! ### _law_line_sums -/
def rb_law_line_sums : RS := (rSeq (rSet 2 (rDNew true))
  (rSeq (rFor (rRg1 (rAC (oV (rVar 0)) rA0)) (gNm 3) (rFor (rRg1 (rAC (oV (rVar 1)) rA0)) (gNm 4) (rSetD 2 (oV (rTup (rAC (oV (rBin dAdd (oV (rVar 3)) (oV (rVar 4)))) (rAC (oV (rVar 3)) (rAC (oV (rVar 4)) rA0))))) (rC (.int 1)))))
  (rRet (rVar 2))))
abbrev RD_law_line_sums (r : FSpec) : Prop := ∀ ds ED QD, ds.length = 2 → r ds ED QD → rb_law_line_sums (startD ["_law_n", "_law_m", "_law_found", "_law_i", "_law_j"] ds) (fun c fs ρ => ED c fs (ρ.take 2)) (finD 2 QD)
/-! ### _law_pairs_products -/
def rb_law_pairs_products (r_law_single : FSpec) : RS := (rSeq (rSet 1 (rLst rA0))
  (rSeq (rFor (rRg1 (rAC (oV (rVar 0)) rA0)) (gNm 2) (rSeq (rSet 3 (rBin dMulX (oV (rLst (rAC (oV (rC (.int 0))) rA0))) (oV (rIc (fun i => i - 1) (oV (rIc (fun i => 2 * i) (oV (rVar 0))))))))
  (rSeq (rFor (rRg1 (rAC (oV (rVar 0)) rA0)) (gNm 4) (rSetL 3 (oV (rBin dAdd (oV (rVar 2)) (oV (rVar 4)))) (rC (.int (-1)))))
  (rSeq (rSetL 3 (oV (rIc (fun i => 2 * i) (oV (rVar 2)))) (rC (.int 1)))
  (rSeq (rDrop (rApp 1 (rTup (rAC (oV (rCall [] r_law_single (rAC (oV (rVar 0)) (rAC (oV (rVar 2)) rA0)))) (rAC (oV (rCall [] r_law_single (rAC (oV (rVar 0)) (rAC (oV (rVar 2)) rA0)))) (rAC (oV (rCB dTuple (rAC (oN 3) rA0))) rA0))))))
  (rFor (rRg1 (rAC (oV (rVar 2)) rA0)) (gNm 4) (rSeq (rSetF 5 (rCB dTuple (rAC (oV (rComp (rRg1 (rAC (oV (rVar 0)) rA0)) (gNm 6) rYes (rCB dInt (rAC (oV (rBin (dIn false) (oV (rVar 6)) (oV (rTup (rAC (oV (rVar 2)) (rAC (oV (rVar 4)) rA0)))))) rA0)) [6])) rA0)))
  (rDrop (rApp 1 (rTup (rAC (oV (rVar 5)) (rAC (oV (rVar 5)) (rAC (oV (rCall [] r_law_single (rAC (oV (rIc (fun i => i - 1) (oV (rIc (fun i => 2 * i) (oV (rVar 0)))))) (rAC (oV (rBin dAdd (oV (rVar 2)) (oV (rVar 4)))) rA0)))) rA0)))))))))))))
  (rRet (rVar 1))))
abbrev RD_law_pairs_products (r : FSpec) (r_law_single : FSpec) : Prop := ∀ ds ED QD, ds.length = 1 → r ds ED QD → (rb_law_pairs_products r_law_single) (startD ["_law_n", "_law_found", "_law_i", "_law_out", "_law_j", "_law_both", "_law_place"] ds) (fun c fs ρ => ED c fs (ρ.take 1)) (finD 1 QD)
/-! ### _law_line -/
def rb_law_line (r_law_dressed : FSpec) (r_law_plainly : FSpec) (r_law_take : FSpec) (r_law_pairs_products : FSpec) (r_law_line_sums : FSpec) : RS := (rSeq (rSetF 4 (rTup (rAC (oV (rVar 1)) (rAC (oV (rVar 2)) (rAC (oV (rIc (fun i => i - 1) (oV (rBin dAdd (oV (rVar 1)) (oV (rVar 2)))))) rA0)))))
  (rSeq (rIf (rAnd (rTst (rBin dEq (oV (rVar 1)) (oV (rVar 2)))) (rTst (rBin dEq (oV (rCall [0] r_law_take (rAC (oN 0) (rAC (oV (rC (.int 2))) rA0)))) (oV (rC (.int 0)))))) (rRet (rCall [0] r_law_dressed (rAC (oN 0) (rAC (oV (rVar 4)) (rAC (oV (rCall [] r_law_pairs_products (rAC (oV (rVar 1)) rA0))) (rAC (oV (rVar 3)) rA0)))))) rNx)
  (rRet (rCall [0] r_law_dressed (rAC (oN 0) (rAC (oV (rVar 4)) (rAC (oV (rCall [] r_law_plainly (rAC (oV (rVar 4)) (rAC (oV (rCall [] r_law_line_sums (rAC (oV (rVar 1)) (rAC (oV (rVar 2)) rA0)))) rA0)))) (rAC (oV (rVar 3)) rA0))))))))
abbrev RD_law_line (r : FSpec) (r_law_dressed : FSpec) (r_law_plainly : FSpec) (r_law_take : FSpec) (r_law_pairs_products : FSpec) (r_law_line_sums : FSpec) : Prop := ∀ ds ED QD, ds.length = 4 → r ds ED QD → (rb_law_line r_law_dressed r_law_plainly r_law_take r_law_pairs_products r_law_line_sums) (startD ["_law_box_here", "_law_n", "_law_m", "_law_most", "_law_lengths"] ds) (fun c fs ρ => ED c fs (ρ.take 4)) (finD 4 QD)
/-! ### _law_ring_sums -/
def rb_law_ring_sums : RS := (rSeq (rSet 2 (rDNew true))
  (rSeq (rFor (rRg1 (rAC (oV (rVar 0)) rA0)) (gNm 3) (rFor (rRg1 (rAC (oV (rVar 0)) rA0)) (gNm 4) (rSetD 2 (oV (rTup (rAC (oV (rBin dMod (oV (rBin dAdd (oV (rVar 3)) (oV (rVar 4)))) (oV (rVar 0)))) (rAC (oV (rVar 3)) (rAC (oV (rVar 4)) rA0))))) (rBin dIx (oV (rLst (rAC (oV (rC (.int 1))) (rAC (oV (rVar 1)) rA0)))) (oV (rCB dInt (rAC (oV (rBin dGe (oV (rBin dAdd (oV (rVar 3)) (oV (rVar 4)))) (oV (rVar 0)))) rA0)))))))
  (rRet (rVar 2))))
abbrev RD_law_ring_sums (r : FSpec) : Prop := ∀ ds ED QD, ds.length = 2 → r ds ED QD → rb_law_ring_sums (startD ["_law_n", "_law_turn", "_law_found", "_law_i", "_law_j"] ds) (fun c fs ρ => ED c fs (ρ.take 2)) (finD 2 QD)
end Cm
/-! sorting: ints, lists of ints, products -/
namespace Cm
open PySem PySem.Spec PyProof.Rows L2 FL
open PySem.W (EachIs AllAlike dataLe dataLt alike alikeAll)
set_option maxHeartbeats 0
theorem sortD_sorted {α : Type} (f : α → D) (le : α → α → Bool) {xs : List α} (h : ∀ a ∈ xs, ∀ b ∈ xs, le a b = dataLe false D.py (f a) (f b)) (s : xs.Pairwise fun a b => le a b = true) : sortD (xs.map f) = xs.map f := by
  unfold sortD
  rw [← List.map_mergeSort (r := le) (s := dataLe false D.py) (f := f) h]
  rw [List.mergeSort_of_pairwise s]
theorem sortD_perm {α : Type} (f : α → D) (le : α → α → Bool) (tr : ∀ a b c, le a b = true → le b c = true → le a c = true) (to : ∀ a b, (le a b || le b a) = true) {xs ys : List α} (p : xs.Perm ys) (h : ∀ a ∈ xs, ∀ b ∈ xs, le a b = dataLe false D.py (f a) (f b)) (as : ∀ a ∈ xs, ∀ b ∈ xs, le a b = true → le b a = true → a = b) : sortD (xs.map f) = sortD (ys.map f) := by
  unfold sortD
  rw [← List.map_mergeSort (r := le) (s := dataLe false D.py) (f := f) h, ← List.map_mergeSort (r := le) (s := dataLe false D.py) (f := f) fun a ha b hb => h a (p.mem_iff.mpr ha) b (p.mem_iff.mpr hb)]
  congr 1
  exact List.Perm.eq_of_pairwise (fun a b ha hb h g => as a (List.mem_mergeSort.mp ha) b (p.mem_iff.mpr (List.mem_mergeSort.mp hb)) h g) (List.pairwise_mergeSort tr to xs) (List.pairwise_mergeSort tr to ys) (((List.mergeSort_perm xs _).trans p).trans (List.mergeSort_perm ys _).symm)
/-! ### ints -/
theorem int_le (x y : Int) : dataLe false D.py (D.int x) (.int y) = decide (x ≤ y) := by
  rw [PySem.W.dataLe_eq]
  show (!dataLt (.int y) (.int x)) = _
  rw [PySem.W.dataLt_int]
  by_cases h : y < x
  · rw [decide_eq_true h, decide_eq_false (by omega)]; rfl
  · rw [decide_eq_false h, decide_eq_true (by omega)]; rfl
theorem sortOk_ints (xs : List Int) : SortOk (xs.map D.int) := by
  refine ⟨datL_map fun _ _ => rfl, ?_, .inr ?_, fun d hd => ?_⟩
  · intro d hd d' hd'
    rw [List.map_map] at hd hd'
    obtain ⟨r, hr, rfl⟩ := List.mem_map.mp hd
    obtain ⟨r', hr', rfl⟩ := List.mem_map.mp hd'
    rfl
  · intro d hd
    rw [List.map_map] at hd
    obtain ⟨r, hr, rfl⟩ := List.mem_map.mp hd
    exact ⟨fun z => (nomatch z), fun xs z => (nomatch z)⟩
  · obtain ⟨r, hr, rfl⟩ := List.mem_map.mp hd
    exact Nat.zero_le _
theorem sortD_ints {xs : List Int} (h : xs.Pairwise fun a b => a ≤ b) : sortD (xs.map D.int) = xs.map D.int :=
  sortD_sorted D.int (fun a b => decide (a ≤ b)) (fun a _ b _ => (int_le a b).symm) (h.imp fun h => decide_eq_true h)
/-! ### lists of ints -/
def rowL (xs : List Int) : D := .lst .ice (xs.map D.int)
theorem rowL_le (xs ys : List Int) : dataLe false D.py (rowL xs) (rowL ys) = decide (xs ≤ ys) := by
  rw [← row_le xs ys, PySem.W.dataLe_eq]
  show (!dataLt (.list (pyL (ys.map D.int))) (.list (pyL (xs.map D.int)))) = (!dataLt (.tuple (pyL (ys.map D.int))) (.tuple (pyL (xs.map D.int))))
  rw [PySem.W.dataLt_tuple, PySem.W.dataLt_list]
theorem sortOk_rowsL (rs : List (List Int)) : SortOk (rs.map rowL) := by
  refine ⟨datL_map fun r _ => row_dat r, ?_, .inr ?_, fun d hd => ?_⟩
  · intro d hd d' hd'
    rw [List.map_map] at hd hd'
    obtain ⟨r, hr, rfl⟩ := List.mem_map.mp hd
    obtain ⟨r', hr', rfl⟩ := List.mem_map.mp hd'
    show alike (.list (pyL (r.map D.int))) (.list (pyL (r'.map D.int))) = true
    rw [pyL_ints, pyL_ints]
    simp only [PySem.W.alike, PySem.W.alike_ints]
  · intro d hd
    rw [List.map_map] at hd
    obtain ⟨r, hr, rfl⟩ := List.mem_map.mp hd
    exact ⟨fun z => (nomatch z), fun xs z => (nomatch z)⟩
  · obtain ⟨r, hr, rfl⟩ := List.mem_map.mp hd
    have : (rowL r).dep ≤ 1 := row_dep r
    omega
theorem sortD_rowsL {rs : List (List Int)} (h : rs.Pairwise fun a b => a ≤ b) : sortD (rs.map rowL) = rs.map rowL :=
  sortD_sorted rowL leR (fun a _ b _ => (rowL_le a b).symm) (h.imp fun h => decide_eq_true h)
/-! ### products -/
def Pr.cat (p : Pr) : List Int := p.l ++ (p.r ++ p.o)
theorem eqv_row (xs ys : List Int) : PyData.eqv (rowD xs).py (rowD ys).py = decide (xs = ys) := by
  rw [row_py, row_py]
  simp only [PyData.eqv, eqvAll_ints]
theorem lt_row (xs ys : List Int) : dataLt (rowD xs).py (rowD ys).py = decide (xs < ys) := by
  rw [row_py, row_py, PySem.W.dataLt_tuple]
  exact PySem.W.dataLt_ints xs ys
theorem lt_app {a b : List Int} (x y : List Int) (hl : a.length = b.length) (h : a ≠ b) : decide (a ++ x < b ++ y) = decide (a < b) := by
  have := le_app y x hl.symm (Ne.symm h)
  simp only [leR, decide_eq_decide] at this
  rw [decide_eq_decide, ← List.not_le, ← List.not_le, this]
theorem lt_pre (a x y : List Int) : decide (a ++ x < a ++ y) = decide (x < y) := by
  induction a with
  | nil => rfl
  | cons z a ih =>
    rw [decide_eq_decide] at ih ⊢
    rw [List.cons_append, List.cons_append, List.cons_lt_cons_iff]
    constructor
    · rintro (h | ⟨_, h⟩)
      · omega
      · exact ih.mp h
    · exact fun h => .inr ⟨rfl, ih.mpr h⟩
structure Pr.sz (p : Pr) (a b c : Nat) : Prop where
  l : p.l.length = a
  r : p.r.length = b
  o : p.o.length = c
theorem pr_lt {p q : Pr} {a b c : Nat} (hp : p.sz a b c) (hq : q.sz a b c) : dataLt (prD p).py (prD q).py = decide (p.cat < q.cat) := by
  show dataLt (.tuple [(rowD p.l).py, (rowD p.r).py, (rowD p.o).py]) (.tuple [(rowD q.l).py, (rowD q.r).py, (rowD q.o).py]) = _
  rw [PySem.W.dataLt_tuple, PySem.W.dataLt_cons (alike_rows _ _ (hp.l.trans hq.l.symm)), PySem.W.dataLt_cons (alike_rows _ _ (hp.r.trans hq.r.symm)), PySem.W.dataLt_cons (alike_rows _ _ (hp.o.trans hq.o.symm)), eqv_row, eqv_row, eqv_row, lt_row, lt_row, lt_row]
  unfold Pr.cat
  by_cases h1 : p.l = q.l
  · rw [if_pos (decide_eq_true h1), h1, lt_pre]
    by_cases h2 : p.r = q.r
    · rw [if_pos (decide_eq_true h2), h2, lt_pre]
      by_cases h3 : p.o = q.o
      · rw [if_pos (decide_eq_true h3), h3, decide_eq_false (List.lt_irrefl _)]; rfl
      · rw [if_neg (by simpa using h3)]
    · rw [if_neg (by simpa using h2), lt_app _ _ (hp.r.trans hq.r.symm) h2]
  · rw [if_neg (by simpa using h1), lt_app _ _ (hp.l.trans hq.l.symm) h1]
theorem pr_le {p q : Pr} {a b c : Nat} (hp : p.sz a b c) (hq : q.sz a b c) : dataLe false D.py (prD p) (prD q) = leR p.cat q.cat := by
  rw [PySem.W.dataLe_eq]
  show (!dataLt (prD q).py (prD p).py) = _
  rw [pr_lt hq hp]
  by_cases h : q.cat < p.cat
  · rw [decide_eq_true h, leR, decide_eq_false (by exact fun z => z h)]; rfl
  · rw [decide_eq_false h, leR, decide_eq_true (by exact h)]; rfl
theorem cat_inj {p q : Pr} {a b c : Nat} (hp : p.sz a b c) (hq : q.sz a b c) (h : p.cat = q.cat) : p = q := by
  obtain ⟨h1, h2⟩ := List.append_inj h (hp.l.trans hq.l.symm)
  obtain ⟨h2, h3⟩ := List.append_inj h2 (hp.r.trans hq.r.symm)
  cases p; cases q
  dsimp only at *
  subst h1; subst h2; subst h3; rfl
theorem pr_dep (p : Pr) : (prD p).dep ≤ 2 := (Sm.tup (o := false) (n := 1) (.cons .intt (.cons .intt (.cons .intt .nil)))).dep
theorem sortOk_prs {ps : List Pr} {a b c : Nat} (h : ∀ p ∈ ps, p.sz a b c) : SortOk (ps.map prD) := by
  refine ⟨datL_map fun r _ => pr_dat r, ?_, .inl ?_, fun d hd => ?_⟩
  · intro d hd d' hd'
    rw [List.map_map] at hd hd'
    obtain ⟨r, hr, rfl⟩ := List.mem_map.mp hd
    obtain ⟨r', hr', rfl⟩ := List.mem_map.mp hd'
    have h1 := h r hr
    have h2 := h r' hr'
    show alike (.tuple [(rowD r.l).py, (rowD r.r).py, (rowD r.o).py]) (.tuple [(rowD r'.l).py, (rowD r'.r).py, (rowD r'.o).py]) = true
    simp only [PySem.W.alike, PySem.W.alikeAll, alike_rows _ _ (h1.l.trans h2.l.symm), alike_rows _ _ (h1.r.trans h2.r.symm), alike_rows _ _ (h1.o.trans h2.o.symm), Bool.and_self, ite_self, Bool.or_true, Bool.and_true]
  · intro d hd
    rw [List.map_map] at hd
    obtain ⟨r, hr, rfl⟩ := List.mem_map.mp hd
    exact ⟨_, _, rfl⟩
  · obtain ⟨r, hr, rfl⟩ := List.mem_map.mp hd
    have := pr_dep r
    omega
theorem sort_prs {ps qs : List Pr} {a b c : Nat} (p : ps.Perm qs) (h : ∀ p ∈ ps, p.sz a b c) : sortD (ps.map prD) = sortD (qs.map prD) :=
  sortD_perm prD (fun p q => leR p.cat q.cat) (fun a b c => leR_trans _ _ _) (fun a b => leR_total _ _) p (fun a ha b hb => (pr_le (h a ha) (h b hb)).symm) fun a ha b hb h1 h2 => cat_inj (h a ha) (h b hb) (by
    simp only [leR, decide_eq_true_eq] at h1 h2
    exact List.le_antisymm h1 h2)
/-! ### a list of owned parts, whatever its kind -/
theorem compR_ownA {α : Type} {f : D → En → (Option D → En → Prop) → Prop} {vs : List Nat} {Q : Ow → List D → En → Prop} {ds : List D} {ρ : En} (xs : List α) (g h hf : α → D) (e : ds = xs.map g) (ho : ∀ x, (h x).own = true) (hz : ∀ x, (h x).frz = hf x)
    (k : ∀ x ∈ xs, f (g x) ρ fun o ρ' => o = some (h x) ∧ wipeD ρ' vs = ρ) (q : ∀ kd : Ow, kd.mine = true → (D.lst kd (xs.map h)).frz = .lst .ice (xs.map hf) → Q kd (xs.map h) ρ) : compR f vs ds ρ .flat [] Q := by
  subst e
  refine compR_ownK g h ho xs .flat [] k ?_
  rw [List.nil_append]
  cases xs with
  | nil => exact q .flat rfl rfl
  | cons x xs =>
    refine q .deep rfl ?_
    show D.lst .ice (frzL _) = _
    rw [frzL_map, List.map_map]
    congr 1
    exact List.map_congr_left fun x _ => hz x
theorem clean_own {kd : Ow} {ds : List D} (h : kd.mine = true) (hc : cleanL ds = true) : (D.lst kd ds).clean = true := by
  cases kd with
  | ice => cases h
  | flat => exact hc
  | deep => exact hc
/-! ### owned parts drawn one by one -/
theorem compR_drawOK {α : Type} {f : D → En → (Option D → En → Prop) → Prop} {vs : List Nat} {Q : Ow → List D → En → Prop} (j : Nat) (enc : α → D) (P : Nat → α → Prop) (ρ0 : En) (ho : ∀ x, (enc x).own = true) : ∀ (ds : List D) (k : Nat) (acc : List D) (kd : Ow) (b0 : Bx) (ρ : En), kd.mine = true → ρ = putA ρ0 [j] [some (bxD b0)] →
    (∀ i d (b : Bx), ds[i]? = some d → nf (putA ρ0 [j] [some (bxD b)]) fun ρ => f d ρ fun o ρ' => ∃ (x : α) (b' : Bx), o = some (enc x) ∧ P (k + i) x ∧ wipeD ρ' vs = putA ρ0 [j] [some (bxD b')]) →
    (∀ (xs : List α) (b : Bx), xs.length = ds.length → (∀ i x, xs[i]? = some x → P (k + i) x) → nf (putA ρ0 [j] [some (bxD b)]) (Q (match ds with | [] => kd | _ => .deep) (acc ++ xs.map enc))) → compR f vs ds ρ kd acc Q
  | [], k, acc, kd, b0, ρ, hk, e, _, q => by
    have := nf_of (q [] b0 rfl (fun i x h => by simp at h))
    rw [← e] at this
    simpa [compR] using this
  | d :: ds, k, acc, kd, b0, ρ, hk, e, hs, q => by
    have h1 := nf_of (hs 0 d b0 rfl)
    rw [← e] at h1
    refine ⟨_, h1, fun o ρ' ⟨x, b', eo, hp, ew⟩ => ?_⟩
    subst eo
    have : kindR kd (some (enc x)) = .deep := by simp only [kindR, ho x]
    rw [this]
    refine compR_drawOK j enc P ρ0 ho ds (k + 1) _ .deep b' _ rfl ew (fun i d' b hd => ?_) fun xs b hl hx => ?_
    · have := hs (i + 1) d' b (by simpa using hd)
      rw [show k + (i + 1) = k + 1 + i by omega] at this
      exact this
    · have := q (x :: xs) b (by simp [hl]) fun i y hy => by
        cases i with
        | zero => cases hy; exact hp
        | succ i => have := hx i y (by simpa using hy); rwa [show k + 1 + i = k + (i + 1) by omega] at this
      have ek : (match ds with | [] => Ow.deep | _ => .deep) = .deep := by cases ds <;> rfl
      rw [ek]
      simpa [List.append_assoc] using this
theorem compR_drawO {α : Type} {f : D → En → (Option D → En → Prop) → Prop} {vs : List Nat} {Q : Ow → List D → En → Prop} (j : Nat) (enc : α → D) (P : Nat → α → Prop) (ds : List D) (ρ0 : En) (b0 : Bx) (ho : ∀ x, (enc x).own = true) (hne : ds ≠ [])
    (step : ∀ i d (b : Bx), ds[i]? = some d → nf (putA ρ0 [j] [some (bxD b)]) fun ρ => f d ρ fun o ρ' => ∃ (x : α) (b' : Bx), o = some (enc x) ∧ P i x ∧ wipeD ρ' vs = putA ρ0 [j] [some (bxD b')])
    (fin : ∀ (xs : List α) (b : Bx), xs.length = ds.length → (∀ i x, xs[i]? = some x → P i x) → nf (putA ρ0 [j] [some (bxD b)]) (Q .deep (xs.map enc))) (e0 : ρ0 = putA ρ0 [j] [some (bxD b0)] := by rfl) : compR f vs ds ρ0 .flat [] Q :=
  compR_drawOK j enc P ρ0 ho ds 0 [] .flat b0 ρ0 rfl e0 (fun i d b h => by rw [Nat.zero_add]; exact step i d b h) fun xs b hl hx => by
    have := fin xs b hl fun i x h => by have := hx i x h; rwa [Nat.zero_add] at this
    cases ds with
    | nil => exact absurd rfl hne
    | cons d ds => exact this
end Cm
/-! Dr: contracts of schemes drawn for tables, lines, rings. -/
namespace Cm
open PySem PySem.Spec PyProof.Rows L2 FL
set_option maxHeartbeats 0
def r_law_single : FSpec := fun ds _ Q => ∃ (n : Nat) (k : Int), ds = [.int n, .int k] ∧ n ≤ 1000000 ∧ ∀ os, Q (rowD (sg n k)) os
theorem rd_law_single : RD_law_single r_law_single := by
  rintro ds ED QD - ⟨n, k, rfl, hn, q⟩
  refine ⟨⟨by decide, by omega, by omega⟩, ⟨compR_allE (List.range ((n : Int) - 0).toNat) _ (fun (i : Nat) => .int (if decide ((i : Int) = k) then 1 else 0)) rfl (fun i hi => ?_) (fun _ => rfl) ?_⟩⟩
  · refine ⟨fun _ => ⟨?_, rfl⟩, fun h => (nomatch h)⟩
    rw [Int.zero_add, Bool.false_xor]
  · have := q
    unfold sg rowD at this
    rw [List.map_map] at this
    rw [show ((n : Int) - 0).toNat = n by omega]
    exact this _
def r_law_turned_about : FSpec := fun ds _ Q => ∃ xs : List Int, ds = [rowD xs] ∧ ∀ os, Q (rowD (xs.map fun x => -x)) os
theorem rd_law_turned_about : RD_law_turned_about r_law_turned_about := by
  rintro ds ED QD - ⟨xs, rfl, q⟩
  refine ⟨compR_allE xs D.int (fun x => .int (-x)) rfl (fun x hx => ⟨fun _ => ⟨rfl, rfl⟩, fun h => (nomatch h)⟩) (fun _ => rfl) ?_⟩
  have := q
  unfold rowD at this
  rw [List.map_map] at this
  exact this _
def tri (a b c : Nat) : D := .tup false [.int a, .int b, .int c]
def r_law_lengths_of : FSpec := fun ds _ Q => ∃ n m p : Nat, ds = [tri n m p] ∧ (n ≤ 1000 ∧ m ≤ 1000 ∧ p ≤ 1000) ∧ ∀ os, Q (tri (n * m) (m * p) (n * p)) os
theorem rd_law_lengths_of : RD_law_lengths_of r_law_lengths_of := by
  rintro ds ED QD - ⟨n, m, p, rfl, ⟨h1, h2, h3⟩, q⟩
  refine ⟨mulN (by omega), mulN (by omega), mulN (by omega), ?_⟩
  have := q
  unfold tri at this
  rw [Int.natCast_mul, Int.natCast_mul, Int.natCast_mul] at this
  exact this _
/-! ### sums of tables, lines, rings -/
theorem tab2_nodup (m p n : Nat) : ((tabTs2 m p n).map Tm.pl).Nodup := ((tab_perm m p n).map Tm.pl).nodup_iff.mpr (tab_nodup m p n)
theorem tab2_dis (m p n : Nat) : Dis (tabTs2 m p n) := ⟨tab2_nodup m p n, fun t ht => by
  obtain ⟨a, b, c, _, _, _, rfl⟩ := tab_mem ((tab_perm m p n).mem_iff.mp ht)
  exact (by decide : (1 : Int) ≠ 0)⟩
theorem line_dis (m n : Nat) : Dis (lineTs m n) := ⟨line_nodup m n, fun t ht => by
  obtain ⟨i, j, _, _, rfl⟩ := line_mem ht
  exact (by decide : (1 : Int) ≠ 0)⟩
theorem ring_dis {n : Nat} {turn : Int} (h : turn ≠ 0) : Dis (ringTs n turn n) := ⟨ring_nodup n turn, fun t ht => by
  unfold ringTs at ht
  obtain ⟨i, _, ht⟩ := List.mem_flatMap.mp ht
  obtain ⟨j, _, rfl⟩ := List.mem_map.mp ht
  show (if _ then (1 : Int) else turn) ≠ 0
  split
  · decide
  · exact h⟩
theorem take_flat2 {α : Type} (f : Nat → List α) (n i : Nat) (h : i < n) : ∃ r, (List.range n).flatMap f = (List.range i).flatMap f ++ (f i ++ r) := by
  obtain ⟨d, rfl⟩ : ∃ d, n = i + (d + 1) := ⟨n - i - 1, by omega⟩
  refine ⟨(List.range d).flatMap fun x => f (i + 1 + x), ?_⟩
  rw [List.range_add, List.flatMap_append, List.range_succ_eq_map, List.map_cons, List.flatMap_cons, List.map_map, List.flatMap_map]
  congr 2
  congr 1
  funext x
  show f (i + (x + 1)) = _
  rw [show i + (x + 1) = i + 1 + x by omega]
def r_law_line_sums : FSpec := fun ds _ Q => ∃ n m : Nat, ds = [.int n, .int m] ∧ (n ≤ 1000 ∧ m ≤ 1000) ∧ ∀ os, Q (tsD (lineTs m n)) os
theorem lineT_succ (m i j : Nat) : lineT (j + 1) i = lineT j i ++ [⟨(i : Int) + j, i, j, 1⟩] := by unfold lineT; rw [List.range_succ, List.map_append]; rfl
theorem line_in {m n i j : Nat} (hi : i < n) (hj : j < m) : (⟨(i : Int) + j, i, j, 1⟩ : Tm) ∈ lineTs m n := by
  unfold lineTs lineT
  exact List.mem_flatMap.mpr ⟨i, List.mem_range.mpr hi, List.mem_map.mpr ⟨j, List.mem_range.mpr hj, rfl⟩⟩
theorem rd_law_line_sums : RD_law_line_sums r_law_line_sums := by
  rintro ds ED QD - ⟨n, m, rfl, ⟨hn, hm⟩, q⟩
  refine ⟨⟨by decide, by omega, by omega⟩, ⟨forR_on [2] [3, 4] (fun i s => s = [some (spD (lineTs m n) (lineTs m i))]) _ _ rfl ?_ ?_⟩⟩
  · rintro i x s j hx hj rfl
    obtain ⟨e3, e4, rfl⟩ := len2 hj
    obtain ⟨rfl, hi⟩ := rgD_at hx
    refine ⟨⟨by decide, by omega, by omega⟩, ⟨forR_on [2] [4] (fun j s => s = [some (spD (lineTs m n) (lineTs m i ++ lineT j i))]) _ _ (by unfold lineT; rw [List.range_zero, List.map_nil, List.append_nil]; rfl) ?_ ?_⟩⟩
    · rintro j x s jj hx hj rfl
      obtain ⟨e4, rfl⟩ := len1 hj
      obtain ⟨rfl, hj⟩ := rgD_at hx
      have hl := pls_len (lineTs m i ++ lineT j i)
      have pt := ts_store (U := lineTs m i ++ lineT j i) (line_dis m n).nd (line_in (by omega : i < n) (by omega : j < m))
      have hl2 : (lineTs m i ++ lineT j i).length = i * m + j := by rw [List.length_append, lineTs_len]; unfold lineT; rw [List.length_map, List.length_range]
      have : i * m ≤ 1000 * 1000 := Nat.mul_le_mul (by omega) hm
      refine ⟨row_keyOk [(0 + (i : Int)) + (0 + j), 0 + i, 0 + j], by rw [List.length_map, sizeLine_eq]; omega, rfl, ?_⟩
      rw [lineT_succ m, ← List.append_assoc]
      rw [Int.zero_add, Int.zero_add]
      exact congrArg (fun d => [some d]) pt
    · rintro s j hj rfl
      obtain ⟨e4, rfl⟩ := len1 hj
      refine ⟨rfl, ?_⟩
      rw [show (rgD 0 (m : Int)).length = m by rw [rgD_len]; omega, lineTs_succ]; rfl
  · rintro s j hj rfl
    obtain ⟨e3, e4, rfl⟩ := len2 hj
    rw [show (rgD 0 (n : Int)).length = n by rw [rgD_len]; omega]
    exact q _
def r_law_ring_sums : FSpec := fun ds _ Q => ∃ (n : Nat) (turn : Int), ds = [.int n, .int turn] ∧ (1 ≤ n ∧ n ≤ 1000) ∧ turn ≠ 0 ∧ ∀ os, Q (tsD (ringTs n turn n)) os
def ringTm (n : Nat) (turn : Int) (i j : Nat) : Tm := ⟨((i : Int) + j) % n, i, j, if (i : Int) + j < n then 1 else turn⟩
theorem rd_law_ring_sums : RD_law_ring_sums r_law_ring_sums := by
  rintro ds ED QD - ⟨n, turn, rfl, ⟨n0, hn⟩, ht, q⟩
  refine ⟨⟨by decide, by omega, by omega⟩, ⟨forR_on [2] [3, 4] (fun i s => s = [some (spD (ringTs n turn n) (ringTs n turn i))]) _ _ rfl ?_ ?_⟩⟩
  · rintro i x s j hx hj rfl
    obtain ⟨e3, e4, rfl⟩ := len2 hj
    obtain ⟨rfl, hi⟩ := rgD_at hx
    refine ⟨⟨by decide, by omega, by omega⟩, ⟨forR_on [2] [4] (fun j s => s = [some (spD (ringTs n turn n) (ringTs n turn i ++ (List.range j).map (ringTm n turn i)))]) _ _ (by rw [List.range_zero, List.map_nil, List.append_nil]; rfl) ?_ ?_⟩⟩
    · rintro j x s jj hx hj rfl
      obtain ⟨e4, rfl⟩ := len1 hj
      obtain ⟨rfl, hj⟩ := rgD_at hx
      have hm : ringTm n turn i j ∈ ringTs n turn n := by
        unfold ringTs ringT
        exact List.mem_flatMap.mpr ⟨i, List.mem_range.mpr (by omega), List.mem_map.mpr ⟨j, List.mem_range.mpr (by omega), rfl⟩⟩
      have hl := pls_len (ringTs n turn i ++ (List.range j).map (ringTm n turn i))
      have pt := ts_store (U := ringTs n turn i ++ (List.range j).map (ringTm n turn i)) (ring_dis (n := n) ht).nd hm
      have hl2 : (ringTs n turn i ++ (List.range j).map (ringTm n turn i)).length = i * n + j := by rw [List.length_append, ringTs_len, List.length_map, List.length_range]
      have : i * n ≤ 1000 * 1000 := Nat.mul_le_mul (by omega) hn
      have pk : ∀ Q : D → Prop, Q (.int (if (i : Int) + j < n then 1 else turn)) → pick (atI [D.int 1, D.int turn] (if decide ((n : Int) ≤ 0 + (i : Int) + (0 + j)) = true then 1 else 0)) Q := fun Q h => by
        by_cases z : (i : Int) + j < n
        · rw [if_neg (by simp; omega)]; rw [if_pos z] at h; exact h
        · rw [if_pos (by simp; omega)]; rw [if_neg z] at h; exact h
      refine pk _ ⟨by omega, row_keyOk [(0 + (i : Int) + (0 + j)) % n, 0 + i, 0 + j], by rw [List.length_map, sizeLine_eq]; omega, rfl, ?_⟩
      rw [List.range_succ, List.map_append, ← List.append_assoc]
      rw [Int.zero_add, Int.zero_add]
      exact congrArg (fun d => [some d]) pt
    · rintro s j hj rfl
      obtain ⟨e4, rfl⟩ := len1 hj
      refine ⟨rfl, ?_⟩
      rw [show (rgD 0 (n : Int)).length = n by rw [rgD_len]; omega, ringTs_succ]; rfl
  · rintro s j hj rfl
    obtain ⟨e3, e4, rfl⟩ := len2 hj
    rw [show (rgD 0 (n : Int)).length = n by rw [rgD_len]; omega]
    exact q _
def r_law_table_sums : FSpec := fun ds _ Q => ∃ n m p : Nat, ds = [tri n m p] ∧ (n ≤ 100 ∧ m ≤ 100 ∧ p ≤ 100) ∧ ∀ os, Q (tsD (tabTs2 m p n)) os
theorem tab2_in {m p n a b c : Nat} (ha : a < n) (hb : b < m) (hc : c < p) : tabT m p a b c ∈ tabTs2 m p n := by
  unfold tabTs2 tabA2
  exact List.mem_flatMap.mpr ⟨a, List.mem_range.mpr ha, List.mem_flatMap.mpr ⟨b, List.mem_range.mpr hb, List.mem_map.mpr ⟨c, List.mem_range.mpr hc, rfl⟩⟩⟩
theorem tabTs2_len (m p n : Nat) : (tabTs2 m p n).length = n * (p * m) := by rw [(tab_perm m p n).length_eq, tabTs_len]
theorem rd_law_table_sums : RD_law_table_sums r_law_table_sums := by
  rintro ds ED QD - ⟨n, m, p, rfl, ⟨n1, m1, p1⟩, q⟩
  refine ⟨rfl, ⟨by decide, by omega, by omega⟩, ⟨forR_on [1] [2, 6, 7] (fun i s => s = [some (spD (tabTs2 m p n) (tabTs2 m p i))]) _ _ rfl ?_ ?_⟩⟩
  · rintro a x s j hx hj rfl
    obtain ⟨e2, e6, e7, rfl⟩ := len3 hj
    obtain ⟨rfl, ha⟩ := rgD_at hx
    refine ⟨⟨by decide, by omega, by omega⟩, ⟨forR_on [1] [6, 7] (fun b s => s = [some (spD (tabTs2 m p n) (tabTs2 m p a ++ tabA2 m p a b))]) _ _ (by unfold tabA2; rw [List.range_zero, List.flatMap_nil, List.append_nil]; rfl) ?_ ?_⟩⟩
    · rintro b x s j hx hj rfl
      obtain ⟨e6, e7, rfl⟩ := len2 hj
      obtain ⟨rfl, hb⟩ := rgD_at hx
      refine ⟨⟨by decide, by omega, by omega⟩, ⟨forR_on [1] [7] (fun c s => s = [some (spD (tabTs2 m p n) (tabTs2 m p a ++ tabA2 m p a b ++ (List.range c).map (tabT m p a b)))]) _ _ (by rw [List.range_zero, List.map_nil, List.append_nil]; rfl) ?_ ?_⟩⟩
      · rintro c x s j hx hj rfl
        obtain ⟨e7, rfl⟩ := len1 hj
        obtain ⟨rfl, hc⟩ := rgD_at hx
        have hl := pls_len (tabTs2 m p a ++ tabA2 m p a b ++ (List.range c).map (tabT m p a b))
        have pt := ts_store (U := tabTs2 m p a ++ tabA2 m p a b ++ (List.range c).map (tabT m p a b)) (tab2_nodup m p n) (tab2_in (by omega : a < n) (by omega : b < m) (by omega : c < p))
        have hl2 : (tabTs2 m p a ++ tabA2 m p a b ++ (List.range c).map (tabT m p a b)).length = a * (p * m) + b * p + c := by rw [List.length_append, List.length_append, tabTs2_len, tabA2_len, List.length_map, List.length_range]
        have h1 : a * (p * m) ≤ 100 * (100 * 100) := Nat.mul_le_mul (by omega) (Nat.mul_le_mul p1 m1)
        have h2 : b * p ≤ 100 * 100 := Nat.mul_le_mul (by omega) p1
        have l3 : (pls (tabTs2 m p a ++ tabA2 m p a b ++ (List.range c).map (tabT m p a b))).length < 16777216 := by omega
        refine ⟨mulL (by omega) (by omega), mulL (by omega) (by omega), mulL (by omega) (by omega), row_keyOk [(0 + (a : Int)) * p + (0 + c), (0 + (a : Int)) * m + (0 + b), (0 + (b : Int)) * p + (0 + c)], by rw [List.length_map, sizeLine_eq]; exact l3, rfl, ?_⟩
        rw [List.range_succ, List.map_append, ← List.append_assoc]
        rw [Int.zero_add, Int.zero_add, Int.zero_add]
        exact congrArg (fun d => [some d]) pt
      · rintro s j hj rfl
        obtain ⟨e7, rfl⟩ := len1 hj
        refine ⟨rfl, ?_⟩
        rw [show (rgD 0 (p : Int)).length = p by rw [rgD_len]; omega, tabA2_succ, ← List.append_assoc]; rfl
    · rintro s j hj rfl
      obtain ⟨e6, e7, rfl⟩ := len2 hj
      refine ⟨rfl, ?_⟩
      rw [show (rgD 0 (m : Int)).length = m by rw [rgD_len]; omega, ← tabTs2_succ]; rfl
  · rintro s j hj rfl
    obtain ⟨e2, e6, e7, rfl⟩ := len3 hj
    rw [show (rgD 0 (n : Int)).length = n by rw [rgD_len]; omega]
    exact q _
/-! ### plain products -/
theorem sg_at {n i k : Nat} (hi : i < n) : (sg n (i : Int)).getD k 0 = if k = i then 1 else 0 := by
  by_cases h : k < n
  · exact sg_getD h
  · rw [if_neg (by omega), List.getD_eq_getElem?_getD, List.getElem?_eq_none (by rw [sg_len]; omega)]; rfl
theorem sg_mg (n : Nat) (k : Int) : Mg 1 (sg n k) := fun x hx => by
  unfold sg at hx
  obtain ⟨i, _, rfl⟩ := List.mem_map.mp hx
  split <;> omega
def plPr (a b c : Nat) (g : List Int → Int) (p : List Int) : Pr := ⟨sg a (p.getD 1 0), sg b (p.getD 2 0), (sg c (p.getD 0 0)).map fun x => x * g p⟩
theorem pl_tel {a b c : Nat} {g : List Int → Int} {P : List (List Int)} (nd : P.Nodup) (hp : ∀ p ∈ P, ∃ k i j : Nat, (k < c ∧ i < a ∧ j < b) ∧ p = [(k : Int), i, j]) (k i j : Nat) : tel (P.map (plPr a b c g)) k i j = if [(k : Int), i, j] ∈ P then g [(k : Int), i, j] else 0 := by
  unfold tel
  rw [Sg_map]
  have e : ∀ p ∈ P, (plPr a b c g p).one k i j = if p = [(k : Int), i, j] then g p else 0 := fun p h => by
    obtain ⟨k', i', j', ⟨h1, h2, h3⟩, rfl⟩ := hp p h
    unfold Pr.one plPr
    show ((sg c (k' : Int)).map fun x => x * g _).getD k 0 * ((sg a (i' : Int)).getD i 0 * (sg b (j' : Int)).getD j 0) = _
    have em : ((sg c (k' : Int)).map fun x => x * g [(k' : Int), i', j']).getD k 0 = (sg c (k' : Int)).getD k 0 * g [(k' : Int), i', j'] := by
      rw [List.getD_eq_getElem?_getD, List.getD_eq_getElem?_getD, List.getElem?_map]
      cases (sg c (k' : Int))[k]? with
      | none => simp
      | some x => rfl
    rw [em, sg_at h1, sg_at h2, sg_at h3]
    by_cases z : [(k' : Int), i', j'] = [(k : Int), i, j]
    · obtain ⟨rfl, rfl, rfl⟩ := (pl_eq k' i' j' k i j).mp z
      simp
    · rw [if_neg z]
      have z : ¬(k' = k ∧ i' = i ∧ j' = j) := fun w => z ((pl_eq k' i' j' k i j).mpr w)
      by_cases z1 : k = k'
      · by_cases z2 : i = i'
        · rw [if_neg (show ¬ j = j' from fun z3 => z ⟨z1.symm, z2.symm, z3.symm⟩)]; simp
        · rw [if_neg z2]; simp
      · rw [if_neg z1]; simp
  rw [Sg_congr e]
  by_cases h : [(k : Int), i, j] ∈ P
  · rw [if_pos h]; exact Sg_one nd h g
  · rw [if_neg h]; exact Sg_none h g
/-- terms that stand within lengths a, b, c, numbers -1 to 1 -/
structure Fit1 (ts : List Tm) (a b c : Nat) : Prop where
  ds : Dis ts
  pl : ∀ t ∈ ts, ∃ k i j : Nat, (k < c ∧ i < a ∧ j < b) ∧ t.pl = [(k : Int), i, j]
  mg : ∀ t ∈ ts, -1 ≤ t.c ∧ t.c ≤ 1
theorem Fit1.nat {ts : List Tm} {a b c : Nat} (h : Fit1 ts a b c) : NatPl ts := fun t ht => by
  obtain ⟨k, i, j, _, e⟩ := h.pl t ht
  exact ⟨k, i, j, e⟩
theorem Fit1.mem {ts : List Tm} {a b c : Nat} (h : Fit1 ts a b c) {p : List Int} (hp : p ∈ pls ts) : (∃ k i j : Nat, (k < c ∧ i < a ∧ j < b) ∧ p = [(k : Int), i, j]) ∧ -1 ≤ tsum ts p ∧ tsum ts p ≤ 1 := by
  obtain ⟨t, ht, rfl⟩ := (mem_pls _ _).mp hp
  rw [tsum_distinct h.ds.nd ht]
  exact ⟨h.pl t ht, h.mg t ht⟩
def r_law_plainly : FSpec := fun ds _ Q => ∃ (a b c : Nat) (ts : List Tm), ds = [tri a b c, (tsD ts).frz] ∧ (a ≤ 1000 ∧ b ≤ 1000 ∧ c ≤ 1000) ∧ ts.length ≤ 1000000 ∧ Fit1 ts a b c ∧
  ∀ (ps : List Pr) os, ps.length = ts.length → (∀ p ∈ ps, p.sz a b c ∧ p.mg 1) → (∀ k i j : Nat, tel ps k i j = tsum ts [(k : Int), i, j]) → Q (.lst .flat (ps.map prD)) os
theorem rd_law_plainly : RD_law_plainly r_law_plainly r_law_single := by
  rintro ds ED QD - ⟨a, b, c, ts, rfl, ⟨ha, hb, hc⟩, hz, ft, q⟩
  have hl := pls_len ts
  have h3 : ∀ p ∈ pls ts, p.length = 2 + 1 := fun p hp => pls_three hp
  refine ⟨rfl, own_map fun _ => rfl, fun k hk => ?_, by rw [List.length_map, sizeLine_eq]; omega, sortOk_rows 2 h3, ?_⟩
  · obtain ⟨p, hp, rfl⟩ := List.mem_map.mp hk
    show (p.map D.int).length ≤ 1000
    rw [List.length_map, h3 p hp]; decide
  rw [sort_rows]
  refine ⟨compR_allE ((pls ts).mergeSort leR) rowD (fun p => prD (plPr a b c (tsum ts) p)) rfl (fun p hp => ?_) (fun _ => rfl) ?_⟩
  · have hm : p ∈ pls ts := List.mem_mergeSort.mp hp
    obtain ⟨⟨k, i, j, ⟨h1, h2, h3⟩, rfl⟩, h4, h5⟩ := ft.mem hm
    have lk : dLook true ((pls ts).map rowD) ((pls ts).map fun p => .int (tsum ts p)) (rowD [(k : Int), i, j]) = some (.int (tsum ts [(k : Int), i, j])) := by rw [look_rows, if_pos hm]
    refine ⟨rfl, fun _ => ?_, fun h => (nomatch h)⟩
    refine ⟨a, i, rfl, by omega, fun _ => ⟨b, j, rfl, by omega, fun _ => ⟨c, k, rfl, by omega, fun _ => ⟨compR_allE (sg c k) D.int (fun x => .int (x * tsum ts [(k : Int), i, j])) rfl (fun x hx => ?_) (fun _ => rfl) ?_⟩⟩⟩⟩
    · have := sg_mg c k x hx
      exact ⟨fun _ => ⟨row_keyOk [(k : Int), i, j], pick_of lk rfl ⟨mulL (by omega) (by omega), rfl, rfl⟩⟩, fun h => (nomatch h)⟩
    · refine ⟨?_, rfl⟩
      unfold prD plPr rowD
      rw [List.map_map]; rfl
  · have pm : ((pls ts).mergeSort leR).Perm (pls ts) := List.mergeSort_perm _ _
    have e1 : (((pls ts).mergeSort leR).map (plPr a b c (tsum ts))).length = ts.length := by rw [List.length_map, List.length_mergeSort, pls_distinct ft.ds.nd, List.length_map]
    have e2 : ∀ p ∈ (((pls ts).mergeSort leR).map (plPr a b c (tsum ts))), p.sz a b c ∧ p.mg 1 := by
      intro p hp
      obtain ⟨r, hr, rfl⟩ := List.mem_map.mp hp
      obtain ⟨_, h4, h5⟩ := ft.mem (pm.mem_iff.mp hr)
      refine ⟨⟨sg_len _ _, sg_len _ _, (List.length_map _).trans (sg_len _ _)⟩, sg_mg _ _, sg_mg _ _, fun x hx => ?_⟩
      obtain ⟨y, hy, rfl⟩ := List.mem_map.mp hx
      have := sg_mg _ _ y hy
      have hy : y = -1 ∨ y = 0 ∨ y = 1 := by omega
      rcases hy with rfl | rfl | rfl <;> omega
    have e3 : ∀ k i j : Nat, tel (((pls ts).mergeSort leR).map (plPr a b c (tsum ts))) k i j = tsum ts [(k : Int), i, j] := by
      intro k i j
      rw [tel_perm (pm.map _), pl_tel (pls_nodup ts) (fun p hp => (ft.mem hp).1)]
      by_cases h : [(k : Int), i, j] ∈ pls ts
      · rw [if_pos h]
      · rw [if_neg h, tsum_out h]
    have q := fun os => q _ os e1 e2 e3
    simp only [List.map_map] at q
    exact q _
/-! ### dressed -/
theorem one_lo (p : Pr) (k i j : Nat) : (⟨p.l.map fun x => -x, p.r, p.o.map fun x => -x⟩ : Pr).one k i j = p.one k i j := by
  unfold Pr.one
  rw [getD_neg, getD_neg, Int.neg_mul, Int.neg_mul, Int.mul_neg, Int.neg_neg]
theorem one_lr (p : Pr) (k i j : Nat) : (⟨p.l.map fun x => -x, p.r.map fun x => -x, p.o⟩ : Pr).one k i j = p.one k i j := by
  unfold Pr.one
  rw [getD_neg, getD_neg, Int.neg_mul_neg]
structure Lk (p q : Pr) (a b c : Nat) (B : Int) : Prop where
  sz : q.sz a b c
  mg : q.mg B
  one : ∀ k i j, q.one k i j = p.one k i j
theorem sz_neg {xs : List Int} {n : Nat} (h : xs.length = n) : (xs.map fun x => -x).length = n := (List.length_map _).trans h
theorem Lk.refl {p : Pr} {a b c : Nat} {B : Int} (h : p.sz a b c) (g : p.mg B) : Lk p p a b c B := ⟨h, g, fun _ _ _ => rfl⟩
theorem Lk.lo {p q : Pr} {a b c : Nat} {B : Int} (h : Lk p q a b c B) : Lk p ⟨q.l.map fun x => -x, q.r, q.o.map fun x => -x⟩ a b c B := ⟨⟨sz_neg h.sz.l, h.sz.r, sz_neg h.sz.o⟩, ⟨h.mg.l.neg, h.mg.r, h.mg.o.neg⟩, fun k i j => (one_lo q k i j).trans (h.one k i j)⟩
theorem Lk.lr {p q : Pr} {a b c : Nat} {B : Int} (h : Lk p q a b c B) : Lk p ⟨q.l.map fun x => -x, q.r.map fun x => -x, q.o⟩ a b c B := ⟨⟨sz_neg h.sz.l, sz_neg h.sz.r, h.sz.o⟩, ⟨h.mg.l.neg, h.mg.r.neg, h.mg.o⟩, fun k i j => (one_lr q k i j).trans (h.one k i j)⟩
def r_law_dressed : FSpec := fun ds _ Q => ∃ (x : Bx) (a b c : Nat) (ps : List Pr) (most : Nat), ds = [bxD x, tri a b c, .lst .ice (ps.map prD), .int most] ∧ (a ≤ 1000 ∧ b ≤ 1000 ∧ c ≤ 1000) ∧ ps ≠ [] ∧ ps.length ≤ 10000 ∧ most ≤ 100 ∧ (∀ p ∈ ps, p.sz a b c ∧ p.mg 1) ∧
  ∀ (qs : List Pr) (b' : Bx) tl, qs ≠ [] → qs.length ≤ ps.length + most → (∀ p ∈ qs, p.sz a b c ∧ p.mg 201) → (∀ k i j : Nat, tel qs k i j = tel ps k i j) → Q (schD a b c qs) (some (bxD b') :: tl)
theorem tel_set : ∀ {fs : List Pr} {j : Nat} {p : Pr} (_ : fs[j]? = some p) (q : Pr) (k i j' : Nat), tel (fs.set j q) k i j' + p.one k i j' = tel fs k i j' + q.one k i j'
  | [], j, p, h, _, _, _, _ => by simp at h
  | f :: fs, 0, p, h, q, k, i, j' => by
    have h : f = p := by simpa using h
    subst h
    rw [List.set_cons_zero, tel_cons, tel_cons]; omega
  | f :: fs, j + 1, p, h, q, k, i, j' => by
    have ih := tel_set (fs := fs) (j := j) (p := p) (by simpa using h) q k i j'
    rw [List.set_cons_succ, tel_cons, tel_cons]; omega
theorem mem_ins_set {fs : List Pr} {j n : Nat} {q m p : Pr} (h : p ∈ (fs.set j q).take n ++ [m] ++ (fs.set j q).drop n) : p = m ∨ p = q ∨ p ∈ fs := by
  rcases List.mem_cons.mp ((ins_perm _ n m).mem_iff.mp h) with h | h
  · exact .inl h
  · rcases List.mem_or_eq_of_mem_set h with h | h
    · exact .inr (.inr h)
    · exact .inr (.inl h)
/-- a product cut in two -/
structure Cut2 (p q m : Pr) (a b c : Nat) (B : Int) : Prop where
  sq : q.sz a b c ∧ q.mg (B + 2)
  sm : m.sz a b c ∧ m.mg (B + 2)
  one : ∀ k i j, q.one k i j + m.one k i j = p.one k i j
theorem subz_len {xs ys : List Int} (h : ys.length = xs.length) : ((xs.zip ys).map fun p => p.1 - p.2).length = xs.length := by rw [List.length_map, List.length_zip]; omega
theorem cut_l {p : Pr} {a b c : Nat} {B : Int} (hB : 0 ≤ B) (h : p.sz a b c) (g : p.mg B) {m : List Int} (hm : m.length = p.l.length) (gm : Mg 2 m) : Cut2 p ⟨(p.l.zip m).map fun q => q.1 - q.2, p.r, p.o⟩ ⟨m, p.r, p.o⟩ a b c B :=
  ⟨⟨⟨(subz_len hm).trans h.l, h.r, h.o⟩, ⟨g.l.subz gm, g.r.mono (by omega), g.o.mono (by omega)⟩⟩, ⟨⟨hm.trans h.l, h.r, h.o⟩, ⟨gm.mono (by omega), g.r.mono (by omega), g.o.mono (by omega)⟩⟩, fun k i j => by
    show p.o.getD k 0 * (((p.l.zip m).map fun q => q.1 - q.2).getD i 0 * p.r.getD j 0) + p.o.getD k 0 * (m.getD i 0 * p.r.getD j 0) = p.o.getD k 0 * (p.l.getD i 0 * p.r.getD j 0)
    rw [getD_subz hm.symm, ← Int.mul_add, ← Int.add_mul, Int.sub_add_cancel]⟩
theorem cut_r {p : Pr} {a b c : Nat} {B : Int} (hB : 0 ≤ B) (h : p.sz a b c) (g : p.mg B) {m : List Int} (hm : m.length = p.r.length) (gm : Mg 2 m) : Cut2 p ⟨p.l, (p.r.zip m).map fun q => q.1 - q.2, p.o⟩ ⟨p.l, m, p.o⟩ a b c B :=
  ⟨⟨⟨h.l, (subz_len hm).trans h.r, h.o⟩, ⟨g.l.mono (by omega), g.r.subz gm, g.o.mono (by omega)⟩⟩, ⟨⟨h.l, hm.trans h.r, h.o⟩, ⟨g.l.mono (by omega), gm.mono (by omega), g.o.mono (by omega)⟩⟩, fun k i j => by
    show p.o.getD k 0 * (p.l.getD i 0 * ((p.r.zip m).map fun q => q.1 - q.2).getD j 0) + p.o.getD k 0 * (p.l.getD i 0 * m.getD j 0) = p.o.getD k 0 * (p.l.getD i 0 * p.r.getD j 0)
    rw [getD_subz hm.symm, ← Int.mul_add, ← Int.mul_add, Int.sub_add_cancel]⟩
theorem cut_o {p : Pr} {a b c : Nat} {B : Int} (hB : 0 ≤ B) (h : p.sz a b c) (g : p.mg B) {m : List Int} (hm : m.length = p.o.length) (gm : Mg 2 m) : Cut2 p ⟨p.l, p.r, (p.o.zip m).map fun q => q.1 - q.2⟩ ⟨p.l, p.r, m⟩ a b c B :=
  ⟨⟨⟨h.l, h.r, (subz_len hm).trans h.o⟩, ⟨g.l.mono (by omega), g.r.mono (by omega), g.o.subz gm⟩⟩, ⟨⟨h.l, h.r, hm.trans h.o⟩, ⟨g.l.mono (by omega), g.r.mono (by omega), gm.mono (by omega)⟩⟩, fun k i j => by
    show ((p.o.zip m).map fun q => q.1 - q.2).getD k 0 * (p.l.getD i 0 * p.r.getD j 0) + m.getD k 0 * (p.l.getD i 0 * p.r.getD j 0) = p.o.getD k 0 * (p.l.getD i 0 * p.r.getD j 0)
    rw [getD_subz hm.symm, ← Int.add_mul, Int.sub_add_cancel]⟩
/-- the step of dressed: one cut in two, the other part put in anywhere -/
theorem cut_step {fs : List Pr} {j n : Nat} {p q m : Pr} {a b c : Nat} {B : Int} (hp : fs[j]? = some p) (h : ∀ p ∈ fs, p.sz a b c ∧ p.mg B) (k : Cut2 p q m a b c B) {N : Nat} (hN : fs.length = N) {B' : Int} (hB : B + 2 ≤ B') {ps : List Pr} (hT : ∀ x i' j', tel fs x i' j' = tel ps x i' j') :
    ((fs.set j q).take n ++ [m] ++ (fs.set j q).drop n).length = N + 1 ∧ (∀ p ∈ (fs.set j q).take n ++ [m] ++ (fs.set j q).drop n, p.sz a b c ∧ p.mg B') ∧ ∀ x i' j', tel ((fs.set j q).take n ++ [m] ++ (fs.set j q).drop n) x i' j' = tel ps x i' j' := by
  refine ⟨?_, fun r hr => ?_, fun x i' j' => ?_⟩
  · rw [(ins_perm _ n m).length_eq, List.length_cons, List.length_set, hN]
  · rcases mem_ins_set hr with rfl | rfl | hr
    · exact ⟨k.sm.1, k.sm.2.mono hB⟩
    · exact ⟨k.sq.1, k.sq.2.mono hB⟩
    · exact ⟨(h r hr).1, (h r hr).2.mono (by omega)⟩
  · have h1 := tel_set hp q x i' j'
    have h2 := k.one x i' j'
    rw [tel_perm (ins_perm _ n m), tel_cons, ← hT]; omega
theorem all_at {P : Int → Prop} {xs : List Int} (h : ∀ (i : Nat) x, xs[i]? = some x → P x) : ∀ x ∈ xs, P x := fun x hx => by
  obtain ⟨i, hi, e⟩ := List.mem_iff_getElem.mp hx
  exact h i x (by rw [List.getElem?_eq_getElem hi, e])
theorem rd_law_dressed : RD_law_dressed r_law_dressed r_law_take r_law_turned_about := by
  rintro ds ED QD - ⟨x, a, b, c, ps, most, rfl, ⟨ha, hb, hc⟩, hne, hl, hmo, hps, q⟩
  show rb_law_dressed _ _ [some (bxD x), some (tri a b c), some (.lst .ice (ps.map prD)), some (.int most), none, none, none, none, none, none, none, none, none, none, none, none, none] _ _
  refine ⟨forR_on [0, 4] [6, 7, 8, 9] (fun i s => ∃ (x : Bx) (fs : List Pr), s = [some (bxD x), some (.lst .flat (fs.map prD))] ∧ fs.length = i ∧ (∀ p ∈ fs, p.sz a b c ∧ p.mg 1) ∧ ∀ k i' j, tel fs k i' j = tel (ps.take i) k i' j) _ _ ⟨x, [], rfl, rfl, fun _ h => (nomatch h), fun _ _ _ => rfl⟩ ?_ ?_⟩
  · rintro i y s j hy hj ⟨x, fs, rfl, hfl, hfs, hft⟩
    obtain ⟨e6, e7, e8, e9, rfl⟩ := len4 hj
    rw [List.getElem?_map] at hy
    obtain ⟨p, hp, rfl⟩ := Option.map_eq_some_iff.mp hy
    obtain ⟨h1, h2⟩ := hps p (List.mem_of_getElem? hp)
    have hi := (List.getElem?_eq_some_iff.mp hp).1
    refine ⟨rfl, x, 6, rfl, by decide, fun w x _ _ _ => cut_on [6, 7, 8] [] (fun s => ∃ q : Pr, s = [some (rowD q.l), some (rowD q.r), some (rowD q.o)] ∧ Lk p q a b c 1) ?_ ?_⟩
    · refine ⟨fun _ => ⟨p.l, rfl, fun _ => ⟨p.o, rfl, fun _ => ⟨rfl, _, rfl, (Lk.refl h1 h2).lo⟩⟩⟩, fun _ => ⟨rfl, p, rfl, .refl h1 h2⟩⟩
    rintro s j hj ⟨q1, rfl, k1⟩
    obtain rfl := len0 hj
    refine cut_on [6, 7, 8] [] (fun s => ∃ q : Pr, s = [some (rowD q.l), some (rowD q.r), some (rowD q.o)] ∧ Lk p q a b c 1) ?_ ?_
    · refine ⟨fun _ => ⟨q1.l, rfl, fun _ => ⟨q1.r, rfl, fun _ => ⟨rfl, _, rfl, k1.lr⟩⟩⟩, fun _ => ⟨rfl, q1, rfl, k1⟩⟩
    rintro s j hj ⟨q1, rfl, k1⟩
    obtain rfl := len0 hj
    refine ⟨x, _, rfl, by rw [List.length_map]; dsimp only; omega, fun at' x _ a0 a1 => ⟨rfl, ⟨a0, ?_⟩, ?_, rfl, x, fs.take at'.toNat ++ [q1] ++ fs.drop at'.toNat, ?_, ?_, ?_, ?_⟩⟩
    · rw [List.length_map] at a1; dsimp only at a1; omega
    · rw [List.length_map, sizeLine_eq]; omega
    · rw [← ins_map]; rfl
    · rw [(ins_perm fs at'.toNat q1).length_eq, List.length_cons, hfl]
    · intro p hp
      rcases List.mem_cons.mp ((ins_perm fs at'.toNat q1).mem_iff.mp hp) with rfl | hp
      · exact ⟨k1.sz, k1.mg⟩
      · exact hfs p hp
    · intro k i' j
      rw [tel_perm (ins_perm fs at'.toNat q1), tel_cons, k1.one, hft, List.take_succ, hp, tel_append]
      show _ = _ + tel [p] k i' j
      rw [tel_cons, tel_nil]; omega
  · rintro s j hj ⟨x, fs, rfl, hfl, hfs, hft⟩
    obtain ⟨e6, e7, e8, e9, rfl⟩ := len4 hj
    rw [List.length_map] at hfl hft
    rw [List.take_length] at hft
    have hl0 : 0 < ps.length := List.length_pos_iff.mpr hne
    refine ⟨x, _, rfl, by dsimp only; omega, fun cnt x _ c0 c1 => ⟨⟨by decide, by omega, by dsimp only at c1; omega⟩, ⟨forR_on [0, 4] [5, 6, 7, 8, 10, 11, 12, 13, 14] (fun i s => ∃ (x : Bx) (fs : List Pr), s = [some (bxD x), some (.lst .flat (fs.map prD))] ∧ fs.length = ps.length + i ∧ (∀ p ∈ fs, p.sz a b c ∧ p.mg (1 + 2 * i)) ∧ ∀ k i' j, tel fs k i' j = tel ps k i' j) _ _ ⟨x, fs, rfl, hfl, fun p hp => ⟨(hfs p hp).1, (hfs p hp).2.mono (by omega)⟩, hft⟩ ?_ ?_⟩⟩⟩
    · rintro t y s j hy hj ⟨x, fs, rfl, hfl, hfs, hft⟩
      obtain ⟨e5, e6, e7, e8, e10, e11, e12, e13, e14, rfl⟩ := len9 hj
      obtain ⟨rfl, ht⟩ := rgD_at hy
      have ht : t < most + 1 := by dsimp only at c1; omega
      refine ⟨x, _, rfl, by rw [List.length_map]; omega, fun at' x _ a0 a1 => ?_⟩
      rw [List.length_map] at a1
      refine pick_at a0 a1 pr_own fun p hp => ⟨rfl, x, 3, rfl, by decide, fun side x _ s0 s1 => ?_⟩
      obtain ⟨h1, h2⟩ := hfs p (List.mem_of_getElem? hp)
      have pk : ∀ {Q : D → Prop}, Q (prD p) → pick (atI (fs.map prD) at') Q := fun h => pick_at a0 a1 pr_own fun p' hp' => by rw [hp] at hp'; cases hp'; exact h
      rcases three s0 s1 with rfl | rfl | rfl
      · refine pk ⟨compR_draw 0 D.int (fun _ x => -2 ≤ x ∧ x ≤ 2) _ _ x (fun _ => rfl) (fun i d x hd => ⟨fun _ => ⟨x, 5, rfl, by decide, fun v b' tl v0 v1 => ⟨_, b', rfl, by dsimp only; omega, rfl⟩⟩, fun h => (nomatch h)⟩) fun more x hml hmb => ?_⟩
        have gm : Mg 2 more := all_at hmb
        rw [List.length_map] at hml
        have ct := cut_l (by omega) h1 h2 hml gm
        refine pk ⟨compR_allE (p.l.zip more) _ (fun q => .int (q.1 - q.2)) (zpD_map _ _ _ _) (fun q _ => ⟨rfl, fun _ => ⟨rfl, rfl⟩, fun h => (nomatch h)⟩) (fun _ => rfl) ?_⟩
        refine pk ⟨by show (0 + 1 : Nat) ≤ sizeLine; decide, pk ⟨by show (0 + 1 + 2 : Nat) ≤ sizeLine; decide, natAt_of (ixN_of a0 (by rw [List.length_map]; exact a1)) ⟨by show (0 + 1 : Nat) ≤ sizeLine; decide, by show (0 + 1 + 2 : Nat) ≤ sizeLine; decide, x, _, rfl, by rw [List.length_set, List.length_map]; dsimp only; omega, fun pl x _ p0 p1 => ⟨rfl, ⟨p0, ?_⟩, ?_, rfl, x, _, ?_, cut_step (n := pl.toNat) hp hfs ct hfl (by omega) hft⟩⟩⟩⟩
        · rw [List.length_set, List.length_map] at p1; dsimp only at p1; omega
        · rw [List.length_set, List.length_map, sizeLine_eq]; omega
        · rw [← ins_map, List.map_set]
          unfold prD rowD
          rw [List.map_map]; rfl
      · refine pk ⟨compR_draw 0 D.int (fun _ x => -2 ≤ x ∧ x ≤ 2) _ _ x (fun _ => rfl) (fun i d x hd => ⟨fun _ => ⟨x, 5, rfl, by decide, fun v b' tl v0 v1 => ⟨_, b', rfl, by dsimp only; omega, rfl⟩⟩, fun h => (nomatch h)⟩) fun more x hml hmb => ?_⟩
        have gm : Mg 2 more := all_at hmb
        rw [List.length_map] at hml
        have ct := cut_r (by omega) h1 h2 hml gm
        refine pk ⟨compR_allE (p.r.zip more) _ (fun q => .int (q.1 - q.2)) (zpD_map _ _ _ _) (fun q _ => ⟨rfl, fun _ => ⟨rfl, rfl⟩, fun h => (nomatch h)⟩) (fun _ => rfl) ?_⟩
        refine pk ⟨by show (1 + 1 : Nat) ≤ sizeLine; decide, pk ⟨by show (1 + 1 + 1 : Nat) ≤ sizeLine; decide, natAt_of (ixN_of a0 (by rw [List.length_map]; exact a1)) ⟨by show (1 + 1 : Nat) ≤ sizeLine; decide, by show (1 + 1 + 1 : Nat) ≤ sizeLine; decide, x, _, rfl, by rw [List.length_set, List.length_map]; dsimp only; omega, fun pl x _ p0 p1 => ⟨rfl, ⟨p0, ?_⟩, ?_, rfl, x, _, ?_, cut_step (n := pl.toNat) hp hfs ct hfl (by omega) hft⟩⟩⟩⟩
        · rw [List.length_set, List.length_map] at p1; dsimp only at p1; omega
        · rw [List.length_set, List.length_map, sizeLine_eq]; omega
        · rw [← ins_map, List.map_set]
          unfold prD rowD
          rw [List.map_map]; rfl
      · refine pk ⟨compR_draw 0 D.int (fun _ x => -2 ≤ x ∧ x ≤ 2) _ _ x (fun _ => rfl) (fun i d x hd => ⟨fun _ => ⟨x, 5, rfl, by decide, fun v b' tl v0 v1 => ⟨_, b', rfl, by dsimp only; omega, rfl⟩⟩, fun h => (nomatch h)⟩) fun more x hml hmb => ?_⟩
        have gm : Mg 2 more := all_at hmb
        rw [List.length_map] at hml
        have ct := cut_o (by omega) h1 h2 hml gm
        refine pk ⟨compR_allE (p.o.zip more) _ (fun q => .int (q.1 - q.2)) (zpD_map _ _ _ _) (fun q _ => ⟨rfl, fun _ => ⟨rfl, rfl⟩, fun h => (nomatch h)⟩) (fun _ => rfl) ?_⟩
        refine pk ⟨by show (2 + 1 : Nat) ≤ sizeLine; decide, pk ⟨by show (2 + 1 + 0 : Nat) ≤ sizeLine; decide, natAt_of (ixN_of a0 (by rw [List.length_map]; exact a1)) ⟨by show (2 + 1 : Nat) ≤ sizeLine; decide, by show (2 + 1 + 0 : Nat) ≤ sizeLine; decide, x, _, rfl, by rw [List.length_set, List.length_map]; dsimp only; omega, fun pl x _ p0 p1 => ⟨rfl, ⟨p0, ?_⟩, ?_, rfl, x, _, ?_, cut_step (n := pl.toNat) hp hfs ct hfl (by omega) hft⟩⟩⟩⟩
        · rw [List.length_set, List.length_map] at p1; dsimp only at p1; omega
        · rw [List.length_set, List.length_map, sizeLine_eq]; omega
        · rw [← ins_map, List.map_set]
          unfold prD rowD
          rw [List.map_map]; rfl
    · rintro s j hj ⟨x, fs, rfl, hfl, hfs, hft⟩
      obtain ⟨e5, e6, e7, e8, e10, e11, e12, e13, e14, rfl⟩ := len9 hj
      rw [rgD_len] at hfl hfs
      dsimp only at c1
      refine ⟨by show (3 + 1 : Nat) ≤ sizeLine; decide, ?_⟩
      refine q fs x _ (fun z => ?_) (by omega) (fun p hp => ⟨(hfs p hp).1, (hfs p hp).2.mono (by omega)⟩) hft
      rw [z] at hfl
      simp at hfl; omega
/-! ### seven, tables -/
def sevenP : List Pr := [⟨[1, 0, 0, 1], [1, 0, 0, 1], [1, 0, 0, 1]⟩, ⟨[0, 0, 1, 1], [1, 0, 0, 0], [0, 0, 1, -1]⟩, ⟨[1, 0, 0, 0], [0, 1, 0, -1], [0, 1, 0, 1]⟩, ⟨[0, 0, 0, 1], [-1, 0, 1, 0], [1, 0, 1, 0]⟩, ⟨[1, 1, 0, 0], [0, 0, 0, 1], [-1, 1, 0, 0]⟩, ⟨[-1, 0, 1, 0], [1, 1, 0, 0], [0, 0, 0, 1]⟩, ⟨[0, 1, 0, -1], [0, 0, 1, 1], [1, 0, 0, 0]⟩]
def r_law_seven : FSpec := fun ds _ Q => ds = [] ∧ ∀ os, Q (.lst .flat (sevenP.map prD)) os
theorem rd_law_seven : RD_law_seven r_law_seven := by
  rintro ds ED QD - ⟨rfl, q⟩
  exact q _
theorem seven_ok : ∀ p ∈ sevenP, p.sz 4 4 4 ∧ p.mg 1 := by
  intro p hp
  have h : sevenP.all (fun p => decide (p.l.length = 4) && decide (p.r.length = 4) && decide (p.o.length = 4) && p.l.all (fun x => decide (-1 ≤ x) && decide (x ≤ 1)) && p.r.all (fun x => decide (-1 ≤ x) && decide (x ≤ 1)) && p.o.all (fun x => decide (-1 ≤ x) && decide (x ≤ 1))) = true := by decide +kernel
  have h := List.all_eq_true.mp h p hp
  simp only [Bool.and_eq_true, decide_eq_true_eq, List.all_eq_true] at h
  obtain ⟨⟨⟨⟨⟨h1, h2⟩, h3⟩, h4⟩, h5⟩, h6⟩ := h
  exact ⟨⟨h1, h2, h3⟩, h4, h5, h6⟩
theorem one_out {p : Pr} {a b c k i j : Nat} (h : p.sz a b c) (hn : ¬(k < c ∧ i < a ∧ j < b)) : p.one k i j = 0 := by
  unfold Pr.one
  have g : ∀ (xs : List Int) (n x : Nat), xs.length = n → ¬ x < n → xs.getD x 0 = 0 := fun xs n x e z => by
    rw [List.getD_eq_getElem?_getD, List.getElem?_eq_none (by omega)]; rfl
  by_cases h1 : k < c
  · by_cases h2 : i < a
    · rw [g p.r b j h.r (fun z => hn ⟨h1, h2, z⟩)]; simp
    · rw [g p.l a i h.l h2]; simp
  · rw [g p.o c k h.o h1]; simp
theorem tel_out {ps : List Pr} {a b c k i j : Nat} (h : ∀ p ∈ ps, p.sz a b c) (hn : ¬(k < c ∧ i < a ∧ j < b)) : tel ps k i j = 0 := Sg_zero' fun p hp => one_out (h p hp) hn
theorem Fit1.out {ts : List Tm} {a b c k i j : Nat} (h : Fit1 ts a b c) (hn : ¬(k < c ∧ i < a ∧ j < b)) : tsum ts [(k : Int), i, j] = 0 := tsum_out fun hz => by
  obtain ⟨⟨k', i', j', hb, e⟩, _⟩ := h.mem hz
  obtain ⟨rfl, rfl, rfl⟩ := (pl_eq k i j k' i' j').mp e
  exact hn hb
theorem tab2_fit {m p n : Nat} : Fit1 (tabTs2 m p n) (n * m) (m * p) (n * p) := ⟨tab2_dis m p n, fun t ht => by
  obtain ⟨a, b, c, h1, h2, h3, rfl⟩ := tab_mem ((tab_perm m p n).mem_iff.mp ht)
  exact ⟨a * p + c, a * m + b, b * p + c, ⟨flat_lt h1 h3, flat_lt h1 h2, flat_lt h2 h3⟩, by simp [tabT, Tm.pl]⟩, fun t ht => by
  obtain ⟨a, b, c, h1, h2, h3, rfl⟩ := tab_mem ((tab_perm m p n).mem_iff.mp ht)
  show (-1 : Int) ≤ 1 ∧ (1 : Int) ≤ 1
  omega⟩
theorem seven_tel (k i j : Nat) : tel sevenP k i j = tsum (tabTs2 2 2 2) [(k : Int), i, j] := by
  by_cases h : k < 4 ∧ i < 4 ∧ j < 4
  · have key : ∀ k : Fin 4, ∀ i : Fin 4, ∀ j : Fin 4, tel sevenP k i j = tsum (tabTs2 2 2 2) [(k.val : Int), i.val, j.val] := by decide +kernel
    exact key ⟨k, h.1⟩ ⟨i, h.2.1⟩ ⟨j, h.2.2⟩
  · rw [tel_out (fun p hp => (seven_ok p hp).1) h, tab2_fit.out h]
def r_law_tables : FSpec := fun ds _ Q => ∃ (x : Bx) (n m p most : Nat), ds = [bxD x, tri n m p, .int most] ∧ (1 ≤ n ∧ n ≤ 20) ∧ (1 ≤ m ∧ m ≤ 20) ∧ (1 ≤ p ∧ p ≤ 20) ∧ most ≤ 100 ∧
  ∀ (qs : List Pr) (b' : Bx) tl, qs ≠ [] → qs.length ≤ n * (p * m) + most → (∀ q ∈ qs, q.sz (n * m) (m * p) (n * p) ∧ q.mg 201) → (∀ k i j : Nat, tel qs k i j = tsum (tabTs2 m p n) [(k : Int), i, j]) → Q (schD ((n * m : Nat) : Int) ((m * p : Nat) : Int) ((n * p : Nat) : Int) qs) (some (bxD b') :: tl)
theorem tri_eq (a b c d e f : Nat) : (false ^^ deq (tri a b c) (tri d e f)) = decide (a = d ∧ b = e ∧ c = f) := by
  have := eqv_row [(a : Int), b, c] [(d : Int), e, f]
  show (false ^^ PyData.eqv (rowD [(a : Int), b, c]).py (rowD [(d : Int), e, f]).py) = _
  rw [this, Bool.false_xor, Bool.eq_iff_iff, decide_eq_true_iff, decide_eq_true_iff]
  exact pl_eq a b c d e f
theorem tri_sm (a b c : Nat) : Sm (tri a b c) 1 := .intt (xs := [(a : Int), b, c])
theorem len_ne {α : Type} {xs : List α} (h : 0 < xs.length) : xs ≠ [] := fun z => by rw [z] at h; exact Nat.lt_irrefl 0 h
theorem rd_law_tables : RD_law_tables r_law_tables r_law_lengths_of r_law_dressed r_law_plainly r_law_take r_law_seven r_law_table_sums := by
  rintro ds ED QD - ⟨x, n, m, p, most, rfl, hn, hm, hp, hmo, q⟩
  have h1 : n * m ≤ 20 * 20 := Nat.mul_le_mul (by omega) (by omega)
  have h2 : m * p ≤ 20 * 20 := Nat.mul_le_mul (by omega) (by omega)
  have h3 : n * p ≤ 20 * 20 := Nat.mul_le_mul (by omega) (by omega)
  have h4 : n * (p * m) ≤ 20 * (20 * 20) := Nat.mul_le_mul (by omega) (Nat.mul_le_mul (by omega) (by omega))
  have h5 : 0 < n * (p * m) := Nat.mul_pos (by omega) (Nat.mul_pos (by omega) (by omega))
  refine ⟨(tri_sm n m p).dat, (tri_sm 2 2 2).dat, (tri_sm n m p).min, fun h => ?_, fun h => ?_⟩
  · have h : (false ^^ deq (tri n m p) (tri 2 2 2)) = true := h
    rw [tri_eq, decide_eq_true_eq] at h
    refine ⟨x, 2, rfl, by decide, fun w x tl _ _ => ⟨fun _ => ⟨rfl, fun _ => ?_⟩, fun _ => ?_⟩⟩
    · obtain ⟨rfl, rfl, rfl⟩ := h
      exact ⟨x, 4, 4, 4, sevenP, most, rfl, ⟨by omega, by omega, by omega⟩, by decide, by decide, hmo, seven_ok, fun qs b' tl z1 z2 z3 z4 => q qs b' _ z1 (by have : sevenP.length = 7 := rfl; omega) z3 fun k i j => (z4 k i j).trans (seven_tel k i j)⟩
    · exact ⟨n, m, p, rfl, ⟨by omega, by omega, by omega⟩, fun _ => ⟨n, m, p, rfl, ⟨by omega, by omega, by omega⟩, fun _ => ⟨n * m, m * p, n * p, tabTs2 m p n, rfl, ⟨by omega, by omega, by omega⟩, by rw [tabTs2_len]; omega, tab2_fit, fun ps _ g1 g2 g3 => ⟨x, n * m, m * p, n * p, ps, most, rfl, ⟨by omega, by omega, by omega⟩, len_ne (by rw [g1, tabTs2_len]; exact h5), by rw [g1, tabTs2_len]; omega, hmo, g2, fun qs b' tl z1 z2 z3 z4 => q qs b' _ z1 (by rw [g1, tabTs2_len] at z2; exact z2) z3 fun k i j => (z4 k i j).trans (g3 k i j)⟩⟩⟩⟩
  · exact ⟨fun h => (nomatch h), fun _ => ⟨n, m, p, rfl, ⟨by omega, by omega, by omega⟩, fun _ => ⟨n, m, p, rfl, ⟨by omega, by omega, by omega⟩, fun _ => ⟨n * m, m * p, n * p, tabTs2 m p n, rfl, ⟨by omega, by omega, by omega⟩, by rw [tabTs2_len]; omega, tab2_fit, fun ps _ g1 g2 g3 => ⟨x, n * m, m * p, n * p, ps, most, rfl, ⟨by omega, by omega, by omega⟩, len_ne (by rw [g1, tabTs2_len]; exact h5), by rw [g1, tabTs2_len]; omega, hmo, g2, fun qs b' tl z1 z2 z3 z4 => q qs b' _ z1 (by rw [g1, tabTs2_len] at z2; exact z2) z3 fun k i j => (z4 k i j).trans (g3 k i j)⟩⟩⟩⟩⟩
end Cm
namespace Cm
open PySem PySem.Spec PyProof.Rows L2 FL
/-! ### twofold -/
def rb_twofold : RS := (rRet (rCB dTuple (rAC (oV (rComp (rRg1 (rAC (oV (rVar 0)) rA0)) (gNm 3) rYes (rCB dInt (rAC (oV (rBin (dIn false) (oV (rVar 3)) (oV (rTup (rAC (oV (rVar 1)) (rAC (oV (rVar 2)) rA0)))))) rA0)) [3])) rA0)))
abbrev RD_twofold (r : FSpec) : Prop := ∀ ds ED QD, ds.length = 3 → r ds ED QD → rb_twofold (startD ["n", "i", "j", "place"] ds) (fun c fs ρ => ED c fs (ρ.take 3)) (finD 3 QD)
/-! ### out_alone -/
def rb_out_alone : RS := (rRet (rCB dTuple (rAC (oV (rComp (rRg1 (rAC (oV (rIc (fun i => i - 1) (oV (rIc (fun i => 2 * i) (oV (rVar 0)))))) rA0)) (gNm 2) rYes (rIfE (rTst (rBin dEq (oV (rVar 2)) (oV (rIc (fun i => 2 * i) (oV (rVar 1)))))) (rC (.int 1)) (rBin dSub (oV (rC (.int 0))) (oV (rCB dInt (rAC (oV (rChain dLe dLt (oV (rVar 1)) (oV (rVar 2)) (oV (rBin dAdd (oV (rVar 1)) (oV (rVar 0)))))) rA0))))) [2])) rA0)))
abbrev RD_out_alone (r : FSpec) : Prop := ∀ ds ED QD, ds.length = 2 → r ds ED QD → rb_out_alone (startD ["n", "i", "k"] ds) (fun c fs ρ => ED c fs (ρ.take 2)) (finD 2 QD)
/-! ### by_pairs -/
def rb_by_pairs (r_twofold : FSpec) (r_out_alone : FSpec) (r_line_task : FSpec) (r_single : FSpec) : RS := (rSeq (rSet 1 (rComp (rRg1 (rAC (oV (rVar 0)) rA0)) (gNm 2) rYes (rTup (rAC (oV (rCall [] r_twofold (rAC (oV (rVar 0)) (rAC (oV (rVar 2)) (rAC (oV (rVar 2)) rA0))))) (rAC (oV (rCall [] r_twofold (rAC (oV (rVar 0)) (rAC (oV (rVar 2)) (rAC (oV (rVar 2)) rA0))))) (rAC (oV (rCall [] r_out_alone (rAC (oV (rVar 0)) (rAC (oV (rVar 2)) rA0)))) rA0)))) [2]))
  (rSeq (rFor (rRg1 (rAC (oV (rVar 0)) rA0)) (gNm 2) (rFor (rRg2 (rAC (oV (rIc (fun i => i + 1) (oV (rVar 2)))) (rAC (oV (rVar 0)) rA0))) (gNm 3) (rDrop (rApp 1 (rTup (rAC (oV (rCall [] r_twofold (rAC (oV (rVar 0)) (rAC (oV (rVar 2)) (rAC (oV (rVar 3)) rA0))))) (rAC (oV (rCall [] r_twofold (rAC (oV (rVar 0)) (rAC (oV (rVar 2)) (rAC (oV (rVar 3)) rA0))))) (rAC (oV (rCB dTuple (rAC (oV (rCall [] r_single (rAC (oV (rIc (fun i => i - 1) (oV (rIc (fun i => 2 * i) (oV (rVar 0)))))) (rAC (oV (rBin dAdd (oV (rVar 2)) (oV (rVar 3)))) rA0)))) rA0))) rA0))))))))
  (rRet (rCatT (rSl (oV (rFrz (rCall [] r_line_task (rAC (oV (rVar 0)) (rAC (oV (rVar 0)) rA0))))) rP0 (rP1 (rC (.int 3)))) (rTup (rAC (oV (rVar 1)) rA0))))))
abbrev RD_by_pairs (r : FSpec) (r_twofold : FSpec) (r_out_alone : FSpec) (r_line_task : FSpec) (r_single : FSpec) : Prop := ∀ ds ED QD, ds.length = 1 → r ds ED QD → (rb_by_pairs r_twofold r_out_alone r_line_task r_single) (startD ["n", "products", "i", "j"] ds) (fun c fs ρ => ED c fs (ρ.take 1)) (finD 1 QD)
end Cm
/-! Pa: products by pairs. -/
namespace Cm
open PySem PySem.Spec PyProof.Rows L2 FL
set_option maxHeartbeats 0
def twf (n i j : Nat) : List Int := (List.range n).map fun (p : Nat) => if decide ((p : Int) ∈ [(i : Int), j]) then (1 : Int) else 0
def r_twofold : FSpec := fun ds _ Q => ∃ n i j : Nat, ds = [.int n, .int i, .int j] ∧ n ≤ 1000 ∧ ∀ os, Q (rowD (twf n i j)) os
theorem rd_twofold : RD_twofold r_twofold := by
  rintro ds ED QD - ⟨n, i, j, rfl, hn, q⟩
  refine ⟨⟨by decide, by omega, by omega⟩, ⟨compR_allE (List.range ((n : Int) - 0).toNat) _ (fun (p : Nat) => .int (if decide ((p : Int) ∈ [(i : Int), j]) then 1 else 0)) rfl (fun p hp => ?_) (fun _ => rfl) ?_⟩⟩
  · refine ⟨fun _ => ⟨rfl, rfl, ?_, rfl⟩, fun h => (nomatch h)⟩
    rw [Int.zero_add, Bool.false_xor]
    have := inD_int (p : Int) [(i : Int), j]
    rw [← this]; rfl
  · have := q
    unfold rowD twf at this
    rw [List.map_map] at this
    rw [show ((n : Int) - 0).toNat = n by omega]
    exact this _
def oal (n i : Nat) : List Int := (List.range (2 * n - 1)).map fun k => if k = 2 * i then (1 : Int) else 0 - (if decide (i ≤ k ∧ k < i + n) then (1 : Int) else 0)
def r_out_alone : FSpec := fun ds _ Q => ∃ n i : Nat, ds = [.int n, .int i] ∧ n ≤ 1000 ∧ i ≤ 1000 ∧ ∀ os, Q (rowD (oal n i)) os
theorem rd_out_alone : RD_out_alone r_out_alone := by
  rintro ds ED QD - ⟨n, i, rfl, hn, hi, q⟩
  refine ⟨⟨by decide, by (try dsimp only); omega, by (try dsimp only); omega⟩, ⟨compR_allE (List.range ((2 * (n : Int) - 1) - 0).toNat) _ (fun (k : Nat) => .int (if k = 2 * i then (1 : Int) else 0 - (if decide (i ≤ k ∧ k < i + n) then (1 : Int) else 0))) rfl (fun k hk => ?_) (fun _ => rfl) ?_⟩⟩
  · refine ⟨fun _ => ?_, fun h => (nomatch h)⟩
    refine ⟨fun h => ?_, fun h => ⟨fun h1 => ⟨?_, rfl⟩, fun h1 => ⟨?_, rfl⟩⟩⟩
    · have h : k = 2 * i := by
        simp at h; omega
      refine ⟨?_, rfl⟩
      rw [if_pos h]
    · have h : k ≠ 2 * i := by
        simp at h; omega
      have h1 : i ≤ k := by
        simp at h1; omega
      rw [if_neg h]
      by_cases h2 : k < i + n
      · rw [if_pos (by simp; omega), if_pos (by simp; omega)]
      · rw [if_neg (by simp; omega), if_neg (by simp; omega)]
    · have h : k ≠ 2 * i := by
        simp at h; omega
      have h1 : ¬ i ≤ k := by
        simp at h1; omega
      rw [if_neg h, if_neg (by simp), if_neg (by simp; omega)]
  · have := q
    unfold rowD oal at this
    rw [List.map_map] at this
    rw [show ((2 * (n : Int) - 1) - 0).toNat = 2 * n - 1 by omega]
    exact this _
def pA (n i : Nat) : Pr := ⟨twf n i i, twf n i i, oal n i⟩
def pB (n i j : Nat) : Pr := ⟨twf n i j, twf n i j, sg (2 * n - 1) ((i : Int) + j)⟩
def PPi (n i : Nat) (m : Nat) : List Pr := (List.range m).map fun j => pB n i (i + 1 + j)
def PPs (n m : Nat) : List Pr := (List.range n).map (pA n) ++ (List.range m).flatMap fun i => PPi n i (n - (i + 1))
theorem twf_len (n i j : Nat) : (twf n i j).length = n := by unfold twf; rw [List.length_map, List.length_range]
theorem oal_len (n i : Nat) : (oal n i).length = 2 * n - 1 := by unfold oal; rw [List.length_map, List.length_range]
theorem PPs_succ (n m : Nat) : PPs n (m + 1) = PPs n m ++ PPi n m (n - (m + 1)) := by unfold PPs; rw [List.range_succ, List.flatMap_append]; simp
theorem PPi_succ (n i m : Nat) : PPi n i (m + 1) = PPi n i m ++ [pB n i (i + 1 + m)] := by unfold PPi; rw [List.range_succ, List.map_append]; rfl
theorem PPi_len (n i m : Nat) : (PPi n i m).length = m := by unfold PPi; rw [List.length_map, List.length_range]
theorem PPs_len (n : Nat) : ∀ m, (PPs n m).length ≤ n + m * n
  | 0 => by unfold PPs; simp
  | m + 1 => by
    have := PPs_len n m
    rw [PPs_succ, List.length_append, PPi_len, Nat.succ_mul]; omega
theorem PPs_len' {n m : Nat} (hn : n ≤ 300) (hm : m ≤ 300) : (PPs n m).length ≤ 100000 := by
  have h1 := PPs_len n m
  have h2 : m * n ≤ 300 * 300 := Nat.mul_le_mul hm hn
  omega
def r_by_pairs : FSpec := fun ds _ Q => ∃ n : Nat, ds = [.int n] ∧ 1 ≤ n ∧ n ≤ 300 ∧ ∀ os, Q (.tup true [.int n, .int n, .int ((n : Int) + n - 1), .lst .flat ((PPs n n).map prD)]) os
theorem rd_by_pairs : RD_by_pairs r_by_pairs r_twofold r_out_alone r_line_task r_single := by
  rintro ds ED QD - ⟨n, rfl, n0, hn, q⟩
  refine ⟨⟨by decide, by omega, by omega⟩, ⟨compR_allE (List.range ((n : Int) - 0).toNat) _ (fun (i : Nat) => prD (pA n i)) rfl (fun i hi => ?_) (fun _ => rfl) ?_⟩⟩
  · have hi := List.mem_range.mp hi
    refine ⟨fun _ => ⟨n, i, i, by rw [Int.zero_add]; rfl, by omega, fun _ => ⟨n, i, i, by rw [Int.zero_add]; rfl, by omega, fun _ => ⟨n, i, by rw [Int.zero_add]; rfl, by omega, by omega, fun _ => ⟨rfl, rfl⟩⟩⟩⟩, fun h => (nomatch h)⟩
  refine ⟨⟨by decide, by omega, by omega⟩, ⟨forR_on [1] [2, 3] (fun k s => s = [some (.lst .flat ((PPs n k).map prD))]) _ _ ?_ ?_ ?_⟩⟩
  · unfold PPs
    rw [List.range_zero, List.flatMap_nil, List.append_nil, List.map_map, show ((n : Int) - 0).toNat = n by omega]; rfl
  · rintro i x s j hx hj rfl
    obtain ⟨e2, e3, rfl⟩ := len2 hj
    obtain ⟨rfl, hi⟩ := rgD_at hx
    have hin : i < n := by omega
    refine ⟨⟨by (try dsimp only); omega, by omega⟩, ⟨forR_on [1] [3] (fun k s => s = [some (.lst .flat ((PPs n i ++ PPi n i k).map prD))]) _ _ ?_ ?_ ?_⟩⟩
    · show _ = [some (D.lst .flat ((PPs n i ++ []).map prD))]
      rw [List.append_nil]; rfl
    · rintro k x s j hx hj rfl
      obtain ⟨e3, rfl⟩ := List.length_eq_one_iff.mp hj
      obtain ⟨rfl, hk⟩ := rgD_at hx
      have hk : i + 1 + k < n := by (try dsimp only at hk); omega
      have ej : ((0 + (i : Int)) + 1 + (k : Int)) = ((i + 1 + k : Nat) : Int) := by omega
      refine ⟨n, i, i + 1 + k, ?_, by omega, fun _ => ⟨n, i, i + 1 + k, ?_, by omega, fun _ => ⟨2 * n - 1, (i : Int) + ((i + 1 + k : Nat) : Int), ?_, by omega, fun _ => ?_⟩⟩⟩
      · rw [Int.zero_add]; dsimp only; rw [← ej, Int.zero_add]; rfl
      · rw [Int.zero_add]; dsimp only; rw [← ej, Int.zero_add]; rfl
      · dsimp only
        rw [ej, Int.zero_add, show (2 : Int) * n - 1 = ((2 * n - 1 : Nat) : Int) by omega]; rfl
      · refine ⟨?_, rfl, ?_⟩
        · rw [List.length_map, List.length_append, PPi_len, sizeLine_eq]
          have := PPs_len' (n := n) (m := i) hn (by omega)
          omega
        · rw [PPi_succ, ← List.append_assoc, List.map_append (l₁ := PPs n i ++ PPi n i k)]; rfl
    · rintro s j hj rfl
      obtain ⟨e3, rfl⟩ := List.length_eq_one_iff.mp hj
      refine ⟨rfl, ?_⟩
      rw [rgD_len, show ((n : Int) - (fun i => i + 1) (0 + (i : Int))).toNat = n - (i + 1) by dsimp only; omega, ← PPs_succ]; rfl
  · rintro s j hj rfl
    obtain ⟨e2, e3, rfl⟩ := len2 hj
    refine ⟨n, n, rfl, by omega, by omega, by omega, by omega, fun _ => ?_⟩
    refine ⟨by show (3 + 1 : Nat) ≤ sizeLine; decide, rfl, ?_⟩
    rw [show (rgD 0 (n : Int)).length = n by rw [rgD_len]; omega]
    exact q _
/-! ### what is due -/
def outR (n i j : Nat) : List Int := (List.range (2 * n - 1)).map fun k => if i ≤ k ∧ k < i + j then (-1 : Int) else 0
theorem outR_len (n i j : Nat) : (outR n i j).length = 2 * n - 1 := by unfold outR; rw [List.length_map, List.length_range]
theorem outR_set (n i j : Nat) : (outR n i j).set (i + j) (-1) = outR n i (j + 1) := by
  apply List.ext_getElem?
  intro k
  rw [List.getElem?_set]
  unfold outR
  rw [List.getElem?_map, List.getElem?_map, List.length_map, List.length_range]
  by_cases hk : k < 2 * n - 1
  · rw [List.getElem?_range hk]
    by_cases e : i + j = k
    · subst e
      rw [if_pos rfl, if_pos hk]
      show (some (-1) : Option Int) = some (if i ≤ i + j ∧ i + j < i + (j + 1) then -1 else 0)
      rw [if_pos (by omega)]
    · rw [if_neg e]
      show some (if i ≤ k ∧ k < i + j then (-1 : Int) else 0) = some (if i ≤ k ∧ k < i + (j + 1) then (-1 : Int) else 0)
      by_cases h : i ≤ k ∧ k < i + j
      · rw [if_pos h, if_pos (by omega)]
      · rw [if_neg h, if_neg (by omega)]
  · rw [List.getElem?_eq_none (by rw [List.length_range]; omega)]
    by_cases e : i + j = k
    · rw [if_pos e, if_neg (by omega)]; rfl
    · rw [if_neg e]; rfl
theorem outR_end (n i : Nat) : (outR n i n).set (2 * i) 1 = oal n i := by
  apply List.ext_getElem?
  intro k
  rw [List.getElem?_set]
  unfold outR oal
  rw [List.getElem?_map, List.getElem?_map, List.length_map, List.length_range]
  by_cases hk : k < 2 * n - 1
  · rw [List.getElem?_range hk]
    by_cases e : 2 * i = k
    · subst e
      rw [if_pos rfl, if_pos hk]
      show (some 1 : Option Int) = some (if 2 * i = 2 * i then 1 else _)
      rw [if_pos rfl]
    · rw [if_neg e]
      show some (if i ≤ k ∧ k < i + n then (-1 : Int) else 0) = some (if k = 2 * i then (1 : Int) else 0 - (if decide (i ≤ k ∧ k < i + n) then (1 : Int) else 0))
      have e' : ¬ k = 2 * i := fun z => e z.symm
      by_cases h : i ≤ k ∧ k < i + n
      · rw [if_pos h, if_neg e', if_pos (by simpa using h)]; rfl
      · rw [if_neg h, if_neg e', if_neg (by simpa using h)]; rfl
  · rw [List.getElem?_eq_none (by rw [List.length_range]; omega)]
    by_cases e : 2 * i = k
    · rw [if_pos e, if_neg (by omega)]; rfl
    · rw [if_neg e]; rfl
def DDj (n j m : Nat) : List Pr := (List.range m).map fun i => pB n i j
def DDs (n m : Nat) : List Pr := (List.range n).map (pA n) ++ (List.range m).flatMap fun j => DDj n j j
theorem DDs_succ (n m : Nat) : DDs n (m + 1) = DDs n m ++ DDj n m m := by unfold DDs; rw [List.range_succ, List.flatMap_append]; simp
theorem DDj_succ (n j m : Nat) : DDj n j (m + 1) = DDj n j m ++ [pB n m j] := by unfold DDj; rw [List.range_succ, List.map_append]; rfl
theorem DDj_len (n j m : Nat) : (DDj n j m).length = m := by unfold DDj; rw [List.length_map, List.length_range]
theorem DDs_len (n : Nat) : ∀ m, (DDs n m).length ≤ n + m * m
  | 0 => by unfold DDs; simp
  | m + 1 => by
    have := DDs_len n m
    rw [DDs_succ, List.length_append, DDj_len, Nat.succ_mul, Nat.mul_succ]; omega
theorem DDs_len' {n m : Nat} (hn : n ≤ 300) (hm : m ≤ 300) : (DDs n m).length ≤ 100000 := by
  have h1 := DDs_len n m
  have h2 : m * m ≤ 300 * 300 := Nat.mul_le_mul hm hm
  omega
theorem flat_app_perm {α β : Type} (f g : α → List β) : ∀ l : List α, (l.flatMap fun a => g a ++ f a).Perm (l.flatMap g ++ l.flatMap f)
  | [] => .nil
  | a :: l => by
    rw [List.flatMap_cons, List.flatMap_cons, List.flatMap_cons]
    have ih := flat_app_perm f g l
    refine ((ih.append_left (g a ++ f a))).trans ?_
    rw [List.append_assoc, List.append_assoc]
    refine List.Perm.append_left _ ?_
    rw [← List.append_assoc, ← List.append_assoc]
    exact (List.perm_append_comm).append_right _
theorem tri_perm {α : Type} (B : Nat → Nat → α) : ∀ n, ((List.range n).flatMap fun i => (List.range (n - (i + 1))).map fun j => B i (i + 1 + j)).Perm ((List.range n).flatMap fun j => (List.range j).map fun i => B i j)
  | 0 => .nil
  | n + 1 => by
    rw [List.range_succ, List.flatMap_append, List.flatMap_append]
    have e0 : ([n].flatMap fun i => (List.range (n + 1 - (i + 1))).map fun j => B i (i + 1 + j)) = [] := by simp
    have e1 : ([n].flatMap fun j => (List.range j).map fun i => B i j) = (List.range n).map fun i => B i n := by simp
    rw [e0, e1, List.append_nil]
    have e2 : ((List.range n).flatMap fun i => (List.range (n + 1 - (i + 1))).map fun j => B i (i + 1 + j)) = (List.range n).flatMap fun i => ((List.range (n - (i + 1))).map fun j => B i (i + 1 + j)) ++ [B i n] := by
      simp only [List.flatMap]
      congr 1
      refine List.map_congr_left fun i hi => ?_
      have hi := List.mem_range.mp hi
      rw [show n + 1 - (i + 1) = n - (i + 1) + 1 by omega, List.range_succ, List.map_append]
      congr 1
      show [B i (i + 1 + (n - (i + 1)))] = _
      rw [show i + 1 + (n - (i + 1)) = n by omega]
    rw [e2]
    refine (flat_app_perm (fun i => [B i n]) (fun i => (List.range (n - (i + 1))).map fun j => B i (i + 1 + j)) (List.range n)).trans ?_
    have e3 : ((List.range n).flatMap fun i => [B i n]) = (List.range n).map fun i => B i n := by
      induction List.range n with
      | nil => rfl
      | cons a l ih => rw [List.flatMap_cons, ih]; rfl
    rw [e3]
    exact (tri_perm B n).append_right _
theorem PD_perm (n : Nat) : (PPs n n).Perm (DDs n n) := (tri_perm (pB n) n).append_left _
theorem pA_sz (n i : Nat) : (pA n i).sz n n (2 * n - 1) := ⟨twf_len _ _ _, twf_len _ _ _, oal_len _ _⟩
theorem pB_sz (n i j : Nat) : (pB n i j).sz n n (2 * n - 1) := ⟨twf_len _ _ _, twf_len _ _ _, sg_len _ _⟩
theorem PP_mem {n m : Nat} {p : Pr} (h : p ∈ PPs n m) : (∃ i, i < n ∧ p = pA n i) ∨ ∃ i j, i < m ∧ i < j ∧ j < n ∧ p = pB n i j := by
  rcases List.mem_append.mp h with h | h
  · obtain ⟨i, hi, rfl⟩ := List.mem_map.mp h
    exact .inl ⟨i, List.mem_range.mp hi, rfl⟩
  · obtain ⟨i, hi, h⟩ := List.mem_flatMap.mp h
    obtain ⟨j, hj, rfl⟩ := List.mem_map.mp h
    have hi := List.mem_range.mp hi
    have hj := List.mem_range.mp hj
    exact .inr ⟨i, i + 1 + j, hi, by omega, by omega, rfl⟩
theorem PP_sz {n m : Nat} {p : Pr} (h : p ∈ PPs n m) : p.sz n n (2 * n - 1) := by
  rcases PP_mem h with ⟨i, _, rfl⟩ | ⟨i, j, _, _, _, rfl⟩
  · exact pA_sz n i
  · exact pB_sz n i j
theorem bt1 {x : Int} (h : x = 0 ∨ x = 1 ∨ x = -1) : Bt 10000 x := bt_in (n := 10) (B := 1) (by omega) (by omega) |>.mono (by decide)
theorem twf_bts (n i j : Nat) : Bts 10000 (twf n i j) := fun x hx => by
  obtain ⟨k, _, rfl⟩ := List.mem_map.mp hx
  refine bt1 ?_
  split <;> simp
theorem oal_bts (n i : Nat) : Bts 10000 (oal n i) := fun x hx => by
  obtain ⟨k, _, rfl⟩ := List.mem_map.mp hx
  refine bt1 ?_
  split
  · simp
  · split <;> simp
theorem sg_bts (n : Nat) (k : Int) : Bts 10000 (sg n k) := fun x hx => by
  obtain ⟨k, _, rfl⟩ := List.mem_map.mp hx
  refine bt1 ?_
  split <;> simp
theorem PP_fit {n m : Nat} {p : Pr} (h : p ∈ PPs n m) : p.fit n n (2 * n - 1) := by
  have s := PP_sz h
  refine ⟨s.l, s.r, s.o, ?_, ?_, ?_⟩
  all_goals rcases PP_mem h with ⟨i, _, rfl⟩ | ⟨i, j, _, _, _, rfl⟩
  all_goals first | exact twf_bts _ _ _ | exact oal_bts _ _ | exact sg_bts _ _
/-- what the products tell -/
theorem twf_dot {n i j : Nat} (hi : i < n) (hj : j < n) {xs : List Int} (hx : xs.length = n) : dot (twf n i j) xs = if i = j then xs.getD i 0 else xs.getD i 0 + xs.getD j 0 := by
  rw [dot_range n _ _ (twf_len n i j) hx]
  show Sg (List.range n) _ = _
  have e : ∀ k ∈ List.range n, (twf n i j).getD k 0 * xs.getD k 0 = (if k = i then xs.getD k 0 else 0) + (if i = j then 0 else if k = j then xs.getD k 0 else 0) := fun k hk => by
    have hk := List.mem_range.mp hk
    have : (twf n i j).getD k 0 = if k = i ∨ k = j then 1 else 0 := by
      unfold twf
      rw [List.getD_eq_getElem?_getD, List.getElem?_map, List.getElem?_range hk]
      show (if decide ((k : Int) ∈ [(i : Int), j]) = true then (1 : Int) else 0) = _
      simp [Int.natCast_inj]
    rw [this]
    by_cases h1 : k = i
    · by_cases h2 : i = j
      · rw [if_pos (.inl h1), if_pos h1, if_pos h2]; simp
      · rw [if_pos (.inl h1), if_pos h1, if_neg h2, if_neg (fun z => h2 (h1.symm.trans z))]; simp
    · by_cases h3 : k = j
      · rw [if_pos (.inr h3), if_neg h1, if_neg (fun z : i = j => h1 (h3.trans z.symm)), if_pos h3]; simp
      · rw [if_neg (by rintro (h | h) <;> contradiction), if_neg h1]
        split <;> simp [h3]
  rw [Sg_congr e, Sg_add, Sg_at hi fun k => xs.getD k 0]
  by_cases h : i = j
  · simp only [if_pos h]
    rw [Sg_zero]; simp
  · simp only [if_neg h]
    rw [Sg_at hj fun k => xs.getD k 0]
theorem tri_sum (G : Nat → Nat → Int) : ∀ n, (Sg (List.range n) fun i => Sg (List.range n) (G i)) = (Sg (List.range n) fun i => G i i) + Sg (List.range n) fun j => Sg (List.range j) fun i => G i j + G j i
  | 0 => rfl
  | n + 1 => by
    rw [Sg_range_succ, Sg_range_succ, Sg_range_succ, Sg_range_succ]
    have e : (Sg (List.range n) fun i => Sg (List.range (n + 1)) (G i)) = (Sg (List.range n) fun i => Sg (List.range n) (G i)) + Sg (List.range n) fun i => G i n := by
      rw [← Sg_add]
      exact Sg_congr fun i _ => Sg_range_succ n (G i)
    rw [e, tri_sum G n, Sg_add (List.range n) (fun i => G i n) (fun i => G n i)]
    have e2 : (Sg (List.range n) fun i => G n i) = Sg (List.range n) (G n) := rfl
    rw [e2]
    omega
theorem PP_tel {n : Nat} {xs ys : List Int} (hx : xs.length = n) (hy : ys.length = n) {k : Nat} (hk : k < 2 * n - 1) : telA (PPs n n) xs ys k = valAt (lineTs n n) xs ys k := by
  rw [telA_perm (PD_perm n), line_Sg]
  show Sg (DDs n n) _ = _
  unfold DDs
  rw [Sg_append, Sg_map, Sg_flatMap]
  let G : Nat → Nat → Int := fun i j => if i + j = k then xs.getD i 0 * ys.getD j 0 else 0
  let H : Nat → Nat → Int := fun i j => if i + j = k then xs.getD i 0 * ys.getD i 0 else 0
  have eA : (Sg (List.range n) fun i => (pA n i).o.getD k 0 * (dot (pA n i).l xs * dot (pA n i).r ys)) = (Sg (List.range n) fun i => H i i) - Sg (List.range n) fun j => Sg (List.range j) fun i => H i j + H j i := by
    have e1 : ∀ i ∈ List.range n, (pA n i).o.getD k 0 * (dot (pA n i).l xs * dot (pA n i).r ys) = (H i i + H i i) + -(Sg (List.range n) (H i)) := fun i hi => by
      have hi := List.mem_range.mp hi
      show (oal n i).getD k 0 * (dot (twf n i i) xs * dot (twf n i i) ys) = _
      rw [twf_dot hi hi hx, twf_dot hi hi hy, if_pos rfl, if_pos rfl]
      have e2 : Sg (List.range n) (H i) = if i ≤ k ∧ k < i + n then xs.getD i 0 * ys.getD i 0 else 0 := by
        by_cases h : i ≤ k ∧ k < i + n
        · rw [if_pos h, ← Sg_at (by omega : k - i < n) fun _ => xs.getD i 0 * ys.getD i 0]
          exact Sg_congr fun j _ => by
            show (if i + j = k then _ else _) = _
            by_cases z : i + j = k
            · rw [if_pos z, if_pos (by omega)]
            · rw [if_neg z, if_neg (by omega)]
        · rw [if_neg h]
          exact Sg_zero' fun j hj => if_neg (fun z : i + j = k => by have := List.mem_range.mp hj; omega)
      rw [e2]
      have e3 : (oal n i).getD k 0 = if k = 2 * i then (1 : Int) else 0 - (if decide (i ≤ k ∧ k < i + n) then (1 : Int) else 0) := by
        unfold oal
        rw [List.getD_eq_getElem?_getD, List.getElem?_map, List.getElem?_range hk]; rfl
      rw [e3]
      show _ = ((if i + i = k then _ else _) + (if i + i = k then _ else _)) + _
      by_cases h1 : k = 2 * i
      · have h4 : i + i = k := by omega
        have h5 : i ≤ k ∧ k < i + n := by omega
        rw [if_pos h1, if_pos h4, if_pos h5, Int.one_mul]; omega
      · have h4 : ¬ i + i = k := by omega
        rw [if_neg h1, if_neg h4]
        by_cases h2 : i ≤ k ∧ k < i + n
        · rw [if_pos (by simpa using h2), if_pos h2]; omega
        · rw [if_neg (by simpa using h2), if_neg h2]; omega
    rw [Sg_congr e1, Sg_add, Sg_add, ← Sg_neg, tri_sum H n]
    omega
  have eB : (Sg (List.range n) fun j => Sg (DDj n j j) fun p => p.o.getD k 0 * (dot p.l xs * dot p.r ys)) = (Sg (List.range n) fun j => Sg (List.range j) fun i => H i j + H j i) + Sg (List.range n) fun j => Sg (List.range j) fun i => G i j + G j i := by
    rw [← Sg_add]
    refine Sg_congr fun j hj => ?_
    have hj := List.mem_range.mp hj
    unfold DDj
    rw [Sg_map, ← Sg_add]
    refine Sg_congr fun i hi => ?_
    have hi := List.mem_range.mp hi
    show (sg (2 * n - 1) ((i : Int) + j)).getD k 0 * (dot (twf n i j) xs * dot (twf n i j) ys) = _
    rw [twf_dot (by omega) hj hx, twf_dot (by omega) hj hy, if_neg (by omega), if_neg (by omega), show (i : Int) + j = ((i + j : Nat) : Int) by omega, sg_getD hk]
    show _ = ((if i + j = k then _ else _) + (if j + i = k then _ else _)) + ((if i + j = k then _ else _) + (if j + i = k then _ else _))
    by_cases h : i + j = k
    · rw [if_pos h.symm, if_pos h, if_pos (by omega), if_pos h, if_pos (by omega), Int.one_mul, Int.add_mul, Int.mul_add, Int.mul_add]; omega
    · rw [if_neg (fun z => h z.symm), if_neg h, if_neg (by omega), if_neg h, if_neg (by omega)]; simp
  refine (congr (congrArg HAdd.hAdd eA) eB).trans ?_
  have eG : (Sg (List.range n) fun i => H i i) = Sg (List.range n) fun i => G i i := rfl
  have := tri_sum G n
  show _ = Sg (List.range n) fun i => Sg (List.range n) (G i)
  rw [this, eG]
  show (_ - _) + (_ + _) = _
  omega
theorem flat_bd {α β : Type} (f : α → List β) (c : Nat) : ∀ l : List α, (∀ x ∈ l, (f x).length ≤ c) → (l.flatMap f).length ≤ l.length * c
  | [], _ => Nat.zero_le _
  | a :: l, h => by
    have h1 := h a List.mem_cons_self
    have h2 := flat_bd f c l fun x hx => h x (List.mem_cons_of_mem _ hx)
    rw [List.flatMap_cons, List.length_append, List.length_cons, Nat.succ_mul]; omega
theorem by_len {ps : List Pr} {a b c : Nat} (h : ∀ p ∈ ps, p.sz a b c) : (byTs ps).length ≤ ps.length * (a * (b * c)) := by
  refine flat_bd _ _ _ fun p hp => ?_
  obtain ⟨h1, h2, h3⟩ := h p hp
  refine Nat.le_trans (flat_bd _ (b * c) _ fun x _ => ?_) (Nat.mul_le_mul_right _ (by have := wp_len p.l; omega))
  refine Nat.le_trans (flat_bd _ c _ fun y _ => ?_) (Nat.mul_le_mul_right _ (by have := wp_len p.r; omega))
  unfold byT3
  rw [List.length_map]
  have := wp_len p.o
  omega
theorem PP_does (n : Nat) : canonT (byTs (PPs n n)) = canonT (lineTs n n) := by
  have hf : ∀ t ∈ lineTs n n, t.fits (2 * n - 1) n n := fun t ht => by
    have := line_fits t ht
    rw [show n + n - 1 = 2 * n - 1 by omega] at this
    exact this
  exact does_of (a := n) (b := n) (c := 2 * n - 1) (fun p hp => ⟨(PP_sz hp).l, (PP_sz hp).r, (PP_sz hp).o⟩) hf fun i j k _ _ hk => PP_tel (sg_len _ _) (sg_len _ _) hk
theorem two_filter {n i j : Nat} (hij : i < j) (hj : j < n) : (List.range n).filter (fun k => decide (k = i ∨ k = j)) = [i, j] := by
  refine List.Perm.eq_of_pairwise (le := fun a b => a < b) (fun a b _ _ h g => by omega) (List.pairwise_lt_range.filter _) (by simp [hij]) ((List.perm_ext_iff_of_nodup (List.nodup_range.filter _) (by simp; omega)).mpr fun k => ?_)
  simp
  omega
theorem twf_at {n i j k : Nat} (hk : k < n) : (twf n i j).getD k 0 = if k = i ∨ k = j then 1 else 0 := by
  unfold twf
  rw [List.getD_eq_getElem?_getD, List.getElem?_map, List.getElem?_range hk]
  show (if decide ((k : Int) ∈ [(i : Int), j]) = true then (1 : Int) else 0) = _
  simp [Int.natCast_inj]
end Cm
/-! Dl: lines drawn. -/
namespace Cm
open PySem PySem.Spec PyProof.Rows L2 FL
set_option maxHeartbeats 0
def QQj (n i k : Nat) : List Pr := (List.range k).map fun j => pB n i j
def QQ (n m : Nat) : List Pr := (List.range m).flatMap fun i => pA n i :: QQj n i i
theorem pB_comm (n i j : Nat) : pB n i j = pB n j i := by
  have e : twf n i j = twf n j i := List.map_congr_left fun k _ => by
    congr 1
    simp only [List.mem_cons, List.not_mem_nil, or_false, eq_iff_iff, decide_eq_true_eq]
    exact or_comm
  unfold pB
  rw [e, Int.add_comm]
theorem QQ_perm (n m : Nat) : (QQ n m).Perm ((List.range m).map (pA n) ++ (List.range m).flatMap fun j => DDj n j j) := by
  refine (flatMap_cons_perm (pA n) (fun i => QQj n i i) (List.range m)).trans ?_
  have : ∀ i, QQj n i i = DDj n i i := fun i => List.map_congr_left fun j _ => pB_comm n i j
  rw [show (fun i => QQj n i i) = fun i => DDj n i i from funext this]
theorem QQ_PP (n : Nat) : (QQ n n).Perm (PPs n n) := (QQ_perm n n).trans (PD_perm n).symm
theorem QQ_succ (n m : Nat) : QQ n (m + 1) = QQ n m ++ (pA n m :: QQj n m m) := by unfold QQ; rw [List.range_succ, List.flatMap_append]; simp
theorem QQj_succ (n i k : Nat) : QQj n i (k + 1) = QQj n i k ++ [pB n i k] := by unfold QQj; rw [List.range_succ, List.map_append]; rfl
theorem QQ_len' {n m : Nat} (hn : n ≤ 300) (hm : m ≤ 300) : (QQ n m).length ≤ 100000 := by
  rw [(QQ_perm n m).length_eq, List.length_append, List.length_map, List.length_range]
  have h := DDs_len n m
  unfold DDs at h
  rw [List.length_append, List.length_map, List.length_range] at h
  have : m * m ≤ 300 * 300 := Nat.mul_le_mul hm hm
  omega
theorem sg_twf (n i : Nat) : sg n (i : Int) = twf n i i := (List.map_congr_left fun k _ => by simp)
theorem twf_mg (n i j : Nat) : Mg 1 (twf n i j) := fun x hx => by
  unfold twf at hx
  obtain ⟨k, _, rfl⟩ := List.mem_map.mp hx
  split <;> omega
theorem oal_mg (n i : Nat) : Mg 1 (oal n i) := fun x hx => by
  unfold oal at hx
  obtain ⟨k, _, rfl⟩ := List.mem_map.mp hx
  repeat' split
  all_goals omega
theorem PP_ok {n m : Nat} {p : Pr} (h : p ∈ PPs n m) : p.sz n n (2 * n - 1) ∧ p.mg 1 := by
  refine ⟨PP_sz h, ?_⟩
  rcases PP_mem h with ⟨i, _, rfl⟩ | ⟨i, j, _, _, _, rfl⟩
  · exact ⟨twf_mg _ _ _, twf_mg _ _ _, oal_mg _ _⟩
  · exact ⟨twf_mg _ _ _, twf_mg _ _ _, sg_mg _ _⟩
theorem line_fit {m n : Nat} : Fit1 (lineTs m n) n m (n + m - 1) := ⟨line_dis m n, fun t ht => by
  obtain ⟨i, j, hi, hj, rfl⟩ := line_mem ht
  exact ⟨i + j, i, j, ⟨by omega, hi, hj⟩, by simp [Tm.pl]⟩, fun t ht => by
  obtain ⟨i, j, hi, hj, rfl⟩ := line_mem ht
  show (-1 : Int) ≤ 1 ∧ (1 : Int) ≤ 1
  omega⟩
theorem PP_tels (n k i j : Nat) : tel (PPs n n) k i j = tsum (lineTs n n) [(k : Int), i, j] := by
  by_cases h : k < 2 * n - 1 ∧ i < n ∧ j < n
  · obtain ⟨hk, hi, hj⟩ := h
    rw [← tel_by, tel_sg (a := n) (b := n) (c := 2 * n - 1) (fun p hp => ⟨(PP_sz hp).l, (PP_sz hp).r, (PP_sz hp).o⟩) hi hj, tsum_task (a := n) (b := n) (c := n + n - 1) (fun t ht => line_fits t ht) hi hj]
    exact PP_tel (sg_len _ _) (sg_len _ _) hk
  · rw [tel_out (fun p hp => PP_sz hp) h, line_fit.out (fun z => h ⟨by omega, z.2⟩)]
def r_law_pairs_products : FSpec := fun ds _ Q => ∃ n : Nat, ds = [.int n] ∧ 1 ≤ n ∧ n ≤ 300 ∧ ∀ (ps : List Pr) os, ps ≠ [] → ps.length ≤ n * n → (∀ p ∈ ps, p.sz n n (2 * n - 1) ∧ p.mg 1) → (∀ k i j : Nat, tel ps k i j = tsum (lineTs n n) [(k : Int), i, j]) → Q (.lst .flat (ps.map prD)) os
theorem QQ_ln (n : Nat) : ∀ m, 2 * (QQ n m).length = m * m + m
  | 0 => rfl
  | m + 1 => by
    have ih := QQ_ln n m
    rw [QQ_succ, List.length_append, List.length_cons]
    have : (QQj n m m).length = m := by unfold QQj; rw [List.length_map, List.length_range]
    have e : (m + 1) * (m + 1) = m * m + 2 * m + 1 := by rw [Nat.add_mul, Nat.mul_add]; omega
    omega
theorem rd_law_pairs_products : RD_law_pairs_products r_law_pairs_products r_law_single := by
  rintro ds ED QD - ⟨n, rfl, n0, hn, q⟩
  refine ⟨⟨by decide, by omega, by omega⟩, ⟨forR_on [1] [2, 3, 4, 5] (fun k s => s = [some (.lst .flat ((QQ n k).map prD))]) _ _ rfl ?_ ?_⟩⟩
  · rintro i x s j hx hj rfl
    obtain ⟨e2, e3, e4, e5, rfl⟩ := len4 hj
    obtain ⟨rfl, hi⟩ := rgD_at hx
    have hin : i < n := by omega
    refine ⟨by (try dsimp only); omega, by (try dsimp only); omega, by rw [sizeLine_eq]; simp; omega, ?_⟩
    refine ⟨⟨by decide, by omega, by omega⟩, ⟨forR_on [3] [4] (fun k s => s = [some (.lst .flat ((outR n i k).map D.int))]) _ _ ?_ ?_ ?_⟩⟩
    · have : (List.replicate (2 * n - 1) [D.int 0]).flatten = (outR n i 0).map D.int := by
        rw [rep_ints]
        congr 1
        unfold outR
        apply List.ext_getElem?
        intro j
        rw [List.getElem?_replicate, List.getElem?_map]
        by_cases hj : j < 2 * n - 1
        · rw [if_pos hj, List.getElem?_range hj]
          show some 0 = some (if i ≤ j ∧ j < i + 0 then (-1 : Int) else 0)
          rw [if_neg (by omega)]
        · rw [if_neg hj, List.getElem?_eq_none (by rw [List.length_range]; omega)]; rfl
      rw [← this, show 2 * n - 1 = (2 * (n : Int) - 1).toNat by omega]; rfl
    · rintro k x s j hx hj rfl
      obtain ⟨e4, rfl⟩ := len1 hj
      obtain ⟨rfl, hk⟩ := rgD_at hx
      refine natAt_of (ixN_of (by omega) (by rw [List.length_map, outR_len]; omega)) ⟨rfl, ?_⟩
      rw [← outR_set, List.map_set, show (0 + (i : Int) + (0 + (k : Int))).toNat = i + k by omega]; rfl
    · rintro s j hj rfl
      obtain ⟨e4, rfl⟩ := len1 hj
      rw [show (rgD 0 (n : Int)).length = n by rw [rgD_len]; omega]
      refine natAt_of (ixN_of (by (try dsimp only); omega) (by rw [List.length_map, outR_len]; (try dsimp only); omega)) ?_
      have e : ((outR n i n).map D.int).set ((fun i : Int => 2 * i) (0 + (i : Int))).toNat (D.int 1) = (oal n i).map D.int := by
        rw [← outR_end, List.map_set, show ((fun i : Int => 2 * i) (0 + (i : Int))).toNat = 2 * i by dsimp only; omega]
      have lq := QQ_len' (n := n) (m := i) hn (by omega)
      refine ⟨n, 0 + i, rfl, by omega, fun _ => ⟨n, 0 + i, rfl, by omega, fun _ => ⟨by rw [List.length_map, sizeLine_eq]; omega, ?_⟩⟩⟩
      refine ⟨⟨by decide, by omega, by omega⟩, ⟨forR_on [1] [4, 5] (fun k s => s = [some (.lst .flat ((QQ n i ++ (pA n i :: QQj n i k)).map prD))]) _ _ ?_ ?_ ?_⟩⟩
      · rw [e, Int.zero_add, sg_twf]
        show [some (D.lst .flat ((QQ n i).map prD ++ [prD (pA n i)]))] = _
        rw [List.map_append]; rfl
      · rintro k x s j hx hj rfl
        obtain ⟨e4, e5, rfl⟩ := len2 hj
        obtain ⟨rfl, hk⟩ := rgD_at hx
        refine ⟨⟨by decide, by omega, by omega⟩, ⟨compR_allE (List.range ((n : Int) - 0).toNat) _ (fun (p : Nat) => .int (if decide ((p : Int) ∈ [(i : Int), (k : Int)]) then 1 else 0)) rfl (fun p hp => ?_) (fun _ => rfl) ?_⟩⟩
        · refine ⟨fun _ => ⟨rfl, rfl, ?_, rfl⟩, fun h => (nomatch h)⟩
          rw [Int.zero_add, Int.zero_add, Int.zero_add, Bool.false_xor]
          have := inD_int (p : Int) [(i : Int), (k : Int)]
          rw [← this]; rfl
        · refine ⟨2 * n - 1, (i : Int) + k, ?_, by omega, fun _ => ⟨?_, rfl, ?_⟩⟩
          · dsimp only
            rw [Int.zero_add, Int.zero_add, show (2 : Int) * n - 1 = ((2 * n - 1 : Nat) : Int) by omega]; rfl
          · rw [List.length_map, List.length_append, List.length_cons, show (QQj n i k).length = k by unfold QQj; rw [List.length_map, List.length_range], sizeLine_eq]; omega
          · rw [QQj_succ, ← List.cons_append, ← List.append_assoc, List.map_append (l₁ := QQ n i ++ pA n i :: QQj n i k)]
            have e2 : (D.tup false (((List.range ((n : Int) - 0).toNat).map fun (p : Nat) => D.int (if decide ((p : Int) ∈ [(i : Int), (k : Int)]) then 1 else 0)))) = rowD (twf n i k) := by
              unfold rowD twf
              rw [List.map_map, show ((n : Int) - 0).toNat = n by omega]; rfl
            show [some (D.lst .flat (_ ++ [D.tup false [D.tup false _, D.tup false _, _]]))] = _
            rw [e2]; rfl
      · rintro s j hj rfl
        obtain ⟨e4, e5, rfl⟩ := len2 hj
        refine ⟨rfl, ?_⟩
        rw [rgD_len, show ((0 + (i : Int)) - 0).toNat = i by omega, ← QQ_succ]; rfl
  · rintro s j hj rfl
    obtain ⟨e2, e3, e4, e5, rfl⟩ := len4 hj
    rw [show (rgD 0 (n : Int)).length = n by rw [rgD_len]; omega]
    have hl := QQ_ln n n
    have h1 : n ≤ n * n := Nat.le_mul_self n
    refine q (QQ n n) _ (len_ne (by omega)) (by omega) (fun p hp => PP_ok ((QQ_PP n).mem_iff.mp hp)) fun k i j => ?_
    rw [tel_perm (QQ_PP n), PP_tels]
def r_law_line : FSpec := fun ds _ Q => ∃ (x : Bx) (n m most : Nat), ds = [bxD x, .int n, .int m, .int most] ∧ (1 ≤ n ∧ n ≤ 90) ∧ (1 ≤ m ∧ m ≤ 90) ∧ most ≤ 100 ∧
  ∀ (qs : List Pr) (b' : Bx) tl, qs ≠ [] → qs.length ≤ n * m + most → (∀ q ∈ qs, q.sz n m (n + m - 1) ∧ q.mg 201) → (∀ k i j : Nat, tel qs k i j = tsum (lineTs m n) [(k : Int), i, j]) → Q (schD n m ((n + m - 1 : Nat) : Int) qs) (some (bxD b') :: tl)
theorem rd_law_line : RD_law_line r_law_line r_law_dressed r_law_plainly r_law_take r_law_pairs_products r_law_line_sums := by
  rintro ds ED QD - ⟨x, n, m, most, rfl, hn, hm, hmo, q⟩
  have h1 : n * m ≤ 90 * 90 := Nat.mul_le_mul (by omega) (by omega)
  have h5 : 0 < n * m := Nat.mul_pos (by omega) (by omega)
  have e : ∀ r : List D, D.tup (ownL [D.int n, D.int m, D.int ((fun i : Int => i - 1) ((n : Int) + m))]) [D.int n, D.int m, D.int ((fun i : Int => i - 1) ((n : Int) + m))] = tri n m (n + m - 1) := fun _ => by
    unfold tri
    rw [show (fun i : Int => i - 1) ((n : Int) + m) = ((n + m - 1 : Nat) : Int) by dsimp only; omega]; rfl
  have e := e []
  refine ⟨fun h => ?_, fun h => ?_⟩
  · have h : n = m := by
      have : (n : Int) = m := by simpa using h
      omega
    refine ⟨x, 2, rfl, by decide, fun w x tl _ _ => ⟨fun _ => ?_, fun _ => ?_⟩⟩
    · subst h
      refine ⟨n, rfl, by omega, by omega, fun ps _ g0 g1 g2 g3 => ⟨x, n, n, n + n - 1, ps, most, ?_, ⟨by omega, by omega, by omega⟩, g0, by omega, hmo, fun p hp => ⟨by rw [show n + n - 1 = 2 * n - 1 by omega]; exact (g2 p hp).1, (g2 p hp).2⟩, fun qs b' tl z1 z2 z3 z4 => q qs b' _ z1 (by omega) z3 fun k i j => (z4 k i j).trans (g3 k i j)⟩⟩
      exact congrArg (fun d => [bxD x, d, D.lst .ice (ps.map prD), D.int most]) e
    · refine ⟨n, m, rfl, ⟨by omega, by omega⟩, fun _ => ⟨n, m, n + m - 1, lineTs m n, ?_, ⟨by omega, by omega, by omega⟩, by rw [lineTs_len]; omega, line_fit, fun ps _ g1 g2 g3 => ⟨x, n, m, n + m - 1, ps, most, ?_, ⟨by omega, by omega, by omega⟩, len_ne (by rw [g1, lineTs_len]; exact h5), by rw [g1, lineTs_len]; omega, hmo, g2, fun qs b' tl z1 z2 z3 z4 => q qs b' _ z1 (by rw [g1, lineTs_len] at z2; exact z2) z3 fun k i j => (z4 k i j).trans (g3 k i j)⟩⟩⟩
      · exact congrArg (fun d => [d, (tsD (lineTs m n)).frz]) e
      · exact congrArg (fun d => [bxD x, d, D.lst .ice (ps.map prD), D.int most]) e
  · refine ⟨fun h => (nomatch h), fun _ => ⟨n, m, rfl, ⟨by omega, by omega⟩, fun _ => ⟨n, m, n + m - 1, lineTs m n, ?_, ⟨by omega, by omega, by omega⟩, by rw [lineTs_len]; omega, line_fit, fun ps _ g1 g2 g3 => ⟨x, n, m, n + m - 1, ps, most, ?_, ⟨by omega, by omega, by omega⟩, len_ne (by rw [g1, lineTs_len]; exact h5), by rw [g1, lineTs_len]; omega, hmo, g2, fun qs b' tl z1 z2 z3 z4 => q qs b' _ z1 (by rw [g1, lineTs_len] at z2; exact z2) z3 fun k i j => (z4 k i j).trans (g3 k i j)⟩⟩⟩⟩
    · exact congrArg (fun d => [d, (tsD (lineTs m n)).frz]) e
    · exact congrArg (fun d => [bxD x, d, D.lst .ice (ps.map prD), D.int most]) e
end Cm
namespace Cm
open PySem PySem.Spec PyProof.Rows L2 FL
/-! ### _law_same -/
def rb_law_same (r_law_same : FSpec) : RS := (rSeq (rIf (rTst (rCB dIsi2 (rAC (oV (rVar 1)) (rAC (oV (rTup (rAC (oV (rC (.ty "list"))) (rAC (oV (rC (.ty "tuple"))) rA0)))) rA0)))) (rSeq (rIf (rOr (rTst (rBin dNe (oV (rCB dIsi (rAC (oV (rVar 1)) (rAC (oV (rC (.ty "list"))) rA0)))) (oV (rCB dIsi (rAC (oV (rVar 0)) (rAC (oV (rC (.ty "list"))) rA0)))))) (rTst (rBin dNe (oV (rCB dIsi (rAC (oV (rVar 1)) (rAC (oV (rC (.ty "tuple"))) rA0)))) (oV (rCB dIsi (rAC (oV (rVar 0)) (rAC (oV (rC (.ty "tuple"))) rA0))))))) (rRet (rC (.bl false))) rNx)
  (rRet (rAndV (rBin dEq (oV (rCB dLen (rAC (oV (rVar 0)) rA0))) (oV (rCB dLen (rAC (oV (rVar 1)) rA0)))) (rCB dAll (rAC (oV (rComp (rRg1 (rAC (oV (rCB dLen (rAC (oV (rVar 1)) rA0))) rA0)) (gNm 2) rYes (rCall [] r_law_same (rAC (oV (rBin dIx (oV (rVar 0)) (oV (rVar 2)))) (rAC (oV (rBin dIx (oV (rVar 1)) (oV (rVar 2)))) rA0))) [2])) rA0))))) rNx)
  (rRet (rAndV (rCB dIsi (rAC (oV (rVar 0)) (rAC (oV (rC (.ty "int"))) rA0))) (rAndV (rNotV (rCB dIsi (rAC (oV (rVar 0)) (rAC (oV (rC (.ty "bool"))) rA0)))) (rBin dEq (oV (rVar 0)) (oV (rVar 1)))))))
abbrev RD_law_same (r : FSpec) (r_law_same : FSpec) : Prop := ∀ ds ED QD, ds.length = 2 → r ds ED QD → (rb_law_same r_law_same) (startD ["_law_found", "_law_due", "_law_k"] ds) (fun c fs ρ => ED c fs (ρ.take 2)) (finD 2 QD)
end Cm
/-! contract: _law_same (of data alike) -/
namespace Cm
open PySem PySem.Spec PyProof.Rows L2 FL
set_option maxHeartbeats 0
/-- frozen lists and tuples of such and of ints, m deep at most -/
def okS : Nat → D → Bool
  | _, .int _ => true
  | m + 1, .tup false ds => decide (ds.length ≤ 1000000) && ds.all (okS m)
  | m + 1, .lst .ice ds => decide (ds.length ≤ 1000000) && ds.all (okS m)
  | _, _ => false
theorem okS_own {m : Nat} {d : D} (h : okS m d = true) : d.own = false := by
  cases d with
  | tup o ds => cases o <;> cases m <;> first | rfl | cases h
  | lst o ds => cases o <;> cases m <;> first | rfl | cases h
  | dct o t ks vs => cases m <;> cases h
  | ins o C fs vs => cases m <;> cases h
  | _ => rfl
def r_same (m : Nat) : FSpec := fun ds _ Q => ∃ d : D, ds = [d, d] ∧ okS m d = true ∧ ∀ os, Q (.bl true) os
theorem all_true {α : Type} (xs : List α) : (xs.map fun _ => true).all id = true := by
  induction xs with
  | nil => rfl
  | cons x xs ih => simpa using ih
theorem rd_same_int {r : FSpec} (i : Int) : ∀ (ED : EF) (QD : D → En → Prop), (∀ os, QD (.bl true) os) → (rb_law_same r) (startD ["_law_found", "_law_due", "_law_k"] [.int i, .int i]) (fun c fs ρ => ED c fs (ρ.take 2)) (finD 2 QD) := by
  intro ED QD q
  refine ⟨fun h => (nomatch h), fun _ => ⟨fun _ => ⟨fun _ => ?_, fun h => (nomatch h)⟩, fun h => (nomatch h)⟩⟩
  have : (false ^^ decide (i = i)) = true := by simp
  have qq : ∀ (b : Bool) os, b = true → QD (.bl b) os := fun b os e => e ▸ q os
  exact qq _ _ this
theorem rd_same_seq {m : Nat} (t : Bool) (xs : List D) (hz : xs.length ≤ 1000000) (ho : xs.all (okS m) = true) : ∀ (ED : EF) (QD : D → En → Prop), (∀ os, QD (.bl true) os) → (rb_law_same (r_same m)) (startD ["_law_found", "_law_due", "_law_k"] [match t with | true => .tup false xs | false => .lst .ice xs, match t with | true => .tup false xs | false => .lst .ice xs]) (fun c fs ρ => ED c fs (ρ.take 2)) (finD 2 QD) := by
  intro ED QD q
  have qq : ∀ (b : Bool) os, b = true → QD (.bl b) os := fun b os e => e ▸ q os
  cases t
  all_goals
    refine ⟨fun _ => ⟨rfl, rfl, by decide, fun h => absurd h (by decide), fun _ => ⟨rfl, rfl, by decide, fun h => absurd h (by decide), fun _ => ⟨fun _ => ?_, fun h => ?_⟩⟩⟩, fun h => (nomatch h)⟩
    · refine ⟨⟨by decide, by omega, by omega⟩, ⟨compR_allE (List.range ((xs.length : Int) - 0).toNat) _ (fun _ => .bl true) rfl (fun k hk => ⟨fun _ => ?_, fun h => (nomatch h)⟩) (fun _ => rfl) ?_⟩⟩
      · have hk : k < xs.length := by have := List.mem_range.mp hk; omega
        have ok := List.all_eq_true.mp ho _ (List.getElem_mem hk)
        have at1 : atI xs (0 + (k : Int)) = some xs[k] := by rw [Int.zero_add]; exact atI_nat (List.getElem?_eq_getElem hk)
        refine pick_of at1 (okS_own ok) (pick_of at1 (okS_own ok) ⟨xs[k], ?_, ok, fun _ => ⟨rfl, rfl⟩⟩)
        have fz := frz_id _ (okS_own ok)
        show [D.frz _, D.frz _] = _
        rw [fz]
      · refine ⟨(List.range ((xs.length : Int) - 0).toNat).map fun _ => true, by rw [List.map_map]; rfl, ?_⟩
        exact qq _ _ (all_true _)
    · simp at h
theorem rd_same (m : Nat) : RD_law_same (r_same (m + 1)) (r_same m) := by
  rintro ds ED QD - ⟨d, rfl, ok, q⟩
  cases d with
  | int i => exact rd_same_int i _ QD q
  | tup o xs =>
    cases o with
    | true => cases ok
    | false =>
      simp only [okS, Bool.and_eq_true, decide_eq_true_eq] at ok
      exact rd_same_seq true xs ok.1 ok.2 _ QD q
  | lst o xs =>
    cases o with
    | ice =>
      simp only [okS, Bool.and_eq_true, decide_eq_true_eq] at ok
      exact rd_same_seq false xs ok.1 ok.2 _ QD q
    | _ => cases ok
  | _ => cases ok
theorem rd_same0 : RD_law_same (r_same 0) r_never := by
  rintro ds ED QD - ⟨d, rfl, ok, q⟩
  cases d with
  | int i => exact rd_same_int i _ QD q
  | tup o xs => cases o <;> simp [okS] at ok
  | lst o xs => cases o <;> simp [okS] at ok
  | _ => simp [okS] at ok
def r_law_same : FSpec := r_same 8
end Cm
/-! Ut: small things for laws on schemes made of schemes. -/
namespace Cm
open PySem PySem.Spec PyProof.Rows L2 FL
set_option maxHeartbeats 0
/-- a scheme handed back -/
def schO (n m k : Int) (ps : List Pr) : D := .tup true [.int n, .int m, .int k, .lst .flat (ps.map prD)]
def natD (x : Nat) : D := .int x
theorem schO_frz (n m k : Int) (ps : List Pr) : (schO n m k ps).frz = schD n m k ps := rfl
theorem okS_row (m : Nat) {xs : List Int} (h : xs.length ≤ 1000000) : okS (m + 1) (rowD xs) = true := by
  show (decide ((xs.map D.int).length ≤ 1000000) && (xs.map D.int).all (okS m)) = true
  rw [List.length_map, decide_eq_true h, Bool.true_and, List.all_map, List.all_eq_true]
  intro x _
  cases m <;> rfl
structure Pr.sml (p : Pr) : Prop where
  l : p.l.length ≤ 1000000
  r : p.r.length ≤ 1000000
  o : p.o.length ≤ 1000000
theorem Pr.sz.sml {p : Pr} {a b c : Nat} (h : p.sz a b c) (ha : a ≤ 1000000) (hb : b ≤ 1000000) (hc : c ≤ 1000000) : p.sml := ⟨by rw [h.l]; exact ha, by rw [h.r]; exact hb, by rw [h.o]; exact hc⟩
theorem okS_pr (m : Nat) {p : Pr} (h : p.sml) : okS (m + 2) (prD p) = true := by
  show (decide ((3 : Nat) ≤ 1000000) && (okS (m + 1) (rowD p.l) && (okS (m + 1) (rowD p.r) && (okS (m + 1) (rowD p.o) && true)))) = true
  rw [okS_row m h.l, okS_row m h.r, okS_row m h.o]; rfl
theorem okS_prs (m : Nat) {ps : List Pr} (hl : ps.length ≤ 1000000) (h : ∀ p ∈ ps, p.sml) : okS (m + 3) (.lst .ice (ps.map prD)) = true := by
  show (decide ((ps.map prD).length ≤ 1000000) && (ps.map prD).all (okS (m + 2))) = true
  rw [List.length_map, decide_eq_true hl, Bool.true_and, List.all_map, List.all_eq_true]
  intro p hp
  exact okS_pr m (h p hp)
theorem okS_int (m : Nat) (i : Int) : okS m (.int i) = true := by cases m <;> rfl
theorem okS_sch (m : Nat) {a b c : Int} {ps : List Pr} (hl : ps.length ≤ 1000000) (h : ∀ p ∈ ps, p.sml) : okS (m + 4) (schD a b c ps) = true := by
  show (decide ((4 : Nat) ≤ 1000000) && (okS (m + 3) (.int a) && (okS (m + 3) (.int b) && (okS (m + 3) (.int c) && (okS (m + 3) (.lst .ice (ps.map prD)) && true))))) = true
  rw [okS_prs m hl h]; simp only [okS_int]; rfl
theorem smPs {o : Ow} {ps : List Pr} : Sm (.lst o (ps.map prD)) 3 := .lst (.map fun p _ => .tup (.cons .intt (.cons .intt (.cons .intt .nil))))
theorem smSch {a b c : Int} {ps : List Pr} : Sm (schD a b c ps) 4 := .tup (.cons (.mono .int (by decide : 0 ≤ 3)) (.cons (.mono .int (by decide : 0 ≤ 3)) (.cons (.mono .int (by decide : 0 ≤ 3)) (.cons smPs .nil))))
theorem getD_app0 (xs : List Int) (k : Nat) : (xs ++ [0]).getD k 0 = xs.getD k 0 := by
  rw [List.getD_eq_getElem?_getD, List.getD_eq_getElem?_getD]
  by_cases h : k < xs.length
  · rw [List.getElem?_append_left h]
  · rw [List.getElem?_append_right (by omega), List.getElem?_eq_none (l := xs) (by omega)]
    by_cases h2 : k - xs.length = 0
    · rw [h2]; rfl
    · rw [List.getElem?_eq_none (by simp; omega)]
theorem getD_drop' (xs : List Int) (n k : Nat) : (xs.drop n).getD k 0 = xs.getD (n + k) 0 := by
  rw [List.getD_eq_getElem?_getD, List.getD_eq_getElem?_getD, List.getElem?_drop]
/-- a number of a row, read at a place that is there -/
theorem at_row {xs : List Int} {i : Int} {k : Nat} (e : i = (k : Int)) (h : k < xs.length) : atI (xs.map D.int) i = some (.int (xs.getD k 0)) := by
  subst e
  rw [atI_nums (by omega) (by omega), Int.toNat_natCast]
theorem map_range_succ {α : Type} {xs : List α} {i : Nat} {a : α} (h : xs[i]? = some a) : xs.take (i + 1) = xs.take i ++ [a] := by
  obtain ⟨hi, e⟩ := List.getElem?_eq_some_iff.mp h
  rw [List.take_succ_eq_append_getElem hi, e]
theorem tsum_line (m n k i j : Nat) : tsum (lineTs m n) [(k : Int), i, j] = if i < n ∧ j < m ∧ k = i + j then 1 else 0 := by
  split
  · rename_i h
    obtain ⟨hi, hj, rfl⟩ := h
    have := tsum_distinct (line_nodup m n) (line_in hi hj)
    simpa [Tm.pl] using this
  · rename_i h
    refine tsum_out fun z => ?_
    obtain ⟨t, ht, e⟩ := (mem_pls _ _).mp z
    obtain ⟨i', j', hi, hj, rfl⟩ := line_mem ht
    have := (pl_eq (i' + j') i' j' k i j).mp (by simpa [Tm.pl] using e)
    exact h ⟨by omega, by omega, by omega⟩
theorem line_nat (m n : Nat) : NatPl (lineTs m n) := fun t ht => by
  obtain ⟨i, j, hi, hj, rfl⟩ := line_mem ht
  exact ⟨i + j, i, j, by simp [Tm.pl]⟩
theorem Pr.mg.b4 {p : Pr} {B : Int} (h : p.mg B) (k : B.natAbs < 2 ^ 64 := by decide) : p.bts 10000 := by
  obtain ⟨h1, h2, h3⟩ := h.bts k
  exact ⟨h1.mono (by decide), h2.mono (by decide), h3.mono (by decide)⟩
def box3 (a b c : Nat) : List (List Int) := (List.range c).flatMap fun (k : Nat) => (List.range a).flatMap fun (i : Nat) => (List.range b).map fun (j : Nat) => [(k : Int), i, j]
theorem flatK {α β : Type} (f : α → List β) (c : Nat) (h : ∀ x, (f x).length = c) : ∀ l : List α, (l.flatMap f).length = l.length * c
  | [] => by simp
  | a :: l => by rw [List.flatMap_cons, List.length_append, flatK f c h l, h, List.length_cons, Nat.add_mul, Nat.one_mul, Nat.add_comm]
theorem box3_len (a b c : Nat) : (box3 a b c).length = c * (a * b) := by
  unfold box3
  rw [flatK _ (a * b) (fun k => by rw [flatK _ b (fun i => by rw [List.length_map, List.length_range]), List.length_range]), List.length_range]
theorem sums_box {ps : List Pr} {a b c : Nat} (h : ∀ p ∈ ps, p.sz a b c) (hz : c * (a * b) ≤ 1000000) : ∃ L : List (List Int), (∀ t ∈ byTs ps, t.pl ∈ L) ∧ L.length ≤ 1000000 := ⟨box3 a b c, fun t ht => by
  obtain ⟨p, hp, i, j, k, h1, h2, h3, rfl⟩ := by_mem ht
  obtain ⟨s1, s2, s3⟩ := h p hp
  exact List.mem_flatMap.mpr ⟨k, List.mem_range.mpr (by omega), List.mem_flatMap.mpr ⟨i, List.mem_range.mpr (by omega), List.mem_map.mpr ⟨j, List.mem_range.mpr (by omega), rfl⟩⟩⟩, by rw [box3_len]; exact hz⟩
end Cm
namespace K52
open PySem PySem.Spec PyProof.Rows L2 FL Cm
set_option maxHeartbeats 0
def r_law : FSpec := fun ds _ Q => ∃ ns : List Int, ds = [.ro false (ns.map D.int)] ∧ ∀ os, Q (.bl true) os
theorem rd_law : RD_law r_law r_law_wide r_scheme_text r_law_box r_law_text := by
  rintro ds ED QD - ⟨ns, rfl, q⟩
  refine ⟨⟨by decide, ?_, ?_⟩, ⟨forR_on [] [1, 2, 3, 4] (fun _ s => s = []) _ _ rfl ?_ ?_⟩⟩
  · (try dsimp only); (repeat' split) <;> omega
  · (try dsimp only); (repeat' split) <;> omega
  · rintro i x s j hx hj rfl
    obtain ⟨e1, e2, e3, e4, rfl⟩ := len4 hj
    obtain ⟨rfl, _⟩ := rgD_at hx
    refine ⟨ns, _, rfl, by omega, fun x _ => ⟨x, rfl, fun a b c ps x _ hs hp hl => ?_⟩⟩
    have dps : datL (ps.map prD) = true := datL_map fun p _ => pr_dat p
    have hs' : a ≤ 1000 ∧ b ≤ 1000 ∧ c ≤ 1000 := by omega
    refine ⟨by show (3 + 1 : Nat) ≤ sizeLine; decide, a, b, c, ps, rfl, hs', hp, by omega, fun _ => ?_⟩
    refine ⟨fun h => (nomatch h), fun _ => ⟨a, b, c, ps, rfl, hs', hp, by omega, fun _ => ?_⟩⟩
    refine ⟨fun h => (by rw [decide_eq_true rfl] at h; cases h), fun _ => ?_⟩
    exact ⟨smSch.dat, smSch.dat, smSch.min, fun h => (ne_no h smSch.dat rfl).elim, fun _ => ⟨rfl, rfl⟩⟩
  · rintro s j hj rfl
    obtain ⟨e1, e2, e3, e4, rfl⟩ := len4 hj
    exact q _
end K52
namespace K52
open PySem PySem.Spec PyProof.Rows L2 FL Cm
set_option maxHeartbeats 0
section
variable {P : Program} {w : World} {K : PySem.W.Frag} {mg : Str → Option Value} {base : Heap} {A : Ad}
theorem A_law_mixed (t : Tb K mg A) : FnOk P w K mg base (L2.CX P w) 1 A.f_law_mixed A.fd_law_mixed ["_law_number_here", "_law_k"] (FnD K 2 [] r_law_mixed) := ok_law_mixed (k := 0) t.D_law_mixed rd_law_mixed
theorem A_law_take (t : Tb K mg A) : FnOk P w K mg base (L2.CX P w) 2 A.f_law_take A.fd_law_take ["_law_box_here", "_law_many"] (FnD K 2 [0] r_law_take) := ok_law_take (k := 1) t.D_law_take t.D_law_mixed ((A_law_mixed t).mono (by decide)) rd_law_take
theorem A_law_number (t : Tb K mg A) : FnOk P w K mg base (L2.CX P w) 3 A.f_law_number A.fd_law_number ["_law_box_here"] (FnD K 1 [0] r_law_number) := ok_law_number (k := 2) t.D_law_number t.D_law_take ((A_law_take t).mono (by decide)) rd_law_number
theorem A_law_part (t : Tb K mg A) : FnOk P w K mg base (L2.CX P w) 4 A.f_law_part A.fd_law_part ["_law_box_here", "_law_length"] (FnD K 2 [0] r_law_part) := ok_law_part (k := 3) t.D_law_part t.D_law_number ((A_law_number t).mono (by decide)) t.z_range t.z_tuple rd_law_part
theorem A_law_scheme (t : Tb K mg A) : FnOk P w K mg base (L2.CX P w) 5 A.f_law_scheme A.fd_law_scheme ["_law_box_here", "_law_lengths_here", "_law_count"] (FnD K 3 [0] r_law_scheme) := ok_law_scheme (k := 4) t.D_law_scheme t.D_law_take t.D_law_part ((A_law_take t).mono (by decide)) ((A_law_part t).mono (by decide)) t.z_len t.z_range t.z_tuple rd_law_scheme
theorem A_law_lengths (t : Tb K mg A) : FnOk P w K mg base (L2.CX P w) 3 A.f_law_lengths A.fd_law_lengths ["_law_box_here", "_law_most"] (FnD K 2 [0] r_law_lengths) := ok_law_lengths (k := 2) t.D_law_lengths t.D_law_take ((A_law_take t).mono (by decide)) t.z_range rd_law_lengths
theorem A_law_wide (t : Tb K mg A) : FnOk P w K mg base (L2.CX P w) 6 A.f_law_wide A.fd_law_wide ["_law_box_here"] (FnD K 1 [0] r_law_wide) := ok_law_wide (k := 5) t.D_law_wide t.D_law_scheme t.D_law_take t.D_law_lengths ((A_law_scheme t).mono (by decide)) ((A_law_take t).mono (by decide)) ((A_law_lengths t).mono (by decide)) t.z_min rd_law_wide
theorem A_sum_text (t : Tb K mg A) : FnOk P w K mg base (L2.CX P w) 1 A.f_sum_text A.fd_sum_text ["part"] (FnD K 1 [] r_sum_text) := ok_sum_text (k := 0) t.D_sum_text t.z_enumerate t.z_len t.z_str t.g_NOUGHTS rd_sum_text
theorem A_product_text (t : Tb K mg A) : FnOk P w K mg base (L2.CX P w) 2 A.f_product_text A.fd_product_text ["product"] (FnD K 1 [] r_product_text) := ok_product_text (k := 1) t.D_product_text t.D_sum_text ((A_sum_text t).mono (by decide)) rd_product_text
theorem A_scheme_text (t : Tb K mg A) : FnOk P w K mg base (L2.CX P w) 3 A.f_scheme_text A.fd_scheme_text ["scheme"] (FnD K 1 [] r_scheme_text) := ok_scheme_text (k := 2) t.D_scheme_text t.D_product_text ((A_product_text t).mono (by decide)) t.z_str rd_scheme_text
theorem A_law_cell_at (t : Tb K mg A) : FnOk P w K mg base (L2.CX P w) 1 A.f_law_cell_at A.fd_law_cell_at ["_law_script", "_law_k"] (FnD K 2 [] r_law_cell_at) := ok_law_cell_at (k := 0) t.D_law_cell_at t.z_len rd_law_cell_at
theorem A_law_box (t : Tb K mg A) : FnOk P w K mg base (L2.CX P w) 2 A.f_law_box A.fd_law_box ["_law_script", "_law_k"] (FnD K 2 [] r_law_box) := ok_law_box (k := 1) t.D_law_box t.D_law_cell_at t.D_law_mixed ((A_law_cell_at t).mono (by decide)) ((A_law_mixed t).mono (by decide)) t.z_abs t.z_int rd_law_box
theorem A_law_sum (t : Tb K mg A) : FnOk P w K mg base (L2.CX P w) 1 A.f_law_sum A.fd_law_sum ["_law_part_here"] (FnD K 1 [] r_law_sum) := ok_law_sum (k := 0) t.D_law_sum t.z_enumerate t.z_str rd_law_sum
theorem A_law_text (t : Tb K mg A) : FnOk P w K mg base (L2.CX P w) 2 A.f_law_text A.fd_law_text ["_law_scheme_here"] (FnD K 1 [] r_law_text) := ok_law_text (k := 1) t.D_law_text t.D_law_sum ((A_law_sum t).mono (by decide)) t.z_str rd_law_text
theorem A_law (t : Tb K mg A) : FnOk P w K mg base (L2.CX P w) 7 A.f_law A.fd_law ["_law_script"] (FnD K 1 [] r_law) := ok_law (k := 6) t.D_law t.D_law_wide t.D_scheme_text t.D_law_box t.D_law_text ((A_law_wide t).mono (by decide)) ((A_scheme_text t).mono (by decide)) ((A_law_box t).mono (by decide)) ((A_law_text t).mono (by decide)) t.z_isinstance t.z_len t.z_list t.z_max t.z_min t.z_range t.z_str rd_law
theorem all_mk {l : PySem.W.OpenLaw} {h : Heap} {fa : Addr} (X : K.In h) (G : h.Ns mainGlobals mg) (hfa : mg "law" = some (.ref fa))
    {f0 : Addr} {od0 an0 : Option Addr} {sl0 : Array (Option Value)} {oc0 kV0 dc0 pm0 cd0 ct0 : Value}
    (a0 : PySem.W.nsIn K mainGlobals "sum_text" = some (some (.ref f0))) (l0 : K.lookup f0 = some ⟨oc0, od0, .func (PySem.W.fnOf "sum_text" "sum_text" (defArgs s_sum_text) (defBody s_sum_text) (defScope s_sum_text) .none kV0 dc0 pm0 an0 cd0 ct0), sl0⟩) (c0 : PySem.W.codeIn K cd0 "sum_text" = true) (k0 : PySem.W.keepIn K (.ref f0) = true)
    {f1 : Addr} {od1 an1 : Option Addr} {sl1 : Array (Option Value)} {oc1 kV1 dc1 pm1 cd1 ct1 : Value}
    (a1 : PySem.W.nsIn K mainGlobals "product_text" = some (some (.ref f1))) (l1 : K.lookup f1 = some ⟨oc1, od1, .func (PySem.W.fnOf "product_text" "product_text" (defArgs s_product_text) (defBody s_product_text) (defScope s_product_text) .none kV1 dc1 pm1 an1 cd1 ct1), sl1⟩) (c1 : PySem.W.codeIn K cd1 "product_text" = true) (k1 : PySem.W.keepIn K (.ref f1) = true)
    {f2 : Addr} {od2 an2 : Option Addr} {sl2 : Array (Option Value)} {oc2 kV2 dc2 pm2 cd2 ct2 : Value}
    (a2 : PySem.W.nsIn K mainGlobals "scheme_text" = some (some (.ref f2))) (l2 : K.lookup f2 = some ⟨oc2, od2, .func (PySem.W.fnOf "scheme_text" "scheme_text" (defArgs s_scheme_text) (defBody s_scheme_text) (defScope s_scheme_text) .none kV2 dc2 pm2 an2 cd2 ct2), sl2⟩) (c2 : PySem.W.codeIn K cd2 "scheme_text" = true) (k2 : PySem.W.keepIn K (.ref f2) = true)
    {f3 : Addr} {od3 an3 : Option Addr} {sl3 : Array (Option Value)} {oc3 kV3 dc3 pm3 cd3 ct3 : Value}
    (a3 : PySem.W.nsIn K mainGlobals "_law_cell_at" = some (some (.ref f3))) (l3 : K.lookup f3 = some ⟨oc3, od3, .func (PySem.W.fnOf "_law_cell_at" "_law_cell_at" (defArgs s_law_cell_at) (defBody s_law_cell_at) (defScope s_law_cell_at) .none kV3 dc3 pm3 an3 cd3 ct3), sl3⟩) (c3 : PySem.W.codeIn K cd3 "_law_cell_at" = true) (k3 : PySem.W.keepIn K (.ref f3) = true)
    {f4 : Addr} {od4 an4 : Option Addr} {sl4 : Array (Option Value)} {oc4 kV4 dc4 pm4 cd4 ct4 : Value}
    (a4 : PySem.W.nsIn K mainGlobals "_law_mixed" = some (some (.ref f4))) (l4 : K.lookup f4 = some ⟨oc4, od4, .func (PySem.W.fnOf "_law_mixed" "_law_mixed" (defArgs s_law_mixed) (defBody s_law_mixed) (defScope s_law_mixed) .none kV4 dc4 pm4 an4 cd4 ct4), sl4⟩) (c4 : PySem.W.codeIn K cd4 "_law_mixed" = true) (k4 : PySem.W.keepIn K (.ref f4) = true)
    {f5 : Addr} {od5 an5 : Option Addr} {sl5 : Array (Option Value)} {oc5 kV5 dc5 pm5 cd5 ct5 : Value}
    (a5 : PySem.W.nsIn K mainGlobals "_law_box" = some (some (.ref f5))) (l5 : K.lookup f5 = some ⟨oc5, od5, .func (PySem.W.fnOf "_law_box" "_law_box" (defArgs s_law_box) (defBody s_law_box) (defScope s_law_box) .none kV5 dc5 pm5 an5 cd5 ct5), sl5⟩) (c5 : PySem.W.codeIn K cd5 "_law_box" = true) (k5 : PySem.W.keepIn K (.ref f5) = true)
    {f6 : Addr} {od6 an6 : Option Addr} {sl6 : Array (Option Value)} {oc6 kV6 dc6 pm6 cd6 ct6 : Value}
    (a6 : PySem.W.nsIn K mainGlobals "_law_take" = some (some (.ref f6))) (l6 : K.lookup f6 = some ⟨oc6, od6, .func (PySem.W.fnOf "_law_take" "_law_take" (defArgs s_law_take) (defBody s_law_take) (defScope s_law_take) .none kV6 dc6 pm6 an6 cd6 ct6), sl6⟩) (c6 : PySem.W.codeIn K cd6 "_law_take" = true) (k6 : PySem.W.keepIn K (.ref f6) = true)
    {f7 : Addr} {od7 an7 : Option Addr} {sl7 : Array (Option Value)} {oc7 kV7 dc7 pm7 cd7 ct7 : Value}
    (a7 : PySem.W.nsIn K mainGlobals "_law_number" = some (some (.ref f7))) (l7 : K.lookup f7 = some ⟨oc7, od7, .func (PySem.W.fnOf "_law_number" "_law_number" (defArgs s_law_number) (defBody s_law_number) (defScope s_law_number) .none kV7 dc7 pm7 an7 cd7 ct7), sl7⟩) (c7 : PySem.W.codeIn K cd7 "_law_number" = true) (k7 : PySem.W.keepIn K (.ref f7) = true)
    {f8 : Addr} {od8 an8 : Option Addr} {sl8 : Array (Option Value)} {oc8 kV8 dc8 pm8 cd8 ct8 : Value}
    (a8 : PySem.W.nsIn K mainGlobals "_law_part" = some (some (.ref f8))) (l8 : K.lookup f8 = some ⟨oc8, od8, .func (PySem.W.fnOf "_law_part" "_law_part" (defArgs s_law_part) (defBody s_law_part) (defScope s_law_part) .none kV8 dc8 pm8 an8 cd8 ct8), sl8⟩) (c8 : PySem.W.codeIn K cd8 "_law_part" = true) (k8 : PySem.W.keepIn K (.ref f8) = true)
    {f9 : Addr} {od9 an9 : Option Addr} {sl9 : Array (Option Value)} {oc9 kV9 dc9 pm9 cd9 ct9 : Value}
    (a9 : PySem.W.nsIn K mainGlobals "_law_scheme" = some (some (.ref f9))) (l9 : K.lookup f9 = some ⟨oc9, od9, .func (PySem.W.fnOf "_law_scheme" "_law_scheme" (defArgs s_law_scheme) (defBody s_law_scheme) (defScope s_law_scheme) .none kV9 dc9 pm9 an9 cd9 ct9), sl9⟩) (c9 : PySem.W.codeIn K cd9 "_law_scheme" = true) (k9 : PySem.W.keepIn K (.ref f9) = true)
    {f10 : Addr} {od10 an10 : Option Addr} {sl10 : Array (Option Value)} {oc10 kV10 dc10 pm10 cd10 ct10 : Value}
    (a10 : PySem.W.nsIn K mainGlobals "_law_lengths" = some (some (.ref f10))) (l10 : K.lookup f10 = some ⟨oc10, od10, .func (PySem.W.fnOf "_law_lengths" "_law_lengths" (defArgs s_law_lengths) (defBody s_law_lengths) (defScope s_law_lengths) .none kV10 dc10 pm10 an10 cd10 ct10), sl10⟩) (c10 : PySem.W.codeIn K cd10 "_law_lengths" = true) (k10 : PySem.W.keepIn K (.ref f10) = true)
    {f11 : Addr} {od11 an11 : Option Addr} {sl11 : Array (Option Value)} {oc11 kV11 dc11 pm11 cd11 ct11 : Value}
    (a11 : PySem.W.nsIn K mainGlobals "_law_wide" = some (some (.ref f11))) (l11 : K.lookup f11 = some ⟨oc11, od11, .func (PySem.W.fnOf "_law_wide" "_law_wide" (defArgs s_law_wide) (defBody s_law_wide) (defScope s_law_wide) .none kV11 dc11 pm11 an11 cd11 ct11), sl11⟩) (c11 : PySem.W.codeIn K cd11 "_law_wide" = true) (k11 : PySem.W.keepIn K (.ref f11) = true)
    {f12 : Addr} {od12 an12 : Option Addr} {sl12 : Array (Option Value)} {oc12 kV12 dc12 pm12 cd12 ct12 : Value}
    (a12 : PySem.W.nsIn K mainGlobals "_law_sum" = some (some (.ref f12))) (l12 : K.lookup f12 = some ⟨oc12, od12, .func (PySem.W.fnOf "_law_sum" "_law_sum" (defArgs s_law_sum) (defBody s_law_sum) (defScope s_law_sum) .none kV12 dc12 pm12 an12 cd12 ct12), sl12⟩) (c12 : PySem.W.codeIn K cd12 "_law_sum" = true) (k12 : PySem.W.keepIn K (.ref f12) = true)
    {f13 : Addr} {od13 an13 : Option Addr} {sl13 : Array (Option Value)} {oc13 kV13 dc13 pm13 cd13 ct13 : Value}
    (a13 : PySem.W.nsIn K mainGlobals "_law_text" = some (some (.ref f13))) (l13 : K.lookup f13 = some ⟨oc13, od13, .func (PySem.W.fnOf "_law_text" "_law_text" (defArgs s_law_text) (defBody s_law_text) (defScope s_law_text) .none kV13 dc13 pm13 an13 cd13 ct13), sl13⟩) (c13 : PySem.W.codeIn K cd13 "_law_text" = true) (k13 : PySem.W.keepIn K (.ref f13) = true)
    {f14 : Addr} {od14 an14 : Option Addr} {sl14 : Array (Option Value)} {oc14 kV14 dc14 pm14 cd14 ct14 : Value}
    (a14 : PySem.W.nsIn K mainGlobals "law" = some (some (.ref f14))) (l14 : K.lookup f14 = some ⟨oc14, od14, .func (PySem.W.fnOf "law" "law" (defArgs s_law) (defBody s_law) (defScope s_law) .none kV14 dc14 pm14 an14 cd14 ct14), sl14⟩) (c14 : PySem.W.codeIn K cd14 "law" = true) (k14 : PySem.W.keepIn K (.ref f14) = true)
    (z_abs : PySem.W.nsIn K mainGlobals "abs" = some none)
    (z_enumerate : PySem.W.nsIn K mainGlobals "enumerate" = some none)
    (z_int : PySem.W.nsIn K mainGlobals "int" = some none)
    (z_isinstance : PySem.W.nsIn K mainGlobals "isinstance" = some none)
    (z_len : PySem.W.nsIn K mainGlobals "len" = some none)
    (z_list : PySem.W.nsIn K mainGlobals "list" = some none)
    (z_max : PySem.W.nsIn K mainGlobals "max" = some none)
    (z_min : PySem.W.nsIn K mainGlobals "min" = some none)
    (z_range : PySem.W.nsIn K mainGlobals "range" = some none)
    (z_str : PySem.W.nsIn K mainGlobals "str" = some none)
    (z_tuple : PySem.W.nsIn K mainGlobals "tuple" = some none)
    {t_NOUGHTS : Value} (g_NOUGHTS : PySem.W.nsIn K mainGlobals "NOUGHTS" = some (some t_NOUGHTS)) (v_NOUGHTS : KV K (.str "-") t_NOUGHTS)
    : ∃ fd : FuncData, (∀ (s : Shared) (v : Value), BindsTo s fd ⟨[v], []⟩ [("_law_script", v)]) ∧ ∀ base : Heap, K.In base → base.Ns mainGlobals mg → FnOk l.prog w K mg base (L2.CX l.prog w) 7 fa fd ["_law_script"] (FnD K 1 [] r_law) := by
  have e := hfa.symm.trans (PySem.W.mg_of X G a14)
  cases e
  have F0 := fun_mk (st := s_sum_text) l0 c0 k0
  have B0 := F0.binds (ps := ["part"]) fun _ _ _ _ _ _ us hl => match us, hl with | [_], _ => rfl
  have F1 := fun_mk (st := s_product_text) l1 c1 k1
  have B1 := F1.binds (ps := ["product"]) fun _ _ _ _ _ _ us hl => match us, hl with | [_], _ => rfl
  have F2 := fun_mk (st := s_scheme_text) l2 c2 k2
  have B2 := F2.binds (ps := ["scheme"]) fun _ _ _ _ _ _ us hl => match us, hl with | [_], _ => rfl
  have F3 := fun_mk (st := s_law_cell_at) l3 c3 k3
  have B3 := F3.binds (ps := ["_law_script", "_law_k"]) fun _ _ _ _ _ _ us hl => match us, hl with | [_, _], _ => rfl
  have F4 := fun_mk (st := s_law_mixed) l4 c4 k4
  have B4 := F4.binds (ps := ["_law_number_here", "_law_k"]) fun _ _ _ _ _ _ us hl => match us, hl with | [_, _], _ => rfl
  have F5 := fun_mk (st := s_law_box) l5 c5 k5
  have B5 := F5.binds (ps := ["_law_script", "_law_k"]) fun _ _ _ _ _ _ us hl => match us, hl with | [_, _], _ => rfl
  have F6 := fun_mk (st := s_law_take) l6 c6 k6
  have B6 := F6.binds (ps := ["_law_box_here", "_law_many"]) fun _ _ _ _ _ _ us hl => match us, hl with | [_, _], _ => rfl
  have F7 := fun_mk (st := s_law_number) l7 c7 k7
  have B7 := F7.binds (ps := ["_law_box_here"]) fun _ _ _ _ _ _ us hl => match us, hl with | [_], _ => rfl
  have F8 := fun_mk (st := s_law_part) l8 c8 k8
  have B8 := F8.binds (ps := ["_law_box_here", "_law_length"]) fun _ _ _ _ _ _ us hl => match us, hl with | [_, _], _ => rfl
  have F9 := fun_mk (st := s_law_scheme) l9 c9 k9
  have B9 := F9.binds (ps := ["_law_box_here", "_law_lengths_here", "_law_count"]) fun _ _ _ _ _ _ us hl => match us, hl with | [_, _, _], _ => rfl
  have F10 := fun_mk (st := s_law_lengths) l10 c10 k10
  have B10 := F10.binds (ps := ["_law_box_here", "_law_most"]) fun _ _ _ _ _ _ us hl => match us, hl with | [_, _], _ => rfl
  have F11 := fun_mk (st := s_law_wide) l11 c11 k11
  have B11 := F11.binds (ps := ["_law_box_here"]) fun _ _ _ _ _ _ us hl => match us, hl with | [_], _ => rfl
  have F12 := fun_mk (st := s_law_sum) l12 c12 k12
  have B12 := F12.binds (ps := ["_law_part_here"]) fun _ _ _ _ _ _ us hl => match us, hl with | [_], _ => rfl
  have F13 := fun_mk (st := s_law_text) l13 c13 k13
  have B13 := F13.binds (ps := ["_law_scheme_here"]) fun _ _ _ _ _ _ us hl => match us, hl with | [_], _ => rfl
  have F14 := fun_mk (st := s_law) l14 c14 k14
  have B14 := F14.binds (ps := ["_law_script"]) fun _ _ _ _ _ _ us hl => match us, hl with | [_], _ => rfl
  exact ⟨_, fun s v => .of_eq rfl, fun base _ _ => A_law (A := ⟨_, _, _, _, _, _, _, _, _, _, _, _, _, _, _, _, _, _, _, _, _, _, _, _, _, _, _, _, _, _, t_NOUGHTS⟩) ⟨⟨F0, PySem.W.mg_of X G a0, B0⟩, ⟨F1, PySem.W.mg_of X G a1, B1⟩, ⟨F2, PySem.W.mg_of X G a2, B2⟩, ⟨F3, PySem.W.mg_of X G a3, B3⟩, ⟨F4, PySem.W.mg_of X G a4, B4⟩, ⟨F5, PySem.W.mg_of X G a5, B5⟩, ⟨F6, PySem.W.mg_of X G a6, B6⟩, ⟨F7, PySem.W.mg_of X G a7, B7⟩, ⟨F8, PySem.W.mg_of X G a8, B8⟩, ⟨F9, PySem.W.mg_of X G a9, B9⟩, ⟨F10, PySem.W.mg_of X G a10, B10⟩, ⟨F11, PySem.W.mg_of X G a11, B11⟩, ⟨F12, PySem.W.mg_of X G a12, B12⟩, ⟨F13, PySem.W.mg_of X G a13, B13⟩, ⟨F14, PySem.W.mg_of X G a14, B14⟩, PySem.W.mg_none_of X G z_abs, PySem.W.mg_none_of X G z_enumerate, PySem.W.mg_none_of X G z_int, PySem.W.mg_none_of X G z_isinstance, PySem.W.mg_none_of X G z_len, PySem.W.mg_none_of X G z_list, PySem.W.mg_none_of X G z_max, PySem.W.mg_none_of X G z_min, PySem.W.mg_none_of X G z_range, PySem.W.mg_none_of X G z_str, PySem.W.mg_none_of X G z_tuple, ⟨PySem.W.mg_of X G g_NOUGHTS, v_NOUGHTS⟩⟩⟩
end
end K52
open PySem PySem.W PyProof.Rows
set_option maxHeartbeats 0 in
theorem PySem.Challenge.cw_fewtimes_k52_schemes_written_holds : PySem.Challenge.rw_fewtimes_k52_schemes_written.Holds := by
  w_on; o_law; k_head; (case hw => w_witness2)
  k_fill
  refine L2.walk_of (l := PySem.Challenge.rw_fewtimes_k52_schemes_written) (n := 63) (k := 7) (x := "_law_script") (CX := fun w => L2.CX PySem.Challenge.rw_fewtimes_k52_schemes_written.prog w) (sp := fun w => FL.FnD _ 1 [] K52.r_law) rfl (by decide) rfl ⟨rfl, by decide, by decide⟩ (fun w h Y => PySem.W.kIn_of Y) ?F (fun _ _ a ns hl _ hS => FL.law_end hl hS ⟨ns, rfl, fun _ => rfl⟩) (fun _ _ _ _ _ h => FL.cx_none h)
  case F =>
    intro w mg fa h KX G hmg
    refine' K52.all_mk KX G hmg ?a0 ?l0 ?c0 ?k0 ?a1 ?l1 ?c1 ?k1 ?a2 ?l2 ?c2 ?k2 ?a3 ?l3 ?c3 ?k3 ?a4 ?l4 ?c4 ?k4 ?a5 ?l5 ?c5 ?k5 ?a6 ?l6 ?c6 ?k6 ?a7 ?l7 ?c7 ?k7 ?a8 ?l8 ?c8 ?k8 ?a9 ?l9 ?c9 ?k9 ?a10 ?l10 ?c10 ?k10 ?a11 ?l11 ?c11 ?k11 ?a12 ?l12 ?c12 ?k12 ?a13 ?l13 ?c13 ?k13 ?a14 ?l14 ?c14 ?k14 ?z_abs ?z_enumerate ?z_int ?z_isinstance ?z_len ?z_list ?z_max ?z_min ?z_range ?z_str ?z_tuple ?g_NOUGHTS ?v_NOUGHTS
    (case a0 => k_is); (case l0 => k_is); (case c0 => k_is); (case k0 => k_is); (case a1 => k_is); (case l1 => k_is); (case c1 => k_is); (case k1 => k_is); (case a2 => k_is); (case l2 => k_is); (case c2 => k_is); (case k2 => k_is); (case a3 => k_is); (case l3 => k_is); (case c3 => k_is); (case k3 => k_is); (case a4 => k_is); (case l4 => k_is); (case c4 => k_is); (case k4 => k_is); (case a5 => k_is); (case l5 => k_is); (case c5 => k_is); (case k5 => k_is); (case a6 => k_is); (case l6 => k_is); (case c6 => k_is); (case k6 => k_is); (case a7 => k_is); (case l7 => k_is); (case c7 => k_is); (case k7 => k_is); (case a8 => k_is); (case l8 => k_is); (case c8 => k_is); (case k8 => k_is); (case a9 => k_is); (case l9 => k_is); (case c9 => k_is); (case k9 => k_is); (case a10 => k_is); (case l10 => k_is); (case c10 => k_is); (case k10 => k_is); (case a11 => k_is); (case l11 => k_is); (case c11 => k_is); (case k11 => k_is); (case a12 => k_is); (case l12 => k_is); (case c12 => k_is); (case k12 => k_is); (case a13 => k_is); (case l13 => k_is); (case c13 => k_is); (case k13 => k_is); (case a14 => k_is); (case l14 => k_is); (case c14 => k_is); (case k14 => k_is); (case z_abs => k_is); (case z_enumerate => k_is); (case z_int => k_is); (case z_isinstance => k_is); (case z_len => k_is); (case z_list => k_is); (case z_max => k_is); (case z_min => k_is); (case z_range => k_is); (case z_str => k_is); (case z_tuple => k_is); (case g_NOUGHTS => k_is); (case v_NOUGHTS => (exact FL.KV.str'))
