import PyProof.Rows.All
import Wide.All
import OpenK.AllK
import Wide.FinOn
import HandS.ForMost
import HandS.ForExc
import HandS.Wide
import HandS.IsInst
import KE.DataEq
import HandS.TupAny
import HandS.TupMul
import HandS.NoneIn
import HandS.Ends
import HandS.EndBits
import HandS.Zip
import HandS.Rev
import HandS.SortInts
import KE.GoesEnum
import KE.GoesMore
import KE.GoesZip
import HandS.Dict
import KE.SortData
import HandS.Conv
import HandS.More
import HandS.Style
import HandS.RevTup
import KE.KDictPairs
import HandS.DictEq
import PyProof.DictMoreH
import HandS.SetKeys
import HandS.DictComp
import HandS.TupSets
import HandS.Flow
import HandS.Flt
import KE.DataMinMax
import KE.KDictCopyH
import HandS.DictTup
import HandS.ExcIs
import HandS.ExcOwn
import PyProof.ExcBaseAll.ValueError
import HandS.Text
import HandS.WordsDict
import KE.KDictWalk
import HandS.SetFor
import KE.KDictDisplayH
import HandS.TupLen
import HandS.ListItems
import HandS.ExcInit
import HandS.ExcField
import KE.KExcIs
import HandS.Iter
import PyProof.Rows.CountFlat
import HandS.Codes
import PySem.Challenge.RW_fewtimes_k54_texts_of_no_scheme
set_option Elab.async false
set_option linter.all false
set_option maxRecDepth 100000
set_option autoImplicit false
namespace FL
open PySem PySem.Spec PyProof.Rows L2
/-- an owned node's kind: frozen; owned, its parts frozen; owned, with owned parts -/
inductive Ow where
  | ice | flat | deep
  deriving Inhabited, DecidableEq
def Ow.mine : Ow → Bool
  | .ice => false
  | _ => true
def Ow.light : Ow → Bool
  | .deep => false
  | _ => true
/-- flat, or deep where a part is owned -/
def Ow.of : Bool → Ow
  | true => .deep
  | false => .flat
/-- one more part -/
def Ow.more : Ow → Bool → Ow
  | o, false => o
  | _, true => .deep
/-- data: lists, dicts, instances frozen or owned, tuples (true: with owned parts), what is only read -/
inductive D where
  | any | non | bl (b : Bool) | int (i : Int) | str (s : Str) | obj (a : Addr) | ty (n : String)
  | tup (o : Bool) (xs : List D)
  | lst (o : Ow) (xs : List D)
  | ro (t : Bool) (xs : List D)
  | dct (o : Ow) (t : Bool) (ks vs : List D)
  | ins (o : Ow) (C : Addr) (fs : List Str) (vs : List D)
  deriving Inhabited
abbrev Loc := List Nat
abbrev Tag := Addr → Option Loc
/-- a world: the tags (who owns an address), the shared heap, the whole heap -/
structure Wd where
  G : Tag
  S : Hp
  H : Hp
def skey : D → Key
  | .int i => .inl i
  | .str s => .inr s
  | _ => .inl 0
def isSKey : D → Bool
  | .int _ => true
  | .str _ => true
  | _ => false
def tkey : D → List Key
  | .tup _ ds => ds.map skey
  | _ => []
def isTKey : D → Bool
  | .tup _ ds => ds.all isSKey
  | _ => false
def keyOk (t : Bool) (k : D) : Bool := if t then isTKey k else isSKey k
/-- keys of one kind, no two alike -/
def keysOk (t : Bool) (ks : List D) : Bool := ks.all (keyOk t) && (if t then decide (ks.map tkey).Nodup else decide (ks.map skey).Nodup)
def dHO (t : Bool) (ks : List D) (vs : List V) : HO :=
  if t then .dT ((ks.map tkey).zip vs) else .dK ((ks.map skey).zip vs)
/-- it is owned, or holds what is -/
def D.own : D → Bool
  | .tup o _ => o
  | .lst o _ => o.mine
  | .dct o _ _ _ => o.mine
  | .ins o _ _ _ => o.mine
  | _ => false
def ownL : List D → Bool
  | [] => false
  | d :: ds => d.own || ownL ds
/-- a node of this kind with these parts -/
def Lt (o : Ow) (ds : List D) : Prop := o.light = true → ownL ds = false
mutual
def Rep (K : PySem.W.Frag) (w : Wd) : D → Loc → V → Prop
  | .any, _, _ => True
  | .non, _, v => v = .non
  | .bl b, _, v => v = .bl b
  | .int i, _, v => v = .int i
  | .str s, _, v => v = .str s
  | .obj a, _, v => v = .ref a
  | .ty n, _, v => v = .ty n
  | .tup o ds, ℓ, v => ∃ a vs, v = .ref a ∧ w.S a = some (.tup vs) ∧ (ds.length ≤ sizeLine ∧ (o = false → ownL ds = false)) ∧ RepL K w ds ℓ 0 vs
  | .lst o ds, ℓ, v => ∃ a vs, v = .ref a ∧ (if o.mine then w.G a = some ℓ ∧ w.H a = some (.lst vs) else w.S a = some (.lst vs)) ∧ (ds.length ≤ sizeLine ∧ Lt o ds) ∧ RepL K w ds ℓ 0 vs
  | .ro t ds, ℓ, v => ∃ a vs, v = .ref a ∧ (if t then SqT K w.S a vs else SqL K w.S a vs) ∧ (ds.length ≤ sizeLine ∧ ownL ds = false) ∧ RepL K w ds ℓ 0 vs
  | .dct o t ks ds, ℓ, v => ∃ a vs, v = .ref a ∧ (if o.mine then w.G a = some ℓ ∧ w.H a = some (dHO t ks vs) else Rd w.S a (dHO t ks vs)) ∧ (ks.length = vs.length ∧ keysOk t ks = true ∧ Lt o ds) ∧ RepL K w ds ℓ 0 vs
  | .ins o C fs ds, ℓ, v => ∃ a vs, v = .ref a ∧ (∃ dx, if o.mine then w.G a = some ℓ ∧ w.H a = some (.ins C dx (fs.zip vs)) else w.S a = some (.ins C dx (fs.zip vs))) ∧ (fs.length = vs.length ∧ Lt o ds) ∧ RepL K w ds ℓ 0 vs
def RepL (K : PySem.W.Frag) (w : Wd) : List D → Loc → Nat → List V → Prop
  | [], _, _, vs => vs = []
  | d :: ds, ℓ, j, vs => ∃ v r, vs = v :: r ∧ Rep K w d (ℓ ++ [j]) v ∧ RepL K w ds ℓ (j + 1) r
end
/-- an inner node of the data d at ℓ: the object at a, of the parts vs -/
def Nd (K : PySem.W.Frag) (w : Wd) : D → Loc → Addr → List V → Prop
  | .tup _ _, _, a, vs => w.S a = some (.tup vs)
  | .lst o _, ℓ, a, vs => if o.mine then w.G a = some ℓ ∧ w.H a = some (.lst vs) else w.S a = some (.lst vs)
  | .ro t _, _, a, vs => if t then SqT K w.S a vs else SqL K w.S a vs
  | .dct o t ks _, ℓ, a, vs => if o.mine then w.G a = some ℓ ∧ w.H a = some (dHO t ks vs) else Rd w.S a (dHO t ks vs)
  | .ins o C fs _, ℓ, a, vs => ∃ dx, if o.mine then w.G a = some ℓ ∧ w.H a = some (.ins C dx (fs.zip vs)) else w.S a = some (.ins C dx (fs.zip vs))
  | _, _, _, _ => False
/-- what is asked of an inner node's parts (n of them in the object) -/
def Sz : D → List D → Nat → Prop
  | .tup o _, ds, _ => ds.length ≤ sizeLine ∧ (o = false → ownL ds = false)
  | .lst o _, ds, _ => ds.length ≤ sizeLine ∧ Lt o ds
  | .ro _ _, ds, _ => ds.length ≤ sizeLine ∧ ownL ds = false
  | .dct o t ks _, ds, n => ks.length = n ∧ keysOk t ks = true ∧ Lt o ds
  | .ins o _ fs _, ds, n => fs.length = n ∧ Lt o ds
  | _, _, _ => False
def D.kids : D → List D
  | .tup _ ds => ds
  | .lst _ ds => ds
  | .ro _ ds => ds
  | .dct _ _ _ ds => ds
  | .ins _ _ _ ds => ds
  | _ => []
def D.withKids : D → List D → D
  | .tup o _, es => .tup o es
  | .lst o _, es => .lst o es
  | .ro t _, es => .ro t es
  | .dct o t ks _, es => .dct o t ks es
  | .ins o C fs _, es => .ins o C fs es
  | d, _ => d
def D.inner : D → Bool
  | .tup _ _ => true
  | .lst _ _ => true
  | .ro _ _ => true
  | .dct _ _ _ _ => true
  | .ins _ _ _ _ => true
  | _ => false
mutual
/-- all frozen -/
def D.frz : D → D
  | .tup o ds => match o with
    | false => .tup false ds
    | true => .tup false (frzL ds)
  | .lst o ds => match o with
    | .deep => .lst .ice (frzL ds)
    | _ => .lst .ice ds
  | .ro t ds => .ro t ds
  | .dct o t ks ds => match o with
    | .deep => .dct .ice t ks (frzL ds)
    | _ => .dct .ice t ks ds
  | .ins o C fs ds => match o with
    | .deep => .ins .ice C fs (frzL ds)
    | _ => .ins .ice C fs ds
  | .any => .any
  | .non => .non
  | .bl b => .bl b
  | .int i => .int i
  | .str s => .str s
  | .obj a => .obj a
  | .ty n => .ty n
def frzL : List D → List D
  | [] => []
  | d :: ds => d.frz :: frzL ds
end
theorem ownL_iff {ds : List D} : ownL ds = false ↔ ∀ d ∈ ds, d.own = false := by
  induction ds with
  | nil => simp [ownL]
  | cons d r ih => simp [ownL, ih]
theorem frzL_map {ds : List D} : frzL ds = ds.map D.frz := by
  induction ds with
  | nil => rfl
  | cons d r ih => simp [frzL, ih]
theorem ownL_append {a b : List D} : ownL (a ++ b) = (ownL a || ownL b) := by
  induction a with
  | nil => simp [ownL]
  | cons d r ih => simp [ownL, ih, Bool.or_assoc]
theorem frz_own (d : D) : d.frz.own = false := by
  cases d with
  | tup o ds => cases o <;> rfl
  | lst o ds => cases o <;> rfl
  | dct o t ks ds => cases o <;> rfl
  | ins o C fs ds => cases o <;> rfl
  | _ => rfl
theorem frzL_own : ∀ ds : List D, ownL (frzL ds) = false
  | [] => rfl
  | d :: ds => by simp only [frzL, ownL, frz_own d, frzL_own ds, Bool.or_self]
theorem frz_id (d : D) (h : d.own = false) : d.frz = d := by
  cases d with
  | tup o ds => cases o with
    | true => cases h
    | false => rfl
  | lst o ds => cases o <;> first | rfl | cases h
  | dct o t ks ds => cases o <;> first | rfl | cases h
  | ins o C fs ds => cases o <;> first | rfl | cases h
  | _ => rfl
theorem same_rdT {K : PySem.W.Frag} {H H' : Hp} {a : Addr} {xs : List V} (e : Same H H') (h : SqT K H a xs) : SqT K H' a xs := by
  rcases h with (h | ⟨o, h⟩) | h
  · exact .inl (.inl (e _ _ h))
  · exact .inl (.inr ⟨o, e _ _ h⟩)
  · exact .inr h
theorem ro_same {K : PySem.W.Frag} {H H' : Hp} {a : Addr} {xs : List V} {t : Bool} (e : Same H H') (h : if t then SqT K H a xs else SqL K H a xs) : if t then SqT K H' a xs else SqL K H' a xs := by
  cases t with
  | true => exact same_rdT e h
  | false => exact e.seq h
theorem rd_same {H H' : Hp} {a : Addr} {u : HO} (e : Same H H') (h : Rd H a u) : Rd H' a u := by
  rcases h with h | ⟨o, h⟩
  · exact .inl (e _ _ h)
  · exact .inr ⟨o, e _ _ h⟩
/-- what is kept for a location: its addresses' tags (moved to ℓ') and objects -/
def KeptTo (w w' : Wd) (ℓ ℓ' : Loc) : Prop := ∀ a s, w.G a = some (ℓ ++ s) → w'.G a = some (ℓ' ++ s) ∧ w'.H a = w.H a
theorem KeptTo.sub {w w' : Wd} {ℓ ℓ' : Loc} (k : KeptTo w w' ℓ ℓ') (t : Loc) : KeptTo w w' (ℓ ++ t) (ℓ' ++ t) := fun a s h => by
  rw [List.append_assoc] at h ⊢
  exact k a (t ++ s) h
/-- the addresses of a location are shared from now on -/
def FrzTo (w w' : Wd) (ℓ : Loc) : Prop := ∀ a s o, w.G a = some (ℓ ++ s) → w.H a = some o → w'.S a = some o
theorem FrzTo.sub {w w' : Wd} {ℓ : Loc} (k : FrzTo w w' ℓ) (t : Loc) : FrzTo w w' (ℓ ++ t) := fun a s o h => by
  rw [List.append_assoc] at h
  exact k a (t ++ s) o h
section
variable {K : PySem.W.Frag} {w w' : Wd}
/-- an inner node and its parts -/
theorem rep_inner {d : D} (hd : d.inner = true) {ℓ : Loc} {v : V} : Rep K w d ℓ v ↔ ∃ a vs, v = .ref a ∧ Nd K w d ℓ a vs ∧ Sz d d.kids vs.length ∧ RepL K w d.kids ℓ 0 vs := by
  cases d <;> first
    | (simp [D.inner] at hd; done)
    | (simp only [Rep, Nd, Sz, D.kids])
theorem Nd.later {d : D} {ℓ : Loc} {a : Addr} {vs : List V} {ℓ' : Loc} (h : Nd K w d ℓ a vs) (hs : Same w.S w'.S) (hk : w.G a = some ℓ → w'.G a = some ℓ' ∧ w'.H a = w.H a) : Nd K w' d ℓ' a vs := by
  have own : ∀ (o : Ow) (u : HO), (if o.mine then w.G a = some ℓ ∧ w.H a = some u else w.S a = some u) → if o.mine then w'.G a = some ℓ' ∧ w'.H a = some u else w'.S a = some u := fun o u h => by
    cases e : o.mine with
    | true =>
      rw [e] at h
      obtain ⟨k1, k2⟩ := hk h.1
      exact ⟨k1, k2.trans h.2⟩
    | false =>
      rw [e] at h
      exact hs _ _ h
  cases d with
  | tup o ds => exact hs _ _ h
  | lst o ds => exact own o _ h
  | ro t ds => exact ro_same hs h
  | dct o t ks ds =>
    simp only [Nd] at h ⊢
    cases e : o.mine with
    | true =>
      rw [e] at h
      obtain ⟨k1, k2⟩ := hk h.1
      exact ⟨k1, k2.trans h.2⟩
    | false =>
      rw [e] at h
      exact rd_same hs h
  | ins o C fs ds => obtain ⟨dx, h⟩ := h; exact ⟨dx, own o _ h⟩
  | _ => exact h.elim
/-- not owned: the node does not hang on tags -/
theorem Nd.free {d : D} {ℓ ℓ' : Loc} {a : Addr} {vs : List V} (h : Nd K w d ℓ a vs) (hs : Same w.S w'.S) (ho : d.own = false) : Nd K w' d ℓ' a vs := by
  cases d with
  | tup o ds => exact hs _ _ h
  | lst o ds => have ho : o.mine = false := ho; simp only [Nd, ho] at h ⊢; exact hs _ _ h
  | ro t ds => exact ro_same hs h
  | dct o t ks ds => have ho : o.mine = false := ho; simp only [Nd, ho] at h ⊢; exact rd_same hs h
  | ins o C fs ds => have ho : o.mine = false := ho; simp only [Nd, ho] at h ⊢; obtain ⟨dx, h⟩ := h; exact ⟨dx, hs _ _ h⟩
  | _ => exact h.elim
theorem Sz.lone {d : D} {n : Nat} (h : Sz d d.kids n) (ho : d.own = false) : ownL d.kids = false := by
  cases d with
  | tup o ds => exact h.2 ho
  | lst o ds => have ho : o.mine = false := ho; exact h.2 (by cases o <;> first | rfl | cases ho)
  | ro t ds => exact h.2
  | dct o t ks ds => have ho : o.mine = false := ho; exact h.2.2 (by cases o <;> first | rfl | cases ho)
  | ins o C fs ds => have ho : o.mine = false := ho; exact h.2 (by cases o <;> first | rfl | cases ho)
  | _ => exact h.elim
theorem leaf_rep {d : D} (hd : d.inner = false) {ℓ ℓ' : Loc} {v : V} (h : Rep K w d ℓ v) : Rep K w' d ℓ' v := by
  cases d <;> first
    | (simp [D.inner] at hd; done)
    | (simp only [Rep] at h ⊢; try exact h)
mutual
theorem Rep.to (hs : Same w.S w'.S) : ∀ (d : D) {ℓ ℓ' : Loc} {v : V}, KeptTo w w' ℓ ℓ' → Rep K w d ℓ v → Rep K w' d ℓ' v
  | .any, _, _, _, _, h => leaf_rep rfl h
  | .non, _, _, _, _, h => leaf_rep rfl h
  | .bl _, _, _, _, _, h => leaf_rep rfl h
  | .int _, _, _, _, _, h => leaf_rep rfl h
  | .str _, _, _, _, _, h => leaf_rep rfl h
  | .obj _, _, _, _, _, h => leaf_rep rfl h
  | .ty _, _, _, _, _, h => leaf_rep rfl h
  | .tup o ds, ℓ, ℓ', v, k, h => by
    rw [rep_inner rfl] at h ⊢
    obtain ⟨a, vs, e, h1, hz, h2⟩ := h
    exact ⟨a, vs, e, h1.later hs (fun z => by simpa using k a [] (by simpa using z)), hz, RepL.to hs ds k h2⟩
  | .lst o ds, ℓ, ℓ', v, k, h => by
    rw [rep_inner rfl] at h ⊢
    obtain ⟨a, vs, e, h1, hz, h2⟩ := h
    exact ⟨a, vs, e, h1.later hs (fun z => by simpa using k a [] (by simpa using z)), hz, RepL.to hs ds k h2⟩
  | .ro t ds, ℓ, ℓ', v, k, h => by
    rw [rep_inner rfl] at h ⊢
    obtain ⟨a, vs, e, h1, hz, h2⟩ := h
    exact ⟨a, vs, e, h1.later hs (fun z => by simpa using k a [] (by simpa using z)), hz, RepL.to hs ds k h2⟩
  | .dct o t ks ds, ℓ, ℓ', v, k, h => by
    rw [rep_inner rfl] at h ⊢
    obtain ⟨a, vs, e, h1, hz, h2⟩ := h
    exact ⟨a, vs, e, h1.later hs (fun z => by simpa using k a [] (by simpa using z)), hz, RepL.to hs ds k h2⟩
  | .ins o C fs ds, ℓ, ℓ', v, k, h => by
    rw [rep_inner rfl] at h ⊢
    obtain ⟨a, vs, e, h1, hz, h2⟩ := h
    exact ⟨a, vs, e, h1.later hs (fun z => by simpa using k a [] (by simpa using z)), hz, RepL.to hs ds k h2⟩
theorem RepL.to (hs : Same w.S w'.S) : ∀ (ds : List D) {ℓ ℓ' : Loc} {j : Nat} {vs : List V}, KeptTo w w' ℓ ℓ' → RepL K w ds ℓ j vs → RepL K w' ds ℓ' j vs
  | [], _, _, _, _, _, h => by simpa [RepL] using h
  | d :: ds, ℓ, ℓ', j, vs, k, h => by
    simp only [RepL] at h ⊢
    obtain ⟨v, r, e, h1, h2⟩ := h
    exact ⟨v, r, e, Rep.to hs d (k.sub [j]) h1, RepL.to hs ds k h2⟩
end
mutual
/-- without owned nodes: wherever it stands -/
theorem Rep.free (hs : Same w.S w'.S) : ∀ (d : D) {ℓ ℓ' : Loc} {v : V}, d.own = false → Rep K w d ℓ v → Rep K w' d ℓ' v
  | .any, _, _, _, _, h => leaf_rep rfl h
  | .non, _, _, _, _, h => leaf_rep rfl h
  | .bl _, _, _, _, _, h => leaf_rep rfl h
  | .int _, _, _, _, _, h => leaf_rep rfl h
  | .str _, _, _, _, _, h => leaf_rep rfl h
  | .obj _, _, _, _, _, h => leaf_rep rfl h
  | .ty _, _, _, _, _, h => leaf_rep rfl h
  | .tup o ds, ℓ, ℓ', v, k, h => by
    rw [rep_inner rfl] at h ⊢
    obtain ⟨a, vs, e, h1, hz, h2⟩ := h
    exact ⟨a, vs, e, h1.free hs k, hz, RepL.free hs ds (hz.lone k) h2⟩
  | .lst o ds, ℓ, ℓ', v, k, h => by
    rw [rep_inner rfl] at h ⊢
    obtain ⟨a, vs, e, h1, hz, h2⟩ := h
    exact ⟨a, vs, e, h1.free hs k, hz, RepL.free hs ds (hz.lone k) h2⟩
  | .ro t ds, ℓ, ℓ', v, k, h => by
    rw [rep_inner rfl] at h ⊢
    obtain ⟨a, vs, e, h1, hz, h2⟩ := h
    exact ⟨a, vs, e, h1.free hs k, hz, RepL.free hs ds (hz.lone k) h2⟩
  | .dct o t ks ds, ℓ, ℓ', v, k, h => by
    rw [rep_inner rfl] at h ⊢
    obtain ⟨a, vs, e, h1, hz, h2⟩ := h
    exact ⟨a, vs, e, h1.free hs k, hz, RepL.free hs ds (hz.lone k) h2⟩
  | .ins o C fs ds, ℓ, ℓ', v, k, h => by
    rw [rep_inner rfl] at h ⊢
    obtain ⟨a, vs, e, h1, hz, h2⟩ := h
    exact ⟨a, vs, e, h1.free hs k, hz, RepL.free hs ds (hz.lone k) h2⟩
theorem RepL.free (hs : Same w.S w'.S) : ∀ (ds : List D) {ℓ ℓ' : Loc} {j j' : Nat} {vs : List V}, ownL ds = false → RepL K w ds ℓ j vs → RepL K w' ds ℓ' j' vs
  | [], _, _, _, _, _, _, h => by simpa [RepL] using h
  | d :: ds, ℓ, ℓ', j, j', vs, k, h => by
    simp only [RepL] at h ⊢
    obtain ⟨v, r, e, h1, h2⟩ := h
    simp only [ownL, Bool.or_eq_false_iff] at k
    exact ⟨v, r, e, Rep.free hs d k.1 h1, RepL.free hs ds k.2 h2⟩
end
theorem frz_if {o : Ow} {a : Addr} {ℓ : Loc} {u : HO} (hs : Same w.S w'.S) (k : FrzTo w w' ℓ) (h : if o.mine then w.G a = some ℓ ∧ w.H a = some u else w.S a = some u) : w'.S a = some u := by
  cases e : o.mine with
  | true => rw [e] at h; exact k a [] u (by simpa using h.1) h.2
  | false => rw [e] at h; exact hs _ _ h
theorem frz_ifR {o : Ow} {a : Addr} {ℓ : Loc} {u : HO} (hs : Same w.S w'.S) (k : FrzTo w w' ℓ) (h : if o.mine then w.G a = some ℓ ∧ w.H a = some u else Rd w.S a u) : Rd w'.S a u := by
  cases e : o.mine with
  | true => rw [e] at h; exact .inl (k a [] u (by simpa using h.1) h.2)
  | false => rw [e] at h; exact rd_same hs h
mutual
theorem Rep.frz (hs : Same w.S w'.S) : ∀ (d : D) {ℓ ℓ' : Loc} {v : V}, FrzTo w w' ℓ → Rep K w d ℓ v → Rep K w' d.frz ℓ' v
  | .any, _, _, _, _, h => leaf_rep rfl h
  | .non, _, _, _, _, h => leaf_rep rfl h
  | .bl _, _, _, _, _, h => leaf_rep rfl h
  | .int _, _, _, _, _, h => leaf_rep rfl h
  | .str _, _, _, _, _, h => leaf_rep rfl h
  | .obj _, _, _, _, _, h => leaf_rep rfl h
  | .ty _, _, _, _, _, h => leaf_rep rfl h
  | .tup o ds, ℓ, ℓ', v, k, h => by
    simp only [Rep] at h
    obtain ⟨a, vs, e, h1, hz, h2⟩ := h
    cases o with
    | false => simp only [D.frz, Rep]; exact ⟨a, vs, e, hs _ _ h1, ⟨hz.1, fun _ => hz.2 rfl⟩, RepL.free hs ds (hz.2 rfl) h2⟩
    | true => simp only [D.frz, Rep]; exact ⟨a, vs, e, hs _ _ h1, ⟨by rw [frzL_map, List.length_map]; exact hz.1, fun _ => frzL_own ds⟩, RepL.frz hs ds k h2⟩
  | .lst o ds, ℓ, ℓ', v, k, h => by
    simp only [Rep] at h
    obtain ⟨a, vs, e, h1, hz, h2⟩ := h
    have h3 := frz_if hs k h1
    cases o with
    | deep => simp only [D.frz, Rep]; exact ⟨a, vs, e, h3, ⟨by rw [frzL_map, List.length_map]; exact hz.1, fun _ => frzL_own ds⟩, RepL.frz hs ds k h2⟩
    | flat => simp only [D.frz, Rep]; exact ⟨a, vs, e, h3, ⟨hz.1, fun _ => hz.2 rfl⟩, RepL.free hs ds (hz.2 rfl) h2⟩
    | ice => simp only [D.frz, Rep]; exact ⟨a, vs, e, h3, ⟨hz.1, fun _ => hz.2 rfl⟩, RepL.free hs ds (hz.2 rfl) h2⟩
  | .ro t ds, ℓ, ℓ', v, k, h => Rep.free hs (.ro t ds) rfl h
  | .dct o t ks ds, ℓ, ℓ', v, k, h => by
    simp only [Rep] at h
    obtain ⟨a, vs, e, h1, hz, h2⟩ := h
    have h3 := frz_ifR hs k h1
    cases o with
    | deep => simp only [D.frz, Rep]; exact ⟨a, vs, e, h3, ⟨hz.1, hz.2.1, fun _ => frzL_own ds⟩, RepL.frz hs ds k h2⟩
    | flat => simp only [D.frz, Rep]; exact ⟨a, vs, e, h3, ⟨hz.1, hz.2.1, fun _ => hz.2.2 rfl⟩, RepL.free hs ds (hz.2.2 rfl) h2⟩
    | ice => simp only [D.frz, Rep]; exact ⟨a, vs, e, h3, ⟨hz.1, hz.2.1, fun _ => hz.2.2 rfl⟩, RepL.free hs ds (hz.2.2 rfl) h2⟩
  | .ins o C fs ds, ℓ, ℓ', v, k, h => by
    simp only [Rep] at h
    obtain ⟨a, vs, e, ⟨dx, h1⟩, hz, h2⟩ := h
    have h3 := frz_if hs k h1
    cases o with
    | deep => simp only [D.frz, Rep]; exact ⟨a, vs, e, ⟨dx, h3⟩, ⟨hz.1, fun _ => frzL_own ds⟩, RepL.frz hs ds k h2⟩
    | flat => simp only [D.frz, Rep]; exact ⟨a, vs, e, ⟨dx, h3⟩, ⟨hz.1, fun _ => hz.2 rfl⟩, RepL.free hs ds (hz.2 rfl) h2⟩
    | ice => simp only [D.frz, Rep]; exact ⟨a, vs, e, ⟨dx, h3⟩, ⟨hz.1, fun _ => hz.2 rfl⟩, RepL.free hs ds (hz.2 rfl) h2⟩
theorem RepL.frz (hs : Same w.S w'.S) : ∀ (ds : List D) {ℓ ℓ' : Loc} {j j' : Nat} {vs : List V}, FrzTo w w' ℓ → RepL K w ds ℓ j vs → RepL K w' (frzL ds) ℓ' j' vs
  | [], _, _, _, _, _, _, h => by simpa [RepL, frzL] using h
  | d :: ds, ℓ, ℓ', j, j', vs, k, h => by
    simp only [RepL, frzL] at h ⊢
    obtain ⟨v, r, e, h1, h2⟩ := h
    exact ⟨v, r, e, Rep.frz hs d (k.sub [j]) h1, RepL.frz hs ds k h2⟩
end
theorem RepL.length : ∀ {ds : List D} {ℓ : Loc} {j : Nat} {vs : List V}, RepL K w ds ℓ j vs → vs.length = ds.length
  | [], _, _, _, h => by simp only [RepL] at h; rw [h]; rfl
  | d :: ds, _, _, _, h => by
    simp only [RepL] at h
    obtain ⟨v, r, e, _, h2⟩ := h
    rw [e, List.length_cons, List.length_cons, RepL.length h2]
theorem RepL.get : ∀ {ds : List D} {ℓ : Loc} {j : Nat} {vs : List V} {i : Nat} {d : D}, RepL K w ds ℓ j vs → ds[i]? = some d → ∃ v, vs[i]? = some v ∧ Rep K w d (ℓ ++ [j + i]) v
  | [], _, _, _, _, _, _, e => by simp at e
  | d :: ds, ℓ, j, vs, 0, d', h, e => by
    simp only [RepL] at h
    obtain ⟨v, r, e1, h1, h2⟩ := h
    obtain rfl : d = d' := by simpa using e
    exact ⟨v, by rw [e1]; rfl, by simpa using h1⟩
  | d :: ds, ℓ, j, vs, i + 1, d', h, e => by
    simp only [RepL] at h
    obtain ⟨v, r, e1, h1, h2⟩ := h
    obtain ⟨v', e2, h3⟩ := RepL.get (i := i) (d := d') h2 (by simpa using e)
    refine ⟨v', by rw [e1]; simpa using e2, ?_⟩
    rw [show j + (i + 1) = j + 1 + i by omega]
    exact h3
/-- lists by their places -/
theorem RepL.of : ∀ {ds : List D} {ℓ : Loc} {j : Nat} {vs : List V}, vs.length = ds.length → (∀ i d v, ds[i]? = some d → vs[i]? = some v → Rep K w d (ℓ ++ [j + i]) v) → RepL K w ds ℓ j vs
  | [], _, _, vs, hl, _ => by simp only [RepL]; exact List.length_eq_zero_iff.mp (by simpa using hl)
  | d :: ds, ℓ, j, [], hl, _ => by simp at hl
  | d :: ds, ℓ, j, v :: vs, hl, h => by
    simp only [RepL]
    refine ⟨v, vs, rfl, by simpa using h 0 d v rfl rfl, RepL.of (by simpa using hl) fun i d' v' e1 e2 => ?_⟩
    rw [show j + 1 + i = j + (i + 1) by omega]
    exact h (i + 1) d' v' (by simpa using e1) (by simpa using e2)
theorem RepL.app {ds es : List D} {ℓ : Loc} {j : Nat} {vs us : List V} (h : RepL K w ds ℓ j vs) (g : RepL K w es ℓ (j + ds.length) us) : RepL K w (ds ++ es) ℓ j (vs ++ us) := by
  induction ds generalizing j vs with
  | nil => simp only [RepL] at h; subst h; simpa using g
  | cons d ds ih =>
    simp only [RepL] at h
    obtain ⟨v, r, rfl, h1, h2⟩ := h
    simp only [List.cons_append, RepL]
    refine ⟨v, r ++ us, rfl, h1, ih h2 ?_⟩
    rw [List.length_cons, show j + (ds.length + 1) = j + 1 + ds.length by omega] at g
    exact g
theorem RepL.one {d : D} {ℓ : Loc} {j : Nat} {v : V} (h : Rep K w d (ℓ ++ [j]) v) : RepL K w [d] ℓ j [v] := by
  simp only [RepL]
  exact ⟨v, [], rfl, h, rfl⟩
theorem RepL.set {ds : List D} {ℓ : Loc} {j : Nat} {vs : List V} {i : Nat} {d : D} {v : V} (h : RepL K w ds ℓ j vs) (g : Rep K w d (ℓ ++ [j + i]) v) : RepL K w (ds.set i d) ℓ j (vs.set i v) := by
  refine RepL.of (by rw [List.length_set, List.length_set, h.length]) fun i' d' v' e1 e2 => ?_
  by_cases hi : i' = i
  · subst hi
    have h1 : i' < ds.length := by
      have := (List.getElem?_eq_some_iff.mp e1).1
      simpa using this
    rw [List.getElem?_set_self h1] at e1
    rw [List.getElem?_set_self (by rw [h.length]; exact h1)] at e2
    cases e1; cases e2
    exact g
  · rw [List.getElem?_set_ne (Ne.symm hi)] at e1 e2
    obtain ⟨v2, e3, r⟩ := h.get e1
    rw [e2] at e3; cases e3
    exact r
end
end FL
namespace FL
open PySem PySem.Spec PyProof.Rows L2
abbrev Sl := L2.St
/-- an environment: what each name holds -/
abbrev En := List (Option D)
/-- what is wished of an exception: class, fields, environment -/
abbrev EE := Value → Option (List (Str × D)) → En → Prop
abbrev RE := En → EE → (D → En → Prop) → Prop
abbrev RT := En → EE → (Bool → En → Prop) → Prop
/-- an argument: a value, or a name lent -/
inductive AD where
  | val (d : D) | brw (i : Nat)
abbrev RA := En → EE → (List AD → En → Prop) → Prop
structure Fin where
  nx : En → Prop
  rt : D → En → Prop
  bk : En → Prop := fun _ => False
  ct : En → Prop := fun _ => False
abbrev RS := En → EE → Fin → Prop
/-- the names laid out one by one -/
def nf : En → (En → Prop) → Prop
  | [], k => k []
  | a :: r, k => nf r fun r' => k (a :: r')
theorem nf_eq : ∀ (ρ : En) (k : En → Prop), nf ρ k = k ρ
  | [], _ => rfl
  | a :: r, k => nf_eq r _
theorem nf_of {ρ : En} {k : En → Prop} (h : nf ρ k) : k ρ := by rw [nf_eq] at h; exact h
def Fin.wn (F : Fin) (k : En → Prop) : Fin := ⟨k, F.rt, F.bk, F.ct⟩
/-- the ends of a loop's body -/
def Fin.lp (F : Fin) (k : En → Prop) : Fin := ⟨k, F.rt, F.nx, k⟩
/-- a fixed location: a caller's (0), or an elder temporary's -/
def Fixed (n τ : Nat) (ℓ : Loc) : Prop := ∃ h r, ℓ = h :: r ∧ (h = 0 ∨ (n < h ∧ h < τ))
structure Ext (n τ : Nat) (w w' : Wd) : Prop where
  s : Same w.S w'.S
  f : ∀ a ℓ, w.G a = some ℓ → Fixed n τ ℓ → w'.G a = some ℓ ∧ w'.H a = w.H a
theorem Fixed.mono {n τ τ' : Nat} {ℓ : Loc} (h : Fixed n τ ℓ) (k : τ ≤ τ') : Fixed n τ' ℓ := by
  obtain ⟨a, r, e, q⟩ := h
  exact ⟨a, r, e, by omega⟩
theorem Ext.refl {n τ : Nat} {w : Wd} : Ext n τ w w := ⟨Same.refl _, fun _ _ h _ => ⟨h, rfl⟩⟩
theorem Ext.trans {n τ : Nat} {w w1 w2 : Wd} (a : Ext n τ w w1) (b : Ext n τ w1 w2) : Ext n τ w w2 :=
  ⟨a.s.trans b.s, fun x ℓ h k => by
    obtain ⟨h1, e1⟩ := a.f x ℓ h k
    obtain ⟨h2, e2⟩ := b.f x ℓ h1 k
    exact ⟨h2, e2.trans e1⟩⟩
theorem Ext.mono {n τ τ' : Nat} {w w' : Wd} (a : Ext n τ' w w') (k : τ ≤ τ') : Ext n τ w w' := ⟨a.s, fun x ℓ h f => a.f x ℓ h (f.mono k)⟩
theorem Ext.rep {n τ : Nat} {K : PySem.W.Frag} {w w' : Wd} (a : Ext n τ w w') {d : D} {h : Nat} {r : Loc} {v : V} (k : n < h ∧ h < τ) (q : Rep K w d (h :: r) v) : Rep K w' d (h :: r) v :=
  q.to a.s d fun x s e => a.f x _ e ⟨h, r ++ s, by simp, .inr k⟩
/-- a sound world -/
structure Wf (w : Wd) : Prop where
  sh : Same w.S w.H
  tg : ∀ a ℓ, w.G a = some ℓ → w.S a = none ∧ Mut (w.H a)
structure StE (K : PySem.W.Frag) (w : Wd) (σ : Sl) (ρ : En) : Prop where
  wf : Wf w
  len : σ.length = ρ.length
  rep : ∀ i d, ρ[i]? = some (some d) → ∃ v, σ[i]? = some (some v) ∧ Rep K w d [i + 1] v
def XRepr (K : PySem.W.Frag) (w : Wd) : Option Addr → Option (List (Str × D)) → Prop
  | none, none => True
  | some a, some fs => ∃ vs, w.S a = some (.xd ((fs.map (·.1)).zip vs)) ∧ fs.length = vs.length ∧ ownL (fs.map (·.2)) = false ∧ RepL K w (fs.map (·.2)) [] 0 vs
  | _, _ => False
/-- the world in an expression's end -/
structure EndE (K : PySem.W.Frag) (τ : Nat) (w : Wd) (σ : Sl) (ρ ρ' : En) (w' : Wd) : Prop where
  len : ρ'.length = ρ.length
  st : StE K w' σ ρ'
  ext : Ext ρ.length τ w w'
theorem EndE.trans {K : PySem.W.Frag} {τ τ' : Nat} {w w1 w2 : Wd} {σ : Sl} {ρ ρ1 ρ2 : En} (a : EndE K τ w σ ρ ρ1 w1) (b : EndE K τ' w1 σ ρ1 ρ2 w2) (k : τ ≤ τ') : EndE K τ w σ ρ ρ2 w2 :=
  ⟨b.len.trans a.len, b.st, a.ext.trans (by have := b.ext.mono k; rw [a.len] at this; exact this)⟩
def SX (K : PySem.W.Frag) (W : WX) (τ : Nat) (w : Wd) (σ : Sl) (ρ : En) (E : EE) : Prop :=
  ∀ c fs ρ' w' x, E c fs ρ' → EndE K τ w σ ρ ρ' w' → XRepr K w' x fs → W c x σ w'.H
theorem SX.then {K : PySem.W.Frag} {W : WX} {τ τ' : Nat} {w w1 : Wd} {σ : Sl} {ρ ρ1 : En} {E : EE} (x : SX K W τ w σ ρ E) (a : EndE K τ w σ ρ ρ1 w1) (k : τ ≤ τ') : SX K W τ' w1 σ ρ1 E :=
  fun c fs ρ' w' d h e r => x c fs ρ' w' d h (a.trans e k) r
def SE (K : PySem.W.Frag) (W : WX) (t : TE) (r : RE) : Prop :=
  ∀ (τ : Nat) (w : Wd) (σ : Sl) (ρ : En) (E : EE) (Q : D → En → Prop) (Qv : VK), ρ.length < τ → StE K w σ ρ → r ρ E Q →
    (∀ d ρ' w' v, Q d ρ' → EndE K τ w σ ρ ρ' w' → Rep K w' d [τ] v → Qv v w'.H) → SX K W τ w σ ρ E → t σ w.H Qv
def STt (K : PySem.W.Frag) (W : WX) (t : TT) (r : RT) : Prop :=
  ∀ (τ : Nat) (w : Wd) (σ : Sl) (ρ : En) (E : EE) (Q : Bool → En → Prop) (Qv : Bool → Hp → Prop), ρ.length < τ → StE K w σ ρ → r ρ E Q →
    (∀ b ρ' w', Q b ρ' → EndE K τ w σ ρ ρ' w' → Qv b w'.H) → SX K W τ w σ ρ E → t σ w.H Qv
/-- arguments: values at τ, τ + 1, .. -/
def ArgsAt (K : PySem.W.Frag) (w : Wd) (σ : Sl) : List AD → Nat → List V → Prop
  | [], _, vs => vs = []
  | .val d :: r, τ, vs => ∃ v us, vs = v :: us ∧ Rep K w d [τ] v ∧ ArgsAt K w σ r (τ + 1) us
  | .brw i :: r, τ, vs => ∃ v us, vs = v :: us ∧ σ[i]? = some (some v) ∧ ArgsAt K w σ r (τ + 1) us
def SA (K : PySem.W.Frag) (W : WX) (k : Nat) (t : TA) (r : RA) : Prop :=
  ∀ (τ : Nat) (w : Wd) (σ : Sl) (ρ : En) (E : EE) (Q : List AD → En → Prop) (Qv : List V → Hp → Prop), ρ.length < τ → StE K w σ ρ → r ρ E Q →
    (∀ ads ρ' w' vs, Q ads ρ' → ads.length = k → EndE K τ w σ ρ ρ' w' → ArgsAt K w' σ ads τ vs → Qv vs w'.H) → SX K W τ w σ ρ E → t σ w.H Qv
/-- the names of M are not stored anew -/
def KeepM (M : List Nat) (σ σ' : Sl) : Prop := ∀ i ∈ M, σ'[i]? = σ[i]?
structure EndS (K : PySem.W.Frag) (M : List Nat) (w : Wd) (σ : Sl) (ρ : En) (w' : Wd) (σ' : Sl) (ρ' : En) : Prop where
  len : ρ'.length = ρ.length
  st : StE K w' σ' ρ'
  ext : Ext ρ.length (ρ.length + 1) w w'
  km : KeepM M σ σ'
theorem EndS.trans {K : PySem.W.Frag} {M : List Nat} {w w1 w2 : Wd} {σ σ1 σ2 : Sl} {ρ ρ1 ρ2 : En} (a : EndS K M w σ ρ w1 σ1 ρ1) (b : EndS K M w1 σ1 ρ1 w2 σ2 ρ2) : EndS K M w σ ρ w2 σ2 ρ2 :=
  ⟨b.len.trans a.len, b.st, a.ext.trans (by have := b.ext; rw [a.len] at this; exact this), fun i hi => (b.km i hi).trans (a.km i hi)⟩
theorem EndE.s {K : PySem.W.Frag} {M : List Nat} {τ : Nat} {w w' : Wd} {σ : Sl} {ρ ρ' : En} (a : EndE K τ w σ ρ ρ' w') (h : ρ.length < τ) : EndS K M w σ ρ w' σ ρ' := ⟨a.len, a.st, a.ext.mono h, fun _ _ => rfl⟩
theorem EndS.refl {K : PySem.W.Frag} {M : List Nat} {w : Wd} {σ : Sl} {ρ : En} (h : StE K w σ ρ) : EndS K M w σ ρ w σ ρ := ⟨rfl, h, Ext.refl, fun _ _ => rfl⟩
theorem EndE.refl {K : PySem.W.Frag} {τ : Nat} {w : Wd} {σ : Sl} {ρ : En} (h : StE K w σ ρ) : EndE K τ w σ ρ ρ w := ⟨rfl, h, Ext.refl⟩
structure SF (K : PySem.W.Frag) (W : WX) (M : List Nat) (w : Wd) (σ : Sl) (ρ : En) (E : EE) (F : Fin) (D : Ends) : Prop where
  nx : ∀ ρ' w' σ', F.nx ρ' → EndS K M w σ ρ w' σ' ρ' → D.nx σ' w'.H
  rt : ∀ d ρ' w' σ' v, F.rt d ρ' → EndS K M w σ ρ w' σ' ρ' → Rep K w' d [ρ.length + 1] v → D.rt v w'.H
  bk : ∀ ρ' w' σ', F.bk ρ' → EndS K M w σ ρ w' σ' ρ' → D.bk σ' w'.H
  ct : ∀ ρ' w' σ', F.ct ρ' → EndS K M w σ ρ w' σ' ρ' → D.ct σ' w'.H
  ex : ∀ c fs ρ' w' σ' x, E c fs ρ' → EndS K M w σ ρ w' σ' ρ' → XRepr K w' x fs → W c x σ' w'.H
theorem SF.then {K : PySem.W.Frag} {W : WX} {M : List Nat} {w w1 : Wd} {σ σ1 : Sl} {ρ ρ1 : En} {E : EE} {F : Fin} {D : Ends} (x : SF K W M w σ ρ E F D) (a : EndS K M w σ ρ w1 σ1 ρ1) : SF K W M w1 σ1 ρ1 E F D :=
  ⟨fun ρ' w' σ' h e => x.nx ρ' w' σ' h (a.trans e), fun d ρ' w' σ' v h e r => x.rt d ρ' w' σ' v h (a.trans e) (by rw [a.len] at r; exact r), fun ρ' w' σ' h e => x.bk ρ' w' σ' h (a.trans e),
    fun ρ' w' σ' h e => x.ct ρ' w' σ' h (a.trans e), fun c fs ρ' w' σ' d h e r => x.ex c fs ρ' w' σ' d h (a.trans e) r⟩
theorem SF.sx {K : PySem.W.Frag} {W : WX} {M : List Nat} {w : Wd} {σ : Sl} {ρ : En} {E : EE} {F : Fin} {D : Ends} (x : SF K W M w σ ρ E F D) : SX K W (ρ.length + 1) w σ ρ E :=
  fun c fs ρ' w' d h e r => x.ex c fs ρ' w' σ d h (e.s (Nat.lt_succ_self _)) r
def SS (K : PySem.W.Frag) (W : WX) (M : List Nat) (t : TS) (r : RS) : Prop :=
  ∀ (w : Wd) (σ : Sl) (ρ : En) (E : EE) (F : Fin) (D : Ends), StE K w σ ρ → r ρ E F → SF K W M w σ ρ E F D → t D σ w.H
structure FE (X : Cx) (W : WX) (e : Expr) (r : RE) : Prop where
  ex : ∃ t, PE X e t ∧ SE X.K W t r
structure FT (X : Cx) (W : WX) (e : Expr) (r : RT) : Prop where
  ex : ∃ t, PT X e t ∧ STt X.K W t r
/-- .. whatever its whole is (and, or) -/
structure FW (X : Cx) (W : WX) (e : Expr) (r : RT) : Prop where
  ex : ∃ t, PW X e t ∧ STt X.K W t r
structure FA (X : Cx) (W : WX) (es : List Expr) (r : RA) : Prop where
  ex : ∃ t, PA X es t ∧ SA X.K W es.length t r
structure FS (X : Cx) (W : WX) (M : List Nat) (st : Stmt) (r : RS) : Prop where
  ex : ∃ t, PS X st t ∧ SS X.K W M t r
structure FSs (X : Cx) (W : WX) (M : List Nat) (st : List Stmt) (r : RS) : Prop where
  ex : ∃ t, PSs X st t ∧ SS X.K W M t r
/-- the tags renamed -/
def Wd.ren (w : Wd) (f : Loc → Option Loc) : Wd := ⟨fun a => (w.G a).bind f, w.S, w.H⟩
theorem Wf.ren {w : Wd} (h : Wf w) (f : Loc → Option Loc) : Wf (w.ren f) := ⟨h.sh, fun a ℓ e => by
  cases q : w.G a with
  | none => rw [show (w.ren f).G a = (w.G a).bind f from rfl, q] at e; cases e
  | some k => exact h.tg a k q⟩
theorem ren_at {w : Wd} {f : Loc → Option Loc} {a : Addr} {ℓ ℓ' : Loc} (h : w.G a = some ℓ) (e : f ℓ = some ℓ') : (w.ren f).G a = some ℓ' := by
  show (w.G a).bind f = some ℓ'
  rw [h]; exact e
theorem KeptTo.ren {w : Wd} {f : Loc → Option Loc} {ℓ ℓ' : Loc} (h : ∀ s, f (ℓ ++ s) = some (ℓ' ++ s)) : KeptTo w (w.ren f) ℓ ℓ' := fun a s e => ⟨ren_at e (h s), rfl⟩
theorem Rep.ren {K : PySem.W.Frag} {w : Wd} {f : Loc → Option Loc} {d : D} {ℓ ℓ' : Loc} {v : V} (q : Rep K w d ℓ v) (h : ∀ s, f (ℓ ++ s) = some (ℓ' ++ s)) : Rep K (w.ren f) d ℓ' v := Rep.to (w := w) (w' := w.ren f) (Same.refl _) d (KeptTo.ren h) q
/-- a new owned node at p -/
def Wd.new (w : Wd) (p : Addr) (ℓ : Loc) (o : HO) : Wd := ⟨fun a => if a = p then some ℓ else w.G a, w.S, upd w.H p o⟩
/-- a new shared node at p -/
def Wd.shr (w : Wd) (p : Addr) (o : HO) : Wd := ⟨w.G, upd w.S p o, upd w.H p o⟩
theorem Wf.noG {w : Wd} (h : Wf w) {p : Addr} (n : w.H p = none) : w.G p = none := by
  cases q : w.G p with
  | none => rfl
  | some k => have := (h.tg p k q).2; rw [n] at this; exact this.elim
theorem Wf.noS {w : Wd} (h : Wf w) {p : Addr} (n : w.H p = none) : w.S p = none := h.sh.free n
theorem Same.updNew {H : Hp} {p : Addr} {o : HO} (n : H p = none) : Same H (upd H p o) := fun b u e => by rw [upd_ne (ne_of_none e n)]; exact e
theorem Wf.new {w : Wd} (h : Wf w) {p : Addr} (n : w.H p = none) {ℓ : Loc} {o : HO} (m : Mut (some o)) : Wf (w.new p ℓ o) := by
  refine ⟨fun b u e => ?_, fun a k e => ?_⟩
  · show upd w.H p o b = some u
    rw [upd_ne (ne_of_none (h.sh b u e) n)]; exact h.sh b u e
  · by_cases ha : a = p
    · subst ha
      exact ⟨h.noS n, by show Mut (upd w.H a o a); rw [upd_same]; exact m⟩
    · have e' : w.G a = some k := by
        have e : (if a = p then some ℓ else w.G a) = some k := e
        rw [if_neg ha] at e; exact e
      exact ⟨(h.tg a k e').1, by show Mut (upd w.H p o a); rw [upd_ne ha]; exact (h.tg a k e').2⟩
theorem Wf.shr {w : Wd} (h : Wf w) {p : Addr} (n : w.H p = none) {o : HO} : Wf (w.shr p o) := by
  refine ⟨fun b u e => ?_, fun a k e => ?_⟩
  · show upd w.H p o b = some u
    have e : upd w.S p o b = some u := e
    by_cases hb : b = p
    · subst hb; rw [upd_same] at e ⊢; exact e
    · rw [upd_ne hb] at e ⊢; exact h.sh b u e
  · have e' : w.G a = some k := e
    have ha : a ≠ p := fun z => by rw [z, h.noG n] at e'; cases e'
    exact ⟨by show upd w.S p o a = none; rw [upd_ne ha]; exact (h.tg a k e').1, by show Mut (upd w.H p o a); rw [upd_ne ha]; exact (h.tg a k e').2⟩
theorem new_kept {w : Wd} (h : Wf w) {p : Addr} (n : w.H p = none) {ℓ k : Loc} {o : HO} : KeptTo w (w.new p ℓ o) k k := fun a s e => by
  have ha : a ≠ p := fun z => by subst z; rw [h.noG n] at e; cases e
  exact ⟨by show (if a = p then some ℓ else w.G a) = _; rw [if_neg ha]; exact e, upd_ne ha⟩
theorem shr_kept {w : Wd} (h : Wf w) {p : Addr} (n : w.H p = none) {k : Loc} {o : HO} : KeptTo w (w.shr p o) k k := fun a s e => by
  have e : w.G a = some (k ++ s) := e
  have ha : a ≠ p := fun z => by subst z; rw [h.noG n] at e; cases e
  exact ⟨e, upd_ne ha⟩
theorem shr_same {w : Wd} (h : Wf w) {p : Addr} (n : w.H p = none) {o : HO} : Same w.S (w.shr p o).S := Same.updNew (h.noS n)
theorem StE.to {K : PySem.W.Frag} {w w' : Wd} {σ : Sl} {ρ : En} (h : StE K w σ ρ) (wf : Wf w') (hs : Same w.S w'.S) (k : ∀ i, i < ρ.length → KeptTo w w' [i + 1] [i + 1]) : StE K w' σ ρ :=
  ⟨wf, h.len, fun i d e => by
    obtain ⟨v, e1, q⟩ := h.rep i d e
    exact ⟨v, e1, q.to hs d (k i (List.getElem?_eq_some_iff.mp e).1)⟩⟩
theorem EndE.new {K : PySem.W.Frag} {τ : Nat} {w : Wd} {σ : Sl} {ρ : En} (h : StE K w σ ρ) {p : Addr} (n : w.H p = none) {ℓ : Loc} {o : HO} (m : Mut (some o)) : EndE K τ w σ ρ ρ (w.new p ℓ o) :=
  ⟨rfl, h.to (h.wf.new n m) (Same.refl _) fun i _ => new_kept h.wf n, ⟨Same.refl _, fun a k e _ => by simpa using new_kept (k := k) h.wf n a [] (by simpa using e)⟩⟩
theorem EndE.shr {K : PySem.W.Frag} {τ : Nat} {w : Wd} {σ : Sl} {ρ : En} (h : StE K w σ ρ) {p : Addr} (n : w.H p = none) {o : HO} : EndE K τ w σ ρ ρ (w.shr p o) :=
  ⟨rfl, h.to (h.wf.shr n) (shr_same h.wf n) fun i _ => shr_kept h.wf n, ⟨shr_same h.wf n, fun a k e _ => by simpa using shr_kept (k := k) h.wf n a [] (by simpa using e)⟩⟩
/-- temporaries τ, τ + 1, .. (k of them) become the children of τ -/
def gather (τ k : Nat) : Loc → Option Loc
  | h :: s => if τ ≤ h ∧ h < τ + k then some (τ :: (h - τ) :: s) else some (h :: s)
  | [] => some []
/-- a renaming that leaves names and fixed locations as they are -/
structure Calm (n τ : Nat) (f : Loc → Option Loc) : Prop where
  fix : ∀ h s, h ≤ n ∨ h < τ → f (h :: s) = some (h :: s)
theorem EndE.ren {K : PySem.W.Frag} {τ : Nat} {w : Wd} {σ : Sl} {ρ : En} {f : Loc → Option Loc} (h : StE K w σ ρ) (c : Calm ρ.length τ f) : EndE K τ w σ ρ ρ (w.ren f) :=
  ⟨rfl, h.to (h.wf.ren f) (Same.refl _) fun i hi => KeptTo.ren fun s => c.fix _ _ (.inl hi), ⟨Same.refl _, fun a ℓ e ⟨x, r, e2, q⟩ => by
    subst e2
    exact ⟨ren_at e (c.fix _ _ (by omega)), rfl⟩⟩⟩
theorem gather_calm {n τ k : Nat} (h : n < τ) : Calm n τ (gather τ k) := ⟨fun a s q => by
  show (if _ then _ else _) = _
  rw [if_neg (by omega)]⟩
theorem gather_at {τ k j : Nat} (h : j < k) (s : Loc) : gather τ k ((τ + j) :: s) = some (τ :: j :: s) := by
  show (if _ then _ else _) = _
  rw [if_pos (by omega)]
  simp
end FL
namespace FL
open PySem PySem.Spec PyProof.Rows L2
abbrev RO := En → EE → (AD → En → Prop) → Prop
def AdAt (K : PySem.W.Frag) (w : Wd) (σ : Sl) : AD → Nat → V → Prop
  | .val d, τ, v => Rep K w d [τ] v
  | .brw i, _, v => σ[i]? = some (some v)
def SOp (K : PySem.W.Frag) (W : WX) (t : TE) (r : RO) : Prop :=
  ∀ (τ : Nat) (w : Wd) (σ : Sl) (ρ : En) (E : EE) (Q : AD → En → Prop) (Qv : VK), ρ.length < τ → StE K w σ ρ → r ρ E Q →
    (∀ d ρ' w' v, Q d ρ' → EndE K τ w σ ρ ρ' w' → AdAt K w' σ d τ v → Qv v w'.H) → SX K W τ w σ ρ E → t σ w.H Qv
structure FO (X : Cx) (W : WX) (e : Expr) (r : RO) : Prop where
  ex : ∃ t, PE X e t ∧ SOp X.K W t r
def oV (r : RE) : RO := fun ρ E Q => r ρ E fun d ρ' => Q (.val d) ρ'
def oN (i : Nat) : RO := fun ρ _ Q => match ρ[i]? with
  | some (some _) => Q (.brw i) ρ
  | _ => False
section
variable {X : Cx} {W : WX} {e : Expr}
theorem fo_val {r : RE} (h : FE X W e r) : FO X W e (oV r) := by
  obtain ⟨t, p, s⟩ := h.ex
  exact ⟨t, p, fun τ w σ ρ E Q Qv hn st hr hq hx => s τ w σ ρ E _ Qv hn st hr (fun d ρ' w' v q e' r' => hq (.val d) ρ' w' v q e' r') hx⟩
theorem fo_brw {i : Nat} {x : Str} {pos : Pos} (hN : X.N[i]? = some x := by rfl) (hv : Vis X.env.scope x := by first | exact Or.inl rfl | exact Or.inr (Or.inl rfl) | exact Or.inr (Or.inr rfl)) (hd : (x == ("__debug__" : Str)) = false := by decide)
    (hcd : (x == ("__classdict__" : Str)) = false := by decide) : FO X W (.Name x pos) (oN i) := by
  refine ⟨_, pe_var hN hv hd hcd, fun τ w σ ρ E Q Qv hn st hr hq hx => ?_⟩
  unfold oN at hr
  split at hr
  · rename_i d e
    obtain ⟨v, e1, r1⟩ := st.rep i d e
    exact ⟨v, e1, hq _ _ _ _ hr (EndE.refl st) e1⟩
  · exact hr.elim
end
/-- what an operand is, in the environment at hand -/
def adD (ρ : En) : AD → Option D
  | .val d => some d
  | .brw i => match ρ[i]? with
    | some (some d) => some d
    | _ => none
def on1 (ρ : En) (a : AD) (k : D → Prop) : Prop := match adD ρ a with
  | some d => k d
  | none => False
/-- a data rule of two values -/
abbrev DO := D → D → (D → Prop) → Prop
def rBin (dop : DO) (ra rb : RO) : RE := fun ρ E Q => ra ρ E fun x ρ1 => rb ρ1 E fun y ρ2 => on1 ρ2 x fun dx => on1 ρ2 y fun dy => dop dx dy fun d => Q d ρ2
/-- by values: what is asked of x and y follows from what the data rule asks -/
def SOK (K : PySem.W.Frag) (r : R2) (dop : DO) : Prop :=
  ∀ (τ : Nat) (w : Wd) (σ : Sl) (ρ : En) (x y : V) (dx dy : D) (ℓ ℓ' : Loc) (Q : D → Prop) (Qv : VK), ρ.length < τ → StE K w σ ρ → Rep K w dx ℓ x → Rep K w dy ℓ' y → dop dx dy Q →
    (∀ d w' v, Q d → EndE K τ w σ ρ ρ w' → Rep K w' d [τ] v → Qv v w'.H) → r x y w.H Qv
structure FOp (X : Cx) (f : Value → Value → Sem Value) (dop : DO) : Prop where
  ex : ∃ r : R2, OpR X f r ∧ SOK X.K r dop
theorem FOp.or {X : Cx} {f : Value → Value → Sem Value} {p q : DO} (h : FOp X f p) (g : FOp X f q) : FOp X f (fun a b Q => p a b Q ∨ q a b Q) := by
  obtain ⟨r, h1, h2⟩ := h.ex
  obtain ⟨r', g1, g2⟩ := g.ex
  refine ⟨_, h1.or g1, fun τ w σ ρ x y dx dy ℓ ℓ' Q Qv hn st rx ry hd hq => ?_⟩
  rcases hd with hd | hd
  · exact .inl (h2 τ w σ ρ x y dx dy ℓ ℓ' Q Qv hn st rx ry hd hq)
  · exact .inr (g2 τ w σ ρ x y dx dy ℓ ℓ' Q Qv hn st rx ry hd hq)
theorem FOp.imp {X : Cx} {f : Value → Value → Sem Value} {p q : DO} (h : FOp X f p) (g : ∀ a b Q, q a b Q → p a b Q) : FOp X f q := by
  obtain ⟨r, h1, h2⟩ := h.ex
  exact ⟨r, h1, fun τ w σ ρ x y dx dy ℓ ℓ' Q Qv hn st rx ry hd hq => h2 τ w σ ρ x y dx dy ℓ ℓ' Q Qv hn st rx ry (g _ _ _ hd) hq⟩
section
variable {K : PySem.W.Frag} {w w' : Wd} {σ : Sl} {ρ ρ' : En} {τ : Nat}
/-- an operand, later -/
theorem ad_get {a : AD} {d : D} {v : V} (st : StE K w σ ρ) (h : AdAt K w σ a τ v) (e : adD ρ a = some d) : ∃ ℓ, Rep K w d ℓ v := by
  cases a with
  | val d' => cases e; exact ⟨_, h⟩
  | brw i =>
    simp only [adD] at e
    split at e
    · rename_i d' e'
      cases e
      obtain ⟨v', e1, r⟩ := st.rep i d e'
      rw [show σ[i]? = some (some v) from h] at e1
      cases e1
      exact ⟨_, r⟩
    · cases e
theorem AdAt.later {a : AD} {v : V} (h : AdAt K w σ a τ v) (hn : ρ.length < τ) (e : EndE K (τ + 1) w σ ρ ρ' w') : AdAt K w' σ a τ v := by
  cases a with
  | val d => exact e.ext.rep (r := []) ⟨hn, Nat.lt_succ_self _⟩ h
  | brw i => exact h
theorem on1_elim {a : AD} {k : D → Prop} (h : on1 ρ a k) : ∃ d, adD ρ a = some d ∧ k d := by
  unfold on1 at h
  split at h
  · exact ⟨_, by assumption, h⟩
  · exact h.elim
end
section
variable {X : Cx} {W : WX} {a b : Expr} {ra rb : RO} {pos : Pos}
theorem so_bin {K : PySem.W.Frag} {r : R2} {dop : DO} {ta tb : TE} (sa : SOp K W ta ra) (sb : SOp K W tb rb) (so : SOK K r dop) : SE K W (tOp r ta tb) (rBin dop ra rb) := by
  intro τ w σ ρ E Q Qv hn st hr hq hx
  refine sa τ w σ ρ E _ _ hn st hr (fun x ρ1 w1 v1 h1 e1 r1 => ?_) hx
  have hn1 : ρ1.length < τ + 1 := by rw [e1.len]; omega
  refine sb (τ + 1) w1 σ ρ1 E _ _ hn1 e1.st h1 (fun y ρ2 w2 v2 h2 e2 r2 => ?_) (hx.then e1 (Nat.le_succ _))
  obtain ⟨dx, ex, h2⟩ := on1_elim h2
  obtain ⟨dy, ey, h2⟩ := on1_elim h2
  have e12 := e1.trans e2 (Nat.le_succ _)
  obtain ⟨ℓ, rx⟩ := ad_get e12.st (r1.later (by rw [e1.len]; exact hn) e2) ex
  obtain ⟨ℓ', ry⟩ := ad_get e12.st r2 ey
  exact so τ w2 σ ρ2 v1 v2 dx dy ℓ ℓ' _ _ (by rw [e12.len]; exact hn) e12.st rx ry h2 fun d w3 v3 q e3 r3 => hq d ρ2 w3 v3 q (e12.trans e3 (Nat.le_refl _)) r3
theorem fe_op {op : Operator} {dop : DO} (ho : FOp X (binaryOp op) dop) (ha : FO X W a ra) (hb : FO X W b rb) : FE X W (.BinOp a op b pos) (rBin dop ra rb) := by
  obtain ⟨r, h1, h2⟩ := ho.ex
  obtain ⟨ta, pa, sa⟩ := ha.ex
  obtain ⟨tb, pb, sb⟩ := hb.ex
  exact ⟨_, pe_op h1 pa pb, so_bin sa sb h2⟩
theorem fe_cmp {op : CmpOp} {dop : DO} (ho : FOp X (compareOp op) dop) (ha : FO X W a ra) (hb : FO X W b rb) (hm : behindInMarks op b = false := by first | exact nomark _ | rfl) : FE X W (.Compare a [op] [b] pos) (rBin dop ra rb) := by
  obtain ⟨r, h1, h2⟩ := ho.ex
  obtain ⟨ta, pa, sa⟩ := ha.ex
  obtain ⟨tb, pb, sb⟩ := hb.ex
  exact ⟨_, pe_cmpR h1 pa pb hm, so_bin sa sb h2⟩
/-- a truth value as a test -/
def rTst (r : RE) : RT := fun ρ E Q => r ρ E fun d ρ' => match d with
  | .bl b => Q b ρ'
  | _ => False
theorem st_tst {K : PySem.W.Frag} {t : TE} {r : RE} (s : SE K W t r) : STt K W (tTest t) (rTst r) := by
  intro τ w σ ρ E Q Qv hn st hr hq hx
  refine s τ w σ ρ E _ _ hn st hr (fun d ρ' w' v h e r' => ?_) hx
  cases d with
  | bl b => exact ⟨b, r', hq b ρ' w' h e⟩
  | _ => exact h.elim
theorem ft_cmp {op : CmpOp} {dop : DO} (ho : FOp X (compareOp op) dop) (ha : FO X W a ra) (hb : FO X W b rb) (hm : behindInMarks op b = false := by first | exact nomark _ | rfl) : FT X W (.Compare a [op] [b] pos) (rTst (rBin dop ra rb)) := by
  obtain ⟨r, h1, h2⟩ := ho.ex
  obtain ⟨ta, pa, sa⟩ := ha.ex
  obtain ⟨tb, pb, sb⟩ := hb.ex
  exact ⟨_, pt_cmpR h1 pa pb hm, st_tst (so_bin sa sb h2)⟩
theorem ft_val {e : Expr} {r : RE} (h : FE X W e r) (he : ∀ whole, isTrue e X.env whole = (do let v ← whole; standAt e.pos; holding [v] (truthy v)) := by intro _; rfl) : FT X W e (rTst r) := by
  obtain ⟨t, p, s⟩ := h.ex
  exact ⟨_, pt_val p he, st_tst s⟩
end
section
variable {X : Cx} {W : WX}
/-- a name's value: frozen, it is copied; owned, it is moved -/
def rVar (i : Nat) : RE := fun ρ _ Q => match ρ[i]? with
  | some (some d) => match d.own with
    | false => Q d ρ
    | true => Q d (ρ.set i none)
  | _ => False
/-- out of slot i to τ -/
def slotTo (i τ : Nat) : Loc → Option Loc
  | h :: s => if h = i + 1 then some (τ :: s) else some (h :: s)
  | [] => some []
theorem StE.drop {K : PySem.W.Frag} {w : Wd} {σ : Sl} {ρ : En} (st : StE K w σ ρ) (i : Nat) {f : Loc → Option Loc} (hf : ∀ j s, j ≠ i → j < ρ.length → f ((j + 1) :: s) = some ((j + 1) :: s)) : StE K (w.ren f) σ (ρ.set i none) :=
  ⟨st.wf.ren f, by rw [List.length_set]; exact st.len, fun j d e => by
    have hj : j ≠ i := fun z => by
      subst z
      by_cases hl : j < ρ.length
      · rw [List.getElem?_set_self hl] at e; cases e
      · rw [List.getElem?_eq_none (by simpa using hl)] at e; cases e
    rw [List.getElem?_set_ne (Ne.symm hj)] at e
    obtain ⟨v, e1, r⟩ := st.rep j d e
    exact ⟨v, e1, r.ren fun s => hf j s hj (List.getElem?_eq_some_iff.mp e).1⟩⟩
theorem fe_var {i : Nat} {x : Str} {pos : Pos} (hN : X.N[i]? = some x := by rfl) (hv : Vis X.env.scope x := by first | exact Or.inl rfl | exact Or.inr (Or.inl rfl) | exact Or.inr (Or.inr rfl)) (hd : (x == ("__debug__" : Str)) = false := by decide)
    (hcd : (x == ("__classdict__" : Str)) = false := by decide) : FE X W (.Name x pos) (rVar i) := by
  refine ⟨_, pe_var hN hv hd hcd, fun τ w σ ρ E Q Qv hn st hr hq hx => ?_⟩
  unfold rVar at hr
  split at hr
  · rename_i d e
    obtain ⟨v, e1, r1⟩ := st.rep i d e
    refine ⟨v, e1, ?_⟩
    have hi := (List.getElem?_eq_some_iff.mp e).1
    split at hr
    · rename_i ho
      exact hq _ _ _ _ hr (EndE.refl st) (r1.free (Same.refl _) d ho)
    · refine hq _ _ (w.ren (slotTo i τ)) _ hr ⟨by rw [List.length_set], st.drop i (fun j s hj _ => ?_), Same.refl _, fun a ℓ e2 ⟨h, s, e3, k⟩ => ?_⟩ (r1.ren fun s => ?_)
      · show (if _ then _ else _) = _
        rw [if_neg (by omega)]
      · subst e3
        refine ⟨ren_at e2 ?_, rfl⟩
        show (if _ then _ else _) = _
        rw [if_neg (by omega)]
      · show (if _ then _ else _) = _
        rw [if_pos rfl]; rfl
  · exact hr.elim
def rC (d : D) : RE := fun ρ _ Q => Q d ρ
theorem se_C {K : PySem.W.Frag} {v : V} {d : D} (h : ∀ w τ, Rep K w d [τ] v) : SE K W (tC v) (rC d) := fun τ w σ ρ E Q Qv hn st hr hq hx => hq d ρ w v hr (EndE.refl st) (h w τ)
theorem fe_int {i j pos} : FE X W (.Constant (.int i) j pos) (rC (.int i)) := ⟨_, pe_int, se_C fun _ _ => rfl⟩
theorem fe_bl {b j pos} : FE X W (.Constant (.bool b) j pos) (rC (.bl b)) := ⟨_, pe_bl, se_C fun _ _ => rfl⟩
theorem fe_non {j pos} : FE X W (.Constant .none j pos) (rC .non) := ⟨_, pe_non, se_C fun _ _ => rfl⟩
theorem fe_str {x j pos} : FE X W (.Constant (.str x) j pos) (rC (.str x)) := ⟨_, pe_str, se_C fun _ _ => rfl⟩
/-- a module's constant -/
theorem fe_glob {x : Str} {v : V} {u : Value} {pos : Pos} {d : D} (hg : Gl X x) (hm : X.mg x = some u) (r : RelV v u) (h : ∀ w τ, Rep X.K w d [τ] v) (hd : (x == ("__debug__" : Str)) = false := by decide) : FE X W (.Name x pos) (rC d) :=
  ⟨_, pe_glob hg hm r hd, se_C h⟩
end
def MulOk (i j : Int) : Prop := CMul i j ∨ CMulW i j
def dAdd : DO
  | .int a, .int b, Q => Q (.int (a + b))
  | .int a, .bl b, Q => Q (.int (a + b2i b))
  | .str a, .str b, Q => a.length + b.length ≤ sizeLine ∧ Q (.str (a ++ b))
  | .tup false a, .tup false b, Q => a.length + b.length ≤ sizeLine ∧ Q (.tup false (a ++ b))
  | .lst o a, .lst o' b, Q => match o, o' with
    | .deep, _ => False
    | _, .deep => False
    | _, _ => a.length + b.length ≤ sizeLine ∧ Q (.lst .flat (a ++ b))
  | _, _, _ => False
def dSub : DO
  | .int a, .int b, Q => Q (.int (a - b))
  | _, _, _ => False
def dMul : DO
  | .int a, .int b, Q => MulOk a b ∧ Q (.int (a * b))
  | .lst o a, .int k, Q => match o with
    | .deep => False
    | _ => -(2 ^ 63) ≤ k ∧ k < 2 ^ 63 ∧ a.length * k.toNat ≤ sizeLine ∧ Q (.lst .flat (List.replicate k.toNat a).flatten)
  | _, _, _ => False
def dMod : DO
  | .int a, .int b, Q => 0 < b ∧ Q (.int (a % b))
  | _, _, _ => False
def dFdiv : DO
  | .int a, .int b, Q => (0 < b ∧ b.natAbs.log2 < 9000) ∧ Q (.int (a / b))
  | _, _, _ => False
def dCI (p : Int → Int → Bool) : DO
  | .int a, .int b, Q => Q (.bl (p a b))
  | _, _, _ => False
abbrev dLt : DO := dCI fun i j => decide (i < j)
abbrev dLe : DO := dCI fun i j => decide (i ≤ j)
abbrev dGt : DO := dCI fun i j => decide (j < i)
abbrev dGe : DO := dCI fun i j => decide (j ≤ i)
theorem EndE.own {K : PySem.W.Frag} {τ : Nat} {w : Wd} {σ : Sl} {ρ : En} (o : Ow) (st : StE K w σ ρ) {p : Addr} (n : w.H p = none) {vs : List V} {ds : List D} (hr : RepL K w ds [τ] 0 vs) (hz : ds.length ≤ sizeLine) (hL : Lt o ds) (hm : o.mine = true) : EndE K τ w σ ρ ρ (w.new p [τ] (.lst vs)) ∧ Rep K (w.new p [τ] (.lst vs)) (.lst o ds) [τ] (.ref p) := by
  refine ⟨.new st n trivial, ?_⟩
  rw [rep_inner rfl]
  refine ⟨p, vs, rfl, ?_, ⟨hz, hL⟩, RepL.to (w := w) (w' := w.new p [τ] (.lst vs)) (Same.refl _) ds (new_kept st.wf n) hr⟩
  simp only [Nd, hm, if_true]
  refine ⟨?_, upd_same⟩
  show (if p = p then _ else _) = _
  rw [if_pos rfl]
theorem EndE.tup {K : PySem.W.Frag} {τ : Nat} {w : Wd} {σ : Sl} {ρ : En} (o : Bool) (st : StE K w σ ρ) {p : Addr} (n : w.H p = none) {vs : List V} {ds : List D} {ℓ : Loc} (hr : RepL K w ds ℓ 0 vs) (hz : ds.length ≤ sizeLine) (hL : o = false → ownL ds = false) : EndE K τ w σ ρ ρ (w.shr p (.tup vs)) ∧ Rep K (w.shr p (.tup vs)) (.tup o ds) ℓ (.ref p) := by
  refine ⟨.shr st n, ?_⟩
  simp only [Rep]
  exact ⟨p, vs, rfl, upd_same, ⟨hz, hL⟩, RepL.to (w := w) (w' := w.shr p (.tup vs)) (shr_same st.wf n) ds (shr_kept st.wf n) hr⟩
theorem lst_at {K : PySem.W.Frag} {w : Wd} (wf : Wf w) {o : Ow} {ds : List D} {ℓ : Loc} {v : V} (h : Rep K w (.lst o ds) ℓ v) : ∃ a vs, v = .ref a ∧ w.H a = some (.lst vs) ∧ RepL K w ds ℓ 0 vs := by
  simp only [Rep] at h
  obtain ⟨a, vs, e, h1, hz, h2⟩ := h
  cases q : o.mine with
  | true => rw [q] at h1; exact ⟨a, vs, e, h1.2, h2⟩
  | false => rw [q] at h1; exact ⟨a, vs, e, wf.sh _ _ h1, h2⟩
theorem lst_sz {K : PySem.W.Frag} {w : Wd} {o : Ow} {ds : List D} {ℓ : Loc} {v : V} (h : Rep K w (.lst o ds) ℓ v) : ds.length ≤ sizeLine ∧ Lt o ds := by
  simp only [Rep] at h
  obtain ⟨a, vs, e, h1, hz, h2⟩ := h
  exact hz
theorem tup_sz {K : PySem.W.Frag} {w : Wd} {o : Bool} {ds : List D} {ℓ : Loc} {v : V} (h : Rep K w (.tup o ds) ℓ v) : ds.length ≤ sizeLine ∧ (o = false → ownL ds = false) := by
  simp only [Rep] at h
  obtain ⟨a, vs, e, h1, hz, h2⟩ := h
  exact hz
theorem tup_at {K : PySem.W.Frag} {w : Wd} (wf : Wf w) {o : Bool} {ds : List D} {ℓ : Loc} {v : V} (h : Rep K w (.tup o ds) ℓ v) : ∃ a vs, v = .ref a ∧ w.H a = some (.tup vs) ∧ RepL K w ds ℓ 0 vs := by
  simp only [Rep] at h
  obtain ⟨a, vs, e, h1, hz, h2⟩ := h
  exact ⟨a, vs, e, wf.sh _ _ h1, h2⟩
section
variable {X : Cx}
theorem fop_int {f : Value → Value → Sem Value} {C : Int → Int → Prop} {g : Int → Int → Int} (h : OpR X f (rI C fun i j => .int (g i j))) {dop : DO} (hd : ∀ a b Q, dop a b Q → ∃ i j, a = .int i ∧ b = .int j ∧ C i j ∧ Q (.int (g i j))) : FOp X f dop := by
  refine ⟨_, h, fun τ w σ ρ x y dx dy ℓ ℓ' Q Qv hn st rx ry hq hv => ?_⟩
  obtain ⟨i, j, rfl, rfl, c, q⟩ := hd _ _ _ hq
  simp only [Rep] at rx ry
  subst rx; subst ry
  exact ⟨i, j, rfl, rfl, c, hv _ w _ q (.refl st) rfl⟩
theorem fop_int0 {f : Value → Value → Sem Value} {g : Int → Int → V} {gd : Int → Int → D} (h : OpR X f (rI0 g)) (hg : ∀ i j (K : PySem.W.Frag) w ℓ, Rep K w (gd i j) ℓ (g i j)) {dop : DO} (hd : ∀ a b Q, dop a b Q → ∃ i j, a = .int i ∧ b = .int j ∧ Q (gd i j)) : FOp X f dop := by
  refine ⟨_, h, fun τ w σ ρ x y dx dy ℓ ℓ' Q Qv hn st rx ry hq hv => ?_⟩
  obtain ⟨i, j, rfl, rfl, q⟩ := hd _ _ _ hq
  simp only [Rep] at rx ry
  subst rx; subst ry
  exact ⟨i, j, rfl, rfl, hv _ w _ q (.refl st) (hg ..)⟩
theorem fop_sub : FOp X (binaryOp .Sub) dSub := fop_int0 (gd := fun i j => .int (i - j)) op_sub (fun _ _ _ _ _ => rfl) fun a b Q h => by
  cases a <;> cases b <;> first | exact h.elim | exact ⟨_, _, rfl, rfl, h⟩
theorem fop_cI {op : CmpOp} {p : Int → Int → Bool} (h : OpR X (compareOp op) (rI0 fun i j => .bl (p i j))) : FOp X (compareOp op) (dCI p) := fop_int0 (gd := fun i j => .bl (p i j)) h (fun _ _ _ _ _ => rfl) fun a b Q h => by
  cases a <;> cases b <;> first | exact h.elim | exact ⟨_, _, rfl, rfl, h⟩
theorem fop_lt : FOp X (compareOp .Lt) dLt := fop_cI op_lt
theorem fop_le : FOp X (compareOp .LtE) dLe := fop_cI op_le
theorem fop_gt : FOp X (compareOp .Gt) dGt := fop_cI op_gt
theorem fop_ge : FOp X (compareOp .GtE) dGe := fop_cI op_ge
theorem fop_mod : FOp X (binaryOp .Mod) dMod := fop_int op_mod fun a b Q h => by
  cases a <;> cases b <;> first | exact h.elim | exact ⟨_, _, rfl, rfl, h⟩
theorem fop_fdiv : FOp X (binaryOp .FloorDiv) dFdiv := fop_int op_fdivW fun a b Q h => by
  cases a <;> cases b <;> first | exact h.elim | exact ⟨_, _, rfl, rfl, h⟩
theorem op_mulOk : OpR X (binaryOp .Mult) (rI MulOk fun i j => .int (i * j)) := opI fun _ _ _ _ _ _ _ hc q => mul_int q (hc.elim (fun z => z.ok) fun z => z.ok)
/-- list and list -/
theorem fop_cat : FOp X (binaryOp .Add) (fun a b Q => ∃ o o' xs ys, a = .lst o xs ∧ b = .lst o' ys ∧ o.light = true ∧ o'.light = true ∧ xs.length + ys.length ≤ sizeLine ∧ Q (.lst .flat (xs ++ ys))) := by
  refine ⟨_, op_cat, fun τ w σ ρ x y dx dy ℓ ℓ' Q Qv hn st rx ry hq hv => ?_⟩
  obtain ⟨o, o', xs, ys, rfl, rfl, ho, ho', hl, q⟩ := hq
  have hx := (lst_sz rx).2 ho
  have hy := (lst_sz ry).2 ho'
  obtain ⟨a, vs, rfl, h1, h2⟩ := lst_at st.wf rx
  obtain ⟨b, us, rfl, k1, k2⟩ := lst_at st.wf ry
  refine ⟨a, b, vs, us, rfl, rfl, h1, k1, by rw [h2.length, k2.length]; exact hl, fun p n => ?_⟩
  have hr : RepL X.K w (xs ++ ys) [τ] 0 (vs ++ us) := (RepL.free (Same.refl _) xs hx h2).app (RepL.free (Same.refl _) ys hy k2)
  obtain ⟨e, r⟩ := EndE.own .flat st n hr (by rw [List.length_append]; exact hl) (fun _ => by rw [ownL_append, hx, hy]; rfl) rfl
  exact hv _ _ _ q e r
theorem fop_rep : FOp X (binaryOp .Mult) (fun a b Q => ∃ o xs k, a = .lst o xs ∧ b = .int k ∧ o.light = true ∧ -(2 ^ 63) ≤ k ∧ k < 2 ^ 63 ∧ xs.length * k.toNat ≤ sizeLine ∧ Q (.lst .flat (List.replicate k.toNat xs).flatten)) := by
  refine ⟨_, op_rep, fun τ w σ ρ x y dx dy ℓ ℓ' Q Qv hn st rx ry hq hv => ?_⟩
  obtain ⟨o, xs, k, rfl, rfl, ho, h0, h9, hl, q⟩ := hq
  have hx := (lst_sz rx).2 ho
  obtain ⟨a, vs, rfl, h1, h2⟩ := lst_at st.wf rx
  simp only [Rep] at ry
  subst ry
  refine ⟨a, k, vs, rfl, rfl, h1, h0, h9, by rw [h2.length]; exact hl, fun p n => ?_⟩
  have ow : ∀ n : Nat, ownL (List.replicate n xs).flatten = false := fun n => by
    rw [ownL_iff]
    intro d hd
    obtain ⟨l, hl, hd⟩ := List.mem_flatten.mp hd
    rw [(List.mem_replicate.mp hl).2] at hd
    exact ownL_iff.mp hx d hd
  have hr : ∀ n : Nat, RepL X.K w (List.replicate n xs).flatten [τ] 0 (List.replicate n vs).flatten := fun n => by
    induction n with
    | zero => exact rfl
    | succ n ih =>
      rw [List.replicate_succ, List.replicate_succ, List.flatten_cons, List.flatten_cons]
      exact (RepL.free (Same.refl _) xs hx h2).app (RepL.free (Same.refl _) _ (ow n) ih)
  obtain ⟨e, r⟩ := EndE.own .flat st n (hr k.toNat) (by rw [PyProof.Rows.lm_len_rep_flat, Nat.mul_comm]; exact hl) (fun _ => ow _) rfl
  exact hv _ _ _ q e r
theorem fop_catT : FOp X (binaryOp .Add) (fun a b Q => ∃ xs ys, a = .tup false xs ∧ b = .tup false ys ∧ xs.length + ys.length ≤ sizeLine ∧ Q (.tup false (xs ++ ys))) := by
  refine ⟨_, op_catA, fun τ w σ ρ x y dx dy ℓ ℓ' Q Qv hn st rx ry hq hv => ?_⟩
  obtain ⟨xs, ys, rfl, rfl, hl, q⟩ := hq
  have hx := (tup_sz rx).2 rfl
  have hy := (tup_sz ry).2 rfl
  obtain ⟨a, vs, rfl, h1, h2⟩ := tup_at st.wf rx
  obtain ⟨b, us, rfl, k1, k2⟩ := tup_at st.wf ry
  have e1 := h2.length
  have e2 := k2.length
  refine ⟨a, b, vs, us, rfl, rfl, SqT.of h1, SqT.of k1, by omega, fun z => ?_, fun _ z => ?_, fun _ _ p n => ?_⟩
  · have : xs = [] := List.length_eq_zero_iff.mp (by rw [← e1, z]; rfl)
    subst this
    exact hv _ w _ q (.refl st) (ry.free (Same.refl _) _ rfl)
  · have : ys = [] := List.length_eq_zero_iff.mp (by rw [← e2, z]; rfl)
    subst this
    rw [List.append_nil] at q
    exact hv _ w _ q (.refl st) (rx.free (Same.refl _) _ rfl)
  · have hr : RepL X.K w (xs ++ ys) [τ] 0 (vs ++ us) := (RepL.free (Same.refl _) xs hx h2).app (RepL.free (Same.refl _) ys hy k2)
    obtain ⟨e, r⟩ := EndE.tup false st n hr (by rw [List.length_append]; exact hl) (fun _ => by rw [ownL_append, hx, hy]; rfl)
    exact hv _ _ _ q e r
theorem fop_addS : FOp X (binaryOp .Add) (fun a b Q => ∃ i j, a = .str i ∧ b = .str j ∧ i.length + j.length ≤ sizeLine ∧ Q (.str (i ++ j))) := by
  refine ⟨_, op_add_str, fun τ w σ ρ x y dx dy ℓ ℓ' Q Qv hn st rx ry hq hv => ?_⟩
  obtain ⟨i, j, rfl, rfl, hl, q⟩ := hq
  simp only [Rep] at rx ry
  subst rx; subst ry
  exact ⟨i, j, rfl, rfl, hl, hv _ w _ q (.refl st) rfl⟩
theorem fop_addI : FOp X (binaryOp .Add) (fun a b Q => ∃ i j, a = .int i ∧ b = .int j ∧ Q (.int (i + j))) := fop_int0 (gd := fun i j => .int (i + j)) op_add (fun _ _ _ _ _ => rfl) fun a b Q h => h
theorem fop_addB : FOp X (binaryOp .Add) (fun a b Q => ∃ i k, a = .int i ∧ b = .bl k ∧ Q (.int (i + b2i k))) := by
  refine ⟨_, op_add_ib, fun τ w σ ρ x y dx dy ℓ ℓ' Q Qv hn st rx ry hq hv => ?_⟩
  obtain ⟨i, j, rfl, rfl, q⟩ := hq
  simp only [Rep] at rx ry
  subst rx; subst ry
  exact ⟨i, j, rfl, rfl, hv _ w _ q (.refl st) rfl⟩
theorem fop_add : FOp X (binaryOp .Add) dAdd := (fop_addI.or (fop_addB.or (fop_addS.or (fop_catT.or fop_cat)))).imp fun a b Q h => by
  unfold dAdd at h
  split at h
  · exact .inl ⟨_, _, rfl, rfl, h⟩
  · exact .inr (.inl ⟨_, _, rfl, rfl, h⟩)
  · exact .inr (.inr (.inl ⟨_, _, rfl, rfl, h⟩))
  · exact .inr (.inr (.inr (.inl ⟨_, _, rfl, rfl, h⟩)))
  · rename_i o a o' b
    cases o <;> cases o' <;> first
      | exact h.elim
      | exact .inr (.inr (.inr (.inr ⟨_, _, _, _, rfl, rfl, rfl, rfl, h⟩)))
  · exact h.elim
theorem fop_mul : FOp X (binaryOp .Mult) dMul := ((fop_int (dop := fun a b Q => ∃ i j, a = .int i ∧ b = .int j ∧ MulOk i j ∧ Q (.int (i * j))) op_mulOk fun a b Q h => h).or fop_rep).imp fun a b Q h => by
  unfold dMul at h
  split at h
  · exact .inl ⟨_, _, rfl, rfl, h⟩
  · rename_i o a k
    cases o <;> first
      | exact h.elim
      | exact .inr ⟨_, _, _, rfl, rfl, rfl, h⟩
  · exact h.elim
end
end FL
namespace FL
open PySem PySem.Spec PyProof.Rows L2
def rIc (g : Int → Int) (ra : RO) : RE := fun ρ E Q => ra ρ E fun x ρ1 => on1 ρ1 x fun dx => match dx with
  | .int i => Q (.int (g i)) ρ1
  | _ => False
section
variable {X : Cx} {W : WX} {a b : Expr} {ra rb : RO} {pos p2 : Pos} {c : Int} {j : Nat}
theorem so_ic {K : PySem.W.Frag} {r : R2} {g : Int → Int} {c : Int} {ta : TE} (hr : ∀ i H Q, Q (.int (g i)) H → r (.int i) (.int c) H Q) (sa : SOp K W ta ra) : SE K W (tOp r ta (tC (.int c))) (rIc g ra) := by
  intro τ w σ ρ E Q Qv hn st h hq hx
  refine sa τ w σ ρ E _ _ hn st h (fun x ρ1 w1 v1 h1 e1 r1 => ?_) hx
  obtain ⟨dx, ex, h1⟩ := on1_elim h1
  obtain ⟨ℓ, rx⟩ := ad_get e1.st r1 ex
  cases dx with
  | int i =>
    simp only [Rep] at rx
    subst rx
    exact hr i _ _ (hq _ _ _ _ h1 e1 rfl)
  | _ => exact h1.elim
theorem so_icl {K : PySem.W.Frag} {r : R2} {g : Int → Int} {c : Int} {ta : TE} (hr : ∀ i H Q, Q (.int (g i)) H → r (.int c) (.int i) H Q) (sa : SOp K W ta ra) : SE K W (tOp r (tC (.int c)) ta) (rIc g ra) := by
  intro τ w σ ρ E Q Qv hn st h hq hx
  refine sa τ w σ ρ E _ _ hn st h (fun x ρ1 w1 v1 h1 e1 r1 => ?_) hx
  obtain ⟨dx, ex, h1⟩ := on1_elim h1
  obtain ⟨ℓ, rx⟩ := ad_get e1.st r1 ex
  cases dx with
  | int i =>
    simp only [Rep] at rx
    subst rx
    exact hr i _ _ (hq _ _ _ _ h1 e1 rfl)
  | _ => exact h1.elim
theorem fe_mulC (ha : FO X W a ra) (hc : (decide (-(2 ^ 64) < c) && decide (c < 2 ^ 64)) = true := by decide) : FE X W (.BinOp a .Mult (.Constant (.int c) j p2) pos) (rIc (fun i => i * c) ra) := by
  obtain ⟨t, p, s⟩ := ha.ex
  simp only [Bool.and_eq_true, decide_eq_true_eq] at hc
  exact ⟨_, pe_op op_mul p pe_int, so_ic (fun i H Q q => ⟨i, c, rfl, rfl, .inr hc, q⟩) s⟩
theorem fe_mulCl (ha : FO X W a ra) (hc : (decide (-(2 ^ 64) < c) && decide (c < 2 ^ 64)) = true := by decide) : FE X W (.BinOp (.Constant (.int c) j p2) .Mult a pos) (rIc (fun i => c * i) ra) := by
  obtain ⟨t, p, s⟩ := ha.ex
  simp only [Bool.and_eq_true, decide_eq_true_eq] at hc
  exact ⟨_, pe_op op_mul pe_int p, so_icl (fun i H Q q => ⟨c, i, rfl, rfl, .inl hc, q⟩) s⟩
theorem fe_modC (ha : FO X W a ra) (hc : decide (0 < c) = true := by decide) : FE X W (.BinOp a .Mod (.Constant (.int c) j p2) pos) (rIc (fun i => i % c) ra) := by
  obtain ⟨t, p, s⟩ := ha.ex
  exact ⟨_, pe_op op_mod p pe_int, so_ic (fun i H Q q => ⟨i, c, rfl, rfl, of_decide_eq_true hc, q⟩) s⟩
theorem fe_fdivC (ha : FO X W a ra) (hc : (decide (0 < c) && decide (c.natAbs < 2 ^ 64)) = true := by decide) : FE X W (.BinOp a .FloorDiv (.Constant (.int c) j p2) pos) (rIc (fun i => i / c) ra) := by
  obtain ⟨t, p, s⟩ := ha.ex
  simp only [Bool.and_eq_true, decide_eq_true_eq] at hc
  exact ⟨_, pe_op op_fdivW p pe_int, so_ic (fun i H Q q => ⟨i, c, rfl, rfl, wide_div hc.1 hc.2 (by decide) (by decide), q⟩) s⟩
theorem fe_addC (ha : FO X W a ra) : FE X W (.BinOp a .Add (.Constant (.int c) j p2) pos) (rIc (fun i => i + c) ra) := by
  obtain ⟨t, p, s⟩ := ha.ex
  exact ⟨_, pe_op op_add p pe_int, so_ic (fun i H Q q => ⟨i, c, rfl, rfl, q⟩) s⟩
theorem fe_addCl (ha : FO X W a ra) : FE X W (.BinOp (.Constant (.int c) j p2) .Add a pos) (rIc (fun i => c + i) ra) := by
  obtain ⟨t, p, s⟩ := ha.ex
  exact ⟨_, pe_op op_add pe_int p, so_icl (fun i H Q q => ⟨c, i, rfl, rfl, q⟩) s⟩
theorem fe_subC (ha : FO X W a ra) : FE X W (.BinOp a .Sub (.Constant (.int c) j p2) pos) (rIc (fun i => i - c) ra) := by
  obtain ⟨t, p, s⟩ := ha.ex
  exact ⟨_, pe_op op_sub p pe_int, so_ic (fun i H Q q => ⟨i, c, rfl, rfl, q⟩) s⟩
theorem fe_powC {c d : Int} {j k : Nat} {p2 p3 : Pos} (hc : (decide (0 ≤ d) && decide (d ≤ 1000) && decide (c.natAbs < 2 ^ 64)) = true := by decide) : FE X W (.BinOp (.Constant (.int c) j p2) .Pow (.Constant (.int d) k p3) pos) (rC (.int (c ^ d.toNat))) := by
  simp only [Bool.and_eq_true, decide_eq_true_eq] at hc
  refine ⟨_, pe_op op_pow pe_int pe_int, fun τ w σ ρ E Q Qv hn st h hq hx => ?_⟩
  exact ⟨c, d, rfl, rfl, ⟨hc.1.1, by omega, hc.2⟩, hq _ _ w _ h (EndE.refl st) rfl⟩
theorem fe_negC {c : Int} {j : Nat} {p2 : Pos} : FE X W (.UnaryOp .USub (.Constant (.int c) j p2) pos) (rC (.int (-c))) := by
  refine ⟨_, pe_un un_neg pe_int, fun τ w σ ρ E Q Qv hn st h hq hx => ?_⟩
  exact ⟨c, rfl, hq _ _ w _ h (EndE.refl st) rfl⟩
end
mutual
def D.py : D → PyData
  | .non => .none
  | .bl b => .bool b
  | .int i => .int i
  | .str s => .str s
  | .tup _ ds => .tuple (pyL ds)
  | .lst _ ds => .list (pyL ds)
  | .ro t ds => if t then .tuple (pyL ds) else .list (pyL ds)
  | .obj _ => .dict []
  | .ty _ => .dict []
  | .any => .dict []
  | .dct _ _ _ _ => .dict []
  | .ins _ _ _ _ => .dict []
def pyL : List D → List PyData
  | [] => []
  | d :: ds => d.py :: pyL ds
end
mutual
/-- no dict, instance or function within -/
def D.dat : D → Bool
  | .non => true
  | .bl _ => true
  | .int _ => true
  | .str _ => true
  | .tup _ ds => datL ds
  | .lst _ ds => datL ds
  | .ro _ ds => datL ds
  | _ => false
def datL : List D → Bool
  | [] => true
  | d :: ds => d.dat && datL ds
end
mutual
def D.dep : D → Nat
  | .tup _ ds => depL ds + 1
  | .lst _ ds => depL ds + 1
  | .ro _ ds => depL ds + 1
  | _ => 0
def depL : List D → Nat
  | [] => 0
  | d :: ds => max d.dep (depL ds)
end
def deq (a b : D) : Bool := PyData.eqv a.py b.py
mutual
theorem py_plain : ∀ d : D, d.dat = true → d.py.plain = true
  | .non, _ => rfl
  | .bl _, _ => rfl
  | .int _, _ => rfl
  | .str _, _ => rfl
  | .tup _ ds, h => by simp only [D.py, PyData.plain]; exact pyL_plain ds (by simpa [D.dat] using h)
  | .lst _ ds, h => by simp only [D.py, PyData.plain]; exact pyL_plain ds (by simpa [D.dat] using h)
  | .ro t ds, h => by cases t <;> (simp only [D.py, PyData.plain, if_true, if_false, Bool.false_eq_true]) <;> exact pyL_plain ds (by simpa [D.dat] using h)
  | .obj _, h => by simp [D.dat] at h
  | .ty _, h => by simp [D.dat] at h
  | .any, h => by simp [D.dat] at h
  | .dct _ _ _ _, h => by simp [D.dat] at h
  | .ins _ _ _ _, h => by simp [D.dat] at h
theorem pyL_plain : ∀ ds : List D, datL ds = true → PyData.plainAll (pyL ds) = true
  | [], _ => rfl
  | d :: ds, h => by
    simp only [datL, Bool.and_eq_true] at h
    simp only [pyL, PyData.plainAll, py_plain d h.1, pyL_plain ds h.2, Bool.and_self]
end
mutual
theorem py_dep : ∀ d : D, d.dat = true → d.py.depth = d.dep
  | .non, _ => rfl
  | .bl _, _ => rfl
  | .int _, _ => rfl
  | .str _, _ => rfl
  | .tup _ ds, h => by simp only [D.py, PyData.depth, D.dep, pyL_dep ds (by simpa [D.dat] using h)]
  | .lst _ ds, h => by simp only [D.py, PyData.depth, D.dep, pyL_dep ds (by simpa [D.dat] using h)]
  | .ro t ds, h => by cases t <;> simp only [D.py, PyData.depth, D.dep, if_true, if_false, Bool.false_eq_true, pyL_dep ds (by simpa [D.dat] using h)]
  | .obj _, h => by simp [D.dat] at h
  | .ty _, h => by simp [D.dat] at h
  | .any, h => by simp [D.dat] at h
  | .dct _ _ _ _, h => by simp [D.dat] at h
  | .ins _ _ _ _, h => by simp [D.dat] at h
theorem pyL_dep : ∀ ds : List D, datL ds = true → PyData.depthAll (pyL ds) = depL ds
  | [], _ => rfl
  | d :: ds, h => by
    simp only [datL, Bool.and_eq_true] at h
    simp only [pyL, PyData.depthAll, depL, py_dep d h.1, pyL_dep ds h.2]
end
mutual
theorem rep_dp {K : PySem.W.Frag} {w : Wd} (wf : Wf w) : ∀ (d : D) {ℓ : Loc} {v : V}, d.dat = true → Rep K w d ℓ v → Dp K w.H v d.py
  | .non, _, _, _, h => by simp only [Rep] at h; subst h; exact .non
  | .bl _, _, _, _, h => by simp only [Rep] at h; subst h; exact .bl _
  | .int _, _, _, _, h => by simp only [Rep] at h; subst h; exact .int _
  | .str _, _, _, _, h => by simp only [Rep] at h; subst h; exact .str _
  | .tup o ds, _, _, k, h => by
    obtain ⟨a, vs, rfl, h1, h2⟩ := tup_at wf h
    exact .tup (SqT.of h1) (rep_dps wf ds (by simpa [D.dat] using k) h2)
  | .lst o ds, _, _, k, h => by
    obtain ⟨a, vs, rfl, h1, h2⟩ := lst_at wf h
    exact .lst (SqL.of h1) (rep_dps wf ds (by simpa [D.dat] using k) h2)
  | .ro t ds, _, _, k, h => by
    simp only [Rep] at h
    obtain ⟨a, vs, rfl, h1, _, h2⟩ := h
    cases t with
    | true => exact .tup (same_rdT wf.sh h1) (rep_dps wf ds (by simpa [D.dat] using k) h2)
    | false => exact .lst (wf.sh.seq h1) (rep_dps wf ds (by simpa [D.dat] using k) h2)
  | .obj _, _, _, k, _ => by simp [D.dat] at k
  | .ty _, _, _, k, _ => by simp [D.dat] at k
  | .any, _, _, k, _ => by simp [D.dat] at k
  | .dct _ _ _ _, _, _, k, _ => by simp [D.dat] at k
  | .ins _ _ _ _, _, _, k, _ => by simp [D.dat] at k
theorem rep_dps {K : PySem.W.Frag} {w : Wd} (wf : Wf w) : ∀ (ds : List D) {ℓ : Loc} {j : Nat} {vs : List V}, datL ds = true → RepL K w ds ℓ j vs → DpAll K w.H vs (pyL ds)
  | [], _, _, _, _, h => by simp only [RepL] at h; subst h; exact .nil
  | d :: ds, _, _, _, k, h => by
    simp only [RepL] at h
    obtain ⟨v, r, rfl, h1, h2⟩ := h
    simp only [datL, Bool.and_eq_true] at k
    exact .cons (rep_dp wf d k.1 h1) (rep_dps wf ds k.2 h2)
end
def dEqB (neg : Bool) : DO
  | .int a, .int b, Q => Q (.bl (neg ^^ decide (a = b)))
  | .str a, .str b, Q => Q (.bl (neg ^^ decide (a = b)))
  | a, b, Q => a.dat = true ∧ b.dat = true ∧ min a.dep b.dep ≤ 60 ∧ Q (.bl (neg ^^ deq a b))
abbrev dEq : DO := dEqB false
abbrev dNe : DO := dEqB true
def rEqP (K : PySem.W.Frag) (neg : Bool) : R2 := fun x y H Q => ∃ d e, Dp K H x d ∧ Dp K H y e ∧ d.plain = true ∧ e.plain = true ∧ min d.depth e.depth ≤ 60 ∧ Q (.bl (neg ^^ PyData.eqv d e)) H
theorem op_eqP {X : Cx} (hu : X.A.units + 64 < cLine) : OpR X (compareOp .Eq) (rEqP X.K false) := by
  intro pins s σ H x y v u Q I rx ry h
  obtain ⟨d, e, hd, he, sd, se, hm, q⟩ := h
  obtain ⟨as, r1⟩ := Dp.reads I d x v hd rx
  obtain ⟨bs, r2⟩ := Dp.reads I e y u he ry
  exact SeqAt.eq_plain r1 r2 sd se (by omega) ⟨.bl _, H, I, by rw [Bool.false_xor]; rfl, q⟩
theorem op_neP {X : Cx} (hu : X.A.units + 64 < cLine) : OpR X (compareOp .NotEq) (rEqP X.K true) := by
  intro pins s σ H x y v u Q I rx ry h
  obtain ⟨d, e, hd, he, sd, se, hm, q⟩ := h
  obtain ⟨as, r1⟩ := Dp.reads I d x v hd rx
  obtain ⟨bs, r2⟩ := Dp.reads I e y u he ry
  exact SeqAt.ne_plain r1 r2 sd se (by omega) ⟨.bl _, H, I, by rw [Bool.true_xor]; rfl, q⟩
theorem dEq_get {neg : Bool} {a b : D} {Q : D → Prop} (h : dEqB neg a b Q) : a.dat = true ∧ b.dat = true ∧ min a.dep b.dep ≤ 60 ∧ Q (.bl (neg ^^ deq a b)) := by
  unfold dEqB at h
  split at h
  · refine ⟨rfl, rfl, by simp [D.dep], ?_⟩
    have e : ∀ a b : Int, deq (.int a) (.int b) = decide (a = b) := fun a b => by simp [deq, D.py, PyData.eqv, Bool.beq_eq_decide_eq]
    rw [e]; exact h
  · refine ⟨rfl, rfl, by simp [D.dep], ?_⟩
    have e : ∀ a b : Str, deq (.str a) (.str b) = decide (a = b) := fun a b => by simp [deq, D.py, PyData.eqv, Bool.beq_eq_decide_eq]
    rw [e]; exact h
  · exact h
theorem sok_eq {K : PySem.W.Frag} {neg : Bool} : SOK K (rEqP K neg) (dEqB neg) := by
  intro τ w σ ρ x y dx dy ℓ ℓ' Q Qv hn st rx ry hq hv
  obtain ⟨h1, h2, h3, q⟩ := dEq_get hq
  exact ⟨_, _, rep_dp st.wf dx h1 rx, rep_dp st.wf dy h2 ry, py_plain _ h1, py_plain _ h2, by rw [py_dep _ h1, py_dep _ h2]; exact h3, hv _ w _ q (.refl st) rfl⟩
section
variable {X : Cx}
theorem fop_eq (hu : X.A.units + 64 < cLine) : FOp X (compareOp .Eq) dEq := ⟨_, op_eqP hu, sok_eq⟩
theorem fop_ne (hu : X.A.units + 64 < cLine) : FOp X (compareOp .NotEq) dNe := ⟨_, op_neP hu, sok_eq⟩
end
def isNon : D → Option Bool
  | .non => some true
  | .any => none
  | _ => some false
def rIsN (neg : Bool) (ra : RO) : RE := fun ρ E Q => ra ρ E fun x ρ1 => on1 ρ1 x fun dx => match isNon dx with
  | some b => Q (.bl (neg ^^ b)) ρ1
  | none => False
theorem isNon_rep {K : PySem.W.Frag} {w : Wd} {d : D} {ℓ : Loc} {v : V} (h : Rep K w d ℓ v) {b : Bool} (e : isNon d = some b) : decide (v = .non) = b := by
  cases d with
  | any => cases e
  | non => simp only [Rep] at h; subst h; cases e; rfl
  | bl b => simp only [Rep] at h; subst h; cases e; rfl
  | int b => simp only [Rep] at h; subst h; cases e; rfl
  | str b => simp only [Rep] at h; subst h; cases e; rfl
  | obj b => simp only [Rep] at h; subst h; cases e; rfl
  | ty b => simp only [Rep] at h; subst h; cases e; rfl
  | tup o ds => simp only [Rep] at h; obtain ⟨a, vs, rfl, _⟩ := h; cases e; rfl
  | lst o ds => simp only [Rep] at h; obtain ⟨a, vs, rfl, _⟩ := h; cases e; rfl
  | ro t ds => simp only [Rep] at h; obtain ⟨a, vs, rfl, _⟩ := h; cases e; rfl
  | dct o t ks ds => simp only [Rep] at h; obtain ⟨a, vs, rfl, _⟩ := h; cases e; rfl
  | ins o C fs ds => simp only [Rep] at h; obtain ⟨a, vs, rfl, _⟩ := h; cases e; rfl
section
variable {X : Cx} {W : WX} {a b : Expr} {ra rb : RO} {pos p2 : Pos} {j : Nat}
theorem fe_isN (ha : FO X W a ra) : FE X W (.Compare a [.Is] [.Constant .none j p2] pos) (rIsN false ra) := by
  obtain ⟨t, p, s⟩ := ha.ex
  refine ⟨_, pe_cmp (pc_isN p), fun τ w σ ρ E Q Qv hn st h hq hx => ?_⟩
  refine s τ w σ ρ E _ _ hn st h (fun x ρ1 w1 v1 h1 e1 r1 => ?_) hx
  obtain ⟨dx, ex, h1⟩ := on1_elim h1
  obtain ⟨ℓ, rx⟩ := ad_get e1.st r1 ex
  split at h1
  · rename_i bb eb
    rw [isNon_rep rx eb]
    exact hq _ _ _ _ h1 e1 (by rw [Bool.false_xor]; rfl)
  · exact h1.elim
end
def keyEq (t : Bool) (a b : D) : Bool := if t then decide (tkey a = tkey b) else decide (skey a = skey b)
def kIdx (t : Bool) (ks : List D) (k : D) : Option Nat := ks.findIdx? fun k' => keyEq t k' k
def dLook (t : Bool) (ks ds : List D) (k : D) : Option D := (kIdx t ks k).bind fun i => ds[i]?
def pick (o : Option D) (Q : D → Prop) : Prop := match o with
  | some d => match d.own with
    | false => Q d
    | true => False
  | none => False
theorem pick_elim {o : Option D} {Q : D → Prop} (h : pick o Q) : ∃ d, o = some d ∧ d.own = false ∧ Q d := by
  unfold pick at h
  split at h
  · split at h
    · rename_i d _ e
      exact ⟨d, rfl, e, h⟩
    · exact h.elim
  · exact h.elim
theorem pick_of {o : Option D} {Q : D → Prop} {d : D} (h : o = some d) (ho : d.own = false) (q : Q d) : pick o Q := by
  subst h
  unfold pick
  simp only [ho]
  exact q
def dIx : DO
  | .lst _ ds, .int k, Q => pick (atI ds k) Q
  | .ro _ ds, .int k, Q => pick (atI ds k) Q
  | .tup _ ds, .int k, Q => pick (atI ds k) Q
  | .str z, .int k, Q => z.length ≤ sizeLine ∧ match atI z.cps.toList k with
    | some c => Q (.str ⟨#[c]⟩)
    | none => False
  | .dct _ t ks ds, k, Q => keyOk t k = true ∧ pick (dLook t ks ds k) Q
  | _, _, _ => False
theorem valV_zip {κ : Type} [DecidableEq κ] (f : D → κ) (k : D) : ∀ (ks : List D) (vs : List V), valV ((ks.map f).zip vs) (f k) = (ks.findIdx? fun k' => decide (f k' = f k)).bind fun i => vs[i]?
  | [], _ => by simp [valV]
  | a :: ks, [] => by simp [valV]
  | a :: ks, v :: vs => by
    rw [List.map_cons, List.zip_cons_cons, List.findIdx?_cons]
    by_cases e : f a = f k
    · rw [valV_pos (by exact e), if_pos (by simpa using e)]; rfl
    · rw [valV_neg (by exact e), if_neg (by simpa using e), valV_zip f k ks vs]
      cases (ks.findIdx? fun k' => decide (f k' = f k)) <;> rfl
theorem rep_skey {K : PySem.W.Frag} {w : Wd} {k : D} {ℓ : Loc} {v : V} (h : Rep K w k ℓ v) (hk : isSKey k = true) : v = kV (skey k) := by
  cases k with
  | int i => exact h
  | str s => exact h
  | _ => simp [isSKey] at hk
theorem repl_skeys {K : PySem.W.Frag} {w : Wd} : ∀ {ks : List D} {ℓ : Loc} {j : Nat} {vs : List V}, RepL K w ks ℓ j vs → ks.all isSKey = true → vs = (ks.map skey).map kV
  | [], _, _, _, h, _ => by simp only [RepL] at h; subst h; rfl
  | k :: ks, _, _, _, h, hk => by
    simp only [RepL] at h
    obtain ⟨v, r, rfl, h1, h2⟩ := h
    simp only [List.all_cons, Bool.and_eq_true] at hk
    rw [rep_skey h1 hk.1, repl_skeys h2 hk.2]; rfl
/-- a tuple that H tracks by itself (not one of the written part): keys of dicts -/
theorem DGet.of {K : PySem.W.Frag} {w : Wd} (wf : Wf w) {a : Addr} {t : Bool} {ks : List D} {us : List V} {k : D} {ℓ : Loc} {y : V} (h : Rd w.H a (dHO t ks us)) (hl : ks.length = us.length) (hk : keyOk t k = true) (ry : Rep K w k ℓ y)
    (ht : t = true → ∃ b, y = .ref b ∧ w.H b = some (.tup ((tkey k).map kV))) : DGet w.H a y ((kIdx t ks k).bind fun i => us[i]?) := by
  cases t with
  | false =>
    have hk : isSKey k = true := hk
    rw [rep_skey ry hk]
    have e : ((kIdx false ks k).bind fun i => us[i]?) = valV ((ks.map skey).zip us) (skey k) := (valV_zip skey k ks us).symm
    rw [e]
    exact .inl ⟨(ks.map skey).zip us, _, h, rfl, rfl⟩
  | true =>
    obtain ⟨b, rfl, hb⟩ := ht rfl
    have e : ((kIdx true ks k).bind fun i => us[i]?) = valV ((ks.map tkey).zip us) (tkey k) := (valV_zip tkey k ks us).symm
    rw [e]
    exact .inr ⟨(ks.map tkey).zip us, _, b, h, rfl, hb, rfl⟩
end FL
namespace FL
open PySem PySem.Spec PyProof.Rows L2
theorem ix_dict {X : Cx} (hu : X.A.units + 1 < cLine) : IxR X (fun x y H Q => ∃ a v, x = .ref a ∧ DGet H a y (some v) ∧ Q v H) := by
  intro value slice pins s σ H x y v u Q I rx ry h hs
  obtain ⟨a, z, rfl, g, q⟩ := h
  obtain rfl : v = Value.ref a := rx
  have hT := dict_typeIs I g
  unfold subscriptTail
  refine wpAny_bind ?_
  rw [getitemInPython_of_ne hT.not_modules]
  refine wpAny_bind (wpAny_specialOf hT PySem.F.slot_dict_getitem.lookup ?_)
  have fin : wpAny (model X.prog X.w) X.A (subscripted slice false (.ref a) u) (fun r s₃ => wpAny (model X.prog X.w) X.A (letTemporaryGo value (.ref a) r >>= fun _ => pure r) (EP X pins σ Q) X.xe s₃) X.xe s := by
    rw [hs]
    refine wpAny_operating (wpAny_mono (d_getItem hu I g ry fun w' s3 I3 rw' => (⟨z, H, I3, rw', q⟩ : EP X pins σ Q w' s3)) (fun r s₃ h₃ => wpAny_bind (wpAny_letTemporaryGo (wpAny_pure h₃))) fun _ _ x => x)
  first
    | exact wpAny_pure (wpAny_bind fin)
    | exact wpAny_bind (wpAny_pure (wpAny_bind fin))
    | exact wpAny_bind fin
theorem atI_map {α β : Type} {xs : List α} {ys : List β} (hl : xs.length = ys.length) {i : Int} {x : α} (h : atI xs i = some x) : ∃ j, xs[j]? = some x ∧ j < ys.length ∧ ∀ y, ys[j]? = some y → atI ys i = some y := by
  unfold atI at h ⊢
  rw [← hl]
  cases e : ixN xs.length i with
  | none => rw [e] at h; cases h
  | some j =>
    rw [e] at h
    have h : xs[j]? = some x := h
    exact ⟨j, h, (List.getElem?_eq_some_iff.mp h).1, fun y hy => hy⟩
theorem RepL.at {K : PySem.W.Frag} {w : Wd} {ds : List D} {ℓ : Loc} {vs : List V} {i : Int} {d : D} (h : RepL K w ds ℓ 0 vs) (e : atI ds i = some d) (ho : d.own = false) : ∃ v, atI vs i = some v ∧ ∀ τ, Rep K w d [τ] v := by
  obtain ⟨j, e1, _, e2⟩ := atI_map h.length.symm e
  obtain ⟨v, e3, r⟩ := h.get e1
  exact ⟨v, e2 v e3, fun τ => r.free (Same.refl _) d ho⟩
theorem dct_at {K : PySem.W.Frag} {w : Wd} (wf : Wf w) {o : Ow} {t : Bool} {ks ds : List D} {ℓ : Loc} {v : V} (h : Rep K w (.dct o t ks ds) ℓ v) : ∃ a vs, v = .ref a ∧ Rd w.H a (dHO t ks vs) ∧ ks.length = vs.length ∧ keysOk t ks = true ∧ RepL K w ds ℓ 0 vs := by
  simp only [Rep] at h
  obtain ⟨a, vs, e, h1, ⟨h3, h4, _⟩, h2⟩ := h
  cases q : o.mine with
  | true => rw [q] at h1; exact ⟨a, vs, e, .inl h1.2, h3, h4, h2⟩
  | false => rw [q] at h1; exact ⟨a, vs, e, rd_same wf.sh h1, h3, h4, h2⟩
theorem rep_tkey {K : PySem.W.Frag} {w : Wd} (wf : Wf w) {k : D} {ℓ : Loc} {v : V} (h : Rep K w k ℓ v) (hk : isTKey k = true) : ∃ b, v = .ref b ∧ w.H b = some (.tup ((tkey k).map kV)) := by
  cases k with
  | tup o ds =>
    obtain ⟨a, vs, rfl, h1, h2⟩ := tup_at wf h
    exact ⟨a, rfl, by rw [h1, repl_skeys h2 hk]; rfl⟩
  | _ => simp [isTKey] at hk
theorem dct_get {K : PySem.W.Frag} {w : Wd} (wf : Wf w) {o : Ow} {t : Bool} {ks ds : List D} {k : D} {ℓ ℓ' : Loc} {v y : V} (h : Rep K w (.dct o t ks ds) ℓ v) (ry : Rep K w k ℓ' y) (hk : keyOk t k = true) :
    ∃ a, v = .ref a ∧ ((∀ d, dLook t ks ds k = some d → ∃ z i, DGet w.H a y (some z) ∧ Rep K w d (ℓ ++ [i]) z) ∧ (dLook t ks ds k = none → DGet w.H a y none)) := by
  obtain ⟨a, vs, rfl, h1, h3, h4, h2⟩ := dct_at wf h
  have g := DGet.of wf h1 h3 hk ry (fun e => by subst e; exact rep_tkey wf ry hk)
  refine ⟨a, rfl, fun d e => ?_, fun e => ?_⟩
  · unfold dLook at e
    cases q : kIdx t ks k with
    | none => rw [q] at e; cases e
    | some i =>
      rw [q] at e g
      obtain ⟨z, e1, r⟩ := h2.get e
      refine ⟨z, 0 + i, ?_, r⟩
      rw [show ((some i).bind fun i => vs[i]?) = some z from e1] at g
      exact g
  · unfold dLook at e
    cases q : kIdx t ks k with
    | none => rw [q] at g; exact g
    | some i =>
      rw [q] at e g
      have e : ds[i]? = none := e
      rw [show ((some i).bind fun i => vs[i]?) = none from by
        show vs[i]? = none
        rw [List.getElem?_eq_none_iff] at e ⊢
        rw [h2.length]; exact e] at g
      exact g
section
variable {X : Cx} {W : WX} {a b : Expr} {ra rb : RO} {pos : Pos}
theorem fe_ix (hu : X.A.units + 1 < cLine) (ha : FO X W a ra) (hb : FO X W b rb) (hs : PlainIx b := by exact fun _ _ => rfl) : FE X W (.Subscript a b pos) (rBin dIx ra rb) := by
  obtain ⟨ta, pa, sa⟩ := ha.ex
  obtain ⟨tb, pb, sb⟩ := hb.ex
  refine ⟨_, pe_ix (ix_seq.or (ix_dict hu)) pa pb hs, so_bin sa sb fun τ w σ ρ x y dx dy ℓ ℓ' Q Qv hn st rx ry hq hv => ?_⟩
  unfold dIx at hq
  split at hq
  · rename_i o ds k
    obtain ⟨a, vs, rfl, h1, h2⟩ := lst_at st.wf rx
    obtain ⟨d, e, ho, q⟩ := pick_elim hq
    obtain ⟨z, e1, r⟩ := h2.at e ho
    simp only [Rep] at ry
    subst ry
    exact .inl (.inl ⟨a, vs, k, z, rfl, rfl, SqL.of h1, e1, hv _ w _ q (.refl st) (r τ)⟩)
  · rename_i t ds k
    simp only [Rep] at rx ry
    obtain ⟨a, vs, rfl, h1, _, h2⟩ := rx
    obtain ⟨d, e, ho, q⟩ := pick_elim hq
    obtain ⟨z, e1, r⟩ := h2.at e ho
    subst ry
    cases t with
    | true => exact .inl (.inr (.inl ⟨a, vs, k, z, rfl, rfl, same_rdT st.wf.sh h1, e1, hv _ w _ q (.refl st) (r τ)⟩))
    | false => exact .inl (.inl ⟨a, vs, k, z, rfl, rfl, st.wf.sh.seq h1, e1, hv _ w _ q (.refl st) (r τ)⟩)
  · rename_i o ds k
    obtain ⟨a, vs, rfl, h1, h2⟩ := tup_at st.wf rx
    obtain ⟨d, e, ho, q⟩ := pick_elim hq
    obtain ⟨z, e1, r⟩ := h2.at e ho
    simp only [Rep] at ry
    subst ry
    exact .inl (.inr (.inl ⟨a, vs, k, z, rfl, rfl, SqT.of h1, e1, hv _ w _ q (.refl st) (r τ)⟩))
  · rename_i z k
    simp only [Rep] at rx ry
    subst rx; subst ry
    obtain ⟨hz, q⟩ := hq
    split at q
    · rename_i c e
      exact .inl (.inr (.inr ⟨z, k, c, rfl, rfl, hz, e, hv _ w _ q (.refl st) rfl⟩))
    · exact q.elim
  · rename_i o t ks ds
    obtain ⟨hk, hq⟩ := hq
    obtain ⟨d, e, ho, q⟩ := pick_elim hq
    obtain ⟨a, rfl, g, _⟩ := dct_get st.wf rx ry hk
    obtain ⟨z, i, g, r⟩ := g d e
    exact .inr ⟨a, z, rfl, g, hv _ w _ q (.refl st) (r.free (Same.refl _) d ho)⟩
  · exact hq.elim
end
def rA0 : RA := fun ρ _ Q => Q [] ρ
def rAC (r : RO) (rs : RA) : RA := fun ρ E Q => r ρ E fun a ρ1 => rs ρ1 E fun as ρ2 => Q (a :: as) ρ2
theorem ArgsAt.cons {K : PySem.W.Frag} {w : Wd} {σ : Sl} {a : AD} {as : List AD} {τ : Nat} {v : V} {vs : List V} (h : AdAt K w σ a τ v) (g : ArgsAt K w σ as (τ + 1) vs) : ArgsAt K w σ (a :: as) τ (v :: vs) := by
  cases a with
  | val d => exact ⟨v, vs, rfl, h, g⟩
  | brw i => exact ⟨v, vs, rfl, h, g⟩
section
variable {X : Cx} {W : WX} {e : Expr} {es : List Expr} {r : RO} {rs : RA} {pos : Pos}
theorem fa_nil : FA X W [] rA0 := ⟨_, pa_nil, fun τ w σ ρ E Q Qv hn st h hq hx => hq _ _ _ _ h rfl (.refl st) rfl⟩
theorem fa_cons (h : FO X W e r) (g : FA X W es rs) (hs : starEach (e :: es) X.env = (false, eval e X.env) :: starEach es X.env := by rfl) : FA X W (e :: es) (rAC r rs) := by
  obtain ⟨t, p, s⟩ := h.ex
  obtain ⟨ts, ps, ss⟩ := g.ex
  refine ⟨_, pa_cons p ps hs, fun τ w σ ρ E Q Qv hn st h hq hx => ?_⟩
  refine s τ w σ ρ E _ _ hn st h (fun a ρ1 w1 v1 h1 e1 r1 => ?_) hx
  refine ss (τ + 1) w1 σ ρ1 E _ _ (by rw [e1.len]; omega) e1.st h1 (fun as ρ2 w2 vs h2 hl e2 r2 => ?_) (hx.then e1 (Nat.le_succ _))
  exact hq _ _ _ _ h2 (by rw [List.length_cons, List.length_cons, hl]) (e1.trans e2 (Nat.le_succ _)) (.cons (r1.later (by rw [e1.len]; exact hn) e2) r2)
end
def vals : List AD → Option (List D)
  | [] => some []
  | .val d :: r => match vals r with
    | some ds => some (d :: ds)
    | none => none
  | .brw _ :: _ => none
def onVals (ads : List AD) (k : List D → Prop) : Prop := match vals ads with
  | some ds => k ds
  | none => False
theorem onVals_elim {ads : List AD} {k : List D → Prop} (h : onVals ads k) : ∃ ds, vals ads = some ds ∧ k ds := by
  unfold onVals at h
  split at h
  · exact ⟨_, by assumption, h⟩
  · exact h.elim
theorem vals_at {K : PySem.W.Frag} {w : Wd} {σ : Sl} : ∀ {ads : List AD} {τ : Nat} {vs : List V} {ds : List D}, ArgsAt K w σ ads τ vs → vals ads = some ds → vs.length = ds.length ∧ ds.length = ads.length ∧ ∀ i d v, ds[i]? = some d → vs[i]? = some v → Rep K w d [τ + i] v
  | [], _, _, _, h, e => by simp only [vals] at e; cases e; simp only [ArgsAt] at h; subst h; simp
  | .brw _ :: _, _, _, _, _, e => by simp only [vals] at e; cases e
  | .val d :: r, τ, vs, ds, h, e => by
    simp only [ArgsAt] at h
    obtain ⟨v, us, rfl, h1, h2⟩ := h
    simp only [vals] at e
    split at e
    · rename_i ds' e'
      cases e
      obtain ⟨l1, l2, g⟩ := vals_at h2 e'
      refine ⟨by simpa using l1, by simpa using l2, fun i d' v' e1 e2 => ?_⟩
      cases i with
      | zero => cases e1; cases e2; exact h1
      | succ i =>
        have := g i d' v' (by simpa using e1) (by simpa using e2)
        rw [show τ + 1 + i = τ + (i + 1) by omega] at this
        exact this
    · cases e
theorem gather_reps {K : PySem.W.Frag} {w : Wd} {σ : Sl} {ads : List AD} {τ : Nat} {vs : List V} {ds : List D} (h : ArgsAt K w σ ads τ vs) (e : vals ads = some ds) : RepL K (w.ren (gather τ ds.length)) ds [τ] 0 vs := by
  obtain ⟨l1, _, g⟩ := vals_at h e
  refine RepL.of l1 fun i d v e1 e2 => ?_
  have hi := (List.getElem?_eq_some_iff.mp e1).1
  refine (g i d v e1 e2).ren fun s => ?_
  have := gather_at (τ := τ) hi s
  simpa using this
def rTup (ra : RA) : RE := fun ρ E Q => ra ρ E fun ads ρ' => onVals ads fun ds => Q (.tup (ownL ds) ds) ρ'
def rLst (ra : RA) : RE := fun ρ E Q => ra ρ E fun ads ρ' => onVals ads fun ds => Q (.lst (Ow.of (ownL ds)) ds) ρ'
section
variable {X : Cx} {W : WX} {es : List Expr} {ra : RA} {pos : Pos}
theorem fe_tup {k : Nat} (h : FA X W es ra) (hl : decide (es.length ≤ 1000) = true := by rfl) : FE X W (.Tuple es k pos) (rTup ra) := by
  obtain ⟨t, p, s⟩ := h.ex
  refine ⟨_, pe_tup p, fun τ w σ ρ E Q Qv hn st h hq hx => ?_⟩
  refine s τ w σ ρ E _ _ hn st h (fun ads ρ1 w1 vs h1 l1 e1 r1 => ?_) hx
  obtain ⟨ds, ev, q⟩ := onVals_elim h1
  obtain ⟨l2, l3, _⟩ := vals_at r1 ev
  refine ⟨by have := of_decide_eq_true hl; rw [l2, l3, l1]; exact Nat.le_of_lt (small1000 this), fun p n => ?_⟩
  have er := EndE.ren (τ := τ) e1.st (gather_calm (k := ds.length) (by rw [e1.len]; exact hn))
  obtain ⟨e2, r2⟩ := EndE.tup (τ := τ) (ownL ds) er.st (p := p) n (gather_reps r1 ev) (by have := of_decide_eq_true hl; rw [l3, l1]; exact Nat.le_of_lt (small1000 this)) (fun z => z)
  exact hq _ ρ1 _ _ q ((e1.trans er (Nat.le_refl _)).trans e2 (Nat.le_refl _)) r2
theorem fe_lst (h : FA X W es ra) (hl : decide (es.length ≤ 1000) = true := by rfl) : FE X W (.List es pos) (rLst ra) := by
  obtain ⟨t, p, s⟩ := h.ex
  refine ⟨_, pe_lst p, fun τ w σ ρ E Q Qv hn st h hq hx => ?_⟩
  refine s τ w σ ρ E _ _ hn st h (fun ads ρ1 w1 vs h1 l1 e1 r1 => ?_) hx
  obtain ⟨ds, ev, q⟩ := onVals_elim h1
  obtain ⟨l2, l3, _⟩ := vals_at r1 ev
  refine ⟨by have := of_decide_eq_true hl; rw [l2, l3, l1]; exact Nat.le_of_lt (small1000 this), fun p n => ?_⟩
  have er := EndE.ren (τ := τ) e1.st (gather_calm (k := ds.length) (by rw [e1.len]; exact hn))
  obtain ⟨e2, r2⟩ := EndE.own (τ := τ) (Ow.of (ownL ds)) er.st (p := p) n (gather_reps r1 ev) (by have := of_decide_eq_true hl; rw [l3, l1]; exact Nat.le_of_lt (small1000 this)) (fun z => by cases q : ownL ds with | false => rfl | true => rw [q] at z; cases z) (by cases ownL ds <;> rfl)
  exact hq _ ρ1 _ _ q ((e1.trans er (Nat.le_refl _)).trans e2 (Nat.le_refl _)) r2
end
def RepsAny (K : PySem.W.Frag) (w : Wd) : List D → List V → Prop
  | [], vs => vs = []
  | d :: ds, vs => ∃ v us, vs = v :: us ∧ (∃ ℓ, Rep K w d ℓ v) ∧ RepsAny K w ds us
def adsD (ρ : En) : List AD → Option (List D)
  | [] => some []
  | a :: r => match adD ρ a with
    | some d => match adsD ρ r with
      | some ds => some (d :: ds)
      | none => none
    | none => none
def onAds (ρ : En) (ads : List AD) (k : List D → Prop) : Prop := match adsD ρ ads with
  | some ds => k ds
  | none => False
theorem onAds_elim {ρ : En} {ads : List AD} {k : List D → Prop} (h : onAds ρ ads k) : ∃ ds, adsD ρ ads = some ds ∧ k ds := by
  unfold onAds at h
  split at h
  · exact ⟨_, by assumption, h⟩
  · exact h.elim
theorem ads_any {K : PySem.W.Frag} {w : Wd} {σ : Sl} {ρ : En} (st : StE K w σ ρ) : ∀ {ads : List AD} {τ : Nat} {vs : List V} {ds : List D}, ArgsAt K w σ ads τ vs → adsD ρ ads = some ds → RepsAny K w ds vs
  | [], _, _, _, h, e => by simp only [adsD] at e; cases e; exact h
  | a :: r, τ, vs, ds, h, e => by
    obtain ⟨v, us, rfl, h1, h2⟩ : ∃ v us, vs = v :: us ∧ AdAt K w σ a τ v ∧ ArgsAt K w σ r (τ + 1) us := by
      cases a with
      | val d => exact h
      | brw i => exact h
    simp only [adsD] at e
    split at e
    · rename_i d e1
      split at e
      · rename_i ds' e2
        cases e
        exact ⟨v, us, rfl, ad_get st h1 e1, ads_any st h2 e2⟩
      · cases e
    · cases e
abbrev DC := List D → (D → Prop) → Prop
def SCK (K : PySem.W.Frag) (r : List V → Hp → VK → Prop) (dc : DC) : Prop :=
  ∀ (τ : Nat) (w : Wd) (σ : Sl) (ρ : En) (vs : List V) (ds : List D) (Q : D → Prop) (Qv : VK), ρ.length < τ → StE K w σ ρ → RepsAny K w ds vs → dc ds Q →
    (∀ d w' v, Q d → EndE K τ w σ ρ ρ w' → Rep K w' d [τ] v → Qv v w'.H) → r vs w.H Qv
structure FC (X : Cx) (f : Value) (dc : DC) : Prop where
  ex : ∃ r, CallR X f r ∧ SCK X.K r dc
theorem FC.or {X : Cx} {f : Value} {p q : DC} (h : FC X f p) (g : FC X f q) : FC X f (fun a Q => p a Q ∨ q a Q) := by
  obtain ⟨r, h1, h2⟩ := h.ex
  obtain ⟨r', g1, g2⟩ := g.ex
  refine ⟨_, h1.or g1, fun τ w σ ρ vs ds Q Qv hn st rs hd hq => ?_⟩
  rcases hd with hd | hd
  · exact .inl (h2 τ w σ ρ vs ds Q Qv hn st rs hd hq)
  · exact .inr (g2 τ w σ ρ vs ds Q Qv hn st rs hd hq)
theorem FC.imp {X : Cx} {f : Value} {p q : DC} (h : FC X f p) (g : ∀ a Q, q a Q → p a Q) : FC X f q := by
  obtain ⟨r, h1, h2⟩ := h.ex
  exact ⟨r, h1, fun τ w σ ρ vs ds Q Qv hn st rs hd hq => h2 τ w σ ρ vs ds Q Qv hn st rs (g _ _ hd) hq⟩
def rCB (dc : DC) (ra : RA) : RE := fun ρ E Q => ra ρ E fun ads ρ' => onAds ρ' ads fun ds => dc ds fun d => Q d ρ'
section
variable {X : Cx} {W : WX} {x : Str} {p pos : Pos} {e : Expr} {es : List Expr} {ra : RA} {id T : String} {dc : DC}
theorem se_cb {K : PySem.W.Frag} {k : Nat} {t : TA} {r : List V → Hp → VK → Prop} (sa : SA K W k t ra) (sc : SCK K r dc) : SE K W (tCB r t) (rCB dc ra) := by
  intro τ w σ ρ E Q Qv hn st h hq hx
  refine sa τ w σ ρ E _ _ hn st h (fun ads ρ1 w1 vs h1 l1 e1 r1 => ?_) hx
  obtain ⟨ds, ev, q⟩ := onAds_elim h1
  exact sc τ w1 σ ρ1 vs ds _ _ (by rw [e1.len]; exact hn) e1.st (ads_any e1.st r1 ev) q fun d w2 v q2 e2 r2 => hq d ρ1 w2 v q2 (e1.trans e2 (Nat.le_refl _)) r2
theorem fe_callB (hc : FC X (.builtin id) dc) (hm : X.mg x = none) (hv : bootBuiltins x = some (.builtin id)) (ha : FA X W (e :: es) ra) (hg : Gl X x := by rfl) (hn : x ≠ "__name__" := by decide) (hdb : (x == ("__debug__" : Str)) = false := by decide)
    (he : starEach (e :: es) X.env = (false, eval e X.env) :: starEach es X.env := by rfl) (hpl : (backTo pos (starEach es X.env)).any (·.1) = false := by rfl) : FE X W (.Call (.Name x p) (e :: es) [] pos) (rCB dc ra) := by
  obtain ⟨r, h1, h2⟩ := hc.ex
  obtain ⟨t, pa, sa⟩ := ha.ex
  exact ⟨_, pe_callB h1 hg hm hv pa hn hdb he hpl, se_cb sa h2⟩
theorem fe_callTy (hc : FC X (.type T) dc) (hm : X.mg x = none) (hv : bootBuiltins x = some (.type T)) (ha : FA X W (e :: es) ra) (hg : Gl X x := by rfl) (hn : x ≠ "__name__" := by decide) (hdb : (x == ("__debug__" : Str)) = false := by decide)
    (he : starEach (e :: es) X.env = (false, eval e X.env) :: starEach es X.env := by rfl) (hpl : (backTo pos (starEach es X.env)).any (·.1) = false := by rfl) : FE X W (.Call (.Name x p) (e :: es) [] pos) (rCB dc ra) := by
  obtain ⟨r, h1, h2⟩ := hc.ex
  obtain ⟨t, pa, sa⟩ := ha.ex
  exact ⟨_, pe_callTy h1 hg hm hv pa hn hdb he hpl, se_cb sa h2⟩
end
def dLen : DC
  | [.lst _ ds], Q => Q (.int ds.length)
  | [.ro _ ds], Q => Q (.int ds.length)
  | [.tup _ ds], Q => Q (.int ds.length)
  | [.str z], Q => z.length ≤ sizeLine ∧ Q (.int z.length)
  | _, _ => False
def dAbs : DC
  | [.int i], Q => Q (.int (if i < 0 then -i else i))
  | _, _ => False
def dMax2 : DC
  | [.int i, .int j], Q => Q (.int (if j > i then j else i))
  | _, _ => False
def dMin2 : DC
  | [.int i, .int j], Q => Q (.int (if j < i then j else i))
  | _, _ => False
def dInt : DC
  | [.int i], Q => Q (.int i)
  | [.bl k], Q => Q (.int (if k then 1 else 0))
  | _, _ => False
def dTuple : DC
  | [.lst o ds], Q => match o with
    | .deep => False
    | _ => Q (.tup false ds)
  | [.tup false ds], Q => Q (.tup false ds)
  | _, _ => False
section
variable {X : Cx}
theorem reps1 {K : PySem.W.Frag} {w : Wd} {d : D} {vs : List V} (h : RepsAny K w [d] vs) : ∃ v ℓ, vs = [v] ∧ Rep K w d ℓ v := by
  obtain ⟨v, us, rfl, ⟨ℓ, r⟩, h2⟩ := h
  simp only [RepsAny] at h2
  subst h2
  exact ⟨v, ℓ, rfl, r⟩
theorem reps2 {K : PySem.W.Frag} {w : Wd} {d e : D} {vs : List V} (h : RepsAny K w [d, e] vs) : ∃ v u ℓ ℓ', vs = [v, u] ∧ Rep K w d ℓ v ∧ Rep K w e ℓ' u := by
  obtain ⟨v, us, rfl, ⟨ℓ, r⟩, h2⟩ := h
  obtain ⟨u, ℓ', rfl, r'⟩ := reps1 h2
  exact ⟨v, u, ℓ, ℓ', rfl, r, r'⟩
theorem fc_len : FC X (.builtin "len") dLen := by
  refine ⟨_, call_len, fun τ w σ ρ vs ds Q Qv hn st rs hd hq => ?_⟩
  unfold dLen at hd
  split at hd
  · obtain ⟨v, ℓ, rfl, r⟩ := reps1 rs
    obtain ⟨a, us, rfl, h1, h2⟩ := lst_at st.wf r
    exact ⟨.ref a, _, rfl, .inl ⟨us, SqL.of h1, rfl⟩, hq _ w _ hd (.refl st) (by rw [h2.length]; rfl)⟩
  · rename_i t ds
    obtain ⟨v, ℓ, rfl, r⟩ := reps1 rs
    simp only [Rep] at r
    obtain ⟨a, us, rfl, h1, hz, h2⟩ := r
    refine ⟨.ref a, _, rfl, ?_, hq _ w _ hd (.refl st) (by rw [← h2.length]; rfl)⟩
    cases t with
    | true => exact .inr ⟨us, same_rdT st.wf.sh h1, rfl⟩
    | false => exact .inl ⟨us, st.wf.sh.seq h1, rfl⟩
  · obtain ⟨v, ℓ, rfl, r⟩ := reps1 rs
    obtain ⟨a, us, rfl, h1, h2⟩ := tup_at st.wf r
    exact ⟨.ref a, _, rfl, .inr ⟨us, SqT.of h1, rfl⟩, hq _ w _ hd (.refl st) (by rw [h2.length]; rfl)⟩
  · obtain ⟨v, ℓ, rfl, r⟩ := reps1 rs
    simp only [Rep] at r
    subst r
    exact ⟨_, _, rfl, ⟨hd.1, rfl⟩, hq _ w _ hd.2 (.refl st) rfl⟩
  · exact hd.elim
theorem fc_abs : FC X (.builtin "abs") dAbs := by
  refine ⟨_, call_abs, fun τ w σ ρ vs ds Q Qv hn st rs hd hq => ?_⟩
  unfold dAbs at hd
  split at hd
  · obtain ⟨v, ℓ, rfl, r⟩ := reps1 rs
    simp only [Rep] at r
    subst r
    exact ⟨_, rfl, hq _ w _ hd (.refl st) rfl⟩
  · exact hd.elim
theorem fc_max2 (hc : X.calm = true := by rfl) : FC X (.builtin "max") dMax2 := by
  refine ⟨_, call_max2 hc, fun τ w σ ρ vs ds Q Qv hn st rs hd hq => ?_⟩
  unfold dMax2 at hd
  split at hd
  · obtain ⟨v, u, ℓ, ℓ', rfl, r, r'⟩ := reps2 rs
    simp only [Rep] at r r'
    subst r; subst r'
    exact ⟨_, _, rfl, hq _ w _ hd (.refl st) rfl⟩
  · exact hd.elim
theorem fc_min2 (hc : X.calm = true := by rfl) : FC X (.builtin "min") dMin2 := by
  refine ⟨_, call_min2 hc, fun τ w σ ρ vs ds Q Qv hn st rs hd hq => ?_⟩
  unfold dMin2 at hd
  split at hd
  · obtain ⟨v, u, ℓ, ℓ', rfl, r, r'⟩ := reps2 rs
    simp only [Rep] at r r'
    subst r; subst r'
    exact ⟨_, _, rfl, hq _ w _ hd (.refl st) rfl⟩
  · exact hd.elim
theorem fc_int : FC X (.type "int") dInt := by
  refine ⟨_, call_int1, fun τ w σ ρ vs ds Q Qv hn st rs hd hq => ?_⟩
  unfold dInt at hd
  split at hd
  · obtain ⟨v, ℓ, rfl, r⟩ := reps1 rs
    simp only [Rep] at r
    subst r
    exact .inl ⟨_, rfl, hq _ w _ hd (.refl st) rfl⟩
  · obtain ⟨v, ℓ, rfl, r⟩ := reps1 rs
    simp only [Rep] at r
    subst r
    exact .inr ⟨_, rfl, hq _ w _ hd (.refl st) rfl⟩
  · exact hd.elim
theorem fc_tuple : FC X (.type "tuple") dTuple := by
  refine ⟨_, call_tuple_of, fun τ w σ ρ vs ds Q Qv hn st rs hd hq => ?_⟩
  unfold dTuple at hd
  split at hd
  · rename_i o ds
    obtain ⟨v, ℓ, rfl, r⟩ := reps1 rs
    have hz := lst_sz r
    obtain ⟨a, us, rfl, h1, h2⟩ := lst_at st.wf r
    have key : o.light = true → Q (.tup false ds) → ∀ l, w.H l = none → Qv (.ref l) (upd w.H l (.tup us)) := fun ho hd p n => by
      obtain ⟨e, r⟩ := EndE.tup (τ := τ) false st n (RepL.free (w' := w) (ℓ' := [τ]) (j' := 0) (Same.refl _) ds (hz.2 ho) h2) hz.1 (fun _ => hz.2 ho)
      exact hq _ _ _ hd e r
    refine ⟨a, us, rfl, .inl ⟨SqL.of h1, ?_⟩⟩
    cases o with
    | deep => exact hd.elim
    | flat => exact key rfl hd
    | ice => exact key rfl hd
  · rename_i ds
    obtain ⟨v, ℓ, rfl, r⟩ := reps1 rs
    obtain ⟨a, us, rfl, h1, h2⟩ := tup_at st.wf r
    exact ⟨a, us, rfl, .inr ⟨SqT.of h1, hq _ w _ hd (.refl st) (r.free (Same.refl _) _ rfl)⟩⟩
  · exact hd.elim
end
def rNot (r : RT) : RT := fun ρ E Q => r ρ E fun b ρ' => Q (!b) ρ'
def rAnd (r s : RT) : RT := fun ρ E Q => r ρ E fun b ρ1 => (b = true → s ρ1 E Q) ∧ (b = false → Q false ρ1)
def rOr (r s : RT) : RT := fun ρ E Q => r ρ E fun b ρ1 => (b = true → Q true ρ1) ∧ (b = false → s ρ1 E Q)
def rIfE (t : RT) (r s : RE) : RE := fun ρ E Q => t ρ E fun b ρ1 => (b = true → r ρ1 E Q) ∧ (b = false → s ρ1 E Q)
def rAndV (r s : RE) : RE := fun ρ E Q => r ρ E fun d ρ1 => match d with
  | .bl b => (b = true → s ρ1 E Q) ∧ (b = false → Q (.bl false) ρ1)
  | _ => False
def rNotV (r : RE) : RE := fun ρ E Q => r ρ E fun d ρ1 => match d with
  | .bl b => Q (.bl (!b)) ρ1
  | _ => False
section
variable {X : Cx} {W : WX} {a b c : Expr} {rest : List Expr} {r s : RT} {re se : RE} {pos : Pos}
theorem FW.ft (h : FW X W a r) : FT X W a r := by
  obtain ⟨t, p, k⟩ := h.ex
  exact ⟨t, p.pt, k⟩
theorem fw_and1 (h : FT X W a r) : FW X W (.BoolOp .And [a] pos) r := by
  obtain ⟨t, p, k⟩ := h.ex
  exact ⟨t, pw_and1 p, k⟩
theorem fw_or1 (h : FT X W a r) : FW X W (.BoolOp .Or [a] pos) r := by
  obtain ⟨t, p, k⟩ := h.ex
  exact ⟨t, pw_or1 p, k⟩
theorem fw_and (h : FT X W a r) (g : FW X W (.BoolOp .And (b :: rest) pos) s) : FW X W (.BoolOp .And (a :: b :: rest) pos) (rAnd r s) := by
  obtain ⟨t, p, k⟩ := h.ex
  obtain ⟨u, q, l⟩ := g.ex
  refine ⟨_, pw_and p q, fun τ w σ ρ E Q Qv hn st h hq hx => ?_⟩
  refine k τ w σ ρ E _ _ hn st h (fun b ρ1 w1 h1 e1 => ?_) hx
  cases b with
  | true =>
    rw [if_pos rfl]
    exact l τ w1 σ ρ1 E _ _ (by rw [e1.len]; exact hn) e1.st (h1.1 rfl) (fun b ρ2 w2 h2 e2 => hq b ρ2 w2 h2 (e1.trans e2 (Nat.le_refl _))) (hx.then e1 (Nat.le_refl _))
  | false =>
    rw [if_neg Bool.false_ne_true]
    exact hq false ρ1 w1 (h1.2 rfl) e1
theorem fw_or (h : FT X W a r) (g : FW X W (.BoolOp .Or (b :: rest) pos) s) : FW X W (.BoolOp .Or (a :: b :: rest) pos) (rOr r s) := by
  obtain ⟨t, p, k⟩ := h.ex
  obtain ⟨u, q, l⟩ := g.ex
  refine ⟨_, pw_or p q, fun τ w σ ρ E Q Qv hn st h hq hx => ?_⟩
  refine k τ w σ ρ E _ _ hn st h (fun b ρ1 w1 h1 e1 => ?_) hx
  cases b with
  | true =>
    rw [if_pos rfl]
    exact hq true ρ1 w1 (h1.1 rfl) e1
  | false =>
    rw [if_neg Bool.false_ne_true]
    exact l τ w1 σ ρ1 E _ _ (by rw [e1.len]; exact hn) e1.st (h1.2 rfl) (fun b ρ2 w2 h2 e2 => hq b ρ2 w2 h2 (e1.trans e2 (Nat.le_refl _))) (hx.then e1 (Nat.le_refl _))
theorem ft_not (h : FT X W a r) : FT X W (.UnaryOp .Not a pos) (rNot r) := by
  obtain ⟨t, p, k⟩ := h.ex
  refine ⟨_, pt_not p, fun τ w σ ρ E Q Qv hn st h hq hx => ?_⟩
  exact k τ w σ ρ E _ _ hn st h (fun b ρ1 w1 h1 e1 => hq _ ρ1 w1 h1 e1) hx
theorem fe_ifE (hc : FT X W c r) (ha : FE X W a re) (hb : FE X W b se) : FE X W (.IfExp c a b pos) (rIfE r re se) := by
  obtain ⟨t, p, k⟩ := hc.ex
  obtain ⟨u, q, l⟩ := ha.ex
  obtain ⟨u', q', l'⟩ := hb.ex
  refine ⟨_, pe_ifExp p q q', fun τ w σ ρ E Q Qv hn st h hq hx => ?_⟩
  refine k τ w σ ρ E _ _ hn st h (fun b ρ1 w1 h1 e1 => ?_) hx
  cases b with
  | true =>
    rw [if_pos rfl]
    exact l τ w1 σ ρ1 E _ _ (by rw [e1.len]; exact hn) e1.st (h1.1 rfl) (fun b ρ2 w2 v h2 e2 r2 => hq b ρ2 w2 v h2 (e1.trans e2 (Nat.le_refl _)) r2) (hx.then e1 (Nat.le_refl _))
  | false =>
    rw [if_neg Bool.false_ne_true]
    exact l' τ w1 σ ρ1 E _ _ (by rw [e1.len]; exact hn) e1.st (h1.2 rfl) (fun b ρ2 w2 v h2 e2 r2 => hq b ρ2 w2 v h2 (e1.trans e2 (Nat.le_refl _)) r2) (hx.then e1 (Nat.le_refl _))
theorem fe_one {op} (h : FE X W a re) : FE X W (.BoolOp op [a] pos) re := by
  obtain ⟨t, p, k⟩ := h.ex
  exact ⟨t, pe_one p, k⟩
theorem fe_and (h : FE X W a re) (g : FE X W (.BoolOp .And (b :: rest) pos) se) : FE X W (.BoolOp .And (a :: b :: rest) pos) (rAndV re se) := by
  obtain ⟨t, p, k⟩ := h.ex
  obtain ⟨u, q, l⟩ := g.ex
  refine ⟨_, pe_and p q, fun τ w σ ρ E Q Qv hn st h hq hx => ?_⟩
  refine k τ w σ ρ E _ _ hn st h (fun d ρ1 w1 v h1 e1 r1 => ?_) hx
  cases d with
  | bl b =>
    refine ⟨b, r1, ?_⟩
    cases b with
    | true =>
      rw [if_pos rfl]
      exact l τ w1 σ ρ1 E _ _ (by rw [e1.len]; exact hn) e1.st (h1.1 rfl) (fun b ρ2 w2 v h2 e2 r2 => hq b ρ2 w2 v h2 (e1.trans e2 (Nat.le_refl _)) r2) (hx.then e1 (Nat.le_refl _))
    | false =>
      rw [if_neg Bool.false_ne_true]
      exact hq _ ρ1 w1 _ (h1.2 rfl) e1 rfl
  | _ => exact h1.elim
theorem fe_not (h : FE X W a re) : FE X W (.UnaryOp .Not a pos) (rNotV re) := by
  obtain ⟨t, p, k⟩ := h.ex
  refine ⟨_, pe_not p, fun τ w σ ρ E Q Qv hn st h hq hx => ?_⟩
  refine k τ w σ ρ E _ _ hn st h (fun d ρ1 w1 v h1 e1 r1 => ?_) hx
  cases d with
  | bl b => exact ⟨b, r1, hq _ ρ1 w1 _ h1 e1 rfl⟩
  | _ => exact h1.elim
end
end FL
namespace FL
open PySem PySem.Spec PyProof.Rows L2
def Wd.ice (w : Wd) (P : Loc → Bool) : Wd :=
  ⟨fun a => match w.G a with
    | some ℓ => if P ℓ then none else some ℓ
    | none => none,
   fun a => match w.G a with
    | some ℓ => if P ℓ then w.H a else w.S a
    | none => w.S a, w.H⟩
section
variable {w : Wd} {P : Loc → Bool}
theorem Wf.ice (h : Wf w) : Wf (w.ice P) := by
  refine ⟨fun a o e => ?_, fun a ℓ e => ?_⟩
  · have e : (match w.G a with | some ℓ => if P ℓ then w.H a else w.S a | none => w.S a) = some o := e
    cases hk : w.G a with
    | none => rw [hk] at e; exact h.sh a o e
    | some k =>
      rw [hk] at e
      have e : (if P k then w.H a else w.S a) = some o := e
      cases hp : P k with
      | true => rw [hp] at e; exact e
      | false => rw [hp] at e; exact h.sh a o e
  · have e : (match w.G a with | some ℓ => if P ℓ then none else some ℓ | none => none) = some ℓ := e
    cases hk : w.G a with
    | none => rw [hk] at e; cases e
    | some k =>
      rw [hk] at e
      have e : (if P k then none else some k) = some ℓ := e
      cases hp : P k with
      | true => rw [hp] at e; cases e
      | false =>
        refine ⟨?_, (h.tg a k hk).2⟩
        show (match w.G a with | some ℓ => if P ℓ then w.H a else w.S a | none => w.S a) = none
        rw [hk]
        show (if P k then w.H a else w.S a) = none
        rw [hp]
        exact (h.tg a k hk).1
theorem ice_same (h : Wf w) : Same w.S (w.ice P).S := fun a o e => by
  show (match w.G a with | some ℓ => if P ℓ then w.H a else w.S a | none => w.S a) = some o
  cases hk : w.G a with
  | none => exact e
  | some k => rw [(h.tg a k hk).1] at e; cases e
theorem ice_kept {ℓ : Loc} (h : ∀ s, P (ℓ ++ s) = false) : KeptTo w (w.ice P) ℓ ℓ := fun a s e => by
  refine ⟨?_, rfl⟩
  show (match w.G a with | some ℓ => if P ℓ then none else some ℓ | none => none) = _
  rw [e]
  show (if P (ℓ ++ s) then none else some (ℓ ++ s)) = _
  rw [h s]; rfl
theorem ice_frz {ℓ : Loc} (h : ∀ s, P (ℓ ++ s) = true) : FrzTo w (w.ice P) ℓ := fun a s o e eo => by
  show (match w.G a with | some ℓ => if P ℓ then w.H a else w.S a | none => w.S a) = some o
  rw [e]
  show (if P (ℓ ++ s) then w.H a else w.S a) = some o
  rw [h s]; exact eo
end
section
variable {X : Cx} {W : WX} {M : List Nat} {st : Stmt} {rest : List Stmt} {r u : RS} {e : Expr} {re : RE} {pos pos' : Pos}
def rNx : RS := fun ρ _ F => F.nx ρ
def rSeq (r u : RS) : RS := fun ρ E F => r ρ E (F.wn fun ρ' => u ρ' E F)
theorem fss_nil : FSs X W M [] rNx := ⟨_, pss_nil, fun w σ ρ E F D st h hf => hf.nx ρ w σ h (.refl st)⟩
theorem fss_cons (h : FS X W M st r) (g : FSs X W M rest u) : FSs X W M (st :: rest) (rSeq r u) := by
  obtain ⟨t, p, k⟩ := h.ex
  obtain ⟨t', p', k'⟩ := g.ex
  refine ⟨_, pss_cons p p', fun w σ ρ E F D st h hf => ?_⟩
  exact k w σ ρ E _ _ st h ⟨fun ρ' w' σ' h' e => k' w' σ' ρ' E F D e.st h' (hf.then e), hf.rt, hf.bk, hf.ct, hf.ex⟩
theorem fss_one (h : FS X W M st r) : FSs X W M [st] r := by
  obtain ⟨t, p, k⟩ := h.ex
  exact ⟨_, pss_one p, k⟩
/-- the ways joined behind a statement -/
structure CutG (r : RS) (ρ : En) (E : EE) (F : Fin) : Prop where
  go : ∃ I : En → Prop, r ρ E (F.wn I) ∧ ∀ ρ', I ρ' → F.nx ρ'
def rCut (r : RS) : RS := fun ρ E F => CutG r ρ E F
theorem fs_cut (h : FS X W M st r) : FS X W M st (rCut r) := by
  obtain ⟨t, p, k⟩ := h.ex
  refine ⟨_, p, fun w σ ρ E F D st ⟨I, h, g⟩ hf => ?_⟩
  exact k w σ ρ E _ _ st h ⟨fun ρ' w' σ' h' e => hf.nx ρ' w' σ' (g ρ' h') e, hf.rt, hf.bk, hf.ct, hf.ex⟩
/-- any weakening of the ends -/
structure Fin.le (F G : Fin) : Prop where
  nx : ∀ ρ, F.nx ρ → G.nx ρ
  rt : ∀ d ρ, F.rt d ρ → G.rt d ρ
  bk : ∀ ρ, F.bk ρ → G.bk ρ
  ct : ∀ ρ, F.ct ρ → G.ct ρ
theorem Fin.le.refl (F : Fin) : F.le F := ⟨fun _ h => h, fun _ _ h => h, fun _ h => h, fun _ h => h⟩
theorem SF.le {K : PySem.W.Frag} {w : Wd} {σ : Sl} {ρ : En} {E : EE} {F G : Fin} {D : Ends} (h : SF K W M w σ ρ E G D) (l : F.le G) : SF K W M w σ ρ E F D :=
  ⟨fun ρ' w' σ' q e => h.nx ρ' w' σ' (l.nx _ q) e, fun d ρ' w' σ' v q e r => h.rt d ρ' w' σ' v (l.rt _ _ q) e r, fun ρ' w' σ' q e => h.bk ρ' w' σ' (l.bk _ q) e, fun ρ' w' σ' q e => h.ct ρ' w' σ' (l.ct _ q) e, h.ex⟩
def rDrop (re : RE) : RS := fun ρ E F => re ρ E fun _ ρ' => F.nx ρ'
theorem fs_expr (he : FE X W e re) (hs : swapsWith e none pos.line X.env = pure false := by rfl) : FS X W M (.Expr e pos) (rDrop re) := by
  obtain ⟨t, p, k⟩ := he.ex
  refine ⟨_, ps_expr p hs, fun w σ ρ E F D st h hf => ?_⟩
  exact k _ w σ ρ E _ _ (Nat.lt_succ_self _) st h (fun d ρ' w' v q e r => hf.nx ρ' w' σ q (e.s (Nat.lt_succ_self _))) hf.sx
def rRet (re : RE) : RS := fun ρ E F => re ρ E fun d ρ' => F.rt d ρ'
theorem fs_ret (he : FE X W e re) : FS X W M (.Return (some e) pos) (rRet re) := by
  obtain ⟨t, p, k⟩ := he.ex
  refine ⟨_, ps_ret p, fun w σ ρ E F D st h hf => ?_⟩
  exact k _ w σ ρ E _ _ (Nat.lt_succ_self _) st h (fun d ρ' w' v q e r => hf.rt d ρ' w' σ v q (e.s (Nat.lt_succ_self _)) r) hf.sx
def rIf (t : RT) (r u : RS) : RS := fun ρ E F => t ρ E fun b ρ1 => (b = true → r ρ1 E F) ∧ (b = false → u ρ1 E F)
theorem fs_if {c : Expr} {a b : List Stmt} {rt : RT} (hc : FT X W c rt) (ha : FSs X W M a r) (hb : FSs X W M b u) : FS X W M (.If c a b pos) (rIf rt r u) := by
  obtain ⟨t, p, k⟩ := hc.ex
  obtain ⟨t1, p1, k1⟩ := ha.ex
  obtain ⟨t2, p2, k2⟩ := hb.ex
  refine ⟨_, ps_if p p1 p2, fun w σ ρ E F D st h hf => ?_⟩
  refine k _ w σ ρ E _ _ (Nat.lt_succ_self _) st h (fun b ρ1 w1 h1 e1 => ?_) hf.sx
  have es := e1.s (M := M) (Nat.lt_succ_self _)
  cases b with
  | true =>
    rw [if_pos rfl]
    exact k1 w1 σ ρ1 E F D e1.st (h1.1 rfl) (hf.then es)
  | false =>
    rw [if_neg Bool.false_ne_true]
    exact k2 w1 σ ρ1 E F D e1.st (h1.2 rfl) (hf.then es)
/-- the temporary n + 1 goes to slot i -/
def tempTo (n i : Nat) : Loc → Option Loc
  | h :: s => if h = i + 1 then none else if h = n + 1 then some ((i + 1) :: s) else some (h :: s)
  | [] => some []
theorem store_end {K : PySem.W.Frag} {w : Wd} {σ : Sl} {ρ : En} {i : Nat} {d : D} {v : V} (st : StE K w σ ρ) (r : Rep K w d [ρ.length + 1] v) (hi : i < ρ.length) (hM : M.contains i = false) : EndS K M w σ ρ (w.ren (tempTo ρ.length i)) (σ.set i (some v)) (ρ.set i (some d)) := by
  refine ⟨by rw [List.length_set], ⟨st.wf.ren _, by rw [List.length_set, List.length_set]; exact st.len, fun j d' e => ?_⟩, ⟨Same.refl _, fun a ℓ e ⟨h, s, e2, k⟩ => ?_⟩, fun j hj => ?_⟩
  · by_cases hj : j = i
    · subst hj
      rw [List.getElem?_set_self hi] at e
      cases e
      refine ⟨v, List.getElem?_set_self (by rw [st.len]; exact hi), r.ren fun s => ?_⟩
      show (if _ then _ else _) = _
      rw [if_neg (by omega), if_pos rfl]; rfl
    · rw [List.getElem?_set_ne (Ne.symm hj)] at e ⊢
      obtain ⟨v', e1, r'⟩ := st.rep j d' e
      have hl := (List.getElem?_eq_some_iff.mp e).1
      refine ⟨v', e1, r'.ren fun s => ?_⟩
      show (if _ then _ else _) = _
      rw [if_neg (by omega), if_neg (by omega)]; rfl
  · subst e2
    refine ⟨ren_at e ?_, rfl⟩
    show (if _ then _ else _) = _
    rw [if_neg (by omega), if_neg (by omega)]
  · have : j ≠ i := fun z => by
      subst z
      have := List.contains_iff_mem.mpr hj
      rw [this] at hM; cases hM
    exact List.getElem?_set_ne (Ne.symm this)
theorem ice_temp {K : PySem.W.Frag} {w : Wd} {σ : Sl} {ρ : En} {d : D} {v : V} (st : StE K w σ ρ) (r : Rep K w d [ρ.length + 1] v) :
    EndE K (ρ.length + 1) w σ ρ ρ (w.ice fun ℓ => match ℓ with | h :: _ => h == ρ.length + 1 | [] => false) ∧ ∀ ℓ, Rep K (w.ice fun ℓ => match ℓ with | h :: _ => h == ρ.length + 1 | [] => false) d.frz ℓ v := by
  refine ⟨⟨rfl, st.to st.wf.ice (ice_same st.wf) fun i hi => ice_kept fun s => ?_, ⟨ice_same st.wf, fun a ℓ e ⟨h, s, e2, k⟩ => ?_⟩⟩, fun ℓ => ?_⟩
  · show ((i + 1) == ρ.length + 1) = false
    simp; omega
  · subst e2
    have := ice_kept (w := w) (ℓ := h :: s) (P := fun ℓ => match ℓ with | h :: _ => h == ρ.length + 1 | [] => false) (fun t => by
      show (h == ρ.length + 1) = false
      simp; omega) a [] (by simpa using e)
    simpa using this
  · exact Rep.frz (w := w) (ice_same st.wf) d (ice_frz fun s => by show ((ρ.length + 1) == ρ.length + 1) = true; simp) r
def rSet (i : Nat) (re : RE) : RS := fun ρ E F => re ρ E fun d ρ' => nf (ρ'.set i (some d)) F.nx
/-- the value frozen -/
def rSetF (i : Nat) (re : RE) : RS := fun ρ E F => re ρ E fun d ρ' => nf (ρ'.set i (some d.frz)) F.nx
theorem set_out {α : Type} {l : List α} {i : Nat} (a : α) (h : ¬ i < l.length) : l.set i a = l := List.set_eq_of_length_le (by omega)
theorem se_set {K : PySem.W.Frag} {te : TE} {i : Nat} (k : SE K W te re) (hM : M.contains i = false) : SS K W M (tAsg te (gName i)) (rSet i re) := by
  intro w σ ρ E F D st h hf
  refine k _ w σ ρ E _ _ (Nat.lt_succ_self _) st h (fun d ρ' w' v q e r => ?_) hf.sx
  have es := e.s (M := M) (Nat.lt_succ_self _)
  by_cases hi : i < ρ'.length
  · exact hf.nx _ (w'.ren (tempTo ρ'.length i)) _ (nf_of q) (es.trans (store_end e.st (by rw [e.len]; exact r) hi hM))
  · show D.nx (σ.set i (some v)) w'.H
    rw [set_out _ (by rw [e.st.len]; exact hi)]
    have q : F.nx (ρ'.set i (some d)) := nf_of q
    rw [set_out _ hi] at q
    exact hf.nx _ _ _ q es
theorem se_setF {K : PySem.W.Frag} {te : TE} {i : Nat} (k : SE K W te re) (hM : M.contains i = false) : SS K W M (tAsg te (gName i)) (rSetF i re) := by
  intro w σ ρ E F D st h hf
  refine k _ w σ ρ E _ _ (Nat.lt_succ_self _) st h (fun d ρ' w' v q e r => ?_) hf.sx
  have es := e.s (M := M) (Nat.lt_succ_self _)
  by_cases hi : i < ρ'.length
  · obtain ⟨e2, r2⟩ := ice_temp e.st (by rw [e.len]; exact r)
    exact hf.nx _ ((w'.ice _).ren (tempTo ρ'.length i)) _ (nf_of q) ((es.trans (e2.s (Nat.lt_succ_self _))).trans (store_end e2.st (r2 _) hi hM))
  · show D.nx (σ.set i (some v)) w'.H
    rw [set_out _ (by rw [e.st.len]; exact hi)]
    have q : F.nx (ρ'.set i (some d.frz)) := nf_of q
    rw [set_out _ hi] at q
    exact hf.nx _ _ _ q es
theorem fs_set (i : Nat) {x : Str} (he : FE X W e re) (hN : X.N.Nodup) (hi : X.N[i]? = some x := by rfl) (hx : L2.Loc X.env.scope x := by first | exact .inl rfl | exact .inr rfl) (hM : M.contains i = false := by rfl) (hs : swapsWith e (some (.Name x pos')) pos.line X.env = pure false := by rfl) (hf : X.fn x = true ∨ X.env.scope.names.lookup x = some .local := by first | exact .inl rfl | exact .inr rfl) : FS X W M (.Assign [.Name x pos'] e pos) (rSet i re) := by
  obtain ⟨t, p, k⟩ := he.ex
  exact ⟨_, ps_set hN hi hx p hs hf, se_set k hM⟩
theorem fs_setF (i : Nat) {x : Str} (he : FE X W e re) (hN : X.N.Nodup) (hi : X.N[i]? = some x := by rfl) (hx : L2.Loc X.env.scope x := by first | exact .inl rfl | exact .inr rfl) (hM : M.contains i = false := by rfl) (hs : swapsWith e (some (.Name x pos')) pos.line X.env = pure false := by rfl) (hf : X.fn x = true ∨ X.env.scope.names.lookup x = some .local := by first | exact .inl rfl | exact .inr rfl) : FS X W M (.Assign [.Name x pos'] e pos) (rSetF i re) := by
  obtain ⟨t, p, k⟩ := he.ex
  exact ⟨_, ps_set hN hi hx p hs hf, se_setF k hM⟩
end
abbrev EF := Value → Option (List (Str × D)) → En → Prop
abbrev FSpec := List D → EF → (D → En → Prop) → Prop
/-- behind a call: m arguments at 1 .. m, those of M lent -/
structure EndF (K : PySem.W.Frag) (m : Nat) (M : List Nat) (w : Wd) (vs : List V) (os : En) (w' : Wd) : Prop where
  wf : Wf w'
  s : Same w.S w'.S
  f : ∀ a ℓ, w.G a = some (0 :: ℓ) → w'.G a = some (0 :: ℓ) ∧ w'.H a = w.H a
  args : ∀ j, M.contains j = true → ∀ d v, os[j]? = some (some d) → vs[j]? = some v → Rep K w' d [j + 1] v
def FnD (K : PySem.W.Frag) (m : Nat) (M : List Nat) (r : FSpec) : Sp := fun vs H Q E => vs.length = m ∧ ∃ (w : Wd) (ds : List D) (ED : EF) (QD : D → En → Prop), w.H = H ∧ Wf w ∧ ds.length = m ∧
  (∀ j d v, ds[j]? = some d → vs[j]? = some v → Rep K w d [j + 1] v) ∧ r ds ED QD ∧
  (∀ d os w' v, QD d os → EndF K m M w vs os w' → Rep K w' d [m + 1] v → Q v w'.H) ∧ (∀ c fs os w' x, ED c fs os → EndF K m M w vs os w' → XRepr K w' x fs → E c x w'.H)
/-- the names at a def's entry -/
def startD (N : List Str) (ds : List D) : En := ds.map some ++ List.replicate (N.length - ds.length) none
/-- a def's ends -/
def finD (m : Nat) (Q : D → En → Prop) : Fin := { nx := fun ρ => Q .non (ρ.take m), rt := fun d ρ => Q d (ρ.take m) }
/-- out of the def: its names are forgotten, what is handed back stands at m + 1 -/
def leaveTo (n m : Nat) : Loc → Option Loc
  | h :: s => if h ≤ m then some (h :: s) else if h = n + 1 then some ((m + 1) :: s) else none
  | [] => none
section
variable {P : Program} {w : World} {K : PySem.W.Frag} {mg : Str → Option Value} {base : Heap}
theorem leave_end {m : Nat} {M : List Nat} {w0 w' : Wd} {σ σ' : Sl} {ρ ρ' : En} {vs : List V} (hm : m ≤ ρ.length) (e : EndS K M w0 σ ρ w' σ' ρ') (hv : ∀ j, j < m → σ[j]? = (vs[j]?).map some) (hM : ∀ j, M.contains j = true → j < m) :
    EndF K m M w0 vs (ρ'.take m) (w'.ren (leaveTo ρ.length m)) := by
  refine ⟨e.st.wf.ren _, e.ext.s, fun a ℓ h => ?_, fun j hj d v h1 h2 => ?_⟩
  · obtain ⟨k1, k2⟩ := e.ext.f a _ h ⟨0, ℓ, rfl, .inl rfl⟩
    refine ⟨ren_at k1 ?_, k2⟩
    exact if_pos (e := if 0 = ρ.length + 1 then some ((m + 1) :: ℓ) else none) (Nat.zero_le m)
  · have hjm := hM j hj
    rw [List.getElem?_take_of_lt hjm] at h1
    obtain ⟨v', e1, r⟩ := e.st.rep j d h1
    have k := e.km j (List.contains_iff_mem.mp hj)
    rw [hv j hjm, h2] at k
    rw [k] at e1; cases e1
    refine r.ren fun s => ?_
    show (if _ then _ else _) = _
    rw [if_pos (by omega)]; rfl
theorem fl_fn {x qual : Str} {st : Stmt} {f : Addr} {fd : FuncData} {N ps : List Str} {k : Nat} {M : List Nat} {r : FSpec} {rb : RS} (F : Fun K x qual st f fd) (S : FnScope N ps (defScope st))
    (hMb : (M.all fun j => decide (j < ps.length)) = true)
    (hb : ∀ (cdv : Value) (A : Around) (outer : List Env) (s : Shared) (H : Hp) (E : XK), Room k (A.deeper (envOfC qual (defScope st) s.heap.objs.size f cdv)) →
      FSs (cxOf (L2.CX P w) P w K mg base N qual (defScope st) f cdv A outer s H E) (fun c d _ H' => E c d H') M (defBody st) rb)
    (hr : ∀ ds ED QD, ds.length = ps.length → r ds ED QD → rb (startD N ds) (fun c fs ρ => ED c fs (ρ.take ps.length)) (finD ps.length QD)) :
    FnOk P w K mg base (L2.CX P w) (k + 1) f fd ps (FnD K ps.length M r) := by
  have hM : ∀ j, M.contains j = true → j < ps.length := fun j hj => of_decide_eq_true (List.all_eq_true.mp hMb j (List.contains_iff_mem.mp hj))
  refine F.okX S (fun vs H Q E h => h.1) fun cdv A outer s H vs Q E hroom h => ?_
  obtain ⟨hl, w0, ds, ED, QD, rfl, wf, hd, hrep, hspec, hq, hx⟩ := h
  obtain ⟨t, p, kk⟩ := (hb cdv A outer s w0.H E hroom).ex
  have hNl : ps.length ≤ N.length := by have := congrArg List.length S.pre; rw [List.length_take] at this; omega
  have hlen : (startD N ds).length = N.length := by
    unfold startD
    rw [List.length_append, List.length_map, List.length_replicate]; omega
  have hslen : (L2.start N vs).length = N.length := by
    unfold L2.start
    rw [List.length_append, List.length_map, List.length_replicate]; omega
  have hv : ∀ j, j < ps.length → (L2.start N vs)[j]? = (vs[j]?).map some := fun j hj => by
    unfold L2.start
    rw [List.getElem?_append_left (by rw [List.length_map]; omega), List.getElem?_map]
  have s0 : StE K w0 (L2.start N vs) (startD N ds) := ⟨wf, by rw [hlen, hslen], fun i d e => by
    by_cases hi : i < ds.length
    · unfold startD at e
      rw [List.getElem?_append_left (by rw [List.length_map]; exact hi), List.getElem?_map] at e
      have hi' : i < vs.length := by omega
      refine ⟨vs[i], ?_, ?_⟩
      · rw [hv i (by omega), List.getElem?_eq_getElem hi']; rfl
      · refine hrep i d _ ?_ (List.getElem?_eq_getElem hi')
        rw [List.getElem?_eq_getElem hi] at e ⊢
        exact Option.some.inj e
    · unfold startD at e
      rw [List.getElem?_append_right (by rw [List.length_map]; omega), List.getElem?_replicate] at e
      split at e <;> cases e⟩
  have hm : ps.length ≤ (startD N ds).length := by rw [hlen]; exact hNl
  refine ⟨t, p, kk w0 (L2.start N vs) (startD N ds) _ _ _ s0 (hr ds ED QD hd hspec) ⟨fun ρ' w' σ' h e => ?_, fun d ρ' w' σ' v h e r => ?_, fun ρ' w' σ' h e => h, fun ρ' w' σ' h e => h, fun c fs ρ' w' σ' x h e r => ?_⟩⟩
  · exact hq .non _ (w'.ren _) .non h (leave_end hm e hv hM) rfl
  · refine hq d _ (w'.ren _) v h (leave_end hm e hv hM) (r.ren fun s => ?_)
    show (if _ then _ else _) = _
    rw [if_neg (by omega), if_pos rfl]; rfl
  · refine hx c fs _ (w'.ren _) x h (leave_end hm e hv hM) ?_
    cases x with
    | none => cases fs <;> exact r
    | some a =>
      cases fs with
      | none => exact r
      | some fs =>
        obtain ⟨us, h1, h2, h3, h4⟩ := r
        exact ⟨us, h1, h2, h3, RepL.free (w := w') (w' := w'.ren (leaveTo (startD N ds).length ps.length)) (Same.refl _) _ h3 h4⟩
end
/-- the arguments as the def gets them: those of M as they are, the others frozen -/
def argDs (M : List Nat) : Nat → List AD → En → Option (List D × En)
  | _, [], ρ => some ([], ρ)
  | j, .val d :: r, ρ => match argDs M (j + 1) r ρ with
    | some (ds, ρ') => some ((match M.contains j with | true => d | false => d.frz) :: ds, ρ')
    | none => none
  | j, .brw i :: r, ρ => match ρ[i]? with
    | some (some d) => match M.contains j with
      | true => match argDs M (j + 1) r ρ with
        | some (ds, ρ') => some (d :: ds, ρ')
        | none => none
      | false => match argDs M (j + 1) r (ρ.set i (some d.frz)) with
        | some (ds, ρ') => some (d.frz :: ds, ρ')
        | none => none
    | _ => none
/-- the names lent for good (M) -/
def lends (M : List Nat) : Nat → List AD → List (Nat × Nat)
  | _, [] => []
  | j, .val _ :: r => lends M (j + 1) r
  | j, .brw i :: r => match M.contains j with
    | true => (i, j) :: lends M (j + 1) r
    | false => lends M (j + 1) r
/-- names lent that are frozen from then on -/
def ices (M : List Nat) : Nat → List AD → List Nat
  | _, [] => []
  | j, .val _ :: r => ices M (j + 1) r
  | j, .brw i :: r => match M.contains j with
    | true => ices M (j + 1) r
    | false => i :: ices M (j + 1) r
def apart : List (Nat × Nat) → List Nat → Bool
  | [], _ => true
  | (i, _) :: r, l => !l.contains i && !(r.any fun p => p.1 == i) && apart r l
def oGet (os : En) (j : Nat) : Option D := match os[j]? with
  | some o => o
  | none => none
def putBack : List (Nat × Nat) → En → En → En
  | [], _, ρ => ρ
  | (i, j) :: r, os, ρ => putBack r os (ρ.set i (oGet os j))
def rCall (M : List Nat) (r : FSpec) (ra : RA) : RE := fun ρ E Q => ra ρ E fun ads ρ1 => match argDs M 0 ads ρ1 with
  | some (ds, ρ2) => match apart (lends M 0 ads) (ices M 0 ads) with
    | true => r ds (fun c fs os => E c fs (putBack (lends M 0 ads) os ρ2)) (fun d os => nf (putBack (lends M 0 ads) os ρ2) (Q d))
    | false => False
  | none => False
end FL
namespace FL
open PySem PySem.Spec PyProof.Rows L2
/-- into the def -/
def inLoc (M : List Nat) (τ : Nat) (ads : List AD) : Loc → Option Loc
  | h :: s => if τ ≤ h then (if M.contains (h - τ) then some ((h - τ + 1) :: s) else none) else match h with
    | 0 => some (0 :: h :: s)
    | i + 1 => match (lends M 0 ads).lookup i with
      | some j => some ((j + 1) :: s)
      | none => some (0 :: h :: s)
  | [] => some [0]
/-- and back -/
def outLoc (M : List Nat) (τ m : Nat) (ads : List AD) : Loc → Option Loc
  | 0 :: s => some s
  | (j + 1) :: s => if j = m then some (τ :: s) else match ((lends M 0 ads).map fun p => (p.2, p.1)).lookup j with
    | some i => some ((i + 1) :: s)
    | none => none
  | [] => none
theorem lends_mem {M : List Nat} : ∀ {ads : List AD} {j i k : Nat}, (i, k) ∈ lends M j ads → ∃ q, k = j + q ∧ ads[q]? = some (.brw i) ∧ M.contains k = true
  | [], _, _, _, h => by simp [lends] at h
  | .val d :: r, j, i, k, h => by
    simp only [lends] at h
    obtain ⟨q, e, e2, e3⟩ := lends_mem h
    exact ⟨q + 1, by omega, by simpa using e2, e3⟩
  | .brw i' :: r, j, i, k, h => by
    simp only [lends] at h
    split at h
    · rename_i hc
      rcases List.mem_cons.mp h with e | h
      · cases e
        exact ⟨0, rfl, rfl, hc⟩
      · obtain ⟨q, e, e2, e3⟩ := lends_mem h
        exact ⟨q + 1, by omega, by simpa using e2, e3⟩
    · obtain ⟨q, e, e2, e3⟩ := lends_mem h
      exact ⟨q + 1, by omega, by simpa using e2, e3⟩
theorem apart_get : ∀ {l : List (Nat × Nat)} {c : List Nat}, apart l c = true → (∀ p ∈ l, p.1 ∉ c) ∧ l.Pairwise (fun p q => p.1 ≠ q.1)
  | [], _, _ => ⟨(fun _ h => nomatch h), .nil⟩
  | (i, j) :: r, c, h => by
    simp only [apart, Bool.and_eq_true, Bool.not_eq_true', List.any_eq_false, beq_iff_eq] at h
    obtain ⟨⟨h1, h2⟩, h3⟩ := h
    obtain ⟨g1, g2⟩ := apart_get h3
    refine ⟨fun p hp => ?_, .cons (fun q hq e => h2 q hq e.symm) g2⟩
    rcases List.mem_cons.mp hp with rfl | hp
    · intro hm
      rw [List.contains_iff_mem.mpr hm] at h1; cases h1
    · exact g1 p hp
theorem lookup_of_mem {l : List (Nat × Nat)} (h : l.Pairwise fun p q => p.1 ≠ q.1) {i j : Nat} (hm : (i, j) ∈ l) : l.lookup i = some j := by
  induction l with
  | nil => cases hm
  | cons p r ih =>
    obtain ⟨a, b⟩ := p
    rw [List.lookup_cons]
    rcases List.mem_cons.mp hm with e | hm
    · cases e; simp
    · have : a ≠ i := fun z => by
        have := (List.pairwise_cons.mp h).1 _ hm
        exact this z
      rw [show (i == a) = false by simp; omega]
      exact ih (List.pairwise_cons.mp h).2 hm
theorem lookup_some {l : List (Nat × Nat)} {i j : Nat} (h : l.lookup i = some j) : (i, j) ∈ l := by
  induction l with
  | nil => cases h
  | cons p r ih =>
    obtain ⟨a, b⟩ := p
    rw [List.lookup_cons] at h
    cases q : (i == a) with
    | true =>
      rw [q] at h
      have : i = a := by simpa using q
      subst this
      cases h
      exact List.mem_cons_self
    | false =>
      rw [q] at h
      exact List.mem_cons_of_mem _ (ih h)
theorem lends_snd {M : List Nat} : ∀ (ads : List AD) (j : Nat), (lends M j ads).Pairwise (fun p q => p.2 < q.2) ∧ ∀ p ∈ lends M j ads, j ≤ p.2
  | [], _ => ⟨.nil, fun _ h => nomatch h⟩
  | .val d :: r, j => by
    obtain ⟨h1, h2⟩ := lends_snd r (j + 1)
    simp only [lends]
    exact ⟨h1, fun p hp => by have := h2 p hp; omega⟩
  | .brw i :: r, j => by
    obtain ⟨h1, h2⟩ := lends_snd r (j + 1)
    simp only [lends]
    split
    · refine ⟨.cons (fun q hq => ?_) h1, fun p hp => ?_⟩
      · have := h2 q hq
        show j < q.2
        omega
      · rcases List.mem_cons.mp hp with rfl | hp
        · exact Nat.le_refl _
        · have := h2 p hp; omega
    · exact ⟨h1, fun p hp => by have := h2 p hp; omega⟩
theorem lends_back {M : List Nat} {ads : List AD} {i j : Nat} (h : (i, j) ∈ lends M 0 ads) : ((lends M 0 ads).map fun p => (p.2, p.1)).lookup j = some i := by
  refine lookup_of_mem ?_ (List.mem_map.mpr ⟨(i, j), h, rfl⟩)
  rw [List.pairwise_map]
  exact (lends_snd ads 0).1.imp fun h => by show _ ≠ _; omega
theorem putBack_len : ∀ (l : List (Nat × Nat)) (os ρ : En), (putBack l os ρ).length = ρ.length
  | [], _, _ => rfl
  | (i, j) :: r, os, ρ => by
    unfold putBack
    rw [putBack_len r, List.length_set]
theorem putBack_other : ∀ {l : List (Nat × Nat)} {os ρ : En} {k : Nat}, (∀ p ∈ l, p.1 ≠ k) → (putBack l os ρ)[k]? = ρ[k]?
  | [], _, _, _, _ => rfl
  | (i, j) :: r, os, ρ, k, h => by
    unfold putBack
    rw [putBack_other fun p hp => h p (List.mem_cons_of_mem _ hp), List.getElem?_set_ne (h (i, j) List.mem_cons_self)]
theorem putBack_at : ∀ {l : List (Nat × Nat)} {os ρ : En} {i j : Nat}, (l.Pairwise fun p q => p.1 ≠ q.1) → (i, j) ∈ l → i < ρ.length → (putBack l os ρ)[i]? = some (oGet os j)
  | [], _, _, _, _, _, h, _ => nomatch h
  | (a, b) :: r, os, ρ, i, j, hp, h, hi => by
    unfold putBack
    rcases List.mem_cons.mp h with e | h
    · cases e
      rw [putBack_other fun p hq e => (List.pairwise_cons.mp hp).1 p hq e.symm, List.getElem?_set_self hi]
    · exact putBack_at (List.pairwise_cons.mp hp).2 h (by rw [List.length_set]; exact hi)
/-- what is frozen at a call: the values that are not lent, the names lent to what is not M -/
def iceP (M : List Nat) (τ : Nat) (ads : List AD) : Loc → Bool
  | h :: _ => if τ ≤ h then !M.contains (h - τ) else match h with
    | 0 => false
    | i + 1 => (ices M 0 ads).contains i
  | [] => false
def ArgSpec (M : List Nat) (ic : List Nat) (ρ : En) (k : Nat) (d : D) : AD → Prop
  | .val d0 => d = (match M.contains k with | true => d0 | false => d0.frz)
  | .brw i => (M.contains k = true ∧ ic.contains i = false → ρ[i]? = some (some d)) ∧ (M.contains k = false → ic.contains i = true ∧ ∃ d0, ρ[i]? = some (some d0) ∧ d = d0.frz)
theorem argDs_spec {M : List Nat} : ∀ {ads : List AD} {j : Nat} {ρ ρ' : En} {ds : List D}, argDs M j ads ρ = some (ds, ρ') → ds.length = ads.length ∧ ρ'.length = ρ.length ∧
    (∀ k, (ices M j ads).contains k = false → ρ'[k]? = ρ[k]?) ∧ (∀ k d, (ices M j ads).contains k = true → ρ'[k]? = some (some d) → ∃ d0, ρ[k]? = some (some d0) ∧ d = d0.frz) ∧
    (∀ (q : Nat) (d : D), ds[q]? = some d → ∃ a, ads[q]? = some a ∧ ArgSpec M (ices M j ads) ρ (j + q) d a)
  | [], j, ρ, ρ', ds, h => by
    simp only [argDs] at h
    cases h
    exact ⟨rfl, rfl, fun _ _ => rfl, fun k d hk _ => by simp [ices] at hk, fun q d e => by simp at e⟩
  | .val d0 :: r, j, ρ, ρ', ds, h => by
    simp only [argDs] at h
    split at h
    · rename_i ds' ρ1 e1
      cases h
      obtain ⟨h1, h2, h3, h4, h5⟩ := argDs_spec e1
      refine ⟨by simp [h1], h2, h3, h4, fun q d e => ?_⟩
      cases q with
      | zero => cases e; exact ⟨_, rfl, rfl⟩
      | succ q =>
        obtain ⟨a, e2, g⟩ := h5 q d (by simpa using e)
        refine ⟨a, by simpa using e2, ?_⟩
        rw [show j + (q + 1) = j + 1 + q by omega]
        exact g
    · cases h
  | .brw i :: r, j, ρ, ρ', ds, h => by
    simp only [argDs] at h
    split at h
    · rename_i d0 e0
      split at h
      · rename_i hc
        split at h
        · rename_i ds' ρ1 e1
          cases h
          obtain ⟨h1, h2, h3, h4, h5⟩ := argDs_spec e1
          have ei : ices M j (.brw i :: r) = ices M (j + 1) r := by simp only [ices]; rw [hc]
          rw [ei]
          refine ⟨by simp [h1], h2, h3, h4, fun q d e => ?_⟩
          cases q with
          | zero =>
            cases e
            refine ⟨_, rfl, fun _ => e0, fun z => ?_⟩
            rw [show j + 0 = j by omega, hc] at z; cases z
          | succ q =>
            obtain ⟨a, e2, g⟩ := h5 q d (by simpa using e)
            refine ⟨a, by simpa using e2, ?_⟩
            rw [show j + (q + 1) = j + 1 + q by omega]
            exact g
        · cases h
      · rename_i hc
        split at h
        · rename_i ds' ρ1 e1
          cases h
          obtain ⟨h1, h2, h3, h4, h5⟩ := argDs_spec e1
          have ei : ices M j (.brw i :: r) = i :: ices M (j + 1) r := by simp only [ices]; rw [hc]
          have hi := (List.getElem?_eq_some_iff.mp e0).1
          rw [ei]
          have old : ∀ k d, (ρ.set i (some d0.frz))[k]? = some (some d) → ∃ d1, ρ[k]? = some (some d1) ∧ (d = d1 ∧ k ≠ i ∨ d = d1.frz ∧ k = i) := fun k d e => by
            by_cases hk : k = i
            · subst hk
              rw [List.getElem?_set_self hi] at e
              cases e
              exact ⟨d0, e0, .inr ⟨rfl, rfl⟩⟩
            · rw [List.getElem?_set_ne (Ne.symm hk)] at e
              exact ⟨d, e, .inl ⟨rfl, hk⟩⟩
          have ff : ∀ d : D, d.frz.frz = d.frz := fun d => frz_id _ (frz_own d)
          refine ⟨by simp [h1], by rw [h2, List.length_set], fun k hk => ?_, fun k d hk e => ?_, fun q d e => ?_⟩
          · simp only [List.contains_cons, Bool.or_eq_false_iff, beq_eq_false_iff_ne] at hk
            rw [h3 k hk.2, List.getElem?_set_ne (Ne.symm hk.1)]
          · by_cases hk2 : (ices M (j + 1) r).contains k = true
            · obtain ⟨d1, e3, e4⟩ := h4 k d hk2 e
              obtain ⟨d2, e5, e6⟩ := old k d1 e3
              refine ⟨d2, e5, ?_⟩
              rcases e6 with ⟨rfl, _⟩ | ⟨rfl, _⟩
              · exact e4
              · rw [e4, ff]
            · rw [h3 k (by simpa using hk2)] at e
              obtain ⟨d2, e5, e6⟩ := old k d e
              refine ⟨d2, e5, ?_⟩
              rcases e6 with ⟨rfl, hne⟩ | ⟨rfl, _⟩
              · simp only [List.contains_cons, Bool.or_eq_true, beq_iff_eq] at hk
                rcases hk with z | z
                · exact absurd z hne
                · exact absurd z hk2
              · rfl
          · cases q with
            | zero =>
              cases e
              refine ⟨_, rfl, fun z => ?_, fun _ => ⟨by simp, d0, e0, rfl⟩⟩
              rw [show j + 0 = j by omega, hc] at z; cases z.1
            | succ q =>
              obtain ⟨a, e2, g⟩ := h5 q d (by simpa using e)
              refine ⟨a, by simpa using e2, ?_⟩
              rw [show j + (q + 1) = j + 1 + q by omega]
              cases a with
              | val d1 => exact g
              | brw i2 =>
                refine ⟨fun z => ?_, fun z => ?_⟩
                · have z2 := z.2
                  simp only [List.contains_cons, Bool.or_eq_false_iff, beq_eq_false_iff_ne] at z2
                  have := g.1 ⟨z.1, z2.2⟩
                  rw [List.getElem?_set_ne (Ne.symm z2.1)] at this
                  exact this
                · obtain ⟨g1, d1, e3, e4⟩ := g.2 z
                  obtain ⟨d2, e5, e6⟩ := old i2 d1 e3
                  refine ⟨by simp only [List.contains_cons, g1, Bool.or_true], d2, e5, ?_⟩
                  rcases e6 with ⟨rfl, _⟩ | ⟨rfl, _⟩
                  · exact e4
                  · rw [e4, ff]
        · cases h
    · cases h
theorem argsAt_get {K : PySem.W.Frag} {w : Wd} {σ : Sl} : ∀ {ads : List AD} {τ : Nat} {vs : List V}, ArgsAt K w σ ads τ vs → vs.length = ads.length ∧ ∀ i a v, ads[i]? = some a → vs[i]? = some v → AdAt K w σ a (τ + i) v
  | [], _, _, h => by simp only [ArgsAt] at h; subst h; simp
  | a :: r, τ, vs, h => by
    obtain ⟨v, us, rfl, h1, h2⟩ : ∃ v us, vs = v :: us ∧ AdAt K w σ a τ v ∧ ArgsAt K w σ r (τ + 1) us := by
      cases a with
      | val d => exact h
      | brw i => exact h
    obtain ⟨l, g⟩ := argsAt_get h2
    refine ⟨by simpa using l, fun i a' v' e1 e2 => ?_⟩
    cases i with
    | zero => cases e1; cases e2; exact h1
    | succ i =>
      have := g i a' v' (by simpa using e1) (by simpa using e2)
      rw [show τ + 1 + i = τ + (i + 1) by omega] at this
      exact this
section
variable {X : Cx} {W : WX}
theorem call_sound {m τ : Nat} {M : List Nat} {r : FSpec} {w : Wd} {σ : Sl} {ρ : En} {E : EE} {Q : D → En → Prop} {Qv : VK} {ads : List AD} {vs : List V} (hn : ρ.length < τ) (st : StE X.K w σ ρ) (hl : ads.length = m) (ha : ArgsAt X.K w σ ads τ vs)
    (h : match argDs M 0 ads ρ with
      | some (ds, ρ2) => match apart (lends M 0 ads) (ices M 0 ads) with
        | true => r ds (fun c fs os => E c fs (putBack (lends M 0 ads) os ρ2)) (fun d os => nf (putBack (lends M 0 ads) os ρ2) (Q d))
        | false => False
      | none => False)
    (hq : ∀ d ρ' w' v, Q d ρ' → EndE X.K τ w σ ρ ρ' w' → Rep X.K w' d [τ] v → Qv v w'.H) (hx : SX X.K W τ w σ ρ E) : FnD X.K m M r vs w.H Qv (WE W σ) := by
  split at h
  · rename_i ds ρ2 eds
    split at h
    · rename_i eap
      obtain ⟨l1, l2, a3, a4, a5⟩ := argDs_spec eds
      obtain ⟨lv, av⟩ := argsAt_get ha
      obtain ⟨p1, p2⟩ := apart_get eap
      have hP : ∀ i, i < ρ.length → ∀ s, iceP M τ ads ((i + 1) :: s) = (ices M 0 ads).contains i := fun i hi s => by
        show (if τ ≤ i + 1 then _ else _) = _
        rw [if_neg (by omega)]
      have inO : ∀ i s, i < ρ.length → (∀ p ∈ lends M 0 ads, p.1 ≠ i) → inLoc M τ ads ((i + 1) :: s) = some (0 :: (i + 1) :: s) := fun i s hi hne => by
        show (if τ ≤ i + 1 then _ else _) = _
        rw [if_neg (by omega)]
        show (match (lends M 0 ads).lookup i with | some j => some ((j + 1) :: s) | none => some (0 :: (i + 1) :: s)) = _
        cases q : (lends M 0 ads).lookup i with
        | none => rfl
        | some j => exact absurd rfl (hne _ (lookup_some q))
      have inL : ∀ i j s, i < ρ.length → (i, j) ∈ lends M 0 ads → inLoc M τ ads ((i + 1) :: s) = some ((j + 1) :: s) := fun i j s hi hm => by
        show (if τ ≤ i + 1 then _ else _) = _
        rw [if_neg (by omega)]
        show (match (lends M 0 ads).lookup i with | some j => some ((j + 1) :: s) | none => some (0 :: (i + 1) :: s)) = _
        rw [lookup_of_mem p2 hm]
      -- the world in the def
      refine ⟨lv.trans hl, (w.ice (iceP M τ ads)).ren (inLoc M τ ads), ds, _, _, rfl, st.wf.ice.ren _, l1.trans hl, fun j d v e1 e2 => ?_, h, fun d os w' v hQ eF rv => ?_, fun c fs os w' x hE eF rx => ?_⟩
      · -- the arguments
        obtain ⟨a, ea, g⟩ := a5 j d e1
        have at1 := av j a v ea e2
        rw [Nat.zero_add] at g
        cases a with
        | val d0 =>
          have at1 : Rep X.K w d0 [τ + j] v := at1
          have g : d = (match M.contains j with | true => d0 | false => d0.frz) := g
          cases hc : M.contains j with
          | true =>
            rw [hc] at g
            have g : d = d0 := g
            subst g
            refine Rep.ren (Rep.to (w' := w.ice (iceP M τ ads)) (ice_same st.wf) d (ice_kept fun s => ?_) at1) fun s => ?_
            · show (if τ ≤ τ + j then !M.contains (τ + j - τ) else _) = false
              rw [if_pos (by omega), show τ + j - τ = j by omega, hc]; rfl
            · show (if τ ≤ τ + j then (if M.contains (τ + j - τ) then _ else _) else _) = _
              rw [if_pos (by omega), show τ + j - τ = j by omega, hc]; rfl
          | false =>
            rw [hc] at g
            have g : d = d0.frz := g
            subst g
            refine Rep.free (w := w.ice (iceP M τ ads)) (w' := (w.ice (iceP M τ ads)).ren (inLoc M τ ads)) (ℓ := [τ + j]) (Same.refl _) _ (frz_own d0) (Rep.frz (ice_same st.wf) d0 (ice_frz fun s => ?_) at1)
            show (if τ ≤ τ + j then !M.contains (τ + j - τ) else _) = true
            rw [if_pos (by omega), show τ + j - τ = j by omega, hc]; rfl
        | brw i =>
          have at1 : σ[i]? = some (some v) := at1
          cases hc : M.contains j with
          | true =>
            have hm : (i, j) ∈ lends M 0 ads := by
              have : ∀ (l : List AD) (b q : Nat), l[q]? = some (.brw i) → M.contains (b + q) = true → (i, b + q) ∈ lends M b l := by
                intro l
                induction l with
                | nil => intro b q e; simp at e
                | cons a l ih =>
                  intro b q e hcc
                  cases q with
                  | zero =>
                    cases e
                    simp only [lends]
                    rw [show b + 0 = b by omega] at hcc ⊢
                    rw [hcc]; exact List.mem_cons_self
                  | succ q =>
                    have z := ih (b + 1) q (by simpa using e) (by rw [show b + 1 + q = b + (q + 1) by omega]; exact hcc)
                    rw [show b + 1 + q = b + (q + 1) by omega] at z
                    cases a with
                    | val d => simp only [lends]; exact z
                    | brw i' =>
                      simp only [lends]
                      split
                      · exact List.mem_cons_of_mem _ z
                      · exact z
              have z := this ads 0 j ea (by simpa using hc)
              simpa using z
            have hni : (ices M 0 ads).contains i = false := by
              cases q : (ices M 0 ads).contains i with
              | false => rfl
              | true => exact absurd (List.contains_iff_mem.mp q) (p1 _ hm)
            have er := g.1 ⟨hc, hni⟩
            have hi := (List.getElem?_eq_some_iff.mp er).1
            obtain ⟨v', e3, r3⟩ := st.rep i d er
            rw [at1] at e3; cases e3
            refine Rep.ren (Rep.to (w' := w.ice (iceP M τ ads)) (ice_same st.wf) d (ice_kept fun s => ?_) r3) fun s => ?_
            · exact (hP i hi s).trans hni
            · exact inL i j s hi hm
          | false =>
            obtain ⟨hi1, d0, er, ed⟩ := g.2 hc
            subst ed
            have hi := (List.getElem?_eq_some_iff.mp er).1
            obtain ⟨v', e3, r3⟩ := st.rep i d0 er
            rw [at1] at e3; cases e3
            refine Rep.free (w := w.ice (iceP M τ ads)) (w' := (w.ice (iceP M τ ads)).ren (inLoc M τ ads)) (ℓ := [i + 1]) (Same.refl _) _ (frz_own d0) (Rep.frz (ice_same st.wf) d0 (ice_frz fun s => ?_) r3)
            exact (hP i hi s).trans hi1
      all_goals
        have key : EndE X.K τ w σ ρ (putBack (lends M 0 ads) os ρ2) (w'.ren (outLoc M τ m ads)) := by
          have back : ∀ a h s, w.G a = some (h :: s) → iceP M τ ads (h :: s) = false → inLoc M τ ads (h :: s) = some (0 :: h :: s) → (w'.ren (outLoc M τ m ads)).G a = some (h :: s) ∧ w'.H a = w.H a := fun a h s e1 e2 e3 => by
            have g1 : (w.ice (iceP M τ ads)).G a = some (h :: s) := by
              have := (ice_kept (w := w) (P := iceP M τ ads) (ℓ := h :: s) (fun t => by
                cases h with
                | zero => exact e2
                | succ h => exact e2) a [] (by simpa using e1)).1
              simpa using this
            obtain ⟨k1, k2⟩ := eF.f a (h :: s) (ren_at g1 e3)
            exact ⟨ren_at k1 rfl, k2⟩
          have hss : Same w.S w'.S := (ice_same st.wf).trans eF.s
          refine ⟨by rw [putBack_len, l2], ⟨eF.wf.ren _, by rw [putBack_len, l2]; exact st.len, fun i d' e => ?_⟩, ⟨hss, fun a ℓ e ⟨h, s, e2, k⟩ => ?_⟩⟩
          · by_cases hm : ∃ j, (i, j) ∈ lends M 0 ads
            · obtain ⟨j, hm⟩ := hm
              obtain ⟨q, e3, e4, e5⟩ := lends_mem hm
              rw [Nat.zero_add] at e3
              subst e3
              have hqa := (List.getElem?_eq_some_iff.mp e4).1
              have hv : vs[j]? = some (vs[j]'(by rw [lv]; exact hqa)) := List.getElem?_eq_getElem _
              have at1 : σ[i]? = some (some _) := av j (.brw i) _ e4 hv
              have hiσ := (List.getElem?_eq_some_iff.mp at1).1
              rw [putBack_at p2 hm (by rw [l2, ← st.len]; exact hiσ)] at e
              have e : oGet os j = some d' := Option.some.inj e
              unfold oGet at e
              cases hos : os[j]? with
              | none => rw [hos] at e; cases e
              | some o =>
                rw [hos] at e
                have e : o = some d' := e
                subst e
                refine ⟨_, at1, (eF.args j e5 d' _ hos hv).ren fun s => ?_⟩
                show (if j = m then _ else _) = _
                rw [if_neg (by omega)]
                show (match ((lends M 0 ads).map fun p => (p.2, p.1)).lookup j with | some i => some ((i + 1) :: s) | none => none) = _
                rw [lends_back hm]; rfl
            · have hne : ∀ p ∈ lends M 0 ads, p.1 ≠ i := fun p hp z => hm ⟨p.2, by rw [← z]; exact hp⟩
              rw [putBack_other hne] at e
              have hi : i < ρ.length := by rw [← l2]; exact (List.getElem?_eq_some_iff.mp e).1
              cases hic : (ices M 0 ads).contains i with
              | true =>
                obtain ⟨d0, er, ed⟩ := a4 i d' hic e
                subst ed
                obtain ⟨v', e3, r3⟩ := st.rep i d0 er
                refine ⟨v', e3, ?_⟩
                have r4 : Rep X.K (w.ice (iceP M τ ads)) d0.frz [i + 1] v' := Rep.frz (ice_same st.wf) d0 (ice_frz fun s => (hP i hi s).trans hic) r3
                exact Rep.free (w := w.ice (iceP M τ ads)) (w' := w'.ren (outLoc M τ m ads)) eF.s _ (frz_own d0) r4
              | false =>
                rw [a3 i hic] at e
                obtain ⟨v', e3, r3⟩ := st.rep i d' e
                exact ⟨v', e3, Rep.to (w' := w'.ren (outLoc M τ m ads)) hss d' (fun a s e6 => back a (i + 1) s e6 ((hP i hi s).trans hic) (inO i s hi hne)) r3⟩
          · subst e2
            refine back a h s e ?_ ?_
            · show (if τ ≤ h then _ else _) = false
              rw [if_neg (by omega)]
              cases h with
              | zero => rfl
              | succ i =>
                show (ices M 0 ads).contains i = false
                cases q : (ices M 0 ads).contains i with
                | false => rfl
                | true =>
                  exfalso
                  have mem : ∀ (l : List AD) (b : Nat), (ices M b l).contains i = true → ∃ q : Nat, l[q]? = some (AD.brw i) := by
                    intro l
                    induction l with
                    | nil => intro b h; simp [ices] at h
                    | cons a l ih =>
                      intro b h
                      cases a with
                      | val d => simp only [ices] at h; obtain ⟨q, e⟩ := ih (b + 1) h; exact ⟨q + 1, by simpa using e⟩
                      | brw i' =>
                        simp only [ices] at h
                        split at h
                        · obtain ⟨q, e⟩ := ih (b + 1) h; exact ⟨q + 1, by simpa using e⟩
                        · simp only [List.contains_cons, Bool.or_eq_true, beq_iff_eq] at h
                          rcases h with z | z
                          · exact ⟨0, by rw [z]; rfl⟩
                          · obtain ⟨q, e⟩ := ih (b + 1) z; exact ⟨q + 1, by simpa using e⟩
                  obtain ⟨qq, eq⟩ := mem ads 0 q
                  have hqa := (List.getElem?_eq_some_iff.mp eq).1
                  have at1 : σ[i]? = some (some _) := av qq (.brw i) _ eq (List.getElem?_eq_getElem (by rw [lv]; exact hqa))
                  have := (List.getElem?_eq_some_iff.mp at1).1
                  rw [st.len] at this
                  omega
            · show (if τ ≤ h then _ else _) = _
              rw [if_neg (by omega)]
              cases h with
              | zero => rfl
              | succ i =>
                show (match (lends M 0 ads).lookup i with | some j => some ((j + 1) :: s) | none => some (0 :: (i + 1) :: s)) = _
                cases q : (lends M 0 ads).lookup i with
                | none => rfl
                | some j =>
                  exfalso
                  obtain ⟨q2, e3, e4, e5⟩ := lends_mem (lookup_some q)
                  have hqa := (List.getElem?_eq_some_iff.mp e4).1
                  have at1 : σ[i]? = some (some _) := av q2 (.brw i) _ e4 (List.getElem?_eq_getElem (by rw [lv]; exact hqa))
                  have := (List.getElem?_eq_some_iff.mp at1).1
                  rw [st.len] at this
                  omega
      · refine hq d _ (w'.ren (outLoc M τ m ads)) v (nf_of hQ) key (rv.ren fun s => ?_)
        show (if m = m then _ else _) = _
        rw [if_pos rfl]; rfl
      · refine hx c fs _ (w'.ren (outLoc M τ m ads)) x hE key ?_
        cases x with
        | none => cases fs <;> exact rx
        | some a =>
          cases fs with
          | none => exact rx
          | some fs =>
            obtain ⟨us, h1, h2, h3, h4⟩ := rx
            exact ⟨us, h1, h2, h3, RepL.free (w := w') (w' := w'.ren (outLoc M τ m ads)) (Same.refl _) _ h3 h4⟩
    · exact h.elim
  · exact h.elim
variable {k : Nat} {f : Addr} {fd : FuncData} {ps : List Str} {M : List Nat} {r : FSpec} {x : Str} {p pos : Pos} {e : Expr} {es : List Expr} {ra : RA}
theorem fe_call {m : Nat} (tk : Takes X W) (F : FnOk X.prog X.w X.K X.mg X.base (L2.CX X.prog X.w) k f fd ps (FnD X.K m M r)) (hr : Room k X.A) (hm : X.mg x = some (.ref f)) (hk : PySem.W.keepIn X.K (.ref f) = true) (hb : Binds X.K fd ps [])
    (ha : FA X W (e :: es) ra) (hl : (e :: es).length = m := by rfl) (hg : Gl X x := by rfl) (hdb : (x == ("__debug__" : Str)) = false := by decide) (he : starEach (e :: es) X.env = (false, eval e X.env) :: starEach es X.env := by rfl) (hpl : (backTo pos (starEach es X.env)).any (·.1) = false := by rfl) :
    FE X W (.Call (.Name x p) (e :: es) [] pos) (rCall M r ra) := by
  obtain ⟨t, pa, sa⟩ := ha.ex
  refine ⟨_, pe_callS (E := WE W) F hr hg hm hk hb (fun σ => passAt tk σ) pa hdb he hpl, fun τ w σ ρ E Q Qv hn st h hq hx => ?_⟩
  refine sa τ w σ ρ E _ _ hn st h (fun ads ρ1 w1 vs h1 l1 e1 r1 => ?_) hx
  exact call_sound (by rw [e1.len]; exact hn) e1.st (l1.trans hl) r1 h1 (fun d ρ' w' v q e2 r2 => hq d ρ' w' v q (e1.trans e2 (Nat.le_refl _)) r2) (hx.then e1 (Nat.le_refl _))
end
end FL
namespace FL
open PySem PySem.Spec PyProof.Rows L2
def rWhile (rt : RT) (rb : RS) : RS := fun ρ E F => ∃ I : Nat → En → Prop, (∃ m, I m ρ) ∧ ∀ m ρ, I m ρ → rt ρ E fun b ρ1 =>
  (b = true → rb ρ1 E (F.lp fun ρ2 => ∃ m', m' < m ∧ I m' ρ2)) ∧ (b = false → F.nx ρ1)
section
variable {X : Cx} {W : WX} {M : List Nat} {pos : Pos}
theorem fs_while {c : Expr} {body : List Stmt} {rt : RT} {rb : RS} (hp : PassesOwn (model X.prog X.w) X.A X.env X.xe) (hc : FT X W c rt) (hb : FSs X W M body rb) : FS X W M (.While c body [] pos) (rWhile rt rb) := by
  obtain ⟨t, p, k⟩ := hc.ex
  obtain ⟨u, q, l⟩ := hb.ex
  refine ⟨_, ps_while hp p q, fun w σ ρ E F D st ⟨I, ⟨m0, i0⟩, turn⟩ hf => ?_⟩
  refine ⟨fun m σ' H' => ∃ ρ' w', w'.H = H' ∧ I m ρ' ∧ EndS X.K M w σ ρ w' σ' ρ', ⟨m0, ρ, w, rfl, i0, .refl st⟩, ?_⟩
  rintro m σ1 H1 ⟨ρ1, w1, rfl, i1, e1⟩
  refine k _ w1 σ1 ρ1 E _ _ (Nat.lt_succ_self _) e1.st (turn m ρ1 i1) (fun b ρ2 w2 h2 e2 => ?_) (hf.then e1).sx
  have e12 := e1.trans (e2.s (M := M) (Nat.lt_succ_self _))
  cases b with
  | true =>
    rw [if_pos rfl]
    refine ⟨fun σ' H' => ∃ m', m' < m ∧ ∃ ρ' w', w'.H = H' ∧ I m' ρ' ∧ EndS X.K M w σ ρ w' σ' ρ', fun σ' H' ⟨m', h1, h2⟩ => ⟨m', h1, h2⟩, ?_⟩
    refine l w2 σ1 ρ2 E _ _ e12.st (h2.1 rfl) ⟨fun ρ' w' σ' ⟨m', h1, h2⟩ e => ⟨m', h1, ρ', w', rfl, h2, e12.trans e⟩, (hf.then e12).rt, (hf.then e12).nx, fun ρ' w' σ' ⟨m', h1, h2⟩ e => ⟨m', h1, ρ', w', rfl, h2, e12.trans e⟩, (hf.then e12).ex⟩
  | false =>
    rw [if_neg Bool.false_ne_true]
    exact hf.nx ρ2 w2 σ1 (h2.2 rfl) e12
end
/-- a later world that only has more -/
def Grow (w w' : Wd) : Prop := Wf w' ∧ Same w.S w'.S ∧ (∀ ℓ, KeptTo w w' ℓ ℓ)
theorem Grow.refl {w : Wd} (h : Wf w) : Grow w w := ⟨h, Same.refl _, fun ℓ a s e => ⟨e, rfl⟩⟩
theorem Grow.end {K : PySem.W.Frag} {τ : Nat} {w w' : Wd} {σ : Sl} {ρ : En} (g : Grow w w') (st : StE K w σ ρ) : EndE K τ w σ ρ ρ w' :=
  ⟨rfl, st.to g.1 g.2.1 fun i _ => g.2.2 _, ⟨g.2.1, fun a ℓ e _ => by simpa using g.2.2 ℓ a [] (by simpa using e)⟩⟩
def ItOk (K : PySem.W.Frag) (J : It) (ds : List D) (w : Wd) : Prop := ∀ i w1, Wf w1 → Same w.S w1.S →
  (∀ d, ds[i]? = some d → J.go i w1.H ∧ ∀ x H', J.yld i w1.H x H' → ∃ w2, w2.H = H' ∧ Grow w1 w2 ∧ d.own = false ∧ ∀ ℓ, Rep K w2 d ℓ x) ∧ (i = ds.length → J.stop i w1.H)
abbrev RI := En → EE → (List D → En → Prop) → Prop
def SI (K : PySem.W.Frag) (W : WX) (wi : TI) (ri : RI) : Prop :=
  ∀ (τ : Nat) (w : Wd) (σ : Sl) (ρ : En) (E : EE) (Q : List D → En → Prop) (R : It → Hp → Prop), ρ.length < τ → StE K w σ ρ → ri ρ E Q →
    (∀ ds ρ' w' J, Q ds ρ' → ds.length ≤ sizeLine → EndE K τ w σ ρ ρ' w' → ItOk K J ds w' → R J w'.H) → SX K W τ w σ ρ E → wi σ w.H R
structure FI (X : Cx) (W : WX) (tg iter : Expr) (ri : RI) : Prop where
  ex : ∃ wi, PI X tg iter wi ∧ SI X.K W wi ri
abbrev RG := D → En → (En → Prop) → Prop
abbrev RGs := List D → En → (En → Prop) → Prop
/-- behind a store to names of A -/
structure EndG (K : PySem.W.Frag) (A : List Nat) (w : Wd) (σ : Sl) (ρ : En) (w' : Wd) (σ' : Sl) (ρ' : En) : Prop where
  len : ρ'.length = ρ.length
  st : StE K w' σ' ρ'
  ext : ∀ T, Ext ρ.length T w w'
  off : ∀ i, i ∉ A → σ'[i]? = σ[i]?
theorem EndG.refl {K : PySem.W.Frag} {A : List Nat} {w : Wd} {σ : Sl} {ρ : En} (h : StE K w σ ρ) : EndG K A w σ ρ w σ ρ := ⟨rfl, h, fun _ => .refl, fun _ _ => rfl⟩
theorem EndG.trans {K : PySem.W.Frag} {A : List Nat} {w w1 w2 : Wd} {σ σ1 σ2 : Sl} {ρ ρ1 ρ2 : En} (a : EndG K A w σ ρ w1 σ1 ρ1) (b : EndG K A w1 σ1 ρ1 w2 σ2 ρ2) : EndG K A w σ ρ w2 σ2 ρ2 :=
  ⟨b.len.trans a.len, b.st, fun T => (a.ext T).trans (by have := b.ext T; rw [a.len] at this; exact this), fun i hi => (b.off i hi).trans (a.off i hi)⟩
theorem EndG.s {K : PySem.W.Frag} {A M : List Nat} {w w1 : Wd} {σ σ1 : Sl} {ρ ρ1 : En} (a : EndG K A w σ ρ w1 σ1 ρ1) (h : (M.all fun i => !A.contains i) = true) : EndS K M w σ ρ w1 σ1 ρ1 :=
  ⟨a.len, a.st, a.ext _, fun i hi => a.off i fun hA => by
    have := List.all_eq_true.mp h i hi
    rw [List.contains_iff_mem.mpr hA] at this
    cases this⟩
def SG (K : PySem.W.Frag) (A : List Nat) (g : TG) (rg : RG) : Prop :=
  ∀ (w : Wd) (σ : Sl) (ρ : En) (d : D) (v : V) (Q : En → Prop) (Qg : Sl → Hp → Prop), d.own = false → (∀ ℓ, Rep K w d ℓ v) → StE K w σ ρ → rg d ρ Q →
    (∀ ρ' w' σ', Q ρ' → EndG K A w σ ρ w' σ' ρ' → Qg σ' w'.H) → g v σ w.H Qg
def SGs (K : PySem.W.Frag) (A : List Nat) (g : TGs) (rg : RGs) : Prop :=
  ∀ (w : Wd) (σ : Sl) (ρ : En) (ds : List D) (vs : List V) (Q : En → Prop) (Qg : Sl → Hp → Prop), ownL ds = false → (∀ ℓ j, RepL K w ds ℓ j vs) → StE K w σ ρ → rg ds ρ Q →
    (∀ ρ' w' σ', Q ρ' → EndG K A w σ ρ w' σ' ρ' → Qg σ' w'.H) → g vs σ w.H Qg
/-- a target that stores to names of A -/
structure FG (X : Cx) (A : List Nat) (tg : Expr) (rg : RG) : Prop where
  ex : ∃ g, PG X tg g ∧ SG X.K A g rg
structure FGs (X : Cx) (A : List Nat) (tgs : List Expr) (rg : RGs) : Prop where
  ex : ∃ g, PGs X tgs g ∧ SGs X.K A g rg
def gNm (i : Nat) : RG := fun d ρ Q => nf (ρ.set i (some d)) Q
def gTp (n : Nat) (rg : RGs) : RG := fun d ρ Q => match d with
  | .tup false ds => ds.length = n ∧ rg ds ρ Q
  | .ro true ds => ds.length = n ∧ rg ds ρ Q
  | .lst .ice ds => ds.length = n ∧ rg ds ρ Q
  | .ro false ds => ds.length = n ∧ rg ds ρ Q
  | _ => False
def gNl : RGs := fun ds ρ Q => match ds with
  | [] => Q ρ
  | _ => False
def gCs (r : RG) (rs : RGs) : RGs := fun ds ρ Q => match ds with
  | d :: ds => r d ρ fun ρ' => rs ds ρ' Q
  | [] => False
/-- slot i forgotten -/
def dropT (i : Nat) : Loc → Option Loc
  | h :: s => if h = i + 1 then none else some (h :: s)
  | [] => some []
theorem StE.putF {K : PySem.W.Frag} {w : Wd} {σ : Sl} {ρ : En} (st : StE K w σ ρ) (i : Nat) {d : D} {v : V} (ho : d.own = false) (r : ∀ ℓ, Rep K w d ℓ v) : StE K (w.ren (dropT i)) (σ.set i (some v)) (ρ.set i (some d)) := by
  refine ⟨st.wf.ren _, by rw [List.length_set, List.length_set]; exact st.len, fun j d' e => ?_⟩
  by_cases hj : j = i
  · subst hj
    have hl : j < ρ.length := by
      have := (List.getElem?_eq_some_iff.mp e).1
      simpa using this
    rw [List.getElem?_set_self hl] at e
    cases e
    exact ⟨v, List.getElem?_set_self (by rw [st.len]; exact hl), Rep.free (w := w) (w' := w.ren (dropT j)) (Same.refl _) d ho (r [])⟩
  · rw [List.getElem?_set_ne (Ne.symm hj)] at e ⊢
    obtain ⟨v', e1, r'⟩ := st.rep j d' e
    refine ⟨v', e1, r'.ren fun s => ?_⟩
    show (if _ then _ else _) = _
    rw [if_neg (by omega)]; rfl
section
variable {X : Cx} {A : List Nat} {pos : Pos}
theorem sg_name {K : PySem.W.Frag} {i : Nat} (hA : A.contains i = true) : SG K A (gName i) (gNm i) := by
  intro w σ ρ d v Q Qg ho hr st h hq
  by_cases hi : i < ρ.length
  · refine hq _ (w.ren (dropT i)) _ (nf_of h) ⟨by rw [List.length_set], st.putF i ho hr, fun T => ⟨Same.refl _, fun a ℓ e ⟨h, s, e2, k⟩ => ?_⟩, fun j hj => ?_⟩
    · subst e2
      refine ⟨ren_at e ?_, rfl⟩
      show (if _ then _ else _) = _
      rw [if_neg (by omega)]
    · have : j ≠ i := fun z => by
        subst z
        exact hj (List.contains_iff_mem.mp hA)
      exact List.getElem?_set_ne (Ne.symm this)
  · show Qg (σ.set i (some v)) w.H
    rw [set_out _ (by rw [st.len]; exact hi)]
    have h : Q (ρ.set i (some d)) := nf_of h
    rw [set_out _ hi] at h
    exact hq _ _ _ h (.refl st)
theorem fg_name (i : Nat) {x : Str} (hN : X.N.Nodup) (hi : X.N[i]? = some x := by rfl) (hx : L2.Loc X.env.scope x := by first | exact .inl rfl | exact .inr rfl) (hA : A.contains i = true := by rfl) (hf : X.fn x = true ∨ X.env.scope.names.lookup x = some .local := by first | exact .inl rfl | exact .inr rfl) : FG X A (.Name x pos) (gNm i) :=
  ⟨_, pg_name hN hi hx hf, sg_name hA⟩
theorem fgs_nil : FGs X A [] gNl := ⟨_, pgs_nil, fun w σ ρ ds vs Q Qg ho hr st h hq => by
  unfold gNl at h
  split at h
  · have := hr [] 0
    simp only [RepL] at this
    exact ⟨this, hq _ _ _ h (.refl st)⟩
  · exact h.elim⟩
theorem fgs_cons {e : Expr} {es : List Expr} {r : RG} {rs : RGs} (h : FG X A e r) (g : FGs X A es rs) (hs : (assignEach (e :: es) X.env).map (·.2) = assign e X.env :: (assignEach es X.env).map (·.2) := by rfl) : FGs X A (e :: es) (gCs r rs) := by
  obtain ⟨t, p, k⟩ := h.ex
  obtain ⟨u, q, l⟩ := g.ex
  refine ⟨_, pgs_cons p q hs, fun w σ ρ ds vs Q Qg ho hr st h hq => ?_⟩
  unfold gCs at h
  split at h
  · rename_i d ds'
    have r0 := hr [] 0
    simp only [RepL] at r0
    obtain ⟨v, us, rfl, _, _⟩ := r0
    simp only [ownL, Bool.or_eq_false_iff] at ho
    have rd : ∀ ℓ, Rep X.K w d ℓ v := fun ℓ => by
      have := hr [] 0
      simp only [RepL] at this
      obtain ⟨v', us', e, h1, _⟩ := this
      cases e
      exact h1.free (Same.refl _) d ho.1
    have rds : ∀ ℓ j, RepL X.K w ds' ℓ j us := fun ℓ j => by
      have := hr [] 0
      simp only [RepL] at this
      obtain ⟨v', us', e, _, h2⟩ := this
      cases e
      exact RepL.free (Same.refl _) ds' ho.2 h2
    refine ⟨v, us, rfl, k w σ ρ d v _ _ ho.1 rd st h fun ρ1 w1 σ1 h1 e1 => ?_⟩
    exact l w1 σ1 ρ1 ds' us _ _ ho.2 (fun ℓ j => RepL.free (w := w) (ℓ := ℓ) (j := j) (e1.ext 0).s ds' ho.2 (rds ℓ j)) e1.st h1 fun ρ2 w2 σ2 h2 e2 => hq ρ2 w2 σ2 h2 (e1.trans e2)
  · exact h.elim
theorem pg_or {tg : Expr} {g g' : TG} (h : PG X tg g) (k : PG X tg g') : PG X tg (fun v σ H Q => g v σ H Q ∨ g' v σ H Q) :=
  ⟨fun pins s σ H v u Q I r hw => hw.elim (fun z => h.run pins s σ H v u Q I r z) fun z => k.run pins s σ H v u Q I r z⟩
theorem fg_tup {es : List Expr} {k n : Nat} {rs : RGs} (h : FGs X A es rs) (hc : X.calm = true := by rfl) (hn : (assignEach es X.env).length = n := by rfl) (hst : (assignEach es X.env).findIdx? (·.1) = none := by rfl) : FG X A (.Tuple es k pos) (gTp n rs) := by
  obtain ⟨t, p, k⟩ := h.ex
  refine ⟨_, pg_or (pg_tup hc p hn hst) (pg_unl hc p hn hst), fun w σ ρ d v Q Qg ho hr st h hq => ?_⟩
  unfold gTp at h
  split at h
  · rename_i ds
    have hz := (tup_sz (hr [])).2 rfl
    obtain ⟨a, vs, rfl, h1, h2⟩ := tup_at st.wf (hr [])
    exact .inl ⟨a, vs, rfl, SqT.of h1, h2.length.trans h.1, k w σ ρ ds vs _ _ hz (fun ℓ j => h2.free (Same.refl _) ds hz) st h.2 hq⟩
  · rename_i ds
    have r := hr []
    simp only [Rep] at r
    obtain ⟨a, vs, rfl, h1, hz, h2⟩ := r
    exact .inl ⟨a, vs, rfl, same_rdT st.wf.sh h1, h2.length.trans h.1, k w σ ρ ds vs _ _ hz.2 (fun ℓ j => h2.free (Same.refl _) ds hz.2) st h.2 hq⟩
  · rename_i ds
    have hz := (lst_sz (hr [])).2 rfl
    obtain ⟨a, vs, rfl, h1, h2⟩ := lst_at st.wf (hr [])
    exact .inr ⟨a, vs, rfl, SqL.of h1, h2.length.trans h.1, k w σ ρ ds vs _ _ hz (fun ℓ j => h2.free (Same.refl _) ds hz) st h.2 hq⟩
  · rename_i ds
    have r := hr []
    simp only [Rep] at r
    obtain ⟨a, vs, rfl, h1, hz, h2⟩ := r
    exact .inr ⟨a, vs, rfl, st.wf.sh.seq h1, h2.length.trans h.1, k w σ ρ ds vs _ _ hz.2 (fun ℓ j => h2.free (Same.refl _) ds hz.2) st h.2 hq⟩
  · exact h.elim
end
def RgOk (lo hi : Int) : Prop := (-1000000 ≤ lo ∧ lo ≤ 1000000) ∧ (-1000000 ≤ hi ∧ hi ≤ 1000000)
def rgD (lo hi : Int) : List D := (List.range (hi - lo).toNat).map fun (i : Nat) => D.int (lo + (i : Int))
def rRg1 (ra : RA) : RI := fun ρ E Q => ra ρ E fun ads ρ' => onAds ρ' ads fun ds => match ds with
  | [.int n] => RgOk 0 n ∧ Q (rgD 0 n) ρ'
  | _ => False
theorem it_list {K : PySem.W.Frag} {w : Wd} {a : Addr} {vs : List V} {ds : List D} (h : SqL K w.S a vs) (ho : ownL ds = false) (r : ∀ ℓ, RepL K w ds ℓ 0 vs) : ItOk K (Itl K a) ds w := by
  intro i w1 wf1 sm
  have hq : SqL K w1.H a vs := wf1.sh.seq (sm.seq h)
  refine ⟨fun d e => ?_, fun hl => ⟨vs, hq, by rw [(r []).length, hl]; exact Nat.le_refl _⟩⟩
  obtain ⟨v, ev, rv⟩ := (r []).get e
  have ho' : d.own = false := ownL_iff.mp ho d (List.mem_of_getElem? e)
  refine ⟨⟨vs, v, hq, ev⟩, fun x H' y => ?_⟩
  obtain ⟨rfl, y⟩ := y
  have := y vs hq
  rw [ev] at this; cases this
  exact ⟨w1, rfl, .refl wf1, ho', fun ℓ => rv.free sm d ho'⟩
theorem it_tup {K : PySem.W.Frag} {w : Wd} {a : Addr} {vs : List V} {ds : List D} (h : SqT K w.S a vs) (ho : ownL ds = false) (r : ∀ ℓ, RepL K w ds ℓ 0 vs) : ItOk K (Itt K a) ds w := by
  intro i w1 wf1 sm
  have hq : SqT K w1.H a vs := same_rdT wf1.sh (same_rdT sm h)
  refine ⟨fun d e => ?_, fun hl => ⟨vs, hq, by rw [(r []).length, hl]; exact Nat.le_refl _⟩⟩
  obtain ⟨v, ev, rv⟩ := (r []).get e
  have ho' : d.own = false := ownL_iff.mp ho d (List.mem_of_getElem? e)
  refine ⟨⟨vs, v, hq, ev⟩, fun x H' y => ?_⟩
  obtain ⟨rfl, y⟩ := y
  have := y vs hq
  rw [ev] at this; cases this
  exact ⟨w1, rfl, .refl wf1, ho', fun ℓ => rv.free sm d ho'⟩
theorem it_range {K : PySem.W.Frag} {w : Wd} {lo : Int} {n : Nat} : ItOk K (Itr lo n) ((List.range n).map fun (i : Nat) => D.int (lo + (i : Int))) w := by
  intro i w1 wf1 sm
  refine ⟨fun d e => ?_, fun hl => by rw [List.length_map, List.length_range] at hl; exact Nat.le_of_eq hl.symm⟩
  rw [List.getElem?_map] at e
  have hi : i < n := by
    cases q : (List.range n)[i]? with
    | none => rw [q] at e; cases e
    | some j => have := (List.getElem?_eq_some_iff.mp q).1; simpa using this
  rw [List.getElem?_range hi] at e
  cases e
  refine ⟨hi, fun x H' y => ?_⟩
  obtain ⟨rfl, rfl⟩ := y
  exact ⟨w1, rfl, .refl wf1, rfl, fun ℓ => rfl⟩
/-- an owned list at a temporary is frozen for the walk -/
theorem EndE.iceT {K : PySem.W.Frag} {τ : Nat} {w : Wd} {σ : Sl} {ρ : En} {d : D} {v : V} (hn : ρ.length < τ) (st : StE K w σ ρ) (r : Rep K w d [τ] v) :
    ∃ w', w'.H = w.H ∧ EndE K τ w σ ρ ρ w' ∧ ∀ ℓ, Rep K w' d.frz ℓ v := by
  refine ⟨w.ice fun ℓ => match ℓ with | h :: _ => h == τ | [] => false, rfl, ⟨rfl, st.to st.wf.ice (ice_same st.wf) fun i hi => ice_kept fun s => ?_, ⟨ice_same st.wf, fun a ℓ e ⟨h, s, e2, k⟩ => ?_⟩⟩, fun ℓ => ?_⟩
  · show ((i + 1) == τ) = false
    simp; omega
  · subst e2
    have := ice_kept (w := w) (ℓ := h :: s) (P := fun ℓ => match ℓ with | h :: _ => h == τ | [] => false) (fun t => by
      show (h == τ) = false
      simp; omega) a [] (by simpa using e)
    simpa using this
  · exact Rep.frz (w := w) (ice_same st.wf) d (ice_frz fun s => by show (τ == τ) = true; simp) r
section
variable {X : Cx} {W : WX} {tg e : Expr} {re : RE} {p pos : Pos}
theorem rgD_len (lo hi : Int) : (rgD lo hi).length = (hi - lo).toNat := by unfold rgD; rw [List.length_map, List.length_range]
theorem fi_range1 {a : Expr} {ra : RA} (ha : FA X W [a] ra) (hm : X.mg "range" = none) (hg : Gl X "range" := by rfl) (hs : starEach [a] X.env = [(false, eval a X.env)] := by rfl) : FI X W tg (.Call (.Name "range" p) [a] [] pos) (rRg1 ra) := by
  obtain ⟨t, q, k⟩ := ha.ex
  refine ⟨_, pi_range1 hg hm q hs, fun τ w σ ρ E Q R hn st h hq hx => ?_⟩
  refine k τ w σ ρ E _ _ hn st h (fun ads ρ1 w1 vs h1 l1 e1 r1 => ?_) hx
  obtain ⟨ds, ed, h1⟩ := onAds_elim h1
  have ra := ads_any e1.st r1 ed
  split at h1
  · rename_i n
    obtain ⟨v, ℓ, rfl, r⟩ := reps1 ra
    simp only [Rep] at r
    subst r
    obtain ⟨⟨_, b1, b2⟩, h1⟩ := h1
    refine ⟨n, rfl, by omega, by omega, hq _ ρ1 w1 _ h1 (by rw [rgD_len, sizeLine_eq]; omega) e1 ?_⟩
    unfold rgD
    rw [Int.sub_zero]
    exact it_range
  · exact h1.elim
end
def forR (body : D → RS) : List D → RS
  | [], ρ, _, F => F.nx ρ
  | d :: ds, ρ, E, F => ∃ G : Fin, body d ρ E G ∧ G.le (F.lp fun ρ' => forR body ds ρ' E F)
/-- (a door: what stands ahead of it is reckoned out no further) -/
structure ForG (body : D → RS) (ds : List D) (ρ : En) (E : EE) (F : Fin) : Prop where
  go : forR body ds ρ E F
def rFor (ri : RI) (rg : RG) (rb : RS) : RS := fun ρ E F => ri ρ E fun ds ρ1 => ForG (fun d ρ E F => rg d ρ fun ρ2 => rb ρ2 E F) ds ρ1 E F
/-- what a judgement may lean on at its start -/
abbrev LW := Wd → Sl → En → Prop
def SIL (K : PySem.W.Frag) (W : WX) (L : LW) (wi : TI) (ri : RI) : Prop :=
  ∀ (τ : Nat) (w : Wd) (σ : Sl) (ρ : En) (E : EE) (Q : List D → En → Prop) (R : It → Hp → Prop), L w σ ρ → ρ.length < τ → StE K w σ ρ → ri ρ E Q →
    (∀ ds ρ' w' J, Q ds ρ' → ds.length ≤ sizeLine → EndE K τ w σ ρ ρ' w' → ItOk K J ds w' → R J w'.H) → SX K W τ w σ ρ E → wi σ w.H R
def SEL (K : PySem.W.Frag) (W : WX) (L : LW) (t : TE) (r : RE) : Prop :=
  ∀ (τ : Nat) (w : Wd) (σ : Sl) (ρ : En) (E : EE) (Q : D → En → Prop) (Qv : VK), L w σ ρ → ρ.length < τ → StE K w σ ρ → r ρ E Q →
    (∀ d ρ' w' v, Q d ρ' → EndE K τ w σ ρ ρ' w' → Rep K w' d [τ] v → Qv v w'.H) → SX K W τ w σ ρ E → t σ w.H Qv
def SSL (K : PySem.W.Frag) (W : WX) (L : LW) (M : List Nat) (t : TS) (r : RS) : Prop :=
  ∀ (w : Wd) (σ : Sl) (ρ : En) (E : EE) (F : Fin) (D : Ends), L w σ ρ → StE K w σ ρ → r ρ E F → SF K W M w σ ρ E F D → t D σ w.H
section
variable {X : Cx} {W : WX} {M : List Nat} {pos : Pos}
theorem fs_forL (L : LW) (A : List Nat) {tg iter : Expr} {body : List Stmt} {ri : RI} {rg : RG} {rb : RS} (hp : PassesOwn (model X.prog X.w) X.A X.env X.xe) (hi : ∃ wi, PI X tg iter wi ∧ SIL X.K W L wi ri) (hg : FG X A tg rg) (hb : FSs X W M body rb) (hA : (M.all fun i => !A.contains i) = true) (hc : X.calm = true)
    (hs : ∀ x, foldedSetIterable iter X.env x = pure x) : ∃ t, PS X (.For tg iter body [] pos) t ∧ SSL X.K W L M t (rFor ri rg rb) := by
  obtain ⟨wi, p, k⟩ := hi
  obtain ⟨g, pg, kg⟩ := hg.ex
  obtain ⟨t, pb, kb⟩ := hb.ex
  refine ⟨_, ps_for hp hc p pg pb hs, fun w σ ρ E F D hL st h hf => ?_⟩
  refine k _ w σ ρ E _ _ hL (Nat.lt_succ_self _) st h (fun ds ρ1 w1 J h1 hz e1 io => ?_) hf.sx
  have es := e1.s (M := M) (Nat.lt_succ_self _)
  have hf1 := hf.then es
  refine ⟨fun i m σ' H' => m = ds.length - i ∧ i ≤ ds.length ∧ ∃ ρ' w', w'.H = H' ∧ forR (fun d ρ E F => rg d ρ fun ρ2 => rb ρ2 E F) (ds.drop i) ρ' E F ∧ EndS X.K M w1 σ ρ1 w' σ' ρ', ⟨_, rfl, Nat.zero_le _, ρ1, w1, rfl, h1.go, .refl e1.st⟩, ?_⟩
  rintro i m σ2 H2 ⟨rfl, hi2, ρ2, w2, rfl, h2, e2⟩
  obtain ⟨io1, io2⟩ := io i w2 e2.st.wf e2.ext.s
  by_cases hlt : i < ds.length
  · obtain ⟨go, yl⟩ := io1 _ (List.getElem?_eq_getElem hlt)
    rw [List.drop_eq_getElem_cons hlt] at h2
    obtain ⟨G, hbd, hle⟩ := h2
    refine .inr ⟨go, fun σ' H' => ∃ ρ' w', w'.H = H' ∧ forR (fun d ρ E F => rg d ρ fun ρ2 => rb ρ2 E F) (ds.drop (i + 1)) ρ' E F ∧ EndS X.K M w1 σ ρ1 w' σ' ρ', fun σ' H' h => ⟨ds.length - (i + 1), by omega, rfl, hlt, h⟩, fun x H' y => ?_⟩
    obtain ⟨w3, rfl, gr, ho, rx⟩ := yl x H' y
    have e3 := gr.end (τ := ρ2.length + 1) e2.st
    have e13 := e2.trans (e3.s (M := M) (Nat.lt_succ_self _))
    refine kg w3 σ2 ρ2 _ x _ _ ho rx e3.st hbd fun ρ4 w4 σ4 h4 e4 => ?_
    have e14 := e13.trans (e4.s hA)
    have hf4 := hf1.then e14
    exact kb w4 σ4 ρ4 E G _ e14.st h4 ⟨fun ρ' w' σ' q e => ⟨ρ', w', rfl, hle.nx _ q, e14.trans e⟩, fun d ρ' w' σ' v q e r => hf4.rt d ρ' w' σ' v (hle.rt _ _ q) e r, fun ρ' w' σ' q e => hf4.nx ρ' w' σ' (hle.bk _ q) e,
      fun ρ' w' σ' q e => ⟨ρ', w', rfl, hle.ct _ q, e14.trans e⟩, hf4.ex⟩
  · have : i = ds.length := by omega
    subst this
    rw [List.drop_length] at h2
    exact .inl ⟨io2 rfl, hf1.nx ρ2 w2 σ2 h2 e2⟩
theorem FI.toL {L : LW} {tg iter : Expr} {ri : RI} (hi : FI X W tg iter ri) : ∃ wi, PI X tg iter wi ∧ SIL X.K W L wi ri := by
  obtain ⟨wi, p, k⟩ := hi.ex
  exact ⟨wi, p, fun τ w σ ρ E Q R _ => k τ w σ ρ E Q R⟩
theorem fs_for (A : List Nat) {tg iter : Expr} {body : List Stmt} {ri : RI} {rg : RG} {rb : RS} (hp : PassesOwn (model X.prog X.w) X.A X.env X.xe) (hi : FI X W tg iter ri) (hg : FG X A tg rg) (hb : FSs X W M body rb) (hA : (M.all fun i => !A.contains i) = true := by rfl) (hc : X.calm = true := by rfl)
    (hs : ∀ x, foldedSetIterable iter X.env x = pure x := by intro _; rfl) : FS X W M (.For tg iter body [] pos) (rFor ri rg rb) := by
  obtain ⟨t, p, k⟩ := fs_forL (fun _ _ _ => True) A hp hi.toL hg hb hA hc hs
  exact ⟨t, p, fun w σ ρ E F D => k w σ ρ E F D trivial⟩
end
/-- a loop by what holds between its turns -/
theorem forR_inv {body : D → RS} {E : EE} {F : Fin} (I : Nat → En → Prop) : ∀ (ds : List D) (k : Nat) (ρ : En), I k ρ →
    (∀ i d ρ, ds[i]? = some d → I (k + i) ρ → body d ρ E (F.lp (I (k + i + 1)))) → (∀ ρ, I (k + ds.length) ρ → F.nx ρ) → forR body ds ρ E F
  | [], k, ρ, h0, _, hd => hd ρ h0
  | d :: ds, k, ρ, h0, hs, hd => by
    refine ⟨_, hs 0 d ρ rfl h0, fun ρ' h => ?_, fun _ _ h => h, fun _ h => h, fun ρ' h => ?_⟩
    all_goals
      refine forR_inv I ds (k + 1) ρ' h (fun i d' ρ2 e h2 => ?_) fun ρ2 h2 => hd ρ2 (by rw [List.length_cons, show k + (ds.length + 1) = k + 1 + ds.length by omega]; exact h2)
      have := hs (i + 1) d' ρ2 (by simpa using e) (by rw [show k + (i + 1) = k + 1 + i by omega]; exact h2)
      rw [show k + (i + 1) + 1 = k + 1 + i + 1 by omega] at this
      exact this
def E0D : EE := fun _ _ _ => False
def W0 : WX := fun _ _ _ _ => False
def wipeD (ρ : En) : List Nat → En
  | [] => ρ
  | v :: vs => (wipeD ρ vs).set v none
def backD (ρ0 ρ : En) : List Nat → En
  | [] => ρ
  | v :: vs => (backD ρ0 ρ vs).set v (match ρ0[v]? with
    | some (some d) => match d.own with
      | true => none
      | false => some d
    | _ => none)
/-- the kind of a list that has got one more part, or none -/
def kindR : Ow → Option D → Ow
  | o, none => o
  | o, some d => match d.own with
    | false => o
    | true => .deep
def compR (f : D → En → (Option D → En → Prop) → Prop) (vs : List Nat) : List D → En → Ow → List D → (Ow → List D → En → Prop) → Prop
  | [], ρ, k, acc, Q => Q k acc ρ
  | d :: ds, ρ, k, acc, Q => ∃ P : Option D → En → Prop, f d ρ P ∧ ∀ o ρ', P o ρ' → compR f vs ds (wipeD ρ' vs) (kindR k o) (acc ++ o.toList) Q
structure CompG (f : D → En → (Option D → En → Prop) → Prop) (vs : List Nat) (ds : List D) (ρ : En) (Q : Ow → List D → En → Prop) : Prop where
  go : compR f vs ds ρ .flat [] Q
def rComp (ri : RI) (rg : RG) (rt : RT) (re : RE) (vs : List Nat) : RE := fun ρ E Q => ri ρ E fun ds ρ1 => nf (wipeD ρ1 vs) fun ρ0 =>
  CompG (fun d ρ k => rg d ρ fun ρ2 => rt ρ2 E0D fun b ρ3 => (b = true → re ρ3 E0D fun y ρ4 => k (some y) ρ4) ∧ (b = false → k none ρ3)) vs ds ρ0 fun k ys ρ' => nf (backD ρ1 ρ' vs) (Q (.lst k ys))
def rYes : RT := fun ρ _ Q => Q true ρ
structure FTs (X : Cx) (W : WX) (ifs : List Expr) (r : RT) : Prop where
  ex : ∃ t, PTs X ifs t ∧ STt X.K W t r
section
variable {X : Cx} {W : WX}
theorem fts_nil : FTs X W [] rYes := ⟨_, pts_nil, fun τ w σ ρ E Q Qv hn st h hq hx => hq true ρ w h (.refl st)⟩
theorem fts_one {c : Expr} {r : RT} (h : FT X W c r) : FTs X W [c] r := by
  obtain ⟨t, p, k⟩ := h.ex
  exact ⟨_, pts_one p, k⟩
end
theorem wipeD_len (ρ : En) : ∀ vs, (wipeD ρ vs).length = ρ.length
  | [] => rfl
  | v :: vs => by unfold wipeD; rw [List.length_set, wipeD_len ρ vs]
theorem wipeD_some {ρ : En} {i : Nat} {d : D} : ∀ {vs : List Nat}, (wipeD ρ vs)[i]? = some (some d) → ρ[i]? = some (some d) ∧ i ∉ vs
  | [], h => ⟨h, by simp⟩
  | v :: vs, h => by
    unfold wipeD at h
    by_cases hi : v = i
    · subst hi
      by_cases hv : v < (wipeD ρ vs).length
      · rw [List.getElem?_set_self hv] at h; cases h
      · rw [List.getElem?_eq_none (by simpa using hv)] at h; cases h
    · rw [List.getElem?_set_ne hi] at h
      obtain ⟨h1, h2⟩ := wipeD_some h
      exact ⟨h1, by simp only [List.mem_cons, not_or]; exact ⟨fun e => hi e.symm, h2⟩⟩
theorem backD_len (ρ0 ρ : En) : ∀ vs, (backD ρ0 ρ vs).length = ρ.length
  | [] => rfl
  | v :: vs => by unfold backD; rw [List.length_set, backD_len ρ0 ρ vs]
theorem backD_some {ρ0 ρ : En} {i : Nat} {d : D} : ∀ {vs : List Nat}, (backD ρ0 ρ vs)[i]? = some (some d) → (i ∉ vs ∧ ρ[i]? = some (some d)) ∨ (i ∈ vs ∧ ρ0[i]? = some (some d) ∧ d.own = false)
  | [], h => .inl ⟨by simp, h⟩
  | v :: vs, h => by
    unfold backD at h
    by_cases hi : v = i
    · subst hi
      by_cases hv : v < (backD ρ0 ρ vs).length
      · rw [List.getElem?_set_self hv] at h
        have h : (match ρ0[v]? with | some (some d) => (match d.own with | true => none | false => some d) | _ => none) = some d := Option.some.inj h
        split at h
        · rename_i d' e
          split at h
          · cases h
          · rename_i ho
            cases h
            exact .inr ⟨List.mem_cons_self, e, ho⟩
        · cases h
      · rw [List.getElem?_eq_none (by simpa using hv)] at h; cases h
    · rw [List.getElem?_set_ne hi] at h
      rcases backD_some h with ⟨h1, h2⟩ | ⟨h1, h2⟩
      · exact .inl ⟨by simp only [List.mem_cons, not_or]; exact ⟨fun e => hi e.symm, h1⟩, h2⟩
      · exact .inr ⟨List.mem_cons_of_mem _ h1, h2⟩
theorem StE.wipe {K : PySem.W.Frag} {w : Wd} {σ : Sl} {ρ : En} (st : StE K w σ ρ) (vs : List Nat) : StE K w (L2.wipe σ vs) (wipeD ρ vs) :=
  ⟨st.wf, by rw [wipe_length, wipeD_len]; exact st.len, fun i d e => by
    obtain ⟨e1, hn⟩ := wipeD_some e
    obtain ⟨v, e2, r⟩ := st.rep i d e1
    exact ⟨v, by rw [wipe_out hn]; exact e2, r⟩⟩
theorem wipe_eq {σ σ' : Sl} {vs : List Nat} (hl : σ'.length = σ.length) (h : ∀ i, i ∉ vs → σ'[i]? = σ[i]?) : L2.wipe σ' vs = L2.wipe σ vs := by
  have at1 : ∀ (τ : Sl) (i : Nat) (vs : List Nat), i ∈ vs → i < τ.length → (L2.wipe τ vs)[i]? = some none := by
    intro τ i vs
    induction vs with
    | nil => intro h; cases h
    | cons v vs ih =>
      intro h hi
      unfold L2.wipe
      by_cases hv : v = i
      · subst hv
        exact List.getElem?_set_self (by rw [wipe_length]; exact hi)
      · rw [List.getElem?_set_ne hv]
        rcases List.mem_cons.mp h with e | h
        · exact absurd e.symm hv
        · exact ih h hi
  apply List.ext_getElem?
  intro i
  by_cases hi : i ∈ vs
  · by_cases hl2 : i < σ.length
    · rw [at1 σ' i vs hi (by omega), at1 σ i vs hi hl2]
    · rw [List.getElem?_eq_none (by rw [wipe_length]; omega), List.getElem?_eq_none (by rw [wipe_length]; omega)]
  · rw [wipe_out hi, wipe_out hi, h i hi]
theorem wipe_wipe (σ : Sl) (vs : List Nat) : L2.wipe (L2.wipe σ vs) vs = L2.wipe σ vs := wipe_eq (by rw [wipe_length]) fun i hi => wipe_out hi
/-- an object changed -/
def Wd.put (w : Wd) (a : Addr) (o : HO) : Wd := ⟨w.G, w.S, upd w.H a o⟩
theorem Wf.put {w : Wd} (h : Wf w) {a : Addr} {ℓ : Loc} (ht : w.G a = some ℓ) {o : HO} (m : Mut (some o)) : Wf (w.put a o) := by
  refine ⟨fun b u e => ?_, fun b k e => ?_⟩
  · have e' : w.S b = some u := e
    have : b ≠ a := fun z => by rw [z, (h.tg a ℓ ht).1] at e'; cases e'
    show upd w.H a o b = some u
    rw [upd_ne this]; exact h.sh b u e
  · refine ⟨(h.tg b k e).1, ?_⟩
    show Mut (upd w.H a o b)
    by_cases hb : b = a
    · subst hb; rw [upd_same]; exact m
    · rw [upd_ne hb]; exact (h.tg b k e).2
theorem put_kept {w : Wd} {a : Addr} {ℓ k : Loc} (ht : w.G a = some ℓ) {o : HO} (hk : ∀ s, k ++ s ≠ ℓ) : KeptTo w (w.put a o) k k := fun b s e => ⟨e, by
  have : b ≠ a := fun z => by subst z; rw [ht] at e; cases e; exact hk s rfl
  exact upd_ne this⟩
/-- the temporary τ + 1 becomes the j-th child of τ -/
def joinT (τ j : Nat) : Loc → Option Loc
  | h :: s => if h = τ + 1 then some (τ :: j :: s) else some (h :: s)
  | [] => some []
theorem joinT_calm {n τ j : Nat} (h : n < τ) : Calm n τ (joinT τ j) := ⟨fun a s q => by
  show (if _ then _ else _) = _
  rw [if_neg (by omega)]⟩
section
variable {X : Cx} {W : WX}
abbrev BlkC := Shared × Hp × Addr × List (Str × Addr) × List Addr
abbrev Cx.blkC (X : Cx) (scope : Scope) (c : BlkC) : Cx := X.blk c.1 c.2.1 scope (compEnvC scope c.2.2.2.1 c.2.2.1 X.env) c.2.2.2.2
theorem lc_exL (L : LW) (vs : List Nat) {elt tg iter : Expr} {ifs : List Expr} {scope : Scope} {ri : RI} {rg : RG} {rt : RT} {re : RE} (hi : ∃ wi, PI X tg iter wi ∧ SIL X.K W L wi ri)
    (hg : ∀ c : BlkC, FG (Cx.blkC X scope c) vs tg rg) (ht : ∀ c : BlkC, FTs (Cx.blkC X scope c) W0 ifs rt) (he : ∀ c : BlkC, FE (Cx.blkC X scope c) W0 elt re) :
    ∃ (wi : TI) (g : TG) (tt : TT) (te : TE), PI X tg iter wi ∧ (∀ c : BlkC, PG (Cx.blkC X scope c) tg g) ∧ (∀ c : BlkC, PTs (Cx.blkC X scope c) ifs tt) ∧ (∀ c : BlkC, PE (Cx.blkC X scope c) elt te) ∧ SEL X.K W L (tLc wi g tt te vs) (rComp ri rg rt re vs) := by
  obtain ⟨wi, p, k⟩ := hi
  let g : TG := fun v σ H Q => ∀ c, Classical.choose (hg c).ex v σ H Q
  let tt : TT := fun σ H Q => ∀ c, Classical.choose (ht c).ex σ H Q
  let te : TE := fun σ H Q => ∀ c, Classical.choose (he c).ex σ H Q
  have pg : ∀ c, PG (Cx.blkC X scope c) tg g := fun c => ⟨fun pins s σ H v u Q I r h => (Classical.choose_spec (hg c).ex).1.run pins s σ H v u Q I r (h c)⟩
  have sg : SG X.K vs g rg := fun w σ ρ d v Q Qg ho hr st h hq c => (Classical.choose_spec (hg c).ex).2 w σ ρ d v Q Qg ho hr st h hq
  have pt : ∀ c, PTs (Cx.blkC X scope c) ifs tt := fun c => ⟨fun pins s σ H Q I h => (Classical.choose_spec (ht c).ex).1.run pins s σ H Q I (h c)⟩
  have stt : STt X.K W0 tt rt := fun τ w σ ρ E Q Qv hn st h hq hx c => (Classical.choose_spec (ht c).ex).2 τ w σ ρ E Q Qv hn st h hq hx
  have pe : ∀ c, PE (Cx.blkC X scope c) elt te := fun c => ⟨fun pins s σ H Q I h => (Classical.choose_spec (he c).ex).1.run pins s σ H Q I (h c)⟩
  have ste : SE X.K W0 te re := fun τ w σ ρ E Q Qv hn st h hq hx c => (Classical.choose_spec (he c).ex).2 τ w σ ρ E Q Qv hn st h hq hx
  refine ⟨wi, g, tt, te, p, pg, pt, pe, fun τ w σ ρ E Q Qv hL hn st h hq hx => ?_⟩
  refine k τ w σ ρ E _ _ hL hn st h (fun ds ρ1 w1 J h1 hz e1 io => ?_) hx
  simp only [nf_eq] at h1
  replace h1 := h1.go
  intro L nL
  have hn1 : ρ1.length < τ := by rw [e1.len]; exact hn
  have s0 := e1.st.wipe vs
  have eo : EndE X.K τ w1 (L2.wipe σ vs) (wipeD ρ1 vs) (wipeD ρ1 vs) (w1.new L [τ] (.lst [])) ∧ Rep X.K (w1.new L [τ] (.lst [])) (.lst .deep []) [τ] (.ref L) := EndE.own .deep s0 nL (by simp [RepL]) (Nat.zero_le _) (fun z => nomatch z) rfl
  refine ⟨fun i m H' => m = ds.length - i ∧ i ≤ ds.length ∧ ∃ ρ' w' kd acc, w'.H = H' ∧ ρ'.length = ρ1.length ∧ StE X.K w' (L2.wipe σ vs) ρ' ∧ Ext ρ1.length τ w1 w' ∧ Rep X.K w' (.lst .deep acc) [τ] (.ref L) ∧ (kd.mine = true ∧ Lt kd acc) ∧ acc.length ≤ i ∧
    compR (fun d ρ k => rg d ρ fun ρ2 => rt ρ2 E0D fun b ρ3 => (b = true → re ρ3 E0D fun y ρ4 => k (some y) ρ4) ∧ (b = false → k none ρ3)) vs (ds.drop i) ρ' kd acc fun k ys ρ' => Q (.lst k ys) (backD ρ1 ρ' vs),
    ⟨_, rfl, Nat.zero_le _, _, _, .flat, [], rfl, wipeD_len _ _, eo.1.st, by have := eo.1.ext; rw [wipeD_len] at this; exact this, eo.2, ⟨rfl, fun _ => rfl⟩, Nat.zero_le _, h1⟩, ?_⟩
  rintro i m H2 ⟨rfl, hi2, ρ2, w2, kd, acc, rfl, l2, st2, x2, r2, kl, al, h2⟩
  obtain ⟨io1, io2⟩ := io i w2 st2.wf x2.s
  by_cases hlt : i < ds.length
  · obtain ⟨go, yl⟩ := io1 _ (List.getElem?_eq_getElem hlt)
    rw [List.drop_eq_getElem_cons hlt] at h2
    obtain ⟨P, hb, hP⟩ := h2
    refine .inr ⟨go, fun H' => ∃ ρ' w' kd acc, w'.H = H' ∧ ρ'.length = ρ1.length ∧ StE X.K w' (L2.wipe σ vs) ρ' ∧ Ext ρ1.length τ w1 w' ∧ Rep X.K w' (.lst .deep acc) [τ] (.ref L) ∧ (kd.mine = true ∧ Lt kd acc) ∧ acc.length ≤ i + 1 ∧
      compR (fun d ρ k => rg d ρ fun ρ2 => rt ρ2 E0D fun b ρ3 => (b = true → re ρ3 E0D fun y ρ4 => k (some y) ρ4) ∧ (b = false → k none ρ3)) vs (ds.drop (i + 1)) ρ' kd acc fun k ys ρ' => Q (.lst k ys) (backD ρ1 ρ' vs),
      fun H' h => ⟨ds.length - (i + 1), by omega, rfl, hlt, h⟩, fun x H' y => ?_⟩
    obtain ⟨w3, rfl, gr, ho, rx⟩ := yl x H' y
    have e3 := gr.end (τ := τ + 1) st2
    refine sg w3 (L2.wipe σ vs) ρ2 _ x _ _ ho rx e3.st hb fun ρ4 w4 σ4 h4 e4 => ?_
    have hw4 : L2.wipe σ4 vs = L2.wipe σ vs := by
      have l4 : σ4.length = (L2.wipe σ vs).length := by rw [e4.st.len, e4.len, ← e3.st.len]
      rw [wipe_eq l4 e4.off, wipe_wipe]
    refine ⟨hw4, ?_⟩
    have l4 : ρ4.length = ρ1.length := by rw [e4.len, l2]
    have x4 : Ext ρ1.length (τ + 1) w2 w4 := by
      have a := e3.ext
      have b := e4.ext (τ + 1)
      rw [l2] at a b
      exact a.trans b
    refine stt (τ + 1) w4 σ4 ρ4 E0D _ _ (by omega) e4.st h4 (fun b ρ5 w5 h5 e5 => ?_) (fun c fs ρ' w' d h => h.elim)
    have x5 : Ext ρ1.length (τ + 1) w2 w5 := x4.trans (by have := e5.ext; rw [l4] at this; exact this)
    have l5 : ρ5.length = ρ1.length := e5.len.trans l4
    have again : ∀ {ρ6 : En} {w6 : Wd} {kd' : Ow} {acc' : List D}, ρ6.length = ρ1.length → StE X.K w6 σ4 ρ6 → Ext ρ1.length τ w1 w6 → Rep X.K w6 (.lst .deep acc') [τ] (.ref L) → (kd'.mine = true ∧ Lt kd' acc') → acc'.length ≤ i + 1 → compR (fun d ρ k => rg d ρ fun ρ2 => rt ρ2 E0D fun b ρ3 => (b = true → re ρ3 E0D fun y ρ4 => k (some y) ρ4) ∧ (b = false → k none ρ3)) vs (ds.drop (i + 1)) (wipeD ρ6 vs) kd' acc' (fun k ys ρ' => Q (.lst k ys) (backD ρ1 ρ' vs)) →
        ∃ ρ' w' kd acc, w'.H = w6.H ∧ ρ'.length = ρ1.length ∧ StE X.K w' (L2.wipe σ vs) ρ' ∧ Ext ρ1.length τ w1 w' ∧ Rep X.K w' (.lst .deep acc) [τ] (.ref L) ∧ (kd.mine = true ∧ Lt kd acc) ∧ acc.length ≤ i + 1 ∧
      compR (fun d ρ k => rg d ρ fun ρ2 => rt ρ2 E0D fun b ρ3 => (b = true → re ρ3 E0D fun y ρ4 => k (some y) ρ4) ∧ (b = false → k none ρ3)) vs (ds.drop (i + 1)) ρ' kd acc fun k ys ρ' => Q (.lst k ys) (backD ρ1 ρ' vs) :=
      fun {ρ6 w6 kd' acc'} a1 a2 a3 a4 a7 a5 a6 => ⟨wipeD ρ6 vs, w6, kd', acc', rfl, by rw [wipeD_len]; exact a1, by have := a2.wipe vs; rw [hw4] at this; exact this, a3, a4, a7, a5, a6⟩
    cases b with
    | false =>
      rw [if_neg Bool.false_ne_true]
      have q := hP none ρ5 (h5.2 rfl)
      rw [Option.toList_none, List.append_nil] at q
      exact again l5 e5.st (x2.trans (x5.mono (Nat.le_succ _))) (x5.rep (r := []) ⟨hn1, Nat.lt_succ_self _⟩ r2) kl (by omega) q
    | true =>
      rw [if_pos rfl]
      refine ste (τ + 1) w5 σ4 ρ5 E0D _ _ (by omega) e5.st (h5.1 rfl) (fun y ρ6 w6 v6 h6 e6 r6 => ?_) (fun c fs ρ' w' d h => h.elim)
      have x6 : Ext ρ1.length (τ + 1) w2 w6 := x5.trans (by have := e6.ext; rw [l5] at this; exact this)
      have l6 : ρ6.length = ρ1.length := e6.len.trans l5
      have ra : Rep X.K w6 (.lst .deep acc) [τ] (.ref L) := x6.rep (r := []) ⟨hn1, Nat.lt_succ_self _⟩ r2
      -- the element goes to its place
      have er : EndE X.K τ w6 σ4 ρ6 ρ6 (w6.ren (joinT τ acc.length)) := EndE.ren e6.st (joinT_calm (by omega))
      have ra2 : Rep X.K (w6.ren (joinT τ acc.length)) (.lst .deep acc) [τ] (.ref L) := ra.ren fun s => by
        show (if _ then _ else _) = _
        rw [if_neg (by omega)]; rfl
      have ry : Rep X.K (w6.ren (joinT τ acc.length)) y [τ, acc.length] v6 := r6.ren fun s => by
        show (if _ then _ else _) = _
        rw [if_pos rfl]; rfl
      simp only [Rep] at ra2
      obtain ⟨a, us, ea, tha, hza, rl⟩ := ra2
      cases ea
      obtain ⟨ta, ha⟩ := (show _ ∧ _ from tha)
      refine ⟨us, ha, by rw [rl.length]; omega, ?_⟩
      have kk : ∀ (h : Nat) (s t : Loc), h ≠ τ → h :: s ++ t ≠ [τ] := fun h s t e z => by
        have := congrArg List.head? z
        simp at this
        exact e this
      have ek : EndE X.K τ (w6.ren (joinT τ acc.length)) σ4 ρ6 ρ6 ((w6.ren (joinT τ acc.length)).put L (.lst (us ++ [v6]))) :=
        ⟨rfl, er.st.to (er.st.wf.put ta trivial) (Same.refl _) fun i hi => put_kept ta fun s => kk _ [] s (by omega), ⟨Same.refl _, fun b ℓ e ⟨h, s, e2, k⟩ => by
          subst e2
          have := put_kept (o := .lst (us ++ [v6])) ta (k := h :: s) (fun t => kk h s t (by omega)) b [] (by simpa using e)
          simpa using this⟩⟩
      have q := hP (some y) ρ6 h6
      refine again l6 ek.st ((x2.trans (x6.mono (Nat.le_succ _))).trans (by have a := er.ext; have b := ek.ext; rw [l6] at a b; exact a.trans b)) ?_ ?_ (by simp; omega) q
      rotate_left
      · show (kindR kd (some y)).mine = true ∧ Lt (kindR kd (some y)) (acc ++ [y])
        cases qy : y.own with
        | true =>
          have : kindR kd (some y) = .deep := by simp only [kindR, qy]
          rw [this]
          exact ⟨rfl, fun z => nomatch z⟩
        | false =>
          have : kindR kd (some y) = kd := by simp only [kindR, qy]
          rw [this]
          exact ⟨kl.1, fun z => by rw [ownL_append, kl.2 z]; simp [ownL, qy]⟩
      have ch : ∀ (j : Nat) (t : Loc), [τ] ++ [j] ++ t ≠ [τ] := fun j t z => by
        have := congrArg List.length z
        simp at this
      simp only [Rep]
      refine ⟨L, us ++ [v6], rfl, (show _ ∧ _ from ⟨ta, upd_same⟩), ⟨by simp; omega, fun z => nomatch z⟩, ?_⟩
      refine RepL.app (RepL.of rl.length fun j d v e1 e2 => ?_) (RepL.one ?_)
      · obtain ⟨v', e3, r⟩ := rl.get e1
        rw [e2] at e3; cases e3
        exact Rep.to (w := w6.ren (joinT τ acc.length)) (w' := (w6.ren (joinT τ acc.length)).put L (.lst (us ++ [v6]))) (Same.refl _) d (put_kept ta fun t => ch _ t) r
      · rw [Nat.zero_add]
        exact Rep.to (w := w6.ren (joinT τ acc.length)) (w' := (w6.ren (joinT τ acc.length)).put L (.lst (us ++ [v6]))) (Same.refl _) y (put_kept ta fun t => ch _ t) ry
  · have : i = ds.length := by omega
    subst this
    rw [List.drop_length] at h2
    refine .inl ⟨io2 rfl, hq _ _ w2 _ h2 ⟨by rw [backD_len, l2, e1.len], ⟨st2.wf, by rw [backD_len, l2]; exact e1.st.len, fun i d e => ?_⟩, e1.ext.trans (by have := x2; rw [e1.len] at this; exact this)⟩ ?_⟩
    rotate_left
    · simp only [Rep] at r2 ⊢
      obtain ⟨a, us, ea, tha, hza, rl⟩ := r2
      exact ⟨a, us, ea, by rw [if_pos kl.1]; exact tha, ⟨hza.1, kl.2⟩, rl⟩
    rcases backD_some e with ⟨h3, h4⟩ | ⟨h3, h4, h5⟩
    · obtain ⟨v, e5, r⟩ := st2.rep i d h4
      rw [wipe_out h3] at e5
      exact ⟨v, e5, r⟩
    · obtain ⟨v, e5, r⟩ := e1.st.rep i d h4
      exact ⟨v, e5, r.free x2.s d h5⟩
theorem lc_ex (vs : List Nat) {elt tg iter : Expr} {ifs : List Expr} {scope : Scope} {ri : RI} {rg : RG} {rt : RT} {re : RE} (hi : FI X W tg iter ri)
    (hg : ∀ c : BlkC, FG (Cx.blkC X scope c) vs tg rg) (ht : ∀ c : BlkC, FTs (Cx.blkC X scope c) W0 ifs rt) (he : ∀ c : BlkC, FE (Cx.blkC X scope c) W0 elt re) :
    ∃ (wi : TI) (g : TG) (tt : TT) (te : TE), PI X tg iter wi ∧ (∀ c : BlkC, PG (Cx.blkC X scope c) tg g) ∧ (∀ c : BlkC, PTs (Cx.blkC X scope c) ifs tt) ∧ (∀ c : BlkC, PE (Cx.blkC X scope c) elt te) ∧ SE X.K W (tLc wi g tt te vs) (rComp ri rg rt re vs) := by
  obtain ⟨wi, g, tt, te, p, pg, pt, pe, k⟩ := lc_exL (fun _ _ _ => True) vs hi.toL hg ht he
  exact ⟨wi, g, tt, te, p, pg, pt, pe, fun τ w σ ρ E Q Qv => k τ w σ ρ E Q Qv trivial⟩
theorem fe_lc (vs : List Nat) {elt tg iter : Expr} {ifs : List Expr} {scope : Scope} {own : List (Str × Nat)} {pos : Pos} {ri : RI} {rg : RG} {rt : RT} {re : RE} (hN : X.N.Nodup) (hi : FI X W tg iter ri) (ok : BlkOk X.N X.env.scope scope own)
    (hg : ∀ c : BlkC, FG (Cx.blkC X scope c) vs tg rg) (ht : ∀ c : BlkC, FTs (Cx.blkC X scope c) W0 ifs rt) (he : ∀ c : BlkC, FE (Cx.blkC X scope c) W0 elt re) (hv : own.map (·.2) = vs := by rfl) (hc : X.calm = true := by rfl) (hs : ∀ x, foldedSetIterable iter X.env x = pure x := by intro _; rfl) :
    FE X W (.ListComp elt [⟨tg, iter, ifs, 0⟩] scope pos) (rComp ri rg rt re vs) := by
  obtain ⟨wi, g, tt, te, p, pg, pt, pe, k⟩ := lc_ex vs hi hg ht he
  exact ⟨tLc wi g tt te vs, by rw [← hv]; exact pe_lc hc hN p ok (fun s H C cl fp => pg (s, H, C, cl, fp)) (fun s H C cl fp => pt (s, H, C, cl, fp)) (fun s H C cl fp => pe (s, H, C, cl, fp)) hs, k⟩
end
end FL
namespace FL
open PySem PySem.Spec PyProof.Rows L2
/-- its parts are known to the letter -/
def D.seen : D → Bool
  | .ro _ _ => false
  | _ => true
def D.at : D → List Nat → Option D
  | d, [] => some d
  | d, j :: p => match d.kids[j]? with
    | some e => e.at p
    | none => none
def D.put : D → List Nat → D → D
  | _, [], e => e
  | d, j :: p, e => match d.kids[j]? with
    | some c => d.withKids (d.kids.set j (c.put p e))
    | none => d
section
variable {K : PySem.W.Frag} {w w' : Wd}
theorem kids_inner {d : D} {j : Nat} {e : D} (hj : d.kids[j]? = some e) : d.inner = true := by
  cases d <;> first | rfl | (simp [D.kids] at hj)
theorem withKids_inner {d : D} (es : List D) (h : d.inner = true) : (d.withKids es).inner = true := by cases d <;> first | exact h | rfl
theorem withKids_kids {d : D} (es : List D) (h : d.inner = true) : (d.withKids es).kids = es := by
  cases d <;> first | rfl | (simp [D.inner] at h)
theorem withKids_own {d : D} (es : List D) : (d.withKids es).own = d.own := by cases d <;> rfl
theorem nd_withKids {d : D} {es : List D} {ℓ : Loc} {a : Addr} {vs : List V} (h : Nd K w d ℓ a vs) : Nd K w (d.withKids es) ℓ a vs := by
  cases d <;> exact h
theorem sz_withKids {d : D} {es fs : List D} {n : Nat} (h : Sz d fs n) : Sz (d.withKids es) fs n := by
  cases d <;> exact h
theorem node_rep {d : D} {ℓ : Loc} {a : Addr} {vs : List V} {es : List D} (hi : d.inner = true) (h : Nd K w d ℓ a vs) (hz : Sz d es vs.length) (hl : RepL K w es ℓ 0 vs) : Rep K w (d.withKids es) ℓ (.ref a) := by
  rw [rep_inner (withKids_inner es hi), withKids_kids es hi]
  exact ⟨a, vs, rfl, nd_withKids h, sz_withKids hz, hl⟩
theorem ownL_set : ∀ {ds : List D} {j : Nat} {c e : D}, ownL ds = false → ds[j]? = some c → (e.own = true → c.own = true) → ownL (ds.set j e) = false
  | [], j, c, e, _, h, _ => by simp at h
  | d :: ds, 0, c, e, h, hj, k => by
    simp only [ownL, Bool.or_eq_false_iff] at h
    cases hj
    have : e.own = false := by
      cases q : e.own with
      | false => rfl
      | true => rw [k q] at h; exact absurd h.1 (by decide)
    simp only [List.set_cons_zero, ownL, this, h.2, Bool.or_self]
  | d :: ds, j + 1, c, e, h, hj, k => by
    simp only [ownL, Bool.or_eq_false_iff] at h
    simp only [List.set_cons_succ, ownL, h.1, Bool.false_or]
    exact ownL_set h.2 (by simpa using hj) k
theorem sz_set {d : D} {ds : List D} {j n : Nat} {c e : D} (h : Sz d ds n) (hj : ds[j]? = some c) (k : e.own = true → c.own = true) : Sz d (ds.set j e) n := by
  cases d <;> first
    | exact h.elim
    | exact ⟨by rw [List.length_set]; exact h.1, fun z => ownL_set (h.2 z) hj k⟩
    | exact ⟨by rw [List.length_set]; exact h.1, ownL_set h.2 hj k⟩
    | exact ⟨h.1, h.2.1, fun z => ownL_set (h.2.2 z) hj k⟩
    | exact ⟨h.1, fun z => ownL_set (h.2 z) hj k⟩
theorem zip_inj {α β : Type} {ks : List α} {vs vs' : List β} (h1 : ks.length = vs.length) (h2 : ks.length = vs'.length) (e : ks.zip vs = ks.zip vs') : vs = vs' := by
  have := congrArg (List.map Prod.snd) e
  rwa [List.map_snd_zip (by omega), List.map_snd_zip (by omega)] at this
theorem own_inj {o : Ow} {ℓ : Loc} {a : Addr} {u u' : HO} (h : if o.mine then w.G a = some ℓ ∧ w.H a = some u else w.S a = some u) (h' : if o.mine then w.G a = some ℓ ∧ w.H a = some u' else w.S a = some u') : u = u' := by
  cases e : o.mine with
  | true => rw [e] at h h'; exact Option.some.inj (h.2.symm.trans h'.2)
  | false => rw [e] at h h'; exact Option.some.inj (h.symm.trans h')
theorem own_injR {o : Ow} {ℓ : Loc} {a : Addr} {u u' : HO} (hu : ∀ ob x, u ≠ .frz ob x) (hu' : ∀ ob x, u' ≠ .frz ob x) (h : if o.mine then w.G a = some ℓ ∧ w.H a = some u else Rd w.S a u) (h' : if o.mine then w.G a = some ℓ ∧ w.H a = some u' else Rd w.S a u') : u = u' := by
  cases e : o.mine with
  | true => rw [e] at h h'; exact Option.some.inj (h.2.symm.trans h'.2)
  | false =>
    rw [e] at h h'
    rcases h with h | ⟨p, h⟩ <;> rcases h' with h' | ⟨p', h'⟩
    · exact Option.some.inj (h.symm.trans h')
    · exact absurd (Option.some.inj (h.symm.trans h')) (hu _ _)
    · exact absurd (Option.some.inj (h'.symm.trans h)) (hu' _ _)
    · have := Option.some.inj (h.symm.trans h'); injection this
theorem nd_inj {d : D} {ℓ : Loc} {a : Addr} {vs vs' : List V} (hs : d.seen = true) (h : Nd K w d ℓ a vs) (h' : Nd K w d ℓ a vs') (hz : Sz d d.kids vs'.length) (hl : vs.length = vs'.length) : vs = vs' := by
  cases d with
  | tup o ds => have := h.symm.trans h'; cases this; rfl
  | lst o ds => have := own_inj h h'; cases this; rfl
  | ro t ds => cases hs
  | dct o t ks ds =>
    have e := own_injR (fun ob x => by unfold dHO; split <;> intro z <;> cases z) (fun ob x => by unfold dHO; split <;> intro z <;> cases z) h h'
    have l1 : ks.length = vs'.length := hz.1
    cases t with
    | true => injection e with e; exact zip_inj (by simp; omega) (by simp; omega) e
    | false => injection e with e; exact zip_inj (by simp; omega) (by simp; omega) e
  | ins o C fs ds =>
    obtain ⟨dx, h⟩ := h
    obtain ⟨dx', h'⟩ := h'
    have l1 : fs.length = vs'.length := hz.1
    cases q : o.mine with
    | true =>
      rw [q] at h h'
      have := Option.some.inj (h.2.symm.trans h'.2)
      injection this with _ _ e
      exact zip_inj (by omega) l1 e
    | false =>
      rw [q] at h h'
      have := Option.some.inj (h.symm.trans h')
      injection this with _ _ e
      exact zip_inj (by omega) l1 e
  | _ => exact h.elim
/-- the value that stands at a path -/
inductive AtV (K : PySem.W.Frag) (w : Wd) : D → Loc → V → List Nat → D → V → Prop
  | here {d : D} {ℓ : Loc} {v : V} : AtV K w d ℓ v [] d v
  | down {d e : D} {ℓ : Loc} {a : Addr} {vs : List V} {j : Nat} {p : List Nat} {v u : V} {c : D} : d.seen = true → Nd K w d ℓ a vs → vs.length = d.kids.length → d.kids[j]? = some c → vs[j]? = some v → AtV K w c (ℓ ++ [j]) v p e u → AtV K w d ℓ (.ref a) (j :: p) e u
theorem AtV.at {d e : D} {ℓ : Loc} {v u : V} {p : List Nat} (h : AtV K w d ℓ v p e u) : d.at p = some e := by
  induction h with
  | here => rfl
  | down _ _ _ hk _ _ ih => simp only [D.at, hk]; exact ih
theorem node_vs {d : D} {ℓ : Loc} {a : Addr} {vs : List V} (hs : d.seen = true) (hi : d.inner = true) (hn : Nd K w d ℓ a vs) (hl : vs.length = d.kids.length) (r : Rep K w d ℓ (.ref a)) : Sz d d.kids vs.length ∧ RepL K w d.kids ℓ 0 vs := by
  rw [rep_inner hi] at r
  obtain ⟨a', vs', ea, hn', hz, rl⟩ := r
  cases ea
  obtain rfl := nd_inj hs hn hn' hz (hl.trans rl.length.symm)
  exact ⟨hz, rl⟩
theorem AtV.rep {d e : D} {ℓ : Loc} {v u : V} {p : List Nat} (h : AtV K w d ℓ v p e u) (r : Rep K w d ℓ v) : Rep K w e (ℓ ++ p) u := by
  induction h with
  | here => rw [List.append_nil]; exact r
  | @down d e ℓ a vs j p v u c hs hn hl hk hv _ ih =>
    obtain ⟨_, rl⟩ := node_vs hs (kids_inner hk) hn hl r
    obtain ⟨v1, e1, r1⟩ := rl.get hk
    rw [hv] at e1; cases e1
    have := ih (by rw [Nat.zero_add] at r1; exact r1)
    rw [List.append_assoc] at this
    exact this
theorem put_own : ∀ {p : List Nat} {d e e' : D}, d.at p = some e → (e'.own = true → e.own = true) → (d.put p e').own = true → d.own = true
  | [], d, e, e', h, k, z => by cases h; exact k z
  | j :: p, d, e, e', h, k, z => by
    simp only [D.at] at h
    cases hk : d.kids[j]? with
    | none => simp [hk] at h
    | some c => simp only [D.put, hk] at z; rw [withKids_own] at z; exact z
/-- the subtree at a path exchanged -/
theorem AtV.put {d e e' : D} {ℓ : Loc} {v u : V} {p : List Nat} (h : AtV K w d ℓ v p e u) (r : Rep K w d ℓ v) (hs : Same w.S w'.S) (ho : e'.own = true → e.own = true)
    (hk : ∀ a k, w.G a = some k → ℓ <+: k → ¬ (ℓ ++ p <+: k) → w'.G a = some k ∧ w'.H a = w.H a) (r' : Rep K w' e' (ℓ ++ p) u) : Rep K w' (d.put p e') ℓ v := by
  induction h with
  | here => rw [List.append_nil] at r'; simp only [D.put]; exact r'
  | @down d e ℓ a vs j p v u c hsn hn hl hkd hv hat ih =>
    obtain ⟨hz, hvs⟩ := node_vs hsn (kids_inner hkd) hn hl r
    have rc := (AtV.down hsn hn hl hkd hv .here : AtV K w d ℓ (.ref a) [j] c v).rep r
    have pre : ∀ k : Loc, ¬ (ℓ ++ (j :: p) <+: ℓ) := fun _ z => by
      have := z.length_le
      simp at this
      omega
    have hnw : Nd K w' d ℓ a vs := hn.later hs fun e1 => hk a ℓ e1 (List.prefix_refl _) (pre ℓ)
    simp only [D.put, hkd]
    refine node_rep (kids_inner hkd) hnw (sz_set hz hkd fun z => put_own hat.at ho z) ?_
    refine RepL.of (by rw [List.length_set]; exact hvs.length) fun i di vi e1 e2 => ?_
    rw [Nat.zero_add]
    by_cases hij : i = j
    · subst hij
      have hl := (List.getElem?_eq_some_iff.mp hkd).1
      rw [List.getElem?_set_self hl] at e1
      cases e1
      rw [hv] at e2; cases e2
      refine ih rc ho (fun b k hb h1 h2 => hk b k hb ((List.prefix_append ℓ [i]).trans h1) fun z => h2 (by rw [List.append_assoc]; exact z)) (by rw [List.append_assoc]; exact r')
    · rw [List.getElem?_set_ne (Ne.symm hij)] at e1
      obtain ⟨v1, e3, r1⟩ := hvs.get e1
      rw [e2] at e3; cases e3
      rw [Nat.zero_add] at r1
      refine r1.to hs di fun b s hb => hk b _ hb (by rw [List.append_assoc]; exact List.prefix_append _ _) fun z => ?_
      rw [List.append_assoc, List.prefix_append_right_inj] at z
      have := z
      simp only [List.singleton_append, List.cons_prefix_cons] at this
      exact hij this.1.symm
end
end FL
namespace FL
open PySem PySem.Spec PyProof.Rows L2
/-- the temporary τ1 goes to L -/
def moveT (τ1 : Nat) (L : Loc) : Loc → Option Loc
  | h :: s => if h = τ1 then some (L ++ s) else some (h :: s)
  | [] => some []
section
variable {K : PySem.W.Frag} {w w' : Wd}
theorem moveT_ne {τ1 h : Nat} {L s : Loc} (e : h ≠ τ1) : moveT τ1 L (h :: s) = some (h :: s) := by
  show (if _ then _ else _) = _
  rw [if_neg e]
theorem moveT_at {τ1 : Nat} {L s : Loc} : moveT τ1 L (τ1 :: s) = some (L ++ s) := by
  show (if _ then _ else _) = _
  rw [if_pos rfl]
theorem Rep.mv {d : D} {h τ1 : Nat} {p L : Loc} {v : V} (r : Rep K w d (h :: p) v) (e : h ≠ τ1) : Rep K (w.ren (moveT τ1 L)) d (h :: p) v := r.ren fun s => moveT_ne e
theorem Rep.mvT {d : D} {τ1 : Nat} {L : Loc} {v : V} (r : Rep K w d [τ1] v) : Rep K (w.ren (moveT τ1 L)) d L v := r.ren fun s => moveT_at
/-- the object at a path of the tree at h0 is exchanged, a temporary taken up -/
theorem node_op {d0 dn d' : D} {h0 τ1 : Nat} {v0 : V} {p : List Nat} {a : Addr} {u : HO} {L : Loc} (r0 : Rep K w d0 [h0] v0) (at0 : AtV K w d0 [h0] v0 p dn (.ref a)) (hne : h0 ≠ τ1) (ta : w.G a = some (h0 :: p)) (ho : d'.own = true → dn.own = true)
    (r' : Rep K ((w.ren (moveT τ1 L)).put a u) d' (h0 :: p) (.ref a)) : Rep K ((w.ren (moveT τ1 L)).put a u) (d0.put p d') [h0] v0 := by
  refine at0.put r0 (Same.refl _) ho (fun b k hb h1 h2 => ?_) r'
  obtain ⟨t, rfl⟩ := h1
  have hb : w.G b = some (h0 :: t) := hb
  refine ⟨ren_at hb (moveT_ne hne), upd_ne fun z => ?_⟩
  subst z
  rw [ta] at hb
  injection hb with hb
  injection hb with _ hb
  exact h2 (by rw [hb]; exact List.prefix_refl _)
/-- the parts of a changed node -/
theorem parts_op {h0 τ1 : Nat} {p : List Nat} {ds : List D} {a : Addr} {vs : List V} {u : HO} {L : Loc} (hne : h0 ≠ τ1) (ta : w.G a = some (h0 :: p)) (rl : RepL K (w.ren (moveT τ1 L)) ds (h0 :: p) 0 vs) : RepL K ((w.ren (moveT τ1 L)).put a u) ds (h0 :: p) 0 vs := by
  have ta' : (w.ren (moveT τ1 L)).G a = some (h0 :: p) := ren_at ta (moveT_ne hne)
  refine RepL.of rl.length fun j d v e1 e2 => ?_
  obtain ⟨v2, e3, r⟩ := rl.get e1
  rw [e2] at e3; cases e3
  refine Rep.to (w := w.ren (moveT τ1 L)) (w' := (w.ren (moveT τ1 L)).put a u) (Same.refl _) d (put_kept ta' fun s z => ?_) r
  have := congrArg List.length z
  simp at this
/-- behind such a change: slot i has the new tree -/
theorem node_end {σ : Sl} {ρ : En} {i τ τ1 : Nat} {d0 dn d' : D} {v0 : V} {p : List Nat} {a : Addr} {u : HO} {L : Loc} (st : StE K w σ ρ) (hi : ρ[i]? = some (some d0)) (hv : σ[i]? = some (some v0)) (r0 : Rep K w d0 [i + 1] v0)
    (at0 : AtV K w d0 [i + 1] v0 p dn (.ref a)) (hτ : ρ.length < τ) (hτ1 : τ ≤ τ1) (ta : w.G a = some ((i + 1) :: p)) (hm : Mut (some u)) (ho : d'.own = true → dn.own = true)
    (r' : Rep K ((w.ren (moveT τ1 L)).put a u) d' ((i + 1) :: p) (.ref a)) :
    EndE K τ w σ ρ (ρ.set i (some (d0.put p d'))) ((w.ren (moveT τ1 L)).put a u) := by
  have hin := (List.getElem?_eq_some_iff.mp hi).1
  have r1 := node_op r0 at0 (show i + 1 ≠ τ1 by omega) ta ho r'
  have ta' : (w.ren (moveT τ1 L)).G a = some ((i + 1) :: p) := ren_at ta (moveT_ne (by omega))
  have wf : Wf ((w.ren (moveT τ1 L)).put a u) := (st.wf.ren _).put ta' hm
  have other : ∀ (h : Nat) (s : Loc) (b : Addr), w.G b = some (h :: s) → h ≠ i + 1 → h ≠ τ1 → ((w.ren (moveT τ1 L)).put a u).G b = some (h :: s) ∧ ((w.ren (moveT τ1 L)).put a u).H b = w.H b := fun h s b hb h1 h2 =>
    ⟨ren_at hb (moveT_ne h2), upd_ne fun z => by subst z; rw [ta] at hb; injection hb with hb; injection hb with hb _; exact h1 hb.symm⟩
  refine ⟨by rw [List.length_set], ⟨wf, by rw [List.length_set]; exact st.len, fun k d e => ?_⟩, ⟨Same.refl _, fun b ℓ e ⟨h, s, e2, q⟩ => ?_⟩⟩
  · by_cases hk : k = i
    · subst hk
      rw [List.getElem?_set_self hin] at e
      cases e
      exact ⟨v0, hv, r1⟩
    · rw [List.getElem?_set_ne (Ne.symm hk)] at e
      obtain ⟨v, e1, r⟩ := st.rep k d e
      have hkl := (List.getElem?_eq_some_iff.mp e).1
      exact ⟨v, e1, Rep.to (w := w) (w' := (w.ren (moveT τ1 L)).put a u) (Same.refl _) d (fun b s hb => other (k + 1) s b hb (by omega) (by omega)) r⟩
  · subst e2
    exact other h s b e (by omega) (by omega)
/-- an owned list at a path -/
theorem list_at {d0 : D} {h0 : Nat} {v0 u : V} {p : List Nat} {o : Ow} {ds : List D} (ho : o.mine = true) (r0 : Rep K w d0 [h0] v0) (at0 : AtV K w d0 [h0] v0 p (.lst o ds) u) : ∃ a us, u = .ref a ∧ w.G a = some (h0 :: p) ∧ w.H a = some (.lst us) ∧ (ds.length ≤ sizeLine ∧ Lt o ds) ∧ RepL K w ds (h0 :: p) 0 us := by
  have ra := at0.rep r0
  simp only [Rep] at ra
  obtain ⟨a, us, ea, th, hz, hl⟩ := ra
  rw [if_pos ho] at th
  obtain ⟨ta, ha⟩ := th
  exact ⟨a, us, ea, ta, ha, hz, hl⟩
theorem list_end {σ : Sl} {ρ : En} {i τ τ1 : Nat} {d0 : D} {v0 : V} {p : List Nat} {o o' : Ow} {ds ds' : List D} {a : Addr} {vs' : List V} {L : Loc} (ho : o.mine = true) (ho' : o'.mine = true) (st : StE K w σ ρ) (hi : ρ[i]? = some (some d0)) (hv : σ[i]? = some (some v0)) (r0 : Rep K w d0 [i + 1] v0)
    (at0 : AtV K w d0 [i + 1] v0 p (.lst o ds) (.ref a)) (hτ : ρ.length < τ) (hτ1 : τ ≤ τ1) (rl : RepL K (w.ren (moveT τ1 L)) ds' ((i + 1) :: p) 0 vs') (hz : ds'.length ≤ sizeLine) (hL : Lt o' ds') :
    EndE K τ w σ ρ (ρ.set i (some (d0.put p (.lst o' ds')))) ((w.ren (moveT τ1 L)).put a (.lst vs')) := by
  obtain ⟨a', us, ea, ta, ha, _, _⟩ := list_at ho r0 at0
  cases ea
  have hne : i + 1 ≠ τ1 := by have := (List.getElem?_eq_some_iff.mp hi).1; omega
  refine node_end st hi hv r0 at0 hτ hτ1 ta trivial (fun _ => ho) ?_
  simp only [Rep]
  exact ⟨a, vs', rfl, by rw [if_pos ho']; exact ⟨ren_at ta (moveT_ne hne), upd_same⟩, ⟨hz, hL⟩, parts_op hne ta rl⟩
theorem Lt.set {o : Ow} {ds : List D} (h : Lt o ds) {j : Nat} {d : D} : Lt (o.more d.own) (ds.set j d) := by
  cases q : d.own with
  | true => exact fun z => by cases o <;> cases z
  | false =>
      intro z
      have z : o.light = true := by cases o <;> exact z
      have h := h z
      rw [ownL_iff] at h ⊢
      intro e he
      rcases List.mem_or_eq_of_mem_set he with he | rfl
      · exact h e he
      · exact q
theorem Lt.app {o : Ow} {ds : List D} (h : Lt o ds) {d : D} : Lt (o.more d.own) (ds ++ [d]) := by
  cases q : d.own with
  | true => exact fun z => by cases o <;> cases z
  | false =>
      intro z
      have z : o.light = true := by cases o <;> exact z
      rw [ownL_append, h z]
      simp [ownL, q]
theorem more_mine {o : Ow} (h : o.mine = true) (b : Bool) : (o.more b).mine = true := by cases o <;> cases b <;> first | rfl | cases h
end
def onLst (ρ : En) (i : Nat) (k : Ow → List D → Prop) : Prop := match ρ[i]? with
  | some (some (.lst o ds)) => match o with
    | .ice => False
    | .flat => k .flat ds
    | .deep => k .deep ds
  | _ => False
theorem onLst_elim {ρ : En} {i : Nat} {k : Ow → List D → Prop} (h : onLst ρ i k) : ∃ o ds, ρ[i]? = some (some (.lst o ds)) ∧ o.mine = true ∧ k o ds := by
  unfold onLst at h
  split at h
  · rename_i o ds e
    cases o with
    | ice => exact h.elim
    | flat => exact ⟨_, _, e, rfl, h⟩
    | deep => exact ⟨_, _, e, rfl, h⟩
  · exact h.elim
def natAt (o : Option Nat) (Q : Nat → Prop) : Prop := match o with
  | some j => Q j
  | none => False
theorem natAt_of {o : Option Nat} {j : Nat} {Q : Nat → Prop} (h : o = some j) (q : Q j) : natAt o Q := by subst h; exact q
theorem natAt_elim {o : Option Nat} {Q : Nat → Prop} (h : natAt o Q) : ∃ j, o = some j ∧ Q j := by
  unfold natAt at h
  split at h
  · exact ⟨_, rfl, h⟩
  · exact h.elim
/-- x[k] = e -/
def rSetL (i : Nat) (rk : RO) (re : RE) : RS := fun ρ E F => re ρ E fun d ρ1 => oN i ρ1 E fun _ ρ1' => rk ρ1' E fun k ρ2 => on1 ρ2 k fun dk => onLst ρ2 i fun o ds => match dk with
  | .int n => natAt (ixN ds.length n) fun j => nf (ρ2.set i (some (.lst (o.more d.own) (ds.set j d)))) F.nx
  | _ => False
theorem ixN_lt {n : Nat} {k : Int} {j : Nat} (h : ixN n k = some j) : j < n := by
  unfold ixN at h
  split at h
  · split at h
    · cases h; omega
    · cases h
  · split at h
    · cases h; omega
    · cases h
theorem oN_elim {ρ : En} {i : Nat} {E : EE} {Q : AD → En → Prop} (h : oN i ρ E Q) : (∃ d, ρ[i]? = some (some d)) ∧ Q (.brw i) ρ := by
  unfold oN at h
  split at h
  · exact ⟨⟨_, by assumption⟩, h⟩
  · exact h.elim
section
variable {X : Cx} {W : WX} {M : List Nat} {pos pos' p2 apos : Pos}
theorem fs_setL (i : Nat) {x : Str} {k e : Expr} {rk : RO} {re : RE} (he : FE X W e re) (hk : FO X W k rk) (hN : X.N[i]? = some x := by rfl) (hv : Vis X.env.scope x := by first | exact Or.inl rfl | exact Or.inr (Or.inl rfl) | exact Or.inr (Or.inr rfl)) (hd : (x == ("__debug__" : Str)) = false := by decide)
    (hcd : (x == ("__classdict__" : Str)) = false := by decide) (ha : ∀ v, assign (.Subscript (.Name x p2) k pos') X.env v = (do
      let ov ← holding [v] (eval (.Name x p2) X.env)
      let iv ← holding [v, ov] (eval k X.env)
      standAt pos'
      holding [v, ov, iv] (setItem ov iv v)
      release [v, ov, iv] []) := by intro _; rfl) (hs : swapsWithSole [.Subscript (.Name x p2) k pos'] e pos.line X.env = pure false := by rfl) (hw : swappedStores [.Subscript (.Name x p2) k pos'] e X.env = pure none := by rfl)
    (h1 : (assignEach [.Subscript (.Name x p2) k pos'] X.env).map (·.2) = [assign (.Subscript (.Name x p2) k pos') X.env] := by rfl) : FS X W M (.Assign [.Subscript (.Name x p2) k pos'] e pos) (rSetL i rk re) := by
  obtain ⟨t, p, l⟩ := he.ex
  obtain ⟨t', p', l'⟩ := hk.ex
  refine ⟨_, ps_asg p (pg_sub (pe_var hN hv hd hcd) p' set_list ha) hs hw h1, fun w σ ρ E F D st h hf => ?_⟩
  refine l _ w σ ρ E _ _ (Nat.lt_succ_self _) st h (fun d ρ1 w1 v h1 e1 r1 => ?_) hf.sx
  obtain ⟨⟨d0, e0⟩, h1⟩ := oN_elim h1
  obtain ⟨v0, ev, _⟩ := e1.st.rep i d0 e0
  refine ⟨v0, ev, ?_⟩
  refine l' (ρ1.length + 2) w1 σ ρ1 E _ _ (by omega) e1.st h1 (fun ak ρ2 w2 vk h2 e2 r2 => ?_) (hf.sx.then e1 (by rw [e1.len]; omega))
  have e12 := e1.trans e2 (by rw [e1.len]; omega)
  obtain ⟨dk, ek, h2⟩ := on1_elim h2
  obtain ⟨o, ds, ed, ho, h2⟩ := onLst_elim h2
  obtain ⟨ℓ, rk⟩ := ad_get e12.st r2 ek
  obtain ⟨v0', ev', r0⟩ := e12.st.rep i _ ed
  rw [ev] at ev'; cases ev'
  obtain ⟨a, us, rfl, ta, ha, ⟨hz, hL⟩, rl⟩ := list_at ho r0 .here
  cases dk with
  | int n =>
    simp only [Rep] at rk
    subst rk
    obtain ⟨j, ej, h2⟩ := natAt_elim h2
    · have r1' : Rep X.K w2 d [ρ.length + 1] v := e2.ext.rep (r := []) (by rw [e1.len]; omega) r1
      refine ⟨a, us, n, j, rfl, rfl, ha, by rw [rl.length]; exact ej, ?_⟩
      have hj := ixN_lt ej
      have rr : RepL X.K (w2.ren (moveT (ρ.length + 1) ((i + 1) :: [] ++ [j]))) (ds.set j d) ((i + 1) :: []) 0 (us.set j v) := by
        have hin := (List.getElem?_eq_some_iff.mp ed).1
        rw [e12.len] at hin
        refine RepL.set (RepL.of rl.length fun q dq vq e3 e4 => ?_) ?_
        · obtain ⟨v3, e5, r3⟩ := rl.get e3
          rw [e4] at e5; cases e5
          exact r3.mv (by omega)
        · rw [Nat.zero_add]; exact r1'.mvT
      have ee := list_end (i := i) (τ := ρ.length + 1) (p := []) ho (more_mine ho d.own) e12.st ed ev r0 .here (by rw [e12.len]; omega) (Nat.le_refl _) rr (by rw [List.length_set]; exact hz) hL.set
      exact hf.nx _ _ σ (nf_of h2) ((e12.trans ee (Nat.le_refl _)).s (Nat.lt_succ_self _))
  | _ => exact h2.elim
/-- x.append(e) -/
def rApp (i : Nat) (re : RE) : RE := fun ρ E Q => onLst ρ i fun _ _ => re ρ E fun d ρ1 => onLst ρ1 i fun o ds => ds.length < sizeLine ∧ nf (ρ1.set i (some (.lst (o.more d.own) (ds ++ [d])))) (Q .non)
theorem tyL {K : PySem.W.Frag} {w : Wd} (wf : Wf w) {o : Ow} {ds : List D} {ℓ : Loc} {v : V} (h : Rep K w (.lst o ds) ℓ v) : tyV K "list" v w.H := by
  obtain ⟨a, us, rfl, ha, _⟩ := lst_at wf h
  exact .inl ⟨rfl, _, SqL.of ha⟩
theorem fe_app (i : Nat) {x : Str} {e : Expr} {re : RE} (he : FE X W e re) (hN : X.N[i]? = some x := by rfl) (hv : Vis X.env.scope x := by first | exact Or.inl rfl | exact Or.inr (Or.inl rfl) | exact Or.inr (Or.inr rfl)) (hd : (x == ("__debug__" : Str)) = false := by decide)
    (hcd : (x == ("__classdict__" : Str)) = false := by decide) (hbase : attributeBase (.Name x p2) "append" X.env (eval (.Name x p2) X.env) = eval (.Name x p2) X.env := by rfl)
    (hfew : ((backTo pos (starEach [e] X.env)).all (fun x => !x.1) && (backToKw pos (keywordEach [] X.env)).all (fun x => x.1.isSome)
      && decide ([e].length + ([] : List Keyword).length + (if ([] : List Keyword).isEmpty then 0 else 1) < 30)) = true := by rfl)
    (hline : (apos.endLine == pos.line) = true := by rfl) (hs : starEach [e] X.env = (false, eval e X.env) :: starEach [] X.env := by rfl) (hplain : (backTo pos (starEach [] X.env)).any (·.1) = false := by rfl) :
    FE X W (.Call (.Attribute (.Name x p2) "append" apos) [e] [] pos) (rApp i re) := by
  obtain ⟨t, p, l⟩ := he.ex
  refine ⟨_, pe_bm PySem.F.plainAttrs_list PySem.F.slot_list_append PySem.F.type_list_append mt_append (pe_var hN hv hd hcd) (pa_cons p pa_nil hs) hbase hfew hline hs hplain, fun τ w σ ρ E Q Qv hn st h hq hx => ?_⟩
  obtain ⟨o0, ds0, e0, _, h⟩ := onLst_elim h
  obtain ⟨v0, ev, r00⟩ := st.rep i _ e0
  refine ⟨v0, ev, tyL st.wf r00, ?_⟩
  refine l τ w σ ρ E _ _ hn st h (fun d ρ1 w1 v h1 e1 r1 => ?_) hx
  obtain ⟨o, ds, ed, ho, hz, q⟩ := onLst_elim h1
  obtain ⟨v0', ev', r0⟩ := e1.st.rep i _ ed
  rw [ev] at ev'; cases ev'
  obtain ⟨a, us, rfl, ta, ha, ⟨hz0, hL⟩, rl⟩ := list_at ho r0 .here
  refine ⟨a, us, v, rfl, rfl, ha, by rw [rl.length]; exact hz, ?_⟩
  have hin := (List.getElem?_eq_some_iff.mp ed).1
  rw [e1.len] at hin
  have rr : RepL X.K (w1.ren (moveT τ ((i + 1) :: [] ++ [ds.length]))) (ds ++ [d]) ((i + 1) :: []) 0 (us ++ [v]) := by
    refine RepL.app (RepL.of rl.length fun q dq vq e3 e4 => ?_) (RepL.one ?_)
    · obtain ⟨v3, e5, r3⟩ := rl.get e3
      rw [e4] at e5; cases e5
      exact r3.mv (by omega)
    · rw [Nat.zero_add]; exact r1.mvT
  have ee := list_end (i := i) (τ := τ) (p := []) ho (more_mine ho d.own) e1.st ed ev r0 .here (by rw [e1.len]; exact hn) (Nat.le_refl _) rr (by rw [List.length_append]; exact hz) hL.app
  exact hq .non _ _ .non (nf_of q) (e1.trans ee (Nat.le_refl _)) rfl
end
end FL
namespace FL
open PySem PySem.Spec PyProof.Rows L2
/-- target = value, the value frozen -/
def rAsg (rg : RG) (re : RE) : RS := fun ρ E F => re ρ E fun d ρ' => rg d.frz ρ' F.nx
theorem fs_asg {X : Cx} {W : WX} {M : List Nat} {pos : Pos} (A : List Nat) {tg e : Expr} {rg : RG} {re : RE} (he : FE X W e re) (hg : FG X A tg rg) (hA : (M.all fun i => !A.contains i) = true := by rfl)
    (hs : swapsWithSole [tg] e pos.line X.env = pure false := by rfl) (hw : swappedStores [tg] e X.env = pure none := by rfl) (h1 : (assignEach [tg] X.env).map (·.2) = [assign tg X.env] := by rfl) : FS X W M (.Assign [tg] e pos) (rAsg rg re) := by
  obtain ⟨t, p, k⟩ := he.ex
  obtain ⟨g, pg, kg⟩ := hg.ex
  refine ⟨_, ps_asg p pg hs hw h1, fun w σ ρ E F D st h hf => ?_⟩
  refine k _ w σ ρ E _ _ (Nat.lt_succ_self _) st h (fun d ρ1 w1 v h1 e1 r1 => ?_) hf.sx
  obtain ⟨w2, e0, e2, r2⟩ := EndE.iceT (by rw [e1.len]; omega) e1.st r1
  have e12 := (e1.trans e2 (Nat.le_refl _)).s (M := M) (Nat.lt_succ_self _)
  rw [← e0]
  exact kg w2 σ ρ1 d.frz v _ _ (frz_own d) r2 e2.st h1 fun ρ' w' σ' q e => hf.nx ρ' w' σ' q (e12.trans (e.s hA))
/-- a def of the text, callable by its name -/
structure Df (K : PySem.W.Frag) (mg : Str → Option Value) (x : Str) (st : Stmt) (ps : List Str) (f : Addr) (fd : FuncData) : Prop where
  fn : Fun K x x st f fd
  mg : mg x = some (.ref f)
  b : Binds K fd ps []
/-- a law's end: what its def is given -/
theorem law_end {K : PySem.W.Frag} {H : Hp} {a : Addr} {ns : List Int} {r : FSpec} (hl : ns.length ≤ 63) (hs : SqL K H a (ns.map V.int)) (h : r [.ro false (ns.map D.int)] (fun _ _ _ => False) (fun d _ => d = .bl true)) :
    FnD K 1 [] r [V.ref a] H (fun v _ => v = V.bl true) (fun _ _ _ => False) := by
  refine ⟨rfl, ⟨fun _ => none, H, H⟩, [.ro false (ns.map D.int)], _, _, rfl, ⟨Same.refl _, fun _ _ h => nomatch h⟩, rfl, fun j d v e1 e2 => ?_, h, fun d os w' v q _ r => ?_, fun _ _ _ _ _ q _ _ => q⟩
  · cases j with
    | zero =>
      cases e1; cases e2
      simp only [Rep]
      refine ⟨a, _, rfl, hs, ⟨by rw [List.length_map, sizeLine_eq]; omega, ownL_iff.mpr fun d hd => by obtain ⟨n, _, rfl⟩ := List.mem_map.mp hd; rfl⟩, RepL.of (by rw [List.length_map, List.length_map]) fun i d v e1 e2 => ?_⟩
      rw [List.getElem?_map] at e1 e2
      cases q : ns[i]? with
      | none => rw [q] at e1; cases e1
      | some n => rw [q] at e1 e2; cases e1; cases e2; rfl
    | succ j => simp at e1
  · subst q
    exact r
theorem cx_none {P : Program} {w : World} {H : Hp} {s s' : Shared} {e : Value} (h : L2.CX P w [] H s (fun _ _ _ => False) e s') : False := by
  obtain ⟨_, _, _, _, _, _, _, _, _, _, _, _, z⟩ := h
  exact z
end FL
namespace FL
open PySem PySem.Spec PyProof.Rows L2
def tyOf : D → Option String
  | .non => some "NoneType"
  | .bl _ => some "bool"
  | .int _ => some "int"
  | .str _ => some "str"
  | .tup _ _ => some "tuple"
  | .lst _ _ => some "list"
  | .ro true _ => some "tuple"
  | .ro false _ => some "list"
  | .dct _ false _ _ => some "dict"
  | _ => none
def subTy (a b : String) : Bool := a == b || (a == "bool" && b == "int")
def tyKnown : List String := ["int", "bool", "str", "tuple", "list", "dict"]
def isTy (d : D) (n : String) : Option Bool := match tyOf d with
  | some a => if tyKnown.contains n then some (subTy a n) else none
  | none => none
theorem kit_known : ∀ a ∈ ["NoneType", "bool", "int", "str", "tuple", "list", "dict"], ∀ n ∈ tyKnown, kitB a n = some (subTy a n) := by decide +kernel
def dIsi : DC
  | [d, .ty n], Q => match isTy d n with
    | some b => Q (.bl b)
    | none => False
  | _, _ => False
theorem tyOf_rep {K : PySem.W.Frag} {w : Wd} (wf : Wf w) {d : D} {ℓ : Loc} {v : V} {a : String} (h : Rep K w d ℓ v) (e : tyOf d = some a) : TyX K w.H v (.type a) ∧ a ∈ ["NoneType", "bool", "int", "str", "tuple", "list", "dict"] := by
  cases d with
  | non => cases e; simp only [Rep] at h; subst h; exact ⟨.base .non, by decide⟩
  | bl b => cases e; simp only [Rep] at h; subst h; exact ⟨.base (.bl b), by decide⟩
  | int b => cases e; simp only [Rep] at h; subst h; exact ⟨.base (.int b), by decide⟩
  | str b => cases e; simp only [Rep] at h; subst h; exact ⟨.base (.str b), by decide⟩
  | tup o ds => cases e; obtain ⟨b, vs, rfl, h1, _⟩ := tup_at wf h; exact ⟨.base (.tup h1), by decide⟩
  | lst o ds => cases e; obtain ⟨b, vs, rfl, h1, _⟩ := lst_at wf h; exact ⟨.base (.lst h1), by decide⟩
  | ro t ds =>
    simp only [Rep] at h
    obtain ⟨b, vs, rfl, h1, _⟩ := h
    cases t with
    | true =>
      cases e
      refine ⟨?_, by decide⟩
      rcases same_rdT wf.sh h1 with (h1 | ⟨o, h1⟩) | ⟨o, _, _, h1, h2, _⟩
      · exact .base (.tup h1)
      · exact .fTuple h1
      · exact .kTuple h1 h2
    | false =>
      cases e
      refine ⟨?_, by decide⟩
      rcases wf.sh.seq h1 with (h1 | ⟨o, h1⟩) | ⟨o, _, _, h1, h2, _⟩
      · exact .base (.lst h1)
      · exact .base (.frz h1)
      · exact .kList h1 h2
  | dct o t ks ds =>
    cases t <;> cases e
    obtain ⟨b, vs, rfl, h1, _⟩ := dct_at wf h
    rcases h1 with h1 | ⟨o, h1⟩
    · exact ⟨.base (.dK h1), by decide⟩
    · exact ⟨.fDict h1, by decide⟩
  | _ => cases e
section
variable {X : Cx} {W : WX}
theorem fc_isi : FC X (.builtin "isinstance") dIsi := by
  refine ⟨_, call_isi, fun τ w σ ρ vs ds Q Qv hn st rs hd hq => ?_⟩
  unfold dIsi at hd
  split at hd
  · rename_i d n
    obtain ⟨v, u, ℓ, ℓ', rfl, r, r'⟩ := reps2 rs
    simp only [Rep] at r'
    subst r'
    unfold isTy at hd
    cases e : tyOf d with
    | none => simp only [e] at hd
    | some a =>
      simp only [e] at hd
      split at hd
      · rename_i b eb
        split at eb
        · rename_i hk
          cases eb
          obtain ⟨ty, hm⟩ := tyOf_rep st.wf r e
          exact ⟨v, .ty n, .type a, .type n, subTy a n, rfl, .ty n, ty, kit_ty (kit_known a hm n (by simpa using hk)), hq _ w _ hd (.refl st) rfl⟩
        · cases eb
      · exact hd.elim
  · exact hd.elim
theorem fe_ty {x : Str} {n : String} {pos : Pos} (hm : X.mg x = none) (hv : bootBuiltins x = some (.type n)) (hg : Gl X x := by rfl) (hn : x ≠ "__name__" := by decide) (hd : (x == ("__debug__" : Str)) = false := by decide) : FE X W (.Name x pos) (rC (.ty n)) :=
  ⟨_, pe_bltn (v := V.ty n) hg hm hv (show L2.RelV (V.ty n) (Value.type n) from rfl) hn hd, se_C fun _ _ => rfl⟩
end
end FL
namespace FL
open PySem PySem.Spec PyProof.Rows L2
theorem int_rmul_tup1 (a : Int) (t : Tok) (l : Addr) (its : Array Value) (n : Nat) (dd : Option Addr) (sl : Array (Option Value)) : Meets (Builtin.«int.__rmul__» ⟨[.int a t, .ref l], []⟩) (fun _ R s =>
    s.heap.get? l = some { cls := .type "tuple", dict := dd, data := .seq its n, slots := sl } ∧ R (.ok (.ret Value.notImplemented)) s) :=
  .of_wp fun prog w A R s h => by
    obtain ⟨hp, g, d, tk, os⟩ := s
    obtain ⟨hl, h⟩ := h
    wp_walk using wpAny_loadPart' hl
    exact ⟨_, rfl, h⟩
theorem tup_mul_one (l : Addr) (its : Array Value) (n : Nat) (dd : Option Addr) (sl : Array (Option Value)) (u : Tok) : Meets (Builtin.«tuple.__mul__» ⟨[.ref l, .int 1 u], []⟩) (fun _ R s =>
    s.heap.get? l = some { cls := .type "tuple", dict := dd, data := .seq its n, slots := sl } ∧ R (.ok (.ret (Value.ref l))) s) :=
  .of_wp fun prog w A R s h => by
    obtain ⟨hp, g, d, tk, os⟩ := s
    obtain ⟨hl, h⟩ := h
    have f1 := AutoSeq1.idx_int
    have c1 : (its.isEmpty || (1 : Int) == 1) = true := by simp
    wp_walk using wpAny_loadPart' hl
    exact ⟨_, rfl, h⟩
theorem tup_mul_none (l : Addr) (its : Array Value) (n : Nat) (dd : Option Addr) (sl : Array (Option Value)) (x : Int) (u : Tok) (h0 : x ≤ 0) (h1 : -(2 ^ 63) ≤ x) (hi : its.isEmpty = false) : Meets (Builtin.«tuple.__mul__» ⟨[.ref l, .int x u], []⟩) (fun _ R s =>
    s.heap.get? l = some { cls := .type "tuple", dict := dd, data := .seq its n, slots := sl } ∧
      R (.ok (.ret (Value.ref s.heap.objs.size))) { s with heap := s.heap.push { cls := Value.type "tuple", data := Data.seq #[] }, toks := s.toks }) :=
  .of_wp fun prog w A R s h => by
    obtain ⟨hp, g, d, tk, os⟩ := s
    obtain ⟨hl, h⟩ := h
    have f1 := AutoSeq1.idx_int
    have c0 : (decide (x < -(2 ^ 63)) || decide (x ≥ 2 ^ 63)) = false := by rw [decide_eq_false (by omega), decide_eq_false (by omega)]; rfl
    have c1 : (its.isEmpty || x == 1) = false := by rw [hi, Bool.false_or]; exact beq_eq_false_iff_ne.mpr (by omega)
    have c2 : (decide (x ≤ 0) || its.isEmpty) = true := by rw [decide_eq_true h0]; rfl
    wp_walk using wpAny_loadPart' hl
    refine wpAny_ite_false (decide_eq_false (by rw [c0]; exact Bool.false_ne_true)) ?_
    wp_walk using wpAny_loadPart' hl
    refine wpAny_ite_false (decide_eq_false (by rw [c1]; exact Bool.false_ne_true)) ?_
    wp_walk using wpAny_loadPart' hl
    exact ⟨_, rfl, h⟩
def rRep1 (K : PySem.W.Frag) : R2 := fun x y H Q => ∃ l k xs, x = .ref l ∧ y = .int k ∧ SqT K H l xs ∧ xs ≠ [] ∧ -(2 ^ 63) ≤ k ∧ k ≤ 1 ∧ (k = 1 → Q (.ref l) H) ∧ (k ≤ 0 → ∀ p, H p = none → Q (.ref p) (upd H p (.tup [])))
section
variable {X : Cx}
theorem op_rep1 : OpR X (binaryOp .Mult) (rRep1 X.K) := by
  intro pins s σ H x y v u Q I rx ry hyp
  obtain ⟨l, k, xs, rfl, rfl, hT, hne, h1, h2, q1, q0⟩ := hyp
  cases rx
  obtain ⟨t, rfl⟩ := ry
  obtain ⟨its, r, ⟨⟨cls, dd, data, sl⟩, ho, hc, n, hd⟩, hs⟩ := I.tuple hT
  simp only at hc hd
  subst hc hd
  have hi : its.toArray.isEmpty = false := by
    cases its with
    | nil => exact absurd (List.eq_nil_of_length_eq_zero r.length) hne
    | cons a b => rfl
  have road : ∀ {Q' : Value → Shared → Prop}, wpAny (model X.prog X.w) X.A (call (.builtin "tuple.__mul__") [.ref l, .int k t]) Q' X.xe s → wpAny (model X.prog X.w) X.A (binaryOp .Mult (.ref l) (.int k t)) Q' X.xe s := fun g =>
    wpAny_binaryOp_repeat_ref (T := "tuple") (U := "int") (by decide) ⟨_, ho, rfl⟩ (fun s' => typeIs_int s' k t) noFill_tuple_mul F.fills_int_mul F.slot_int_rmul repeat_tuple F.slot_int_index.lookup
      (call_meets F.slot_int_rmul (typeIs_int s k t) F.entry_int_rmul (F.args_int_rmul_2 _ _) (int_rmul_tup1 k t l its.toArray n dd sl) ⟨ho, rfl, ⟨_, ho, rfl⟩, g⟩)
  refine road ?_
  by_cases hk : k = 1
  · subst hk
    exact call_meets F.slot_tuple_mul ⟨_, ho, rfl⟩ F.entry_tuple_mul (F.args_tuple_mul_2 _ _) (tup_mul_one l its.toArray n dd sl t) ⟨ho, ⟨.ref l, H, I, rfl, q1 rfl⟩⟩
  · have hk : k ≤ 0 := by omega
    refine call_meets F.slot_tuple_mul ⟨_, ho, rfl⟩ F.entry_tuple_mul (F.args_tuple_mul_2 _ _) (tup_mul_none l its.toArray n dd sl k t hk h1 hi) ⟨ho, ?_⟩
    exact ⟨.ref s.heap.objs.size, _, I.laid (t' := s.toks) (o := .tup []) (fun b ob e => Heap.get?_push_of_some _ e) (Nat.le_refl _) ⟨Nat.zero_le _, [], .nil, IsTup.new _ _⟩, rfl, q0 hk _ (I.hok.fresh (Nat.le_refl _))⟩
theorem rep_own {xs : List D} (h : ownL xs = false) (n : Nat) : ownL (List.replicate n xs).flatten = false := by
  rw [ownL_iff]
  intro d hd
  obtain ⟨l, hl, hd⟩ := List.mem_flatten.mp hd
  rw [(List.mem_replicate.mp hl).2] at hd
  exact ownL_iff.mp h d hd
theorem rep_reps {K : PySem.W.Frag} {w : Wd} {xs : List D} {vs : List V} {ℓ ℓ' : Loc} {j : Nat} (h : ownL xs = false) (r : RepL K w xs ℓ' j vs) : ∀ n : Nat, RepL K w (List.replicate n xs).flatten ℓ 0 (List.replicate n vs).flatten
  | 0 => by simp [RepL]
  | n + 1 => by
    rw [List.replicate_succ, List.replicate_succ, List.flatten_cons, List.flatten_cons]
    exact (RepL.free (Same.refl _) xs h r).app (RepL.free (Same.refl _) _ (rep_own h n) (rep_reps (ℓ := ℓ) h r n))
theorem fop_repT : FOp X (binaryOp .Mult) (fun a b Q => ∃ xs k, a = .tup false xs ∧ b = .int k ∧ (xs ≠ [] ∧ xs.length ≤ 1000 ∧ -(2 ^ 63) ≤ k ∧ k ≤ 1000) ∧ Q (.tup false (List.replicate k.toNat xs).flatten)) := by
  refine ⟨_, op_repT.or op_rep1, fun τ w σ ρ x y dx dy ℓ ℓ' Q Qv hn st rx ry hq hv => ?_⟩
  obtain ⟨xs, k, rfl, rfl, ⟨hne, hl, h1, h2⟩, q⟩ := hq
  have hx := (tup_sz rx).2 rfl
  have rx0 := rx
  obtain ⟨a, vs, rfl, e1, e2⟩ := tup_at st.wf rx
  simp only [Rep] at ry
  subst ry
  have hv0 : vs ≠ [] := fun z => by subst z; have := e2.length; exact hne (List.eq_nil_of_length_eq_zero this.symm)
  by_cases hk : 2 ≤ k
  · refine .inl ⟨a, k, vs, rfl, rfl, SqT.of e1, hv0, hk, h2, by rw [e2.length]; exact hl, fun p n => ?_⟩
    obtain ⟨e, r⟩ := EndE.tup (τ := τ) false st n (rep_reps (ℓ := [τ]) hx e2 k.toNat) (by rw [PyProof.Rows.lm_len_rep_flat, sizeLine_eq]; have := Nat.mul_le_mul (show k.toNat ≤ 1000 by omega) hl; omega) (fun _ => rep_own hx _)
    exact hv _ _ _ q e r
  · refine .inr ⟨a, k, vs, rfl, rfl, SqT.of e1, hv0, h1, by omega, fun z => ?_, fun z p n => ?_⟩
    · subst z
      refine hv _ w _ q (.refl st) ?_
      have : (List.replicate (Int.toNat 1) xs).flatten = xs := by simp
      rw [this]
      exact rx0.free (Same.refl _) _ rfl
    · have : k.toNat = 0 := by omega
      rw [this] at q
      obtain ⟨e, r⟩ := EndE.tup (τ := τ) (ds := []) (vs := []) (ℓ := [τ]) false st n (by simp [RepL]) (Nat.zero_le _) (fun _ => rfl)
      exact hv _ _ _ q e r
end
/-- .. * .. of all kinds -/
def dMulX : DO
  | .tup false xs, .int k, Q => (xs ≠ [] ∧ xs.length ≤ 1000 ∧ -(2 ^ 63) ≤ k ∧ k ≤ 1000) ∧ Q (.tup false (List.replicate k.toNat xs).flatten)
  | .int a, .int b, Q => MulOk a b ∧ Q (.int (a * b))
  | .lst o a, .int k, Q => dMul (.lst o a) (.int k) Q
  | _, _, _ => False
theorem fop_mulX {X : Cx} : FOp X (binaryOp .Mult) dMulX := (fop_mul.or fop_repT).imp fun a b Q h => by
  unfold dMulX at h
  split at h
  · exact .inr ⟨_, _, rfl, rfl, h⟩
  · exact .inl h
  · exact .inl h
  · exact h.elim
end FL
namespace FL
open PySem PySem.Spec PyProof.Rows L2
/-- a list of frozen parts -/
def lstOf : D → Option (List D)
  | .lst o ds => match o with
    | .deep => none
    | _ => some ds
  | .ro t ds => match t with
    | false => some ds
    | true => none
  | _ => none
/-- a tuple of frozen parts -/
def tupOf : D → Option (List D)
  | .tup o ds => match o with
    | false => some ds
    | true => none
  | .ro t ds => match t with
    | true => some ds
    | false => none
  | _ => none
section
variable {K : PySem.W.Frag} {w : Wd}
theorem lst_seq (wf : Wf w) {d : D} {ds : List D} {ℓ : Loc} {v : V} (e : lstOf d = some ds) (r : Rep K w d ℓ v) : ∃ a vs, v = .ref a ∧ SqL K w.H a vs ∧ ds.length ≤ sizeLine ∧ ownL ds = false ∧ ∀ ℓ j, RepL K w ds ℓ j vs := by
  cases d with
  | lst o xs =>
    have hz := lst_sz r
    obtain ⟨a, vs, rfl, h1, h2⟩ := lst_at wf r
    have key : o.light = true → xs = ds → ∃ a' vs, V.ref a = .ref a' ∧ SqL K w.H a' vs ∧ ds.length ≤ sizeLine ∧ ownL ds = false ∧ ∀ ℓ j, RepL K w ds ℓ j vs := fun ho z => by
      subst z
      exact ⟨a, vs, rfl, SqL.of h1, hz.1, hz.2 ho, fun ℓ j => h2.free (Same.refl _) _ (hz.2 ho)⟩
    cases o with
    | deep => cases e
    | flat => exact key rfl (Option.some.inj e)
    | ice => exact key rfl (Option.some.inj e)
  | ro t xs =>
    cases t with
    | true => cases e
    | false =>
      cases e
      simp only [Rep] at r
      obtain ⟨a, vs, rfl, h1, hz, h2⟩ := r
      exact ⟨a, vs, rfl, wf.sh.seq h1, hz.1, hz.2, fun ℓ j => h2.free (Same.refl _) _ hz.2⟩
  | _ => cases e
theorem tup_seq (wf : Wf w) {d : D} {ds : List D} {ℓ : Loc} {v : V} (e : tupOf d = some ds) (r : Rep K w d ℓ v) : ∃ a vs, v = .ref a ∧ SqT K w.H a vs ∧ ds.length ≤ sizeLine ∧ ownL ds = false ∧ ∀ ℓ j, RepL K w ds ℓ j vs := by
  cases d with
  | tup o xs =>
    cases o with
    | true => cases e
    | false =>
      cases e
      have hz := tup_sz r
      obtain ⟨a, vs, rfl, h1, h2⟩ := tup_at wf r
      exact ⟨a, vs, rfl, SqT.of h1, hz.1, hz.2 rfl, fun ℓ j => h2.free (Same.refl _) _ (hz.2 rfl)⟩
  | ro t xs =>
    cases t with
    | false => cases e
    | true =>
      cases e
      simp only [Rep] at r
      obtain ⟨a, vs, rfl, h1, hz, h2⟩ := r
      exact ⟨a, vs, rfl, same_rdT wf.sh h1, hz.1, hz.2, fun ℓ j => h2.free (Same.refl _) _ hz.2⟩
  | _ => cases e
theorem repl_bls : ∀ {ns : List Bool} {ℓ : Loc} {j : Nat} {vs : List V}, RepL K w (ns.map D.bl) ℓ j vs → vs = ns.map V.bl
  | [], _, _, _, h => by simpa [RepL] using h
  | n :: ns, _, _, _, h => by
    simp only [List.map_cons, RepL, Rep] at h
    obtain ⟨v, r, rfl, rfl, h2⟩ := h
    rw [repl_bls h2]; rfl
end
def dL1 (p : List D → (D → Prop) → Prop) : DC
  | [d], Q => match lstOf d with
    | some ds => p ds Q
    | none => False
  | _, _ => False
def dAny : DC := dL1 fun ds Q => ∃ bs : List Bool, ds = bs.map D.bl ∧ Q (.bl (bs.any id))
def dAll : DC := dL1 fun ds Q => ∃ bs : List Bool, ds = bs.map D.bl ∧ Q (.bl (bs.all id))
section
variable {X : Cx}
theorem fc_L1 {f : Value} {r : List V → Hp → VK → Prop} {p : List D → (D → Prop) → Prop} (hc : CallR X f r)
    (h : ∀ (τ : Nat) (w : Wd) (σ : Sl) (ρ : En) (a : Addr) (vs : List V) (ds : List D) (Q : D → Prop) (Qv : VK), ρ.length < τ → StE X.K w σ ρ → SqL X.K w.H a vs → ownL ds = false → ds.length ≤ sizeLine → (∀ ℓ j, RepL X.K w ds ℓ j vs) → p ds Q →
      (∀ d w' v, Q d → EndE X.K τ w σ ρ ρ w' → Rep X.K w' d [τ] v → Qv v w'.H) → r [.ref a] w.H Qv) : FC X f (dL1 p) := by
  refine ⟨r, hc, fun τ w σ ρ vs ds Q Qv hn st rs hd hq => ?_⟩
  unfold dL1 at hd
  split at hd
  · rename_i d
    obtain ⟨v, ℓ, rfl, rr⟩ := reps1 rs
    cases e : lstOf d with
    | none => simp only [e] at hd
    | some ds =>
      simp only [e] at hd
      obtain ⟨a, vs, rfl, h1, hz, ho, h2⟩ := lst_seq st.wf e rr
      exact h τ w σ ρ a vs ds Q Qv hn st h1 ho hz h2 hd hq
  · exact hd.elim
theorem fc_any (hc : X.calm = true := by rfl) : FC X (.builtin "any") dAny := fc_L1 (cr_any hc) fun τ w σ ρ a vs ds Q Qv hn st h1 ho hz h2 ⟨bs, e, q⟩ hq => by
  subst e
  obtain rfl := repl_bls (h2 [] 0)
  exact ⟨a, bs, rfl, h1, hq _ w _ q (.refl st) rfl⟩
theorem fc_all (hc : X.calm = true := by rfl) : FC X (.builtin "all") dAll := fc_L1 (cr_all hc) fun τ w σ ρ a vs ds Q Qv hn st h1 ho hz h2 ⟨bs, e, q⟩ hq => by
  subst e
  obtain rfl := repl_bls (h2 [] 0)
  exact ⟨a, bs, rfl, h1, hq _ w _ q (.refl st) rfl⟩
end
def rIce (i : Nat) : RE := fun ρ _ Q => match ρ[i]? with
  | some (some d) => nf (ρ.set i (some d.frz)) (Q d.frz)
  | _ => False
theorem ice_slot {K : PySem.W.Frag} {w : Wd} {σ : Sl} {ρ : En} {d : D} {v : V} {τ i : Nat} (hn : ρ.length < τ) (st : StE K w σ ρ) (e : ρ[i]? = some (some d)) (hv : σ[i]? = some (some v)) :
    ∃ w', w'.H = w.H ∧ EndE K τ w σ ρ (ρ.set i (some d.frz)) w' ∧ ∀ ℓ, Rep K w' d.frz ℓ v := by
  have hi := (List.getElem?_eq_some_iff.mp e).1
  obtain ⟨v', e1, r⟩ := st.rep i d e
  rw [hv] at e1; cases e1
  have rf : ∀ ℓ, Rep K (w.ice fun ℓ => match ℓ with | h :: _ => h == i + 1 | [] => false) d.frz ℓ v := fun ℓ => Rep.frz (w := w) (ice_same st.wf) d (ice_frz fun s => by show (i + 1 == i + 1) = true; simp) r
  refine ⟨w.ice fun ℓ => match ℓ with | h :: _ => h == i + 1 | [] => false, rfl, ⟨by rw [List.length_set], ⟨st.wf.ice, by rw [List.length_set]; exact st.len, fun j d' e' => ?_⟩, ⟨ice_same st.wf, fun a ℓ e3 ⟨h, s, e2, k⟩ => ?_⟩⟩, rf⟩
  · by_cases hj : j = i
    · subst hj
      rw [List.getElem?_set_self hi] at e'
      cases e'
      exact ⟨v, hv, rf _⟩
    · rw [List.getElem?_set_ne (Ne.symm hj)] at e'
      obtain ⟨u, e4, r2⟩ := st.rep j d' e'
      exact ⟨u, e4, Rep.to (w := w) (ice_same st.wf) d' (ice_kept fun s => by show (j + 1 == i + 1) = false; simp; omega) r2⟩
  · subst e2
    have := ice_kept (w := w) (ℓ := h :: s) (P := fun ℓ => match ℓ with | h :: _ => h == i + 1 | [] => false) (fun t => by
      show (h == i + 1) = false
      simp; omega) a [] (by simpa using e3)
    simpa using this
theorem fe_ice {X : Cx} {W : WX} {i : Nat} {x : Str} {pos : Pos} (hN : X.N[i]? = some x := by rfl) (hv : Vis X.env.scope x := by first | exact Or.inl rfl | exact Or.inr (Or.inl rfl) | exact Or.inr (Or.inr rfl)) (hd : (x == ("__debug__" : Str)) = false := by decide)
    (hcd : (x == ("__classdict__" : Str)) = false := by decide) : FE X W (.Name x pos) (rIce i) := by
  refine ⟨_, pe_var hN hv hd hcd, fun τ w σ ρ E Q Qv hn st hr hq hx => ?_⟩
  unfold rIce at hr
  split at hr
  · rename_i d e
    obtain ⟨v, e1, r1⟩ := st.rep i d e
    obtain ⟨w', e0, e2, r2⟩ := ice_slot hn st e e1
    refine ⟨v, e1, ?_⟩
    rw [← e0]
    exact hq _ _ w' v (nf_of hr) e2 (r2 _)
  · exact hr.elim
def cutL {α : Type} (xs : List α) (lo hi : Option Int) : List α := (xs.drop (HT.sIx xs.length 0 lo)).take (HT.sIx xs.length xs.length hi - HT.sIx xs.length 0 lo)
abbrev RP := En → EE → (Option Int → En → Prop) → Prop
def rP0 : RP := fun ρ _ Q => Q none ρ
def rP1 (re : RE) : RP := fun ρ E Q => re ρ E fun d ρ' => match d with
  | .int i => Q (some i) ρ'
  | _ => False
def SP (K : PySem.W.Frag) (W : WX) (t : TO) (r : RP) : Prop :=
  ∀ (τ : Nat) (w : Wd) (σ : Sl) (ρ : En) (E : EE) (Q : Option Int → En → Prop) (Qv : Option Int → Hp → Prop), ρ.length < τ → StE K w σ ρ → r ρ E Q →
    (∀ o ρ' w', Q o ρ' → EndE K τ w σ ρ ρ' w' → Qv o w'.H) → SX K W τ w σ ρ E → t σ w.H Qv
structure FP (X : Cx) (W : WX) (e : Option Expr) (r : RP) : Prop where
  ex : ∃ t, PO X e t ∧ SP X.K W t r
/-- a tuple of d's kind -/
def reT : D → List D → D
  | .ro _ _, es => .ro true es
  | _, es => .tup false es
def dSl (d : D) (lo hi : Option Int) (Q : D → Prop) : Prop := match lstOf d with
  | some ds => Q (.lst .flat (cutL ds lo hi))
  | none => match tupOf d with
    | some ds => Q (reT d (cutL ds lo hi))
    | none => match d with
      | .str z => z.length ≤ sizeLine ∧ Q (.str (cutS z lo hi))
      | _ => False
def rSl (ra : RO) (rl rh : RP) : RE := fun ρ E Q => ra ρ E fun x ρ1 => rl ρ1 E fun lo ρ2 => rh ρ2 E fun hi ρ3 => on1 ρ3 x fun dx => dSl dx lo hi fun d => Q d ρ3
section
variable {K : PySem.W.Frag} {w : Wd}
theorem RepL.drop {ds : List D} {ℓ : Loc} {j : Nat} {vs : List V} (h : RepL K w ds ℓ j vs) (ho : ownL ds = false) (n : Nat) {ℓ' : Loc} {j' : Nat} : RepL K w (ds.drop n) ℓ' j' (vs.drop n) := by
  refine RepL.of (by rw [List.length_drop, List.length_drop, h.length]) fun i d v e1 e2 => ?_
  rw [List.getElem?_drop] at e1 e2
  obtain ⟨v', e3, r⟩ := h.get e1
  rw [e2] at e3; cases e3
  exact r.free (Same.refl _) d (ownL_iff.mp ho d (List.mem_of_getElem? e1))
theorem RepL.take {ds : List D} {ℓ : Loc} {j : Nat} {vs : List V} (h : RepL K w ds ℓ j vs) (n : Nat) : RepL K w (ds.take n) ℓ j (vs.take n) := by
  refine RepL.of (by rw [List.length_take, List.length_take, h.length]) fun i d v e1 e2 => ?_
  rw [List.getElem?_take] at e1 e2
  split at e1
  · obtain ⟨v', e3, r⟩ := h.get e1
    rw [if_pos (by assumption), e3] at e2; cases e2
    exact r
  · cases e1
theorem cutL_mem {ds : List D} {lo hi : Option Int} {d : D} (h : d ∈ cutL ds lo hi) : d ∈ ds := List.mem_of_mem_drop (List.mem_of_mem_take h)
theorem cutL_own {ds : List D} {lo hi : Option Int} (h : ownL ds = false) : ownL (cutL ds lo hi) = false := ownL_iff.mpr fun d hd => ownL_iff.mp h d (cutL_mem hd)
theorem cutL_len {α : Type} (ds : List α) (lo hi : Option Int) : (cutL ds lo hi).length ≤ ds.length := by unfold cutL; rw [List.length_take, List.length_drop]; omega
theorem RepL.cut {ds : List D} {ℓ : Loc} {j : Nat} {vs : List V} (h : RepL K w ds ℓ j vs) (ho : ownL ds = false) {lo hi : Option Int} {ℓ' : Loc} {j' : Nat} : RepL K w (cutL ds lo hi) ℓ' j' (cutV vs lo hi) := by
  unfold cutL cutV
  rw [h.length]
  exact (h.drop ho _).take _
end
section
variable {X : Cx} {W : WX} {e : Expr}
theorem fp_none : FP X W none rP0 := ⟨_, po_none, fun τ w σ ρ E Q Qv hn st h hq hx => hq none ρ w h (.refl st)⟩
theorem fp_some {re : RE} (h : FE X W e re) : FP X W (some e) (rP1 re) := by
  obtain ⟨t, p, k⟩ := h.ex
  refine ⟨_, po_some p, fun τ w σ ρ E Q Qv hn st h hq hx => k τ w σ ρ E _ _ hn st h (fun d ρ1 w1 v h1 e1 r1 => ?_) hx⟩
  split at h1
  · rename_i i
    simp only [Rep] at r1
    exact ⟨i, r1, hq _ ρ1 w1 h1 e1⟩
  · exact h1.elim
theorem cutL_all {α : Type} (xs : List α) {lo hi : Option Int} (h : HT.sIx xs.length 0 lo = 0 ∧ HT.sIx xs.length xs.length hi = xs.length) : cutL xs lo hi = xs := by
  unfold cutL
  rw [h.1, h.2, List.drop_zero, Nat.sub_zero, List.take_length]
theorem fe_sl {a : Expr} {lo hi : Option Expr} {ra : RO} {rl rh : RP} {p2 pos : Pos} (ha : FO X W a ra) (hl : FP X W lo rl) (hh : FP X W hi rh) : FE X W (.Subscript a (.Slice lo hi none p2) pos) (rSl ra rl rh) := by
  obtain ⟨ta, pa, ka⟩ := ha.ex
  obtain ⟨tl, pl, kl⟩ := hl.ex
  obtain ⟨th, ph, kh⟩ := hh.ex
  refine ⟨_, pe_slice ((sl_list.or sl_tupA).or sl_str) pa pl ph, fun τ w σ ρ E Q Qv hn st h hq hx => ?_⟩
  refine ka τ w σ ρ E _ _ hn st h (fun x ρ1 w1 v h1 e1 r1 => ?_) hx
  refine kl (τ + 1) w1 σ ρ1 E _ _ (by rw [e1.len]; omega) e1.st h1 (fun o ρ2 w2 h2 e2 => ?_) (hx.then e1 (Nat.le_succ _))
  have e12 := e1.trans e2 (Nat.le_succ _)
  refine kh (τ + 1) w2 σ ρ2 E _ _ (by rw [e12.len]; omega) e2.st h2 (fun o' ρ3 w3 h3 e3 => ?_) (hx.then e12 (Nat.le_succ _))
  have e13 := e12.trans e3 (Nat.le_succ _)
  have r3 : AdAt X.K w3 σ x τ v := (r1.later (by rw [e1.len]; exact hn) e2).later (by rw [e12.len]; exact hn) e3
  obtain ⟨dx, ex, q⟩ := on1_elim h3
  obtain ⟨ℓ, r⟩ := ad_get e3.st r3 ex
  have hn3 : ρ3.length < τ := by rw [e13.len]; exact hn
  unfold dSl at q
  cases el : lstOf dx with
  | some ds =>
    simp only [el] at q
    obtain ⟨b, vs, rfl, h4, hz, ho, h5⟩ := lst_seq e3.st.wf el r
    refine .inl (.inl ⟨b, vs, rfl, h4, fun p n => ?_⟩)
    obtain ⟨e4, r4⟩ := EndE.own (τ := τ) .flat e3.st n ((h5 [] 0).cut ho (ℓ' := [τ]) (j' := 0)) (Nat.le_trans (cutL_len _ _ _) hz) (fun _ => cutL_own ho) rfl
    exact hq _ ρ3 _ _ q (e13.trans e4 (Nat.le_refl _)) r4
  | none =>
    simp only [el] at q
    cases et : tupOf dx with
    | some ds =>
      simp only [et] at q
      have hf : dx.own = false := by
        cases dx with
        | tup o xs => cases o <;> first | rfl | cases et
        | _ => first | rfl | cases et
      obtain ⟨b, vs, rfl, h4, hz, ho, h5⟩ := tup_seq e3.st.wf et r
      refine .inl (.inr ⟨b, vs, rfl, h4, fun hw => ?_, fun _ p n => ?_⟩)
      · have hlen := (h5 [] 0).length
        rw [hlen] at hw
        rw [cutL_all ds hw] at q
        refine hq _ ρ3 w3 _ q e13 ?_
        cases dx with
        | tup o xs => cases o with
          | false => cases et; exact r.free (Same.refl _) _ rfl
          | true => cases et
        | ro t xs => cases t with
          | true => cases et; exact r.free (Same.refl _) _ rfl
          | false => cases et
        | _ => cases et
      · obtain ⟨e4, r4⟩ := EndE.tup (τ := τ) (ℓ := [τ]) false e3.st n ((h5 [] 0).cut ho (j' := 0)) (Nat.le_trans (cutL_len _ _ _) hz) (fun _ => cutL_own ho)
        refine hq _ ρ3 _ _ q (e13.trans e4 (Nat.le_refl _)) ?_
        cases dx with
        | ro t xs =>
          simp only [Rep] at r4
          obtain ⟨a', us, ea, h6, h7, h8⟩ := r4
          simp only [reT, Rep]
          exact ⟨a', us, ea, SqT.of h6, ⟨h7.1, cutL_own ho⟩, h8⟩
        | _ => exact r4
    | none =>
      simp only [et] at q
      split at q
      · simp only [Rep] at r
        subst r
        exact .inr ⟨_, rfl, q.1, hq _ ρ3 w3 _ q.2 e13 rfl⟩
      · exact q.elim
end
section
variable {X : Cx} {W : WX} {M : List Nat}
theorem fs_setLc (i : Nat) (vs : List Nat) {y : Str} {elt tg iter : Expr} {ifs : List Expr} {scope : Scope} {own : List (Str × Nat)} {py pos spos : Pos} {ri : RI} {rg : RG} {rt : RT} {re : RE} (hN : X.N.Nodup) (hi : FI X W tg iter ri) (ok : BlkOk X.N X.env.scope scope own)
    (hg : ∀ c : BlkC, FG (Cx.blkC X scope c) vs tg rg) (ht : ∀ c : BlkC, FTs (Cx.blkC X scope c) W0 ifs rt) (he : ∀ c : BlkC, FE (Cx.blkC X scope c) W0 elt re) (hy : X.N[i]? = some y := by rfl) (hyl : X.env.scope.names.lookup y = some .local := by rfl) (hM : M.contains i = false := by rfl)
    (hsw : swapsWith (.ListComp elt [⟨tg, iter, ifs, 0⟩] scope pos) (some (.Name y py)) spos.line X.env = pure true := by rfl) (hv : own.map (·.2) = vs := by rfl) (hc : X.calm = true := by rfl) (hs : ∀ x, foldedSetIterable iter X.env x = pure x := by intro _; rfl) :
    FS X W M (.Assign [.Name y py] (.ListComp elt [⟨tg, iter, ifs, 0⟩] scope pos) spos) (rSet i (rComp ri rg rt re vs)) := by
  obtain ⟨wi, g, tt, te, p, pg, pt, pe, k⟩ := lc_ex vs hi hg ht he
  exact ⟨_, by have := ps_setLc (i := i) hc hN hy hyl hsw p ok (fun s H C cl fp => pg (s, H, C, cl, fp)) (fun s H C cl fp => pt (s, H, C, cl, fp)) (fun s H C cl fp => pe (s, H, C, cl, fp)) hs; rw [hv] at this; exact this, se_set k hM⟩
theorem fs_setLcF (i : Nat) (vs : List Nat) {y : Str} {elt tg iter : Expr} {ifs : List Expr} {scope : Scope} {own : List (Str × Nat)} {py pos spos : Pos} {ri : RI} {rg : RG} {rt : RT} {re : RE} (hN : X.N.Nodup) (hi : FI X W tg iter ri) (ok : BlkOk X.N X.env.scope scope own)
    (hg : ∀ c : BlkC, FG (Cx.blkC X scope c) vs tg rg) (ht : ∀ c : BlkC, FTs (Cx.blkC X scope c) W0 ifs rt) (he : ∀ c : BlkC, FE (Cx.blkC X scope c) W0 elt re) (hy : X.N[i]? = some y := by rfl) (hyl : X.env.scope.names.lookup y = some .local := by rfl) (hM : M.contains i = false := by rfl)
    (hsw : swapsWith (.ListComp elt [⟨tg, iter, ifs, 0⟩] scope pos) (some (.Name y py)) spos.line X.env = pure true := by rfl) (hv : own.map (·.2) = vs := by rfl) (hc : X.calm = true := by rfl) (hs : ∀ x, foldedSetIterable iter X.env x = pure x := by intro _; rfl) :
    FS X W M (.Assign [.Name y py] (.ListComp elt [⟨tg, iter, ifs, 0⟩] scope pos) spos) (rSetF i (rComp ri rg rt re vs)) := by
  obtain ⟨wi, g, tt, te, p, pg, pt, pe, k⟩ := lc_ex vs hi hg ht he
  exact ⟨_, by have := ps_setLc (i := i) hc hN hy hyl hsw p ok (fun s H C cl fp => pg (s, H, C, cl, fp)) (fun s H C cl fp => pt (s, H, C, cl, fp)) (fun s H C cl fp => pe (s, H, C, cl, fp)) hs; rw [hv] at this; exact this, se_setF k hM⟩
end
end FL
namespace FL
open PySem PySem.Spec PyProof.Rows L2
def SqB (K : PySem.W.Frag) (b : Bool) (H : Hp) (a : Addr) (xs : List V) : Prop := if b then SqT K H a xs else SqL K H a xs
def itB (b : Bool) (h : Heap) (it a : Addr) (i : Nat) : Prop := if b then h.IsTupleIter it a i else h.IsListIter it a i
def isB (b : Bool) (h : Heap) (a : Addr) (its : Array Value) : Prop := if b then h.IsTuple a its else h.IsList a its
def obB (b : Bool) (a : Addr) : Obj := if b then { cls := .type "tuple_iterator", data := .fields #[.ref a, .int 0 0] } else { cls := .type "list_iterator", data := .fields #[.ref a, .int 0 0] }
theorem itB_obj {b : Bool} {h : Heap} {it a : Addr} {i : Nat} (q : itB b h it a i) : ∃ o, h.get? it = some o ∧ (o.cls = .type "tuple_iterator" ∨ o.cls = .type "list_iterator") ∧ ∀ v, o.data ≠ .cell v := by
  cases b with
  | true => obtain ⟨o, h1, h2, h3⟩ := (show h.IsTupleIter it a i from q); exact ⟨o, h1, .inl h2, fun v z => by rw [h3] at z; cases z⟩
  | false => obtain ⟨o, h1, h2, h3⟩ := (show h.IsListIter it a i from q); exact ⟨o, h1, .inr h2, fun v z => by rw [h3] at z; cases z⟩
theorem isB_obj {b : Bool} {h : Heap} {a : Addr} {its : Array Value} (q : isB b h a its) : ∃ o, h.get? a = some o ∧ (o.cls = .type "tuple" ∨ o.cls = .type "list") := by
  cases b with
  | true => obtain ⟨o, h1, h2, _⟩ := (show h.IsTuple a its from q); exact ⟨o, h1, .inl h2⟩
  | false => obtain ⟨o, h1, h2, _⟩ := (show h.IsList a its from q); exact ⟨o, h1, .inr h2⟩
theorem itB_at {b : Bool} {h h' : Heap} {it a : Addr} {i : Nat} (q : itB b h it a i) (k : ∀ o, h.get? it = some o → h'.get? it = some o) : itB b h' it a i := by
  cases b with
  | true => exact Heap.IsTupleIter.at (show h.IsTupleIter it a i from q) k
  | false => exact Heap.IsListIter.at (show h.IsListIter it a i from q) k
theorem row_apart {b : Bool} {h : Heap} {a e : Addr} {its : Array Value} {o : Obj} (q : isB b h a its) (he : h.get? e = some o) (hc : o.cls ≠ .type "tuple" ∧ o.cls ≠ .type "list") : a ≠ e := fun z => by
  obtain ⟨o', h1, h2⟩ := isB_obj q
  rw [z, he] at h1
  cases h1
  rcases h2 with h2 | h2
  · exact hc.1 h2
  · exact hc.2 h2
section
variable {X : Cx} {pins : List (Addr × Obj)} {σ : L2.St} {H : Hp} {s : Shared} {b : Bool} {a : Addr} {xs : List V}
theorem row_of (I : Inv X pins σ H s) (h : SqB X.K b H a xs) : ∃ its : List Value, Vals xs its ∧ isB b s.heap a its.toArray ∧ xs.length ≤ sizeLine := by
  cases b with
  | true => obtain ⟨its, r, p, z⟩ := I.tuple (show SqT X.K H a xs from h); exact ⟨its, r, p, z⟩
  | false => obtain ⟨its, r, p, z⟩ := I.list (show SqL X.K H a xs from h); exact ⟨its, r, p.isList, z⟩
theorem row_inj (I : Inv X pins σ H s) {ys : List V} (h : SqB X.K b H a xs) (g : SqB X.K b H a ys) : ys = xs := by
  cases b with
  | true => exact I.tuple_inj g h
  | false => exact I.list_inj g h
end
theorem draws_row {prog : Program} {w : World} {A : Around} (hh : A.handled = none) (b : Bool) (it a : Addr) (hne : a ≠ it) (its : Array Value) :
    Draws prog w A it [it, a] its.size (fun i v => its[i]? = some v) (fun i h => itB b h it a i ∧ isB b h a its) := by
  cases b with
  | true => exact Draws.tuple hh it a hne its
  | false => exact Draws.list hh it a hne its
theorem begins_row (b : Bool) (a : Addr) (its : Array Value) : Begins (.ref a) (obB b a) fun h => isB b h a its := by
  cases b with
  | true => exact begins_tuple a its
  | false => exact begins_list a its
theorem row_start {b : Bool} {h : Heap} {it a : Addr} (q : h.get? it = some (obB b a)) : itB b h it a 0 := by
  cases b with
  | true => exact ⟨_, q, rfl, rfl⟩
  | false => exact ⟨_, q, rfl, rfl⟩
set_option maxHeartbeats 1000000 in
theorem meets_enum_row {v : Value} {o : Obj} {Hs : Heap → Prop} (B : Begins v o Hs) : Meets (Builtin.«enumerate.__new__» ⟨[.type "enumerate", v], []⟩) (fun _ R s => Hs s.heap ∧
    R (.ok (.ret (.ref (s.heap.push o).objs.size))) { s with heap := (s.heap.push o).push { cls := .type "enumerate", data := .fields #[.none, .bool false, .ref s.heap.objs.size, rawInt 0, .none, .none] } }) :=
  .of_wp fun prog w A R s hyp => by
    obtain ⟨hp, g, d, tk, os⟩ := s
    obtain ⟨h1, h⟩ := hyp
    have hsub := sub_enumerate
    have road : ∀ {A' : Around} {E Q : Value → Shared → Prop}, Q (.ref hp.objs.size) ⟨hp.push o, g, d, tk, os⟩ → wpAny (model prog w) A' (pyIter v) Q E ⟨hp, g, d, tk, os⟩ :=
      fun q => B.iter prog w _ _ _ _ h1 q
    wp_walk using road
    refine wpAny_stack_any fun st => wpAny_pure ?_
    split
    · rename_i c _ _ _ _ _
      cases (c == Value.type "enumerate") <;> (wp_walk using road; exact ⟨_, rfl, h⟩)
    · wp_walk using road
      exact ⟨_, rfl, h⟩
theorem call_enum_row {prog : Program} {w : World} {A : Around} {E : Value → Shared → Prop} {s : Shared} {v : Value} {o : Obj} {Hs : Heap → Prop} {Q : Value → Shared → Prop} (B : Begins v o Hs) (h1 : Hs s.heap)
    (h : ∀ h', IsEnum h' (s.heap.objs.size + 1) s.heap.objs.size 0 .none → h'.get? s.heap.objs.size = some o → (∀ c u, s.heap.get? c = some u → h'.get? c = some u) → Q (.ref (s.heap.objs.size + 1)) { s with heap := h' }) :
    wpAny (model prog w) A (call (.type "enumerate") [v]) Q E s := by
  refine callType_new F.called_enumerate (by decide) (F.typeCall_enumerate_1 _) (F.newCall_enumerate_1 _) (fun obj => F.args_object_init_2 obj _) F.entry_enumerate_new (meets_enum_row B) ⟨h1, ?_⟩
  have z : (s.heap.push o).objs.size = s.heap.objs.size + 1 := Heap.size_push ..
  have he := Heap.get?_push_size (s.heap.push o) (o := { cls := .type "enumerate", data := .fields #[.none, .bool false, .ref s.heap.objs.size, rawInt 0, .none, .none] }) rfl
  rw [z] at he
  show _ ∧ _
  rw [z]
  exact ⟨⟨_, he, rfl⟩, h _ he (Heap.get?_push_of_some _ (Heap.get?_push_size _ B.free)) fun c u x => Heap.get?_push_of_some _ (Heap.get?_push_of_some _ x)⟩
def ItE (K : PySem.W.Frag) (b : Bool) (a : Addr) : It where
  go i H := ∃ (xs : List V) (x : V), SqB K b H a xs ∧ xs[i]? = some x
  yld i H v H' := ∃ T x, v = .ref T ∧ H T = none ∧ H' = upd H T (.tup [.int (i : Nat), x]) ∧ ∀ xs, SqB K b H a xs → xs[i]? = some x
  stop i H := ∃ xs : List V, SqB K b H a xs ∧ i = xs.length
def tnE (b : Bool) (a e it : Addr) (i : Nat) (h : Heap) : Prop := (∃ old, IsEnum h e it ((i : Nat) : Int) old) ∧ itB b h it a i ∧ e ≠ it
theorem turn_E {P : Program} {w : World} {K : PySem.W.Frag} {elts : List Expr} {kk : Nat} {tpos : Pos} (b : Bool) (a e it : Addr) : Turn P w K (.Tuple elts kk tpos) (ItE K b a) [e, it] e (tnE b a e it) where
  mem := List.mem_cons_self
  obj := fun i h ⟨⟨old, he⟩, hi, _⟩ c hc => by
    rcases List.mem_cons.mp hc with rfl | hc
    · exact ⟨_, he, fun v z => nomatch z⟩
    · rcases List.mem_cons.mp hc with rfl | hc
      · obtain ⟨o, h1, _, h3⟩ := itB_obj hi
        exact ⟨o, h1, h3⟩
      · cases hc
  keep := fun i h h' ⟨⟨old, he⟩, hi, hne⟩ k => ⟨⟨old, k e List.mem_cons_self _ he⟩, itB_at hi fun o q => k it (List.mem_cons_of_mem _ List.mem_cons_self) o q, hne⟩
  item := by
    intro X hP hw hK hc i pins s σ H E I hf ⟨⟨old, he⟩, hit, hne⟩ ⟨xs, x, hq, hx⟩
    subst hP hw hK
    obtain ⟨its, rv, p, hz⟩ := row_of I hq
    obtain ⟨u, hu, ru⟩ := rv.get hx
    obtain ⟨oi, hoi, hci, _⟩ := itB_obj hit
    have ai : a ≠ it := row_apart p hoi (by rcases hci with z | z <;> rw [z] <;> decide)
    have ae : a ≠ e := row_apart p he ⟨by simp, by simp⟩
    have D := draws_row (prog := X.prog) (w := X.w) (A := X.A.in1) (I.ok.hd hc) b it a ai its.toArray
    have hlt : i < its.toArray.size := by
      have := (List.getElem?_eq_some_iff.mp hx).1
      rw [rv.length] at this
      simpa using this
    refine wpAny_pyNext_enum_itemD D he ⟨hit, p⟩ hlt hne (by simp [hne, Ne.symm ae]) fun x' h' tk hx' ho st' hT hsz hk => ?_
    have ex : x' = u := by
      have : its.toArray[i]? = some u := by simpa using hu
      exact Option.some.inj (hx'.symm.trans this)
    subst ex
    refine ⟨_, rfl, wpAny_letOwnedTupleGo_enum (s := { s with heap := h', toks := tk + 1 }) ho fun h2 he2 sb => ?_⟩
    have hel : e < s.heap.objs.size := Heap.lt_size he
    have hil : it < s.heap.objs.size := Heap.lt_size hoi
    have old2 : ∀ c u', c ∉ [e, it] → s.heap.get? c = some u' → h2.get? c = some u' := fun c u' hn q => (sb.2 c fun z => hn (by simp [z])).trans (hk c u' (fun z => hn (by simp [z])) (fun z => hn (by simp [z])) q)
    have hT2 := (sb.2 _ (Nat.ne_of_gt hel)).trans hT
    have I2 := I.turnedNew (t' := tk + 1) (ob := .tup [.int (i : Nat), x]) old2 hf (Nat.le_refl _) ⟨(by decide : 2 ≤ sizeLine), [.int i tk, x'], .cons ⟨_, rfl⟩ (.cons ru .nil), ⟨_, hT2, rfl, _, rfl⟩⟩
    refine ⟨.ref s.heap.objs.size, _, I2, rfl, ⟨_, x, rfl, I.hok.fresh (Nat.le_refl _), rfl, fun ys hy => by rw [row_inj I hq hy]; exact hx⟩, ⟨⟨x', he2⟩, itB_at st'.1 fun o q => (sb.2 it (Ne.symm hne)).trans q, hne⟩, fun c hc => ?_⟩
    have hlc : c < s.heap.objs.size := by
      rcases List.mem_cons.mp hc with rfl | hc
      · exact hel
      · rcases List.mem_cons.mp hc with rfl | hc
        · exact hil
        · cases hc
    rw [upd_ne (Nat.ne_of_lt hlc)]
    exact (hf c hc).1
  done := by
    intro X hP hw hK hc i pins s σ H E I hf ⟨⟨old, he⟩, hit, hne⟩ ⟨xs, hq, hx⟩
    subst hP hw hK
    obtain ⟨its, rv, p, hz⟩ := row_of I hq
    have hl := rv.length
    obtain ⟨oi, hoi, hci, _⟩ := itB_obj hit
    have ai : a ≠ it := row_apart p hoi (by rcases hci with z | z <;> rw [z] <;> decide)
    have D := draws_row (prog := X.prog) (w := X.w) (A := X.A.in1) (I.ok.hd hc) b it a ai its.toArray
    have hn : its.toArray.size = i := by rw [List.size_toArray, ← hl]; exact hx.symm
    obtain ⟨f0, f1, f2, f3, f4, f5⟩ := hf it (by simp)
    exact wpAny_pyNext_enum_endD D he (by rw [hn]; exact ⟨hit, p⟩) fun h' eb => ⟨rfl, I.turned (t' := s.toks) (fun c o hb q => eb c o hb q) f0 f1 f3 f4 f5⟩
  self := fun A i s Q E ⟨⟨_, he⟩, _⟩ h => wpAny_pyIter_enum he h
def ItZ (K : PySem.W.Frag) (b b' : Bool) (a a' : Addr) : It where
  go i H := ∃ (xs ys : List V) (x y : V), SqB K b H a xs ∧ SqB K b' H a' ys ∧ xs[i]? = some x ∧ ys[i]? = some y
  yld i H v H' := ∃ T x y, v = .ref T ∧ H T = none ∧ H' = upd H T (.tup [x, y]) ∧ (∀ xs, SqB K b H a xs → xs[i]? = some x) ∧ ∀ ys, SqB K b' H a' ys → ys[i]? = some y
  stop i H := ∃ xs ys : List V, SqB K b H a xs ∧ SqB K b' H a' ys ∧ i ≤ xs.length ∧ i ≤ ys.length ∧ (i = xs.length ∨ i = ys.length)
def tnZ (b b' : Bool) (a a' z TI TO i1 i2 : Addr) (i : Nat) (h : Heap) : Prop := IsZip h z TI TO .none ∧ IsTupOf2 h TI (.ref i1) (.ref i2) ∧ (∃ x y, IsTupOf2 h TO x y) ∧ itB b h i1 a i ∧ itB b' h i2 a' i
theorem five {c z TI TO i1 i2 : Addr} (h : c ∈ [z, TI, TO, i1, i2]) : c = z ∨ c = TI ∨ c = TO ∨ c = i1 ∨ c = i2 := by simpa using h
theorem turn_Z {P : Program} {w : World} {K : PySem.W.Frag} {elts : List Expr} {kk : Nat} {tpos : Pos} (b b' : Bool) {a a' z TI TO i1 i2 : Addr} (S : ZipSep2 z TI TO i1 i2 [i1, a] [i2, a']) (n1 : a ≠ i1) (n2 : a' ≠ i2) :
    Turn P w K (.Tuple elts kk tpos) (ItZ K b b' a a') [z, TI, TO, i1, i2] z (tnZ b b' a a' z TI TO i1 i2) where
  mem := List.mem_cons_self
  obj := fun i h ⟨hz, hI, ⟨x, y, hO⟩, h1, h2⟩ c hc => by
    rcases five hc with rfl | rfl | rfl | rfl | rfl
    · exact ⟨_, hz, fun v q => nomatch q⟩
    · exact ⟨_, hI, fun v q => nomatch q⟩
    · exact ⟨_, hO, fun v q => nomatch q⟩
    · obtain ⟨o, e1, _, e3⟩ := itB_obj h1; exact ⟨o, e1, e3⟩
    · obtain ⟨o, e1, _, e3⟩ := itB_obj h2; exact ⟨o, e1, e3⟩
  keep := fun i h h' ⟨hz, hI, ⟨x, y, hO⟩, h1, h2⟩ k => ⟨k z (by simp) _ hz, k TI (by simp) _ hI, ⟨x, y, k TO (by simp) _ hO⟩, itB_at h1 fun o q => k i1 (by simp) o q, itB_at h2 fun o q => k i2 (by simp) o q⟩
  item := by
    intro X hP hw hK hc i pins s σ H E I hf ⟨hz, hI, ⟨x0, y0, hO⟩, h1, h2⟩ ⟨xs, ys, x, y, hq1, hq2, hx, hy⟩
    subst hP hw hK
    obtain ⟨its, rv, p, _⟩ := row_of I hq1
    obtain ⟨its', rv', p', _⟩ := row_of I hq2
    obtain ⟨u, hu, ru⟩ := rv.get hx
    obtain ⟨u', hu', ru'⟩ := rv'.get hy
    have D1 := draws_row (prog := X.prog) (w := X.w) (A := X.A.in1) (I.ok.hd hc) b i1 a n1 its.toArray
    have D2 := draws_row (prog := X.prog) (w := X.w) (A := X.A.in1) (I.ok.hd hc) b' i2 a' n2 its'.toArray
    have l1 : i < its.toArray.size := by
      have := (List.getElem?_eq_some_iff.mp hx).1
      rw [rv.length] at this; simpa using this
    have l2 : i < its'.toArray.size := by
      have := (List.getElem?_eq_some_iff.mp hy).1
      rw [rv'.length] at this; simpa using this
    refine wpAny_pyNext_zipD2_item S D1 D2 hz hI hO ⟨h1, p⟩ ⟨h2, p'⟩ l1 l2 fun x1 x2 h' tk g1 g2 hz' hO' t1 t2 hT hsz hk => ?_
    obtain rfl : x1 = u := Option.some.inj (g1.symm.trans (by simpa using hu))
    obtain rfl : x2 = u' := Option.some.inj (g2.symm.trans (by simpa using hu'))
    refine ⟨_, rfl, wpAny_letOwnedTupleGo_zip (s := { s with heap := h', toks := tk }) hz' fun h3 hz3 sb => ?_⟩
    have lz : z < s.heap.objs.size := Heap.lt_size hz
    have hT3 : IsTupOf2 h3 s.heap.objs.size x1 x2 := (sb.2 _ (Nat.ne_of_gt lz)).trans hT
    have old : ∀ c o, c ∉ [z, TI, TO, i1, i2] → s.heap.get? c = some o → h3.get? c = some o := fun c o hn q => (sb.2 c fun q' => hn (by simp [q'])).trans (hk c o (fun q' => hn (by simp [q'])) (fun q' => hn (by simp [q'])) (fun q' => hn (by simp [q'])) (fun q' => hn (by simp [q'])) q)
    have I3 := I.turnedNew (t' := tk) (ob := .tup [x, y]) old hf (Nat.le_refl _) ⟨(by decide : 2 ≤ sizeLine), [x1, x2], .cons ru (.cons ru' .nil), ⟨_, hT3, rfl, _, rfl⟩⟩
    refine ⟨.ref s.heap.objs.size, _, I3, rfl, ⟨_, x, y, rfl, I.hok.fresh (Nat.le_refl _), rfl, fun l hl => by rw [row_inj I hq1 hl]; exact hx, fun l hl => by rw [row_inj I hq2 hl]; exact hy⟩,
      ⟨hz3, (sb.2 _ S.TIz).trans (hk _ _ S.TIz S.TITO S.TIi1 S.TIi2 hI), ⟨_, _, (sb.2 _ S.TOz).trans hO'⟩, itB_at t1.1 fun o q => (sb.2 _ (Ne.symm S.zi1)).trans q, itB_at t2.1 fun o q => (sb.2 _ (Ne.symm S.zi2)).trans q⟩, fun c hc => ?_⟩
    have lc : c < s.heap.objs.size := by
      rcases five hc with rfl | rfl | rfl | rfl | rfl
      · exact lz
      · exact Heap.lt_size hI
      · exact Heap.lt_size hO
      · obtain ⟨_, e1, _⟩ := itB_obj h1; exact Heap.lt_size e1
      · obtain ⟨_, e1, _⟩ := itB_obj h2; exact Heap.lt_size e1
    rw [upd_ne (Nat.ne_of_lt lc)]
    exact (hf c hc).1
  done := by
    intro X hP hw hK hc i pins s σ H E I hf ⟨hz, hI, ⟨x0, y0, hO⟩, h1, h2⟩ ⟨xs, ys, hq1, hq2, le1, le2, he⟩
    subst hP hw hK
    obtain ⟨its, rv, p, _⟩ := row_of I hq1
    obtain ⟨its', rv', p', _⟩ := row_of I hq2
    have D1 := draws_row (prog := X.prog) (w := X.w) (A := X.A.in1) (I.ok.hd hc) b i1 a n1 its.toArray
    have D2 := draws_row (prog := X.prog) (w := X.w) (A := X.A.in1) (I.ok.hd hc) b' i2 a' n2 its'.toArray
    have m1 : its.toArray.size = xs.length := by rw [List.size_toArray, ← rv.length]
    have m2 : its'.toArray.size = ys.length := by rw [List.size_toArray, ← rv'.length]
    exact wpAny_pyNext_zipD2_end S D1 D2 hz hI hO ⟨h1, p⟩ ⟨h2, p'⟩ (by omega) (by omega) (by omega) fun h' tk hk => ⟨rfl, I.turnedL (t' := tk) (ch := [z, TI, TO, i1, i2]) (fun c o hn q =>
      hk c o (fun q' => hn (by simp [q'])) (fun q' => hn (by simp [q'])) (fun q' => hn (by simp [q'])) (fun q' => hn (by simp [q'])) q) hf⟩
  self := fun A i s Q E st h => wpAny_pyIter_zip st.1 h
section
variable {X : Cx} {e e2 : Expr} {ta : TA} {p pos tpos : Pos} {elts : List Expr} {kk : Nat}
def iE (K : PySem.W.Frag) (ta : TA) : TI := fun σ H R => ta σ H fun vs H1 => ∃ b a xs, vs = [.ref a] ∧ SqB K b H1 a xs ∧ R (ItE K b a) H1
theorem pi_E (hg : Gl X "enumerate") (hm : X.mg "enumerate" = none) (ha : PA X [e] ta) (hs : starEach [e] X.env = [(false, eval e X.env)] := by rfl) : PI X (.Tuple elts kk tpos) (.Call (.Name "enumerate" p) [e] [] pos) (iE X.K ta) := by
  refine ⟨fun pins s σ H R I h => Call_ (ld_blt I hg hm boot_enumerate (PyProof.Rows.callWith_type1 (thn (ha.run pos pins s σ H _ I h) fun us s1 ⟨vs, H1, I1, r1, b, a, xs, ev, hq, q⟩ => ?_) hs rfl))⟩
  subst ev
  rw [Vals.ref1 r1]
  obtain ⟨its, rv, p', hz⟩ := row_of I1 hq
  refine call_enum_row (begins_row b a its.toArray) p' fun h' he hit hk => wpAny_pyIter_enum he ?_
  refine ⟨s1.heap.objs.size + 1, [s1.heap.objs.size + 1, s1.heap.objs.size], _, _, H1, rfl, I1.kept (t' := s1.toks) hk, turn_E b a (s1.heap.objs.size + 1) s1.heap.objs.size, ⟨⟨.none, he⟩, row_start hit, Nat.succ_ne_self _⟩, fun c hc => ?_, q⟩
  have hle : s1.heap.objs.size ≤ c := by
    rcases List.mem_cons.mp hc with rfl | hc
    · exact Nat.le_succ _
    · rcases List.mem_cons.mp hc with rfl | hc
      · exact Nat.le_refl _
      · cases hc
  exact I1.fpOk hle (I1.hok.fresh hle)
def iZ (K : PySem.W.Frag) (ta : TA) : TI := fun σ H R => ta σ H fun vs H1 => ∃ b b' a a' xs ys, vs = [.ref a, .ref a'] ∧ SqB K b H1 a xs ∧ SqB K b' H1 a' ys ∧ R (ItZ K b b' a a') H1
theorem pi_Z (hg : Gl X "zip") (hm : X.mg "zip" = none) (ha : PA X [e, e2] ta) (hs : starEach [e, e2] X.env = (false, eval e X.env) :: starEach [e2] X.env := by rfl) (hpl : (backTo pos (starEach [e2] X.env)).any (·.1) = false := by rfl) :
    PI X (.Tuple elts kk tpos) (.Call (.Name "zip" p) [e, e2] [] pos) (iZ X.K ta) := by
  refine ⟨fun pins s σ H R I h => Call_ (ld_blt I hg hm PyProof.Rows.boot_zip (PyProof.Rows.callWith_type1 (thn (ha.run pos pins s σ H _ I h) fun us s1 ⟨vs, H1, I1, r1, b, b', a, a', xs, ys, ev, hq1, hq2, q⟩ => ?_) hs hpl))⟩
  subst ev
  cases r1 with
  | cons r rr => cases rr with
    | cons r' rr =>
      cases rr; cases r; cases r'
      obtain ⟨its, rv, p1, _⟩ := row_of I1 hq1
      obtain ⟨its', rv', p2, _⟩ := row_of I1 hq2
      obtain ⟨o1, g1, _⟩ := isB_obj p1
      obtain ⟨o2, g2, _⟩ := isB_obj p2
      have la := Heap.lt_size g1
      have la' := Heap.lt_size g2
      refine zip_begins2 (begins_row b a its.toArray) (begins_row b' a' its'.toArray) p1 p2 fun h' hz hI hO k1 k2 _ hk => wpAny_pyIter_zip hz ?_
      refine ⟨s1.heap.objs.size + 4, [s1.heap.objs.size + 4, s1.heap.objs.size + 2, s1.heap.objs.size + 3, s1.heap.objs.size, s1.heap.objs.size + 1], _, _, H1, rfl, I1.kept (t' := s1.toks) hk,
        turn_Z b b' (zip_sep2 (fp1 := [a]) (fp2 := [a']) (fun c hc => by rw [List.mem_singleton.mp hc]; exact la) (fun c hc => by rw [List.mem_singleton.mp hc]; exact la')) (Nat.ne_of_lt la) (Nat.ne_of_lt (Nat.lt_succ_of_lt la')), ⟨hz, hI, ⟨_, _, hO⟩, row_start k1, row_start k2⟩, fun c hc => ?_, q⟩
      have hle : s1.heap.objs.size ≤ c := by rcases five hc with rfl | rfl | rfl | rfl | rfl <;> omega
      exact I1.fpOk hle (I1.hok.fresh hle)
end
/-- a list's or a tuple's frozen parts -/
def rowOf (d : D) : Option (List D) := match lstOf d with
  | some ds => some ds
  | none => tupOf d
section
variable {K : PySem.W.Frag} {w : Wd}
theorem SqB.same {b : Bool} {H H' : Hp} {a : Addr} {xs : List V} (e : Same H H') (h : SqB K b H a xs) : SqB K b H' a xs := by
  cases b with
  | true => exact same_rdT e h
  | false => exact e.seq h
theorem row_frz {d : D} {ds : List D} {ℓ : Loc} {v : V} (e : rowOf d = some ds) (r : Rep K w d.frz ℓ v) : ∃ b a vs, v = .ref a ∧ SqB K b w.S a vs ∧ ds.length ≤ sizeLine ∧ ownL ds = false ∧ ∀ ℓ j, RepL K w ds ℓ j vs := by
  have lst : ∀ {o : Ow} {xs : List D}, o.light = true → Rep K w (D.lst o xs).frz ℓ v → ∃ b a vs, v = .ref a ∧ SqB K b w.S a vs ∧ xs.length ≤ sizeLine ∧ ownL xs = false ∧ ∀ ℓ j, RepL K w xs ℓ j vs := fun {o xs} ho r => by
    have : (D.lst o xs).frz = .lst .ice xs := by cases o <;> first | rfl | cases ho
    rw [this] at r
    simp only [Rep] at r
    obtain ⟨a, vs, rfl, h1, hz, h2⟩ := r
    have h1 : w.S a = some (.lst vs) := h1
    exact ⟨false, a, vs, rfl, SqL.of h1, hz.1, hz.2 rfl, fun ℓ j => h2.free (Same.refl _) _ (hz.2 rfl)⟩
  cases d with
  | lst o xs =>
    cases o with
    | ice => cases e; exact lst rfl r
    | flat => cases e; exact lst rfl r
    | deep => cases e
  | tup o xs =>
    cases o with
    | true => cases e
    | false =>
      cases e
      simp only [D.frz, Rep] at r
      obtain ⟨a, vs, rfl, h1, hz, h2⟩ := r
      have ho : ownL ds = false := by have := hz.2; simpa using this
      exact ⟨true, a, vs, rfl, SqT.of h1, hz.1, ho, fun ℓ j => h2.free (Same.refl _) _ ho⟩
  | ro t xs =>
    cases t with
    | true =>
      cases e
      simp only [D.frz, Rep] at r
      obtain ⟨a, vs, rfl, h1, hz, h2⟩ := r
      exact ⟨true, a, vs, rfl, h1, hz.1, hz.2, fun ℓ j => h2.free (Same.refl _) _ hz.2⟩
    | false =>
      cases e
      simp only [D.frz, Rep] at r
      obtain ⟨a, vs, rfl, h1, hz, h2⟩ := r
      exact ⟨false, a, vs, rfl, h1, hz.1, hz.2, fun ℓ j => h2.free (Same.refl _) _ hz.2⟩
  | _ => cases e
/-- all temporaries from τ on frozen -/
theorem EndE.iceA {σ : Sl} {ρ : En} {τ : Nat} {ads : List AD} {vs : List V} {ds : List D} (hn : ρ.length < τ) (st : StE K w σ ρ) (r : ArgsAt K w σ ads τ vs) (e : vals ads = some ds) :
    ∃ w' : Wd, w'.H = w.H ∧ EndE K τ w σ ρ ρ w' ∧ ∀ (i : Nat) (d : D) (v : V), ds[i]? = some d → vs[i]? = some v → ∀ ℓ, Rep K w' d.frz ℓ v := by
  obtain ⟨_, _, g⟩ := vals_at r e
  refine ⟨w.ice fun ℓ => match ℓ with | h :: _ => decide (τ ≤ h) | [] => false, rfl, ⟨rfl, st.to st.wf.ice (ice_same st.wf) fun i hi => ice_kept fun s => ?_, ⟨ice_same st.wf, fun a ℓ e ⟨h, s, e2, k⟩ => ?_⟩⟩, fun i d v e1 e2 ℓ => ?_⟩
  · show decide (τ ≤ i + 1) = false
    simp; omega
  · subst e2
    have := ice_kept (w := w) (ℓ := h :: s) (P := fun ℓ => match ℓ with | h :: _ => decide (τ ≤ h) | [] => false) (fun t => by
      show decide (τ ≤ h) = false
      simp; omega) a [] (by simpa using e)
    simpa using this
  · exact Rep.frz (w := w) (ice_same st.wf) d (ice_frz fun s => by show decide (τ ≤ τ + i) = true; simp) (g i d v e1 e2)
def enD : Nat → List D → List D
  | _, [] => []
  | k, d :: r => .tup false [.int k, d] :: enD (k + 1) r
theorem enD_get : ∀ (k : Nat) (ds : List D) (i : Nat), (enD k ds)[i]? = (ds[i]?).map fun d => .tup false [.int ((k + i : Nat) : Int), d]
  | k, [], i => by simp [enD]
  | k, d :: r, 0 => rfl
  | k, d :: r, i + 1 => by
    have := enD_get (k + 1) r i
    rw [show k + 1 + i = k + (i + 1) by omega] at this
    simpa [enD] using this
theorem enD_len : ∀ (k : Nat) (ds : List D), (enD k ds).length = ds.length
  | _, [] => rfl
  | k, d :: r => by simp [enD, enD_len (k + 1) r]
def zpD : List D → List D → List D
  | d :: r, e :: q => .tup false [d, e] :: zpD r q
  | _, _ => []
theorem zpD_get : ∀ (ds es : List D) (i : Nat) (x : D), (zpD ds es)[i]? = some x → ∃ d e, ds[i]? = some d ∧ es[i]? = some e ∧ x = .tup false [d, e]
  | [], _, i, x, h => by simp [zpD] at h
  | _ :: _, [], i, x, h => by simp [zpD] at h
  | d :: r, e :: q, 0, x, h => by cases h; exact ⟨d, e, rfl, rfl, rfl⟩
  | d :: r, e :: q, i + 1, x, h => zpD_get r q i x (by simpa [zpD] using h)
theorem zpD_len : ∀ (ds es : List D), (zpD ds es).length = min ds.length es.length
  | [], _ => by simp [zpD]
  | _ :: _, [] => by simp [zpD]
  | d :: r, e :: q => by simp only [zpD, List.length_cons, zpD_len r q]; omega
theorem pair_new {w1 : Wd} (wf : Wf w1) {T : Addr} (n : w1.H T = none) {d e : D} {x y : V} (hd : d.own = false) (he : e.own = false) (r : ∀ ℓ, Rep K w1 d ℓ x) (r' : ∀ ℓ, Rep K w1 e ℓ y) :
    Grow w1 (w1.shr T (.tup [x, y])) ∧ ∀ ℓ, Rep K (w1.shr T (.tup [x, y])) (.tup false [d, e]) ℓ (.ref T) := by
  refine ⟨⟨wf.shr n, shr_same wf n, fun ℓ => shr_kept wf n⟩, fun ℓ => ?_⟩
  simp only [Rep]
  refine ⟨T, [x, y], rfl, upd_same, ⟨(by decide : 2 ≤ sizeLine), fun _ => by simp [ownL, hd, he]⟩, RepL.to (w := w1) (shr_same wf n) [d, e] (shr_kept wf n) ?_⟩
  simp only [RepL]
  exact ⟨x, [y], rfl, r _, y, [], rfl, r' _, rfl⟩
theorem it_E {b : Bool} {a : Addr} {vs : List V} {ds : List D} (h : SqB K b w.S a vs) (ho : ownL ds = false) (r : ∀ ℓ j, RepL K w ds ℓ j vs) : ItOk K (ItE K b a) (enD 0 ds) w := by
  intro i w1 wf1 sm
  have hq : SqB K b w1.H a vs := (h.same sm).same wf1.sh
  refine ⟨fun d e => ?_, fun hl => ⟨vs, hq, by rw [hl, enD_len, (r [] 0).length]⟩⟩
  rw [enD_get] at e
  cases q : ds[i]? with
  | none => rw [q] at e; cases e
  | some x =>
    rw [q] at e; cases e
    obtain ⟨v, ev, rv⟩ := (r [] 0).get q
    have hx : x.own = false := ownL_iff.mp ho x (List.mem_of_getElem? q)
    refine ⟨⟨vs, v, hq, ev⟩, fun u H' ⟨T, y, eu, nT, eH, hy⟩ => ?_⟩
    subst eu; subst eH
    have := hy vs hq
    rw [ev] at this; cases this
    obtain ⟨g1, g2⟩ := pair_new wf1 nT (d := .int i) rfl hx (fun ℓ => rfl) (fun ℓ => rv.free sm x hx)
    refine ⟨w1.shr T (.tup [.int (i : Nat), v]), rfl, g1, rfl, fun ℓ => ?_⟩
    rw [Nat.zero_add]
    exact g2 ℓ
theorem it_Z {b b' : Bool} {a a' : Addr} {vs us : List V} {ds es : List D} (h : SqB K b w.S a vs) (h' : SqB K b' w.S a' us) (ho : ownL ds = false) (ho' : ownL es = false) (r : ∀ ℓ j, RepL K w ds ℓ j vs) (r' : ∀ ℓ j, RepL K w es ℓ j us) : ItOk K (ItZ K b b' a a') (zpD ds es) w := by
  intro i w1 wf1 sm
  have hq : SqB K b w1.H a vs := (h.same sm).same wf1.sh
  have hq' : SqB K b' w1.H a' us := (h'.same sm).same wf1.sh
  refine ⟨fun x e => ?_, fun hl => ⟨vs, us, hq, hq', ?_⟩⟩
  · obtain ⟨d, e', q, q', rfl⟩ := zpD_get _ _ _ _ e
    obtain ⟨v, ev, rv⟩ := (r [] 0).get q
    obtain ⟨u, eu, ru⟩ := (r' [] 0).get q'
    have hd : d.own = false := ownL_iff.mp ho d (List.mem_of_getElem? q)
    have he : e'.own = false := ownL_iff.mp ho' e' (List.mem_of_getElem? q')
    refine ⟨⟨vs, us, v, u, hq, hq', ev, eu⟩, fun z H' ⟨T, y1, y2, ez, nT, eH, k1, k2⟩ => ?_⟩
    subst ez; subst eH
    have j1 := k1 vs hq
    have j2 := k2 us hq'
    rw [ev] at j1; cases j1
    rw [eu] at j2; cases j2
    obtain ⟨g1, g2⟩ := pair_new wf1 nT hd he (fun ℓ => rv.free sm d hd) (fun ℓ => ru.free sm e' he)
    exact ⟨w1.shr T (.tup [v, u]), rfl, g1, rfl, g2⟩
  · rw [hl, zpD_len, (r [] 0).length, (r' [] 0).length]
    omega
end
def rEn (ra : RA) : RI := fun ρ E Q => ra ρ E fun ads ρ' => onVals ads fun ds => match ds with
  | [d] => match rowOf d with
    | some xs => Q (enD 0 xs) ρ'
    | none => False
  | _ => False
def rZp (ra : RA) : RI := fun ρ E Q => ra ρ E fun ads ρ' => onVals ads fun ds => match ds with
  | [d, e] => match rowOf d with
    | some xs => match rowOf e with
      | some ys => Q (zpD xs ys) ρ'
      | none => False
    | none => False
  | _ => False
section
variable {X : Cx} {W : WX} {p pos tpos : Pos} {elts : List Expr} {kk : Nat} {ra : RA}
theorem fi_enum {e : Expr} (ha : FA X W [e] ra) (hm : X.mg "enumerate" = none) (hg : Gl X "enumerate" := by rfl) (hs : starEach [e] X.env = [(false, eval e X.env)] := by rfl) : FI X W (.Tuple elts kk tpos) (.Call (.Name "enumerate" p) [e] [] pos) (rEn ra) := by
  obtain ⟨t, q, k⟩ := ha.ex
  refine ⟨_, pi_E hg hm q hs, fun τ w σ ρ E Q R hn st h hq hx => ?_⟩
  refine k τ w σ ρ E _ _ hn st h (fun ads ρ1 w1 vs h1 l1 e1 r1 => ?_) hx
  obtain ⟨ds, ed, h1⟩ := onVals_elim h1
  obtain ⟨w2, e0, e2, g⟩ := EndE.iceA (by rw [e1.len]; exact hn) e1.st r1 ed
  obtain ⟨l2, _, _⟩ := vals_at r1 ed
  match ds, vs, l2, h1, g with
  | [d], [v], _, h1, g =>
    have h1 : (match rowOf d with | some xs => Q (enD 0 xs) ρ1 | none => False) := h1
    cases er : rowOf d with
    | none => rw [er] at h1; exact h1.elim
    | some xs =>
      rw [er] at h1
      obtain ⟨b, a, us, rfl, h2, hz, ho, h3⟩ := row_frz er (g 0 d v rfl rfl [])
      rw [← e0]
      exact ⟨b, a, us, rfl, h2.same e2.st.wf.sh, hq _ ρ1 w2 _ h1 (by rw [enD_len]; exact hz) (e1.trans e2 (Nat.le_refl _)) (it_E h2 ho h3)⟩
theorem fi_zip {e e2 : Expr} (ha : FA X W [e, e2] ra) (hm : X.mg "zip" = none) (hg : Gl X "zip" := by rfl) (hs : starEach [e, e2] X.env = (false, eval e X.env) :: starEach [e2] X.env := by rfl) (hpl : (backTo pos (starEach [e2] X.env)).any (·.1) = false := by rfl) :
    FI X W (.Tuple elts kk tpos) (.Call (.Name "zip" p) [e, e2] [] pos) (rZp ra) := by
  obtain ⟨t, q, k⟩ := ha.ex
  refine ⟨_, pi_Z hg hm q hs hpl, fun τ w σ ρ E Q R hn st h hq hx => ?_⟩
  refine k τ w σ ρ E _ _ hn st h (fun ads ρ1 w1 vs h1 l1 e1 r1 => ?_) hx
  obtain ⟨ds, ed, h1⟩ := onVals_elim h1
  obtain ⟨w2, e0, e2, g⟩ := EndE.iceA (by rw [e1.len]; exact hn) e1.st r1 ed
  obtain ⟨l2, _, _⟩ := vals_at r1 ed
  match ds, vs, l2, h1, g with
  | [d, d'], [v, v'], _, h1, g =>
    have h1 : (match rowOf d with | some xs => (match rowOf d' with | some ys => Q (zpD xs ys) ρ1 | none => False) | none => False) := h1
    cases er : rowOf d with
    | none => rw [er] at h1; exact h1.elim
    | some xs =>
      cases er' : rowOf d' with
      | none => rw [er, er'] at h1; exact h1.elim
      | some ys =>
        rw [er, er'] at h1
        obtain ⟨b, a, us, rfl, h2, hz, ho, h3⟩ := row_frz er (g 0 d v rfl rfl [])
        obtain ⟨b', a', us', rfl, h2', hz', ho', h3'⟩ := row_frz er' (g 1 d' v' rfl rfl [])
        rw [← e0]
        exact ⟨b, b', a, a', us, us', rfl, h2.same e2.st.wf.sh, h2'.same e2.st.wf.sh, hq _ ρ1 w2 _ h1 (by rw [zpD_len]; omega) (e1.trans e2 (Nat.le_refl _)) (it_Z h2 h2' ho ho' h3 h3')⟩
end
def ItRow (K : PySem.W.Frag) (b : Bool) (a : Addr) : It := if b then Itt K a else Itl K a
def iRow (K : PySem.W.Frag) (te : TE) : TI := fun σ H R => te σ H fun x H1 => ∃ b a xs, x = .ref a ∧ SqB K b H1 a xs ∧ R (ItRow K b a) H1
theorem pi_row {X : Cx} {tg e : Expr} {te : TE} (he : PE X e te) : PI X tg e (iRow X.K te) := by
  refine ⟨fun pins s σ H R I h => thn (he.run pins s σ H _ I h) fun v s1 ⟨x, H1, I1, r1, b, a, xs, ev, hq, q⟩ => ?_⟩
  subst ev
  cases r1
  obtain ⟨its, rv, p, hz⟩ := row_of I1 hq
  refine (begins_row b a its.toArray).iter _ _ _ _ s1 _ p ?_
  have hf : ∀ c ∈ [s1.heap.objs.size], FpOk X pins H1 c := fun c hc => by
    rw [List.mem_singleton.mp hc]
    exact I1.fpOk (Nat.le_refl _) (I1.hok.fresh (Nat.le_refl _))
  cases b with
  | true => exact ⟨_, _, _, _, H1, rfl, I1.kept (t' := s1.toks) fun c o e => Heap.get?_push_of_some _ e, turn_tuple a _, ⟨_, Heap.get?_push_size _ rfl, rfl, rfl⟩, hf, q⟩
  | false => exact ⟨_, _, _, _, H1, rfl, I1.kept (t' := s1.toks) fun c o e => Heap.get?_push_of_some _ e, turn_list a _, ⟨_, Heap.get?_push_size _ rfl, rfl, rfl⟩, hf, q⟩
def rItA (re : RE) : RI := fun ρ E Q => re ρ E fun d ρ' => match rowOf d with
  | some ds => Q ds ρ'
  | none => False
theorem fi_row {X : Cx} {W : WX} {tg e : Expr} {re : RE} (h : FE X W e re) : FI X W tg e (rItA re) := by
  obtain ⟨t, q, k⟩ := h.ex
  refine ⟨_, pi_row q, fun τ w σ ρ E Q R hn st h hq hx => ?_⟩
  refine k τ w σ ρ E _ _ hn st h (fun d ρ1 w1 v h1 e1 r1 => ?_) hx
  cases er : rowOf d with
  | none => simp only [er] at h1
  | some ds =>
    simp only [er] at h1
    obtain ⟨w2, e0, e2, r2⟩ := EndE.iceT (by rw [e1.len]; exact hn) e1.st r1
    obtain ⟨b, a, vs, rfl, h2, hz, ho, h3⟩ := row_frz er (r2 [])
    rw [← e0]
    refine ⟨b, a, vs, rfl, h2.same e2.st.wf.sh, hq ds ρ1 w2 _ h1 hz (e1.trans e2 (Nat.le_refl _)) ?_⟩
    cases b with
    | true => exact it_tup h2 ho fun ℓ => h3 ℓ 0
    | false => exact it_list h2 ho fun ℓ => h3 ℓ 0
def rFrz (re : RE) : RE := fun ρ E Q => re ρ E fun d ρ' => Q d.frz ρ'
theorem fe_frz {X : Cx} {W : WX} {e : Expr} {re : RE} (h : FE X W e re) : FE X W e (rFrz re) := by
  obtain ⟨t, q, k⟩ := h.ex
  refine ⟨_, q, fun τ w σ ρ E Q Qv hn st h hq hx => ?_⟩
  refine k τ w σ ρ E _ _ hn st h (fun d ρ1 w1 v h1 e1 r1 => ?_) hx
  obtain ⟨w2, e0, e2, r2⟩ := EndE.iceT (by rw [e1.len]; exact hn) e1.st r1
  rw [← e0]
  exact hq _ ρ1 w2 v h1 (e1.trans e2 (Nat.le_refl _)) (r2 _)
end FL
namespace FL
open PySem PySem.Spec PyProof.Rows L2
theorem datL_all {ds : List D} : datL ds = true ↔ ∀ d ∈ ds, d.dat = true := by
  induction ds with
  | nil => simp [datL]
  | cons d r ih => simp [datL, ih]
theorem datL_map {α : Type} {f : α → D} {xs : List α} (h : ∀ x ∈ xs, (f x).dat = true) : datL (xs.map f) = true := datL_all.mpr fun d hd => by
  obtain ⟨x, hx, rfl⟩ := List.mem_map.mp hd
  exact h x hx
theorem depL_le {ds : List D} {n : Nat} (h : ∀ d ∈ ds, d.dep ≤ n) : depL ds ≤ n := by
  induction ds with
  | nil => simp [depL]
  | cons d r ih =>
    simp only [depL]
    have h1 := h d List.mem_cons_self
    have h2 := ih fun e he => h e (List.mem_cons_of_mem _ he)
    omega
/-- against the empty row -/
theorem deq_nilL {o o' : Ow} {ds : List D} : deq (.lst o ds) (.lst o' []) = ds.isEmpty := by
  cases ds with
  | nil => rfl
  | cons d r => rfl
theorem compR_map {α : Type} {f : D → En → (Option D → En → Prop) → Prop} {vs : List Nat} {Q : Ow → List D → En → Prop} (g : α → D) (h : α → Option D) : ∀ (xs : List α) (acc : List D) (ρ : En),
    (∀ x ∈ xs, f (g x) ρ fun o ρ' => o = h x ∧ wipeD ρ' vs = ρ) → (∀ x ∈ xs, ∀ y, h x = some y → y.own = false) → Q .flat (acc ++ xs.filterMap h) ρ → compR f vs (xs.map g) ρ .flat acc Q
  | [], acc, ρ, _, _, q => by simpa [compR] using q
  | x :: xs, acc, ρ, k, ho, q => by
    refine ⟨_, k x List.mem_cons_self, fun o ρ' ⟨e1, e2⟩ => ?_⟩
    subst e1
    have : kindR .flat (h x) = .flat := by
      cases e : h x with
      | none => rfl
      | some y =>
        have := ho x List.mem_cons_self y e
        simp only [kindR, this]
    rw [this, e2]
    refine compR_map g h xs _ ρ (fun x' hx => k x' (List.mem_cons_of_mem _ hx)) (fun x' hx => ho x' (List.mem_cons_of_mem _ hx)) ?_
    rw [List.append_assoc]
    have e : (h x).toList ++ xs.filterMap h = (x :: xs).filterMap h := by
      rw [List.filterMap_cons]
      cases h x <;> rfl
    rw [e]
    exact q
/-- .. each part by a rule -/
theorem compR_all {α : Type} {f : D → En → (Option D → En → Prop) → Prop} {vs : List Nat} {Q : Ow → List D → En → Prop} (g h : α → D) (xs : List α) (ρ : En)
    (k : ∀ x ∈ xs, f (g x) ρ fun o ρ' => o = some (h x) ∧ wipeD ρ' vs = ρ) (ho : ∀ x, (h x).own = false) (q : Q .flat (xs.map h) ρ) : compR f vs (xs.map g) ρ .flat [] Q :=
  compR_map g (fun x => some (h x)) xs [] ρ k (fun x _ y e => by cases e; exact ho x) (by
    have e : xs.filterMap (fun x => some (h x)) = xs.map h := by simp
    rw [List.nil_append, e]
    exact q)
end FL
namespace FL
open PySem PySem.Spec PyProof.Rows L2
section
variable {κ : Type} [DecidableEq κ]
theorem putK_zip (f : D → κ) (k : D) (v : V) : ∀ (ks : List D) (us : List V), ks.length = us.length → (ks.map f).Nodup →
    putK ((ks.map f).zip us) (f k) v = match ks.findIdx? fun k' => decide (f k' = f k) with
      | some i => (ks.map f).zip (us.set i v)
      | none => ((ks ++ [k]).map f).zip (us ++ [v])
  | [], [], _, _ => by simp [putK]
  | a :: ks, u :: us, hl, hn => by
    rw [List.map_cons, List.nodup_cons] at hn
    have ih := putK_zip f k v ks us (by simpa using hl) hn.2
    rw [List.findIdx?_cons]
    by_cases e : f a = f k
    · rw [if_pos (by simpa using e)]
      have hno : ∀ p ∈ (ks.map f).zip us, p.1 ≠ f k := fun p hp z => hn.1 (by rw [e, ← z]; exact (List.of_mem_zip hp).1)
      unfold putK
      rw [if_pos (by simp [e])]
      simp only [List.map_cons, List.zip_cons_cons, e, if_true, List.set_cons_zero]
      congr 1
      have : ((ks.map f).zip us).map (fun kv => if kv.1 = f k then (kv.1, v) else kv) = ((ks.map f).zip us).map id := List.map_congr_left fun p hp => if_neg (hno p hp)
      rw [this, List.map_id]
    · rw [if_neg (by simpa using e)]
      unfold putK at ih ⊢
      rw [List.map_cons, List.zip_cons_cons, List.any_cons, decide_eq_false (by exact e), Bool.false_or]
      cases q : ks.findIdx? fun k' => decide (f k' = f k) with
      | none =>
        rw [q] at ih
        by_cases b : (((ks.map f).zip us).any fun kv => decide (kv.1 = f k)) = true
        · rw [if_pos b] at ih ⊢
          rw [List.map_cons, if_neg (by exact e), ih]
          simp
        · rw [if_neg b] at ih ⊢
          simp only [Option.map_none, List.cons_append, List.map_cons, List.zip_cons_cons]
          rw [ih]
      | some i =>
        rw [q] at ih
        by_cases b : (((ks.map f).zip us).any fun kv => decide (kv.1 = f k)) = true
        · rw [if_pos b] at ih ⊢
          rw [List.map_cons, if_neg (by exact e), ih]
          simp
        · rw [if_neg b] at ih ⊢
          have ih : (ks.map f).zip us ++ [(f k, v)] = (ks.map f).zip (us.set i v) := ih
          show (f a, u) :: ((ks.map f).zip us ++ [(f k, v)]) = (f a, u) :: (ks.map f).zip (us.set i v)
          rw [ih]
end
/-- the keys behind d[k] = .. -/
def putKs (t : Bool) (ks : List D) (k : D) : List D := match kIdx t ks k with
  | some _ => ks
  | none => ks ++ [k]
def putDs {α : Type} (t : Bool) (ks : List D) (k : D) (ds : List α) (d : α) : List α := match kIdx t ks k with
  | some i => ds.set i d
  | none => ds ++ [d]
theorem idx_none {t : Bool} {ks : List D} {k : D} (h : kIdx t ks k = none) : ∀ k' ∈ ks, keyEq t k' k = false := fun k' hk => by
  have := List.findIdx?_eq_none_iff.mp h k' hk
  simpa using this
theorem putKs_ok {t : Bool} {ks : List D} {k : D} (h : keysOk t ks = true) (hk : keyOk t k = true) : keysOk t (putKs t ks k) = true := by
  unfold putKs
  split
  · exact h
  · rename_i e
    have no := idx_none e
    unfold keysOk at h ⊢
    simp only [Bool.and_eq_true] at h ⊢
    refine ⟨by rw [List.all_append, h.1]; simp [hk], ?_⟩
    cases t with
    | true =>
      have h2 : (ks.map tkey).Nodup := by simpa using h.2
      have : ((ks ++ [k]).map tkey).Nodup := by
        rw [List.map_append, List.nodup_append]
        refine ⟨h2, by simp, fun a ha b hb => ?_⟩
        obtain ⟨k', hk', rfl⟩ := List.mem_map.mp ha
        have hb : b = tkey k := by simpa using hb
        rw [hb]
        have := no k' hk'
        simpa [keyEq] using this
      simpa using this
    | false =>
      have h2 : (ks.map skey).Nodup := by simpa using h.2
      have : ((ks ++ [k]).map skey).Nodup := by
        rw [List.map_append, List.nodup_append]
        refine ⟨h2, by simp, fun a ha b hb => ?_⟩
        obtain ⟨k', hk', rfl⟩ := List.mem_map.mp ha
        have hb : b = skey k := by simpa using hb
        rw [hb]
        have := no k' hk'
        simpa [keyEq] using this
      simpa using this
theorem putDs_len {α : Type} {t : Bool} {ks : List D} {k : D} {ds : List α} {d : α} (h : ks.length = ds.length) : (putKs t ks k).length = (putDs t ks k ds d).length := by
  unfold putKs putDs
  split <;> simp [h]
theorem dHO_put {t : Bool} {ks : List D} {us : List V} {k : D} {v : V} (hl : ks.length = us.length) (hk : keysOk t ks = true) :
    dHO t (putKs t ks k) (putDs t ks k us v) = if t then .dT (putK ((ks.map tkey).zip us) (tkey k) v) else .dK (putK ((ks.map skey).zip us) (skey k) v) := by
  unfold keysOk at hk
  simp only [Bool.and_eq_true] at hk
  cases t with
  | true =>
    have h2 : (ks.map tkey).Nodup := by simpa using hk.2
    have e := putK_zip tkey k v ks us hl h2
    have ei : kIdx true ks k = ks.findIdx? fun k' => decide (tkey k' = tkey k) := rfl
    unfold putKs putDs dHO
    rw [ei]
    simp only [if_true]
    rw [e]
    split <;> rfl
  | false =>
    have h2 : (ks.map skey).Nodup := by simpa using hk.2
    have e := putK_zip skey k v ks us hl h2
    have ei : kIdx false ks k = ks.findIdx? fun k' => decide (skey k' = skey k) := rfl
    unfold putKs putDs dHO
    rw [ei]
    simp only [Bool.false_eq_true, if_false]
    rw [e]
    split <;> rfl
theorem Lt.put {o : Ow} {t : Bool} {ks : List D} {k : D} {ds : List D} {d : D} (h : Lt o ds) : Lt (o.more d.own) (putDs t ks k ds d) := by
  unfold putDs
  split
  · exact h.set
  · exact h.app
theorem RepL.put {K : PySem.W.Frag} {w : Wd} {t : Bool} {ks : List D} {k : D} {ds : List D} {d : D} {ℓ : Loc} {us : List V} {v : V} (h : RepL K w ds ℓ 0 us) (g : ∀ j, (kIdx t ks k = some j ∨ kIdx t ks k = none ∧ j = ds.length) → Rep K w d (ℓ ++ [j]) v) :
    RepL K w (putDs t ks k ds d) ℓ 0 (putDs t ks k us v) := by
  unfold putDs
  cases e : kIdx t ks k with
  | some j => exact h.set (by rw [Nat.zero_add]; exact g j (.inl e))
  | none => exact h.app (RepL.one (by rw [Nat.zero_add]; exact g _ (.inr ⟨e, rfl⟩)))
theorem DPut.of {K : PySem.W.Frag} {w : Wd} (wf : Wf w) {a : Addr} {t : Bool} {ks : List D} {us : List V} {k : D} {ℓ : Loc} {y v : V} (h : w.H a = some (dHO t ks us)) (hl : ks.length = us.length) (hks : keysOk t ks = true) (hk : keyOk t k = true) (hz : ks.length < sizeLine) (ry : Rep K w k ℓ y) :
    DPut w.H a y v (upd w.H a (dHO t (putKs t ks k) (putDs t ks k us v))) := by
  rw [dHO_put hl hks]
  cases t with
  | true =>
    obtain ⟨b, rfl, hb⟩ := rep_tkey wf ry hk
    exact DPut.t h hb (by rw [List.length_zip, List.length_map, ← hl]; omega)
  | false =>
    rw [rep_skey ry hk]
    exact DPut.k h (by rw [List.length_zip, List.length_map, ← hl]; omega)
end FL
namespace FL
open PySem PySem.Spec PyProof.Rows L2
open PySem.W (EachIs AllAlike dataLe)
end FL
namespace FL
open PySem PySem.Spec PyProof.Rows L2
end FL
namespace FL
open PySem PySem.Spec PyProof.Rows L2
def slotO (ρ : En) (a : Nat) : Option D := match ρ[a]? with
  | some o => o
  | none => none
def readA (ρ : En) : List Nat → En
  | [] => []
  | a :: A => slotO ρ a :: readA ρ A
def putA (ρ : En) : List Nat → En → En
  | a :: A, s :: S => (putA ρ A S).set a s
  | _, _ => ρ
/-- slots A hold s, slots J anything -/
def putJ (ρ : En) (A J : List Nat) (s j : En) : En := putA (putA ρ J j) A s
theorem readA_len (ρ : En) : ∀ A : List Nat, (readA ρ A).length = A.length
  | [] => rfl
  | a :: A => by simp [readA, readA_len ρ A]
theorem len0 {α : Type} {l : List α} (h : l.length = 0) : l = [] := List.length_eq_zero_iff.mp h
theorem len1 {α : Type} {l : List α} (h : l.length = 1) : ∃ a, l = [a] := by match l, h with | [a], _ => exact ⟨a, rfl⟩
theorem len2 {α : Type} {l : List α} (h : l.length = 2) : ∃ a b, l = [a, b] := by match l, h with | [a, b], _ => exact ⟨a, b, rfl⟩
theorem len3 {α : Type} {l : List α} (h : l.length = 3) : ∃ a b c, l = [a, b, c] := by match l, h with | [a, b, c], _ => exact ⟨a, b, c, rfl⟩
theorem len4 {α : Type} {l : List α} (h : l.length = 4) : ∃ a b c d, l = [a, b, c, d] := by match l, h with | [a, b, c, d], _ => exact ⟨a, b, c, d, rfl⟩
theorem len5 {α : Type} {l : List α} (h : l.length = 5) : ∃ a b c d e, l = [a, b, c, d, e] := by match l, h with | [a, b, c, d, e], _ => exact ⟨a, b, c, d, e, rfl⟩
theorem len6 {α : Type} {l : List α} (h : l.length = 6) : ∃ a b c d e f, l = [a, b, c, d, e, f] := by match l, h with | [a, b, c, d, e, f], _ => exact ⟨a, b, c, d, e, f, rfl⟩
theorem len8 {α : Type} {l : List α} (h : l.length = 8) : ∃ a b c d e f g i, l = [a, b, c, d, e, f, g, i] := by match l, h with | [a, b, c, d, e, f, g, i], _ => exact ⟨a, b, c, d, e, f, g, i, rfl⟩
theorem forR_on {body : D → RS} {E : EE} {F : Fin} (A J : List Nat) (I : Nat → En → Prop) (ds : List D) (ρ0 : En) (h0 : I 0 (readA ρ0 A))
    (step : ∀ i d s j, ds[i]? = some d → j.length = J.length → I i s → nf (putJ ρ0 A J s j) fun ρ => body d ρ E (F.lp fun ρ' => ρ' = putJ ρ0 A J (readA ρ' A) (readA ρ' J) ∧ I (i + 1) (readA ρ' A)))
    (fin : ∀ s j, j.length = J.length → I ds.length s → nf (putJ ρ0 A J s j) F.nx) (e0 : ρ0 = putJ ρ0 A J (readA ρ0 A) (readA ρ0 J) := by rfl) : forR body ds ρ0 E F := by
  refine forR_inv (fun k ρ' => ρ' = putJ ρ0 A J (readA ρ' A) (readA ρ' J) ∧ I k (readA ρ' A)) ds 0 ρ0 ⟨e0, h0⟩ (fun i d ρ hd h => ?_) fun ρ h => ?_
  · rw [Nat.zero_add] at h ⊢
    have := nf_of (step i d _ _ hd (readA_len ρ J) h.2)
    rw [← h.1] at this
    exact this
  · rw [Nat.zero_add] at h
    have := nf_of (fin _ _ (readA_len ρ J) h.2)
    rw [← h.1] at this
    exact this
theorem cut_on {r : RS} {ρ0 : En} {E : EE} {F : Fin} (A J : List Nat) (I : En → Prop) (h : r ρ0 E (F.wn fun ρ' => ρ' = putJ ρ0 A J (readA ρ' A) (readA ρ' J) ∧ I (readA ρ' A))) (fin : ∀ s j, j.length = J.length → I s → nf (putJ ρ0 A J s j) F.nx) : CutG r ρ0 E F :=
  ⟨⟨_, h, fun ρ' h => by
    have := nf_of (fin _ _ (readA_len ρ' J) h.2)
    rw [← h.1] at this
    exact this⟩⟩
/-- the box of a law's draws -/
structure Bx where
  a : Int
  m : Int
  c : Int
  h : 0 ≤ a
def bxD (b : Bx) : D := .lst .flat [.int b.a, .int b.m, .int b.c]
/-- a comprehension each of whose parts is drawn from the box of slot j -/
theorem compR_drawK {α : Type} {f : D → En → (Option D → En → Prop) → Prop} {vs : List Nat} {Q : Ow → List D → En → Prop} (j : Nat) (enc : α → D) (P : Nat → α → Prop) (ρ0 : En) (ho : ∀ x, (enc x).own = false) : ∀ (ds : List D) (k : Nat) (acc : List D) (b0 : Bx) (ρ : En), ρ = putA ρ0 [j] [some (bxD b0)] →
    (∀ i d (b : Bx), ds[i]? = some d → nf (putA ρ0 [j] [some (bxD b)]) fun ρ => f d ρ fun o ρ' => ∃ (x : α) (b' : Bx), o = some (enc x) ∧ P (k + i) x ∧ wipeD ρ' vs = putA ρ0 [j] [some (bxD b')]) →
    (∀ (xs : List α) (b : Bx), xs.length = ds.length → (∀ i x, xs[i]? = some x → P (k + i) x) → nf (putA ρ0 [j] [some (bxD b)]) (Q .flat (acc ++ xs.map enc))) → compR f vs ds ρ .flat acc Q
  | [], k, acc, b0, ρ, e, _, q => by
    have := nf_of (q [] b0 rfl (fun i x h => by simp at h))
    rw [← e] at this
    simpa [compR] using this
  | d :: ds, k, acc, b0, ρ, e, hs, q => by
    have h1 := nf_of (hs 0 d b0 rfl)
    rw [← e] at h1
    refine ⟨_, h1, fun o ρ' ⟨x, b', eo, hp, ew⟩ => ?_⟩
    subst eo
    have : kindR .flat (some (enc x)) = .flat := by simp only [kindR, ho x]
    rw [this]
    refine compR_drawK j enc P ρ0 ho ds (k + 1) _ b' _ ew (fun i d' b hd => ?_) fun xs b hl hx => ?_
    · have := hs (i + 1) d' b (by simpa using hd)
      rw [show k + (i + 1) = k + 1 + i by omega] at this
      exact this
    · have := q (x :: xs) b (by simp [hl]) fun i y hy => by
        cases i with
        | zero => cases hy; exact hp
        | succ i => have := hx i y (by simpa using hy); rwa [show k + 1 + i = k + (i + 1) by omega] at this
      simpa [List.append_assoc] using this
theorem compR_draw {α : Type} {f : D → En → (Option D → En → Prop) → Prop} {vs : List Nat} {Q : Ow → List D → En → Prop} (j : Nat) (enc : α → D) (P : Nat → α → Prop) (ds : List D) (ρ0 : En) (b0 : Bx) (ho : ∀ x, (enc x).own = false)
    (step : ∀ i d (b : Bx), ds[i]? = some d → nf (putA ρ0 [j] [some (bxD b)]) fun ρ => f d ρ fun o ρ' => ∃ (x : α) (b' : Bx), o = some (enc x) ∧ P i x ∧ wipeD ρ' vs = putA ρ0 [j] [some (bxD b')])
    (fin : ∀ (xs : List α) (b : Bx), xs.length = ds.length → (∀ i x, xs[i]? = some x → P i x) → nf (putA ρ0 [j] [some (bxD b)]) (Q .flat (xs.map enc))) (e0 : ρ0 = putA ρ0 [j] [some (bxD b0)] := by rfl) : compR f vs ds ρ0 .flat [] Q :=
  compR_drawK j enc P ρ0 ho ds 0 [] b0 ρ0 e0 (fun i d b h => by rw [Nat.zero_add]; exact step i d b h) fun xs b hl hx => fin xs b hl fun i x h => by have := hx i x h; rwa [Nat.zero_add] at this
end FL
namespace FL
open PySem PySem.Spec PyProof.Rows L2
def setN {α : Type} (l : List α) : List Nat → List α → List α
  | [], _ => l
  | _ :: _, [] => l
  | i :: is, v :: vs => setN (l.set i v) is vs
theorem setN_len {α : Type} : ∀ (is : List Nat) (l vs : List α), (setN l is vs).length = l.length
  | [], l, vs => by simp [setN]
  | i :: is, l, [] => by simp [setN]
  | i :: is, l, v :: vs => by simp only [setN]; rw [setN_len is, List.length_set]
theorem setN_out {α : Type} : ∀ (is : List Nat) (l vs : List α) (k : Nat), k ∉ is → (setN l is vs)[k]? = l[k]?
  | [], l, vs, k, _ => by simp [setN]
  | i :: is, l, [], k, _ => by simp [setN]
  | i :: is, l, v :: vs, k, h => by
    simp only [setN]
    rw [setN_out is _ vs k fun z => h (List.mem_cons_of_mem _ z), List.getElem?_set_ne fun z => h (by rw [z]; exact List.mem_cons_self)]
theorem setN_in {α : Type} : ∀ (is : List Nat) (l vs : List α) (j i : Nat) (v : α), is.Nodup → is[j]? = some i → vs[j]? = some v → i < l.length → (setN l is vs)[i]? = some v
  | [], l, vs, j, i, v, _, h, _, _ => by simp at h
  | a :: is, l, [], j, i, v, _, _, h, _ => by simp at h
  | a :: is, l, u :: vs, 0, i, v, hn, h, hv, hl => by
    cases h; cases hv
    simp only [setN]
    rw [setN_out is _ vs a (List.nodup_cons.mp hn).1, List.getElem?_set_self hl]
  | a :: is, l, u :: vs, j + 1, i, v, hn, h, hv, hl => by
    simp only [setN]
    exact setN_in is _ vs j i v (List.nodup_cons.mp hn).2 (by simpa using h) (by simpa using hv) (by rw [List.length_set]; exact hl)
/-- temporaries n + 1, n + 2, .. go to the slots is -/
def tempN (n : Nat) (is : List Nat) : Loc → Option Loc
  | h :: s => if h - 1 ∈ is ∧ 0 < h then none else match is[h - (n + 1)]? with
    | some i => if n < h then some ((i + 1) :: s) else some (h :: s)
    | none => some (h :: s)
  | [] => some []
theorem storeN {K : PySem.W.Frag} {M : List Nat} {w : Wd} {σ : Sl} {ρ : En} {is : List Nat} {ds : List D} {vs : List V} (st : StE K w σ ρ) (hn : is.Nodup) (hl : ds.length = is.length) (hv : vs.length = is.length) (hr : ∀ i ∈ is, i < ρ.length) (hM : ∀ i ∈ is, M.contains i = false)
    (r : ∀ j d v, ds[j]? = some d → vs[j]? = some v → Rep K w d [ρ.length + 1 + j] v) : EndS K M w σ ρ (w.ren (tempN ρ.length is)) (setN σ is (vs.map some)) (setN ρ is (ds.map some)) := by
  refine ⟨setN_len _ _ _, ⟨st.wf.ren _, by rw [setN_len, setN_len]; exact st.len, fun i d e => ?_⟩, ⟨Same.refl _, fun a ℓ e ⟨h, s, e2, k⟩ => ?_⟩, fun j hj => ?_⟩
  · by_cases hi : i ∈ is
    · obtain ⟨j, hj, rfl⟩ := List.mem_iff_getElem.mp hi
      have hjd : j < ds.length := by omega
      have hjv : j < vs.length := by omega
      rw [setN_in is ρ (ds.map some) j is[j] (some ds[j]) hn (List.getElem?_eq_getElem hj) (by rw [List.getElem?_map, List.getElem?_eq_getElem hjd]; rfl) (hr _ hi)] at e
      cases e
      refine ⟨vs[j], setN_in is σ _ j _ _ hn (List.getElem?_eq_getElem hj) (by rw [List.getElem?_map, List.getElem?_eq_getElem hjv]; rfl) (by rw [st.len]; exact hr _ hi), ?_⟩
      refine (r j _ _ (List.getElem?_eq_getElem hjd) (List.getElem?_eq_getElem hjv)).ren fun s => ?_
      show (if _ then _ else _) = _
      rw [if_neg fun z => by have := hr _ z.1; omega, show ρ.length + 1 + j - (ρ.length + 1) = j by omega, List.getElem?_eq_getElem hj]
      exact if_pos (by omega)
    · rw [setN_out _ _ _ _ hi] at e ⊢
      obtain ⟨v', e1, r'⟩ := st.rep i d e
      have hl := (List.getElem?_eq_some_iff.mp e).1
      refine ⟨v', e1, r'.ren fun s => ?_⟩
      show (if _ then _ else _) = _
      rw [if_neg fun z => hi (by simpa using z.1)]
      split
      · rw [if_neg (by omega)]; rfl
      · rfl
  · subst e2
    refine ⟨ren_at e ?_, rfl⟩
    show (if _ then _ else _) = _
    rw [if_neg fun z => by have := hr _ z.1; omega]
    split
    · rw [if_neg (by omega)]
    · rfl
  · exact setN_out _ _ _ _ fun z => by
      have := hM j z
      rw [List.contains_iff_mem.mpr hj] at this; cases this
/-- the temporaries of P (counted from n + 1) frozen -/
def frzN : List Bool → List D → List D
  | b :: bs, d :: ds => (match b with | true => d | false => d.frz) :: frzN bs ds
  | _, _ => []
theorem frzN_get : ∀ (bs : List Bool) (ds : List D) (j : Nat) (d' : D), (frzN bs ds)[j]? = some d' → ∃ b d, bs[j]? = some b ∧ ds[j]? = some d ∧ d' = (match b with | true => d | false => d.frz)
  | [], ds, j, d', h => by simp [frzN] at h
  | b :: bs, [], j, d', h => by simp [frzN] at h
  | b :: bs, d :: ds, 0, d', h => by simp only [frzN] at h; cases h; exact ⟨b, d, rfl, rfl, rfl⟩
  | b :: bs, d :: ds, j + 1, d', h => by
    simp only [frzN, List.getElem?_cons_succ] at h
    obtain ⟨b', d2, h1, h2, h3⟩ := frzN_get bs ds j d' h
    exact ⟨b', d2, by simpa using h1, by simpa using h2, h3⟩
theorem frzN_len : ∀ (bs : List Bool) (ds : List D), bs.length = ds.length → (frzN bs ds).length = ds.length
  | [], [], _ => rfl
  | b :: bs, d :: ds, h => by simp only [frzN, List.length_cons]; rw [frzN_len bs ds (by simpa using h)]
  | [], _ :: _, h => by cases h
  | _ :: _, [], h => by cases h
def iceN (n : Nat) (bs : List Bool) : Loc → Bool := fun ℓ => match ℓ with
  | h :: _ => decide (n < h) && (bs[h - (n + 1)]? == some false)
  | [] => false
theorem ice_N {K : PySem.W.Frag} {w : Wd} {σ : Sl} {ρ : En} {bs : List Bool} {ds : List D} {vs : List V} (st : StE K w σ ρ) (r : ∀ j d v, ds[j]? = some d → vs[j]? = some v → Rep K w d [ρ.length + 1 + j] v) :
    EndE K (ρ.length + 1) w σ ρ ρ (w.ice (iceN ρ.length bs)) ∧ ∀ j d v, (frzN bs ds)[j]? = some d → vs[j]? = some v → Rep K (w.ice (iceN ρ.length bs)) d [ρ.length + 1 + j] v := by
  refine ⟨⟨rfl, st.to st.wf.ice (ice_same st.wf) fun i hi => ice_kept fun s => ?_, ⟨ice_same st.wf, fun a ℓ e ⟨h, s, e2, k⟩ => ?_⟩⟩, fun j d' v h1 h2 => ?_⟩
  · show (decide (ρ.length < i + 1) && _) = false
    rw [decide_eq_false (by omega)]; rfl
  · subst e2
    have := ice_kept (w := w) (ℓ := h :: s) (P := iceN ρ.length bs) (fun t => by
      show (decide (ρ.length < h) && _) = false
      rw [decide_eq_false (by omega)]; rfl) a [] (by simpa using e)
    simpa using this
  · obtain ⟨b, d, g1, g2, rfl⟩ := frzN_get bs ds j d' h1
    have rd := r j d v g2 h2
    have hj : ρ.length + 1 + j - (ρ.length + 1) = j := by omega
    cases b with
    | false =>
      refine Rep.frz (w := w) (ice_same st.wf) d (ice_frz fun s => ?_) rd
      show (decide (ρ.length < ρ.length + 1 + j) && (bs[ρ.length + 1 + j - (ρ.length + 1)]? == some false)) = true
      rw [hj, g1, decide_eq_true (by omega)]; rfl
    | true =>
      refine Rep.to (w := w) (ice_same st.wf) d (ice_kept fun s => ?_) rd
      show (decide (ρ.length < ρ.length + 1 + j) && (bs[ρ.length + 1 + j - (ρ.length + 1)]? == some false)) = false
      rw [hj, g1]
      simp
/-- a, b = x, y; a, b, c = x, y, z: each frozen, or (true) owned -/
def rParN (is : List Nat) (bs : List Bool) (ra : RA) : RS := fun ρ E F => ra ρ E fun ads ρ' => onVals ads fun ds => match is.all fun i => (ρ'[i]?).isSome with
  | true => nf (setN ρ' is ((frzN bs ds).map some)) F.nx
  | false => False
theorem all_lt {ρ : En} {is : List Nat} (h : (is.all fun i => (ρ[i]?).isSome) = true) : ∀ i ∈ is, i < ρ.length := fun i hi => by
  have := List.all_eq_true.mp h i hi
  cases e : ρ[i]? with
  | none => rw [e] at this; cases this
  | some d => exact (List.getElem?_eq_some_iff.mp e).1
section
variable {X : Cx} {W : WX} {M : List Nat} {pos px py pz pt pt2 : Pos}
theorem parN_end {σ : Sl} {w1 : Wd} {ρ1 : En} {is : List Nat} {bs : List Bool} {ds : List D} {vs : List V} (st : StE X.K w1 σ ρ1) (hn : is.Nodup) (hd : ds.length = is.length) (hb : bs.length = is.length) (hv : vs.length = is.length) (hr : ∀ i ∈ is, i < ρ1.length) (hM : ∀ i ∈ is, M.contains i = false)
    (r : ∀ j d v, ds[j]? = some d → vs[j]? = some v → Rep X.K w1 d [ρ1.length + 1 + j] v) : ∃ w2, w2.H = w1.H ∧ EndS X.K M w1 σ ρ1 w2 (setN σ is (vs.map some)) (setN ρ1 is ((frzN bs ds).map some)) := by
  obtain ⟨e2, r2⟩ := ice_N (bs := bs) st r
  exact ⟨(w1.ice (iceN ρ1.length bs)).ren (tempN ρ1.length is), rfl, (e2.s (Nat.lt_succ_self _)).trans (storeN e2.st hn (by rw [frzN_len _ _ (by omega)]; exact hd) hv hr hM r2)⟩
theorem fs_par2 (i j : Nat) (bs : List Bool) {x y : Str} {a b : Expr} {ra : RA} {kt k2 : Nat} (ha : FA X W [a, b] ra) (hN : X.N.Nodup) (hb : bs.length = 2 := by rfl) (hi : X.N[i]? = some x := by rfl) (hj : X.N[j]? = some y := by rfl) (hij : i ≠ j := by decide)
    (hx : X.env.scope.names.lookup x = some .local := by rfl) (hy : X.env.scope.names.lookup y = some .local := by rfl) (hMi : ([i, j].all fun i => !M.contains i) = true := by rfl) (hc : X.calm = true := by rfl)
    (hw : swappedStores [.Tuple [.Name x px, .Name y py] kt pt] (.Tuple [a, b] k2 pt2) X.env = pure (some [x, y]) := by rfl)
    (hs : swapsWithSole [.Tuple [.Name x px, .Name y py] kt pt] (.Tuple [a, b] k2 pt2) pos.line X.env = pure false := by rfl) : FS X W M (.Assign [.Tuple [.Name x px, .Name y py] kt pt] (.Tuple [a, b] k2 pt2) pos) (rParN [i, j] bs ra) := by
  obtain ⟨t, p, s⟩ := ha.ex
  refine ⟨_, ps_par hc hN hi hj hij hx hy p hw hs, fun w σ ρ E F D st h hf => ?_⟩
  refine s _ w σ ρ E _ _ (Nat.lt_succ_self _) st h (fun ads ρ1 w1 vs h1 l1 e1 r1 => ?_) hf.sx
  obtain ⟨ds, ev, q⟩ := onVals_elim h1
  obtain ⟨l2, l3, g⟩ := vals_at r1 ev
  have hr : ([i, j].all fun i => (ρ1[i]?).isSome) = true := by
    cases e : [i, j].all fun i => (ρ1[i]?).isSome with
    | true => rfl
    | false => rw [e] at q; exact q.elim
  rw [hr] at q
  have k1 : ds.length = 2 := by rw [l3, l1]; rfl
  match ds, vs, k1, l2, q, l3, g with
  | [d, e], [v, u], k1, l2, q, l3, g =>
    refine ⟨v, u, rfl, ?_⟩
    obtain ⟨w2, e0, e2⟩ := parN_end (M := M) (X := X) (bs := bs) (is := [i, j]) e1.st (by simp [hij]) rfl hb rfl (all_lt hr) (fun k hk => by
        have := List.all_eq_true.mp hMi k hk
        simpa using this) (fun k d v h1 h2 => by have := g k d v h1 h2; rwa [e1.len])
    rw [← e0]
    exact hf.nx _ w2 _ (nf_of q) ((e1.s (Nat.lt_succ_self _)).trans e2)
end
end FL
namespace FL
open PySem PySem.Spec PyProof.Rows L2
structure Sm (d : D) (n : Nat) : Prop where
  dat : d.dat = true
  dep : d.dep ≤ n
def SmL (ds : List D) (n : Nat) : Prop := ∀ d ∈ ds, Sm d n
theorem SmL.nil {n : Nat} : SmL [] n := fun d h => (nomatch h)
theorem SmL.cons {d : D} {ds : List D} {n : Nat} (h : Sm d n) (k : SmL ds n) : SmL (d :: ds) n := fun e he => by
  rcases List.mem_cons.mp he with rfl | he
  · exact h
  · exact k e he
theorem SmL.app {ds es : List D} {n : Nat} (h : SmL ds n) (k : SmL es n) : SmL (ds ++ es) n := fun e he => by
  rcases List.mem_append.mp he with he | he
  · exact h e he
  · exact k e he
theorem SmL.map {α : Type} {f : α → D} {xs : List α} {n : Nat} (h : ∀ x ∈ xs, Sm (f x) n) : SmL (xs.map f) n := fun d hd => by
  obtain ⟨x, hx, rfl⟩ := List.mem_map.mp hd
  exact h x hx
theorem SmL.dat {ds : List D} {n : Nat} (h : SmL ds n) : datL ds = true := datL_all.mpr fun d hd => (h d hd).dat
theorem SmL.dep {ds : List D} {n : Nat} (h : SmL ds n) : depL ds ≤ n := depL_le fun d hd => (h d hd).dep
theorem Sm.mono {d : D} {n m : Nat} (h : Sm d n) (k : n ≤ m) : Sm d m := ⟨h.dat, Nat.le_trans h.dep k⟩
theorem SmL.mono {ds : List D} {n m : Nat} (h : SmL ds n) (k : n ≤ m) : SmL ds m := fun d hd => (h d hd).mono k
theorem Sm.int {i : Int} {n : Nat} : Sm (.int i) n := ⟨rfl, Nat.zero_le _⟩
theorem Sm.bl {i : Bool} {n : Nat} : Sm (.bl i) n := ⟨rfl, Nat.zero_le _⟩
theorem Sm.non {n : Nat} : Sm .non n := ⟨rfl, Nat.zero_le _⟩
theorem Sm.str {i : Str} {n : Nat} : Sm (.str i) n := ⟨rfl, Nat.zero_le _⟩
theorem Sm.lst {o : Ow} {ds : List D} {n : Nat} (h : SmL ds n) : Sm (.lst o ds) (n + 1) := ⟨h.dat, Nat.succ_le_succ h.dep⟩
theorem Sm.tup {o : Bool} {ds : List D} {n : Nat} (h : SmL ds n) : Sm (.tup o ds) (n + 1) := ⟨h.dat, Nat.succ_le_succ h.dep⟩
theorem Sm.ro {o : Bool} {ds : List D} {n : Nat} (h : SmL ds n) : Sm (.ro o ds) (n + 1) := ⟨h.dat, Nat.succ_le_succ h.dep⟩
theorem enD_map {α : Type} (f : α → D) : ∀ (k : Nat) (xs : List α), enD k (xs.map f) = (xs.zipIdx k).map fun p => .tup false [.int (p.2 : Nat), f p.1]
  | _, [] => by simp [enD]
  | k, x :: xs => by simp [enD, enD_map f (k + 1) xs]
/-- each part by itself -/
theorem compR_allE {α : Type} {f : D → En → (Option D → En → Prop) → Prop} {vs : List Nat} {Q : Ow → List D → En → Prop} {ds : List D} {ρ : En} (xs : List α) (g h : α → D) (e : ds = xs.map g)
    (k : ∀ x ∈ xs, f (g x) ρ fun o ρ' => o = some (h x) ∧ wipeD ρ' vs = ρ) (ho : ∀ x, (h x).own = false) (q : Q .flat (xs.map h) ρ) : compR f vs ds ρ .flat [] Q := by
  subst e
  exact compR_all g h xs ρ k ho q
/-- those parts that p takes -/
theorem compR_if {α : Type} {f : D → En → (Option D → En → Prop) → Prop} {vs : List Nat} {Q : Ow → List D → En → Prop} {ds : List D} {ρ : En} (xs : List α) (g : α → D) (p : α → Bool) (h : α → D) (e : ds = xs.map g)
    (k : ∀ x ∈ xs, f (g x) ρ fun o ρ' => (o = if p x then some (h x) else none) ∧ wipeD ρ' vs = ρ) (ho : ∀ x, (h x).own = false) (q : Q .flat ((xs.filter p).map h) ρ) : compR f vs ds ρ .flat [] Q := by
  subst e
  refine compR_map g (fun x => if p x then some (h x) else none) xs [] ρ k (fun x _ y e => by split at e <;> cases e; exact ho x) ?_
  have : xs.filterMap (fun x => if p x then some (h x) else none) = (xs.filter p).map h := by
    clear k q
    induction xs with
    | nil => rfl
    | cons x xs ih => rw [List.filterMap_cons, List.filter_cons]; cases p x <;> simp [ih]
  rw [List.nil_append, this]
  exact q
/-- an int, or nothing yet -/
def isI (o : Option D) : Prop := o = none ∨ ∃ i : Int, o = some (.int i)
theorem isI.i {i : Int} : isI (some (.int i)) := .inr ⟨i, rfl⟩
end FL
namespace PySem
open PySem PySem.Spec PyProof.Rows RT
end PySem
namespace FL
open PySem PySem.Spec PyProof.Rows L2 RT
end FL
namespace FL
open PySem PySem.Spec PyProof.Rows L2 RT
section
variable {X : Cx} {W : WX} {M : List Nat} {a b c : Expr} {ra rb rc : RO} {pos : Pos}
/-- a op b op' c -/
def rChain (d1 d2 : DO) (ra rb rc : RO) : RE := fun ρ E Q => ra ρ E fun x ρ1 => rb ρ1 E fun y ρ2 => on1 ρ2 x fun dx => on1 ρ2 y fun dy => d1 dx dy fun d => match d with
  | .bl b => (b = true → rc ρ2 E fun z ρ3 => on1 ρ3 y fun dy' => on1 ρ3 z fun dz => d2 dy' dz fun d' => Q d' ρ3) ∧ (b = false → Q (.bl false) ρ2)
  | _ => False
theorem so_chain {K : PySem.W.Frag} {r r' : R2} {d1 d2 : DO} {ta tb tc : TE} (sa : SOp K W ta ra) (sb : SOp K W tb rb) (sc : SOp K W tc rc) (so : SOK K r d1) (so' : SOK K r' d2) : SE K W (tChain r r' ta tb tc) (rChain d1 d2 ra rb rc) := by
  intro τ w σ ρ E Q Qv hn st hr hq hx
  refine sa τ w σ ρ E _ _ hn st hr (fun x ρ1 w1 v1 h1 e1 r1 => ?_) hx
  have hn1 : ρ1.length < τ + 1 := by rw [e1.len]; omega
  refine sb (τ + 1) w1 σ ρ1 E _ _ hn1 e1.st h1 (fun y ρ2 w2 v2 h2 e2 r2 => ?_) (hx.then e1 (Nat.le_succ _))
  obtain ⟨dx, ex, h2⟩ := on1_elim h2
  obtain ⟨dy, ey, h2⟩ := on1_elim h2
  have e12 := e1.trans e2 (Nat.le_succ _)
  obtain ⟨ℓ, rx⟩ := ad_get e12.st (r1.later (by rw [e1.len]; exact hn) e2) ex
  obtain ⟨ℓ', ry⟩ := ad_get e12.st r2 ey
  refine so (τ + 2) w2 σ ρ2 v1 v2 dx dy ℓ ℓ' _ _ (by rw [e12.len]; omega) e12.st rx ry h2 fun d w3 v3 q e3 r3 => ?_
  have e13 : EndE K τ w σ ρ ρ2 w3 := e12.trans e3 (by omega)
  cases d with
  | bl b =>
    simp only [Rep] at r3
    refine ⟨b, r3, ?_⟩
    cases b with
    | false =>
      rw [if_neg Bool.false_ne_true]
      exact hq _ _ _ _ (q.2 rfl) e13 rfl
    | true =>
      rw [if_pos rfl]
      refine sc (τ + 2) w3 σ ρ2 E _ _ (by rw [e12.len]; omega) e3.st (q.1 rfl) (fun z ρ3 w4 v4 h4 e4 r4 => ?_) (hx.then e13 (by omega))
      obtain ⟨dy', ey', h4⟩ := on1_elim h4
      obtain ⟨dz, ez, h4⟩ := on1_elim h4
      have r2' : AdAt K w4 σ y (τ + 1) v2 := (r2.later (by rw [e12.len]; omega) e3).later (by rw [e12.len]; omega) e4
      obtain ⟨ℓ2, ry2⟩ := ad_get e4.st r2' ey'
      obtain ⟨ℓ3, rz⟩ := ad_get e4.st r4 ez
      have e14 := e13.trans e4 (by omega)
      exact so' τ w4 σ ρ3 v2 v4 dy' dz ℓ2 ℓ3 _ _ (by rw [e14.len]; exact hn) e14.st ry2 rz h4 fun d5 w5 v5 q5 e5 r5 => hq d5 ρ3 w5 v5 q5 (e14.trans e5 (Nat.le_refl _)) r5
  | _ => exact q.elim
theorem fe_chain {op op' : CmpOp} {d1 d2 : DO} (ho : FOp X (compareOp op) d1) (ho' : FOp X (compareOp op') d2) (ha : FO X W a ra) (hb : FO X W b rb) (hc : FO X W c rc) (hm : lastMarks [op, op'] [b, c] = false := by with_unfolding_all rfl) : FE X W (.Compare a [op, op'] [b, c] pos) (rChain d1 d2 ra rb rc) := by
  obtain ⟨r, h1, h2⟩ := ho.ex
  obtain ⟨r', h1', h2'⟩ := ho'.ex
  obtain ⟨ta, pa, sa⟩ := ha.ex
  obtain ⟨tb, pb, sb⟩ := hb.ex
  obtain ⟨tc, pc, sc⟩ := hc.ex
  exact ⟨_, pe_chain h1 h1' pa pb pc hm, so_chain sa sb sc h2 h2'⟩
theorem ft_chain {op op' : CmpOp} {d1 d2 : DO} (ho : FOp X (compareOp op) d1) (ho' : FOp X (compareOp op') d2) (ha : FO X W a ra) (hb : FO X W b rb) (hc : FO X W c rc) (hm : lastMarks [op, op'] [b, c] = false := by with_unfolding_all rfl) : FT X W (.Compare a [op, op'] [b, c] pos) (rTst (rChain d1 d2 ra rb rc)) := by
  obtain ⟨r, h1, h2⟩ := ho.ex
  obtain ⟨r', h1', h2'⟩ := ho'.ex
  obtain ⟨ta, pa, sa⟩ := ha.ex
  obtain ⟨tb, pb, sb⟩ := hb.ex
  obtain ⟨tc, pc, sc⟩ := hc.ex
  exact ⟨_, pt_chain h1 h1' pa pb pc hm, st_tst (so_chain sa sb sc h2 h2')⟩
end
end FL
namespace FL
open PySem PySem.Spec PyProof.Rows L2 RT
section
variable {K : PySem.W.Frag} {w w' : Wd}
theorem AtV.to {d e : D} {ℓ : Loc} {v u : V} {p : List Nat} (hs : Same w.S w'.S) (h : AtV K w d ℓ v p e u) : ∀ {ℓ' : Loc}, KeptTo w w' ℓ ℓ' → AtV K w' d ℓ' v p e u := by
  induction h with
  | here => exact fun _ => .here
  | down h1 h2 h3 h4 h5 _ ih =>
    intro ℓ' k
    refine .down h1 (h2.later hs fun z => by simpa using k _ [] (by simpa using z)) h3 h4 h5 (ih (k.sub _))
end
end FL
namespace FL
open PySem PySem.Spec PyProof.Rows L2 RT
end FL
namespace FL
open PySem PySem.Spec PyProof.Rows L2 RT
def pickL {α : Type} (xs : List α) (lo hi st : Option Int) : List α :=
  (sliceRange (sliceBounds lo hi st xs.length).1 (sliceBounds lo hi st xs.length).2.1 (sliceBounds lo hi st xs.length).2.2).filterMap (xs[·]?)
def tSlSt (K : PySem.W.Frag) (te : TE) (tl th ts : TO) : TE := fun σ H Q => te σ H fun x H1 => tl σ H1 fun lo H2 => th σ H2 fun hi H3 => ts σ H3 fun st H4 => ∃ a xs, x = .ref a ∧ SqL K H4 a xs ∧ st ≠ some 0 ∧ ∀ p, H4 p = none → Q (.ref p) (upd H4 p (.lst (pickL xs lo hi st)))
theorem vals_pick {xs : List V} {its : List Value} (r : Vals xs its) (lo hi st : Option Int) : Vals (pickL xs lo hi st) (slicePick its.toArray lo hi st).toList := by
  unfold pickL slicePick
  have hl : its.toArray.size = xs.length := by rw [List.size_toArray, r.length]
  rw [hl]
  generalize sliceRange _ _ _ = ks
  simp only [List.getElem?_toArray]
  induction ks with
  | nil => exact .nil
  | cons k ks ih =>
    rw [List.filterMap_cons, List.filterMap_cons]
    cases e : xs[k]? with
    | none =>
      have : its[k]? = none := by rw [List.getElem?_eq_none_iff] at e ⊢; rw [← r.length]; exact e
      rw [this]; exact ih
    | some x =>
      obtain ⟨u, eu, ru⟩ := r.get e
      rw [eu]
      exact .cons ru ih
section
variable {X : Cx}
theorem pe_slStep {e : Expr} {te : TE} {lo hi st : Option Expr} {tl th ts : TO} {p3 pos : Pos} (he : PE X e te) (hl : PO X lo tl) (hh : PO X hi th) (hs : PO X st ts) (hv : ∀ a b, subscripted (.Slice lo hi st p3) false a b = operate [a, b] (getItem a b) := by intro _ _; with_unfolding_all rfl) : PE X (.Subscript e (.Slice lo hi st p3) pos) (tSlSt X.K te tl th ts) := by
  refine ⟨fun pins s σ H Q I h => ?_⟩
  refine Subscript_ (thn (he.run pins s σ H _ I h) fun v s1 ⟨x, H1, I1, r1, q1⟩ => ?_)
  refine wpAny_Slice (thn (hl.run pins s1 σ H1 _ I1 q1) fun vl s2 ⟨l, H2, I2, pl, q2⟩ => ?_)
  refine thn (hh.run pins s2 σ H2 _ I2 q2) fun vu s3 ⟨u, H3, I3, pu, q3⟩ => ?_
  refine thn (hs.run pins s3 σ H3 _ I3 q3) fun vs s4 ⟨o, H4, I4, ps, q4⟩ => ?_
  obtain ⟨a, xs, ex, hx, h0, q⟩ := q4
  subst ex
  cases r1
  have I5 : Inv X pins σ H4 { s4 with heap := s4.heap.push { cls := .type "slice", data := .fields #[vl, vu, vs] } } := I4.kept (t' := s4.toks) fun b ob q => Heap.get?_push_of_some _ q
  obtain ⟨its, r, ht, hz⟩ := I5.list hx
  have hlen := r.length
  show wpAny (model X.prog X.w) X.A (subscriptTail e (.Slice lo hi st p3) (.ref a) (.ref s4.heap.objs.size)) (EP X pins σ Q) X.xe { s4 with heap := s4.heap.push { cls := .type "slice", data := .fields #[vl, vu, vs] } }
  refine tail_any (ops := [.ref a, .ref s4.heap.objs.size]) ht.isList.typeIs (PySem.slot_list_getitem.lookup) ?_ (hv _ _)
  refine wpAny_getItem_list_slice ht.isList (Heap.IsSliceOf.new _ vl vu vs) pl pu ps h0 ?_ (by rw [List.size_toArray]; omega)
  refine ⟨.ref _, _, I5.laid (t' := s4.toks) (o := .lst (pickL xs l u o)) (fun b ob q => Heap.get?_push_of_some _ q) (Nat.le_refl _) ?_, rfl, q _ (I5.hok.fresh (Nat.le_refl _))⟩
  refine ⟨?_, _, 0, vals_pick r l u o, ?_⟩
  · have := slicePick_size_le its.toArray l u o
    have e := (vals_pick r l u o).length
    have e2 : (slicePick its.toArray l u o).toList.length = (slicePick its.toArray l u o).size := Array.length_toList
    have hs : its.toArray.size = its.length := by simp
    omega
  · rw [Array.toArray_toList]
    exact Heap.get?_push_size _ rfl
end
theorem pickL_le {α : Type} (xs : List α) (lo hi st : Option Int) (f : α → Value) : (pickL xs lo hi st).length ≤ xs.length := by
  have := slicePick_size_le (xs.map f).toArray lo hi st
  unfold slicePick at this
  unfold pickL
  simp only [List.size_toArray, List.length_map, List.getElem?_toArray] at this
  have e : ∀ ks : List Nat, (ks.filterMap fun k => (xs.map f)[k]?).length = (ks.filterMap (xs[·]?)).length := fun ks => by
    induction ks with
    | nil => rfl
    | cons k ks ih =>
      rw [List.filterMap_cons, List.filterMap_cons, List.getElem?_map]
      cases xs[k]? with
      | none => exact ih
      | some x => exact congrArg Nat.succ ih
  rw [e] at this
  exact this
/-- x[lo:hi:st], x a list -/
def rSlSt (ra : RO) (rl rh rs : RP) : RE := fun ρ E Q => ra ρ E fun x ρ1 => rl ρ1 E fun lo ρ2 => rh ρ2 E fun hi ρ3 => rs ρ3 E fun st ρ4 => on1 ρ4 x fun dx => match lstOf dx with
  | some ds => st ≠ some 0 ∧ Q (.lst .flat (pickL ds lo hi st)) ρ4
  | none => False
theorem pickL_own {ds : List D} (h : ownL ds = false) (lo hi st : Option Int) : ownL (pickL ds lo hi st) = false := ownL_iff.mpr fun d hd => by
  obtain ⟨k, _, e⟩ := List.mem_filterMap.mp hd
  exact ownL_iff.mp h d (List.mem_of_getElem? e)
theorem RepL.pick {K : PySem.W.Frag} {w : Wd} {ds : List D} {vs : List V} (ho : ownL ds = false) (h : ∀ ℓ j, RepL K w ds ℓ j vs) (lo hi st : Option Int) : ∀ ℓ j, RepL K w (pickL ds lo hi st) ℓ j (pickL vs lo hi st) := by
  have hl := (h [] 0).length
  unfold pickL
  rw [hl]
  generalize sliceRange _ _ _ = ks
  induction ks with
  | nil => intro ℓ j; simp [RepL]
  | cons k ks ih =>
    intro ℓ j
    rw [List.filterMap_cons, List.filterMap_cons]
    cases e : ds[k]? with
    | none =>
      have : vs[k]? = none := by rw [List.getElem?_eq_none_iff] at e ⊢; omega
      rw [this]; exact ih ℓ j
    | some d =>
      obtain ⟨v, ev, rv⟩ := (h [] 0).get e
      rw [ev]
      simp only [RepL]
      exact ⟨v, _, rfl, rv.free (Same.refl _) d (ownL_iff.mp ho d (List.mem_of_getElem? e)), ih ℓ (j + 1)⟩
theorem pickL_map {α β : Type} (f : α → β) (xs : List α) (lo hi st : Option Int) : pickL (xs.map f) lo hi st = (pickL xs lo hi st).map f := by
  unfold pickL
  rw [List.length_map, List.map_filterMap]
  congr 1
  funext k
  rw [List.getElem?_map]
theorem cut_mid {α : Type} {xs : List α} {a b : Nat} (h : b ≤ xs.length) (hab : a ≤ b) : cutL xs (some (a : Int)) (some (b : Int)) = (xs.drop a).take (b - a) := by
  unfold cutL
  rw [HT.sIx_nat, HT.sIx_nat, Nat.min_eq_left h, Nat.min_eq_left (by omega)]
theorem cut_to {α : Type} {xs : List α} {b : Nat} (h : b ≤ xs.length) : cutL xs none (some (b : Int)) = xs.take b := by
  unfold cutL
  rw [HT.sIx_nat, HT.sIx_none, Nat.min_eq_left h, List.drop_zero, Nat.sub_zero]
theorem cut_from {α : Type} {xs : List α} {a : Nat} (h : a ≤ xs.length) : cutL xs (some (a : Int)) none = xs.drop a := by
  unfold cutL
  rw [HT.sIx_nat, HT.sIx_none, Nat.min_eq_left h, List.take_of_length_le (by rw [List.length_drop]; omega)]
section
variable {X : Cx} {W : WX}
theorem fe_slSt {a : Expr} {lo hi st : Option Expr} {ra : RO} {rl rh rs : RP} {p2 pos : Pos} (ha : FO X W a ra) (hl : FP X W lo rl) (hh : FP X W hi rh) (hs : FP X W st rs) (hv : ∀ a b, subscripted (.Slice lo hi st p2) false a b = operate [a, b] (getItem a b) := by intro _ _; with_unfolding_all rfl) : FE X W (.Subscript a (.Slice lo hi st p2) pos) (rSlSt ra rl rh rs) := by
  obtain ⟨ta, pa, ka⟩ := ha.ex
  obtain ⟨tl, pl, kl⟩ := hl.ex
  obtain ⟨th, ph, kh⟩ := hh.ex
  obtain ⟨ts, ps, ks⟩ := hs.ex
  refine ⟨_, pe_slStep pa pl ph ps hv, fun τ w σ ρ E Q Qv hn st' h hq hx => ?_⟩
  refine ka τ w σ ρ E _ _ hn st' h (fun x ρ1 w1 v h1 e1 r1 => ?_) hx
  refine kl (τ + 1) w1 σ ρ1 E _ _ (by rw [e1.len]; omega) e1.st h1 (fun o ρ2 w2 h2 e2 => ?_) (hx.then e1 (Nat.le_succ _))
  have e12 := e1.trans e2 (Nat.le_succ _)
  refine kh (τ + 1) w2 σ ρ2 E _ _ (by rw [e12.len]; omega) e2.st h2 (fun o' ρ3 w3 h3 e3 => ?_) (hx.then e12 (Nat.le_succ _))
  have e13 := e12.trans e3 (Nat.le_succ _)
  refine ks (τ + 1) w3 σ ρ3 E _ _ (by rw [e13.len]; omega) e3.st h3 (fun o3 ρ4 w4 h4 e4 => ?_) (hx.then e13 (Nat.le_succ _))
  have e14 := e13.trans e4 (Nat.le_succ _)
  have r4 : AdAt X.K w4 σ x τ v := ((r1.later (by rw [e1.len]; exact hn) e2).later (by rw [e12.len]; exact hn) e3).later (by rw [e13.len]; exact hn) e4
  obtain ⟨dx, ex, q⟩ := on1_elim h4
  obtain ⟨ℓ, r⟩ := ad_get e4.st r4 ex
  cases el : lstOf dx with
  | some ds =>
    simp only [el] at q
    obtain ⟨q0, q⟩ := q
    obtain ⟨b, vs, rfl, h5, hz, ho, h6⟩ := lst_seq e4.st.wf el r
    refine ⟨b, vs, rfl, h5, q0, fun p n => ?_⟩
    obtain ⟨e5, r5⟩ := EndE.own (τ := τ) .flat e4.st n (RepL.pick ho h6 o o' o3 [τ] 0) (Nat.le_trans (pickL_le ds _ _ _ fun _ => .none) hz) (fun _ => pickL_own ho _ _ _) rfl
    exact hq _ ρ4 _ _ q (e14.trans e5 (Nat.le_refl _)) r5
  | none => simp only [el] at q
end
end FL
namespace FL
open PySem PySem.Spec PyProof.Rows L2 RT
structure MkOk (K : PySem.W.Frag) (w : Wd) (t : Bool) (ks : List D) (ds : List D) (ℓ : Loc) (us : List V) : Prop where
  l : ks.length = us.length
  k : keysOk t ks = true
  r : RepL K w ds ℓ 0 us
  o : ownL ds = false
theorem MkOk.put {K : PySem.W.Frag} {w : Wd} {t : Bool} {ks ds : List D} {ℓ : Loc} {us : List V} (h : MkOk K w t ks ds ℓ us) {k d : D} {v : V} (hk : keyOk t k = true) (ho : d.own = false) (r : ∀ ℓ, Rep K w d ℓ v) : MkOk K w t (putKs t ks k) (putDs t ks k ds d) ℓ (putDs t ks k us v) :=
  ⟨putDs_len h.l, putKs_ok h.k hk, RepL.put h.r fun _ _ => r _, by
    have := h.o
    unfold putDs
    split
    · rw [ownL_iff] at this ⊢
      intro e he
      rcases List.mem_or_eq_of_mem_set he with he | rfl
      · exact this e he
      · exact ho
    · rw [ownL_append, this]; simp [ownL, ho]⟩
end FL
namespace FL
open PySem PySem.Spec PyProof.Rows L2 RT
/-- two worlds that differ in a dict's lock -/
structure Sw (w w' : Wd) (a : Addr) (u : HO) : Prop where
  du : ∃ t ks vs, u = dHO t ks vs
  G : w'.G = w.G
  S : ∀ b, b ≠ a → w'.S b = w.S b
  H : ∀ b, b ≠ a → w'.H b = w.H b
  r : Rd w.S a u
  r' : Rd w'.S a u
  e : w'.H a = w'.S a
def plainHO : HO → Bool
  | .tup _ => true
  | .lst _ => true
  | .ins _ _ _ => true
  | .frz _ (.tup _) => true
  | .frz _ (.lst _) => true
  | _ => false
section
variable {K : PySem.W.Frag} {w w' : Wd} {a : Addr} {u : HO}
theorem Sw.ne (h : Sw w w' a u) {b : Addr} {o : HO} (e : w.S b = some o) (ho : plainHO o = true) : b ≠ a := fun z => by
  subst z
  obtain ⟨t, ks, vs, rfl⟩ := h.du
  rcases h.r with r | ⟨x, r⟩
  · rw [e] at r
    cases r
    cases t <;> cases ho
  · rw [e] at r
    cases r
    cases t <;> cases ho
theorem Sw.neG (h : Sw w w' a u) (wf : Wf w) {b : Addr} {ℓ : Loc} (e : w.G b = some ℓ) : b ≠ a := fun z => by
  subst z
  have := (wf.tg _ _ e).1
  rcases h.r with r | ⟨x, r⟩ <;> rw [this] at r <;> cases r
theorem Sw.wf (h : Sw w w' a u) (wf : Wf w) : Wf w' := ⟨fun b o e => by
    by_cases hb : b = a
    · subst hb; rw [h.e]; exact e
    · rw [h.S b hb] at e; rw [h.H b hb]; exact wf.sh b o e, fun b ℓ e => by
    rw [h.G] at e
    have hb := h.neG wf e
    rw [h.S b hb, h.H b hb]; exact wf.tg b ℓ e⟩
end
end FL
namespace FL
open PySem PySem.Spec PyProof.Rows L2 RT
/-- a frozen tuple and a tuple at the next temporary, added -/
def rCatT (ra rb : RE) : RE := fun ρ E Q => ra ρ E fun dx ρ1 => rb ρ1 E fun dy ρ2 => match dx with
  | .tup false xs => match dy with
    | .tup o ys => xs.length + ys.length ≤ sizeLine ∧ ys.isEmpty = false ∧ Q (.tup o (xs ++ ys)) ρ2
    | _ => False
  | _ => False
/-- the parts of τ + 1 become τ's, from n on -/
def catT (τ n : Nat) : Loc → Option Loc
  | h :: j :: s => if h = τ + 1 then some (τ :: (n + j) :: s) else some (h :: j :: s)
  | [h] => some [h]
  | [] => some []
theorem catT_calm {m τ n : Nat} (h : m < τ) : Calm m τ (catT τ n) := ⟨fun a s q => by
  cases s with
  | nil => rfl
  | cons j s =>
    show (if _ then _ else _) = _
    rw [if_neg (by omega)]⟩
theorem reps_catT {K : PySem.W.Frag} {w : Wd} {ds : List D} {τ n : Nat} {vs : List V} (h : RepL K w ds [τ + 1] 0 vs) : RepL K (w.ren (catT τ n)) ds [τ] n vs := by
  refine RepL.of h.length fun i d v e1 e2 => ?_
  obtain ⟨v', e3, r⟩ := h.get e1
  rw [e2] at e3; cases e3
  rw [Nat.zero_add] at r
  refine r.ren fun s => ?_
  show (if _ then _ else _) = _
  rw [if_pos rfl]; rfl
section
variable {X : Cx} {W : WX} {a b : Expr} {ra rb : RE} {pos : Pos}
theorem fe_catT (ha : FE X W a ra) (hb : FE X W b rb) : FE X W (.BinOp a .Add b pos) (rCatT ra rb) := by
  obtain ⟨ta, pa, sa⟩ := ha.ex
  obtain ⟨tb, pb, sb⟩ := hb.ex
  refine ⟨_, pe_op op_catA pa pb, fun τ w σ ρ E Q Qv hn st hr hq hx => ?_⟩
  refine sa τ w σ ρ E _ _ hn st hr (fun dx ρ1 w1 v1 h1 e1 r1 => ?_) hx
  have hn1 : ρ1.length < τ + 1 := by rw [e1.len]; omega
  refine sb (τ + 1) w1 σ ρ1 E _ _ hn1 e1.st h1 (fun dy ρ2 w2 v2 h2 e2 r2 => ?_) (hx.then e1 (Nat.le_succ _))
  have e12 := e1.trans e2 (Nat.le_succ _)
  split at h2
  · rename_i xs
    split at h2
    · rename_i o ys
      obtain ⟨hz, hy, q⟩ := h2
      have ox := (tup_sz r1).2 rfl
      have r1 : Rep X.K w2 (.tup false xs) [τ] v1 := r1.free e2.ext.s _ rfl
      obtain ⟨a, vs, rfl, h1, hl⟩ := tup_at e12.st.wf r1
      have sz2 := tup_sz r2
      obtain ⟨b, us, rfl, k1, kl⟩ := tup_at e12.st.wf r2
      have l1 := hl.length
      have l2 := kl.length
      have er := EndE.ren (τ := τ) e12.st (catT_calm (n := xs.length) (by rw [e12.len]; exact hn))
      have rl : RepL X.K (w2.ren (catT τ xs.length)) (xs ++ ys) [τ] 0 (vs ++ us) := (RepL.free (w := w2) (w' := w2.ren (catT τ xs.length)) (ℓ := [τ]) (j := 0) (Same.refl _) xs ox hl).app (by rw [Nat.zero_add]; exact reps_catT kl)
      have hy' : us ≠ [] := fun z => by
        subst z
        cases ys with
        | nil => cases hy
        | cons _ _ => cases l2
      refine ⟨a, b, vs, us, rfl, rfl, SqT.of h1, SqT.of k1, by omega, fun z => ?_, fun _ z => absurd z hy', fun _ _ p n => ?_⟩
      · -- the first is empty: the second itself
        subst z
        have hx0 : xs = [] := List.length_eq_zero_iff.mp (by rw [← l1]; rfl)
        subst hx0
        have r3 : Rep X.K (w2.ren (catT τ 0)) (.tup o ys) [τ] (.ref b) := by
          simp only [Rep] at r2 ⊢
          obtain ⟨b', us', eb, g1, g2, g3⟩ := r2
          cases eb
          have : us' = us := by
            have := e12.st.wf.sh _ _ g1
            rw [k1] at this; cases this; rfl
          subst this
          exact ⟨b, us', rfl, g1, g2, reps_catT g3⟩
        exact hq (.tup o ys) ρ2 (w2.ren (catT τ 0)) _ q (e12.trans er (Nat.le_refl _)) r3
      · obtain ⟨e3, r3⟩ := EndE.tup (τ := τ) o er.st (p := p) n rl (by rw [List.length_append]; exact hz) (fun z => by
          subst z
          rw [ownL_iff]
          intro d hd
          rcases List.mem_append.mp hd with h | h
          · exact ownL_iff.mp ox d h
          · exact ownL_iff.mp (sz2.2 rfl) d h)
        exact hq _ ρ2 _ _ q ((e12.trans er (Nat.le_refl _)).trans e3 (Nat.le_refl _)) r3
    · exact h2.elim
  · exact h2.elim
end
end FL
namespace FL
open PySem PySem.Spec PyProof.Rows L2 RT
end FL
namespace Cm
open PySem PySem.Spec PyProof.Rows L2 FL
def rb_law_cell_at : RS := (rSeq (rIf (rTst (rBin dLt (oV (rVar 1)) (oV (rCB dLen (rAC (oV (rVar 0)) rA0))))) (rRet (rBin dIx (oV (rVar 0)) (oV (rVar 1)))) rNx)
  (rRet (rC (.int 0))))
abbrev RD_law_cell_at (r : FSpec) : Prop := ∀ ds ED QD, ds.length = 2 → r ds ED QD → rb_law_cell_at (startD ["_law_script", "_law_k"] ds) (fun c fs ρ => ED c fs (ρ.take 2)) (finD 2 QD)
def rb_law_mixed : RS := (rSeq (rSetF 2 (rIc (fun i => i % 2147483647) (oV (rIc (fun i => i * 48271) (oV (rIc (fun i => i + 1) (oV (rBin dAdd (oV (rIc (fun i => i % 1000000007) (oV (rVar 0)))) (oV (rIc (fun i => 7 * i) (oV (rVar 1))))))))))))
  (rSeq (rSetF 3 (rIc (fun i => i % 998244353) (oV (rBin dMulX (oV (rVar 2)) (oV (rIc (fun i => i + 3) (oV (rBin dAdd (oV (rIc (fun i => i % 1009) (oV (rVar 2)))) (oV (rVar 1))))))))))
  (rRet (rIc (fun i => i / 64) (oV (rIc (fun i => i % 2147483629) (oV (rBin dAdd (oV (rIc (fun i => i * 39373) (oV (rVar 3)))) (oV (rVar 2))))))))))
abbrev RD_law_mixed (r : FSpec) : Prop := ∀ ds ED QD, ds.length = 2 → r ds ED QD → rb_law_mixed (startD ["_law_number", "_law_k", "_law_once", "_law_twice"] ds) (fun c fs ρ => ED c fs (ρ.take 2)) (finD 2 QD)
def rb_law_box (r_law_cell_at : FSpec) (r_law_mixed : FSpec) : RS := (rSeq (rSetF 2 (rCall [] r_law_cell_at (rAC (oV (rVar 0)) (rAC (oV (rVar 1)) rA0))))
  (rRet (rLst (rAC (oV (rBin dMulX (oV (rCB dAbs (rAC (oV (rVar 2)) rA0))) (oV (rCB dInt (rAC (oV (rBin dGe (oV (rCB dAbs (rAC (oV (rVar 2)) rA0))) (oV (rC (.int (10 ^ 18)))))) rA0))))) (rAC (oV (rCall [] r_law_mixed (rAC (oV (rVar 2)) (rAC (oV (rIc (fun i => 900 + i) (oV (rVar 1)))) rA0)))) (rAC (oV (rC (.int 0))) rA0))))))
abbrev RD_law_box (r : FSpec) (r_law_cell_at : FSpec) (r_law_mixed : FSpec) : Prop := ∀ ds ED QD, ds.length = 2 → r ds ED QD → (rb_law_box r_law_cell_at r_law_mixed) (startD ["_law_script", "_law_k", "_law_cell"] ds) (fun c fs ρ => ED c fs (ρ.take 2)) (finD 2 QD)
def rb_law_take (r_law_mixed : FSpec) : RS := (rSeq (rIf (rTst (rBin dGt (oV (rBin dIx (oN 0) (oV (rC (.int 0))))) (oV (rC (.int 0))))) (rSeq (rSetF 2 (rBin dMod (oV (rBin dIx (oN 0) (oV (rC (.int 0))))) (oV (rVar 1))))
  (rSeq (rSetL 0 (oV (rC (.int 0))) (rBin dFdiv (oV (rBin dIx (oN 0) (oV (rC (.int 0))))) (oV (rVar 1))))
  (rRet (rVar 2)))) rNx)
  (rSeq (rAsg (gTp 2 (gCs (gNm 2) (gCs (gNm 3) gNl))) (rTup (rAC (oV (rC (.int 0))) (rAC (oV (rC (.int 1))) rA0))))
  (rSeq (rWhile (rTst (rBin dLt (oV (rVar 3)) (oV (rVar 1)))) (rSeq (rSetL 0 (oV (rC (.int 2))) (rIc (fun i => i + 1) (oV (rBin dIx (oN 0) (oV (rC (.int 2)))))))
  (rSeq (rSetF 2 (rBin dAdd (oV (rIc (fun i => i * 33554432) (oV (rVar 2)))) (oV (rCall [] r_law_mixed (rAC (oV (rBin dIx (oN 0) (oV (rC (.int 1))))) (rAC (oV (rBin dIx (oN 0) (oV (rC (.int 2))))) rA0))))))
  (rSetF 3 (rIc (fun i => i * 33554432) (oV (rVar 3)))))))
  (rRet (rBin dMod (oV (rVar 2)) (oV (rVar 1)))))))
abbrev RD_law_take (r : FSpec) (r_law_mixed : FSpec) : Prop := ∀ ds ED QD, ds.length = 2 → r ds ED QD → (rb_law_take r_law_mixed) (startD ["_law_box_here", "_law_many", "_law_found", "_law_reach"] ds) (fun c fs ρ => ED c fs (ρ.take 2)) (finD 2 QD)
def rb_law_number (r_law_take : FSpec) : RS := (rSeq (rSetF 1 (rCall [0] r_law_take (rAC (oN 0) (rAC (oV (rC (.int 9))) rA0))))
  (rSeq (rIf (rTst (rBin dEq (oV (rVar 1)) (oV (rC (.int 0))))) (rRet (rIc (fun i => i - 1000) (oV (rCall [0] r_law_take (rAC (oN 0) (rAC (oV (rC (.int 2001))) rA0)))))) rNx)
  (rRet (rBin dIx (oV (rLst (rAC (oV (rC (.int 0))) (rAC (oV (rC (.int 0))) (rAC (oV (rC (.int 0))) (rAC (oV (rC (.int 1))) (rAC (oV (rC (.int 1))) (rAC (oV (rC (.int 1))) (rAC (oV (rC (.int (-1)))) (rAC (oV (rC (.int (-1)))) (rAC (oV (rC (.int 2))) rA0))))))))))) (oV (rVar 1))))))
abbrev RD_law_number (r : FSpec) (r_law_take : FSpec) : Prop := ∀ ds ED QD, ds.length = 1 → r ds ED QD → (rb_law_number r_law_take) (startD ["_law_box_here", "_law_way"] ds) (fun c fs ρ => ED c fs (ρ.take 1)) (finD 1 QD)
def rb_law_part (r_law_number : FSpec) : RS := (rRet (rCB dTuple (rAC (oV (rComp (rRg1 (rAC (oV (rVar 1)) rA0)) (gNm 2) rYes (rCall [0] r_law_number (rAC (oN 0) rA0)) [2])) rA0)))
abbrev RD_law_part (r : FSpec) (r_law_number : FSpec) : Prop := ∀ ds ED QD, ds.length = 2 → r ds ED QD → (rb_law_part r_law_number) (startD ["_law_box_here", "_law_length", "_law_k"] ds) (fun c fs ρ => ED c fs (ρ.take 2)) (finD 2 QD)
def rb_law_scheme (r_law_take : FSpec) (r_law_part : FSpec) : RS := (rSeq (rSet 3 (rLst rA0))
  (rSeq (rFor (rRg1 (rAC (oV (rVar 2)) rA0)) (gNm 4) (rSeq (rSet 5 (rComp (rItA (rVar 1)) (gNm 8) rYes (rCall [0] r_law_part (rAC (oN 0) (rAC (oV (rVar 8)) rA0))) [8]))
  (rSeq (rSetF 6 (rCall [0] r_law_take (rAC (oN 0) (rAC (oV (rC (.int 8))) rA0))))
  (rSeq (rCut (rIf (rAnd (rTst (rBin dLt (oV (rVar 6)) (oV (rC (.int 3))))) (rTst (rBin dNe (oN 3) (oV (rLst rA0))))) (rSetL 5 (oV (rVar 6)) (rBin dIx (oV (rBin dIx (oN 3) (oV (rCall [0] r_law_take (rAC (oN 0) (rAC (oV (rCB dLen (rAC (oN 3) rA0))) rA0)))))) (oV (rVar 6)))) rNx))
  (rSeq (rCut (rIf (rTst (rBin dEq (oV (rVar 6)) (oV (rC (.int 3))))) (rSeq (rSetF 7 (rCall [0] r_law_take (rAC (oN 0) (rAC (oV (rC (.int 3))) rA0))))
  (rSetL 5 (oV (rVar 7)) (rBin dMulX (oV (rTup (rAC (oV (rC (.int 0))) rA0))) (oV (rBin dIx (oV (rVar 1)) (oV (rVar 7))))))) rNx))
  (rDrop (rApp 3 (rCB dTuple (rAC (oN 5) rA0)))))))))
  (rRet (rBin dAdd (oV (rCB dTuple (rAC (oV (rVar 1)) rA0))) (oV (rFrz (rTup (rAC (oV (rIce 3)) rA0))))))))
abbrev RD_law_scheme (r : FSpec) (r_law_take : FSpec) (r_law_part : FSpec) : Prop := ∀ ds ED QD, ds.length = 3 → r ds ED QD → (rb_law_scheme r_law_take r_law_part) (startD ["_law_box_here", "_law_lengths", "_law_count", "_law_products", "_law_k", "_law_product", "_law_way", "_law_side", "_law_length"] ds) (fun c fs ρ => ED c fs (ρ.take 3)) (finD 3 QD)
end Cm
namespace Cm
open PySem PySem.Spec PyProof.Rows L2 FL
theorem fdOk {b : Int} (h0 : 0 < b) (h : b < 2 ^ 64) : 0 < b ∧ b.natAbs.log2 < 9000 := ⟨h0, (wide_div (i := 0) h0 (b := 64) (by omega) (by decide) (by decide)).2⟩
theorem mulL {a b : Int} (h0 : -(2 ^ 64) < a) (h : a < 2 ^ 64) : MulOk a b := .inl (.inl ⟨h0, h⟩)
theorem mulR {a b : Int} (h0 : -(2 ^ 64) < b) (h : b < 2 ^ 64) : MulOk a b := .inl (.inr ⟨h0, h⟩)
def inBd (lo hi : Int) : List D → Prop
  | [] => True
  | .int v :: r => (lo ≤ v ∧ v ≤ hi) ∧ inBd lo hi r
  | _ => False
theorem inBd_mem {lo hi : Int} : ∀ {ds : List D}, inBd lo hi ds → ∀ {i : Nat} {d : D}, ds[i]? = some d → ∃ v, d = .int v ∧ lo ≤ v ∧ v ≤ hi
  | [], _, i, d, e => by simp at e
  | .int v :: r, h, 0, d, e => by cases e; exact ⟨v, rfl, h.1⟩
  | .int v :: r, h, i + 1, d, e => inBd_mem h.2 (i := i) (by simpa using e)
theorem pick_int {ds : List D} {k : Int} {Q : D → Prop} (lo hi : Int) (h0 : 0 ≤ k) (h1 : k < ds.length) (all : inBd lo hi ds) (q : ∀ v, lo ≤ v → v ≤ hi → Q (.int v)) : pick (atI ds k) Q := by
  obtain ⟨j, rfl⟩ : ∃ j : Nat, k = (j : Int) := ⟨k.toNat, by omega⟩
  have hj : j < ds.length := by omega
  obtain ⟨v, e, b1, b2⟩ := inBd_mem all (List.getElem?_eq_getElem hj)
  exact pick_of (atI_nat (by rw [List.getElem?_eq_getElem hj, e])) rfl (q v b1 b2)
theorem rgD_at {lo hi : Int} {i : Nat} {x : D} (h : (rgD lo hi)[i]? = some x) : x = .int (lo + i) ∧ lo + i < hi := by
  unfold rgD at h
  rw [List.getElem?_map] at h
  obtain ⟨j, e, rfl⟩ := Option.map_eq_some_iff.mp h
  obtain ⟨h1, e⟩ := List.getElem?_eq_some_iff.mp e
  rw [List.getElem_range] at e
  rw [List.length_range] at h1
  subst e
  exact ⟨rfl, by omega⟩
set_option maxHeartbeats 0
def r_law_mixed : FSpec := fun ds _ Q => ∃ a b : Int, ds = [.int a, .int b] ∧ ∀ r os, 0 ≤ r → r < 33554432 → Q (.int r) os
theorem rd_law_mixed : ∀ ds ED QD, ds.length = 2 → r_law_mixed ds ED QD → rb_law_mixed (startD ["_law_number", "_law_k", "_law_once", "_law_twice"] ds) (fun c fs ρ => ED c fs (ρ.take 2)) (finD 2 QD) := by
  rintro ds ED QD - ⟨a, b, rfl, q⟩
  refine ⟨mulL ?_ ?_, q _ _ ?_ ?_⟩
  all_goals ((try dsimp only); omega)
def r_law_cell_at : FSpec := fun ds _ Q => ∃ (ns : List Int) (k : Int), ds = [.ro false (ns.map D.int), .int k] ∧ 0 ≤ k ∧ ∀ r os, (r = 0 ∨ r ∈ ns) → Q (.int r) os
theorem atI_ints {ns : List Int} {k : Int} (h0 : 0 ≤ k) (h : k < ns.length) : ∃ n, n ∈ ns ∧ atI (ns.map D.int) k = some (.int n) := by
  obtain ⟨j, rfl⟩ : ∃ j : Nat, k = (j : Int) := ⟨k.toNat, by omega⟩
  have hj : j < ns.length := by omega
  exact ⟨ns[j], List.getElem_mem hj, atI_nat (by rw [List.getElem?_map, List.getElem?_eq_getElem hj]; rfl)⟩
theorem rd_law_cell_at : ∀ ds ED QD, ds.length = 2 → r_law_cell_at ds ED QD → rb_law_cell_at (startD ["_law_script", "_law_k"] ds) (fun c fs ρ => ED c fs (ρ.take 2)) (finD 2 QD) := by
  rintro ds ED QD - ⟨ns, k, rfl, h0, q⟩
  refine ⟨fun h => ?_, fun h => q _ _ (.inl rfl)⟩
  obtain ⟨n, hm, e⟩ := atI_ints (ns := ns) h0 (by simpa using h)
  exact pick_of e rfl (q _ _ (.inr hm))
def r_law_box : FSpec := fun ds _ Q => ∃ (ns : List Int) (k : Int), ds = [.ro false (ns.map D.int), .int k] ∧ 0 ≤ k ∧ ∀ (b : Bx) os, Q (bxD b) os
theorem rd_law_box : ∀ ds ED QD, ds.length = 2 → r_law_box ds ED QD → rb_law_box r_law_cell_at r_law_mixed (startD ["_law_script", "_law_k", "_law_cell"] ds) (fun c fs ρ => ED c fs (ρ.take 2)) (finD 2 QD) := by
  rintro ds ED QD - ⟨ns, k, rfl, h0, q⟩
  refine ⟨ns, k, rfl, h0, fun r os hr => ⟨mulR ?_ ?_, ?_⟩⟩
  · split <;> omega
  · split <;> omega
  · refine ⟨r, 900 + k, rfl, fun m os _ _ => q ⟨_, m, 0, ?_⟩ _⟩
    apply Int.mul_nonneg
    · split <;> omega
    · split <;> omega
/-- b draws a number below n -/
def r_law_take : FSpec := fun ds _ Q => ∃ (b : Bx) (n : Int), ds = [bxD b, .int n] ∧ (0 < n ∧ n < 2 ^ 64) ∧ ∀ r (b' : Bx) tl, 0 ≤ r → r < n → Q (.int r) (some (bxD b') :: tl)
theorem rd_law_take : ∀ ds ED QD, ds.length = 2 → r_law_take ds ED QD → rb_law_take r_law_mixed (startD ["_law_box_here", "_law_many", "_law_found", "_law_reach"] ds) (fun c fs ρ => ED c fs (ρ.take 2)) (finD 2 QD) := by
  rintro ds ED QD - ⟨⟨a, m, c, h0⟩, n, rfl, ⟨h1, h2⟩, q⟩
  refine ⟨fun h => ?_, fun h => ?_⟩
  · exact ⟨h1, fdOk h1 h2, q _ ⟨_, _, _, Int.ediv_nonneg h0 (by omega)⟩ _ (Int.emod_nonneg _ (by omega)) (Int.emod_lt_of_pos _ h1)⟩
  · refine ⟨rfl, fun k ρ => ∃ c f r : Int, ρ = [some (bxD ⟨a, m, c, h0⟩), some (.int n), some (.int f), some (.int r)] ∧ 0 < r ∧ k = (n - r).toNat, ⟨_, c, 0, 1, rfl, by omega, rfl⟩, ?_⟩
    rintro k ρ ⟨c, f, r, rfl, hr, rfl⟩
    refine ⟨fun h => ?_, fun h => ?_⟩
    · have h : r < n := by simpa using h
      exact ⟨_, _, rfl, fun x os _ _ => ⟨(n - r * 33554432).toNat, (by (try dsimp only); omega), c + 1, f * 33554432 + x, r * 33554432, rfl, (by (try dsimp only); omega), rfl⟩⟩
    · exact ⟨h1, q _ ⟨_, _, _, h0⟩ _ (Int.emod_nonneg _ (by omega)) (Int.emod_lt_of_pos _ h1)⟩
def InB (xs : List Int) : Prop := ∀ x ∈ xs, -1000 ≤ x ∧ x ≤ 1000
def r_law_number : FSpec := fun ds _ Q => ∃ b : Bx, ds = [bxD b] ∧ ∀ x (b' : Bx) tl, -1000 ≤ x → x ≤ 1000 → Q (.int x) (some (bxD b') :: tl)
theorem rd_law_number : RD_law_number r_law_number r_law_take := by
  rintro ds ED QD - ⟨b, rfl, q⟩
  refine ⟨b, 9, rfl, by decide, fun x b _ x1 x2 => ⟨fun h => ?_, fun h => ?_⟩⟩
  · exact ⟨b, 2001, rfl, by decide, fun y b _ y1 y2 => q _ _ _ (by (try dsimp only); omega) (by (try dsimp only); omega)⟩
  · exact pick_int (-1) 2 x1 (by simpa using x2) (by simp only [inBd, and_true]; omega) fun v v1 v2 => q _ _ _ (by omega) (by omega)
def rowD (xs : List Int) : D := .tup false (xs.map D.int)
theorem all_in {P : Int → Prop} {xs : List Int} (h : ∀ (i : Nat) x, xs[i]? = some x → P x) : ∀ x ∈ xs, P x := fun x hx => by
  obtain ⟨i, hi, e⟩ := List.mem_iff_getElem.mp hx
  exact h i x (by rw [List.getElem?_eq_getElem hi, e])
def r_law_part : FSpec := fun ds _ Q => ∃ (b : Bx) (n : Int), ds = [bxD b, .int n] ∧ (0 ≤ n ∧ n ≤ 1000) ∧ ∀ xs (b' : Bx) tl, xs.length = n.toNat → InB xs → Q (rowD xs) (some (bxD b') :: tl)
theorem rd_law_part : RD_law_part r_law_part r_law_number := by
  rintro ds ED QD - ⟨b, n, rfl, ⟨n0, n1⟩, q⟩
  refine ⟨⟨by decide, by omega, by omega⟩, ⟨compR_draw 0 D.int (fun _ x => -1000 ≤ x ∧ x ≤ 1000) _ _ b (fun _ => rfl) (fun i d b hd => ?_) fun xs b hl hx => ?_⟩⟩
  · exact ⟨fun _ => ⟨b, rfl, fun x b' tl x1 x2 => ⟨x, b', rfl, ⟨x1, x2⟩, rfl⟩⟩, fun h => (nomatch h)⟩
  · exact q xs b _ (by rw [hl, rgD_len]; omega) (all_in hx)
/-- a product: three parts -/
structure Pr where
  l : List Int
  r : List Int
  o : List Int
def prD (p : Pr) : D := .tup false [rowD p.l, rowD p.r, rowD p.o]
structure Pr.ok (p : Pr) (n m k : Int) : Prop where
  ll : p.l.length = n.toNat
  lr : p.r.length = m.toNat
  lo : p.o.length = k.toNat
  bl : InB p.l
  br : InB p.r
  bo : InB p.o
def schD (n m k : Int) (ps : List Pr) : D := .tup false [.int n, .int m, .int k, .lst .ice (ps.map prD)]
def lensD (n m k : Int) : D := .lst .ice [.int n, .int m, .int k]
theorem rep_ints (n : Nat) : (List.replicate n [D.int 0]).flatten = (List.replicate n (0 : Int)).map D.int := by
  induction n with
  | zero => rfl
  | succ n ih => rw [List.replicate_succ, List.flatten_cons, ih, List.replicate_succ, List.map_cons]; rfl
theorem InB.rep (n : Nat) : InB (List.replicate n 0) := fun x hx => by rw [(List.mem_replicate.mp hx).2]; omega
theorem three {x : Int} (h0 : 0 ≤ x) (h : x < 3) : x = 0 ∨ x = 1 ∨ x = 2 := by omega
def r_law_scheme : FSpec := fun ds _ Q => ∃ (b : Bx) (n1 n2 n3 cnt : Int), ds = [bxD b, lensD n1 n2 n3, .int cnt] ∧ (0 ≤ n1 ∧ n1 ≤ 1000) ∧ (0 ≤ n2 ∧ n2 ≤ 1000) ∧ (0 ≤ n3 ∧ n3 ≤ 1000) ∧ (0 ≤ cnt ∧ cnt ≤ 1000) ∧
  ∀ (ps : List Pr) (b' : Bx) tl, ps.length = cnt.toNat → (∀ p ∈ ps, p.ok n1 n2 n3) → Q (schD n1 n2 n3 ps) (some (bxD b') :: tl)
theorem all_snoc {α : Type} {P : α → Prop} {l : List α} {a : α} (h : ∀ x ∈ l, P x) (ha : P a) : ∀ x ∈ l ++ [a], P x := fun x hx => by
  rcases List.mem_append.mp hx with hx | hx
  · exact h x hx
  · rw [List.mem_singleton.mp hx]; exact ha
theorem pr_dat (p : Pr) : (prD p).dat = true := by
  simp only [prD, rowD, D.dat, datL, Bool.and_true]
  rw [datL_map fun _ _ => rfl, datL_map fun _ _ => rfl, datL_map fun _ _ => rfl]; rfl
theorem rd_law_scheme : RD_law_scheme r_law_scheme r_law_take r_law_part := by
  rintro ds ED QD - ⟨b, n1, n2, n3, cnt, rfl, hn1, hn2, hn3, ⟨c0, c1⟩, q⟩
  refine ⟨⟨by decide, by omega, by omega⟩, ?_⟩
  refine ⟨forR_on [0, 3] [4, 5, 6, 7, 8] (fun k s => ∃ (ps : List Pr) (b : Bx), s = [some (bxD b), some (.lst .flat (ps.map prD))] ∧ ps.length = k ∧ (∀ p ∈ ps, p.ok n1 n2 n3)) _ _ ⟨[], b, rfl, rfl, fun p h => (nomatch h)⟩ ?_ ?_⟩
  · rintro i x s j hx hj ⟨ps, b, rfl, hl', hps⟩
    obtain ⟨e4, e5, e6, e7, e8, rfl⟩ := len5 hj
    obtain ⟨rfl, hic⟩ := rgD_at hx
    -- the product's parts
    refine ⟨compR_draw 0 rowD (fun i (xs : List Int) => ([n1.toNat, n2.toNat, n3.toNat] : List Nat)[i]? = some xs.length ∧ InB xs) [.int n1, .int n2, .int n3] _ b (fun _ => rfl) (fun j d b hd => ?_) fun Ls b hl hx => ?_⟩
    · have key : ∃ n : Int, d = .int n ∧ 0 ≤ n ∧ n ≤ 1000 ∧ ([n1.toNat, n2.toNat, n3.toNat] : List Nat)[j]? = some n.toNat := by
        match j, hd with
        | 0, hd => cases hd; exact ⟨n1, rfl, hn1.1, hn1.2, rfl⟩
        | 1, hd => cases hd; exact ⟨n2, rfl, hn2.1, hn2.2, rfl⟩
        | 2, hd => cases hd; exact ⟨n3, rfl, hn3.1, hn3.2, rfl⟩
        | j + 3, hd => simp at hd
      obtain ⟨n, rfl, k0, k1, kj⟩ := key
      exact ⟨fun _ => ⟨b, n, rfl, ⟨k0, k1⟩, fun xs b' tl hx hbx => ⟨xs, b', rfl, ⟨by rw [hx]; exact kj, hbx⟩, rfl⟩⟩, fun h => (nomatch h)⟩
    · obtain ⟨l, r, o, rfl⟩ : ∃ l r o, Ls = [l, r, o] := by match Ls, hl with | [l, r, o], _ => exact ⟨l, r, o, rfl⟩
      obtain ⟨hl1, hl⟩ := hx 0 l rfl
      obtain ⟨hl2, hr⟩ := hx 1 r rfl
      obtain ⟨hl3, ho⟩ := hx 2 o rfl
      replace hl1 : l.length = n1.toNat := (by simpa using hl1.symm)
      replace hl2 : r.length = n2.toNat := (by simpa using hl2.symm)
      replace hl3 : o.length = n3.toNat := (by simpa using hl3.symm)
      refine ⟨b, 8, rfl, by decide, fun way b _ w0 w1 => ?_⟩
      have dps : datL (ps.map prD) = true := datL_map fun p _ => pr_dat p
      have ne : deq (D.lst .flat (ps.map prD)) (D.lst (Ow.of (ownL [])) []) = ps.isEmpty := by
        rw [deq_nilL]; cases ps <;> rfl
      refine cut_on [0, 5] [] (fun s => ∃ (p : Pr) (b : Bx), s = [some (bxD b), some (.lst .flat [rowD p.l, rowD p.r, rowD p.o])] ∧ p.ok n1 n2 n3) ?_ ?_
      · refine ⟨fun h => ⟨dps, rfl, by simp [D.dep, depL], fun h2 => ?_, fun h2 => ?_⟩, fun h => ⟨fun z => (nomatch z), fun _ => ⟨rfl, ⟨l, r, o⟩, b, rfl, ⟨hl1, hl2, hl3, hl, hr, ho⟩⟩⟩⟩
        · have hw : way < 3 := by simpa using h
          rw [ne] at h2
          have hne : ps ≠ [] := by rintro rfl; cases h2
          have hpos : 0 < ps.length := List.length_pos_iff.mpr hne
          refine ⟨_, (ps.length : Int), (by show [_, D.int ((ps.map prD).length : Nat)] = _; rw [List.length_map]), by omega, fun x b _ x0 x1 => ?_⟩
          obtain ⟨j, rfl⟩ : ∃ j : Nat, x = (j : Int) := ⟨x.toNat, by omega⟩
          have hj : j < ps.length := by omega
          refine pick_of (d := prD ps[j]) (atI_nat (by rw [List.getElem?_map, List.getElem?_eq_getElem hj]; rfl)) rfl ?_
          have ok := hps _ (List.getElem_mem hj)
          rcases three w0 hw with rfl | rfl | rfl
          · exact ⟨rfl, ⟨ps[j].l, r, o⟩, b, rfl, ⟨ok.ll, hl2, hl3, ok.bl, hr, ho⟩⟩
          · exact ⟨rfl, ⟨l, ps[j].r, o⟩, b, rfl, ⟨hl1, ok.lr, hl3, hl, ok.br, ho⟩⟩
          · exact ⟨rfl, ⟨l, r, ps[j].o⟩, b, rfl, ⟨hl1, hl2, ok.lo, hl, hr, ok.bo⟩⟩
        · exact ⟨rfl, ⟨l, r, o⟩, b, rfl, ⟨hl1, hl2, hl3, hl, hr, ho⟩⟩
      · rintro s j hj ⟨p, b, rfl, hp⟩
        obtain rfl := len0 hj
        refine cut_on [0, 5] [7] (fun s => ∃ (p : Pr) (b : Bx), s = [some (bxD b), some (.lst .flat [rowD p.l, rowD p.r, rowD p.o])] ∧ p.ok n1 n2 n3) ?_ ?_
        · refine ⟨fun h => ?_, fun h => ⟨rfl, p, b, rfl, hp⟩⟩
          refine ⟨b, 3, rfl, by decide, fun s b _ s0 s1 => ?_⟩
          rcases three s0 s1 with rfl | rfl | rfl
          · refine ⟨⟨by simp, by simp, by omega, by omega⟩, rfl, ⟨List.replicate n1.toNat 0, p.r, p.o⟩, b, ?_, ⟨by simp, hp.lr, hp.lo, .rep _, hp.br, hp.bo⟩⟩
            rw [rep_ints]; rfl
          · refine ⟨⟨by simp, by simp, by omega, by omega⟩, rfl, ⟨p.l, List.replicate n2.toNat 0, p.o⟩, b, ?_, ⟨hp.ll, by simp, hp.lo, hp.bl, .rep _, hp.bo⟩⟩
            rw [rep_ints]; rfl
          · refine ⟨⟨by simp, by simp, by omega, by omega⟩, rfl, ⟨p.l, p.r, List.replicate n3.toNat 0⟩, b, ?_, ⟨hp.ll, hp.lr, by simp, hp.bl, hp.br, .rep _⟩⟩
            rw [rep_ints]; rfl
        · rintro s j hj ⟨p, b, rfl, hp⟩
          obtain ⟨e7, rfl⟩ := len1 hj
          exact ⟨by rw [List.length_map, sizeLine_eq]; omega, rfl, ps ++ [p], b, (by rw [List.map_append]; rfl), by simp [hl'], all_snoc hps hp⟩
  · rintro s j hj ⟨ps, b, rfl, hl, hps⟩
    obtain ⟨e4, e5, e6, e7, e8, rfl⟩ := len5 hj
    exact ⟨by (show (3 : Nat) + 1 ≤ sizeLine); decide, q ps b _ (by rw [hl, rgD_len]; omega) hps⟩
end Cm
set_option maxHeartbeats 0
namespace Cm
open PySem PySem.Spec PyProof.Rows L2 FL
open PySem.W (EachIs AllAlike dataLe)
theorem row_dat (xs : List Int) : (rowD xs).dat = true := datL_map fun _ _ => rfl
theorem row_tkey (xs : List Int) : tkey (rowD xs) = xs.map Sum.inl := by
  show (xs.map D.int).map skey = _
  rw [List.map_map]; rfl
theorem inl_inj : ∀ {xs ys : List Int}, (xs.map (Sum.inl : Int → Key)) = ys.map Sum.inl → xs = ys
  | [], [], _ => rfl
  | [], _ :: _, h => by cases h
  | _ :: _, [], h => by cases h
  | x :: xs, y :: ys, h => by
    simp only [List.map_cons, List.cons.injEq, Sum.inl.injEq] at h
    rw [h.1, inl_inj h.2]
theorem row_keyEq (xs ys : List Int) : keyEq true (rowD xs) (rowD ys) = decide (xs = ys) := by
  unfold keyEq
  rw [row_tkey, row_tkey]
  by_cases h : xs = ys
  · rw [h]; simp
  · rw [decide_eq_false h]
    simp only [if_true]
    exact decide_eq_false fun z => h (inl_inj z)
theorem row_kIdx (P : List (List Int)) (q : List Int) : kIdx true (P.map rowD) (rowD q) = P.findIdx? fun p => decide (p = q) := by
  unfold kIdx
  rw [List.findIdx?_map]
  congr 1
  funext p
  exact row_keyEq p q
/-- one place more -/
def addP (P : List (List Int)) (q : List Int) : List (List Int) := if q ∈ P then P else P ++ [q]
theorem addP_nodup {P : List (List Int)} {q : List Int} (h : P.Nodup) : (addP P q).Nodup := by
  unfold addP
  split
  · exact h
  · rename_i hq
    rw [List.nodup_append]
    exact ⟨h, by simp, fun a ha b hb => by rw [List.mem_singleton.mp hb]; exact fun z => hq (z ▸ ha)⟩
theorem idx_in {P : List (List Int)} {q : List Int} (h : q ∈ P) : ∃ i, (P.findIdx? fun p => decide (p = q)) = some i ∧ P[i]? = some q := by
  cases e : P.findIdx? fun p => decide (p = q) with
  | none => have := List.findIdx?_eq_none_iff.mp e q h; simp at this
  | some i =>
    obtain ⟨h1, h2, _⟩ := List.findIdx?_eq_some_iff_getElem.mp e
    exact ⟨i, rfl, by rw [List.getElem?_eq_getElem h1]; simpa using h2⟩
structure Tm where
  k : Int
  i : Int
  j : Int
  c : Int
def Tm.pl (t : Tm) : List Int := [t.k, t.i, t.j]
def tsum (ts : List Tm) (p : List Int) : Int := ((ts.filter fun t => decide (t.pl = p)).map fun t => t.c).sum
def pls (ts : List Tm) : List (List Int) := ts.foldl (fun P t => addP P t.pl) []
theorem tsum_snoc (ts : List Tm) (t : Tm) (p : List Int) : tsum (ts ++ [t]) p = tsum ts p + (if t.pl = p then t.c else 0) := by
  unfold tsum
  rw [List.filter_append, List.map_append, List.sum_append]
  congr 1
  by_cases h : t.pl = p
  · rw [if_pos h, List.filter_cons, if_pos (by simpa using h)]; simp
  · rw [if_neg h, List.filter_cons, if_neg (by simpa using h)]; simp
theorem pls_snoc (ts : List Tm) (t : Tm) : pls (ts ++ [t]) = addP (pls ts) t.pl := by
  unfold pls
  rw [List.foldl_append]; rfl
theorem snoc_ind {α : Type} {C : List α → Prop} (h0 : C []) (h1 : ∀ l a, C l → C (l ++ [a])) (l : List α) : C l := by
  have : ∀ r : List α, C r.reverse := fun r => by
    induction r with
    | nil => exact h0
    | cons a r ih => rw [List.reverse_cons]; exact h1 _ a ih
  have := this l.reverse
  rwa [List.reverse_reverse] at this
theorem pls_nodup (ts : List Tm) : (pls ts).Nodup := snoc_ind (C := fun ts => (pls ts).Nodup) (by simp [pls]) (fun l a h => by rw [pls_snoc]; exact addP_nodup h) ts
theorem mem_addP {P : List (List Int)} {q p : List Int} : p ∈ addP P q ↔ p ∈ P ∨ p = q := by
  unfold addP
  split
  · rename_i h
    exact ⟨.inl, fun z => z.elim id fun e => e ▸ h⟩
  · rw [List.mem_append, List.mem_singleton]
theorem mem_pls (ts : List Tm) (p : List Int) : p ∈ pls ts ↔ ∃ t ∈ ts, t.pl = p := by
  refine snoc_ind (C := fun ts => p ∈ pls ts ↔ ∃ t ∈ ts, t.pl = p) (by simp [pls]) (fun l a h => ?_) ts
  rw [pls_snoc, mem_addP, h]
  constructor
  · rintro (⟨t, ht, e⟩ | e)
    · exact ⟨t, List.mem_append_left _ ht, e⟩
    · exact ⟨a, by simp, e.symm⟩
  · rintro ⟨t, ht, e⟩
    rcases List.mem_append.mp ht with ht | ht
    · exact .inl ⟨t, ht, e⟩
    · rw [List.mem_singleton.mp ht] at e
      exact .inr e.symm
theorem tsum_out {ts : List Tm} {p : List Int} (h : p ∉ pls ts) : tsum ts p = 0 := by
  unfold tsum
  rw [List.filter_eq_nil_iff.mpr fun t ht => by
    intro z
    exact h ((mem_pls ts p).mpr ⟨t, ht, by simpa using z⟩)]
  rfl
/-- what the terms tell at k -/
def valAt (ts : List Tm) (xs ys : List Int) (k : Nat) : Int := ((ts.filter fun t => decide (t.k = (k : Int))).map fun t => t.c * xs.getD t.i.toNat 0 * ys.getD t.j.toNat 0).sum
def vals (m : Nat) (ts : List Tm) (xs ys : List Int) : List Int := (List.range m).map fun k => valAt ts xs ys k
theorem ixN_of {n : Nat} {k : Int} (h0 : 0 ≤ k) (h : k < n) : ixN n k = some k.toNat := by
  unfold ixN
  rw [if_pos h0, if_pos (by omega)]
theorem tsum_distinct {ts : List Tm} (h : (ts.map Tm.pl).Nodup) {t : Tm} (ht : t ∈ ts) : tsum ts t.pl = t.c := by
  refine snoc_ind (C := fun ts => (ts.map Tm.pl).Nodup → t ∈ ts → tsum ts t.pl = t.c) (fun _ h => (nomatch h)) (fun l a ih h ht => ?_) ts h ht
  rw [List.map_append, List.nodup_append] at h
  rw [tsum_snoc]
  rcases List.mem_append.mp ht with hl | ha
  · rw [ih h.1 hl, if_neg fun z => h.2.2 t.pl (List.mem_map.mpr ⟨t, hl, rfl⟩) a.pl (by simp) z.symm, Int.add_zero]
  · have ha : t = a := by simpa using ha
    subst ha
    rw [if_pos rfl, tsum_out fun z => by
      obtain ⟨u, hu, e⟩ := (mem_pls l t.pl).mp z
      exact h.2.2 u.pl (List.mem_map.mpr ⟨u, hu, rfl⟩) t.pl (by simp) e, Int.zero_add]
theorem fm_congr {α β : Type} {f g : α → Option β} : ∀ {l : List α}, (∀ x ∈ l, f x = g x) → l.filterMap f = l.filterMap g
  | [], _ => rfl
  | x :: l, h => by rw [List.filterMap_cons, List.filterMap_cons, h x List.mem_cons_self, fm_congr fun y hy => h y (List.mem_cons_of_mem _ hy)]
end Cm
namespace FL
open PySem PySem.Spec PyProof.Rows L2 RT
def dIsi2 : DC
  | [d, .tup false [.ty n, .ty m]], Q => match isTy d n with
    | some b => match isTy d m with
      | some c => Q (.bl (b || c))
      | none => False
    | none => False
  | _, _ => False
end FL
namespace PySem.W
open PySem PySem.Calls PyProof.Rows PyProof.V PySem.Spec
end PySem.W
namespace PySem.W
open PySem PySem.Calls PyProof.Rows PyProof.V PySem.Spec
end PySem.W
namespace FL
open PySem PySem.Spec PyProof.Rows L2 RT
section
variable {X : Cx}
/-- the int at a key -/
def intK (ks : List D) (ns : List Int) (k : D) : Option Int := (kIdx true ks k).bind fun i => ns[i]?
def tabD (ks : List D) (ns : List Int) (ks' : List D) (ns' : List Int) : Bool := (ks.zip ns).all fun p => decide (intK ks' ns' p.1 = some p.2)
end
end FL
namespace FL
open PySem PySem.Spec PyProof.Rows L2
end FL
namespace FL
open PySem PySem.Spec PyProof.Rows L2
end FL
namespace FL
open PySem PySem.Spec PyProof.Rows L2
end FL
namespace FL
open PySem PySem.Spec PyProof.Rows L2
end FL
namespace FL
open PySem PySem.Spec PyProof.Rows L2
end FL
namespace FL
open PySem PySem.Spec PyProof.Rows L2
end FL
namespace FL
open PySem PySem.Spec PyProof.Rows L2
def dIsN0 (neg : Bool) : DO := fun a b Q => match b with
  | .non => match isNon a with
    | some c => Q (.bl (neg ^^ c))
    | none => False
  | _ => False
section
variable {X : Cx}
theorem fop_isN0 : FOp X (compareOp .Is) (dIsN0 false) := ⟨_, op_isN, fun τ w σ ρ x y dx dy ℓ ℓ' Q Qv hn st rx ry hd hq => by
  cases dy with
  | non =>
    unfold dIsN0 at hd
    simp only at hd
    cases e : isNon dx with
    | none => simp only [e] at hd
    | some c =>
      simp only [e] at hd
      simp only [Rep] at ry
      refine ⟨ry, hq _ _ _ hd (.refl st) ?_⟩
      simp only [Rep]
      rw [isNon_rep rx e, Bool.false_xor]
  | _ => exact hd.elim⟩
end
end FL
namespace FL
open PySem PySem.Spec PyProof.Rows L2
end FL
namespace FL
open PySem PySem.Spec PyProof.Rows L2
def rOrT (r s : RE) : RE := fun ρ E Q => r ρ E fun d ρ1 => match d with
  | .lst o ds => (ds.isEmpty = false → Q (.lst o ds) ρ1) ∧ (ds.isEmpty = true → s ρ1 E Q)
  | _ => False
section
variable {X : Cx} {W : WX} {a b : Expr} {rest : List Expr} {re se : RE} {pos : Pos}
theorem fe_orT (h : FE X W a re) (g : FE X W (.BoolOp .Or (b :: rest) pos) se) : FE X W (.BoolOp .Or (a :: b :: rest) pos) (rOrT re se) := by
  obtain ⟨t, p, k⟩ := h.ex
  obtain ⟨u, q, l⟩ := g.ex
  refine ⟨_, pe_orT p q, fun τ w σ ρ E Q Qv hn st h hq hx => ?_⟩
  refine k τ w σ ρ E _ _ hn st h (fun d ρ1 w1 v h1 e1 r1 => ?_) hx
  cases d with
  | lst o ds =>
    obtain ⟨c, us, rfl, hc, rl⟩ := lst_at e1.st.wf r1
    have el : us.isEmpty = ds.isEmpty := by
      have := rl.length
      cases us <;> cases ds <;> simp at this ⊢
    refine ⟨!us.isEmpty, .inl ⟨us, SqL.of hc, rfl⟩, ?_⟩
    rw [el]
    cases ee : ds.isEmpty with
    | false =>
      rw [if_pos (show (!false) = true from rfl)]
      exact hq _ ρ1 w1 _ (h1.1 ee) e1 r1
    | true =>
      rw [if_neg (show ¬ (!true) = true by decide)]
      exact l τ w1 σ ρ1 E _ _ (by rw [e1.len]; exact hn) e1.st (h1.2 ee) (fun b ρ2 w2 v h2 e2 r2 => hq b ρ2 w2 v h2 (e1.trans e2 (Nat.le_refl _)) r2) (hx.then e1 (Nat.le_refl _))
  | _ => exact h1.elim
end
end FL
namespace FL
open PySem PySem.Spec PyProof.Rows L2
end FL
namespace FL
open PySem PySem.Spec PyProof.Rows L2
end FL
namespace FL
open PySem PySem.Spec PyProof.Rows L2
end FL
namespace FL
open PySem PySem.Spec PyProof.Rows L2
mutual
/-- what stands in the module's frozen objects -/
def KV (K : PySem.W.Frag) : D → Value → Prop
  | .int i, v => ∃ t, v = .int i t
  | .str s, v => ∃ t, v = .str s t
  | .ro t ds, v => ∃ a o its n, v = .ref a ∧ t = true ∧ K.lookup a = some o ∧ o.cls = .type "tuple" ∧ o.data = .seq its n ∧ its.size ≤ sizeLine ∧ KVL K ds its.toList
  | _, _ => False
def KVL (K : PySem.W.Frag) : List D → List Value → Prop
  | [], vs => vs = []
  | d :: ds, vs => ∃ v r, vs = v :: r ∧ KV K d v ∧ KVL K ds r
end
mutual
theorem KV.rep {K : PySem.W.Frag} : ∀ {d : D} {u : Value}, KV K d u → ∃ v, RelV v u ∧ d.own = false ∧ ∀ w ℓ, Rep K w d ℓ v
  | .int i, u, h => by
    simp only [KV] at h
    obtain ⟨t, rfl⟩ := h
    exact ⟨.int i, ⟨t, rfl⟩, rfl, fun w ℓ => rfl⟩
  | .str s, u, h => by
    simp only [KV] at h
    obtain ⟨t, rfl⟩ := h
    exact ⟨.str s, ⟨t, rfl⟩, rfl, fun w ℓ => rfl⟩
  | .ro t ds, u, h => by
    simp only [KV] at h
    obtain ⟨a, o, its, n, rfl, rfl, hk, hc, hs, hz, hl⟩ := h
    obtain ⟨vs, rv, ho, rr⟩ := KVL.rep hl
    have hlen : ds.length = its.size := by
      have h1 := (rr ⟨fun _ => none, fun _ => none, fun _ => none⟩ [] 0).length
      have h2 := rv.length
      simp at h2
      omega
    refine ⟨.ref a, rfl, rfl, fun w ℓ => ?_⟩
    simp only [Rep]
    exact ⟨a, vs, rfl, by rw [if_pos trivial]; exact .inr ⟨o, its, n, hk, hc, hs, hz, rv⟩, ⟨by omega, ho⟩, rr w ℓ 0⟩
  | .any, _, h => by simp only [KV] at h
  | .non, _, h => by simp only [KV] at h
  | .bl _, _, h => by simp only [KV] at h
  | .obj _, _, h => by simp only [KV] at h
  | .ty _, _, h => by simp only [KV] at h
  | .tup _ _, _, h => by simp only [KV] at h
  | .lst _ _, _, h => by simp only [KV] at h
  | .dct _ _ _ _, _, h => by simp only [KV] at h
  | .ins _ _ _ _, _, h => by simp only [KV] at h
theorem KVL.rep {K : PySem.W.Frag} : ∀ {ds : List D} {us : List Value}, KVL K ds us → ∃ vs, Vals vs us ∧ ownL ds = false ∧ ∀ w ℓ j, RepL K w ds ℓ j vs
  | [], us, h => by
    simp only [KVL] at h
    subst h
    exact ⟨[], .nil, rfl, fun w ℓ j => by simp [RepL]⟩
  | d :: ds, us, h => by
    simp only [KVL] at h
    obtain ⟨v, r, rfl, h1, h2⟩ := h
    obtain ⟨x, e1, o1, r1⟩ := KV.rep h1
    obtain ⟨xs, e2, o2, r2⟩ := KVL.rep h2
    refine ⟨x :: xs, .cons e1 e2, by simp [ownL, o1, o2], fun w ℓ j => ?_⟩
    simp only [RepL]
    exact ⟨x, xs, rfl, r1 _ _, r2 _ _ _⟩
end
theorem KV.mk {K : PySem.W.Frag} {ds : List D} {a : Addr} {od : Option Addr} {its : Array Value} {n : Nat} {sl : Array (Option Value)} (hk : K.lookup a = some ⟨.type "tuple", od, .seq its n, sl⟩) (hz : its.size ≤ sizeLine) (hl : KVL K ds its.toList) : KV K (.ro true ds) (.ref a) := by
  simp only [KV]
  exact ⟨a, _, its, n, rfl, trivial, hk, rfl, rfl, hz, hl⟩
theorem KV.str' {K : PySem.W.Frag} {s : Str} {t : Tok} : KV K (.str s) (.str s t) := by
  simp only [KV]
  exact ⟨t, rfl⟩
section
variable {X : Cx} {W : WX}
theorem fe_globT {x : Str} {u : Value} {pos : Pos} {d : D} (hg : Gl X x) (hm : X.mg x = some u ∧ KV X.K d u) (hd : (x == ("__debug__" : Str)) = false := by decide) : FE X W (.Name x pos) (rC d) := by
  obtain ⟨v, r, _, h⟩ := hm.2.rep
  exact ⟨_, pe_glob hg hm.1 r hd, se_C fun w τ => h w [τ]⟩
end
end FL
namespace FL
open PySem PySem.Spec PyProof.Rows L2
end FL
namespace FL
open PySem PySem.Spec PyProof.Rows L2
end FL
namespace FL
open PySem PySem.Spec PyProof.Rows L2
def rNever : RS := fun _ _ _ => False
def inDD (k : D) (ds : List D) : Bool := ds.any fun y => deq y k
/-- k in c, whatever its members are -/
def dInD (neg : Bool) : DO
  | k, .lst _ ds, Q => k.dat = true ∧ datL ds = true ∧ min (depL ds) k.dep ≤ 60 ∧ Q (.bl (neg ^^ inDD k ds))
  | k, .tup _ ds, Q => k.dat = true ∧ datL ds = true ∧ min (depL ds) k.dep ≤ 60 ∧ Q (.bl (neg ^^ inDD k ds))
  | _, _, _ => False
def rInP (K : PySem.W.Frag) (neg : Bool) : R2 := fun x y H Q => ∃ (d : PyData) (xs : List PyData), Dp K H x d ∧ (Dp K H y (.list xs) ∨ Dp K H y (.tuple xs)) ∧ d.plain = true ∧ PyData.plainAll xs = true ∧ min (PyData.depthAll xs) d.depth ≤ 60 ∧ Q (.bl (neg ^^ xs.any fun y => PyData.eqv y d)) H
theorem op_inP {X : Cx} (hu : X.A.units + 64 < cLine) : OpR X (compareOp .In) (rInP X.K false) := by
  intro pins s σ H x y v u Q I rx ry h
  obtain ⟨d, xs, hd, he, sd, se, hm, q⟩ := h
  obtain ⟨as, r1⟩ := Dp.reads I d x v hd rx
  rcases he with he | he
  · obtain ⟨bs, r2⟩ := Dp.reads I _ y u he ry
    exact SeqAt.in_list_data r2 r1 se sd (by omega) ⟨.bl _, H, I, by rw [Bool.false_xor]; rfl, q⟩
  · obtain ⟨bs, r2⟩ := Dp.reads I _ y u he ry
    exact SeqAt.in_tuple_data r2 r1 se sd (by omega) ⟨.bl _, H, I, by rw [Bool.false_xor]; rfl, q⟩
theorem inDD_py (k : D) : ∀ ds : List D, (pyL ds).any (fun y => PyData.eqv y k.py) = inDD k ds
  | [] => rfl
  | d :: ds => by
    unfold inDD
    rw [List.any_cons, pyL, List.any_cons, inDD_py k ds]; rfl
theorem sok_inP {K : PySem.W.Frag} {neg : Bool} : SOK K (rInP K neg) (dInD neg) := by
  intro τ w σ ρ x y dx dy ℓ ℓ' Q Qv hn st rx ry hq hv
  cases dy with
  | lst o ds =>
    obtain ⟨h1, h2, h3, q⟩ := hq
    have r2 := rep_dp st.wf (.lst o ds) (by simpa [D.dat] using h2) ry
    simp only [D.py] at r2
    exact ⟨_, _, rep_dp st.wf dx h1 rx, .inl r2, py_plain _ h1, pyL_plain _ h2, by rw [py_dep _ h1, pyL_dep _ h2]; exact h3, by rw [inDD_py]; exact hv _ w _ q (.refl st) rfl⟩
  | tup o ds =>
    obtain ⟨h1, h2, h3, q⟩ := hq
    have r2 := rep_dp st.wf (.tup o ds) (by simpa [D.dat] using h2) ry
    simp only [D.py] at r2
    exact ⟨_, _, rep_dp st.wf dx h1 rx, .inr r2, py_plain _ h1, pyL_plain _ h2, by rw [py_dep _ h1, pyL_dep _ h2]; exact h3, by rw [inDD_py]; exact hv _ w _ q (.refl st) rfl⟩
  | _ => exact hq.elim
section
variable {X : Cx}
theorem fop_inD (hu : X.A.units + 64 < cLine) : FOp X (compareOp .In) (dInD false) := ⟨_, op_inP hu, sok_inP⟩
end
end FL
namespace FL
open PySem PySem.Spec PyProof.Rows L2
end FL
namespace FL
open PySem PySem.Spec PyProof.Rows L2
end FL
namespace FL
open PySem PySem.Spec PyProof.Rows L2 RT
end FL
namespace FL
open PySem PySem.Spec PyProof.Rows L2 RT
end FL
namespace FL
open PySem PySem.Spec PyProof.Rows L2 RT
end FL
namespace FL
open PySem PySem.Spec PyProof.Rows L2 RT
section
variable {X : Cx} {W : WX} {M : List Nat} {C : Addr}
theorem end_set {K : PySem.W.Frag} {M : List Nat} {w : Wd} {σ : Sl} {ρ : En} {i : Nat} {v : Option V} {d : Option D} (st : StE K w σ ρ) (hM : M.contains i = false) (h : ∀ e, d = some e → ∃ u, v = some u ∧ Rep K w e [i + 1] u) : EndS K M w σ ρ w (σ.set i v) (ρ.set i d) := by
  refine ⟨List.length_set .., ⟨st.wf, by rw [List.length_set, List.length_set]; exact st.len, fun j e he => ?_⟩, .refl, fun j hj => ?_⟩
  · by_cases hji : j = i
    · subst hji
      have hl := (List.getElem?_eq_some_iff.mp he).1
      rw [List.length_set] at hl
      rw [List.getElem?_set_self hl] at he
      have he : d = some e := by simpa using he
      obtain ⟨u, hu, r⟩ := h e he
      exact ⟨u, by rw [List.getElem?_set_self (by rw [st.len]; exact hl), hu], r⟩
    · rw [List.getElem?_set_ne (Ne.symm hji)] at he ⊢
      exact st.rep j e he
  · have hji : j ≠ i := fun z => by
      subst z
      have : M.contains j = true := by simpa using hj
      rw [hM] at this; cases this
    rw [List.getElem?_set_ne (Ne.symm hji)]
end
end FL
namespace FL
open PySem PySem.Spec PyProof.Rows L2
def dStrI : DC := fun ds Q => match ds with
  | [.int i] => i.natAbs.log2 < 1920 ∧ Q (.str (toString i))
  | _ => False
/-- o.join(e) -/
def rJoin (ro re : RE) : RE := fun ρ E Q => ro ρ E fun d ρ1 => (∃ a, d = .str a) ∧ re ρ1 E fun dk ρ2 => ∃ (a : Str) (ys : List Str), d = .str a ∧ (lstOf dk = some (ys.map D.str) ∨ tupOf dk = some (ys.map D.str)) ∧
  (ys.map (·.length)).sum + ys.length * a.length ≤ 16777216 ∧ Q (.str (Txt.join a ys)) ρ2
section
variable {K : PySem.W.Frag} {w : Wd}
theorem repl_strs : ∀ {ns : List Str} {ℓ : Loc} {j : Nat} {vs : List V}, RepL K w (ns.map D.str) ℓ j vs → vs = ns.map V.str
  | [], _, _, _, h => by simpa [RepL] using h
  | n :: ns, _, _, _, h => by
    simp only [List.map_cons, RepL, Rep] at h
    obtain ⟨v, r, rfl, rfl, h2⟩ := h
    rw [repl_strs h2]; rfl
end
section
variable {X : Cx} {W : WX} {pos apos : Pos}
theorem fc_strI : FC X (.type "str") dStrI := by
  refine ⟨_, call_str_int, fun τ w σ ρ vs ds Q Qv hn st rs hd hq => ?_⟩
  unfold dStrI at hd
  split at hd
  · obtain ⟨v, ℓ, rfl, r⟩ := reps1 rs
    simp only [Rep] at r
    subst r
    exact ⟨_, rfl, hd.1, hq _ w _ hd.2 (.refl st) rfl⟩
  · exact hd.elim
theorem fe_join {o e : Expr} {ro re : RE} (ho : FE X W o ro) (he : FE X W e re) (hs : starEach [e] X.env = [(false, eval e X.env)] := by rfl) (hbase : attributeBase o "join" X.env (eval o X.env) = eval o X.env := by rfl)
    (hline : (apos.endLine == pos.line) = true := by rfl) : FE X W (.Call (.Attribute o "join" apos) [e] [] pos) (rJoin ro re) := by
  obtain ⟨t, p, l⟩ := ho.ex
  obtain ⟨t', p', l'⟩ := he.ex
  refine ⟨_, pe_join p p' hs hbase hline, fun τ w σ ρ E Q Qv hn st h hq hx => ?_⟩
  refine l τ w σ ρ E _ _ hn st h (fun d ρ1 w1 v h1 e1 r1 => ?_) hx
  obtain ⟨⟨a, rfl⟩, h1⟩ := h1
  simp only [Rep] at r1
  subst r1
  refine ⟨⟨a, rfl⟩, ?_⟩
  refine l' (τ + 1) w1 σ ρ1 E _ _ (by rw [e1.len]; omega) e1.st h1 (fun dk ρ2 w2 vk h2 e2 r2 => ?_) (hx.then e1 (by omega))
  obtain ⟨a', ys, ea, hk, hb, q⟩ := h2
  cases ea
  have e12 := e1.trans e2 (by omega)
  rcases hk with hk | hk
  · obtain ⟨p, vs, rfl, hq2, _, _, hr⟩ := lst_seq e2.st.wf hk r2
    obtain rfl := repl_strs (hr [] 0)
    exact ⟨a, p, ys, rfl, rfl, .inl hq2, hb, hq _ ρ2 w2 _ q e12 rfl⟩
  · obtain ⟨p, vs, rfl, hq2, _, _, hr⟩ := tup_seq e2.st.wf hk r2
    obtain rfl := repl_strs (hr [] 0)
    exact ⟨a, p, ys, rfl, rfl, .inr hq2, hb, hq _ ρ2 w2 _ q e12 rfl⟩
end
end FL
namespace FL
open PySem PySem.Spec PyProof.Rows L2 RT
end FL
namespace FL
open PySem PySem.Spec PyProof.Rows L2 RT
end FL
namespace FL
open PySem PySem.Spec PyProof.Rows L2 RT
end FL
namespace FL
open PySem PySem.Spec PyProof.Rows L2 RT
end FL
namespace FL
open PySem PySem.Spec PyProof.Rows L2 RT
/-- a method of the text -/
structure DfM (K : PySem.W.Frag) (x qual : Str) (st : Stmt) (ps : List Str) (f : Addr) (fd : FuncData) : Prop where
  fn : Fun K x qual st f fd
  b : Binds K fd ps []
end FL
namespace FL
open PySem PySem.Spec PyProof.Rows L2 RT
end FL
namespace FL
open PySem PySem.Spec PyProof.Rows L2 RT
end FL
namespace FL
open PySem PySem.Spec PyProof.Rows L2 RT
end FL
namespace FL
open PySem PySem.Spec PyProof.Rows L2 RT
end FL
namespace FL
open PySem PySem.Spec PyProof.Rows L2 RT
end FL
namespace FL
open PySem PySem.Spec PyProof.Rows L2 RT
end FL
namespace FL
open PySem PySem.Spec PyProof.Rows L2 RT
end FL
namespace FL
open PySem PySem.Calls PySem.Spec PyProof.Rows L2 RT
end FL
namespace FL
open PySem PySem.Spec PyProof.Rows L2
end FL
namespace FL
open PySem PySem.Spec PyProof.Rows L2
/-- what is asked of T -/
structure InT0 (K : PySem.W.Frag) (T : Addr) : Prop where
  rd : PySem.W.readsIn K T (.type "type") = true
  fc : PySem.W.findCls K (.ref T) (.type "type") "__init__" = some (.val (.builtin "ValueError.__init__"))
  sp : PySem.W.specialIn K (.ref T) "__getattribute__" = some (some (.builtin "type.__getattribute__"))
section
variable {X : Cx} {T : Addr} {x : Str} {e : Expr} {es : List Expr} {ta : TA} {p1 p2 pos : Pos}
theorem pe_tinit (hT : InT0 X.K T) (hm : X.mg x = some (.ref T)) (ha : PA X (e :: es) ta) (hg : Gl X x := by rfl) (hdb : (x == ("__debug__" : Str)) = false := by decide) {pl : Sem Bool}
    (hc : eval (.Call (.Attribute (.Name x p1) "__init__" p2) (e :: es) [] pos) X.env = (do
      let cl ← eval (.Name x p1) X.env
      standAt p2.atName
      let (g, fst) ← holding [cl] (getMethod cl "__init__" pl)
      callWith pos g fst (backTo pos (starEach (e :: es) X.env)) (backToKw pos (keywordEach [] X.env))) := by rfl)
    (h1 : starEach (e :: es) X.env = (false, eval e X.env) :: starEach es X.env := by rfl) (h2 : (backTo pos (starEach es X.env)).any (·.1) = false := by rfl) :
    PE X (.Call (.Attribute (.Name x p1) "__init__" p2) (e :: es) [] pos) (tVeI X.K ta) := by
  constructor
  intro pins s σ H Q I h
  refine PySem.W.methodCall_KW (ld_glob I hg hm ?_ hdb) hc
  refine PySem.W.method_cls I.kIn hT.sp (PySem.W.cls_value I.kIn hT.rd hT.fc (by decide +kernel) ?_)
  refine PyProof.Rows.callWith_method1 (thn (ha.run pos pins _ σ H _ (I.tok _) h) ?_) h1 h2
  rintro us s1 ⟨vs, H1, I1, r1, a, C, ws, rfl, hl, hC, ea, q⟩
  cases r1 with
  | @cons _ u0 _ ur ra rr =>
    cases (show u0 = Value.ref a from ra)
    have hz : ur.length ≤ sizeLine := by
      have := Paired.length rr
      rw [sizeLine_eq]
      omega
    exact oinit_ok hC I1 ea hz fun s2 J => ⟨.non, H1, J, rfl, q⟩
end
/-- what C.__init__(self, f) does with an exception that is being made at its first argument -/
def spI (C : Addr) (f : Str) : Sp := fun vs H Q _ => ∃ (a : Addr) (v : V), vs = [.ref a, v] ∧ H a = some (exo a C none) ∧ ∀ dx, H dx = none → dx ≠ a → Q .non (upd (upd H dx (exd dx [(f, v)])) a (exo a C (some dx)))
/-- what is asked of C -/
structure EI (K : PySem.W.Frag) (C fI : Addr) (f : Str) : Prop where
  ox : OexC K C
  nf : PySem.W.findIn K (.ref C) f = some none
  ii : PySem.W.findIn K (.ref C) "__init__" = some (some (.ref fI))
  ti : PySem.W.typeIn K (.ref fI) = some (.type "function")
/-- what is asked of C where its instances are looked at -/
structure EK (K : PySem.W.Frag) (C : Addr) (f : Str) : Prop where
  nf : PySem.W.findIn K (.ref C) f = some none
  xf : XfC K C
  ex : ExcC K C
theorem fn_ty {K : PySem.W.Frag} {v : Value} (h : PySem.W.isFn K v = true) : PySem.W.typeIn K v = some (.type "function") := beq_iff_eq.mp h
section
variable {P : Program} {w : World} {K : PySem.W.Frag} {mg : Str → Option Value} {base : Heap}
theorem exi_fn {qual m fx : Str} {st : Stmt} {fI C : Addr} {fd : FuncData} {k : Nat} (F : Fun K "__init__" qual st fI fd) (S : FnScope ["self", fx] ["self", fx] (defScope st))
    (hC : EI K C fI fx)
    (hr : ∀ (cdv : Value) (A : Around) (outer : List Env) (s : Shared) (H : Hp) (E : XK), (fun X : Cx => PSs X (defBody st) (tSeq (tDrop (tVeI X.K (tCons (tVar 0) (tCons (tC (.str m)) tNil)))) (tOst X.K fx (tVar 0) (tVar 1)))) (cxOf (L2.CX P w) P w K mg base ["self", fx] qual (defScope st) fI cdv A outer s H E)) :
    FnOk P w K mg base (L2.CX P w) (k + 1) fI fd ["self", fx] (spI C fx) := by
  refine F.okX S (fun vs H Q E h => ?_) fun cdv A outer s H vs Q E hroom h => ?_
  · obtain ⟨a, v, rfl, _⟩ := h
    rfl
  · obtain ⟨a, v, rfl, ha, q⟩ := h
    refine ⟨_, hr cdv A outer s H E, ?_⟩
    refine ⟨.ref a, rfl, a, C, [.str m], rfl, by show 1 ≤ 1000; decide, hC.ox, ha, ?_⟩
    refine ⟨v, rfl, .ref a, rfl, a, C, rfl, hC.ox, hC.nf, .inl ⟨ha, fun dx n ne => q dx n ne⟩⟩
end
def rRaiseF (C : Addr) (f : Str) (re : RE) : RS := fun ρ E _ => re ρ E fun d ρ1 => d.own = false ∧ E (.ref C) (some [(f, d)]) ρ1
theorem passes_none {X : Cx} : Passes (L2.CX X.prog X.w) X (fun _ _ _ => False) := fun _ _ _ _ _ _ _ h => by
  obtain ⟨_, _, _, _, _, _, _, _, _, _, _, _, z⟩ := h
  exact z.elim
theorem hp_made {H : Hp} {a dx : Addr} {o1 o2 o3 o4 : HO} (na : H a = none) (h : dx ≠ a) : upd (del (upd (upd (upd H a o1) dx o2) a o3) a) dx o4 = upd H dx o4 := by
  funext b
  by_cases hb : b = dx
  · rw [hb, upd_same, upd_same]
  · rw [upd_ne hb, upd_ne hb]
    by_cases hc : b = a
    · rw [hc, del_same, na]
    · rw [del_ne hc, upd_ne hc, upd_ne hb, upd_ne hc]
section
variable {X : Cx} {W : WX} {M : List Nat} {C fI : Addr} {f : Str}
theorem fs_raiseF {x : Str} {e : Expr} {re : RE} {k : Nat} {fd : FuncData} {ps : List Str} {p pos pos' : Pos} (tk : Takes X W) (hC : EI X.K C fI f) (F1 : FnOk X.prog X.w X.K X.mg X.base (L2.CX X.prog X.w) k fI fd ps (spI C f)) (hr : Room (k + 1) X.A) (hb : Binds X.K fd ps [])
    (g : X.mg x = some (.ref C)) (he : FE X W e re) (hg : Gl X x := by rfl) (hdb : (x == ("__debug__" : Str)) = false := by decide) (hc : X.calm = true := by rfl)
    (h1 : starEach [e] X.env = (false, eval e X.env) :: starEach [] X.env := by rfl) (h2 : (backTo pos (starEach [] X.env)).any (·.1) = false := by rfl) :
    FS X W M (.Raise (some (.Call (.Name x p) [e] [] pos)) none pos') (rRaiseF C f re) := by
  obtain ⟨t, pe, ke⟩ := he.ex
  refine ⟨_, ps_raise hc tk (pmk_oex hC.ox hC.ii hC.ti F1 hr hb (ds := []) .nil passes_none hg g (pa_cons pe pa_nil h1) hdb h1 h2), fun w σ ρ E F Z st h hf => ?_⟩
  refine ke _ w σ ρ E _ _ (Nat.lt_succ_self _) st h (fun d ρ1 w1 v h e1 r1 => ?_) hf.sx
  obtain ⟨ho, hE⟩ := h
  refine ⟨by show 1 ≤ 1000; decide, fun a na => ⟨a, v, rfl, upd_same, fun dx ndx ne => ⟨rfl, dx, [(f, v)], upd_same, ?_, ?_, ?_⟩⟩⟩
  · rw [upd_ne ne, upd_same]
  · rw [upd_ne ne] at ndx
    exact ndx
  · rw [upd_ne ne] at ndx
    rw [hp_made na ne]
    have e2 := EndE.shr (τ := ρ.length + 1) e1.st ndx (o := HO.xd [(f, v)])
    refine hf.ex _ _ _ (w1.shr dx (.xd [(f, v)])) σ (some dx) hE (((e1.trans e2 (Nat.le_refl _)).s (Nat.lt_succ_self _))) ⟨[v], ?_, rfl, ?_, ?_⟩
    · show upd w1.S dx _ dx = _
      rw [upd_same]; rfl
    · show (d.own || false) = false
      rw [ho]; rfl
    · refine ⟨v, [], rfl, Rep.free (w := w1) (shr_same e1.st.wf ndx) d ho r1, rfl⟩
end
end FL
namespace FL
open PySem PySem.Spec PyProof.Rows L2
/-- at a: an exception of the class cls, its fields at d -/
def exk (a : Addr) (cls : Value) (d : Option Addr) : HO := .ext fun h => ∃ oe vs, h.get? a = some oe ∧ Zc cls d oe ∧ oe.data = .fields vs
theorem exk_ok {P : Program} {w : World} {H : Hp} {h : Heap} {a : Addr} {cls : Value} {d : Option Addr} {oe : Obj} {vs : Array Value} (h1 : h.get? a = some oe) (h2 : Zc cls d oe) (h3 : oe.data = .fields vs) : ObjOk P w H h a (exk a cls d) :=
  ⟨⟨oe, vs, h1, h2, h3⟩, ⟨oe, h1⟩, fun g1 g2 z k => by
    obtain ⟨o, v, z1, z2, z3⟩ := z
    exact ⟨o, v, k o z1, z2, z3⟩⟩
theorem exk_at {P : Program} {w : World} {H : Hp} {h : Heap} {a : Addr} {cls : Value} {d : Option Addr} (hok : HOk P w H h) (e : H a = some (exk a cls d)) : ∃ oe vs, h.get? a = some oe ∧ Zc cls d oe ∧ oe.data = .fields vs := by
  have z : ObjOk P w H h a (.ext fun h => ∃ oe vs, h.get? a = some oe ∧ Zc cls d oe ∧ oe.data = .fields vs) := hok a _ e
  exact z.1
/-- what nobody knew is taken up -/
theorem adopt {X : Cx} {pins : List (Addr × Obj)} {σ : L2.St} {H : Hp} {s : Shared} (I : Inv X pins σ H s) {a : Addr} {oe : Obj} {vs : Array Value} {cls : Value} {d : Option Addr} (h1 : s.heap.get? a = some oe) (h2 : Zc cls d oe) (h3 : oe.data = .fields vs)
    (na : H a = none) (nL : a ≠ X.env.locals) (n0 : ∀ o, X.s_0.heap.get? a = some o → a ∈ X.ex) (np : ∀ p ∈ X.pn ++ pins, p.1 ≠ a) : Inv X pins σ (upd H a (exk a cls d)) s := by
  have ne : ∀ {b : Addr} {o : HO}, H b = some o → b ≠ a := fun {b o} z e => by rw [e, na] at z; cases z
  refine ⟨I.ok, I.os, I.bare, ⟨I.base.keep, I.base.slot, fun b o z n hx => ?_, I.base.there, fun b xs z => ?_, fun b o u z => ?_, fun b ps z => ?_⟩, I.loc, I.cell, ?_, fun x c z => ?_, fun p hp => ?_, fun b o z => ?_, I.len⟩
  · have hb : b ≠ a := fun e => by subst e; exact hx (n0 o z)
    rw [upd_ne hb]
    exact I.base.free b o z n hx
  · have q := I.base.tups b xs z
    rw [upd_ne (ne q)]; exact q
  · have q := I.base.frzs b o u z
    rw [upd_ne (ne q)]; exact q
  · obtain ⟨more, q⟩ := I.base.tbls b ps z
    exact ⟨more, by rw [upd_ne (ne q)]; exact q⟩
  · rw [upd_ne nL.symm]; exact I.free
  · obtain ⟨v, q⟩ := I.cell x c z
    have hc : c ≠ a := fun e => by
      subst e
      obtain ⟨o, q1, q2⟩ := q
      rw [h1] at q1
      cases q1
      rw [h3] at q2
      cases q2
    rw [upd_ne hc]; exact I.freeC x c z
  · obtain ⟨q1, q2, q3⟩ := I.pin p hp
    exact ⟨q1, by rw [upd_ne (np p hp)]; exact q2, q3⟩
  · by_cases hb : b = a
    · subst hb
      rw [upd_same] at z
      cases z
      exact exk_ok h1 h2 h3
    · rw [upd_ne hb] at z
      exact (I.hok b o z).stay (fun c v _ q => q) (fun c q => by rw [upd_ne (ne q)]; exact q) fun c xs q => by rw [upd_ne (ne q)]; exact q
/-- what 'except T as e: y = e' wishes of an exception of the body: it stands at slot j behind it, slot i (e's) is gone -/
def wKp (K : PySem.W.Frag) (c : Value) (i j : Nat) (Z : Ends) : WX := fun cls d τ G => PySem.W.exmOne K cls c = some true ∧ ∀ a, G a = none → Z.nx (((τ.set i (some (.ref a))).set j (some (.ref a))).set i none) (upd G a (exk a cls d))
section
variable {X : Cx} {x n y : Str} {cT : Addr} {i j : Nat} {body : List Stmt} {np pos pos' p1 p2 p3 : Pos} {tb : WX → TS}
theorem ps_try_keep (hst : X.stack = X.env :: X.outer) (hfr : X.env.frame = some X.env.locals) (nd : X.N.Nodup) (hi : X.N[i]? = some n) (kn : X.env.kindOf n = some .local) (hT : Names X x (.ref cT))
    (hB : ∀ (W' : WX) (pn : List (Addr × Obj)) (xe : Value → Shared → Prop), Takes (X.tr pn xe) W' → PassesOwn (model X.prog X.w) X.A X.env xe → PSs (X.tr pn xe) body (tb W'))
    (hK : ∀ (a : Addr) (pn : List (Addr × Obj)), PSs (X.suite a pn) [.Assign [.Name y p1] (.Name n p2) p3] (tAsg (tVar i) (gName j))) (hil : i < X.N.length) :
    PS X (.Try body [.ExceptHandler (some (.Name x np)) (some n) [.Assign [.Name y p1] (.Name n p2) p3] pos'] [] [] pos) (fun Z τ G => tb (wKp X.K (.ref cT) i j Z) Z τ G) := by
  constructor
  intro pins s τ G Z I h
  have ok := I.ok
  have frs1 : X.A.frames = some (X.env :: X.outer) := ok.frames.trans (congrArg some hst)
  have ln : L2.Loc X.env.scope n := .inl kn
  refine wpAny_Try_except ?_
  refine wpAny_mono ((hB (wKp X.K (.ref cT) i j Z) (X.pn ++ pins) (fun er q1 => wpAny (model X.prog X.w) X.A (noteFrame er X.env) (fun _ q2 => wpAny (model X.prog X.w) X.A (setFlight er none) (fun _ q3 =>
    wpAny (model X.prog X.w) X.A (handleBy er X.env [.ExceptHandler (some (.Name x np)) (some n) [.Assign [.Name y p1] (.Name n p2) p3] pos']) (L2.SP X pins Z) X.xe q3) X.xe q2) X.xe q1) (fun er q1 air => ?_) PassesOwn.looking).run [] s τ G Z (I.toTry _) h) (fun fl q1 hq => ?_) (fun er q1 z => z)
  · obtain ⟨a, B, s0, pn0, τ0, G0, cls, d, rfl, J0, gr, up0, sk, na, os0, ab, em, hgo⟩ := air
    have J1 : Inv X pins τ0 G0 s0 := J0.ofTry ok
    rw [show (X.tr (X.pn ++ pins) _).stack = X.env :: X.outer from hst] at sk
    show wpAny (model X.prog X.w) X.A (noteFrame (.ref a) X.env) _ _ _
    refine Sky.land Zc.steady frs1 hfr sk fun h1 f1 up1 => ?_
    have I1 : Inv X pins τ0 G0 { q1 with heap := h1 } := J1.landed gr f1.1 (up0.trans up1) os0 ab
    -- a is none of the frames, and was nowhere before
    have off : ∀ {g : Heap} {o : Obj} {vs : Array Value}, g.FunFrames B (X.env :: X.outer) → g.get? a = some o → o.data = .fields vs → a ∉ frs (X.env :: X.outer) := fun {g o vs} ff e1 e2 hm => by
      obtain ⟨_, o2, e3, no⟩ := ff.mem hm
      cases e1.symm.trans e3
      exact no _ e2
    obtain ⟨oe1, vs1, g1, z1, t1⟩ := f1.there
    have o1 := off f1.2.2.1 g1 t1
    have aL : a ≠ X.env.locals := fun e => o1 (List.mem_filterMap.mpr ⟨X.env, List.mem_cons_self, by rw [hfr, e]⟩)
    have aF : a ∉ X.fs := fun hm => by
      obtain ⟨ev, k1, k2⟩ := List.mem_filterMap.mp hm
      exact o1 (List.mem_filterMap.mpr ⟨ev, List.mem_cons_of_mem _ k1, k2⟩)
    have new0 : s0.heap.get? a = none := by
      cases e : s0.heap.get? a with
      | none => rfl
      | some o =>
        have := gr a o e (by rw [show X.stack = X.env :: X.outer from hst]; exact o1)
        rw [f1.2.1] at this
        cases this
    have n0 : ∀ o, X.s_0.heap.get? a = some o → a ∈ X.ex := fun o e => Classical.byContradiction fun hx => by
      obtain ⟨o2, e2⟩ := J1.base.there a o e hx
      rw [new0] at e2
      cases e2
    have apart : ∀ p ∈ X.pn ++ pins, p.1 ≠ a := fun p hp e => by
      have e2 := (J1.pin p hp).1
      rw [e, new0] at e2
      cases e2
    have S1 := I1.suite g1 t1 na aL aF
    refine wpAny_handleBy_cons (codeAny_handlers_test ?_) (by intro q; cases q)
    have look : PySem.W.Looks (model X.prog X.w) h1 (typeOf (.ref a)) cls := fun _ _ _ _ kp q => wpAny_typeOf_ref (kp _ _ g1) (by rw [z1.1]; exact q)
    have asked := PySem.W.exm_one (M := model X.prog X.w) I1.kIn look em
    have named : ∀ {Q E : Value → Shared → Prop}, Q (.ref cT) { q1 with heap := h1 } → wpAny (model X.prog X.w) (X.A.mark (some (.ref a))) (eval (.Name x np) X.env) Q E { q1 with heap := h1 } := fun {Q E} q => by
      obtain ⟨k1, k2, k3 | ⟨k3, k4, k5⟩⟩ := hT
      · exact ld_glob (X := X.suite a ((a, oe1) :: (X.pn ++ pins))) S1 k1 k3 q k2
      · exact ld_blt (X := X.suite a ((a, oe1) :: (X.pn ++ pins))) S1 k1 k3 k4 q k5 k2
    refine named (asked.here (codeAny_handlers_suite_as ?_))
    refine HandSPX.lands_againZ f1 fun h2 f2 up2 => ?_
    obtain ⟨oe2, vs2, g2, z2, t2⟩ := f2.there
    have I2 : Inv X pins τ0 G0 { q1 with heap := h2 } := J1.landed gr f2.1 ((up0.trans up1).trans up2) os0 ab
    have S2 := I2.suite g2 t2 na aL aF
    refine store_ok (X := X.suite a ((a, oe2) :: (X.pn ++ pins))) (v := .ref a) S2 nd hi ln rfl (fun q3 S3 => ?_) (.inr kn)
    have hl : i < τ0.length := by rw [I2.len]; exact hil
    refine wpAny_mono ((hK a ((a, oe2) :: (X.pn ++ pins))).run [] q3 _ G0 { nx := fun τ' G' => τ' = (τ0.set i (some (.ref a))).set j (some (.ref a)) ∧ G' = G0, rt := fun _ _ => False } S3 ⟨.ref a, by rw [List.getElem?_set_self hl], rfl, rfl⟩) (fun fl q4 hq => ?_) (fun _ _ z => False.elim z)
    cases fl with
    | next =>
      obtain ⟨τ4, G4, S4, rfl, rfl⟩ := hq
      refine gone_ok (X := X.suite a ((a, oe2) :: (X.pn ++ pins))) S4 nd hi kn fun q5 S5 => ?_
      obtain ⟨k1, _⟩ := S5.pin (a, oe2) (List.mem_append_left _ List.mem_cons_self)
      exact ⟨_, _, adopt (S5.unsuite ok) k1 z2 t2 na aL n0 apart, hgo a na⟩
    | ret u =>
      obtain ⟨_, _, _, _, _, z⟩ := hq
      exact z.elim
    | brk =>
      obtain ⟨_, _, _, z⟩ := hq
      exact z.elim
    | cont =>
      obtain ⟨_, _, _, z⟩ := hq
      exact z.elim
  · cases fl with
    | next =>
      obtain ⟨τ1, G1, J1, w1⟩ := hq
      exact wpAny_execs_nil ⟨τ1, G1, J1.ofTry ok, w1⟩
    | ret u =>
      obtain ⟨v1, τ1, G1, J1, r1, w1⟩ := hq
      exact ⟨v1, τ1, G1, J1.ofTry ok, r1, w1⟩
    | brk =>
      obtain ⟨τ1, G1, J1, w1⟩ := hq
      exact ⟨τ1, G1, J1.ofTry ok, w1⟩
    | cont =>
      obtain ⟨τ1, G1, J1, w1⟩ := hq
      exact ⟨τ1, G1, J1.ofTry ok, w1⟩
end
end FL
namespace FL
open PySem PySem.Spec PyProof.Rows L2
/-- slot j holds an exception of class C with these fields -/
def KpE (C : Addr) (j : Nat) (fs : List (Str × V)) (σ : L2.St) (H : Hp) : Prop := ∃ a dd : Addr, σ[j]? = some (some (.ref a)) ∧ H a = some (exk a (.ref C) (some dd)) ∧ H dd = some (.xd fs)
theorem kp_inst {X : Cx} {pins : List (Addr × Obj)} {σ : L2.St} {H : Hp} {s : Shared} (I : Inv X pins σ H s) {a C dd : Addr} {fs : List (Str × V)} (h1 : H a = some (exk a (.ref C) (some dd))) (h2 : H dd = some (.xd fs)) :
    ∃ (oe od : Obj) (mA : Str → Option Value), PySem.W.InstAt s.heap a oe C (some od) ∧ s.heap.Ns1 dd mA ∧ s.heap.get? dd = some od ∧ ∀ f, RelO (fs.lookup f) (mA f) := by
  obtain ⟨oe, vs, g1, z, g2⟩ := exk_at I.hok h1
  obtain ⟨mA, hns, rel⟩ := (show ObjOk X.prog X.w H s.heap dd (.xd fs) from I.hok dd _ h2)
  obtain ⟨od, ho, hl⟩ := lookIn_ns hns
  exact ⟨oe, od, mA, ⟨g1, z.1, by unfold PySem.W.notCls; rw [g2] <;> rfl, by rw [z.2]; exact ho⟩, hns, ho, rel⟩
theorem kit_kp {K : PySem.W.Frag} {a C : Addr} {oe : Obj} {od : Option Obj} (hC : ExcC K C) : PySem.W.KitX K (.ref a) (.ref C) (fun h => PySem.W.InstAt h a oe C od) :=
  PySem.W.kitx_exc (by obtain ⟨cd, hc, _⟩ := PySem.W.any_some hC.hd; rw [hc]; rfl) hC.hg hC.hk hC.hs hC.ha hC.hn hC.ht hC.hm
/-- isinstance(e, c) -/
def rKi (K : PySem.W.Frag) : List V → Hp → VK → Prop := fun xs H Q => ∃ (a C dd : Addr) (fs : List (Str × V)) (c : V) (cv : Value) (b : Bool), xs = [.ref a, c] ∧ H a = some (exk a (.ref C) (some dd)) ∧ H dd = some (.xd fs) ∧ ExcC K C ∧ (∀ u, RelV c u → u = cv) ∧ PySem.W.kitOne K (.ref C) cv = some b ∧ Q (.bl b) H
theorem call_ki {X : Cx} : CallR X (.builtin "isinstance") (rKi X.K) := by
  intro pins s σ H xs us Q I r h
  obtain ⟨a, C, dd, fs, c, cv, b, rfl, h1, h2, hC, hcv, e, q⟩ := h
  obtain ⟨u1, u2, rfl, r1, r2⟩ := vals2 r
  cases (show u1 = Value.ref a from r1)
  cases hcv _ r2
  obtain ⟨oe, od, mA, J, _⟩ := kp_inst I h1 h2
  exact PySem.W.kia_one (kit_kp hC) I.kIn J e (fun z => nomatch z) fun tk => ⟨.bl b, H, I.kept (t' := tk) fun _ _ z => z, rfl, q⟩
/-- e.f -/
def tKf (K : PySem.W.Frag) (f : Str) (te : TE) : TE := fun σ H Q => te σ H fun x H1 => ∃ (a C dd : Addr) (fs : List (Str × V)) (v : V), x = .ref a ∧ H1 a = some (exk a (.ref C) (some dd)) ∧ H1 dd = some (.xd fs) ∧ XfC K C ∧ PySem.W.findIn K (.ref C) f = some none ∧ fs.lookup f = some v ∧ Q v H1
theorem pe_kf {X : Cx} {e : Expr} {te : TE} {pos : Pos} {f : Str} (he : PE X e te) (hb : attributeBase e f X.env (eval e X.env) = eval e X.env := by rfl) : PE X (.Attribute e f pos) (tKf X.K f te) := by
  constructor
  intro pins s σ H Q I h
  refine attr_of hb (thn (he.run pins s σ H _ I h) ?_)
  rintro u s1 ⟨x, H1, I1, rx, a, C, dd, fs, v, rfl, h1, h2, T, hno, hl, q⟩
  cases (show u = Value.ref a from rx)
  obtain ⟨oe, od, mA, J, hns, ho, rel⟩ := kp_inst I1 h1 h2
  obtain ⟨od2, ho2, hl2⟩ := lookIn_ns hns
  cases ho.symm.trans ho2
  obtain ⟨u2, hu, ru⟩ := RelO.some_of (v := v) (o := mA f) (by rw [← hl]; exact rel f)
  exact HandSPX.exc_get I1.kIn J T.ga T.gg T.exC (PySem.W.findObj_own T.hdC hno rfl (by rw [hl2, hu])) (handed_of ru) ⟨v, H1, I1.tok _, ru, q⟩
structure KT (X : Cx) (C : Addr) (j : Nat) (e : Expr) (b : Bool) : Prop where
  ex : ∃ t, PT X e t ∧ ∀ (fs : List (Str × V)) (σ : L2.St) (H : Hp) (Q : Bool → Hp → Prop), KpE C j fs σ H → Q b H → (∀ p o, H p = none → Q b (upd H p o)) → t σ H Q
/-- .. and nothing is made -/
structure KT0 (X : Cx) (C : Addr) (j : Nat) (e : Expr) (b : Bool) : Prop where
  ex : ∃ t, PT X e t ∧ ∀ (fs : List (Str × V)) (σ : L2.St) (H : Hp) (Q : Bool → Hp → Prop), KpE C j fs σ H → Q b H → t σ H Q
section
variable {X : Cx} {C : Addr} {j : Nat} {a e : Expr} {rest : List Expr} {b : Bool} {pos p p2 p3 p4 : Pos} {x y : Str}
theorem kt_of0 (h : KT0 X C j a b) : KT X C j a b := by
  obtain ⟨t, q, k⟩ := h.ex
  exact ⟨t, q, fun fs σ H Q h1 h2 _ => k fs σ H Q h1 h2⟩
theorem kt0_is {cv : Value} {v : V} (hC : ExcC X.K C) (he : PE X e (tC v)) (hv : ∀ u, RelV v u → u = cv) (hk : PySem.W.kitOne X.K (.ref C) cv = some b) (hm : X.mg "isinstance" = none) (hy : X.N[j]? = some y := by rfl) (hvi : Vis X.env.scope y := by first | exact Or.inl rfl | exact Or.inr (Or.inl rfl) | exact Or.inr (Or.inr rfl)) (hd : (y == ("__debug__" : Str)) = false := by decide) (hcd : (y == ("__classdict__" : Str)) = false := by decide)
    (hg : Gl X "isinstance" := by rfl) (hb : bootBuiltins "isinstance" = some (.builtin "isinstance") := by decide +kernel)
    (hs1 : starEach [.Name y p2, e] X.env = (false, eval (.Name y p2) X.env) :: starEach [e] X.env := by rfl) (hs2 : starEach [e] X.env = (false, eval e X.env) :: starEach [] X.env := by rfl) (hpl : (backTo pos (starEach [e] X.env)).any (·.1) = false := by rfl)
    (ht : ∀ whole, isTrue (.Call (.Name "isinstance" p) [.Name y p2, e] [] pos) X.env whole = (do let v ← whole; standAt (Expr.Call (.Name "isinstance" p) [.Name y p2, e] [] pos).pos; holding [v] (truthy v)) := by intro _; rfl) :
    KT0 X C j (.Call (.Name "isinstance" p) [.Name y p2, e] [] pos) b := by
  refine ⟨_, pt_val (pe_callB call_ki hg hm hb (pa_cons (pe_var hy hvi hd hcd) (pa_cons he pa_nil hs2) hs1) (by decide) (by decide) hs1 hpl) ht, fun fs σ H Q ⟨a, dd, h1, h2, h3⟩ q => ?_⟩
  exact ⟨.ref a, h1, a, C, dd, fs, v, cv, b, rfl, h2, h3, hC, hv, hk, b, rfl, q⟩
end
end FL
namespace FL
open PySem PySem.Spec PyProof.Rows L2
/-- c = e, e's name gone -/
def keptN (i j : Nat) (a : Addr) (ρ : En) : En := ((ρ.set i (some (.obj a))).set j (some (.obj a))).set i none
def rRefused (i j : Nat) (C : Addr) (f : Str) (rb : RS) : RS := fun ρ E F => rb ρ (fun c fl ρ' => c = .ref C ∧ j < ρ'.length ∧ ∃ d, fl = some [(f, d)] ∧ ∀ a, nf (keptN i j a ρ') (F.rt d)) { nx := fun ρ' => ρ'[j]? = some (some .non) ∧ F.rt .non ρ', rt := F.rt, bk := F.bk, ct := F.ct }
/-- the name is None: told -/
def rIsN3 (j : Nat) : RS := rIf (rTst (rBin (dIsN0 false) (oV (rVar j)) (oV (rC .non)))) (rRet (rC .non)) rNx
theorem isN3_yes {j : Nat} {ρ : En} {E : EE} {F : Fin} (h : ρ[j]? = some (some .non)) (q : F.rt .non ρ) : rIsN3 j ρ E F := by
  show rVar j ρ E _
  unfold rVar
  rw [h]
  exact ⟨fun _ => q, fun z => nomatch z⟩
theorem isN3_no {j : Nat} {ρ : En} {E : EE} {F : Fin} {a : Addr} (h : ρ[j]? = some (some (.obj a))) (q : F.nx ρ) : rIsN3 j ρ E F := by
  show rVar j ρ E _
  unfold rVar
  rw [h]
  exact ⟨(fun z => nomatch z), fun _ => q⟩
end FL
namespace FL
open PySem PySem.Spec PyProof.Rows L2
/-- o.split(e): a new list of texts -/
def rSplit (ro re : RE) : RE := fun ρ E Q => ro ρ E fun d ρ1 => match d with
  | .str a => re ρ1 E fun e ρ2 => match e with
    | .str b => (b.length == 0) = false ∧ a.length + 2 ≤ sizeLine ∧ Q (.lst .flat ((Txt.split a b).map D.str)) ρ2
    | _ => False
  | _ => False
/-- o.partition(e): a tuple of three texts -/
def rPart (ro re : RE) : RE := fun ρ E Q => ro ρ E fun d ρ1 => match d with
  | .str a => re ρ1 E fun e ρ2 => match e with
    | .str b => (b.length == 0) = false ∧ a.length ≤ sizeLine ∧ Q (.tup false [.str (Txt.partition a b).1, .str (Txt.partition a b).2.1, .str (Txt.partition a b).2.2]) ρ2
    | _ => False
  | _ => False
def dIntS : DC := fun ds Q => match ds with
  | [.str a] => ∃ n, PySem.intText? a = some n ∧ a.length ≤ 640 ∧ Q (.int n)
  | _ => False
/-- one sign in a text -/
def dInS (neg : Bool) : DO
  | .str k, .str z, Q => ∃ c, k = ⟨#[c]⟩ ∧ Q (.bl (neg ^^ decide (c ∈ z.cps.toList)))
  | _, _, _ => False
def sgD (x : Str) : List D := x.cps.toList.map fun c => D.str ⟨#[c]⟩
/-- the signs of a text -/
def rItS (re : RE) : RI := fun ρ E Q => re ρ E fun d ρ' => match d with
  | .str x => x.length ≤ sizeLine ∧ Q (sgD x) ρ'
  | _ => False
theorem own_strs (ys : List Str) : ownL (ys.map D.str) = false := ownL_iff.mpr fun d h => by
  obtain ⟨y, _, rfl⟩ := List.mem_map.mp h
  rfl
theorem rep_strs {K : PySem.W.Frag} {w : Wd} : ∀ (ys : List Str) (ℓ : Loc) (j : Nat), RepL K w (ys.map D.str) ℓ j (ys.map V.str)
  | [], _, _ => by simp [RepL]
  | y :: ys, ℓ, j => by
    simp only [List.map_cons, RepL, Rep]
    exact ⟨_, _, rfl, rfl, rep_strs ys ℓ (j + 1)⟩
section
variable {X : Cx} {W : WX} {pos apos : Pos} {o e : Expr} {ro re : RE}
theorem fe_split (ho : FE X W o ro) (he : FE X W e re) (hs : starEach [e] X.env = [(false, eval e X.env)] := by rfl) (hbase : attributeBase o "split" X.env (eval o X.env) = eval o X.env := by rfl)
    (hline : (apos.endLine == pos.line) = true := by rfl) : FE X W (.Call (.Attribute o "split" apos) [e] [] pos) (rSplit ro re) := by
  obtain ⟨t, p, l⟩ := ho.ex
  obtain ⟨t', p', l'⟩ := he.ex
  refine ⟨_, pe_split p p' hs hbase hline, fun τ w σ ρ E Q Qv hn st h hq hx => ?_⟩
  refine l τ w σ ρ E _ _ hn st h (fun d ρ1 w1 v h1 e1 r1 => ?_) hx
  split at h1
  · rename_i a
    simp only [Rep] at r1
    subst r1
    refine ⟨⟨a, rfl⟩, ?_⟩
    refine l' (τ + 1) w1 σ ρ1 E _ _ (by rw [e1.len]; omega) e1.st h1 (fun dk ρ2 w2 vk h2 e2 r2 => ?_) (hx.then e1 (by omega))
    split at h2
    · rename_i b
      obtain ⟨hb, hz, q⟩ := h2
      simp only [Rep] at r2
      subst r2
      have e12 := e1.trans e2 (by omega)
      refine ⟨a, b, rfl, rfl, hb, hz, fun p n => ?_⟩
      obtain ⟨e3, r3⟩ := EndE.own (τ := τ) .flat e12.st n (rep_strs (Txt.split a b) [τ] 0) (by rw [List.length_map]; exact Nat.le_trans (PyProof.Rows.split_le a b) hz) (fun _ => own_strs _) rfl
      exact hq _ ρ2 _ _ q (e12.trans e3 (Nat.le_refl _)) r3
    · exact h2.elim
  · exact h1.elim
theorem fe_part (ho : FE X W o ro) (he : FE X W e re) (hs : starEach [e] X.env = [(false, eval e X.env)] := by rfl) (hbase : attributeBase o "partition" X.env (eval o X.env) = eval o X.env := by rfl)
    (hline : (apos.endLine == pos.line) = true := by rfl) : FE X W (.Call (.Attribute o "partition" apos) [e] [] pos) (rPart ro re) := by
  obtain ⟨t, p, l⟩ := ho.ex
  obtain ⟨t', p', l'⟩ := he.ex
  refine ⟨_, pe_partition p p' hs hbase hline, fun τ w σ ρ E Q Qv hn st h hq hx => ?_⟩
  refine l τ w σ ρ E _ _ hn st h (fun d ρ1 w1 v h1 e1 r1 => ?_) hx
  split at h1
  · rename_i a
    simp only [Rep] at r1
    subst r1
    refine ⟨⟨a, rfl⟩, ?_⟩
    refine l' (τ + 1) w1 σ ρ1 E _ _ (by rw [e1.len]; omega) e1.st h1 (fun dk ρ2 w2 vk h2 e2 r2 => ?_) (hx.then e1 (by omega))
    split at h2
    · rename_i b
      obtain ⟨hb, hz, q⟩ := h2
      simp only [Rep] at r2
      subst r2
      have e12 := e1.trans e2 (by omega)
      refine ⟨a, b, rfl, rfl, hb, hz, fun p n => ?_⟩
      obtain ⟨e3, r3⟩ := EndE.tup (τ := τ) (ℓ := [τ]) false e12.st n (rep_strs [(Txt.partition a b).1, (Txt.partition a b).2.1, (Txt.partition a b).2.2] [τ] 0) (by show 3 ≤ sizeLine; rw [sizeLine_eq]; omega) (fun _ => rfl)
      exact hq _ ρ2 _ _ q (e12.trans e3 (Nat.le_refl _)) r3
    · exact h2.elim
  · exact h1.elim
theorem fc_intS : FC X (.type "int") dIntS := by
  refine ⟨_, call_int_str, fun τ w σ ρ vs ds Q Qv hn st rs hd hq => ?_⟩
  unfold dIntS at hd
  split at hd
  · obtain ⟨v, ℓ, rfl, r⟩ := reps1 rs
    obtain ⟨n, e1, e2, q⟩ := hd
    simp only [Rep] at r
    subst r
    exact ⟨_, n, rfl, e1, e2, hq _ w _ q (.refl st) rfl⟩
  · exact hd.elim
theorem fop_notinS : FOp X (compareOp .NotIn) (dInS true) := ⟨_, op_notIn_sign, fun τ w σ ρ x y dx dy ℓ ℓ' Q Qv hn st rx ry hd hq => by
  unfold dInS at hd
  split at hd
  · obtain ⟨c, rfl, q⟩ := hd
    simp only [Rep] at rx ry
    subst rx; subst ry
    rw [Bool.true_xor] at q
    exact ⟨c, _, rfl, rfl, hq _ w _ q (.refl st) rfl⟩
  · exact hd.elim⟩
theorem fi_str {tg : Expr} (h : FE X W e re) : FI X W tg e (rItS re) := by
  obtain ⟨t, q, k⟩ := h.ex
  refine ⟨_, pi_str q, fun τ w σ ρ E Q R hn st h hq hx => ?_⟩
  refine k τ w σ ρ E _ _ hn st h (fun d ρ1 w1 v h1 e1 r1 => ?_) hx
  split at h1
  · rename_i x
    simp only [Rep] at r1
    subst r1
    refine ⟨x, rfl, hq (sgD x) ρ1 w1 _ h1.2 (by unfold sgD; rw [List.length_map]; simpa [Str.length] using h1.1) e1 ?_⟩
    intro i w2 wf2 sm
    refine ⟨fun d e => ?_, fun hl => by unfold sgD at hl; rw [List.length_map] at hl; show x.cps.size ≤ i; simp at hl; omega⟩
    unfold sgD at e
    rw [List.getElem?_map] at e
    cases q2 : x.cps.toList[i]? with
    | none => rw [q2] at e; cases e
    | some c =>
      rw [q2] at e; cases e
      have hc : x.cps[i]? = some c := by simpa using q2
      refine ⟨(Array.getElem?_eq_some_iff.mp hc).1, fun y H' hy => ?_⟩
      obtain ⟨rfl, c', hc', rfl⟩ := hy
      rw [hc] at hc'; cases hc'
      exact ⟨w2, rfl, .refl wf2, rfl, fun ℓ => rfl⟩
  · exact h1.elim
end
end FL
namespace FL
open PySem PySem.Spec PyProof.Rows L2
section
variable {X : Cx} {W : WX} {M : List Nat} {C cT : Addr} {i j : Nat} {x n y f : Str} {body b4 : List Stmt} {e4 : Expr} {te4 : TE} {s3 : Stmt} {rb : RS} {np pos pos' p1 p2 p3 p4 p5 p6 p7 p8 : Pos} {test : Expr}
theorem fss_refused3 (tk : Takes X W) (hC : EK X.K C f) (g : X.mg x = some (.ref cT)) (hm : PySem.W.exmOne X.K (.ref C) (.ref cT) = some true) (nd : X.N.Nodup)
    (hB : ∀ (W' : WX) (pn : List (Addr × Obj)) (xe : Value → Shared → Prop), Takes (X.tr pn xe) W' → PassesOwn (model X.prog X.w) X.A X.env xe → FSs (X.tr pn xe) W' M body rb)
    (hK : ∀ (a : Addr) (pn : List (Addr × Obj)), PSs (X.suite a pn) [.Assign [.Name y p1] (.Name n p2) p3] (tAsg (tVar i) (gName j)))
    (h3 : FS X W M s3 (rIsN3 j)) (h4 : KT X C j test true) (he4 : PE X e4 te4)
    (hi : X.N[i]? = some n := by rfl) (hj : X.N[j]? = some y := by rfl) (hij : i ≠ j := by decide) (hMi : M.contains i = false := by rfl) (hMj : M.contains j = false := by rfl)
    (hst : X.stack = X.env :: X.outer := by rfl) (hfr : X.env.frame = some X.env.locals := by rfl) (kn : X.env.kindOf n = some .local := by rfl) (hg : Gl X x := by rfl) (hdb : (x == ("__debug__" : Str)) = false := by decide)
    (hvi : Vis X.env.scope y := by first | exact Or.inl rfl | exact Or.inr (Or.inl rfl) | exact Or.inr (Or.inr rfl)) (hd : (y == ("__debug__" : Str)) = false := by decide) (hcd : (y == ("__classdict__" : Str)) = false := by decide)
    (hat : attributeBase (.Name y p6) f X.env (eval (.Name y p6) X.env) = eval (.Name y p6) X.env := by rfl) :
    FSs X W M [.Try body [.ExceptHandler (some (.Name x np)) (some n) [.Assign [.Name y p1] (.Name n p2) p3] pos'] [] [] pos, s3, .Return (some (.IfExp test (.Attribute (.Name y p6) f p7) e4 p5)) p8] (rRefused i j C f rb) := by
  let tb : WX → TS := fun W' Z σ H => ∃ w ρ E F, w.H = H ∧ StE X.K w σ ρ ∧ rb ρ E F ∧ SF X.K W' M w σ ρ E F Z
  obtain ⟨t3, q3, k3⟩ := h3.ex
  obtain ⟨t4, q4, k4⟩ := h4.ex
  have hil : i < X.N.length := (List.getElem?_eq_some_iff.mp hi).1
  refine ⟨_, pss_cons (ps_try_keep (tb := tb) hst hfr nd hi kn ⟨hg, hdb, .inl g⟩ (fun W' pn xe t po => ?_) hK hil) (pss_cons q3 (pss_one (ps_ret (pe_ifExp q4 (pe_kf (pe_var hj hvi hd hcd) hat) he4)))), fun w σ ρ E F Z st h hf => ?_⟩
  · obtain ⟨t', q, k⟩ := (hB W' pn xe t po).ex
    exact ⟨fun pins s σ H Z I ⟨w, ρ, E, F, e, st, h, hf⟩ => q.run pins s σ H Z I (by subst e; exact k w σ ρ E F Z st h hf)⟩
  refine ⟨w, ρ, _, _, rfl, st, h, ⟨fun ρ' w' σ' hx en => ?_, hf.rt, hf.bk, hf.ct, fun c fs ρ' w' σ' x' hx en xr => ?_⟩⟩
  · refine k3 w' σ' ρ' E0D { nx := fun _ => False, rt := fun d ρ2 => d = .non ∧ ρ2 = ρ' } _ en.st (isN3_yes hx.1 ⟨rfl, rfl⟩) ⟨fun _ _ _ z => z.elim, fun d ρ2 w2 σ2 v z e2 r2 => ?_, fun _ _ _ z => z.elim, fun _ _ _ z => z.elim, fun _ _ _ _ _ _ z => z.elim⟩
    obtain ⟨rfl, rfl⟩ := z
    exact hf.rt .non ρ2 w2 σ2 v hx.2 (en.trans e2) (by have := en.len; rw [this] at r2; exact r2)
  · obtain ⟨rfl, hjl, d, rfl, hx⟩ := hx
    cases x' with
    | none => exact xr.elim
    | some dd =>
      obtain ⟨us, g1, g2, g3, g4⟩ := xr
      obtain ⟨v, vr, rfl, r1, r2⟩ := g4
      cases (show vr = [] from r2)
      have ho : d.own = false := by
        have : (d.own || false) = false := g3
        rwa [Bool.or_false] at this
      refine ⟨hm, fun a na => ?_⟩
      -- the world behind the clause
      have es := EndE.shr (τ := ρ'.length + 1) en.st na (o := exk a (.ref C) (some dd))
      have e1 := (es.s (M := M) (Nat.lt_succ_self _)).trans (end_set (M := M) (i := i) (v := some (.ref a)) (d := some (.obj a)) es.st hMi fun e he => by cases he; exact ⟨_, rfl, by simp only [Rep]⟩)
      have e2 := e1.trans (end_set (M := M) (i := j) (v := some (.ref a)) (d := some (.obj a)) e1.st hMj fun e he => by cases he; exact ⟨_, rfl, by simp only [Rep]⟩)
      have e3 := e2.trans (end_set (M := M) (i := i) (v := none) (d := none) e2.st hMi fun e he => nomatch he)
      have eo := en.trans e3
      have hjk : (keptN i j a ρ')[j]? = some (some (.obj a)) := by
        unfold keptN
        rw [List.getElem?_set_ne hij, List.getElem?_set_self (by rw [List.length_set]; exact hjl)]
      have sa : (w'.shr a (exk a (.ref C) (some dd))).S a = some (exk a (.ref C) (some dd)) := upd_same
      have nad : dd ≠ a := fun z => by
        have z1 := en.st.wf.sh dd _ g1
        rw [z, na] at z1
        cases z1
      have sd : (w'.shr a (exk a (.ref C) (some dd))).S dd = some (.xd [(f, v)]) := by
        show upd w'.S a _ dd = _
        rw [upd_ne nad]; exact g1
      refine k3 (w'.shr a (exk a (.ref C) (some dd))) _ (keptN i j a ρ') E0D { nx := fun ρ2 => ρ2 = keptN i j a ρ', rt := fun _ _ => False } _ e3.st (isN3_no hjk rfl) ⟨fun ρ3 w3 σ3 z e4 => ?_, fun _ _ _ _ _ z => z.elim, fun _ _ _ z => z.elim, fun _ _ _ z => z.elim, fun _ _ _ _ _ _ z => z.elim⟩
      subst z
      have ha3 : w3.H a = some (exk a (.ref C) (some dd)) := e4.st.wf.sh a _ (e4.ext.s a _ sa)
      have hd3 : w3.H dd = some (.xd [(f, v)]) := e4.st.wf.sh dd _ (e4.ext.s dd _ sd)
      have hj3 : σ3[j]? = some (some (.ref a)) := by
        obtain ⟨u, hu, ru⟩ := e4.st.rep j _ hjk
        cases (show u = V.ref a from ru)
        exact hu
      have rv : Rep X.K w3 d [ρ.length + 1] v := Rep.free (w := w') ((es.ext.s).trans e4.ext.s) d ho r1
      have en3 := eo.trans e4
      have fin : ∀ w4, EndS X.K M w3 σ3 (keptN i j a ρ') w4 σ3 (keptN i j a ρ') → Rep X.K w4 d [ρ.length + 1] v → Z.rt v w4.H := fun w4 e5 r5 => hf.rt d _ w4 σ3 v (nf_of (hx a)) (en3.trans e5) r5
      refine k4 [(f, v)] σ3 w3.H _ ⟨a, dd, hj3, ha3, hd3⟩ ?_ fun p o np => ?_
      · rw [if_pos rfl]
        exact ⟨.ref a, hj3, a, C, dd, [(f, v)], v, rfl, ha3, hd3, hC.xf, hC.nf, by simp [List.lookup], fin w3 (.refl e4.st) rv⟩
      · rw [if_pos rfl]
        have e5 := EndE.shr (τ := (keptN i j a ρ').length + 1) e4.st np (o := o)
        have pa : a ≠ p := fun z => by rw [← z, ha3] at np; cases np
        have pd : dd ≠ p := fun z => by rw [← z, hd3] at np; cases np
        exact ⟨.ref a, hj3, a, C, dd, [(f, v)], v, rfl, by rw [upd_ne pa]; exact ha3, by rw [upd_ne pd]; exact hd3, hC.xf, hC.nf, by simp [List.lookup], fin (w3.shr p o) (e5.s (Nat.lt_succ_self _)) (Rep.free (w := w3) e5.ext.s d ho rv)⟩
end
def rCntP (K : PySem.W.Frag) : V → List V → Hp → VK → Prop := fun x xs H Q => ∃ (p : Addr) (ys : List Str) (k : Str), x = .ref p ∧ xs = [.str k] ∧ SqL K H p (ys.map V.str) ∧ Q (.int (ys.count k : Nat)) H
theorem cnt_strs (k : Str) : ∀ {its : List Value} {ys : List Str}, StrsAre its ys → its.countP (isStrOf k) = ys.count k
  | _, _, .nil => rfl
  | _, _, .cons n u h => by
    rw [List.countP_cons, List.count_cons, cnt_strs k h]
    rfl
theorem mt_countP {X : Cx} : MtR X "list.count" (rCntP X.K) := by
  intro pins s σ H x xs v us Q I rx rxs h
  obtain ⟨p, ys, k, rfl, rfl, hs, q⟩ := h
  cases rx
  obtain ⟨u, rfl, ru⟩ := rxs.one
  obtain ⟨t, rfl⟩ := ru
  obtain ⟨its, rv, ⟨⟨cls, dd, data, sl⟩, n, ho, hc, hdn, hd⟩, hlen⟩ := I.list hs
  simp only at hc hd
  subst hc hd
  have hi := strs_of_vals rv
  refine call_meets PySem.F.slot_list_count ⟨_, ho, rfl⟩ PySem.F.entry_list_count (PySem.F.args_list_count_2 _ _)
    (SeqAt.list_countAt p its.toArray n dd sl (.str k t) (isStrOf k)) ⟨ho, fun y hy => (eq_isStrOf k t hi y (by simpa using hy)).at _ _, ?_⟩
  have ec : its.toArray.toList.countP (isStrOf k) = ys.count k := cnt_strs k hi
  refine ⟨.int (ys.count k : Nat), H, I.tok _, ⟨s.toks, ?_⟩, q⟩
  show Value.int ((its.toArray.toList.countP (isStrOf k) : Nat) : Int) s.toks = Value.int ((ys.count k : Nat) : Int) s.toks
  rw [ec]
/-- e.count(k), e a list of texts -/
def rCntS (re rk : RE) : RE := fun ρ E Q => re ρ E fun d ρ1 => (∃ o ds, d = .lst o ds) ∧ rk ρ1 E fun dk ρ2 => ∃ (o : Ow) (ys : List Str) (k : Str), d = .lst o (ys.map D.str) ∧ dk = .str k ∧ Q (.int (ys.count k : Nat)) ρ2
/-- e.index(k), e a list of texts -/
def rIdxS (re rk : RE) : RE := fun ρ E Q => re ρ E fun d ρ1 => (∃ o ds, d = .lst o ds) ∧ rk ρ1 E fun dk ρ2 => ∃ (o : Ow) (ys : List Str) (k : Str) (j : Nat), d = .lst o (ys.map D.str) ∧ dk = .str k ∧ ys[j]? = some k ∧ (∀ (m : Nat) (z : Str), m < j → ys[m]? = some z → z ≠ k) ∧ Q (.int (j : Nat)) ρ2
section
variable {X : Cx} {W : WX} {pos apos : Pos}
theorem fe_cntS {e k : Expr} {re rk : RE} (he : FE X W e re) (hk : FE X W k rk) (hbase : attributeBase e "count" X.env (eval e X.env) = eval e X.env := by rfl)
    (hfew : ((backTo pos (starEach [k] X.env)).all (fun x => !x.1) && (backToKw pos (keywordEach [] X.env)).all (fun x => x.1.isSome)
      && decide ([k].length + ([] : List Keyword).length + (if ([] : List Keyword).isEmpty then 0 else 1) < 30)) = true := by rfl)
    (hline : (apos.endLine == pos.line) = true := by rfl) (hs : starEach [k] X.env = (false, eval k X.env) :: starEach [] X.env := by rfl) (hplain : (backTo pos (starEach [] X.env)).any (·.1) = false := by rfl) :
    FE X W (.Call (.Attribute e "count" apos) [k] [] pos) (rCntS re rk) := by
  obtain ⟨t, p, l⟩ := he.ex
  obtain ⟨t', p', l'⟩ := hk.ex
  refine ⟨_, pe_bm PySem.F.plainAttrs_list PySem.F.slot_list_count PySem.F.type_list_count mt_countP p (pa_cons p' pa_nil hs) hbase hfew hline hs hplain, fun τ w σ ρ E Q Qv hn st h hq hx => ?_⟩
  refine l τ w σ ρ E _ _ hn st h (fun d ρ1 w1 v h1 e1 r1 => ?_) hx
  obtain ⟨⟨o, ds, rfl⟩, h1⟩ := h1
  refine ⟨tyL e1.st.wf r1, ?_⟩
  refine l' (τ + 1) w1 σ ρ1 E _ _ (by rw [e1.len]; omega) e1.st h1 (fun dk ρ2 w2 vk h2 e2 r2 => ?_) (hx.then e1 (by omega))
  obtain ⟨o', ys, y, ed, rfl, q⟩ := h2
  cases ed
  have e12 := e1.trans e2 (by omega)
  have r1' : Rep X.K w2 (.lst o (ys.map D.str)) [τ] v := e2.ext.rep (r := []) ⟨by rw [e1.len]; exact hn, by omega⟩ r1
  obtain ⟨a, vs, rfl, h1, h2⟩ := lst_at e2.st.wf r1'
  obtain rfl := repl_strs h2
  simp only [Rep] at r2
  subst r2
  exact ⟨a, ys, y, rfl, rfl, SqL.of h1, hq _ ρ2 w2 _ q e12 rfl⟩
theorem fe_idxS {e k : Expr} {re rk : RE} (he : FE X W e re) (hk : FE X W k rk) (hbase : attributeBase e "index" X.env (eval e X.env) = eval e X.env := by rfl)
    (hfew : ((backTo pos (starEach [k] X.env)).all (fun x => !x.1) && (backToKw pos (keywordEach [] X.env)).all (fun x => x.1.isSome)
      && decide ([k].length + ([] : List Keyword).length + (if ([] : List Keyword).isEmpty then 0 else 1) < 30)) = true := by rfl)
    (hline : (apos.endLine == pos.line) = true := by rfl) (hs : starEach [k] X.env = (false, eval k X.env) :: starEach [] X.env := by rfl) (hplain : (backTo pos (starEach [] X.env)).any (·.1) = false := by rfl) :
    FE X W (.Call (.Attribute e "index" apos) [k] [] pos) (rIdxS re rk) := by
  obtain ⟨t, p, l⟩ := he.ex
  obtain ⟨t', p', l'⟩ := hk.ex
  refine ⟨_, pe_bm PySem.F.plainAttrs_list PySem.F.slot_list_index PySem.F.type_list_index mt_index p (pa_cons p' pa_nil hs) hbase hfew hline hs hplain, fun τ w σ ρ E Q Qv hn st h hq hx => ?_⟩
  refine l τ w σ ρ E _ _ hn st h (fun d ρ1 w1 v h1 e1 r1 => ?_) hx
  obtain ⟨⟨o, ds, rfl⟩, h1⟩ := h1
  refine ⟨tyL e1.st.wf r1, ?_⟩
  refine l' (τ + 1) w1 σ ρ1 E _ _ (by rw [e1.len]; omega) e1.st h1 (fun dk ρ2 w2 vk h2 e2 r2 => ?_) (hx.then e1 (by omega))
  obtain ⟨o', ys, y, j, ed, rfl, hj, hno, q⟩ := h2
  cases ed
  have e12 := e1.trans e2 (by omega)
  have r1' : Rep X.K w2 (.lst o (ys.map D.str)) [τ] v := e2.ext.rep (r := []) ⟨by rw [e1.len]; exact hn, by omega⟩ r1
  obtain ⟨a, vs, rfl, h1, h2⟩ := lst_at e2.st.wf r1'
  obtain rfl := repl_strs h2
  simp only [Rep] at r2
  subst r2
  refine ⟨a, ys.map V.str, .str y, j, .str y, rfl, rfl, SqL.of h1, rfl, ?_, ?_, ?_, ?_, ?_⟩
  · rw [List.all_map]; exact List.all_eq_true.mpr fun x _ => rfl
  · rw [List.getElem?_map, hj]; rfl
  · show decide _ = true
    exact decide_eq_true rfl
  · intro m z' hm hz
    rw [List.getElem?_map] at hz
    obtain ⟨z, e3, rfl⟩ := Option.map_eq_some_iff.mp hz
    show decide _ = false
    exact decide_eq_false fun e => hno m z hm e3 e
  · exact hq _ ρ2 w2 _ q e12 rfl
end
end FL
namespace Cm
open PySem PySem.Spec PyProof.Rows L2 FL
def rb_sum_text : RS := (rSeq (rSetF 1 (rComp (rEn (rAC (oV (rVar 0)) rA0)) (gTp 2 (gCs (gNm 2) (gCs (gNm 3) gNl))) (rTst (rBin dNe (oV (rVar 3)) (oV (rC (.int 0))))) (rBin dAdd (oV (rBin dAdd (oV (rCB dStrI (rAC (oV (rVar 3)) rA0))) (oV (rC (.str ":"))))) (oV (rCB dStrI (rAC (oV (rVar 2)) rA0)))) [3, 2]))
  (rRet (rIfE (rTst (rBin dGt (oV (rCB dLen (rAC (oV (rVar 1)) rA0))) (oV (rC (.int 0))))) (rJoin (rC (.str " ")) (rVar 1)) (rC (.str "-")))))
abbrev RD_sum_text (r : FSpec) : Prop := ∀ ds ED QD, ds.length = 1 → r ds ED QD → rb_sum_text (startD ["part", "words", "place", "number"] ds) (fun c fs ρ => ED c fs (ρ.take 1)) (finD 1 QD)
def rb_product_text (r_sum_text : FSpec) : RS := (rSeq (rAsg (gTp 3 (gCs (gNm 1) (gCs (gNm 2) (gCs (gNm 3) gNl)))) (rVar 0))
  (rRet (rBin dAdd (oV (rBin dAdd (oV (rBin dAdd (oV (rBin dAdd (oV (rCall [] r_sum_text (rAC (oV (rVar 1)) rA0))) (oV (rC (.str " * "))))) (oV (rCall [] r_sum_text (rAC (oV (rVar 2)) rA0))))) (oV (rC (.str " > "))))) (oV (rCall [] r_sum_text (rAC (oV (rVar 3)) rA0))))))
abbrev RD_product_text (r : FSpec) (r_sum_text : FSpec) : Prop := ∀ ds ED QD, ds.length = 1 → r ds ED QD → (rb_product_text r_sum_text) (startD ["product", "l", "r", "o"] ds) (fun c fs ρ => ED c fs (ρ.take 1)) (finD 1 QD)
def rb_scheme_text (r_product_text : FSpec) : RS := (rSeq (rSetF 1 (rLst (rAC (oV (rJoin (rC (.str " ")) (rBin dAdd (oV (rLst (rAC (oV (rC (.str "scheme"))) rA0))) (oV (rComp (rItA (rSl (oV (rVar 0)) rP0 (rP1 (rC (.int 3))))) (gNm 3) rYes (rCB dStrI (rAC (oV (rVar 3)) rA0)) [3]))))) rA0)))
  (rRet (rJoin (rC (.str "\n")) (rBin dAdd (oV (rVar 1)) (oV (rComp (rItA (rBin dIx (oV (rVar 0)) (oV (rC (.int 3))))) (gNm 2) rYes (rCall [] r_product_text (rAC (oV (rVar 2)) rA0)) [2]))))))
abbrev RD_scheme_text (r : FSpec) (r_product_text : FSpec) : Prop := ∀ ds ED QD, ds.length = 1 → r ds ED QD → (rb_scheme_text r_product_text) (startD ["scheme", "rows", "product", "length"] ds) (fun c fs ρ => ED c fs (ρ.take 1)) (finD 1 QD)
def rb_law_lengths (r_law_take : FSpec) : RS := (rRet (rComp (rRg1 (rAC (oV (rC (.int 3))) rA0)) (gNm 2) rYes (rIc (fun i => 1 + i) (oV (rCall [0] r_law_take (rAC (oN 0) (rAC (oV (rVar 1)) rA0))))) [2]))
abbrev RD_law_lengths (r : FSpec) (r_law_take : FSpec) : Prop := ∀ ds ED QD, ds.length = 2 → r ds ED QD → (rb_law_lengths r_law_take) (startD ["_law_box_here", "_law_most", "_law_side"] ds) (fun c fs ρ => ED c fs (ρ.take 2)) (finD 2 QD)
def rb_law_sum : RS := (rSeq (rSet 1 (rLst rA0))
  (rSeq (rFor (rEn (rAC (oV (rVar 0)) rA0)) (gTp 2 (gCs (gNm 2) (gCs (gNm 3) gNl))) (rIf (rTst (rBin dNe (oV (rVar 3)) (oV (rC (.int 0))))) (rDrop (rApp 1 (rBin dAdd (oV (rBin dAdd (oV (rCB dStrI (rAC (oV (rVar 3)) rA0))) (oV (rC (.str ":"))))) (oV (rCB dStrI (rAC (oV (rVar 2)) rA0)))))) rNx))
  (rRet (rJoin (rC (.str " ")) (rOrT (rVar 1) (rLst (rAC (oV (rC (.str "-"))) rA0)))))))
abbrev RD_law_sum (r : FSpec) : Prop := ∀ ds ED QD, ds.length = 1 → r ds ED QD → rb_law_sum (startD ["_law_part_here", "_law_words", "_law_place", "_law_number_here"] ds) (fun c fs ρ => ED c fs (ρ.take 1)) (finD 1 QD)
def rb_law_text (r_law_sum : FSpec) : RS := (rSeq (rSet 1 (rLst (rAC (oV (rBin dAdd (oV (rC (.str "scheme "))) (oV (rJoin (rC (.str " ")) (rComp (rItA (rSl (oV (rVar 0)) rP0 (rP1 (rC (.int 3))))) (gNm 5) rYes (rCB dStrI (rAC (oV (rVar 5)) rA0)) [5]))))) rA0)))
  (rSeq (rFor (rItA (rBin dIx (oV (rVar 0)) (oV (rC (.int 3))))) (gTp 3 (gCs (gNm 2) (gCs (gNm 3) (gCs (gNm 4) gNl)))) (rDrop (rApp 1 (rBin dAdd (oV (rBin dAdd (oV (rBin dAdd (oV (rBin dAdd (oV (rCall [] r_law_sum (rAC (oV (rVar 2)) rA0))) (oV (rC (.str " * "))))) (oV (rCall [] r_law_sum (rAC (oV (rVar 3)) rA0))))) (oV (rC (.str " > "))))) (oV (rCall [] r_law_sum (rAC (oV (rVar 4)) rA0)))))))
  (rRet (rJoin (rC (.str "\n")) (rVar 1)))))
abbrev RD_law_text (r : FSpec) (r_law_sum : FSpec) : Prop := ∀ ds ED QD, ds.length = 1 → r ds ED QD → (rb_law_text r_law_sum) (startD ["_law_scheme_here", "_law_rows", "_law_l", "_law_r", "_law_o", "_law_length"] ds) (fun c fs ρ => ED c fs (ρ.take 1)) (finD 1 QD)
end Cm
namespace Cm
open PySem PySem.Spec PyProof.Rows L2 FL
end Cm
set_option maxHeartbeats 0
namespace Cm
open PySem PySem.Spec PyProof.Rows L2 FL
/-- fewer than n bits -/
def Bt (n : Nat) (x : Int) : Prop := x.natAbs < 2 ^ n
theorem Bt.mono {a b : Nat} {x : Int} (h : Bt a x) (k : a ≤ b) : Bt b x := Nat.lt_of_lt_of_le h (Nat.pow_le_pow_right (by decide) k)
theorem Bt.ok {a b : Nat} {x y : Int} (h : Bt a x) (k : Bt b y) (ha : 0 < a := by decide) (hb : 0 < b := by decide) (hab : a + b ≤ 1000000 := by decide) : MulOk x y := .inr (wide_mul h k ha hb hab)
theorem Bt.add {a : Nat} {x y : Int} (h : Bt a x) (k : Bt a y) : Bt (a + 1) (x + y) := by
  unfold Bt at *
  rw [Nat.pow_succ]
  omega
theorem Bt.zero {a : Nat} : Bt a 0 := Nat.two_pow_pos a
theorem Bt.neg {a : Nat} {x : Int} (h : Bt a x) : Bt a (-x) := by unfold Bt at *; omega
theorem Bt.sub {a : Nat} {x y : Int} (h : Bt a x) (k : Bt a y) : Bt (a + 1) (x - y) := h.add k.neg
theorem Bt.sum {a : Nat} : ∀ {l : List Int}, (∀ x ∈ l, Bt a x) → l.sum.natAbs ≤ l.length * 2 ^ a
  | [], _ => by simp
  | x :: l, h => by
    have h1 : x.natAbs < 2 ^ a := h x List.mem_cons_self
    have h2 := Bt.sum fun y hy => h y (List.mem_cons_of_mem _ hy)
    rw [List.sum_cons, List.length_cons, Nat.succ_mul]
    omega
def Bts (n : Nat) (xs : List Int) : Prop := ∀ x ∈ xs, Bt n x
theorem Bts.mono {a b : Nat} {xs : List Int} (h : Bts a xs) (k : a ≤ b) : Bts b xs := fun x hx => (h x hx).mono k
theorem getD_mem {xs : List Int} {i : Nat} (h : i < xs.length) : xs.getD i 0 ∈ xs := by
  rw [List.getD_eq_getElem?_getD, List.getElem?_eq_getElem h]; exact List.getElem_mem h
theorem Bts.getD {n : Nat} {xs : List Int} (h : Bts n xs) (i : Nat) : Bt n (xs.getD i 0) := by
  by_cases hi : i < xs.length
  · exact h _ (getD_mem hi)
  · rw [List.getD_eq_getElem?_getD, List.getElem?_eq_none (by omega)]; exact Bt.zero
end Cm
set_option maxHeartbeats 0
namespace Cm
open PySem PySem.Spec PyProof.Rows L2 FL
def Sg {α : Type} (l : List α) (f : α → Int) : Int := (l.map f).sum
end Cm
set_option maxHeartbeats 0
namespace Cm
open PySem PySem.Spec PyProof.Rows L2 FL
end Cm
set_option maxHeartbeats 0
namespace Cm
open PySem PySem.Spec PyProof.Rows L2 FL
def Tm.neg (t : Tm) : Tm := ⟨t.k, t.i, t.j, 0 - t.c⟩
end Cm
namespace Cm
open PySem PySem.Spec PyProof.Rows L2 FL
end Cm
namespace Cm
open PySem PySem.Spec PyProof.Rows L2 FL
set_option maxHeartbeats 0
/-- the numbers that are not 0, with their places -/
def wp (xs : List Int) : List (Int × Nat) := xs.zipIdx.filter fun p => decide (p.1 ≠ 0)
theorem wp_mem {xs : List Int} {p : Int × Nat} (h : p ∈ wp xs) : p.1 ∈ xs ∧ p.2 < xs.length ∧ xs.getD p.2 0 = p.1 ∧ p.1 ≠ 0 := by
  obtain ⟨h1, h2⟩ := List.mem_filter.mp h
  obtain ⟨h3, h4, h5⟩ := List.mem_zipIdx h1
  simp only [Nat.sub_zero] at h5
  refine ⟨by rw [h5]; exact List.getElem_mem _, by simpa using h4, ?_, by simpa using h2⟩
  rw [h5, List.getD_eq_getElem?_getD, List.getElem?_eq_getElem (by simpa using h4)]; rfl
theorem wp_len (xs : List Int) : (wp xs).length ≤ xs.length := by
  unfold wp
  exact Nat.le_trans (List.length_filter_le _ _) (by rw [List.length_zipIdx]; exact Nat.le_refl _)
def sg (n : Nat) (k : Int) : List Int := (List.range n).map fun (i : Nat) => if decide ((i : Int) = k) then (1 : Int) else 0
end Cm
namespace Cm
open PySem PySem.Spec PyProof.Rows L2 FL
set_option maxHeartbeats 0
end Cm
namespace Cm
open PySem PySem.Spec PyProof.Rows L2 FL
end Cm
namespace Cm
open PySem PySem.Spec PyProof.Rows L2 FL
set_option maxHeartbeats 0
def nz (ts : List Tm) : List (List Int) := (pls ts).filter fun p => decide (tsum ts p ≠ 0)
theorem intK_rows {g : List Int → Int} {P : List (List Int)} {q : List Int} (h : q ∈ P) : intK (P.map rowD) (P.map g) (rowD q) = some (g q) := by
  unfold intK
  rw [row_kIdx]
  obtain ⟨i, h1, h2⟩ := idx_in h
  rw [h1]
  show (P.map g)[i]? = _
  rw [List.getElem?_map, h2]; rfl
/-- == of two dicts of places that are alike -/
theorem same_dicts {P P' : List (List Int)} {g g' : List Int → Int} (n : P.Nodup) (n' : P'.Nodup) (hm : ∀ p, p ∈ P ↔ p ∈ P') (hg : ∀ p ∈ P, g p = g' p) : ((P.map rowD).length == (P'.map rowD).length && tabD (P.map rowD) (P.map g) (P'.map rowD) (P'.map g')) = true := by
  have pm : P.Perm P' := (List.perm_ext_iff_of_nodup n n').mpr hm
  rw [Bool.and_eq_true, List.length_map, List.length_map, pm.length_eq]
  refine ⟨beq_self_eq_true _, ?_⟩
  unfold tabD
  rw [List.zip_map', List.all_map, List.all_eq_true]
  intro p hp
  show decide (intK _ _ (rowD p) = some (g p)) = true
  rw [intK_rows ((hm p).mp hp), hg p hp]
  simp
theorem nz_mem (ts : List Tm) (p : List Int) : p ∈ nz ts ↔ tsum ts p ≠ 0 := by
  unfold nz
  rw [List.mem_filter, decide_eq_true_iff]
  refine ⟨fun h => h.2, fun h => ⟨?_, h⟩⟩
  exact Classical.byContradiction fun z => h (tsum_out z)
theorem nz_nodup (ts : List Tm) : (nz ts).Nodup := (pls_nodup ts).filter _
/-- dicts told by places -/
structure Dt (P : List (List Int)) (g : List Int → Int) (ts : List Tm) : Prop where
  nd : P.Nodup
  mem : ∀ p, p ∈ P ↔ tsum ts p ≠ 0
  val : ∀ p ∈ P, g p = tsum ts p
theorem Dt.sum (ts : List Tm) : Dt (nz ts) (tsum ts) ts := ⟨nz_nodup ts, nz_mem ts, fun _ _ => rfl⟩
theorem Dt.same {P P' : List (List Int)} {g g' : List Int → Int} {ts us : List Tm} (h : Dt P g ts) (h' : Dt P' g' us) (e : ∀ p, tsum ts p = tsum us p) : ((P.map rowD).length == (P'.map rowD).length && tabD (P.map rowD) (P.map g) (P'.map rowD) (P'.map g')) = true :=
  same_dicts h.nd h'.nd (fun p => by rw [h.mem, h'.mem, e]) fun p hp => by rw [h.val p hp, h'.val p ((h'.mem p).mpr (by rw [← e]; exact (h.mem p).mp hp)), e]
end Cm
namespace Cm
open PySem PySem.Spec PyProof.Rows L2 FL
def Mg (B : Int) (xs : List Int) : Prop := ∀ x ∈ xs, -B ≤ x ∧ x ≤ B
theorem Mg.mono {B C : Int} {xs : List Int} (h : Mg B xs) (k : B ≤ C) : Mg C xs := fun x hx => by have := h x hx; omega
structure Pr.mg (p : Pr) (B : Int) : Prop where
  l : Mg B p.l
  r : Mg B p.r
  o : Mg B p.o
theorem Pr.mg.mono {p : Pr} {B C : Int} (h : p.mg B) (k : B ≤ C) : p.mg C := ⟨h.l.mono k, h.r.mono k, h.o.mono k⟩
/-- what a product tells at k, i, j -/
def Pr.one (p : Pr) (k i j : Nat) : Int := p.o.getD k 0 * (p.l.getD i 0 * p.r.getD j 0)
def tel (ps : List Pr) (k i j : Nat) : Int := Sg ps fun p => p.one k i j
/-- terms of unlike places, none 0 -/
structure Dis (ts : List Tm) : Prop where
  nd : (ts.map Tm.pl).Nodup
  nz : ∀ t ∈ ts, t.c ≠ 0
theorem getD_neg (xs : List Int) (i : Nat) : (xs.map fun x => -x).getD i 0 = -xs.getD i 0 := by
  rw [List.getD_eq_getElem?_getD, List.getD_eq_getElem?_getD, List.getElem?_map]
  cases xs[i]? <;> rfl
theorem Mg.neg {B : Int} {xs : List Int} (h : Mg B xs) : Mg B (xs.map fun x => -x) := fun x hx => by
  obtain ⟨y, hy, rfl⟩ := List.mem_map.mp hx
  have := h y hy; omega
theorem pick_at {α : Type} {f : α → D} {xs : List α} {k : Int} {Q : D → Prop} (h0 : 0 ≤ k) (h1 : k < xs.length) (ho : ∀ a, (f a).own = false) (q : ∀ a, xs[k.toNat]? = some a → Q (f a)) : pick (atI (xs.map f) k) Q := by
  have hx : k.toNat < xs.length := by omega
  refine pick_of (d := f xs[k.toNat]) ?_ (ho _) (q _ (List.getElem?_eq_getElem hx))
  unfold atI
  rw [ixN_of h0 (by rw [List.length_map]; exact h1)]
  show (xs.map f)[k.toNat]? = _
  rw [List.getElem?_map, List.getElem?_eq_getElem hx]; rfl
end Cm
namespace Cm
open PySem PySem.Spec PyProof.Rows L2 FL
set_option maxHeartbeats 0
def itxt (i : Int) : Str := Str.ofString (toString i)
theorem itxt_len {i : Int} (h0 : -1000 ≤ i) (h1 : i ≤ 1000) : (itxt i).length ≤ 5 := by
  have : ∀ n : Fin 2001, (itxt ((n.val : Int) - 1000)).length ≤ 5 := by decide +kernel
  have := this ⟨(i + 1000).toNat, by omega⟩
  rw [show (((i + 1000).toNat : Nat) : Int) - 1000 = i by omega] at this
  exact this
theorem lg {i : Int} (h0 : -1000 ≤ i) (h1 : i ≤ 1000) : i.natAbs.log2 < 1920 := Nat.lt_of_le_of_lt (Nat.log2_le_self _) (by omega)
theorem join_len (a : Str) : ∀ ys : List Str, (Str.join a ys).length ≤ (ys.map (·.length)).sum + ys.length * a.length
  | [] => Nat.zero_le _
  | [x] => by show x.length ≤ x.length + 0 + 1 * a.length; omega
  | x :: z :: r => by
    have := join_len a (z :: r)
    show (x ++ a ++ Str.join a (z :: r)).length ≤ _
    rw [Str.length_append, Str.length_append]
    simp only [List.map_cons, List.sum_cons, List.length_cons, Nat.add_mul] at this ⊢
    omega
theorem sum_len {B : Nat} : ∀ ys : List Str, (∀ y ∈ ys, y.length ≤ B) → (ys.map (·.length)).sum ≤ ys.length * B
  | [], _ => Nat.zero_le _
  | y :: ys, h => by
    have h1 := h y (List.mem_cons_self ..)
    have h2 := sum_len ys fun z hz => h z (List.mem_cons_of_mem _ hz)
    rw [List.map_cons, List.sum_cons, List.length_cons, Nat.add_mul]; omega
theorem jlen {a : Str} {ys : List Str} {B : Nat} (h : ∀ y ∈ ys, y.length ≤ B) : (Txt.join a ys).length ≤ ys.length * (B + a.length) := by
  rw [show Txt.join a ys = Str.join a ys from TL.join_eq a ys]
  have := join_len a ys
  have := sum_len ys h
  rw [Nat.mul_add]; omega
def wordT (p : Int × Nat) : Str := itxt p.1 ++ (":" : Str) ++ itxt (p.2 : Nat)
def sumT (xs : List Int) : Str := if wp xs = [] then "-" else Txt.join " " ((wp xs).map wordT)
def prT (p : Pr) : Str := sumT p.l ++ (" * " : Str) ++ sumT p.r ++ (" > " : Str) ++ sumT p.o
def headT (a b c : Int) : Str := Txt.join " " ["scheme", itxt a, itxt b, itxt c]
def schT (a b c : Int) (ps : List Pr) : Str := Txt.join "\n" (headT a b c :: ps.map prT)
structure Tp (xs : List Int) : Prop where
  ln : xs.length ≤ 81
  bd : InB xs
structure PrT (p : Pr) : Prop where
  l : Tp p.l
  r : Tp p.r
  o : Tp p.o
theorem word_len {xs : List Int} (h : Tp xs) {p : Int × Nat} (hp : p ∈ wp xs) : (wordT p).length ≤ 11 := by
  obtain ⟨h1, h2, _, _⟩ := wp_mem hp
  have a := itxt_len (h.bd _ h1).1 (h.bd _ h1).2
  have b := itxt_len (i := (p.2 : Nat)) (by omega) (by have := h.ln; omega)
  have c : (":" : Str).length = 1 := by decide +kernel
  unfold wordT
  rw [Str.length_append, Str.length_append]; omega
theorem sumT_len {xs : List Int} (h : Tp xs) : (sumT xs).length ≤ 972 := by
  unfold sumT
  split
  · have c : ("-" : Str).length = 1 := by decide +kernel
    omega
  · have := jlen (a := " ") (ys := (wp xs).map wordT) (B := 11) fun y hy => by
      obtain ⟨p, hp, rfl⟩ := List.mem_map.mp hy
      exact word_len h hp
    rw [List.length_map, show (" " : Str).length = 1 by decide +kernel] at this
    have := wp_len xs
    have := h.ln
    omega
theorem prT_len {p : Pr} (h : PrT p) : (prT p).length ≤ 2922 := by
  have a := sumT_len h.l
  have b := sumT_len h.r
  have c := sumT_len h.o
  have d : (" * " : Str).length = 3 := by decide +kernel
  have e : (" > " : Str).length = 3 := by decide +kernel
  unfold prT
  rw [Str.length_append, Str.length_append, Str.length_append, Str.length_append]; omega
def r_sum_text : FSpec := fun ds _ Q => ∃ xs : List Int, ds = [rowD xs] ∧ Tp xs ∧ ∀ os, Q (.str (sumT xs)) os
theorem rd_sum_text : RD_sum_text r_sum_text := by
  rintro ds ED QD - ⟨xs, rfl, h, q⟩
  refine ⟨compR_if (xs.zipIdx 0) (fun p => .tup false [.int (p.2 : Nat), .int p.1]) (fun p => decide (p.1 ≠ 0)) (fun p => .str (wordT p)) (enD_map D.int 0 xs) (fun p hp => ?_) (fun _ => rfl) ?_⟩
  · refine ⟨rfl, fun hz => ?_, fun hz => ?_⟩
    · have hz : p.1 ≠ 0 := by simpa using hz
      have hw : p ∈ wp xs := List.mem_filter.mpr ⟨hp, by simpa using hz⟩
      obtain ⟨m1, m2, _, _⟩ := wp_mem hw
      have b1 := h.bd _ m1
      have hl := h.ln
      have l1 := itxt_len b1.1 b1.2
      have l2 := itxt_len (i := (p.2 : Nat)) (by omega) (by omega)
      have c : (":" : Str).length = 1 := by decide +kernel
      refine ⟨lg b1.1 b1.2, ?_, lg (by omega) (by omega), ?_, ?_⟩
      · show (itxt p.1).length + (":" : Str).length ≤ sizeLine
        rw [sizeLine_eq]; omega
      · show (itxt p.1 ++ (":" : Str)).length + (itxt (p.2 : Nat)).length ≤ sizeLine
        rw [Str.length_append, sizeLine_eq]; omega
      · exact ⟨by rw [if_pos (by simpa using hz)]; rfl, rfl⟩
    · have hz : p.1 = 0 := by simpa using hz
      refine ⟨?_, rfl⟩
      rw [if_neg (by simpa using hz)]
  · refine ⟨fun hz => ?_, fun hz => ?_⟩
    · have hz : wp xs ≠ [] := fun e => by
        change decide ((((wp xs).map fun p => D.str (wordT p)).length : Int) > 0) = true at hz
        rw [e] at hz; cases hz
      refine ⟨⟨_, rfl⟩, " ", (wp xs).map wordT, rfl, .inl (by rw [List.map_map]; rfl), ?_, ?_⟩
      · have := sum_len ((wp xs).map wordT) (B := 11) fun y hy => by
          obtain ⟨p, hp, rfl⟩ := List.mem_map.mp hy
          exact word_len h hp
        rw [List.length_map] at this ⊢
        rw [show (" " : Str).length = 1 by decide +kernel]
        have := wp_len xs
        have := h.ln
        omega
      · have := q [some (rowD xs)]
        unfold sumT at this
        rw [if_neg hz] at this
        exact this
    · have hz : wp xs = [] := by
        change decide ((((wp xs).map fun p => D.str (wordT p)).length : Int) > 0) = false at hz
        cases e : wp xs with
        | nil => rfl
        | cons a b => rw [e] at hz; simp at hz
      have := q [some (rowD xs)]
      unfold sumT at this
      rw [if_pos hz] at this
      exact this
def r_product_text : FSpec := fun ds _ Q => ∃ p : Pr, ds = [prD p] ∧ PrT p ∧ ∀ os, Q (.str (prT p)) os
theorem cat3 {a b c d e : Str} (ha : a.length ≤ 972) (hb : b.length = 3) (hc : c.length ≤ 972) (hd : d.length = 3) (he : e.length ≤ 972) :
    a.length + b.length ≤ sizeLine ∧ (a ++ b).length + c.length ≤ sizeLine ∧ (a ++ b ++ c).length + d.length ≤ sizeLine ∧ (a ++ b ++ c ++ d).length + e.length ≤ sizeLine := by
  rw [Str.length_append, Str.length_append, Str.length_append, sizeLine_eq]
  simp only [Str.length_append]
  omega
theorem rd_product_text : RD_product_text r_product_text r_sum_text := by
  rintro ds ED QD - ⟨p, rfl, h, q⟩
  obtain ⟨c1, c2, c3, c4⟩ := cat3 (sumT_len h.l) (b := " * ") (by decide +kernel) (sumT_len h.r) (d := " > ") (by decide +kernel) (sumT_len h.o)
  exact ⟨rfl, p.l, rfl, h.l, fun _ => ⟨c1, p.r, rfl, h.r, fun _ => ⟨c2, c3, p.o, rfl, h.o, fun _ => ⟨c4, q _⟩⟩⟩⟩
theorem headT_len {a b c : Nat} (hs : a ≤ 1000 ∧ b ≤ 1000 ∧ c ≤ 1000) : (headT a b c).length ≤ 44 := by
  have := jlen (a := " ") (ys := ["scheme", itxt (a : Nat), itxt (b : Nat), itxt (c : Nat)]) (B := 6) fun y hy => by
    have l1 := itxt_len (i := (a : Nat)) (by omega) (by omega)
    have l2 := itxt_len (i := (b : Nat)) (by omega) (by omega)
    have l3 := itxt_len (i := (c : Nat)) (by omega) (by omega)
    have l4 : ("scheme" : Str).length = 6 := by decide +kernel
    simp only [List.mem_cons, List.not_mem_nil, or_false] at hy
    rcases hy with rfl | rfl | rfl | rfl <;> omega
  rw [show (" " : Str).length = 1 by decide +kernel] at this
  exact Nat.le_trans this (show 4 * (6 + 1) ≤ 44 by decide)
theorem sch_sum {a b c : Nat} {ps : List Pr} (hs : a ≤ 1000 ∧ b ≤ 1000 ∧ c ≤ 1000) (h : ∀ p ∈ ps, PrT p) (hl : ps.length ≤ 1000) : (((headT a b c :: ps.map prT)).map (·.length)).sum + (headT a b c :: ps.map prT).length * ("\n" : Str).length ≤ 16777216 := by
  have := headT_len hs
  have := sum_len (ps.map prT) (B := 2922) fun y hy => by
    obtain ⟨p, hp, rfl⟩ := List.mem_map.mp hy
    exact prT_len (h p hp)
  rw [List.length_map] at this
  rw [List.map_cons, List.sum_cons, List.length_cons, List.length_map, show ("\n" : Str).length = 1 by decide +kernel]
  omega
def r_scheme_text : FSpec := fun ds _ Q => ∃ (a b c : Nat) (ps : List Pr), ds = [schD a b c ps] ∧ (a ≤ 1000 ∧ b ≤ 1000 ∧ c ≤ 1000) ∧ (∀ p ∈ ps, PrT p) ∧ ps.length ≤ 1000 ∧ ∀ os, Q (.str (schT a b c ps)) os
theorem rd_scheme_text : RD_scheme_text r_scheme_text r_product_text := by
  rintro ds ED QD - ⟨a, b, c, ps, rfl, hs, h, hl, q⟩
  refine ⟨⟨_, rfl⟩, ⟨compR_allE ([a, b, c] : List Nat) (fun n : Nat => D.int n) (fun n : Nat => .str (itxt n)) rfl (fun n hn => ?_) (fun _ => rfl) ?_⟩⟩
  · have : n ≤ 1000 := by simp at hn; omega
    exact ⟨fun _ => ⟨lg (by omega) (by omega), rfl, rfl⟩, fun h => (nomatch h)⟩
  refine ⟨by show (1 + 3 : Nat) ≤ sizeLine; decide, " ", ["scheme", itxt a, itxt b, itxt c], rfl, .inl rfl, ?_, ?_⟩
  · have l1 := itxt_len (i := (a : Nat)) (by omega) (by omega)
    have l2 := itxt_len (i := (b : Nat)) (by omega) (by omega)
    have l3 := itxt_len (i := (c : Nat)) (by omega) (by omega)
    have l4 : ("scheme" : Str).length = 6 := by decide +kernel
    have l5 : (" " : Str).length = 1 := by decide +kernel
    simp only [List.map_cons, List.map_nil, List.sum_cons, List.sum_nil, List.length_cons, List.length_nil]
    omega
  conv => whnf
  refine ⟨⟨_, rfl⟩, ⟨compR_allE ps prD (fun p => .str (prT p)) rfl (fun p hp => ⟨fun _ => ⟨p, rfl, h p hp, fun _ => ⟨rfl, rfl⟩⟩, fun h => (nomatch h)⟩) (fun _ => rfl) ?_⟩⟩
  refine ⟨by show 1 + (ps.map fun p => D.str (prT p)).length ≤ sizeLine; rw [List.length_map, sizeLine_eq]; omega, "\n", headT a b c :: ps.map prT, rfl, .inl (by rw [List.map_cons, List.map_map]; rfl), ?_, q _⟩
  exact sch_sum hs h hl
def r_law_sum : FSpec := fun ds _ Q => ∃ xs : List Int, ds = [rowD xs] ∧ Tp xs ∧ ∀ os, Q (.str (sumT xs)) os
theorem rd_law_sum : RD_law_sum r_law_sum := by
  rintro ds ED QD - ⟨xs, rfl, h, q⟩
  refine ⟨forR_on [1] [2, 3] (fun k s => s = [some (.lst .flat ((((xs.zipIdx).take k).filter fun p => decide (p.1 ≠ 0)).map fun p => .str (wordT p)))]) _ _ rfl ?_ ?_⟩
  · rintro i d s j hd hj rfl
    obtain ⟨g2, g3, rfl⟩ := len2 hj
    rw [enD_map D.int 0 xs, List.getElem?_map] at hd
    obtain ⟨p, hp, rfl⟩ := Option.map_eq_some_iff.mp hd
    have ts : (xs.zipIdx.take (i + 1)).filter (fun p => decide (p.1 ≠ 0)) = (xs.zipIdx.take i).filter (fun p => decide (p.1 ≠ 0)) ++ if p.1 ≠ 0 then [p] else [] := by
      rw [List.take_add_one, hp, List.filter_append]
      congr 1
      show List.filter _ [p] = _
      by_cases e : p.1 = 0 <;> simp [e]
    refine ⟨rfl, fun hz => ?_, fun hz => ?_⟩
    · have hz : p.1 ≠ 0 := by simpa using hz
      have hw : p ∈ wp xs := List.mem_filter.mpr ⟨List.mem_of_getElem? hp, by simpa using hz⟩
      obtain ⟨m1, m2, _, _⟩ := wp_mem hw
      have b1 := h.bd _ m1
      have hl := h.ln
      have l1 := itxt_len b1.1 b1.2
      have l2 := itxt_len (i := (p.2 : Nat)) (by omega) (by omega)
      have c : (":" : Str).length = 1 := by decide +kernel
      rw [ts, if_pos hz]
      refine ⟨lg b1.1 b1.2, ?_, lg (by omega) (by omega), ?_, ?_⟩
      · show (itxt p.1).length + (":" : Str).length ≤ sizeLine
        rw [sizeLine_eq]; omega
      · show (itxt p.1 ++ (":" : Str)).length + (itxt (p.2 : Nat)).length ≤ sizeLine
        rw [Str.length_append, sizeLine_eq]; omega
      · rw [List.map_append]
        refine ⟨?_, rfl, rfl⟩
        rw [List.length_map]
        have := List.length_filter_le (fun p : Int × Nat => decide (p.1 ≠ 0)) (xs.zipIdx.take i)
        rw [List.length_take, List.length_zipIdx] at this
        rw [sizeLine_eq]; omega
    · have hz : p.1 = 0 := by simpa using hz
      rw [ts, if_neg (by simpa using hz), List.append_nil]
      exact ⟨rfl, rfl⟩
  · rintro s j hj rfl
    obtain ⟨g2, g3, rfl⟩ := len2 hj
    rw [List.take_of_length_le (by rw [enD_len, List.length_map, List.length_zipIdx]; exact Nat.le_refl _)]
    change nf (putJ [some (rowD xs), some (D.lst (Ow.of (ownL [])) []), none, none] [1] [2, 3] [some (.lst .flat ((wp xs).map fun p => .str (wordT p)))] [g2, g3]) _
    refine ⟨⟨_, rfl⟩, fun hz => ?_, fun hz => ?_⟩
    · have hz : wp xs ≠ [] := fun e => by rw [e] at hz; cases hz
      refine ⟨" ", (wp xs).map wordT, rfl, .inl (by rw [List.map_map]; rfl), ?_, ?_⟩
      · have := sum_len ((wp xs).map wordT) (B := 11) fun y hy => by
          obtain ⟨p, hp, rfl⟩ := List.mem_map.mp hy
          exact word_len h hp
        rw [List.length_map] at this ⊢
        rw [show (" " : Str).length = 1 by decide +kernel]
        have := wp_len xs
        have := h.ln
        omega
      · have := q [some (rowD xs)]
        unfold sumT at this
        rw [if_neg hz] at this
        exact this
    · have hz : wp xs = [] := by
        cases e : wp xs with
        | nil => rfl
        | cons a b => rw [e] at hz; cases hz
      refine ⟨" ", ["-"], rfl, .inl rfl, by decide +kernel, ?_⟩
      have := q [some (rowD xs)]
      unfold sumT at this
      rw [if_pos hz] at this
      rw [TL.join_eq]
      exact this
def r_law_text : FSpec := fun ds _ Q => ∃ (a b c : Nat) (ps : List Pr), ds = [schD a b c ps] ∧ (a ≤ 1000 ∧ b ≤ 1000 ∧ c ≤ 1000) ∧ (∀ p ∈ ps, PrT p) ∧ ps.length ≤ 1000 ∧ ∀ os, Q (.str (schT a b c ps)) os
theorem rd_law_text : RD_law_text r_law_text r_law_sum := by
  rintro ds ED QD - ⟨a, b, c, ps, rfl, hs, h, hl, q⟩
  have l1 := itxt_len (i := (a : Nat)) (by omega) (by omega)
  have l2 := itxt_len (i := (b : Nat)) (by omega) (by omega)
  have l3 := itxt_len (i := (c : Nat)) (by omega) (by omega)
  have l5 : (" " : Str).length = 1 := by decide +kernel
  refine ⟨⟨_, rfl⟩, ⟨compR_allE ([a, b, c] : List Nat) (fun n : Nat => D.int n) (fun n : Nat => .str (itxt n)) rfl (fun n hn => ?_) (fun _ => rfl) ?_⟩⟩
  · have : n ≤ 1000 := by simp at hn; omega
    exact ⟨fun _ => ⟨lg (by omega) (by omega), rfl, rfl⟩, fun h => (nomatch h)⟩
  refine ⟨" ", [itxt a, itxt b, itxt c], rfl, .inl rfl, ?_, ?_, ?_⟩
  · simp only [List.map_cons, List.map_nil, List.sum_cons, List.sum_nil, List.length_cons, List.length_nil]
    omega
  · have := jlen (a := " ") (ys := [itxt (a : Nat), itxt (b : Nat), itxt (c : Nat)]) (B := 6) fun y hy => by
      simp only [List.mem_cons, List.not_mem_nil, or_false] at hy
      rcases hy with rfl | rfl | rfl <;> omega
    rw [l5] at this
    have l6 : ("scheme " : Str).length = 7 := by decide +kernel
    rw [l6, sizeLine_eq]
    simp only [List.length_cons, List.length_nil] at this
    omega
  have hd : ("scheme " : Str) ++ Txt.join " " [itxt a, itxt b, itxt c] = headT a b c := by
    unfold headT
    rw [TL.join_eq, TL.join_eq]
    show ("scheme " : Str) ++ (itxt a ++ (" " : Str) ++ (itxt b ++ (" " : Str) ++ itxt c)) = ("scheme" : Str) ++ (" " : Str) ++ (itxt a ++ (" " : Str) ++ (itxt b ++ (" " : Str) ++ itxt c))
    rw [show (("scheme " : Str)) = ("scheme" : Str) ++ (" " : Str) by decide +kernel]
  rw [hd]
  conv => whnf
  refine ⟨forR_on [1] [2, 3, 4] (fun k s => s = [some (.lst .flat ((headT a b c :: (ps.take k).map prT).map D.str))]) _ _ rfl ?_ ?_⟩
  · rintro i d s j hx hj rfl
    obtain ⟨g2, g3, g4, rfl⟩ := len3 hj
    rw [List.getElem?_map] at hx
    obtain ⟨p, hp, rfl⟩ := Option.map_eq_some_iff.mp hx
    have hm := h p (List.mem_of_getElem? hp)
    obtain ⟨c1, c2, c3, c4⟩ := cat3 (sumT_len hm.l) (b := " * ") (by decide +kernel) (sumT_len hm.r) (d := " > ") (by decide +kernel) (sumT_len hm.o)
    refine ⟨rfl, p.l, rfl, hm.l, fun _ => ⟨c1, p.r, rfl, hm.r, fun _ => ⟨c2, c3, p.o, rfl, hm.o, fun _ => ⟨c4, ?_⟩⟩⟩⟩
    rw [List.take_add_one, hp, show (headT a b c :: (ps.take i ++ (some p).toList).map prT).map D.str = (headT a b c :: (ps.take i).map prT).map D.str ++ [.str (prT p)] by rw [List.map_append]; simp]
    refine ⟨?_, rfl, rfl⟩
    rw [List.length_map, List.length_cons, List.length_map, List.length_take, sizeLine_eq]; omega
  · rintro s j hj rfl
    obtain ⟨g2, g3, g4, rfl⟩ := len3 hj
    rw [List.length_map, List.take_length]
    exact ⟨⟨_, rfl⟩, "\n", _, rfl, .inl rfl, sch_sum hs h hl, q _⟩
def r_law_lengths : FSpec := fun ds _ Q => ∃ (x : Bx) (n : Nat), ds = [bxD x, .int n] ∧ (1 ≤ n ∧ n ≤ 999) ∧ ∀ (a b c : Nat) (x' : Bx) tl, ((1 ≤ a ∧ a ≤ n) ∧ (1 ≤ b ∧ b ≤ n) ∧ (1 ≤ c ∧ c ≤ n)) → Q (.lst .flat [.int a, .int b, .int c]) (some (bxD x') :: tl)
theorem rd_law_lengths : RD_law_lengths r_law_lengths r_law_take := by
  rintro ds ED QD - ⟨x, n, rfl, hn, q⟩
  refine ⟨⟨by decide, by decide⟩, ⟨compR_draw 0 (fun n : Nat => D.int n) (fun _ m => 1 ≤ m ∧ m ≤ n) _ _ x (fun _ => rfl) (fun i d x hd => ?_) fun Ls x hL hx => ?_⟩⟩
  · exact ⟨fun _ => ⟨x, n, rfl, by omega, fun v x' tl v0 v1 => ⟨(1 + v).toNat, x', (by show some (D.int (1 + v)) = some (D.int ((1 + v).toNat : Nat)); rw [show (((1 + v).toNat : Nat) : Int) = 1 + v by omega]), by omega, rfl⟩⟩, fun h => (nomatch h)⟩
  obtain ⟨a, b, c, rfl⟩ := len3 (l := Ls) (by rw [hL, rgD_len]; rfl)
  exact q a b c x _ ⟨hx 0 a rfl, hx 1 b rfl, hx 2 c rfl⟩
end Cm
namespace Cm
open PySem PySem.Spec PyProof.Rows L2 FL
def rb_plain_number : RS := (rSeq (rIf (rOr (rNot (rTst (rChain dLe dLe (oV (rC (.int 1))) (oV (rCB dLen (rAC (oV (rVar 0)) rA0))) (oV (rVar 1))))) (rTst (rCB dAny (rAC (oV (rComp (rItS (rVar 0)) (gNm 2) rYes (rBin (dInS true) (oV (rVar 2)) (oV (rC (.str "0123456789")))) [2])) rA0)))) (rRet (rC .non)) rNx)
  (rSeq (rIf (rAnd (rTst (rBin dEq (oV (rBin dIx (oV (rVar 0)) (oV (rC (.int 0))))) (oV (rC (.str "0"))))) (rTst (rBin dNe (oV (rVar 0)) (oV (rC (.str "0")))))) (rRet (rC .non)) rNx)
  (rRet (rCB dIntS (rAC (oV (rVar 0)) rA0)))))
abbrev RD_plain_number (r : FSpec) : Prop := ∀ ds ED QD, ds.length = 2 → r ds ED QD → rb_plain_number (startD ["word", "most", "sign"] ds) (fun c fs ρ => ED c fs (ρ.take 2)) (finD 2 QD)
def rb_own_number (r_plain_number : FSpec) : RS := (rSeq (rSetF 1 (rBin dEq (oV (rSl (oV (rVar 0)) rP0 (rP1 (rC (.int 1))))) (oV (rC (.str "-")))))
  (rSeq (rSetF 2 (rCall [] r_plain_number (rAC (oV (rIfE (rTst (rVar 1)) (rSl (oV (rVar 0)) (rP1 (rC (.int 1))) rP0) (rVar 0))) (rAC (oV (rC (.int 4))) rA0))))
  (rSeq (rIf (rOr (rTst (rBin (dIsN0 false) (oV (rVar 2)) (oV (rC .non)))) (rOr (rTst (rBin dEq (oV (rVar 2)) (oV (rC (.int 0))))) (rTst (rBin dGt (oV (rVar 2)) (oV (rC (.int 1000))))))) (rRet (rC .non)) rNx)
  (rRet (rIfE (rTst (rVar 1)) (rBin dSub (oV (rC (.int 0))) (oV (rVar 2))) (rVar 2))))))
abbrev RD_own_number (r : FSpec) (r_plain_number : FSpec) : Prop := ∀ ds ED QD, ds.length = 1 → r ds ED QD → (rb_own_number r_plain_number) (startD ["word", "below", "number"] ds) (fun c fs ρ => ED c fs (ρ.take 1)) (finD 1 QD)
def rb_sum_from (r_own_number : FSpec) (r_plain_number : FSpec) : RS := (rSeq (rSet 2 (rBin dMulX (oV (rLst (rAC (oV (rC (.int 0))) rA0))) (oV (rVar 1))))
  (rSeq (rIf (rTst (rBin dEq (oV (rVar 0)) (oV (rC (.str "-"))))) (rRet (rCB dTuple (rAC (oN 2) rA0))) rNx)
  (rSeq (rSetF 3 (rC (.int (-1))))
  (rSeq (rFor (rItA (rSplit (rVar 0) (rC (.str " ")))) (gNm 4) (rSeq (rAsg (gTp 3 (gCs (gNm 5) (gCs (gNm 6) (gCs (gNm 7) gNl)))) (rPart (rVar 4) (rC (.str ":"))))
  (rSeq (rParN [8, 9] [false, false] (rAC (oV (rCall [] r_own_number (rAC (oV (rVar 5)) rA0))) (rAC (oV (rCall [] r_plain_number (rAC (oV (rVar 7)) (rAC (oV (rC (.int 2))) rA0)))) rA0)))
  (rSeq (rIf (rOr (rTst (rBin (dIsN0 false) (oV (rVar 8)) (oV (rC .non)))) (rOr (rTst (rBin (dIsN0 false) (oV (rVar 9)) (oV (rC .non)))) (rNot (rTst (rChain dLt dLt (oV (rVar 3)) (oV (rVar 9)) (oV (rVar 1))))))) (rRet (rC .non)) rNx)
  (rSeq (rSetL 2 (oV (rVar 9)) (rVar 8))
  (rSetF 3 (rVar 9)))))))
  (rRet (rCB dTuple (rAC (oN 2) rA0)))))))
abbrev RD_sum_from (r : FSpec) (r_own_number : FSpec) (r_plain_number : FSpec) : Prop := ∀ ds ED QD, ds.length = 2 → r ds ED QD → (rb_sum_from r_own_number r_plain_number) (startD ["text", "length", "part", "last", "word", "ahead", "sign", "behind", "number", "place"] ds) (fun c fs ρ => ED c fs (ρ.take 2)) (finD 2 QD)
def rb_product_from (r_sum_from : FSpec) : RS := (rSeq (rAsg (gTp 3 (gCs (gNm 3) (gCs (gNm 4) (gCs (gNm 5) gNl)))) (rPart (rVar 0) (rC (.str " * "))))
  (rSeq (rAsg (gTp 3 (gCs (gNm 6) (gCs (gNm 7) (gCs (gNm 8) gNl)))) (rPart (rVar 5) (rC (.str " > "))))
  (rSeq (rIf (rOr (rTst (rBin dEq (oV (rVar 4)) (oV (rC (.str ""))))) (rTst (rBin dEq (oV (rVar 7)) (oV (rC (.str "")))))) (rRet (rC .non)) rNx)
  (rSeq (rSetF 2 (rComp (rZp (rAC (oV (rLst (rAC (oV (rVar 3)) (rAC (oV (rVar 6)) (rAC (oV (rVar 8)) rA0))))) (rAC (oV (rVar 1)) rA0))) (gTp 2 (gCs (gNm 9) (gCs (gNm 10) gNl))) rYes (rCall [] r_sum_from (rAC (oV (rVar 9)) (rAC (oV (rVar 10)) rA0))) [10, 9]))
  (rSeq (rIf (rTst (rBin (dInD false) (oV (rC .non)) (oV (rVar 2)))) (rRet (rC .non)) rNx)
  (rRet (rCB dTuple (rAC (oV (rVar 2)) rA0))))))))
abbrev RD_product_from (r : FSpec) (r_sum_from : FSpec) : Prop := ∀ ds ED QD, ds.length = 2 → r ds ED QD → (rb_product_from r_sum_from) (startD ["row", "lengths", "parts", "left", "sign", "rest", "right", "other_sign", "out", "text", "length"] ds) (fun c fs ρ => ED c fs (ρ.take 2)) (finD 2 QD)
def rb_lengths_from (r_plain_number : FSpec) : RS := (rSeq (rSetF 1 (rSplit (rVar 0) (rC (.str " "))))
  (rSeq (rIf (rOr (rTst (rBin dNe (oV (rCB dLen (rAC (oV (rVar 1)) rA0))) (oV (rC (.int 4))))) (rTst (rBin dNe (oV (rBin dIx (oV (rVar 1)) (oV (rC (.int 0))))) (oV (rC (.str "scheme")))))) (rRet (rC .non)) rNx)
  (rSeq (rSetF 2 (rComp (rItA (rSl (oV (rVar 1)) (rP1 (rC (.int 1))) rP0)) (gNm 3) rYes (rCall [] r_plain_number (rAC (oV (rVar 3)) (rAC (oV (rC (.int 2))) rA0))) [3]))
  (rSeq (rIf (rOr (rTst (rBin (dInD false) (oV (rC .non)) (oV (rVar 2)))) (rNot (rTst (rCB dAll (rAC (oV (rComp (rItA (rVar 2)) (gNm 4) rYes (rChain dLe dLe (oV (rC (.int 1))) (oV (rVar 4)) (oV (rC (.int 81)))) [4])) rA0))))) (rRet (rC .non)) rNx)
  (rRet (rCB dTuple (rAC (oV (rVar 2)) rA0)))))))
abbrev RD_lengths_from (r : FSpec) (r_plain_number : FSpec) : Prop := ∀ ds ED QD, ds.length = 1 → r ds ED QD → (rb_lengths_from r_plain_number) (startD ["row", "words", "lengths", "word", "length"] ds) (fun c fs ρ => ED c fs (ρ.take 1)) (finD 1 QD)
def rb_scheme_from (r_lengths_from : FSpec) (r_product_from : FSpec) : RS := (rSeq (rSetF 1 (rSplit (rVar 0) (rC (.str "\n"))))
  (rSeq (rSetF 2 (rCall [] r_lengths_from (rAC (oV (rBin dIx (oV (rVar 1)) (oV (rC (.int 0))))) rA0)))
  (rSeq (rIf (rTst (rBin (dIsN0 false) (oV (rVar 2)) (oV (rC .non)))) rNever rNx)
  (rSeq (rSet 3 (rLst rA0))
  (rSeq (rFor (rEn (rAC (oV (rSl (oV (rVar 1)) (rP1 (rC (.int 1))) rP0)) rA0)) (gTp 2 (gCs (gNm 4) (gCs (gNm 5) gNl))) (rSeq (rSetF 6 (rCall [] r_product_from (rAC (oV (rVar 5)) (rAC (oV (rVar 2)) rA0))))
  (rSeq (rIf (rOr (rTst (rBin (dIsN0 false) (oV (rVar 6)) (oV (rC .non)))) (rTst (rBin dGe (oV (rVar 4)) (oV (rC (.int 400)))))) rNever rNx)
  (rDrop (rApp 3 (rVar 6))))))
  (rRet (rCatT (rVar 2) (rTup (rAC (oV (rVar 3)) rA0)))))))))
abbrev RD_scheme_from (r : FSpec) (r_lengths_from : FSpec) (r_product_from : FSpec) : Prop := ∀ ds ED QD, ds.length = 1 → r ds ED QD → (rb_scheme_from r_lengths_from r_product_from) (startD ["text", "rows", "lengths", "products", "number", "row", "product"] ds) (fun c fs ρ => ED c fs (ρ.take 1)) (finD 1 QD)
end Cm
namespace Cm
open PySem PySem.Spec PyProof.Rows L2 FL
set_option maxHeartbeats 0
open TL (tl)
def dig (c : Nat) : Bool := decide (48 ≤ c) && decide (c ≤ 57)
def plainN (most : Nat) (l : List Nat) : Option Nat :=
  if ((1 ≤ l.length ∧ l.length ≤ most) ∧ l.all dig = true) ∧ (l.head? = some 48 → l = [48]) then some (NumText.digitsVal l) else none
def posN (l : List Nat) : Option Nat := match plainN 4 l with
  | some n => if n = 0 ∨ 1000 < n then none else some n
  | none => none
def ownN (l : List Nat) : Option Int := if l.head? = some 45 then (posN l.tail).map fun n : Nat => 0 - (n : Int) else (posN l).map fun n : Nat => (n : Int)
def sumR (len : Nat) : List Str → List Int → Int → Option (List Int)
  | [], p, _ => some p
  | w :: ws, p, last => match ownN (tl (Txt.partition w ":").1), plainN 2 (tl (Txt.partition w ":").2.2) with
    | some n, some k => if last < (k : Int) ∧ (k : Int) < (len : Int) then sumR len ws (p.set k n) k else none
    | _, _ => none
def sumF (len : Nat) (t : Str) : Option (List Int) := if t = "-" then some (List.replicate len 0) else sumR len (Txt.split t " ") (List.replicate len 0) (-1)
def prF (a b c : Nat) (row : Str) : Option Pr :=
  if (Txt.partition row " * ").2.1 = "" ∨ (Txt.partition (Txt.partition row " * ").2.2 " > ").2.1 = "" then none else
  match sumF a (Txt.partition row " * ").1, sumF b (Txt.partition (Txt.partition row " * ").2.2 " > ").1, sumF c (Txt.partition (Txt.partition row " * ").2.2 " > ").2.2 with
  | some l, some r, some o => some ⟨l, r, o⟩
  | _, _, _ => none
def lenF (row : Str) : Option (Nat × Nat × Nat) := match Txt.split row " " with
  | [s, x, y, z] => match plainN 2 (tl x), plainN 2 (tl y), plainN 2 (tl z) with
    | some a, some b, some c => if s = "scheme" ∧ (1 ≤ a ∧ a ≤ 81) ∧ (1 ≤ b ∧ b ≤ 81) ∧ (1 ≤ c ∧ c ≤ 81) then some (a, b, c) else none
    | _, _, _ => none
  | _ => none
def optI : Option Int → D
  | none => .non
  | some i => .int i
def optN (o : Option Nat) : D := optI (o.map fun n : Nat => (n : Int))
def optR : Option (List Int) → D
  | none => .non
  | some xs => rowD xs
def optP : Option Pr → D
  | none => .non
  | some p => prD p
theorem spl_len (S : List Nat) : ∀ (l : List Nat) (k : Nat) (acc : List Nat), ∀ p ∈ TL.spl S k acc l, p.length ≤ acc.length + l.length
  | [], k, acc, p, h => by
    rw [TL.spl_nil, List.mem_singleton] at h
    subst h; simp
  | c :: r, 0, acc, p, h => by
    cases e : TL.pre S (c :: r) with
    | true =>
      rw [TL.spl_hit e, List.mem_cons] at h
      rcases h with rfl | h
      · omega
      · have := spl_len S r _ _ p h
        simp only [List.length_nil, List.length_cons] at this ⊢; omega
    | false =>
      rw [TL.spl_miss e] at h
      have := spl_len S r _ _ p h
      simp only [List.length_append, List.length_cons, List.length_nil] at this ⊢; omega
  | c :: r, k + 1, acc, p, h => by
    have h : p ∈ TL.spl S k acc r := h
    have := spl_len S r _ _ p h
    simp only [List.length_cons] at this ⊢; omega
theorem split_len {x y : Str} (hy : tl y ≠ []) (hk : y.cps.all (· < 256) = true) : ∀ p ∈ Txt.split x y, p.length ≤ x.length := fun p h => by
  have h1 : tl p ∈ (Txt.split x y).map tl := List.mem_map_of_mem h
  rw [TL.split_spl x y hy (TL.kind_ok hk)] at h1
  have := spl_len _ _ _ _ _ h1
  rw [TL.len_tl, TL.len_tl]
  simpa using this
theorem par_len (S : List Nat) : ∀ (l acc a b : List Nat), TL.par S acc l = some (a, b) → a.length ≤ acc.length + l.length ∧ b.length ≤ l.length
  | [], acc, a, b, h => by simp [TL.par] at h
  | c :: r, acc, a, b, h => by
    cases e : TL.pre S (c :: r) with
    | true =>
      rw [TL.par_hit e] at h
      cases h
      simp only [List.length_drop, List.length_cons]; omega
    | false =>
      rw [TL.par_miss e] at h
      have := par_len S r _ a b h
      simp only [List.length_append, List.length_cons, List.length_nil] at this ⊢; omega
theorem part_len {x y : Str} (hy : tl y ≠ []) : (Txt.partition x y).1.length ≤ x.length ∧ (Txt.partition x y).2.2.length ≤ x.length := by
  rw [TL.partition_par x y hy]
  split
  · rename_i a b e
    have := par_len _ _ _ _ _ e
    rw [TL.len_tl, TL.len_tl, TL.len_tl]
    simpa using this
  · exact ⟨Nat.le_refl _, Nat.zero_le _⟩
theorem in_figs (c : Nat) : decide (c ∈ ("0123456789" : Str).cps.toList) = dig c := by
  rw [show ("0123456789" : Str).cps.toList = [48, 49, 50, 51, 52, 53, 54, 55, 56, 57] by decide +kernel, Bool.eq_iff_iff, decide_eq_true_iff]
  simp only [List.mem_cons, List.not_mem_nil, or_false, dig, Bool.and_eq_true, decide_eq_true_eq]
  omega
theorem eq_sg {c d : Nat} : ((⟨#[c]⟩ : Str) = ⟨#[d]⟩) ↔ c = d := by
  constructor
  · intro h
    have := congrArg tl h
    simpa [tl] using this
  · rintro rfl; rfl
theorem eq_tl {x y : Str} : x = y ↔ tl x = tl y := ⟨fun h => h ▸ rfl, TL.ext_tl⟩
theorem sg0 {c : Nat} : ((⟨#[c]⟩ : Str) = "0") ↔ c = 48 := by rw [show ("0" : Str) = ⟨#[48]⟩ by decide +kernel, eq_sg]
theorem at_zero {α : Type} (c : α) (r : List α) : atI (c :: r) 0 = some c := by simp [atI, ixN]
def r_plain_number : FSpec := fun ds _ Q => ∃ (w : Str) (m : Nat), ds = [.str w, .int m] ∧ w.length ≤ 100000 ∧ m ≤ 640 ∧ ∀ os, Q (optN (plainN m (tl w))) os
theorem rd_plain_number : RD_plain_number r_plain_number := by
  rintro ds ED QD - ⟨w, m, rfl, hw, hm, q⟩
  have hz : w.length ≤ sizeLine := by rw [sizeLine_eq]; omega
  have hl := TL.len_tl w
  have no : plainN m (tl w) = none → QD .non [some (.str w), some (.int m)] := fun e => by have := q [some (.str w), some (.int m)]; rw [e] at this; exact this
  refine ⟨hz, fun h1 => ⟨fun h2 => ⟨fun _ => no ?_, fun h => nomatch h⟩, fun h2 => ?_⟩, fun h1 => ⟨fun _ => ⟨fun _ => no ?_, fun h => nomatch h⟩, fun h => nomatch h⟩⟩
  · unfold plainN
    rw [if_neg]
    intro hh
    simp at h2
    omega
  · have h3 : 1 ≤ w.length ∧ w.length ≤ m := by simp at h1 h2; omega
    refine ⟨hz, ⟨compR_allE (tl w) (fun c => .str ⟨#[c]⟩) (fun c => .bl (!dig c)) rfl (fun c _ => ⟨fun _ => ⟨c, rfl, ?_, rfl⟩, fun h => nomatch h⟩) (fun _ => rfl) ?_⟩⟩
    · rw [in_figs]; cases dig c <;> rfl
    refine ⟨(tl w).map fun c => !dig c, by rw [List.map_map]; rfl, ?_⟩
    have ea : ((tl w).map fun c => !dig c).any id = !((tl w).all dig) := by
      rw [List.any_map, Bool.eq_iff_iff]
      simp
    rw [ea]
    refine ⟨fun h4 => no ?_, fun h4 => ?_⟩
    · unfold plainN
      rw [if_neg]
      intro hh
      rw [hh.1.2] at h4; cases h4
    have h5 : (tl w).all dig = true := by simpa using h4
    obtain ⟨c, r, hc⟩ : ∃ c r, tl w = c :: r := by
      cases e : tl w with
      | nil => rw [e] at hl; simp at hl; omega
      | cons c r => exact ⟨c, r, rfl⟩
    have hc' : w.cps.toList = c :: r := hc
    refine ⟨hz, ?_⟩
    rw [hc', at_zero]
    have fin : (c = 48 → w = "0") → QD (optN (plainN m (tl w))) [some (.str w), some (.int m)] := fun _ => q _
    have e0 : w = "0" ↔ tl w = [48] := by rw [eq_tl, show tl "0" = [48] by decide +kernel]
    have out : (c = 48 → w = "0") → nf [some (.str w), some (.int m), none] (fun ρ => rRet (rCB dIntS (rAC (oV (rVar 0)) rA0)) ρ (fun c fs ρ => ED c fs (ρ.take 2)) (finD 2 QD)) := fun h => by
      refine ⟨(NumText.digitsVal (tl w) : Nat), ?_, by omega, ?_⟩
      · have := SX.int_S (a := tl w) h5 (by rw [hc]; simp) (by rw [← hl]; omega)
        rw [show SX.S (tl w) = w from TL.mk_tl w] at this
        exact this
      · have := q [some (.str w), some (.int m)]
        unfold plainN at this
        rw [if_pos] at this
        · exact this
        · refine ⟨⟨by omega, h5⟩, fun e => ?_⟩
          rw [hc] at e
          exact e0.mp (h (by simpa using e))
    refine ⟨fun h6 => ⟨fun h7 => no ?_, fun h7 => ?_⟩, fun h6 => ?_⟩
    · unfold plainN
      rw [if_neg]
      intro hh
      have c0 : c = 48 := sg0.mp (by simpa using h6)
      have := hh.2 (by rw [hc, c0]; rfl)
      have h8 := e0.mpr this
      simp [h8] at h7
    · refine out fun _ => ?_
      simpa using h7
    · exact ⟨(fun h => nomatch h), fun _ => out fun e => absurd h6 (by rw [e]; decide)⟩
  · unfold plainN
    rw [if_neg]
    intro hh
    simp at h1
    omega
theorem cut_to1 (w : Str) : tl (cutS w none (some 1)) = (tl w).take 1 := by
  show ((w.cps.toList.drop (HT.sIx w.length 0 none)).take (HT.sIx w.length w.length (some 1) - HT.sIx w.length 0 none)) = _
  have hl := TL.len_tl w
  cases e : tl w with
  | nil =>
    have e' : w.cps.toList = [] := e
    rw [e']; simp
  | cons c r =>
    have e' : w.cps.toList = c :: r := e
    rw [e] at hl
    rw [e', hl]
    simp [HT.sIx]
theorem cut_from1 (w : Str) : tl (cutS w (some 1) none) = (tl w).tail := by
  show ((w.cps.toList.drop (HT.sIx w.length 0 (some 1))).take (HT.sIx w.length w.length none - HT.sIx w.length 0 (some 1))) = _
  have hl := TL.len_tl w
  cases e : tl w with
  | nil =>
    have e' : w.cps.toList = [] := e
    rw [e']; simp
  | cons c r =>
    have e' : w.cps.toList = c :: r := e
    rw [e] at hl
    rw [e', hl]
    simp [HT.sIx]
theorem below_iff (w : Str) : decide (cutS w none (some 1) = "-") = decide ((tl w).head? = some 45) := by
  rw [Bool.eq_iff_iff, decide_eq_true_iff, decide_eq_true_iff, eq_tl, cut_to1, show tl "-" = [45] by decide +kernel]
  cases tl w with
  | nil => simp
  | cons c r => simp
def r_own_number : FSpec := fun ds _ Q => ∃ (w : Str), ds = [.str w] ∧ w.length ≤ 100000 ∧ ∀ os, Q (optI (ownN (tl w))) os
theorem rd_own_number : RD_own_number r_own_number r_plain_number := by
  rintro ds ED QD - ⟨w, rfl, hw, q⟩
  have hz : w.length ≤ sizeLine := by rw [sizeLine_eq]; omega
  have hq := q [some (.str w)]
  unfold ownN posN at hq
  have hx : (false ^^ decide (cutS w none (some 1) = "-")) = decide ((tl w).head? = some 45) := by rw [Bool.false_xor]; exact below_iff w
  refine ⟨hz, ⟨fun hh => ⟨hz, cutS w (some 1) none, 4, rfl, Nat.le_trans (cutS_length w _ _) hw, by decide, fun _ => ?_⟩, fun hh => ⟨w, 4, rfl, hw, by decide, fun _ => ?_⟩⟩⟩
  · have hb : (tl w).head? = some 45 := of_decide_eq_true (hx.symm.trans hh)
    rw [if_pos hb] at hq
    rw [cut_from1]
    cases e : plainN 4 (tl w).tail with
    | none => rw [e] at hq; exact ⟨fun _ => ⟨fun _ => hq, fun h => nomatch h⟩, fun h => nomatch h⟩
    | some n =>
      rw [e] at hq
      have hq : QD (optI ((if n = 0 ∨ 1000 < n then none else some n).map fun n : Nat => 0 - (n : Int))) [some (.str w)] := hq
      refine ⟨(fun h => nomatch h), fun _ => ⟨fun h0 => ⟨fun _ => ?_, fun h => nomatch h⟩, fun h0 => ⟨fun h1 => ?_, fun h1 => ⟨fun _ => ?_, fun h => absurd (hh.symm.trans h) (by decide)⟩⟩⟩⟩
      · rw [if_pos (.inl (by simpa using h0))] at hq; exact hq
      · rw [if_pos (.inr (by simp at h1; omega))] at hq; exact hq
      · rw [if_neg (by simp at h0 h1; omega)] at hq; exact hq
  · have hb : ¬ (tl w).head? = some 45 := of_decide_eq_false (hx.symm.trans hh)
    rw [if_neg hb] at hq
    cases e : plainN 4 (tl w) with
    | none => rw [e] at hq; exact ⟨fun _ => ⟨fun _ => hq, fun h => nomatch h⟩, fun h => nomatch h⟩
    | some n =>
      rw [e] at hq
      have hq : QD (optI ((if n = 0 ∨ 1000 < n then none else some n).map fun n : Nat => (n : Int))) [some (.str w)] := hq
      refine ⟨(fun h => nomatch h), fun _ => ⟨fun h0 => ⟨fun _ => ?_, fun h => nomatch h⟩, fun h0 => ⟨fun h1 => ?_, fun h1 => ⟨fun h => absurd (hh.symm.trans h) (by decide), fun _ => ?_⟩⟩⟩⟩
      · rw [if_pos (.inl (by simpa using h0))] at hq; exact hq
      · rw [if_pos (.inr (by simp at h1; omega))] at hq; exact hq
      · rw [if_neg (by simp at h0 h1; omega)] at hq; exact hq
theorem ixN_nat {n k : Nat} (h : (k : Int) < (n : Int)) : ixN n (k : Int) = some k := by rw [ixN_of (by omega) h, Int.toNat_natCast]
theorem colon : tl (":" : Str) ≠ [] := by decide +kernel
theorem blank_ : tl (" " : Str) ≠ [] := by decide +kernel
theorem kblank : (" " : Str).cps.all (· < 256) = true := by decide +kernel
theorem sumR_cons {n : Nat} {w : Str} {ws : List Str} {p : List Int} {last a : Int} {k : Nat} (e1 : ownN (tl (Txt.partition w ":").1) = some a) (e2 : plainN 2 (tl (Txt.partition w ":").2.2) = some k) :
    sumR n (w :: ws) p last = if last < (k : Int) ∧ (k : Int) < (n : Int) then sumR n ws (p.set k a) k else none := by
  conv => lhs; unfold sumR
  rw [e1, e2]
def r_sum_from : FSpec := fun ds _ Q => ∃ (t : Str) (n : Nat), ds = [.str t, .int n] ∧ t.length ≤ 100000 ∧ n ≤ 1000 ∧ ∀ os, Q (optR (sumF n t)) os
theorem rd_sum_from : RD_sum_from r_sum_from r_own_number r_plain_number := by
  rintro ds ED QD - ⟨t, n, rfl, ht, hn, q⟩
  have hz : t.length + 2 ≤ sizeLine := by rw [sizeLine_eq]; omega
  have hq := q [some (.str t), some (.int n)]
  unfold sumF at hq
  refine ⟨by omega, by omega, by show 1 * _ ≤ sizeLine; rw [sizeLine_eq]; omega, ?_⟩
  rw [show (List.replicate ((n : Int)).toNat [D.int 0]).flatten = (List.replicate n (0 : Int)).map D.int by rw [Int.toNat_natCast, List.map_replicate]; simp]
  refine ⟨fun h => ?_, fun h => ?_⟩
  · rw [if_pos (by simpa using h)] at hq; exact hq
  rw [if_neg (by simpa using h)] at hq
  refine ⟨by decide +kernel, hz, ⟨forR_on [2, 3] [4, 5, 6, 7, 8, 9] (fun k s => ∃ (p : List Int) (last : Int), s = [some (.lst .flat (p.map D.int)), some (.int last)] ∧ p.length = n ∧ sumR n ((Txt.split t " ").drop k) p last = sumR n (Txt.split t " ") (List.replicate n 0) (-1)) _ _ ⟨_, _, rfl, by simp, rfl⟩ ?_ ?_⟩⟩
  · rintro i d s j hd hj ⟨p, last, rfl, hp, hs⟩
    obtain ⟨g4, g5, g6, g7, g8, g9, rfl⟩ := len6 hj
    rw [List.getElem?_map] at hd
    obtain ⟨w, hw, rfl⟩ := Option.map_eq_some_iff.mp hd
    have hwl : w.length ≤ 100000 := Nat.le_trans (split_len blank_ kblank w (List.mem_of_getElem? hw)) ht
    obtain ⟨l1, l2⟩ := part_len (x := w) colon
    have hdr : (Txt.split t " ").drop i = w :: (Txt.split t " ").drop (i + 1) := by
      have hi := (List.getElem?_eq_some_iff.mp hw)
      rw [List.drop_eq_getElem_cons hi.1, hi.2]
    rw [hdr] at hs
    rw [← hs] at hq
    unfold sumR at hq
    refine ⟨by decide +kernel, by rw [sizeLine_eq]; omega, rfl, (Txt.partition w ":").1, rfl, by omega, fun _ => ⟨(Txt.partition w ":").2.2, 2, rfl, by omega, by decide, fun _ => ?_⟩⟩
    cases e1 : ownN (tl (Txt.partition w ":").1) with
    | none => rw [e1] at hq; exact ⟨fun _ => ⟨fun _ => hq, fun h => nomatch h⟩, fun h => nomatch h⟩
    | some a =>
      cases e2 : plainN 2 (tl (Txt.partition w ":").2.2) with
      | none => rw [e1, e2] at hq; exact ⟨(fun h => nomatch h), fun _ => ⟨fun _ => ⟨fun _ => hq, fun h => nomatch h⟩, fun h => nomatch h⟩⟩
      | some k =>
        rw [e1, e2] at hq
        have hq : QD (optR (if last < (k : Int) ∧ (k : Int) < (n : Int) then sumR n ((Txt.split t " ").drop (i + 1)) (p.set k a) k else none)) [some (.str t), some (.int n)] := hq
        rw [sumR_cons e1 e2] at hs
        refine ⟨(fun h => nomatch h), fun _ => ⟨(fun h => nomatch h), fun _ => ⟨fun h1 => ⟨fun h2 => ?_, fun h2 => ?_⟩, fun h1 => ⟨fun _ => ?_, fun h => nomatch h⟩⟩⟩⟩
        · rw [if_neg (by simp at h2; omega)] at hq; exact hq
        · have h1 : last < (k : Int) := by simpa using h1
          have h2 : (k : Int) < (n : Int) := by simpa using h2
          rw [if_pos ⟨h1, h2⟩] at hs
          refine natAt_of (j := k) (by rw [List.length_map, hp]; exact ixN_nat h2) ?_
          refine ⟨rfl, p.set k a, k, ?_, by rw [List.length_set]; exact hp, hs⟩
          rw [List.map_set]; rfl
        · rw [if_neg (by simp at h1; omega)] at hq; exact hq
  · rintro s j hj ⟨p, last, rfl, hp, hs⟩
    obtain ⟨g4, g5, g6, g7, g8, g9, rfl⟩ := len6 hj
    rw [List.length_map, List.drop_length] at hs
    have hs : some p = sumR n (Txt.split t " ") (List.replicate n 0) (-1) := hs
    rw [← hs] at hq
    exact hq
theorem star : tl (" * " : Str) ≠ [] := by decide +kernel
theorem arrow : tl (" > " : Str) ≠ [] := by decide +kernel
theorem optR_own (o : Option (List Int)) : (optR o).own = false := by cases o <;> rfl
theorem optR_dat (o : Option (List Int)) : (optR o).dat = true := by
  cases o with
  | none => rfl
  | some xs => exact row_dat xs
theorem optR_non (o : Option (List Int)) : deq (optR o) .non = o.isNone := by
  cases o with
  | none => rfl
  | some xs => simp [optR, rowD, deq, D.py, PyData.eqv]
def lns3 (a b c : Nat) : D := .tup false [.int a, .int b, .int c]
def r_product_from : FSpec := fun ds _ Q => ∃ (t : Str) (a b c : Nat), ds = [.str t, lns3 a b c] ∧ t.length ≤ 100000 ∧ (a ≤ 1000 ∧ b ≤ 1000 ∧ c ≤ 1000) ∧ ∀ os, Q (optP (prF a b c t)) os
theorem rd_product_from : RD_product_from r_product_from r_sum_from := by
  rintro ds ED QD - ⟨t, a, b, c, rfl, ht, hn, q⟩
  have hz : t.length ≤ sizeLine := by rw [sizeLine_eq]; omega
  have hq := q [some (.str t), some (lns3 a b c)]
  unfold prF at hq
  obtain ⟨l1, l2⟩ := part_len (x := t) star
  obtain ⟨l3, l4⟩ := part_len (x := (Txt.partition t " * ").2.2) arrow
  refine ⟨by decide +kernel, hz, rfl, by decide +kernel, by rw [sizeLine_eq]; omega, rfl, ?_⟩
  revert hq l1 l3 l4
  generalize (Txt.partition t " * ").1 = x
  generalize (Txt.partition t " * ").2.1 = s1
  generalize (Txt.partition (Txt.partition t " * ").2.2 " > ").1 = y
  generalize (Txt.partition (Txt.partition t " * ").2.2 " > ").2.1 = s2
  generalize (Txt.partition (Txt.partition t " * ").2.2 " > ").2.2 = z
  intro hq l1 l3 l4
  refine ⟨fun h1 => ⟨fun _ => ?_, fun h => nomatch h⟩, fun h1 => ⟨fun h2 => ?_, fun h2 => ?_⟩⟩
  · rw [if_pos (.inl (by simpa using h1))] at hq; exact hq
  · rw [if_pos (.inr (by simpa using h2))] at hq; exact hq
  rw [if_neg (by simp at h1 h2; simp [h1, h2])] at hq
  refine ⟨compR_allE ([(x, a), (y, b), (z, c)] : List (Str × Nat)) (fun p => .tup false [.str p.1, .int p.2]) (fun p => optR (sumF p.2 p.1)) rfl (fun p hp => ?_) (fun _ => optR_own _) ?_⟩
  · have hp : p.1.length ≤ 100000 ∧ p.2 ≤ 1000 := by
      simp only [List.mem_cons, List.not_mem_nil, or_false] at hp
      rcases hp with rfl | rfl | rfl <;> (dsimp only; omega)
    exact ⟨rfl, fun _ => ⟨p.1, p.2, rfl, hp.1, hp.2, fun _ => ⟨rfl, rfl⟩⟩, fun h => nomatch h⟩
  rw [show List.map (fun p : Str × Nat => optR (sumF p.2 p.1)) [(x, a), (y, b), (z, c)] = [optR (sumF a x), optR (sumF b y), optR (sumF c z)] from rfl]
  have ow : ownL [optR (sumF a x), optR (sumF b y), optR (sumF c z)] = false := by simp [ownL, optR_own]
  have dt : datL [optR (sumF a x), optR (sumF b y), optR (sumF c z)] = true := by simp [datL, optR_dat]
  have hin : inDD .non [optR (sumF a x), optR (sumF b y), optR (sumF c z)] = ((sumF a x).isNone || (sumF b y).isNone || (sumF c z).isNone) := by simp [inDD, optR_non, Bool.or_assoc]
  revert hq hin ow dt
  generalize sumF a x = o1
  generalize sumF b y = o2
  generalize sumF c z = o3
  intro hq ow dt hin
  refine ⟨rfl, dt, by simp [D.dep], fun h => ?_, fun h => ?_⟩
  · cases o1 <;> cases o2 <;> cases o3 <;> first
      | exact hq
      | (exact absurd (hin.symm.trans ((Bool.false_xor _).symm.trans h)) (by simp))
  · cases o1 <;> cases o2 <;> cases o3 <;> first
      | exact hq
      | (exact absurd (hin.symm.trans ((Bool.false_xor _).symm.trans h)) (by simp))
theorem optN_own (o : Option Nat) : (optN o).own = false := by cases o <;> rfl
theorem optN_dat (o : Option Nat) : (optN o).dat = true := by cases o <;> rfl
theorem optN_non (o : Option Nat) : deq (optN o) .non = o.isNone := by cases o <;> rfl
def optL : Option (Nat × Nat × Nat) → D
  | none => .non
  | some p => lns3 p.1 p.2.1 p.2.2
def r_lengths_from : FSpec := fun ds _ Q => ∃ (t : Str), ds = [.str t] ∧ t.length ≤ 100000 ∧ ∀ os, Q (optL (lenF t)) os
theorem rd_lengths_from : RD_lengths_from r_lengths_from r_plain_number := by
  rintro ds ED QD - ⟨t, rfl, ht, q⟩
  have hz : t.length + 2 ≤ sizeLine := by rw [sizeLine_eq]; omega
  have hq := q [some (.str t)]
  have wl : ∀ p ∈ Txt.split t " ", p.length ≤ 100000 := fun p h => Nat.le_trans (split_len blank_ kblank p h) ht
  unfold lenF at hq
  refine ⟨by decide +kernel, hz, ?_⟩
  revert hq wl
  generalize Txt.split t " " = ws
  intro hq wl
  refine ⟨fun h1 => ⟨fun _ => ?_, fun h => nomatch h⟩, fun h1 => ?_⟩
  · match ws, h1 with
    | [], _ => exact hq
    | [_], _ => exact hq
    | [_, _], _ => exact hq
    | [_, _, _], _ => exact hq
    | [_, _, _, _], h1 => exact absurd h1 (by simp)
    | _ :: _ :: _ :: _ :: _ :: _, _ => exact hq
  obtain ⟨s, x, y, z, rfl⟩ := len4 (l := ws) (by simp at h1; omega)
  have hq : QD (optL (match plainN 2 (tl x), plainN 2 (tl y), plainN 2 (tl z) with
    | some a, some b, some c => if s = "scheme" ∧ (1 ≤ a ∧ a ≤ 81) ∧ (1 ≤ b ∧ b ≤ 81) ∧ (1 ≤ c ∧ c ≤ 81) then some (a, b, c) else none
    | _, _, _ => none)) [some (.str t)] := hq
  refine ⟨fun h2 => ?_, fun h2 => ?_⟩
  · have h2 : s ≠ "scheme" := by simpa using h2
    have : (match plainN 2 (tl x), plainN 2 (tl y), plainN 2 (tl z) with
    | some a, some b, some c => if s = "scheme" ∧ (1 ≤ a ∧ a ≤ 81) ∧ (1 ≤ b ∧ b ≤ 81) ∧ (1 ≤ c ∧ c ≤ 81) then some (a, b, c) else none
    | _, _, _ => none) = none := by
      split
      · rw [if_neg fun h => h2 h.1]
      · rfl
    rw [this] at hq
    exact hq
  have h2 : s = "scheme" := by simpa using h2
  refine ⟨compR_allE ([x, y, z] : List Str) (fun w => .str w) (fun w => optN (plainN 2 (tl w))) rfl (fun w hw => ?_) (fun _ => optN_own _) ?_⟩
  · exact ⟨fun _ => ⟨w, 2, rfl, wl w (List.mem_cons_of_mem _ hw), by decide, fun _ => ⟨rfl, rfl⟩⟩, fun h => nomatch h⟩
  rw [show List.map (fun w : Str => optN (plainN 2 (tl w))) [x, y, z] = [optN (plainN 2 (tl x)), optN (plainN 2 (tl y)), optN (plainN 2 (tl z))] from rfl]
  revert hq
  generalize plainN 2 (tl x) = o1
  generalize plainN 2 (tl y) = o2
  generalize plainN 2 (tl z) = o3
  intro hq
  have dt : datL [optN o1, optN o2, optN o3] = true := by simp [datL, optN_dat]
  have hin : inDD .non [optN o1, optN o2, optN o3] = (o1.isNone || o2.isNone || o3.isNone) := by simp [inDD, optN_non, Bool.or_assoc]
  refine ⟨rfl, dt, by simp [D.dep], fun h => ?_, fun h => ?_⟩
  · cases o1 <;> cases o2 <;> cases o3 <;> first
      | exact ⟨fun _ => hq, fun h => nomatch h⟩
      | (exact absurd (hin.symm.trans ((Bool.false_xor _).symm.trans h)) (by simp))
  · cases o1 with
    | none => exact absurd (hin.symm.trans ((Bool.false_xor _).symm.trans h)) (by simp)
    | some a =>
    cases o2 with
    | none => exact absurd (hin.symm.trans ((Bool.false_xor _).symm.trans h)) (by simp)
    | some b =>
    cases o3 with
    | none => exact absurd (hin.symm.trans ((Bool.false_xor _).symm.trans h)) (by simp)
    | some c =>
    refine ⟨compR_allE ([a, b, c] : List Nat) (fun n : Nat => .int n) (fun n : Nat => .bl (decide (1 ≤ n ∧ n ≤ 81))) rfl (fun n _ => ?_) (fun _ => rfl) ?_⟩
    · refine ⟨fun _ => ⟨fun h => ⟨?_, rfl⟩, fun h => ⟨?_, rfl⟩⟩, fun h => nomatch h⟩
      · have h : 1 ≤ n := by simp at h; omega
        show some (D.bl (decide ((n : Int) ≤ 81))) = some (.bl (decide (1 ≤ n ∧ n ≤ 81)))
        rw [show decide ((n : Int) ≤ 81) = decide (1 ≤ n ∧ n ≤ 81) by rw [Bool.eq_iff_iff, decide_eq_true_iff, decide_eq_true_iff]; omega]
      · have h : ¬ 1 ≤ n := by simp at h; omega
        show some (D.bl false) = some (.bl (decide (1 ≤ n ∧ n ≤ 81)))
        rw [decide_eq_false (fun z => h z.1)]
    refine ⟨[decide (1 ≤ a ∧ a ≤ 81), decide (1 ≤ b ∧ b ≤ 81), decide (1 ≤ c ∧ c ≤ 81)], rfl, fun h => ?_, fun h => ?_⟩
    · have hq : QD (optL (if s = "scheme" ∧ (1 ≤ a ∧ a ≤ 81) ∧ (1 ≤ b ∧ b ≤ 81) ∧ (1 ≤ c ∧ c ≤ 81) then some (a, b, c) else none)) [some (.str t)] := hq
      rw [if_neg (by simp at h; omega)] at hq
      exact hq
    · have hq : QD (optL (if s = "scheme" ∧ (1 ≤ a ∧ a ≤ 81) ∧ (1 ≤ b ∧ b ≤ 81) ∧ (1 ≤ c ∧ c ≤ 81) then some (a, b, c) else none)) [some (.str t)] := hq
      rw [if_pos (by simp at h; exact ⟨h2, by omega⟩)] at hq
      exact hq
theorem lenF_bd {t : Str} {a b c : Nat} (h : lenF t = some (a, b, c)) : (1 ≤ a ∧ a ≤ 81) ∧ (1 ≤ b ∧ b ≤ 81) ∧ (1 ≤ c ∧ c ≤ 81) := by
  unfold lenF at h
  repeat' split at h
  all_goals first
    | (simp at h; done)
    | (rename_i hh; simp only [Option.some.injEq, Prod.mk.injEq] at h; obtain ⟨rfl, rfl, rfl⟩ := h; exact hh.2)
structure Wr (t : Str) (a b c : Nat) (ps : List Pr) : Prop where
  ln : t.length ≤ 10000000
  cut : ∃ r0 rows, Txt.split t "\n" = r0 :: rows ∧ lenF r0 = some (a, b, c) ∧ rows.map (prF a b c) = ps.map some ∧ r0.length ≤ 100000 ∧ ∀ r ∈ rows, r.length ≤ 100000
  few : ps.length ≤ 400
def r_scheme_from : FSpec := fun ds _ Q => ∃ (t : Str) (a b c : Nat) (ps : List Pr), ds = [.str t] ∧ Wr t a b c ps ∧ ∀ os, Q (.tup true [.int a, .int b, .int c, .lst .flat (ps.map prD)]) os
theorem rd_scheme_from : RD_scheme_from r_scheme_from r_lengths_from r_product_from := by
  rintro ds ED QD - ⟨t, a, b, c, ps, rfl, h, q⟩
  obtain ⟨r0, rows, hs, h0, hr, l0, lr⟩ := h.cut
  have hb := lenF_bd h0
  have hlen : rows.length = ps.length := by have := congrArg List.length hr; simpa using this
  have hf := h.few
  refine ⟨by decide +kernel, by have := h.ln; rw [sizeLine_eq]; omega, ?_⟩
  rw [hs, List.map_cons]
  conv => whnf
  rw [at_zero]
  refine ⟨r0, rfl, l0, fun _ => ?_⟩
  rw [h0]
  refine ⟨(fun h => nomatch h), fun _ => ?_⟩
  have ecut : cutL (D.str r0 :: rows.map D.str) (some 1) none = rows.map D.str := (cut_from (a := 1) (xs := D.str r0 :: rows.map D.str) (by simp)).trans rfl
  conv => whnf
  rw [ecut]
  refine ⟨forR_on [3] [4, 5, 6] (fun k s => s = [some (.lst .flat ((ps.take k).map prD))]) _ _ rfl ?_ ?_⟩
  · rintro i d s j hd hj rfl
    obtain ⟨g4, g5, g6, rfl⟩ := len3 hj
    rw [enD_get, List.getElem?_map] at hd
    cases hrow : rows[i]? with
    | none => rw [hrow] at hd; cases hd
    | some r =>
    rw [hrow] at hd
    cases hd
    have hi : i < rows.length := (List.getElem?_eq_some_iff.mp hrow).1
    obtain ⟨p, hp⟩ : ∃ p, ps[i]? = some p := ⟨_, List.getElem?_eq_getElem (by omega)⟩
    have hpr : prF a b c r = some p := by
      have := congrArg (fun l => l[i]?) hr
      simp only [List.getElem?_map, hrow, hp] at this
      simpa using this
    refine ⟨rfl, r, a, b, c, rfl, lr r (List.mem_of_getElem? hrow), by omega, fun _ => ?_⟩
    rw [hpr]
    refine ⟨(fun h => nomatch h), fun _ => ⟨fun h => ?_, fun _ => ?_⟩⟩
    · simp at h; omega
    · rw [List.take_add_one, hp, List.map_append]
      exact ⟨by rw [List.length_map, List.length_take, sizeLine_eq]; omega, rfl, rfl⟩
  · rintro s j hj rfl
    obtain ⟨g4, g5, g6, rfl⟩ := len3 hj
    rw [enD_len, List.length_map, hlen, List.take_length]
    exact ⟨by show 3 + 1 ≤ sizeLine; decide, rfl, q _⟩
end Cm
namespace Cm
open PySem PySem.Spec PyProof.Rows L2 FL
set_option maxHeartbeats 0
open TL (tl)
theorem itxt_sg {i : Int} (h0 : -1000 ≤ i) (h1 : i ≤ 1000) : ∀ c ∈ tl (itxt i), c = 45 ∨ (48 ≤ c ∧ c ≤ 57) := by
  have : ∀ n : Fin 2001, ∀ c ∈ tl (itxt ((n.val : Int) - 1000)), c = 45 ∨ (48 ≤ c ∧ c ≤ 57) := by decide +kernel
  have := this ⟨(i + 1000).toNat, by omega⟩
  rw [show (((i + 1000).toNat : Nat) : Int) - 1000 = i by omega] at this
  exact this
end Cm
namespace Cm
open PySem PySem.Spec PyProof.Rows L2 FL
set_option maxHeartbeats 0
open TL (tl)
theorem tl_colon : tl (":" : Str) = [58] := by decide +kernel
theorem tl_blank : tl (" " : Str) = [32] := by decide +kernel
theorem word_sg {p : Int × Nat} (h0 : -1000 ≤ p.1) (h1 : p.1 ≤ 1000) (h2 : p.2 ≤ 1000) : ∀ c ∈ tl (wordT p), c = 45 ∨ (48 ≤ c ∧ c ≤ 58) := by
  unfold wordT
  rw [TL.tl_append, TL.tl_append, tl_colon]
  intro c h
  rw [List.mem_append, List.mem_append] at h
  rcases h with (h | h) | h
  · have := itxt_sg h0 h1 c h; omega
  · rw [List.mem_singleton] at h; omega
  · have := itxt_sg (i := (p.2 : Nat)) (by omega) (by omega) c h; omega
theorem join_sg (y : Str) : ∀ (parts : List Str), ∀ c ∈ tl (Txt.join y parts), c ∈ tl y ∨ ∃ p ∈ parts, c ∈ tl p
  | [], c, h => by rw [TL.join_eq] at h; exact absurd h (by show c ∉ tl (Str.join y []); simp [Str.join, tl, Str.empty])
  | [x], c, h => by rw [TL.join_eq] at h; exact .inr ⟨x, List.mem_singleton.mpr rfl, h⟩
  | x :: z :: r, c, h => by
    have ih := join_sg y (z :: r) c
    rw [TL.join_eq] at ih h
    have h : c ∈ tl (x ++ y ++ Str.join y (z :: r)) := h
    rw [TL.tl_append, List.mem_append, TL.tl_append, List.mem_append] at h
    rcases h with (h | h) | h
    · exact .inr ⟨x, List.mem_cons_self .., h⟩
    · exact .inl h
    · rcases ih h with h | ⟨p, hp, h⟩
      · exact .inl h
      · exact .inr ⟨p, List.mem_cons_of_mem _ hp, h⟩
theorem sumT_sg {xs : List Int} (h : Tp xs) : ∀ c ∈ tl (sumT xs), c = 32 ∨ c = 45 ∨ (48 ≤ c ∧ c ≤ 58) := by
  intro c hc
  unfold sumT at hc
  split at hc
  · rw [show tl ("-" : Str) = [45] by decide +kernel, List.mem_singleton] at hc
    omega
  · rcases join_sg _ _ c hc with h1 | ⟨w, hw, h1⟩
    · rw [tl_blank, List.mem_singleton] at h1; omega
    · obtain ⟨p, hp, rfl⟩ := List.mem_map.mp hw
      obtain ⟨m1, m2, _, _⟩ := wp_mem hp
      have hl := h.ln
      have := word_sg (h.bd _ m1).1 (h.bd _ m1).2 (by omega) c h1
      omega
theorem pre_two {a b c : Nat} {p rest : List Nat} (hab : b ≠ a) (h : b ∉ p) : ∀ i, i < p.length → TL.pre [a, b, c] ((p ++ ([a, b, c] ++ rest)).drop i) = false := fun i hi => by
  cases hp : TL.pre [a, b, c] ((p ++ ([a, b, c] ++ rest)).drop i) with
  | false => rfl
  | true =>
    have e : ((p ++ ([a, b, c] ++ rest)).drop i).take 3 = [a, b, c] := eq_of_beq hp
    have e1 := congrArg (fun l => l[1]?) e
    simp only [List.getElem?_take, List.getElem?_drop] at e1
    have e1 : (p ++ ([a, b, c] ++ rest))[i + 1]? = some b := by simpa using e1
    by_cases h1 : i + 1 < p.length
    · rw [List.getElem?_append_left h1] at e1
      exact absurd (List.mem_of_getElem? e1) h
    · rw [List.getElem?_append_right (by omega), show i + 1 - p.length = 0 by omega] at e1
      have : a = b := by simpa using e1
      exact absurd this.symm hab
theorem part_two {y x z : Str} {a b c : Nat} (ey : tl y = [a, b, c]) (hab : b ≠ a) (h : b ∉ tl x) : Txt.partition (x ++ y ++ z) y = (x, y, z) := by
  rw [TL.partition_par _ y (by rw [ey]; simp), TL.tl_append, TL.tl_append, List.append_assoc, ey, TL.par_part (by simp) (pre_two hab h)]
  show ((⟨([] ++ tl x).toArray⟩ : Str), y, (⟨(tl z).toArray⟩ : Str)) = _
  rw [List.nil_append, TL.mk_tl, TL.mk_tl]
theorem tl_star : tl (" * " : Str) = [32, 42, 32] := by decide +kernel
theorem tl_arrow : tl (" > " : Str) = [32, 62, 32] := by decide +kernel
theorem prT_sg {p : Pr} (h : PrT p) : 10 ∉ tl (prT p) := by
  unfold prT
  simp only [TL.tl_append, List.mem_append, tl_star, tl_arrow]
  rintro ((((hh | hh) | hh) | hh) | hh)
  · have := sumT_sg h.l _ hh; omega
  · simp at hh
  · have := sumT_sg h.r _ hh; omega
  · simp at hh
  · have := sumT_sg h.o _ hh; omega
theorem headT_sg {a b c : Nat} (ha : a ≤ 81) (hb : b ≤ 81) (hc : c ≤ 81) : 10 ∉ tl (headT a b c) := by
  intro h
  unfold headT at h
  rcases join_sg _ _ _ h with h | ⟨w, hw, h⟩
  · rw [tl_blank] at h; simp at h
  · simp only [List.mem_cons, List.not_mem_nil, or_false] at hw
    rcases hw with rfl | rfl | rfl | rfl
    · exact absurd h (by decide +kernel)
    · have := itxt_sg (by omega) (by omega) _ h; omega
    · have := itxt_sg (by omega) (by omega) _ h; omega
    · have := itxt_sg (by omega) (by omega) _ h; omega
theorem sch_cut {a b c : Nat} {ps : List Pr} (ha : a ≤ 81) (hb : b ≤ 81) (hc : c ≤ 81) (h : ∀ p ∈ ps, PrT p) : Txt.split (schT a b c ps) "\n" = headT a b c :: ps.map prT := by
  unfold schT
  refine TL.split_join (s := 10) (S := []) (by decide +kernel) (by decide +kernel) (by simp) fun w hw hs => ?_
  rcases List.mem_cons.mp hw with rfl | hw
  · exact headT_sg ha hb hc hs
  · obtain ⟨p, hp, rfl⟩ := List.mem_map.mp hw
    exact prT_sg (h p hp) hs
theorem sch_len {a b c : Nat} {ps : List Pr} (ha : a ≤ 81) (hb : b ≤ 81) (hc : c ≤ 81) (h : ∀ p ∈ ps, PrT p) (hl : ps.length ≤ 1000) : (schT a b c ps).length ≤ 10000000 := by
  have := jlen (a := "\n") (ys := headT a b c :: ps.map prT) (B := 2922) fun y hy => by
    rcases List.mem_cons.mp hy with rfl | hy
    · have := headT_len (a := a) (b := b) (c := c) (by omega); omega
    · obtain ⟨p, hp, rfl⟩ := List.mem_map.mp hy
      exact prT_len (h p hp)
  rw [List.length_cons, List.length_map, show ("\n" : Str).length = 1 by decide +kernel] at this
  unfold schT
  omega
end Cm
namespace Cm
open PySem PySem.Spec PyProof.Rows L2 FL
def rb_law_plain : RS := (rSeq (rIf (rOr (rTst (rBin dEq (oV (rVar 0)) (oV (rC (.str ""))))) (rOr (rTst (rBin dGt (oV (rCB dLen (rAC (oV (rVar 0)) rA0))) (oV (rC (.int 5))))) (rTst (rCB dAny (rAC (oV (rComp (rItS (rVar 0)) (gNm 3) rYes (rBin (dInS true) (oV (rVar 3)) (oV (rC (.str "0123456789")))) [3])) rA0))))) (rRet (rC (.bl false))) rNx)
  (rRet (rAndV (rBin dEq (oV (rCB dStrI (rAC (oV (rCB dIntS (rAC (oV (rVar 0)) rA0))) rA0))) (oV (rVar 0))) (rChain dLe dLe (oV (rVar 1)) (oV (rCB dIntS (rAC (oV (rVar 0)) rA0))) (oV (rVar 2))))))
abbrev RD_law_plain (r : FSpec) : Prop := ∀ ds ED QD, ds.length = 3 → r ds ED QD → rb_law_plain (startD ["_law_word", "_law_least", "_law_most", "_law_sign"] ds) (fun c fs ρ => ED c fs (ρ.take 3)) (finD 3 QD)
def rb_law_sum_fits (r_law_plain : FSpec) : RS := (rSeq (rIf (rTst (rBin dEq (oV (rVar 0)) (oV (rLst (rAC (oV (rC (.str "-"))) rA0))))) (rRet (rC (.bl true))) rNx)
  (rSeq (rSetF 2 (rC (.int (-1))))
  (rSeq (rFor (rItA (rVar 0)) (gNm 3) (rSeq (rSetF 4 (rSplit (rVar 3) (rC (.str ":"))))
  (rSeq (rIf (rOr (rTst (rBin dNe (oV (rCB dLen (rAC (oV (rVar 4)) rA0))) (oV (rC (.int 2))))) (rNot (rTst (rCall [] r_law_plain (rAC (oV (rBin dIx (oV (rVar 4)) (oV (rC (.int 1))))) (rAC (oV (rIc (fun i => i + 1) (oV (rVar 2)))) (rAC (oV (rIc (fun i => i - 1) (oV (rVar 1)))) rA0))))))) (rRet (rC (.bl false))) rNx)
  (rSeq (rSetF 5 (rIfE (rTst (rBin dEq (oV (rSl (oV (rBin dIx (oV (rVar 4)) (oV (rC (.int 0))))) rP0 (rP1 (rC (.int 1))))) (oV (rC (.str "-"))))) (rSl (oV (rBin dIx (oV (rVar 4)) (oV (rC (.int 0))))) (rP1 (rC (.int 1))) rP0) (rBin dIx (oV (rVar 4)) (oV (rC (.int 0))))))
  (rSeq (rIf (rNot (rTst (rCall [] r_law_plain (rAC (oV (rVar 5)) (rAC (oV (rC (.int 1))) (rAC (oV (rC (.int 1000))) rA0)))))) (rRet (rC (.bl false))) rNx)
  (rSetF 2 (rCB dIntS (rAC (oV (rBin dIx (oV (rVar 4)) (oV (rC (.int 1))))) rA0))))))))
  (rRet (rBin dNe (oV (rVar 0)) (oV (rLst rA0)))))))
abbrev RD_law_sum_fits (r : FSpec) (r_law_plain : FSpec) : Prop := ∀ ds ED QD, ds.length = 2 → r ds ED QD → (rb_law_sum_fits r_law_plain) (startD ["_law_words", "_law_length", "_law_last", "_law_word", "_law_halves", "_law_number_here"] ds) (fun c fs ρ => ED c fs (ρ.take 2)) (finD 2 QD)
def rb_law_product_fits (r_law_sum_fits : FSpec) : RS := (rSeq (rSetF 2 (rSplit (rVar 0) (rC (.str " "))))
  (rSeq (rIf (rOr (rTst (rBin dNe (oV (rCntS (rVar 2) (rC (.str "*")))) (oV (rC (.int 1))))) (rOr (rTst (rBin dNe (oV (rCntS (rVar 2) (rC (.str ">")))) (oV (rC (.int 1))))) (rTst (rBin dGt (oV (rIdxS (rVar 2) (rC (.str "*")))) (oV (rIdxS (rVar 2) (rC (.str ">")))))))) (rRet (rC (.bl false))) rNx)
  (rSeq (rParN [4, 5] [false, false] (rAC (oV (rIdxS (rVar 2) (rC (.str "*")))) (rAC (oV (rIdxS (rVar 2) (rC (.str ">")))) rA0)))
  (rSeq (rSetF 3 (rLst (rAC (oV (rSl (oV (rVar 2)) rP0 (rP1 (rVar 4)))) (rAC (oV (rSl (oV (rVar 2)) (rP1 (rIc (fun i => i + 1) (oV (rVar 4)))) (rP1 (rVar 5)))) (rAC (oV (rSl (oV (rVar 2)) (rP1 (rIc (fun i => i + 1) (oV (rVar 5)))) rP0)) rA0)))))
  (rRet (rCB dAll (rAC (oV (rComp (rZp (rAC (oV (rVar 3)) (rAC (oV (rVar 1)) rA0))) (gTp 2 (gCs (gNm 6) (gCs (gNm 7) gNl))) rYes (rCall [] r_law_sum_fits (rAC (oV (rVar 6)) (rAC (oV (rVar 7)) rA0))) [7, 6])) rA0)))))))
abbrev RD_law_product_fits (r : FSpec) (r_law_sum_fits : FSpec) : Prop := ∀ ds ED QD, ds.length = 2 → r ds ED QD → (rb_law_product_fits r_law_sum_fits) (startD ["_law_row", "_law_lengths_here", "_law_words", "_law_parts", "_law_star", "_law_arrow", "_law_part_here", "_law_length"] ds) (fun c fs ρ => ED c fs (ρ.take 2)) (finD 2 QD)
def rb_law_first_bad (r_law_product_fits : FSpec) (r_law_plain : FSpec) : RS := (rSeq (rSetF 1 (rSplit (rVar 0) (rC (.str "\n"))))
  (rSeq (rSetF 2 (rSplit (rBin dIx (oV (rVar 1)) (oV (rC (.int 0)))) (rC (.str " "))))
  (rSeq (rIf (rOr (rTst (rBin dNe (oV (rCB dLen (rAC (oV (rVar 2)) rA0))) (oV (rC (.int 4))))) (rOr (rTst (rBin dNe (oV (rBin dIx (oV (rVar 2)) (oV (rC (.int 0))))) (oV (rC (.str "scheme"))))) (rNot (rTst (rCB dAll (rAC (oV (rComp (rItA (rSl (oV (rVar 2)) (rP1 (rC (.int 1))) rP0)) (gNm 6) rYes (rCall [] r_law_plain (rAC (oV (rVar 6)) (rAC (oV (rC (.int 1))) (rAC (oV (rC (.int 81))) rA0)))) [6])) rA0)))))) (rRet (rC (.int 0))) rNx)
  (rSeq (rSetF 3 (rComp (rItA (rSl (oV (rVar 2)) (rP1 (rC (.int 1))) rP0)) (gNm 6) rYes (rCB dIntS (rAC (oV (rVar 6)) rA0)) [6]))
  (rSeq (rFor (rEn (rAC (oV (rSl (oV (rVar 1)) (rP1 (rC (.int 1))) rP0)) rA0)) (gTp 2 (gCs (gNm 4) (gCs (gNm 5) gNl))) (rIf (rOr (rTst (rBin dGt (oV (rVar 4)) (oV (rC (.int 399))))) (rNot (rTst (rCall [] r_law_product_fits (rAC (oV (rVar 5)) (rAC (oV (rVar 3)) rA0)))))) (rRet (rIc (fun i => i + 1) (oV (rVar 4)))) rNx))
  (rRet (rC .non)))))))
abbrev RD_law_first_bad (r : FSpec) (r_law_product_fits : FSpec) (r_law_plain : FSpec) : Prop := ∀ ds ED QD, ds.length = 1 → r ds ED QD → (rb_law_first_bad r_law_product_fits r_law_plain) (startD ["_law_text_here", "_law_rows", "_law_words", "_law_lengths_here", "_law_number_here", "_law_row", "_law_word"] ds) (fun c fs ρ => ED c fs (ρ.take 1)) (finD 1 QD)
def rb_law_same_number : RS := (rSeq (rIf (rOr (rTst (rBin (dIsN0 false) (oV (rVar 1)) (oV (rC .non)))) (rTst (rBin (dIsN0 false) (oV (rVar 0)) (oV (rC .non))))) (rRet (rAndV (rIsN false (oV (rVar 0))) (rIsN false (oV (rVar 1))))) rNx)
  (rRet (rAndV (rCB dIsi (rAC (oV (rVar 0)) (rAC (oV (rC (.ty "int"))) rA0))) (rAndV (rNotV (rCB dIsi (rAC (oV (rVar 0)) (rAC (oV (rC (.ty "bool"))) rA0)))) (rBin dEq (oV (rVar 0)) (oV (rVar 1)))))))
abbrev RD_law_same_number (r : FSpec) : Prop := ∀ ds ED QD, ds.length = 2 → r ds ED QD → rb_law_same_number (startD ["_law_found", "_law_due"] ds) (fun c fs ρ => ED c fs (ρ.take 2)) (finD 2 QD)
end Cm
namespace Cm
open PySem PySem.Spec PyProof.Rows L2 FL
set_option maxHeartbeats 0
open TL (tl)
theorem dgv_ge : ∀ (r : List Nat) (a : Nat), a * 10 ^ r.length ≤ r.foldl (fun acc c => acc * 10 + (c - 48)) a
  | [], a => by simp
  | c :: r, a => by
    have := dgv_ge r (a * 10 + (c - 48))
    rw [List.foldl_cons, List.length_cons]
    refine Nat.le_trans ?_ this
    rw [Nat.pow_succ, Nat.add_mul, Nat.mul_comm (10 ^ r.length) 10, ← Nat.mul_assoc]
    exact Nat.le_add_right _ _
theorem dgv_lt : ∀ (r : List Nat) (a : Nat), r.all dig = true → r.foldl (fun acc c => acc * 10 + (c - 48)) a < (a + 1) * 10 ^ r.length
  | [], a, _ => by simp
  | c :: r, a, h => by
    rw [List.all_cons, Bool.and_eq_true] at h
    have hc : 48 ≤ c ∧ c ≤ 57 := by have := h.1; simp [dig] at this; omega
    have := dgv_lt r (a * 10 + (c - 48)) h.2
    rw [List.foldl_cons, List.length_cons]
    refine Nat.lt_of_lt_of_le this ?_
    rw [Nat.pow_succ, Nat.mul_comm (10 ^ r.length) 10, ← Nat.mul_assoc]
    exact Nat.mul_le_mul_right _ (by omega)
theorem plain_small {m m' k : Nat} {l : List Nat} (h : plainN m l = some k) (hk : k < 10 ^ m') (h1 : 1 ≤ m') : plainN m' l = some k := by
  unfold plainN at h ⊢
  split at h
  · rename_i hh
    obtain ⟨⟨⟨g1, g2⟩, g3⟩, g4⟩ := hh
    cases h
    rw [if_pos]
    refine ⟨⟨⟨g1, ?_⟩, g3⟩, g4⟩
    cases l with
    | nil => simp at g1
    | cons c r =>
      rw [List.length_cons]
      rw [List.all_cons, Bool.and_eq_true] at g3
      have hc : 48 ≤ c := by have := g3.1; simp [dig] at this; omega
      by_cases e : c = 48
      · subst e
        have := g4 rfl
        simp only [List.cons.injEq, true_and] at this
        subst this
        simpa using h1
      · have z := dgv_ge r (c - 48)
        have e2 : NumText.digitsVal (c :: r) = r.foldl (fun acc c => acc * 10 + (c - 48)) (c - 48) := by
          unfold NumText.digitsVal
          rw [List.foldl_cons, Nat.zero_mul, Nat.zero_add]
        rw [e2] at hk
        have h2 : 10 ^ r.length ≤ (c - 48) * 10 ^ r.length := Nat.le_mul_of_pos_left _ (by omega)
        have h3 : 10 ^ r.length < 10 ^ m' := by omega
        have := (Nat.pow_lt_pow_iff_right (by decide : 1 < 10)).mp h3
        omega
  · cases h
theorem plain_sg {m k : Nat} {l : List Nat} (h : plainN m l = some k) : (∀ c ∈ l, 48 ≤ c ∧ c ≤ 57) ∧ l ≠ [] := by
  unfold plainN at h
  split at h
  · rename_i hh
    obtain ⟨⟨⟨g1, g2⟩, g3⟩, g4⟩ := hh
    refine ⟨fun c hc => ?_, fun e => by rw [e] at g1; simp at g1⟩
    have := List.all_eq_true.mp g3 c hc
    simp [dig] at this; omega
  · cases h
theorem of_dig {c : Nat} (h : 48 ≤ c ∧ c ≤ 57) : (Char.ofNat c).toNat = c := by
  have : ∀ n : Fin 58, 48 ≤ n.val → (Char.ofNat n.val).toNat = n.val := by decide
  exact this ⟨c, by omega⟩ h.1
theorem map_dig : ∀ {l : List Nat}, NumText.AllDigits l → (l.map Char.ofNat).map Char.toNat = l
  | [], _ => rfl
  | c :: r, h => by
    rw [List.map_cons, List.map_cons, of_dig h.head, map_dig h.tail]
theorem all_digs {l : List Nat} (h : l.all dig = true) : NumText.AllDigits l := fun c hc => by
  have := List.all_eq_true.mp h c hc
  simp [dig] at this; omega
theorem val_tl {l : List Nat} (g1 : 1 ≤ l.length) (g3 : l.all dig = true) : tl (itxt (NumText.digitsVal l : Nat)) = l ↔ (l.head? = some 48 → l = [48]) := by
  have had := all_digs g3
  have e : tl (itxt (NumText.digitsVal l : Nat)) = (Nat.toDigits 10 (NumText.digitsVal l)).map Char.toNat := by
    unfold itxt
    exact TL.tl_num _
  rw [e]
  constructor
  · intro h hz
    cases l with
    | nil => simp at g1
    | cons c r =>
      have hz : c = 48 := by simpa using hz
      subst hz
      cases r with
      | nil => rfl
      | cons d r =>
        rw [NumText.toDigits_all _ had] at h
        have hl := congrArg List.length h
        rw [List.dropWhile_cons, if_pos (by decide)] at hl
        have hd := (List.dropWhile_sublist (fun x : Nat => x == 48) (l := d :: r)).length_le
        cases q : List.dropWhile (fun x : Nat => x == 48) (d :: r) with
        | nil => rw [q] at hl; simp at hl
        | cons x y =>
          rw [q] at hl hd
          simp at hl hd
          omega
  · intro h
    cases l with
    | nil => simp at g1
    | cons c r =>
      have hd := NumText.toDigits_digitsVal r.length (c :: r) rfl had (by
        by_cases hc : c = 48
        · subst hc
          have := h rfl
          simp only [List.cons.injEq, true_and] at this
          left; rw [this]; rfl
        · right
          have := had.head
          exact ⟨c, r, rfl, by omega⟩)
      rw [hd, map_dig had]
/-- the number of a plain word, written again -/
theorem plain_back {m k : Nat} {l : List Nat} (h : plainN m l = some k) : tl (itxt (k : Nat)) = l := by
  unfold plainN at h
  split at h
  · rename_i hh
    cases h
    exact (val_tl hh.1.1.1 hh.1.2).mpr hh.2
  · cases h
def plB (l : List Nat) (lo hi : Int) : Bool := match plainN 5 l with
  | some k => decide (lo ≤ (k : Int) ∧ (k : Int) ≤ hi)
  | none => false
def r_law_plain : FSpec := fun ds _ Q => ∃ (w : Str) (lo hi : Int), ds = [.str w, .int lo, .int hi] ∧ w.length ≤ 100000 ∧ ∀ os, Q (.bl (plB (tl w) lo hi)) os
theorem rd_law_plain : RD_law_plain r_law_plain := by
  rintro ds ED QD - ⟨w, lo, hi, rfl, hw, q⟩
  have hz : w.length ≤ sizeLine := by rw [sizeLine_eq]; omega
  have hl := TL.len_tl w
  have hq := q [some (.str w), some (.int lo), some (.int hi)]
  have no : plainN 5 (tl w) = none → QD (.bl false) [some (.str w), some (.int lo), some (.int hi)] := fun e => by unfold plB at hq; rw [e] at hq; exact hq
  have e0 : w = "" ↔ tl w = [] := by rw [eq_tl, show tl "" = [] by decide +kernel]
  refine ⟨fun h1 => ⟨fun _ => no ?_, fun h => nomatch h⟩, fun h1 => ⟨hz, fun h2 => ⟨fun _ => no ?_, fun h => nomatch h⟩, fun h2 => ?_⟩⟩
  · have h1 : w = "" := by simpa using h1
    rw [e0.mp h1]; rfl
  · unfold plainN
    rw [if_neg]
    intro hh
    simp at h2
    omega
  have h3 : 1 ≤ (tl w).length ∧ (tl w).length ≤ 5 := by
    have h1 : w ≠ "" := by simpa using h1
    have h4 : tl w ≠ [] := fun e => h1 (e0.mpr e)
    have := List.length_pos_iff.mpr h4
    simp at h2
    omega
  refine ⟨hz, ⟨compR_allE (tl w) (fun c => .str ⟨#[c]⟩) (fun c => .bl (!dig c)) rfl (fun c _ => ⟨fun _ => ⟨c, rfl, ?_, rfl⟩, fun h => nomatch h⟩) (fun _ => rfl) ?_⟩⟩
  · rw [in_figs]; cases dig c <;> rfl
  refine ⟨(tl w).map fun c => !dig c, by rw [List.map_map]; rfl, ?_⟩
  have ea : ((tl w).map fun c => !dig c).any id = !((tl w).all dig) := by
    rw [List.any_map, Bool.eq_iff_iff]
    simp
  rw [ea]
  refine ⟨fun h4 => no ?_, fun h4 => ?_⟩
  · unfold plainN
    rw [if_neg]
    intro hh
    rw [hh.1.2] at h4; cases h4
  have h5 : (tl w).all dig = true := by simpa using h4
  have hint : PySem.intText? w = some ((NumText.digitsVal (tl w) : Nat) : Int) := by
    have := SX.int_S (a := tl w) h5 (fun e => by rw [e] at h3; simp at h3) (by omega)
    rw [show SX.S (tl w) = w from TL.mk_tl w] at this
    exact this
  have hbig : ((NumText.digitsVal (tl w) : Nat) : Int).natAbs.log2 < 1920 := by
    have := dgv_lt (tl w) 0 h5
    have h6 : 10 ^ (tl w).length ≤ 10 ^ 5 := Nat.pow_le_pow_right (by decide) h3.2
    have h7 : NumText.digitsVal (tl w) < 10 ^ 5 := by
      unfold NumText.digitsVal
      omega
    rw [Int.natAbs_natCast]
    by_cases h0 : NumText.digitsVal (tl w) = 0
    · rw [h0]; decide
    · have := (Nat.log2_lt h0 (k := 17)).mpr (by omega)
      omega
  refine ⟨_, hint, by omega, hbig, ?_⟩
  refine ⟨fun h6 => ?_, fun h6 => ?_⟩
  · have hc : (tl w).head? = some 48 → tl w = [48] := by
      refine (val_tl h3.1 h5).mp ?_
      have : itxt (NumText.digitsVal (tl w) : Nat) = w := by simpa [itxt] using h6
      rw [this]
    have e5 : plainN 5 (tl w) = some (NumText.digitsVal (tl w)) := by
      unfold plainN
      rw [if_pos ⟨⟨h3, h5⟩, hc⟩]
    unfold plB at hq
    rw [e5] at hq
    refine ⟨_, hint, by omega, fun h7 => ?_, fun h7 => ?_⟩
    · have h7 : lo ≤ ((NumText.digitsVal (tl w) : Nat) : Int) := by simpa using h7
      have e : decide (((NumText.digitsVal (tl w) : Nat) : Int) ≤ hi) = decide (lo ≤ ((NumText.digitsVal (tl w) : Nat) : Int) ∧ ((NumText.digitsVal (tl w) : Nat) : Int) ≤ hi) := by
        rw [Bool.eq_iff_iff, decide_eq_true_iff, decide_eq_true_iff]
        exact ⟨fun z => ⟨h7, z⟩, fun z => z.2⟩
      show QD (.bl (decide (((NumText.digitsVal (tl w) : Nat) : Int) ≤ hi))) _
      rw [e]
      exact hq
    · have h7 : ¬ lo ≤ ((NumText.digitsVal (tl w) : Nat) : Int) := by simpa using h7
      dsimp only at hq
      rw [decide_eq_false (fun z => h7 z.1)] at hq
      exact hq
  · refine no ?_
    unfold plainN
    rw [if_neg]
    intro hh
    have h7 := TL.ext_tl ((val_tl h3.1 h5).mpr hh.2)
    have h6 : ¬ itxt (NumText.digitsVal (tl w) : Nat) = w := by simpa [itxt] using h6
    exact h6 h7
structure Sep (y : Str) (s : Nat) : Prop where
  ey : tl y = [s]
  k : y.cps.all (· < 256) = true
  ne : tl y ≠ [] := by rw [ey]; simp
section
variable {y : Str} {s : Nat}
theorem Sep.none (h : Sep y s) {x : Str} (hx : s ∉ tl x) : Txt.split x y = [x] := by
  refine TL.map_tl_inj ?_
  rw [TL.split_spl x y h.ne (TL.kind_ok h.k), h.ey, TL.spl_last1 hx]
  rfl
theorem Sep.first (h : Sep y s) {a b : Str} (ha : s ∉ tl a) : Txt.split (a ++ y ++ b) y = a :: Txt.split b y := by
  refine TL.map_tl_inj ?_
  rw [TL.split_spl _ y h.ne (TL.kind_ok h.k), TL.tl_append, TL.tl_append, List.append_assoc, h.ey, TL.spl_part1 ha, List.map_cons, TL.split_spl b y h.ne (TL.kind_ok h.k), h.ey, List.nil_append]
theorem Sep.cut (h : Sep y s) {x : Str} (hx : s ∈ tl x) : ∃ a b : Str, x = a ++ y ++ b ∧ s ∉ tl a := by
  obtain ⟨a, b, e, ha⟩ := List.eq_append_cons_of_mem hx
  refine ⟨⟨a.toArray⟩, ⟨b.toArray⟩, TL.ext_tl ?_, ha⟩
  rw [TL.tl_append, TL.tl_append, h.ey, e]
  show a ++ s :: b = a ++ [s] ++ b
  simp
theorem Sep.ind (h : Sep y s) {P : Str → Prop} (h0 : ∀ x, s ∉ tl x → P x) (h1 : ∀ a b, s ∉ tl a → P b → P (a ++ y ++ b)) (x : Str) : P x := by
  generalize hn : (tl x).length = n
  induction n using Nat.strongRecOn generalizing x with
  | _ n ih =>
    by_cases hx : s ∈ tl x
    · obtain ⟨a, b, rfl, ha⟩ := h.cut hx
      refine h1 a b ha (ih (tl b).length ?_ b rfl)
      rw [← hn, TL.tl_append, TL.tl_append, h.ey]
      simp only [List.length_append, List.length_cons, List.length_nil]; omega
    · exact h0 x hx
theorem Sep.ne_nil (h : Sep y s) (x : Str) : Txt.split x y ≠ [] := by
  refine h.ind (P := fun x => Txt.split x y ≠ []) (fun x hx => by rw [h.none hx]; simp) (fun a b ha _ => by rw [h.first ha]; simp) x
/-- the pieces are free of the sign -/
theorem Sep.free (h : Sep y s) (x : Str) : ∀ p ∈ Txt.split x y, s ∉ tl p := by
  refine h.ind (P := fun x => ∀ p ∈ Txt.split x y, s ∉ tl p) (fun x hx p hp => ?_) (fun a b ha ih p hp => ?_) x
  · rw [h.none hx, List.mem_singleton] at hp
    subst hp; exact hx
  · rw [h.first ha] at hp
    rcases List.mem_cons.mp hp with rfl | hp
    · exact ha
    · exact ih p hp
theorem join_cons (a : Str) {l : List Str} (hl : l ≠ []) : Txt.join y (a :: l) = a ++ y ++ Txt.join y l := by
  rw [TL.join_eq, TL.join_eq]
  cases l with
  | nil => exact absurd rfl hl
  | cons b r => rfl
/-- the pieces joined -/
theorem Sep.join (h : Sep y s) (x : Str) : Txt.join y (Txt.split x y) = x := by
  refine h.ind (P := fun x => Txt.join y (Txt.split x y) = x) (fun x hx => ?_) (fun a b ha ih => ?_) x
  · rw [h.none hx, TL.join_eq]; rfl
  · rw [h.first ha, join_cons a (h.ne_nil b), ih]
theorem Sep.inj (h : Sep y s) {x z : Str} (e : Txt.split x y = Txt.split z y) : x = z := by rw [← h.join x, ← h.join z, e]
end
theorem sepC : Sep ":" 58 := ⟨by decide +kernel, by decide +kernel, by decide +kernel⟩
theorem sepB : Sep " " 32 := ⟨by decide +kernel, by decide +kernel, by decide +kernel⟩
theorem sepN : Sep "\n" 10 := ⟨by decide +kernel, by decide +kernel, by decide +kernel⟩
/-- a word without ":", or with one, or with more -/
theorem halves (w : Str) : (Txt.split w ":" = [w] ∧ Txt.partition w ":" = (w, Str.empty, Str.empty)) ∨
    ∃ a b : Str, w = a ++ (":" : Str) ++ b ∧ Txt.partition w ":" = (a, (":" : Str), b) ∧ (Txt.split w ":" = [a, b] ∨ (58 ∈ tl b ∧ (Txt.split w ":").length ≠ 2)) := by
  by_cases h : 58 ∈ tl w
  · right
    obtain ⟨a, b, rfl, ha⟩ := sepC.cut h
    refine ⟨a, b, rfl, TL.partition_app sepC.ey ha, ?_⟩
    rw [sepC.first ha]
    by_cases hb : 58 ∈ tl b
    · right
      refine ⟨hb, ?_⟩
      obtain ⟨c, d, rfl, hc⟩ := sepC.cut hb
      rw [sepC.first hc]
      have := List.length_pos_iff.mpr (sepC.ne_nil d)
      simp only [List.length_cons]; omega
    · left
      rw [sepC.none hb]
  · left
    exact ⟨sepC.none h, TL.partition_none tl_colon h⟩
def numS (h : Str) : Str := if (tl h).head? = some 45 then cutS h (some 1) none else h
theorem plB_iff {m : Nat} {l : List Nat} {lo hi : Int} (h0 : 0 ≤ lo) (hh : hi < 10 ^ m) (h1 : 1 ≤ m) (h2 : m ≤ 5) : plB l lo hi = true ↔ ∃ k : Nat, plainN m l = some k ∧ lo ≤ k ∧ k ≤ hi := by
  unfold plB
  constructor
  · intro h
    split at h
    · rename_i k e
      have h := of_decide_eq_true h
      refine ⟨k, plain_small e ?_ h1, h.1, h.2⟩
      have : (k : Int) < ((10 ^ m : Nat) : Int) := by
        rw [Int.natCast_pow]
        exact Int.lt_of_le_of_lt h.2 hh
      omega
    · cases h
  · rintro ⟨k, e, a, b⟩
    have e5 : plainN 5 l = some k := by
      unfold plainN at e ⊢
      split at e
      · rename_i hh
        rw [if_pos ⟨⟨⟨hh.1.1.1, by omega⟩, hh.1.2⟩, hh.2⟩]
        exact e
      · cases e
    rw [e5]
    exact decide_eq_true ⟨a, b⟩
theorem own_iff (h : Str) : (ownN (tl h)).isSome = plB (tl (numS h)) 1 1000 := by
  have pos : ∀ l, (posN l).isSome = plB l 1 1000 := fun l => by
    rw [Bool.eq_iff_iff, plB_iff (m := 4) (by decide) (by decide) (by decide) (by decide)]
    unfold posN
    cases e : plainN 4 l with
    | none => simp
    | some n =>
      by_cases z : n = 0 ∨ 1000 < n
      · simp only [if_pos z, Option.isSome_none, Bool.false_eq_true, false_iff]
        rintro ⟨k, ek, a, b⟩
        cases ek
        omega
      · simp only [if_neg z, Option.isSome_some, true_iff]
        exact ⟨n, rfl, by omega, by omega⟩
  unfold ownN numS
  split
  · rw [Option.isSome_map, pos, cut_from1]
  · rw [Option.isSome_map, pos]
end Cm
namespace Cm
open PySem PySem.Spec PyProof.Rows L2 FL
set_option maxHeartbeats 0
open TL (tl)
def sumW (n : Nat) (ws : List Str) : Option (List Int) := if ws = [("-" : Str)] then some (List.replicate n 0) else sumR n ws (List.replicate n 0) (-1)
theorem sumF_W (n : Nat) (t : Str) : sumF n t = sumW n (Txt.split t " ") := by
  unfold sumF sumW
  by_cases h : t = "-"
  · rw [if_pos h, h, if_pos (sepB.none (by decide +kernel))]
  · rw [if_neg h, if_neg fun e => h (sepB.inj (e.trans (sepB.none (by decide +kernel)).symm))]
theorem sumR_none1 {n : Nat} {w : Str} {ws : List Str} {p : List Int} {last : Int} (e : ownN (tl (Txt.partition w ":").1) = none) : sumR n (w :: ws) p last = none := by
  conv => lhs; unfold sumR
  rw [e]
theorem sumR_none2 {n : Nat} {w : Str} {ws : List Str} {p : List Int} {last : Int} (e : plainN 2 (tl (Txt.partition w ":").2.2) = none) : sumR n (w :: ws) p last = none := by
  conv => lhs; unfold sumR
  rw [e]
  cases ownN (tl (Txt.partition w ":").1) <;> rfl
theorem step_bad {n : Nat} {w : Str} (h : (Txt.split w ":").length ≠ 2) {ws : List Str} {p : List Int} {last : Int} : sumR n (w :: ws) p last = none := by
  rcases halves w with ⟨e, e2⟩ | ⟨a, b, ew, e2, e | ⟨hb, e⟩⟩
  · exact sumR_none2 (by rw [e2]; rfl)
  · rw [e] at h; exact absurd rfl h
  · refine sumR_none2 ?_
    rw [e2]
    cases q : plainN 2 (tl b) with
    | none => rfl
    | some k =>
      have := (plain_sg q).1 58 hb
      omega
theorem step_two {n : Nat} (hn : n ≤ 81) {w a b : Str} (h : Txt.split w ":" = [a, b]) {ws : List Str} {p : List Int} {last : Int} (hl : -1 ≤ last) :
    (plB (tl b) (last + 1) ((n : Int) - 1) = false → sumR n (w :: ws) p last = none) ∧ (plB (tl b) (last + 1) ((n : Int) - 1) = true → ∃ k : Nat, plainN 2 (tl b) = some k ∧ last < k ∧ (k : Int) < n ∧
      (plB (tl (numS a)) 1 1000 = false → sumR n (w :: ws) p last = none) ∧ (plB (tl (numS a)) 1 1000 = true → ∃ m, sumR n (w :: ws) p last = sumR n ws (p.set k m) k)) := by
  have e2 : Txt.partition w ":" = (a, (":" : Str), b) := by
    rcases halves w with ⟨e, _⟩ | ⟨a', b', ew, e2, e | ⟨hb, e⟩⟩
    · rw [e] at h; cases h
    · rw [e] at h; cases h; exact e2
    · rw [h] at e; exact absurd rfl e
  have key := plB_iff (m := 2) (l := tl b) (lo := last + 1) (hi := (n : Int) - 1) (by omega) (by omega) (by decide) (by decide)
  refine ⟨fun hf => ?_, fun ht => ?_⟩
  · cases q : plainN 2 (tl b) with
    | none => exact sumR_none2 (by rw [e2]; exact q)
    | some k =>
      cases q1 : ownN (tl a) with
      | none => exact sumR_none1 (by rw [e2]; exact q1)
      | some m =>
        rw [sumR_cons (a := m) (k := k) (by rw [e2]; exact q1) (by rw [e2]; exact q), if_neg]
        intro z
        have := key.mpr ⟨k, q, by omega, by omega⟩
        rw [hf] at this; cases this
  · obtain ⟨k, q, k1, k2⟩ := key.mp ht
    refine ⟨k, q, by omega, by omega, fun hf => ?_, fun ho => ?_⟩
    · refine sumR_none1 ?_
      rw [e2]
      have := own_iff a
      rw [hf] at this
      cases q1 : ownN (tl a) with
      | none => rfl
      | some m => rw [q1] at this; cases this
    · have := own_iff a
      rw [ho] at this
      obtain ⟨m, q1⟩ := Option.isSome_iff_exists.mp this
      refine ⟨m, ?_⟩
      rw [sumR_cons (a := m) (k := k) (by rw [e2]; exact q1) (by rw [e2]; exact q), if_pos ⟨by omega, by omega⟩]
theorem pyL_strs : ∀ xs : List Str, pyL (xs.map D.str) = xs.map PyData.str
  | [] => rfl
  | x :: xs => by rw [List.map_cons, pyL, pyL_strs xs]; rfl
theorem eqvAll_strs : ∀ (xs ys : List Str), PyData.eqvAll (xs.map PyData.str) (ys.map PyData.str) = decide (xs = ys)
  | [], [] => by simp [PyData.eqvAll]
  | [], _ :: _ => by simp [PyData.eqvAll]
  | _ :: _, [] => by simp [PyData.eqvAll]
  | x :: xs, y :: ys => by
    rw [List.map_cons, List.map_cons, PyData.eqvAll, eqvAll_strs xs ys]
    simp [PyData.eqv, Bool.beq_eq_decide_eq]
theorem strs_deq (o o' : Ow) (xs ys : List Str) : deq (.lst o (xs.map D.str)) (.lst o' (ys.map D.str)) = decide (xs = ys) := by
  have e : ∀ o (xs : List Str), (D.lst o (xs.map D.str)).py = .list (xs.map PyData.str) := fun o xs => by rw [D.py, pyL_strs]
  unfold deq
  rw [e, e]
  simp only [PyData.eqv, eqvAll_strs]
theorem int_plain {m k : Nat} {b : Str} (h : plainN m (tl b) = some k) (hm : m ≤ 640) : PySem.intText? b = some (k : Int) ∧ b.length ≤ 640 := by
  unfold plainN at h
  split at h
  · rename_i hh
    obtain ⟨⟨⟨g1, g2⟩, g3⟩, g4⟩ := hh
    cases h
    have hl := TL.len_tl b
    refine ⟨?_, by omega⟩
    have := SX.int_S (a := tl b) g3 (fun e => by rw [e] at g1; simp at g1) (by omega)
    rw [show SX.S (tl b) = b from TL.mk_tl b] at this
    exact this
  · cases h
def r_law_sum_fits : FSpec := fun ds _ Q => ∃ (ws : List Str) (n : Nat), ds = [.lst .ice (ws.map D.str), .int n] ∧ (∀ w ∈ ws, w.length ≤ 100000) ∧ n ≤ 81 ∧ ∀ os, Q (.bl ((sumW n ws).isSome && !ws.isEmpty)) os
theorem rd_law_sum_fits : RD_law_sum_fits r_law_sum_fits r_law_plain := by
  rintro ds ED QD - ⟨ws, n, rfl, hw, hn, q⟩
  have dw : datL (ws.map D.str) = true := datL_map fun _ _ => rfl
  have hq := q [some (.lst .ice (ws.map D.str)), some (.int n)]
  unfold sumW at hq
  have e1 : deq (.lst .ice (ws.map D.str)) (.lst .flat [.str "-"]) = decide (ws = [("-" : Str)]) := strs_deq .ice .flat ws ["-"]
  refine ⟨dw, rfl, by simp [D.dep, depL], fun h => ?_, fun h => ?_⟩
  · have h : ws = [("-" : Str)] := by
      have := e1.symm.trans ((Bool.false_xor _).symm.trans h)
      simpa using this
    subst h
    rw [if_pos rfl] at hq
    exact hq
  have h : ws ≠ [("-" : Str)] := by
    have := e1.symm.trans ((Bool.false_xor _).symm.trans h)
    simpa using this
  rw [if_neg h] at hq
  refine ⟨forR_on [2] [3, 4, 5] (fun k s => ∃ (p : List Int) (last : Int), s = [some (.int last)] ∧ -1 ≤ last ∧ (sumR n (ws.drop k) p last).isSome = (sumR n ws (List.replicate n 0) (-1)).isSome) _ _ ⟨_, _, rfl, by decide, rfl⟩ ?_ ?_⟩
  · rintro i d s j hd hj ⟨p, last, rfl, hl, hs⟩
    obtain ⟨g3, g4, g5, rfl⟩ := len3 hj
    rw [List.getElem?_map] at hd
    obtain ⟨w, hw', rfl⟩ := Option.map_eq_some_iff.mp hd
    have hwl := hw w (List.mem_of_getElem? hw')
    have hdr : ws.drop i = w :: ws.drop (i + 1) := by
      have hi := (List.getElem?_eq_some_iff.mp hw')
      rw [List.drop_eq_getElem_cons hi.1, hi.2]
    rw [hdr] at hs
    have no : sumR n (w :: ws.drop (i + 1)) p last = none → QD (.bl false) [some (.lst .ice (ws.map D.str)), some (.int n)] := fun e => by
      rw [e] at hs
      rw [← hs] at hq
      exact hq
    have pl : ∀ p ∈ Txt.split w ":", p.length ≤ 100000 := fun p hp => Nat.le_trans (split_len colon sepC.k p hp) hwl
    refine ⟨by decide +kernel, by rw [sizeLine_eq]; omega, fun h2 => ⟨fun _ => ?_, fun h => nomatch h⟩, fun h2 => ?_⟩
    · refine no (step_bad ?_)
      rw [List.length_map] at h2
      simp at h2
      omega
    obtain ⟨a, b, hab⟩ := len2 (l := Txt.split w ":") (by rw [List.length_map] at h2; simp at h2; omega)
    rw [hab] at pl ⊢
    have la := pl a (by simp)
    have lb := pl b (by simp)
    obtain ⟨s1, s2⟩ := step_two hn hab (ws := ws.drop (i + 1)) (p := p) hl
    refine ⟨b, last + 1, (n : Int) - 1, rfl, lb, fun _ => ⟨fun h3 => no (s1 (by simpa using h3)), fun h3 => ?_⟩⟩
    obtain ⟨k, hk, k1, k2, t1, t2⟩ := s2 (by simpa using h3)
    obtain ⟨i1, i2⟩ := int_plain hk (by decide)
    have hx : (false ^^ decide (cutS a none (some 1) = "-")) = decide ((tl a).head? = some 45) := by rw [Bool.false_xor]; exact below_iff a
    have za : a.length ≤ sizeLine := by rw [sizeLine_eq]; omega
    refine ⟨za, fun h4 => ⟨za, cutS a (some 1) none, 1, 1000, rfl, Nat.le_trans (cutS_length a _ _) la, fun _ => ?_⟩, fun h4 => ⟨a, 1, 1000, rfl, la, fun _ => ?_⟩⟩
    · have hn : numS a = cutS a (some 1) none := by unfold numS; rw [if_pos (of_decide_eq_true (hx.symm.trans h4))]
      rw [hn] at t1 t2
      refine ⟨fun h5 => no (t1 (by simpa using h5)), fun h5 => ?_⟩
      obtain ⟨m, hm⟩ := t2 (by simpa using h5)
      rw [hm] at hs
      exact ⟨_, i1, i2, rfl, _, _, rfl, by omega, hs⟩
    · have hn : numS a = a := by unfold numS; rw [if_neg (of_decide_eq_false (hx.symm.trans h4))]
      rw [hn] at t1 t2
      refine ⟨fun h5 => no (t1 (by simpa using h5)), fun h5 => ?_⟩
      obtain ⟨m, hm⟩ := t2 (by simpa using h5)
      rw [hm] at hs
      exact ⟨_, i1, i2, rfl, _, _, rfl, by omega, hs⟩
  · rintro s j hj ⟨p, last, rfl, hl, hs⟩
    obtain ⟨g3, g4, g5, rfl⟩ := len3 hj
    rw [List.length_map, List.drop_length] at hs
    have hs : true = (sumR n ws (List.replicate n 0) (-1)).isSome := hs
    rw [← hs, Bool.true_and] at hq
    have e2 : deq (.lst .ice (ws.map D.str)) (.lst (Ow.of (ownL [])) []) = decide (ws = []) := strs_deq .ice .flat ws []
    refine ⟨dw, rfl, by simp [D.dep, depL], ?_⟩
    rw [e2, show (true ^^ decide (ws = [])) = !ws.isEmpty by cases ws <;> simp]
    exact hq
theorem sumR_sg {n : Nat} : ∀ (ws : List Str) (p : List Int) (last : Int) (xs : List Int), sumR n ws p last = some xs → ∀ w ∈ ws, ∀ c ∈ tl w, c = 45 ∨ (48 ≤ c ∧ c ≤ 58)
  | [], _, _, _, _, _, h, _, _ => nomatch h
  | w :: ws, p, last, xs, h, w', hw, c, hc => by
    cases q1 : ownN (tl (Txt.partition w ":").1) with
    | none => rw [sumR_none1 q1] at h; cases h
    | some m =>
    cases q2 : plainN 2 (tl (Txt.partition w ":").2.2) with
    | none => rw [sumR_none2 q2] at h; cases h
    | some k =>
      rw [sumR_cons q1 q2] at h
      split at h
      · rcases List.mem_cons.mp hw with rfl | hw
        · rcases halves w' with ⟨_, e⟩ | ⟨a, b, ew, e, _⟩
          · rw [e] at q2; cases q2
          · rw [e] at q1 q2
            rw [ew, TL.tl_append, TL.tl_append, sepC.ey, List.mem_append, List.mem_append] at hc
            rcases hc with (hc | hc) | hc
            · have g : ∀ l m, posN l = some m → ∀ c ∈ l, 48 ≤ c ∧ c ≤ 57 := fun l m hm => by
                unfold posN at hm
                split at hm
                · rename_i k' e'
                  exact (plain_sg e').1
                · cases hm
              unfold ownN at q1
              split at q1
              · rename_i hh
                obtain ⟨m', hm', _⟩ := Option.map_eq_some_iff.mp q1
                cases el : tl a with
                | nil => rw [el] at hc; cases hc
                | cons x r =>
                  rw [el] at hh hc hm'
                  rcases List.mem_cons.mp hc with rfl | hc
                  · left; simpa using hh
                  · have := g _ _ hm' c hc
                    omega
              · obtain ⟨m', hm', _⟩ := Option.map_eq_some_iff.mp q1
                have := g _ _ hm' c hc
                omega
            · rw [List.mem_singleton] at hc; omega
            · have := (plain_sg q2).1 c hc
              omega
        · exact sumR_sg ws _ _ xs h w' hw c hc
      · cases h
theorem sumW_sg {n : Nat} {ws : List Str} (h : (sumW n ws).isSome = true) : ∀ w ∈ ws, ∀ c ∈ tl w, c = 45 ∨ (48 ≤ c ∧ c ≤ 58) := by
  obtain ⟨xs, h⟩ := Option.isSome_iff_exists.mp h
  unfold sumW at h
  split at h
  · rename_i e
    intro w hw c hc
    rw [e, List.mem_singleton] at hw
    subst hw
    rw [show tl ("-" : Str) = [45] by decide +kernel, List.mem_singleton] at hc
    omega
  · exact sumR_sg ws _ _ xs h
/-- joined words cut at " * " or " > " -/
theorem join_sgB {ws : List Str} {s : Nat} (h : ∀ w ∈ ws, s ∉ tl w) (hs : s ≠ 32) : s ∉ tl (Txt.join " " ws) := fun hc => by
  rcases join_sg _ _ _ hc with h1 | ⟨w, hw, h1⟩
  · rw [tl_blank, List.mem_singleton] at h1; exact hs h1
  · exact h w hw h1
end Cm
namespace Cm
open PySem PySem.Spec PyProof.Rows L2 FL
set_option maxHeartbeats 0
open TL (tl)
theorem Sep.app {y : Str} {s : Nat} (h : Sep y s) (z x : Str) : Txt.split (x ++ y ++ z) y = Txt.split x y ++ Txt.split z y := by
  refine h.ind (P := fun x => Txt.split (x ++ y ++ z) y = Txt.split x y ++ Txt.split z y) (fun x hx => by rw [h.first hx, h.none hx]; rfl) (fun a b ha ih => ?_) x
  have e : a ++ y ++ b ++ y ++ z = a ++ y ++ (b ++ y ++ z) := TL.ext_tl (by simp only [TL.tl_append, List.append_assoc])
  rw [e, h.first ha, ih, h.first ha]
  rfl
theorem par_sound (S : List Nat) : ∀ (l acc a b : List Nat), TL.par S acc l = some (a, b) → ∃ p, a = acc ++ p ∧ l = p ++ S ++ b
  | [], acc, a, b, h => by simp [TL.par] at h
  | c :: r, acc, a, b, h => by
    cases e : TL.pre S (c :: r) with
    | true =>
      rw [TL.par_hit e] at h
      cases h
      have e : (c :: r).take S.length = S := eq_of_beq e
      refine ⟨[], by simp, ?_⟩
      conv => lhs; rw [← List.take_append_drop S.length (c :: r), e]
      rfl
    | false =>
      rw [TL.par_miss e] at h
      obtain ⟨p, rfl, rfl⟩ := par_sound S r _ a b h
      exact ⟨c :: p, by simp, by simp⟩
theorem part_sound {x y : Str} (hy : tl y ≠ []) (h : (Txt.partition x y).2.1 ≠ "") : x = (Txt.partition x y).1 ++ y ++ (Txt.partition x y).2.2 := by
  rw [TL.partition_par x y hy] at h ⊢
  split at h
  · rename_i a b e
    obtain ⟨p, e1, e2⟩ := par_sound _ _ _ _ _ e
    refine TL.ext_tl ?_
    simp only [TL.tl_append]
    show tl x = a ++ tl y ++ b
    rw [e2, e1, List.nil_append]
  · exact absurd rfl h
theorem join_app {y : Str} : ∀ {A D : List Str}, A ≠ [] → D ≠ [] → Txt.join y (A ++ D) = Txt.join y A ++ y ++ Txt.join y D
  | [], _, h, _ => absurd rfl h
  | [a], D, _, h => by rw [List.singleton_append, join_cons a h, TL.join_eq y [a]]; rfl
  | a :: b :: A, D, _, h => by
    rw [List.cons_append, join_cons a (by simp), join_app (by simp) h, join_cons a (by simp)]
    exact TL.ext_tl (by simp only [TL.tl_append, List.append_assoc])
structure Row3 (ws A B C : List Str) : Prop where
  e : ws = A ++ ("*" : Str) :: (B ++ (">" : Str) :: C)
  sA : ("*" : Str) ∉ A
  sB : ("*" : Str) ∉ B
  sC : ("*" : Str) ∉ C
  rA : (">" : Str) ∉ A
  rB : (">" : Str) ∉ B
  rC : (">" : Str) ∉ C
theorem star_ne : ("*" : Str) ≠ ">" := by decide +kernel
theorem Row3.count {ws A B C : List Str} (h : Row3 ws A B C) : ws.count ("*" : Str) = 1 ∧ ws.count (">" : Str) = 1 := by
  rw [h.e]
  simp only [List.count_append, List.count_cons, List.count_eq_zero_of_not_mem h.sA, List.count_eq_zero_of_not_mem h.sB, List.count_eq_zero_of_not_mem h.sC, List.count_eq_zero_of_not_mem h.rA, List.count_eq_zero_of_not_mem h.rB, List.count_eq_zero_of_not_mem h.rC]
  have h1 : (("*" : Str) == (">" : Str)) = false := by decide +kernel
  have h2 : ((">" : Str) == ("*" : Str)) = false := by decide +kernel
  simp [h1, h2]
theorem first_unique {α : Type} {s : α} : ∀ {A A1 R R1 : List α}, A ++ s :: R = A1 ++ s :: R1 → s ∉ A → s ∉ A1 → A = A1 ∧ R = R1
  | [], [], _, _, h, _, _ => by simpa using h
  | [], a :: A1, R, R1, h, _, h1 => by
    simp only [List.nil_append, List.cons_append, List.cons.injEq] at h
    exact absurd (h.1 ▸ List.mem_cons_self ..) h1
  | a :: A, [], R, R1, h, h0, _ => by
    simp only [List.nil_append, List.cons_append, List.cons.injEq] at h
    exact absurd (h.1 ▸ List.mem_cons_self ..) h0
  | a :: A, b :: A1, R, R1, h, h0, h1 => by
    simp only [List.cons_append, List.cons.injEq] at h
    obtain ⟨e1, e2⟩ := first_unique h.2 (fun z => h0 (List.mem_cons_of_mem _ z)) (fun z => h1 (List.mem_cons_of_mem _ z))
    exact ⟨by rw [h.1, e1], e2⟩
theorem Row3.unique {ws A B C A1 B1 C1 : List Str} (h : Row3 ws A B C) (g : Row3 ws A1 B1 C1) : A = A1 ∧ B = B1 ∧ C = C1 := by
  obtain ⟨e1, e2⟩ := first_unique (h.e.symm.trans g.e) h.sA g.sA
  obtain ⟨e3, e4⟩ := first_unique e2 h.rB g.rB
  exact ⟨e1, e3, e4⟩
def fitW (n : Nat) (ws : List Str) : Bool := (sumW n ws).isSome && !ws.isEmpty
theorem not_word {ws : List Str} {s : Str} {c : Nat} (es : tl s = [c]) (h : ∀ w ∈ ws, ∀ c ∈ tl w, c = 45 ∨ (48 ≤ c ∧ c ≤ 58)) (hc : ¬ (c = 45 ∨ (48 ≤ c ∧ c ≤ 58))) : s ∉ ws := fun hm => hc (h s hm c (by rw [es]; simp))
theorem row_iff (a b c : Nat) (row : Str) : (prF a b c row).isSome = true ↔ ∃ A B C, Row3 (Txt.split row " ") A B C ∧ fitW a A = true ∧ fitW b B = true ∧ fitW c C = true := by
  have ts : tl ("*" : Str) = [42] := by decide +kernel
  have tr : tl (">" : Str) = [62] := by decide +kernel
  have e1 : (" * " : Str) = " " ++ ("*" : Str) ++ " " := by decide +kernel
  have e2 : (" > " : Str) = " " ++ (">" : Str) ++ " " := by decide +kernel
  have es : ∀ s : Str, ∀ c, tl s = [c] → c ≠ 32 → Txt.split s " " = [s] := fun s c h hc => sepB.none (by rw [h]; simp; omega)
  constructor
  · intro h
    obtain ⟨p, h⟩ := Option.isSome_iff_exists.mp h
    unfold prF at h
    split at h
    · cases h
    rename_i hne
    have n1 : (Txt.partition row " * ").2.1 ≠ "" := fun z => hne (.inl z)
    have n2 : (Txt.partition (Txt.partition row " * ").2.2 " > ").2.1 ≠ "" := fun z => hne (.inr z)
    have r1 := part_sound star n1
    have r2 := part_sound arrow n2
    split at h
    · rename_i l r o q1 q2 q3
      rw [sumF_W] at q1 q2 q3
      revert q1 q2 q3 r1 r2
      generalize (Txt.partition row " * ").1 = x
      generalize (Txt.partition (Txt.partition row " * ").2.2 " > ").1 = y
      generalize (Txt.partition (Txt.partition row " * ").2.2 " > ").2.2 = z
      generalize (Txt.partition row " * ").2.2 = rest
      intro r1 r2 q1 q2 q3
      have g1 := sumW_sg (by rw [q1]; rfl)
      have g2 := sumW_sg (by rw [q2]; rfl)
      have g3 := sumW_sg (by rw [q3]; rfl)
      refine ⟨_, _, _, ⟨?_, not_word ts g1 (by omega), not_word ts g2 (by omega), not_word ts g3 (by omega), not_word tr g1 (by omega), not_word tr g2 (by omega), not_word tr g3 (by omega)⟩, ?_, ?_, ?_⟩
      · have e3 : row = x ++ " " ++ (("*" : Str) ++ " " ++ (y ++ " " ++ ((">" : Str) ++ " " ++ z))) := by
          rw [r1, r2, e1, e2]
          exact TL.ext_tl (by simp only [TL.tl_append, List.append_assoc])
        rw [e3, sepB.app, sepB.app, sepB.app, sepB.app, es _ _ ts (by decide), es _ _ tr (by decide)]
        rfl
      · simp [fitW, q1, sepB.ne_nil]
      · simp [fitW, q2, sepB.ne_nil]
      · simp [fitW, q3, sepB.ne_nil]
    · cases h
  · rintro ⟨A, B, C, h, f1, f2, f3⟩
    simp only [fitW, Bool.and_eq_true, Bool.not_eq_true', List.isEmpty_eq_false_iff] at f1 f2 f3
    have fr : ∀ w ∈ Txt.split row " ", 32 ∉ tl w := sepB.free row
    have g1 := sumW_sg f1.1
    have g2 := sumW_sg f2.1
    have g3 := sumW_sg f3.1
    have sj : ∀ ws : List Str, ws ≠ [] → (∀ w ∈ ws, 32 ∉ tl w) → Txt.split (Txt.join " " ws) " " = ws := fun ws hne hf => TL.split_join sepB.ey sepB.k hne hf
    have er : row = Txt.join " " A ++ " * " ++ (Txt.join " " B ++ " > " ++ Txt.join " " C) := by
      have e4 := sepB.join row
      rw [← e4, h.e, join_app f1.2 (by simp), join_cons _ (by simp), join_app f2.2 (by simp), join_cons _ f3.2, e1, e2]
      exact TL.ext_tl (by simp only [TL.tl_append, List.append_assoc])
    have p1 : Txt.partition row " * " = (Txt.join " " A, (" * " : Str), Txt.join " " B ++ " > " ++ Txt.join " " C) := by
      rw [er]
      exact part_two tl_star (by decide) (join_sgB (fun w hw hc => by have := g1 w hw _ hc; omega) (by decide))
    have p2 : Txt.partition (Txt.join " " B ++ " > " ++ Txt.join " " C) " > " = (Txt.join " " B, (" > " : Str), Txt.join " " C) :=
      part_two tl_arrow (by decide) (join_sgB (fun w hw hc => by have := g2 w hw _ hc; omega) (by decide))
    obtain ⟨xA, hA⟩ := Option.isSome_iff_exists.mp f1.1
    obtain ⟨xB, hB⟩ := Option.isSome_iff_exists.mp f2.1
    obtain ⟨xC, hC⟩ := Option.isSome_iff_exists.mp f3.1
    unfold prF
    rw [p1, p2, if_neg (show ¬ ((" * " : Str) = "" ∨ (" > " : Str) = "") by decide +kernel)]
    simp only [sumF_W]
    rw [sj A f1.2 fun w hw => fr w (by rw [h.e]; simp [hw]), sj B f2.2 fun w hw => fr w (by rw [h.e]; simp [hw]), sj C f3.2 fun w hw => fr w (by rw [h.e]; simp [hw]), hA, hB, hC]
    rfl
theorem cutS_to {α : Type} {xs : List α} {i : Int} {n : Nat} (e : i = (n : Int)) (h : n ≤ xs.length) : cutL xs none (some i) = xs.take n := by subst e; exact cut_to h
theorem cutS_from {α : Type} {xs : List α} {i : Int} {n : Nat} (e : i = (n : Int)) (h : n ≤ xs.length) : cutL xs (some i) none = xs.drop n := by subst e; exact cut_from h
theorem cutS_mid {α : Type} {xs : List α} {i j : Int} {n m : Nat} (e : i = (n : Int)) (e' : j = (m : Int)) (h : m ≤ xs.length) (hab : n ≤ m) : cutL xs (some i) (some j) = (xs.drop n).take (m - n) := by subst e e'; exact cut_mid h hab
theorem idx_of {A R : List Str} {s : Str} (h : s ∉ A) : (A ++ s :: R)[A.length]? = some s ∧ ∀ (m : Nat) (z : Str), m < A.length → (A ++ s :: R)[m]? = some z → z ≠ s := by
  refine ⟨by simp, fun m z hm hz e => h ?_⟩
  rw [List.getElem?_append_left hm] at hz
  exact e ▸ List.mem_of_getElem? hz
theorem count_cut {ws : List Str} {s : Str} (h : ws.count s = 1) : ∃ A R, ws = A ++ s :: R ∧ s ∉ A ∧ s ∉ R := by
  have hm : s ∈ ws := List.count_pos_iff.mp (by omega)
  obtain ⟨A, R, e, hA⟩ := List.eq_append_cons_of_mem hm
  refine ⟨A, R, e, hA, fun hR => ?_⟩
  rw [e, List.count_append, List.count_cons_self] at h
  have := List.count_pos_iff.mpr hR
  omega
def lensL (a b c : Nat) : D := .lst .ice [.int a, .int b, .int c]
def r_law_product_fits : FSpec := fun ds _ Q => ∃ (row : Str) (a b c : Nat), ds = [.str row, lensL a b c] ∧ row.length ≤ 100000 ∧ (a ≤ 81 ∧ b ≤ 81 ∧ c ≤ 81) ∧ ∀ os, Q (.bl (prF a b c row).isSome) os
theorem rd_law_product_fits : RD_law_product_fits r_law_product_fits r_law_sum_fits := by
  rintro ds ED QD - ⟨row, a, b, c, rfl, hr, hn, q⟩
  have hq := q [some (.str row), some (lensL a b c)]
  have iff := row_iff a b c row
  have hwl : ∀ w ∈ Txt.split row " ", w.length ≤ 100000 := fun w hw => Nat.le_trans (split_len blank_ kblank w hw) hr
  have no : (∀ A B C, ¬ Row3 (Txt.split row " ") A B C) → QD (.bl false) [some (.str row), some (lensL a b c)] := fun h => by
    cases e : (prF a b c row).isSome with
    | true =>
      obtain ⟨A, B, C, g, _⟩ := iff.mp e
      exact absurd g (h A B C)
    | false => rw [e] at hq; exact hq
  refine ⟨by decide +kernel, by rw [sizeLine_eq]; omega, ?_⟩
  revert iff hwl no
  generalize Txt.split row " " = ws
  intro iff hwl no
  refine ⟨⟨_, _, rfl⟩, _, ws, "*", rfl, rfl, ?_⟩
  refine ⟨fun h1 => ⟨fun _ => no fun A B C g => ?_, fun h => nomatch h⟩, fun h1 => ⟨⟨_, _, rfl⟩, _, ws, ">", rfl, rfl, ?_⟩⟩
  · have := g.count.1
    rw [this] at h1
    simp at h1
  have c1 : ws.count ("*" : Str) = 1 := by simp at h1; omega
  obtain ⟨A, R, eA, sA, sR⟩ := count_cut c1
  refine ⟨fun h2 => ⟨fun _ => no fun A B C g => ?_, fun h => nomatch h⟩, fun h2 => ?_⟩
  · have := g.count.2
    rw [this] at h2
    simp at h2
  have c2 : ws.count (">" : Str) = 1 := by simp at h2; omega
  obtain ⟨A', C, eC, rA, rC⟩ := count_cut c2
  have i1 := idx_of (R := R) sA
  have i2 := idx_of (R := C) rA
  rw [← eA] at i1
  rw [← eC] at i2
  refine ⟨⟨_, _, rfl⟩, _, ws, "*", A.length, rfl, rfl, i1.1, i1.2, ⟨_, _, rfl⟩, _, ws, ">", A'.length, rfl, rfl, i2.1, i2.2, fun h3 => ?_, fun h3 => ?_⟩
  · refine no fun A1 B1 C1 g => ?_
    have u1 := first_unique (eA.symm.trans g.e) sA g.sA
    have u2 := first_unique (s := (">" : Str)) (A1 := A1 ++ ("*" : Str) :: B1) (R1 := C1) (eC.symm.trans (g.e.trans (by simp))) rA (by simp [g.rA, g.rB]; exact star_ne.symm)
    rw [u1.1, u2.1] at h3
    simp at h3
    omega
  have hlt : A.length < A'.length := by
    have h3 : ¬ ((A'.length : Int) < (A.length : Int)) := by simpa using h3
    have : A.length ≠ A'.length := fun e => by
      have z := i1.1
      rw [e, i2.1] at z
      exact star_ne (Option.some.inj z).symm
    omega
  obtain ⟨B, eB⟩ : ∃ B, A' = A ++ ("*" : Str) :: B := by
    have e1 : A ++ ("*" : Str) :: R = A' ++ (">" : Str) :: C := eA.symm.trans eC
    refine ⟨A'.drop (A.length + 1), ?_⟩
    have e2 := congrArg (List.take A'.length) e1
    rw [List.take_left] at e2
    have e3 := congrArg (List.take (A.length + 1)) e2
    rw [List.take_take, Nat.min_eq_left (by omega)] at e3
    rw [show A ++ ("*" : Str) :: R = (A ++ [("*" : Str)]) ++ R by simp, show A.length + 1 = (A ++ [("*" : Str)]).length by simp, List.take_left] at e3
    conv => lhs; rw [← List.take_append_drop (A.length + 1) A']
    rw [show A.length + 1 = (A ++ [("*" : Str)]).length by simp, ← e3]
    simp
  have g : Row3 ws A B C := by
    subst eB
    have e1 : ws = A ++ ("*" : Str) :: (B ++ (">" : Str) :: C) := by rw [eC]; simp
    have u := first_unique (eA.symm.trans e1) sA sA
    rw [u.2] at sR
    simp only [List.mem_append, List.mem_cons, not_or] at sR rA
    exact ⟨e1, sA, sR.1, sR.2.2, rA.1, rA.2.2, rC⟩
  subst eB
  have hlen : ws.length = A.length + 1 + B.length + 1 + C.length := by rw [g.e]; simp; omega
  have x1 : cutL (ws.map D.str) none (some ((A.length : Nat) : Int)) = A.map D.str := by
    rw [cutS_to rfl (by rw [List.length_map]; omega), ← List.map_take, g.e, List.take_left]
  have hAB : (A ++ ("*" : Str) :: B).length = A.length + 1 + B.length := by rw [List.length_append, List.length_cons]; omega
  have hA1 : (A ++ [("*" : Str)]).length = A.length + 1 := by rw [List.length_append]; rfl
  have hA2 : (A ++ ("*" : Str) :: B ++ [(">" : Str)]).length = (A ++ ("*" : Str) :: B).length + 1 := by rw [List.length_append]; rfl
  have x2 : cutL (ws.map D.str) (some (((A.length : Nat) : Int) + 1)) (some (((A ++ ("*" : Str) :: B).length : Nat) : Int)) = B.map D.str := by
    rw [cutS_mid (n := A.length + 1) (by omega) rfl (by rw [List.length_map, hAB]; omega) (by rw [hAB]; omega), ← List.map_drop, ← List.map_take, g.e, show A ++ ("*" : Str) :: (B ++ (">" : Str) :: C) = (A ++ [("*" : Str)]) ++ (B ++ (">" : Str) :: C) by simp, ← hA1, List.drop_left, hA1, hAB, show A.length + 1 + B.length - (A.length + 1) = B.length by omega, List.take_left]
  have x3 : cutL (ws.map D.str) (some (((A ++ ("*" : Str) :: B).length : Nat) + 1 : Int)) none = C.map D.str := by
    rw [cutS_from (n := (A ++ ("*" : Str) :: B).length + 1) (by omega) (by rw [List.length_map, hAB]; omega), ← List.map_drop, g.e, show A ++ ("*" : Str) :: (B ++ (">" : Str) :: C) = (A ++ ("*" : Str) :: B ++ [(">" : Str)]) ++ C by simp, ← hA2, List.drop_left]
  refine ⟨⟨_, _, rfl⟩, _, ws, "*", A.length, rfl, rfl, i1.1, i1.2, ⟨_, _, rfl⟩, _, ws, ">", (A ++ ("*" : Str) :: B).length, rfl, rfl, i2.1, i2.2, ?_⟩
  refine ⟨compR_allE ([(A, a), (B, b), (C, c)] : List (List Str × Nat)) (fun p => .tup false [.lst .ice (p.1.map D.str), .int p.2]) (fun p => .bl (fitW p.2 p.1)) ?_ (fun p hp => ?_) (fun _ => rfl) ?_⟩
  · show [D.tup false [D.lst .ice (cutL (ws.map D.str) none (some ((A.length : Nat) : Int))), .int a], D.tup false [D.lst .ice (cutL (ws.map D.str) (some (((A.length : Nat) : Int) + 1)) (some (((A ++ ("*" : Str) :: B).length : Nat) : Int))), .int b], D.tup false [D.lst .ice (cutL (ws.map D.str) (some (((A ++ ("*" : Str) :: B).length : Nat) + 1 : Int)) none), .int c]] = _
    rw [x1, x2, x3]
    rfl
  · have hp : (∀ w ∈ p.1, w ∈ ws) ∧ p.2 ≤ 81 := by
      simp only [List.mem_cons, List.not_mem_nil, or_false] at hp
      rcases hp with rfl | rfl | rfl
      · exact ⟨fun w hw => by rw [g.e]; simp [hw], hn.1⟩
      · exact ⟨fun w hw => by rw [g.e]; simp [hw], hn.2.1⟩
      · exact ⟨fun w hw => by rw [g.e]; simp [hw], hn.2.2⟩
    exact ⟨rfl, fun _ => ⟨p.1, p.2, rfl, fun w hw => hwl w (hp.1 w hw), hp.2, fun _ => ⟨rfl, rfl⟩⟩, fun h => nomatch h⟩
  refine ⟨[fitW a A, fitW b B, fitW c C], rfl, ?_⟩
  have e : [fitW a A, fitW b B, fitW c C].all id = (prF a b c row).isSome := by
    rw [Bool.eq_iff_iff, iff]
    constructor
    · intro h
      have h : fitW a A = true ∧ fitW b B = true ∧ fitW c C = true := by simpa using h
      exact ⟨A, B, C, g, h⟩
    · rintro ⟨A1, B1, C1, g1, h⟩
      obtain ⟨rfl, rfl, rfl⟩ := g.unique g1
      simpa using h
  rw [e]
  exact hq
end Cm
namespace Cm
open PySem PySem.Spec PyProof.Rows L2 FL
set_option maxHeartbeats 0
open TL (tl)
def badFrom (a b c : Nat) : Nat → List Str → Option Nat
  | _, [] => none
  | i, r :: rs => if 399 < i ∨ (prF a b c r).isSome = false then some (i + 1) else badFrom a b c (i + 1) rs
def firstBad (t : Str) : Option Nat := match Txt.split t "\n" with
  | [] => none
  | r0 :: rows => match lenF r0 with
    | none => some 0
    | some p => badFrom p.1 p.2.1 p.2.2 0 rows
theorem lenF_no {row : Str} (h : (Txt.split row " ").length ≠ 4) : lenF row = none := by
  unfold lenF
  split
  · rename_i e
    rw [e] at h
    exact absurd rfl h
  · rfl
theorem lenF_four {row s x y z : Str} (h : Txt.split row " " = [s, x, y, z]) : lenF row = match plainN 2 (tl x), plainN 2 (tl y), plainN 2 (tl z) with
    | some a, some b, some c => if s = "scheme" ∧ (1 ≤ a ∧ a ≤ 81) ∧ (1 ≤ b ∧ b ≤ 81) ∧ (1 ≤ c ∧ c ≤ 81) then some (a, b, c) else none
    | _, _, _ => none := by
  unfold lenF
  rw [h] <;> rfl
theorem lenF_bad {row s x y z : Str} (h : Txt.split row " " = [s, x, y, z]) (hs : ¬ (s = "scheme" ∧ plB (tl x) 1 81 = true ∧ plB (tl y) 1 81 = true ∧ plB (tl z) 1 81 = true)) : lenF row = none := by
  rw [lenF_four h]
  split
  · rename_i a b c q1 q2 q3
    rw [if_neg]
    rintro ⟨e, h1, h2, h3⟩
    refine hs ⟨e, ?_, ?_, ?_⟩
    · exact (plB_iff (m := 2) (by decide) (by decide) (by decide) (by decide)).mpr ⟨a, q1, by omega, by omega⟩
    · exact (plB_iff (m := 2) (by decide) (by decide) (by decide) (by decide)).mpr ⟨b, q2, by omega, by omega⟩
    · exact (plB_iff (m := 2) (by decide) (by decide) (by decide) (by decide)).mpr ⟨c, q3, by omega, by omega⟩
  · rfl
theorem lenF_good {row s x y z : Str} (h : Txt.split row " " = [s, x, y, z]) (hs : s = "scheme") (h1 : plB (tl x) 1 81 = true) (h2 : plB (tl y) 1 81 = true) (h3 : plB (tl z) 1 81 = true) :
    ∃ a b c : Nat, plainN 2 (tl x) = some a ∧ plainN 2 (tl y) = some b ∧ plainN 2 (tl z) = some c ∧ lenF row = some (a, b, c) := by
  obtain ⟨a, q1, a1, a2⟩ := (plB_iff (m := 2) (by decide) (by decide) (by decide) (by decide)).mp h1
  obtain ⟨b, q2, b1, b2⟩ := (plB_iff (m := 2) (by decide) (by decide) (by decide) (by decide)).mp h2
  obtain ⟨c, q3, c1, c2⟩ := (plB_iff (m := 2) (by decide) (by decide) (by decide) (by decide)).mp h3
  refine ⟨a, b, c, q1, q2, q3, ?_⟩
  rw [lenF_four h, q1, q2, q3]
  show (if s = "scheme" ∧ (1 ≤ a ∧ a ≤ 81) ∧ (1 ≤ b ∧ b ≤ 81) ∧ (1 ≤ c ∧ c ≤ 81) then some (a, b, c) else none) = some (a, b, c)
  rw [if_pos ⟨hs, by omega, by omega, by omega⟩]
def r_law_first_bad : FSpec := fun ds _ Q => ∃ (t : Str), ds = [.str t] ∧ t.length ≤ 100000 ∧ ∀ os, Q (optN (firstBad t)) os
theorem rd_law_first_bad : RD_law_first_bad r_law_first_bad r_law_product_fits r_law_plain := by
  rintro ds ED QD - ⟨t, rfl, ht, q⟩
  have hq := q [some (.str t)]
  have rl : ∀ r ∈ Txt.split t "\n", r.length ≤ 100000 := fun r hr => Nat.le_trans (split_len sepN.ne sepN.k r hr) ht
  obtain ⟨r0, rows, hs⟩ : ∃ r0 rows, Txt.split t "\n" = r0 :: rows := by
    cases e : Txt.split t "\n" with
    | nil => exact absurd e (sepN.ne_nil t)
    | cons a b => exact ⟨a, b, rfl⟩
  unfold firstBad at hq
  rw [hs] at hq rl
  have hq : QD (optN (match lenF r0 with
    | none => some 0
    | some p => badFrom p.1 p.2.1 p.2.2 0 rows)) [some (.str t)] := hq
  have l0 := rl r0 (by simp)
  have wl : ∀ w ∈ Txt.split r0 " ", w.length ≤ 100000 := fun w hw => Nat.le_trans (split_len blank_ kblank w hw) l0
  have no : lenF r0 = none → QD (.int 0) [some (.str t)] := fun e => by rw [e] at hq; exact hq
  refine ⟨by decide +kernel, by rw [sizeLine_eq]; omega, ?_⟩
  rw [hs, List.map_cons]
  conv => whnf
  rw [at_zero]
  refine ⟨by decide +kernel, by rw [sizeLine_eq]; omega, ?_⟩
  refine ⟨fun h1 => ⟨fun _ => no (lenF_no ?_), fun h => nomatch h⟩, fun h1 => ?_⟩
  · rw [List.length_map] at h1
    simp at h1
    omega
  obtain ⟨s, x, y, z, e4⟩ := len4 (l := Txt.split r0 " ") (by rw [List.length_map] at h1; simp at h1; omega)
  rw [e4] at wl ⊢
  refine ⟨fun h2 => ⟨fun _ => no (lenF_bad e4 fun g => ?_), fun h => nomatch h⟩, fun h2 => ?_⟩
  · have h2 : s ≠ "scheme" := by simpa using h2
    exact h2 g.1
  have h2 : s = "scheme" := by simpa using h2
  refine ⟨compR_allE ([x, y, z] : List Str) (fun w => .str w) (fun w => .bl (plB (tl w) 1 81)) rfl (fun w hw => ?_) (fun _ => rfl) ?_⟩
  · exact ⟨fun _ => ⟨w, 1, 81, rfl, wl w (List.mem_cons_of_mem _ hw), fun _ => ⟨rfl, rfl⟩⟩, fun h => nomatch h⟩
  refine ⟨[plB (tl x) 1 81, plB (tl y) 1 81, plB (tl z) 1 81], rfl, fun h3 => no (lenF_bad e4 fun g => ?_), fun h3 => ?_⟩
  · obtain ⟨_, g1, g2, g3⟩ := g
    rw [g1, g2, g3] at h3
    cases h3
  have h3 : plB (tl x) 1 81 = true ∧ plB (tl y) 1 81 = true ∧ plB (tl z) 1 81 = true := by simpa using h3
  obtain ⟨a, b, c, q1, q2, q3, eL⟩ := lenF_good e4 h2 h3.1 h3.2.1 h3.2.2
  have hb := lenF_bd eL
  rw [eL] at hq
  have hq : QD (optN (badFrom a b c 0 rows)) [some (.str t)] := hq
  refine ⟨compR_allE ([x, y, z] : List Str) (fun w => .str w) (fun w => optN (plainN 2 (tl w))) rfl (fun w hw => ?_) (fun _ => optN_own _) ?_⟩
  · have : ∃ k : Nat, plainN 2 (tl w) = some k := by
      simp only [List.mem_cons, List.not_mem_nil, or_false] at hw
      rcases hw with rfl | rfl | rfl
      · exact ⟨_, q1⟩
      · exact ⟨_, q2⟩
      · exact ⟨_, q3⟩
    obtain ⟨k, hk⟩ := this
    obtain ⟨i1, i2⟩ := int_plain hk (by decide)
    rw [hk]
    exact ⟨fun _ => ⟨_, i1, i2, rfl, rfl⟩, fun h => nomatch h⟩
  rw [show List.map (fun w : Str => optN (plainN 2 (tl w))) [x, y, z] = [optN (plainN 2 (tl x)), optN (plainN 2 (tl y)), optN (plainN 2 (tl z))] from rfl, q1, q2, q3]
  have ecut : cutL (D.str r0 :: rows.map D.str) (some 1) none = rows.map D.str := (cut_from (a := 1) (xs := D.str r0 :: rows.map D.str) (by simp)).trans rfl
  conv => whnf
  rw [ecut]
  refine ⟨forR_on [] [4, 5] (fun k s => s = [] ∧ badFrom a b c 0 rows = badFrom a b c k (rows.drop k)) _ _ ⟨rfl, rfl⟩ ?_ ?_⟩
  · rintro i d s j hd hj ⟨rfl, hs'⟩
    obtain ⟨g4, g5, rfl⟩ := len2 hj
    rw [enD_get, List.getElem?_map] at hd
    cases hrow : rows[i]? with
    | none => rw [hrow] at hd; cases hd
    | some r =>
    rw [hrow] at hd
    cases hd
    have hdr : rows.drop i = r :: rows.drop (i + 1) := by
      have hi := (List.getElem?_eq_some_iff.mp hrow)
      rw [List.drop_eq_getElem_cons hi.1, hi.2]
    rw [hdr] at hs'
    have hs' : badFrom a b c 0 rows = if 399 < i ∨ (prF a b c r).isSome = false then some (i + 1) else badFrom a b c (i + 1) (rows.drop (i + 1)) := hs'
    refine ⟨rfl, fun h5 => ⟨fun _ => ?_, fun h => nomatch h⟩, fun h5 => ⟨r, a, b, c, rfl, rl r (by simp [List.mem_of_getElem? hrow]), by omega, fun _ => ⟨fun h6 => ?_, fun h6 => ⟨rfl, rfl, ?_⟩⟩⟩⟩
    · rw [if_pos (.inl (by simp at h5; omega))] at hs'
      rw [hs'] at hq
      have hq : QD (.int ((i + 1 : Nat) : Int)) [some (.str t)] := hq
      rw [show ((i + 1 : Nat) : Int) = ((0 + i : Nat) : Int) + 1 by omega] at hq
      exact hq
    · rw [if_pos (.inr (by simpa using h6))] at hs'
      rw [hs'] at hq
      have hq : QD (.int ((i + 1 : Nat) : Int)) [some (.str t)] := hq
      rw [show ((i + 1 : Nat) : Int) = ((0 + i : Nat) : Int) + 1 by omega] at hq
      exact hq
    · rw [if_neg (by simp at h5 h6; simp [h6]; omega)] at hs'
      exact hs'
  · rintro s j hj ⟨rfl, hs'⟩
    obtain ⟨g4, g5, rfl⟩ := len2 hj
    rw [enD_len, List.length_map, List.drop_length] at hs'
    rw [hs'] at hq
    exact hq
def r_law_same_number : FSpec := fun ds _ Q => ∃ o : Option Nat, ds = [optN o, optN o] ∧ ∀ os, Q (.bl true) os
theorem rd_law_same_number : RD_law_same_number r_law_same_number := by
  rintro ds ED QD - ⟨o, rfl, q⟩
  cases o with
  | none => exact ⟨fun _ => ⟨fun _ => ⟨fun _ => q _, fun h => nomatch h⟩, fun h => nomatch h⟩, fun h => nomatch h⟩
  | some n => 
    refine ⟨(fun h => nomatch h), fun _ => ⟨(fun h => nomatch h), fun _ => ⟨fun _ => ⟨fun _ => ?_, fun h => nomatch h⟩, fun h => nomatch h⟩⟩⟩
    show QD (.bl (false ^^ decide (((n : Nat) : Int) = ((n : Nat) : Int)))) _
    rw [decide_eq_true rfl]
    exact q _
structure Rd (t : Str) (a b c : Nat) (ps : List Pr) : Prop where
  cut : ∃ r0 rows, Txt.split t "\n" = r0 :: rows ∧ lenF r0 = some (a, b, c) ∧ rows.map (prF a b c) = ps.map some
  len : ps.length ≤ 400
theorem firstBad_cut {t r0 : Str} {rows : List Str} (h : Txt.split t "\n" = r0 :: rows) : firstBad t = match lenF r0 with
    | none => some 0
    | some p => badFrom p.1 p.2.1 p.2.2 0 rows := by
  unfold firstBad
  rw [h]
theorem bad_of_none {t : Str} {a b c : Nat} {ps : List Pr} (g : Rd t a b c ps) : firstBad t = none := by
  obtain ⟨r0, rows, e, e2, e3⟩ := g.cut
  rw [firstBad_cut e, e2]
  have : ∀ (rows : List Str) (ps : List Pr) (i : Nat), rows.map (prF a b c) = ps.map some → i + ps.length ≤ 400 → badFrom a b c i rows = none := by
    intro rows
    induction rows with
    | nil => intro _ _ _ _; rfl
    | cons r rs ih =>
      intro ps i h hl
      cases ps with
      | nil => cases h
      | cons p ps =>
        rw [List.map_cons, List.map_cons, List.cons.injEq] at h
        rw [List.length_cons] at hl
        show (if 399 < i ∨ (prF a b c r).isSome = false then some (i + 1) else badFrom a b c (i + 1) rs) = none
        rw [if_neg (by rw [h.1]; simp; omega)]
        exact ih ps (i + 1) h.2 (by omega)
  exact this rows ps 0 e3 (by have := g.len; omega)
end Cm
namespace K54
open PySem PySem.Spec PyProof.Rows L2 FL Cm
def topS (i : Nat) : Stmt := PySem.Challenge.pw_fewtimes_k54_texts_of_no_scheme.main.body.getD i (.Pass ⟨0, 0, 0, 0⟩)
section
variable {P : Program} {w : World} {K : PySem.W.Frag} {mg : Str → Option Value} {base : Heap}
abbrev s_BadRow_init : Stmt := inClass (topS 2) 0
abbrev s_sum_text : Stmt := topS 9
abbrev s_product_text : Stmt := topS 10
abbrev s_scheme_text : Stmt := topS 11
abbrev s_plain_number : Stmt := topS 12
abbrev s_own_number : Stmt := topS 13
abbrev s_sum_from : Stmt := topS 14
abbrev s_product_from : Stmt := topS 15
abbrev s_lengths_from : Stmt := topS 16
abbrev s_scheme_from : Stmt := topS 17
abbrev s_law_cell_at : Stmt := topS 19
abbrev s_law_mixed : Stmt := topS 20
abbrev s_law_box : Stmt := topS 21
abbrev s_law_take : Stmt := topS 22
abbrev s_law_number : Stmt := topS 23
abbrev s_law_part : Stmt := topS 24
abbrev s_law_scheme : Stmt := topS 25
abbrev s_law_lengths : Stmt := topS 26
abbrev s_law_sum : Stmt := topS 27
abbrev s_law_text : Stmt := topS 28
abbrev s_law_plain : Stmt := topS 29
abbrev s_law_sum_fits : Stmt := topS 30
abbrev s_law_product_fits : Stmt := topS 31
abbrev s_law_first_bad : Stmt := topS 32
abbrev s_law_refused : Stmt := topS 33
abbrev s_law_same_number : Stmt := topS 34
abbrev s_law_bent_word : Stmt := topS 35
abbrev s_law_bent : Stmt := topS 36
abbrev s_law : Stmt := topS 37
theorem sc_BadRow_init : FnScope ["self", "row"] ["self", "row"] (defScope s_BadRow_init) := ⟨rfl, rfl, rfl, by decide +kernel, rfl, by decide +kernel, by decide +kernel⟩
theorem ok_BadRow_init {f_BadRow_init : Addr} {fd_BadRow_init : FuncData} {cv_BadRow : Addr} {cv_TimesError : Addr} (D_BadRow_init : DfM K "__init__" "BadRow.__init__" s_BadRow_init ["self", "row"] f_BadRow_init fd_BadRow_init) (xi_BadRow : EI K cv_BadRow f_BadRow_init "row") (xt_TimesError : InT0 K cv_TimesError) (gc_TimesError : mg "TimesError" = some (.ref cv_TimesError)) :
    FnOk P w K mg base (L2.CX P w) 1 f_BadRow_init fd_BadRow_init ["self", "row"] (spI cv_BadRow "row") :=
  exi_fn (m := "a row that can't stand there") D_BadRow_init.fn sc_BadRow_init xi_BadRow (fun cdv A outer s H E => pss_cons (ps_expr (pe_tinit xt_TimesError gc_TimesError (pa_cons (pe_var rfl (.inl rfl)) (pa_cons pe_str pa_nil)))) (pss_one (ps_ost (pe_var rfl (.inl rfl)) (pe_var rfl (.inl rfl)))))
theorem sc_sum_text : FnScope ["part", "words", "place", "number"] ["part"] (defScope s_sum_text) := ⟨rfl, rfl, rfl, by decide +kernel, rfl, by decide +kernel, by decide +kernel⟩
theorem ok_sum_text {f_sum_text : Addr} {fd_sum_text : FuncData} {k : Nat} (D_sum_text : Df K mg "sum_text" s_sum_text ["part"] f_sum_text fd_sum_text) (z_enumerate : mg "enumerate" = none) (z_len : mg "len" = none) (z_str : mg "str" = none) {t_NOUGHTS : Value} (g_NOUGHTS : mg "NOUGHTS" = some t_NOUGHTS ∧ KV K (.str "-") t_NOUGHTS) {r : FSpec} (hrd : RD_sum_text r) :
    FnOk P w K mg base (L2.CX P w) (k + 1) f_sum_text fd_sum_text ["part"] (FnD K 1 [] r) := by
  refine fl_fn D_sum_text.fn sc_sum_text (by rfl) (fun cdv A outer s H E hr => ?_) hrd
  have tk := takes_of (X := cxOf (L2.CX P w) P w K mg base ["part", "words", "place", "number"] "sum_text" (defScope s_sum_text) f_sum_text cdv A outer s H E) rfl rfl rfl rfl
  exact (fss_cons (fs_setLcF 1 [3, 2] (own := [("number", 3), ("place", 2)]) sc_sum_text.nd (fi_enum (fa_cons (fo_val (fe_var (i := 0))) fa_nil) z_enumerate) (blkOk_by (own := [("number", 3), ("place", 2)]) (N := ["part", "words", "place", "number"]) (sc := defScope s_sum_text) (by decide +kernel)) (fun _ => (fg_tup (fgs_cons (fg_name 2 sc_sum_text.nd) (fgs_cons (fg_name 3 sc_sum_text.nd) fgs_nil)))) (fun _ => (fts_one (ft_cmp (fop_ne hr.units) (fo_val (fe_var (i := 3))) (fo_val fe_int)))) (fun _ => (fe_op fop_add (fo_val (fe_op fop_add (fo_val (fe_callTy fc_strI z_str (by decide +kernel) (fa_cons (fo_val (fe_var (i := 3))) fa_nil))) (fo_val fe_str))) (fo_val (fe_callTy fc_strI z_str (by decide +kernel) (fa_cons (fo_val (fe_var (i := 2))) fa_nil)))))) (fss_one (fs_ret (fe_ifE (ft_cmp fop_gt (fo_val (fe_callB fc_len z_len (by decide +kernel) (fa_cons (fo_val (fe_var (i := 1))) fa_nil))) (fo_val fe_int)) (fe_join fe_str (fe_var (i := 1))) (fe_globT rfl g_NOUGHTS)))))
theorem sc_product_text : FnScope ["product", "l", "r", "o"] ["product"] (defScope s_product_text) := ⟨rfl, rfl, rfl, by decide +kernel, rfl, by decide +kernel, by decide +kernel⟩
theorem ok_product_text {f_product_text : Addr} {fd_product_text : FuncData} {f_sum_text : Addr} {fd_sum_text : FuncData} {k : Nat} (D_product_text : Df K mg "product_text" s_product_text ["product"] f_product_text fd_product_text) (D_sum_text : Df K mg "sum_text" s_sum_text ["part"] f_sum_text fd_sum_text) {r_sum_text : FSpec} (F_sum_text : FnOk P w K mg base (L2.CX P w) k f_sum_text fd_sum_text ["part"] (FnD K 1 [] r_sum_text)) {r : FSpec} (hrd : RD_product_text r r_sum_text) :
    FnOk P w K mg base (L2.CX P w) (k + 1) f_product_text fd_product_text ["product"] (FnD K 1 [] r) := by
  refine fl_fn D_product_text.fn sc_product_text (by rfl) (fun cdv A outer s H E hr => ?_) hrd
  have tk := takes_of (X := cxOf (L2.CX P w) P w K mg base ["product", "l", "r", "o"] "product_text" (defScope s_product_text) f_product_text cdv A outer s H E) rfl rfl rfl rfl
  exact (fss_cons (fs_asg [3, 2, 1] (fe_var (i := 0)) (fg_tup (fgs_cons (fg_name 1 sc_product_text.nd) (fgs_cons (fg_name 2 sc_product_text.nd) (fgs_cons (fg_name 3 sc_product_text.nd) fgs_nil))))) (fss_one (fs_ret (fe_op fop_add (fo_val (fe_op fop_add (fo_val (fe_op fop_add (fo_val (fe_op fop_add (fo_val (fe_call tk F_sum_text hr D_sum_text.mg D_sum_text.fn.kp D_sum_text.b (fa_cons (fo_val (fe_var (i := 1))) fa_nil))) (fo_val fe_str))) (fo_val (fe_call tk F_sum_text hr D_sum_text.mg D_sum_text.fn.kp D_sum_text.b (fa_cons (fo_val (fe_var (i := 2))) fa_nil))))) (fo_val fe_str))) (fo_val (fe_call tk F_sum_text hr D_sum_text.mg D_sum_text.fn.kp D_sum_text.b (fa_cons (fo_val (fe_var (i := 3))) fa_nil)))))))
theorem sc_scheme_text : FnScope ["scheme", "rows", "product", "length"] ["scheme"] (defScope s_scheme_text) := ⟨rfl, rfl, rfl, by decide +kernel, rfl, by decide +kernel, by decide +kernel⟩
theorem ok_scheme_text {f_scheme_text : Addr} {fd_scheme_text : FuncData} {f_product_text : Addr} {fd_product_text : FuncData} {k : Nat} (D_scheme_text : Df K mg "scheme_text" s_scheme_text ["scheme"] f_scheme_text fd_scheme_text) (D_product_text : Df K mg "product_text" s_product_text ["product"] f_product_text fd_product_text) {r_product_text : FSpec} (F_product_text : FnOk P w K mg base (L2.CX P w) k f_product_text fd_product_text ["product"] (FnD K 1 [] r_product_text)) (z_str : mg "str" = none) {r : FSpec} (hrd : RD_scheme_text r r_product_text) :
    FnOk P w K mg base (L2.CX P w) (k + 1) f_scheme_text fd_scheme_text ["scheme"] (FnD K 1 [] r) := by
  refine fl_fn D_scheme_text.fn sc_scheme_text (by rfl) (fun cdv A outer s H E hr => ?_) hrd
  have tk := takes_of (X := cxOf (L2.CX P w) P w K mg base ["scheme", "rows", "product", "length"] "scheme_text" (defScope s_scheme_text) f_scheme_text cdv A outer s H E) rfl rfl rfl rfl
  exact (fss_cons (fs_setF 1 (fe_lst (fa_cons (fo_val (fe_join fe_str (fe_op fop_add (fo_val (fe_lst (fa_cons (fo_val fe_str) fa_nil))) (fo_val (fe_lc [3] (own := [("length", 3)]) sc_scheme_text.nd (fi_row (fe_sl (fo_val (fe_var (i := 0))) fp_none (fp_some fe_int))) (blkOk_by (own := [("length", 3)]) (N := ["scheme", "rows", "product", "length"]) (sc := defScope s_scheme_text) (by decide +kernel)) (fun _ => (fg_name 3 sc_scheme_text.nd)) (fun _ => fts_nil) (fun _ => (fe_callTy fc_strI z_str (by decide +kernel) (fa_cons (fo_val (fe_var (i := 3))) fa_nil)))))))) fa_nil)) sc_scheme_text.nd) (fss_one (fs_ret (fe_join fe_str (fe_op fop_add (fo_val (fe_var (i := 1))) (fo_val (fe_lc [2] (own := [("product", 2)]) sc_scheme_text.nd (fi_row (fe_ix (hu_of hr) (fo_val (fe_var (i := 0))) (fo_val fe_int))) (blkOk_by (own := [("product", 2)]) (N := ["scheme", "rows", "product", "length"]) (sc := defScope s_scheme_text) (by decide +kernel)) (fun _ => (fg_name 2 sc_scheme_text.nd)) (fun _ => fts_nil) (fun _ => (fe_call takes0 F_product_text hr D_product_text.mg D_product_text.fn.kp D_product_text.b (fa_cons (fo_val (fe_var (i := 2))) fa_nil))))))))))
theorem sc_plain_number : FnScope ["word", "most", "sign"] ["word", "most"] (defScope s_plain_number) := ⟨rfl, rfl, rfl, by decide +kernel, rfl, by decide +kernel, by decide +kernel⟩
theorem ok_plain_number {f_plain_number : Addr} {fd_plain_number : FuncData} {k : Nat} (D_plain_number : Df K mg "plain_number" s_plain_number ["word", "most"] f_plain_number fd_plain_number) (z_any : mg "any" = none) (z_int : mg "int" = none) (z_len : mg "len" = none) {t_FIGURES : Value} (g_FIGURES : mg "FIGURES" = some t_FIGURES ∧ KV K (.str "0123456789") t_FIGURES) {r : FSpec} (hrd : RD_plain_number r) :
    FnOk P w K mg base (L2.CX P w) (k + 1) f_plain_number fd_plain_number ["word", "most"] (FnD K 2 [] r) := by
  refine fl_fn D_plain_number.fn sc_plain_number (by rfl) (fun cdv A outer s H E hr => ?_) hrd
  have tk := takes_of (X := cxOf (L2.CX P w) P w K mg base ["word", "most", "sign"] "plain_number" (defScope s_plain_number) f_plain_number cdv A outer s H E) rfl rfl rfl rfl
  exact (fss_cons (fs_if (FW.ft (fw_or (ft_not (ft_chain fop_le fop_le (fo_val fe_int) (fo_val (fe_callB fc_len z_len (by decide +kernel) (fa_cons (fo_val (fe_var (i := 0))) fa_nil))) (fo_val (fe_var (i := 1))))) (fw_or1 (ft_val (fe_callB fc_any z_any (by decide +kernel) (fa_cons (fo_val (fe_lc [2] (own := [("sign", 2)]) sc_plain_number.nd (fi_str (fe_var (i := 0))) (blkOk_by (own := [("sign", 2)]) (N := ["word", "most", "sign"]) (sc := defScope s_plain_number) (by decide +kernel)) (fun _ => (fg_name 2 sc_plain_number.nd)) (fun _ => fts_nil) (fun _ => (fe_cmp fop_notinS (fo_val (fe_var (i := 2))) (fo_val (fe_globT rfl g_FIGURES)))))) fa_nil)))))) (fss_one (fs_ret fe_non)) fss_nil) (fss_cons (fs_if (FW.ft (fw_and (ft_cmp (fop_eq hr.units) (fo_val (fe_ix (hu_of hr) (fo_val (fe_var (i := 0))) (fo_val fe_int))) (fo_val fe_str)) (fw_and1 (ft_cmp (fop_ne hr.units) (fo_val (fe_var (i := 0))) (fo_val fe_str))))) (fss_one (fs_ret fe_non)) fss_nil) (fss_one (fs_ret (fe_callTy fc_intS z_int (by decide +kernel) (fa_cons (fo_val (fe_var (i := 0))) fa_nil))))))
theorem sc_own_number : FnScope ["word", "below", "number"] ["word"] (defScope s_own_number) := ⟨rfl, rfl, rfl, by decide +kernel, rfl, by decide +kernel, by decide +kernel⟩
theorem ok_own_number {f_own_number : Addr} {fd_own_number : FuncData} {f_plain_number : Addr} {fd_plain_number : FuncData} {k : Nat} (D_own_number : Df K mg "own_number" s_own_number ["word"] f_own_number fd_own_number) (D_plain_number : Df K mg "plain_number" s_plain_number ["word", "most"] f_plain_number fd_plain_number) {r_plain_number : FSpec} (F_plain_number : FnOk P w K mg base (L2.CX P w) k f_plain_number fd_plain_number ["word", "most"] (FnD K 2 [] r_plain_number)) {t_MOST_NUMBER : Tok} (g_MOST_NUMBER : mg "MOST_NUMBER" = some (.int 1000 t_MOST_NUMBER)) {r : FSpec} (hrd : RD_own_number r r_plain_number) :
    FnOk P w K mg base (L2.CX P w) (k + 1) f_own_number fd_own_number ["word"] (FnD K 1 [] r) := by
  refine fl_fn D_own_number.fn sc_own_number (by rfl) (fun cdv A outer s H E hr => ?_) hrd
  have tk := takes_of (X := cxOf (L2.CX P w) P w K mg base ["word", "below", "number"] "own_number" (defScope s_own_number) f_own_number cdv A outer s H E) rfl rfl rfl rfl
  exact (fss_cons (fs_setF 1 (fe_cmp (fop_eq hr.units) (fo_val (fe_sl (fo_val (fe_var (i := 0))) fp_none (fp_some fe_int))) (fo_val fe_str)) sc_own_number.nd) (fss_cons (fs_setF 2 (fe_call tk F_plain_number hr D_plain_number.mg D_plain_number.fn.kp D_plain_number.b (fa_cons (fo_val (fe_ifE (ft_val (fe_var (i := 1))) (fe_sl (fo_val (fe_var (i := 0))) (fp_some fe_int) fp_none) (fe_var (i := 0)))) (fa_cons (fo_val fe_int) fa_nil))) sc_own_number.nd) (fss_cons (fs_if (FW.ft (fw_or (ft_cmp fop_isN0 (fo_val (fe_var (i := 2))) (fo_val fe_non)) (fw_or (ft_cmp (fop_eq hr.units) (fo_val (fe_var (i := 2))) (fo_val fe_int)) (fw_or1 (ft_cmp fop_gt (fo_val (fe_var (i := 2))) (fo_val (fe_glob (v := V.int 1000) rfl g_MOST_NUMBER ⟨_, rfl⟩ (fun _ _ => rfl)))))))) (fss_one (fs_ret fe_non)) fss_nil) (fss_one (fs_ret (fe_ifE (ft_val (fe_var (i := 1))) (fe_op fop_sub (fo_val fe_int) (fo_val (fe_var (i := 2)))) (fe_var (i := 2))))))))
theorem sc_sum_from : FnScope ["text", "length", "part", "last", "word", "ahead", "sign", "behind", "number", "place"] ["text", "length"] (defScope s_sum_from) := ⟨rfl, rfl, rfl, by decide +kernel, rfl, by decide +kernel, by decide +kernel⟩
theorem ok_sum_from {f_sum_from : Addr} {fd_sum_from : FuncData} {f_own_number : Addr} {fd_own_number : FuncData} {f_plain_number : Addr} {fd_plain_number : FuncData} {k : Nat} (D_sum_from : Df K mg "sum_from" s_sum_from ["text", "length"] f_sum_from fd_sum_from) (D_own_number : Df K mg "own_number" s_own_number ["word"] f_own_number fd_own_number) (D_plain_number : Df K mg "plain_number" s_plain_number ["word", "most"] f_plain_number fd_plain_number) {r_own_number : FSpec} (F_own_number : FnOk P w K mg base (L2.CX P w) k f_own_number fd_own_number ["word"] (FnD K 1 [] r_own_number)) {r_plain_number : FSpec} (F_plain_number : FnOk P w K mg base (L2.CX P w) k f_plain_number fd_plain_number ["word", "most"] (FnD K 2 [] r_plain_number)) (z_tuple : mg "tuple" = none) {t_NOUGHTS : Value} (g_NOUGHTS : mg "NOUGHTS" = some t_NOUGHTS ∧ KV K (.str "-") t_NOUGHTS) {r : FSpec} (hrd : RD_sum_from r r_own_number r_plain_number) :
    FnOk P w K mg base (L2.CX P w) (k + 1) f_sum_from fd_sum_from ["text", "length"] (FnD K 2 [] r) := by
  refine fl_fn D_sum_from.fn sc_sum_from (by rfl) (fun cdv A outer s H E hr => ?_) hrd
  have tk := takes_of (X := cxOf (L2.CX P w) P w K mg base ["text", "length", "part", "last", "word", "ahead", "sign", "behind", "number", "place"] "sum_from" (defScope s_sum_from) f_sum_from cdv A outer s H E) rfl rfl rfl rfl
  exact (fss_cons (fs_set 2 (fe_op fop_mulX (fo_val (fe_lst (fa_cons (fo_val fe_int) fa_nil))) (fo_val (fe_var (i := 1)))) sc_sum_from.nd) (fss_cons (fs_if (ft_cmp (fop_eq hr.units) (fo_val (fe_var (i := 0))) (fo_val (fe_globT rfl g_NOUGHTS))) (fss_one (fs_ret (fe_callTy fc_tuple z_tuple (by decide +kernel) (fa_cons (fo_brw (i := 2)) fa_nil)))) fss_nil) (fss_cons (fs_setF 3 fe_negC sc_sum_from.nd) (fss_cons (fs_for [4] PassesOwn.leaving (fi_row (fe_split (fe_var (i := 0)) fe_str)) (fg_name 4 sc_sum_from.nd) (fss_cons (fs_asg [7, 6, 5] (fe_part (fe_var (i := 4)) fe_str) (fg_tup (fgs_cons (fg_name 5 sc_sum_from.nd) (fgs_cons (fg_name 6 sc_sum_from.nd) (fgs_cons (fg_name 7 sc_sum_from.nd) fgs_nil))))) (fss_cons (fs_par2 8 9 [false, false] (fa_cons (fo_val (fe_call tk F_own_number hr D_own_number.mg D_own_number.fn.kp D_own_number.b (fa_cons (fo_val (fe_var (i := 5))) fa_nil))) (fa_cons (fo_val (fe_call tk F_plain_number hr D_plain_number.mg D_plain_number.fn.kp D_plain_number.b (fa_cons (fo_val (fe_var (i := 7))) (fa_cons (fo_val fe_int) fa_nil)))) fa_nil)) sc_sum_from.nd) (fss_cons (fs_if (FW.ft (fw_or (ft_cmp fop_isN0 (fo_val (fe_var (i := 8))) (fo_val fe_non)) (fw_or (ft_cmp fop_isN0 (fo_val (fe_var (i := 9))) (fo_val fe_non)) (fw_or1 (ft_not (ft_chain fop_lt fop_lt (fo_val (fe_var (i := 3))) (fo_val (fe_var (i := 9))) (fo_val (fe_var (i := 1))))))))) (fss_one (fs_ret fe_non)) fss_nil) (fss_cons (fs_setL 2 (fe_var (i := 8)) (fo_val (fe_var (i := 9)))) (fss_one (fs_setF 3 (fe_var (i := 9)) sc_sum_from.nd))))))) (fss_one (fs_ret (fe_callTy fc_tuple z_tuple (by decide +kernel) (fa_cons (fo_brw (i := 2)) fa_nil))))))))
theorem sc_product_from : FnScope ["row", "lengths", "parts", "left", "sign", "rest", "right", "other_sign", "out", "text", "length"] ["row", "lengths"] (defScope s_product_from) := ⟨rfl, rfl, rfl, by decide +kernel, rfl, by decide +kernel, by decide +kernel⟩
theorem ok_product_from {f_product_from : Addr} {fd_product_from : FuncData} {f_sum_from : Addr} {fd_sum_from : FuncData} {k : Nat} (D_product_from : Df K mg "product_from" s_product_from ["row", "lengths"] f_product_from fd_product_from) (D_sum_from : Df K mg "sum_from" s_sum_from ["text", "length"] f_sum_from fd_sum_from) {r_sum_from : FSpec} (F_sum_from : FnOk P w K mg base (L2.CX P w) k f_sum_from fd_sum_from ["text", "length"] (FnD K 2 [] r_sum_from)) (z_tuple : mg "tuple" = none) (z_zip : mg "zip" = none) {r : FSpec} (hrd : RD_product_from r r_sum_from) :
    FnOk P w K mg base (L2.CX P w) (k + 1) f_product_from fd_product_from ["row", "lengths"] (FnD K 2 [] r) := by
  refine fl_fn D_product_from.fn sc_product_from (by rfl) (fun cdv A outer s H E hr => ?_) hrd
  have tk := takes_of (X := cxOf (L2.CX P w) P w K mg base ["row", "lengths", "parts", "left", "sign", "rest", "right", "other_sign", "out", "text", "length"] "product_from" (defScope s_product_from) f_product_from cdv A outer s H E) rfl rfl rfl rfl
  exact (fss_cons (fs_asg [5, 4, 3] (fe_part (fe_var (i := 0)) fe_str) (fg_tup (fgs_cons (fg_name 3 sc_product_from.nd) (fgs_cons (fg_name 4 sc_product_from.nd) (fgs_cons (fg_name 5 sc_product_from.nd) fgs_nil))))) (fss_cons (fs_asg [8, 7, 6] (fe_part (fe_var (i := 5)) fe_str) (fg_tup (fgs_cons (fg_name 6 sc_product_from.nd) (fgs_cons (fg_name 7 sc_product_from.nd) (fgs_cons (fg_name 8 sc_product_from.nd) fgs_nil))))) (fss_cons (fs_if (FW.ft (fw_or (ft_cmp (fop_eq hr.units) (fo_val (fe_var (i := 4))) (fo_val fe_str)) (fw_or1 (ft_cmp (fop_eq hr.units) (fo_val (fe_var (i := 7))) (fo_val fe_str))))) (fss_one (fs_ret fe_non)) fss_nil) (fss_cons (fs_setLcF 2 [10, 9] (own := [("length", 10), ("text", 9)]) sc_product_from.nd (fi_zip (fa_cons (fo_val (fe_lst (fa_cons (fo_val (fe_var (i := 3))) (fa_cons (fo_val (fe_var (i := 6))) (fa_cons (fo_val (fe_var (i := 8))) fa_nil))))) (fa_cons (fo_val (fe_var (i := 1))) fa_nil)) z_zip) (blkOk_by (own := [("length", 10), ("text", 9)]) (N := ["row", "lengths", "parts", "left", "sign", "rest", "right", "other_sign", "out", "text", "length"]) (sc := defScope s_product_from) (by decide +kernel)) (fun _ => (fg_tup (fgs_cons (fg_name 9 sc_product_from.nd) (fgs_cons (fg_name 10 sc_product_from.nd) fgs_nil)))) (fun _ => fts_nil) (fun _ => (fe_call takes0 F_sum_from hr D_sum_from.mg D_sum_from.fn.kp D_sum_from.b (fa_cons (fo_val (fe_var (i := 9))) (fa_cons (fo_val (fe_var (i := 10))) fa_nil))))) (fss_cons (fs_if (ft_cmp (fop_inD hr.units) (fo_val fe_non) (fo_val (fe_var (i := 2)))) (fss_one (fs_ret fe_non)) fss_nil) (fss_one (fs_ret (fe_callTy fc_tuple z_tuple (by decide +kernel) (fa_cons (fo_val (fe_var (i := 2))) fa_nil)))))))))
theorem sc_lengths_from : FnScope ["row", "words", "lengths", "word", "length"] ["row"] (defScope s_lengths_from) := ⟨rfl, rfl, rfl, by decide +kernel, rfl, by decide +kernel, by decide +kernel⟩
theorem ok_lengths_from {f_lengths_from : Addr} {fd_lengths_from : FuncData} {f_plain_number : Addr} {fd_plain_number : FuncData} {k : Nat} (D_lengths_from : Df K mg "lengths_from" s_lengths_from ["row"] f_lengths_from fd_lengths_from) (D_plain_number : Df K mg "plain_number" s_plain_number ["word", "most"] f_plain_number fd_plain_number) {r_plain_number : FSpec} (F_plain_number : FnOk P w K mg base (L2.CX P w) k f_plain_number fd_plain_number ["word", "most"] (FnD K 2 [] r_plain_number)) (z_all : mg "all" = none) (z_len : mg "len" = none) (z_tuple : mg "tuple" = none) {t_MOST_LENGTH : Tok} (g_MOST_LENGTH : mg "MOST_LENGTH" = some (.int 81 t_MOST_LENGTH)) {r : FSpec} (hrd : RD_lengths_from r r_plain_number) :
    FnOk P w K mg base (L2.CX P w) (k + 1) f_lengths_from fd_lengths_from ["row"] (FnD K 1 [] r) := by
  refine fl_fn D_lengths_from.fn sc_lengths_from (by rfl) (fun cdv A outer s H E hr => ?_) hrd
  have tk := takes_of (X := cxOf (L2.CX P w) P w K mg base ["row", "words", "lengths", "word", "length"] "lengths_from" (defScope s_lengths_from) f_lengths_from cdv A outer s H E) rfl rfl rfl rfl
  exact (fss_cons (fs_setF 1 (fe_split (fe_var (i := 0)) fe_str) sc_lengths_from.nd) (fss_cons (fs_if (FW.ft (fw_or (ft_cmp (fop_ne hr.units) (fo_val (fe_callB fc_len z_len (by decide +kernel) (fa_cons (fo_val (fe_var (i := 1))) fa_nil))) (fo_val fe_int)) (fw_or1 (ft_cmp (fop_ne hr.units) (fo_val (fe_ix (hu_of hr) (fo_val (fe_var (i := 1))) (fo_val fe_int))) (fo_val fe_str))))) (fss_one (fs_ret fe_non)) fss_nil) (fss_cons (fs_setLcF 2 [3] (own := [("word", 3)]) sc_lengths_from.nd (fi_row (fe_sl (fo_val (fe_var (i := 1))) (fp_some fe_int) fp_none)) (blkOk_by (own := [("word", 3)]) (N := ["row", "words", "lengths", "word", "length"]) (sc := defScope s_lengths_from) (by decide +kernel)) (fun _ => (fg_name 3 sc_lengths_from.nd)) (fun _ => fts_nil) (fun _ => (fe_call takes0 F_plain_number hr D_plain_number.mg D_plain_number.fn.kp D_plain_number.b (fa_cons (fo_val (fe_var (i := 3))) (fa_cons (fo_val fe_int) fa_nil))))) (fss_cons (fs_if (FW.ft (fw_or (ft_cmp (fop_inD hr.units) (fo_val fe_non) (fo_val (fe_var (i := 2)))) (fw_or1 (ft_not (ft_val (fe_callB fc_all z_all (by decide +kernel) (fa_cons (fo_val (fe_lc [4] (own := [("length", 4)]) sc_lengths_from.nd (fi_row (fe_var (i := 2))) (blkOk_by (own := [("length", 4)]) (N := ["row", "words", "lengths", "word", "length"]) (sc := defScope s_lengths_from) (by decide +kernel)) (fun _ => (fg_name 4 sc_lengths_from.nd)) (fun _ => fts_nil) (fun _ => (fe_chain fop_le fop_le (fo_val fe_int) (fo_val (fe_var (i := 4))) (fo_val (fe_glob (v := V.int 81) rfl g_MOST_LENGTH ⟨_, rfl⟩ (fun _ _ => rfl))))))) fa_nil))))))) (fss_one (fs_ret fe_non)) fss_nil) (fss_one (fs_ret (fe_callTy fc_tuple z_tuple (by decide +kernel) (fa_cons (fo_val (fe_var (i := 2))) fa_nil))))))))
theorem sc_scheme_from : FnScope ["text", "rows", "lengths", "products", "number", "row", "product"] ["text"] (defScope s_scheme_from) := ⟨rfl, rfl, rfl, by decide +kernel, rfl, by decide +kernel, by decide +kernel⟩
def rb_scheme_from (r_lengths_from : FSpec) (r_product_from : FSpec) (cv_BadRow : Addr) : RS := (rSeq (rSetF 1 (rSplit (rVar 0) (rC (.str "\n"))))
  (rSeq (rSetF 2 (rCall [] r_lengths_from (rAC (oV (rBin dIx (oV (rVar 1)) (oV (rC (.int 0))))) rA0)))
  (rSeq (rIf (rTst (rBin (dIsN0 false) (oV (rVar 2)) (oV (rC .non)))) (rRaiseF cv_BadRow "row" (rC (.int 0))) rNx)
  (rSeq (rSet 3 (rLst rA0))
  (rSeq (rFor (rEn (rAC (oV (rSl (oV (rVar 1)) (rP1 (rC (.int 1))) rP0)) rA0)) (gTp 2 (gCs (gNm 4) (gCs (gNm 5) gNl))) (rSeq (rSetF 6 (rCall [] r_product_from (rAC (oV (rVar 5)) (rAC (oV (rVar 2)) rA0))))
  (rSeq (rIf (rOr (rTst (rBin (dIsN0 false) (oV (rVar 6)) (oV (rC .non)))) (rTst (rBin dGe (oV (rVar 4)) (oV (rC (.int 400)))))) (rRaiseF cv_BadRow "row" (rIc (fun i => i + 1) (oV (rVar 4)))) rNx)
  (rDrop (rApp 3 (rVar 6))))))
  (rRet (rCatT (rVar 2) (rTup (rAC (oV (rVar 3)) rA0)))))))))
abbrev RD_scheme_from (r : FSpec) (r_lengths_from : FSpec) (r_product_from : FSpec) (cv_BadRow : Addr) : Prop := ∀ ds ED QD, ds.length = 1 → r ds ED QD → (rb_scheme_from r_lengths_from r_product_from cv_BadRow) (startD ["text", "rows", "lengths", "products", "number", "row", "product"] ds) (fun c fs ρ => ED c fs (ρ.take 1)) (finD 1 QD)
theorem ok_scheme_from {f_scheme_from : Addr} {fd_scheme_from : FuncData} {f_lengths_from : Addr} {fd_lengths_from : FuncData} {f_BadRow_init : Addr} {fd_BadRow_init : FuncData} {f_product_from : Addr} {fd_product_from : FuncData} {cv_BadRow : Addr} {k : Nat} (D_scheme_from : Df K mg "scheme_from" s_scheme_from ["text"] f_scheme_from fd_scheme_from) (D_lengths_from : Df K mg "lengths_from" s_lengths_from ["row"] f_lengths_from fd_lengths_from) (D_BadRow_init : DfM K "__init__" "BadRow.__init__" s_BadRow_init ["self", "row"] f_BadRow_init fd_BadRow_init) (D_product_from : Df K mg "product_from" s_product_from ["row", "lengths"] f_product_from fd_product_from) {r_lengths_from : FSpec} (F_lengths_from : FnOk P w K mg base (L2.CX P w) k f_lengths_from fd_lengths_from ["row"] (FnD K 1 [] r_lengths_from)) {k_BadRow_init : Nat} (F_BadRow_init : FnOk P w K mg base (L2.CX P w) k_BadRow_init f_BadRow_init fd_BadRow_init ["self", "row"] (spI cv_BadRow "row")) (hk_BadRow_init : k_BadRow_init + 1 ≤ k) {r_product_from : FSpec} (F_product_from : FnOk P w K mg base (L2.CX P w) k f_product_from fd_product_from ["row", "lengths"] (FnD K 2 [] r_product_from)) (z_enumerate : mg "enumerate" = none) {t_MOST_PRODUCTS : Tok} (g_MOST_PRODUCTS : mg "MOST_PRODUCTS" = some (.int 400 t_MOST_PRODUCTS)) (xi_BadRow : EI K cv_BadRow f_BadRow_init "row") (gc_BadRow : mg "BadRow" = some (.ref cv_BadRow)) {r : FSpec} (hrd : RD_scheme_from r r_lengths_from r_product_from cv_BadRow) :
    FnOk P w K mg base (L2.CX P w) (k + 1) f_scheme_from fd_scheme_from ["text"] (FnD K 1 [] r) := by
  refine fl_fn D_scheme_from.fn sc_scheme_from (by rfl) (fun cdv A outer s H E hr => ?_) hrd
  have tk := takes_of (X := cxOf (L2.CX P w) P w K mg base ["text", "rows", "lengths", "products", "number", "row", "product"] "scheme_from" (defScope s_scheme_from) f_scheme_from cdv A outer s H E) rfl rfl rfl rfl
  exact (fss_cons (fs_setF 1 (fe_split (fe_var (i := 0)) fe_str) sc_scheme_from.nd) (fss_cons (fs_setF 2 (fe_call tk F_lengths_from hr D_lengths_from.mg D_lengths_from.fn.kp D_lengths_from.b (fa_cons (fo_val (fe_ix (hu_of hr) (fo_val (fe_var (i := 1))) (fo_val fe_int))) fa_nil)) sc_scheme_from.nd) (fss_cons (fs_if (ft_cmp fop_isN0 (fo_val (fe_var (i := 2))) (fo_val fe_non)) (fss_one (fs_raiseF tk xi_BadRow F_BadRow_init (hr.mono hk_BadRow_init) D_BadRow_init.b gc_BadRow fe_int)) fss_nil) (fss_cons (fs_set 3 (fe_lst fa_nil) sc_scheme_from.nd) (fss_cons (fs_for [5, 4] PassesOwn.leaving (fi_enum (fa_cons (fo_val (fe_sl (fo_val (fe_var (i := 1))) (fp_some fe_int) fp_none)) fa_nil) z_enumerate) (fg_tup (fgs_cons (fg_name 4 sc_scheme_from.nd) (fgs_cons (fg_name 5 sc_scheme_from.nd) fgs_nil))) (fss_cons (fs_setF 6 (fe_call tk F_product_from hr D_product_from.mg D_product_from.fn.kp D_product_from.b (fa_cons (fo_val (fe_var (i := 5))) (fa_cons (fo_val (fe_var (i := 2))) fa_nil))) sc_scheme_from.nd) (fss_cons (fs_if (FW.ft (fw_or (ft_cmp fop_isN0 (fo_val (fe_var (i := 6))) (fo_val fe_non)) (fw_or1 (ft_cmp fop_ge (fo_val (fe_var (i := 4))) (fo_val (fe_glob (v := V.int 400) rfl g_MOST_PRODUCTS ⟨_, rfl⟩ (fun _ _ => rfl))))))) (fss_one (fs_raiseF tk xi_BadRow F_BadRow_init (hr.mono hk_BadRow_init) D_BadRow_init.b gc_BadRow (fe_addC (fo_val (fe_var (i := 4)))))) fss_nil) (fss_one (fs_expr (fe_app 3 (fe_var (i := 6)))))))) (fss_one (fs_ret (fe_catT (fe_var (i := 2)) (fe_tup (fa_cons (fo_val (fe_var (i := 3))) fa_nil))))))))))
theorem sc_law_cell_at : FnScope ["_law_script", "_law_k"] ["_law_script", "_law_k"] (defScope s_law_cell_at) := ⟨rfl, rfl, rfl, by decide +kernel, rfl, by decide +kernel, by decide +kernel⟩
theorem ok_law_cell_at {f_law_cell_at : Addr} {fd_law_cell_at : FuncData} {k : Nat} (D_law_cell_at : Df K mg "_law_cell_at" s_law_cell_at ["_law_script", "_law_k"] f_law_cell_at fd_law_cell_at) (z_len : mg "len" = none) {r : FSpec} (hrd : RD_law_cell_at r) :
    FnOk P w K mg base (L2.CX P w) (k + 1) f_law_cell_at fd_law_cell_at ["_law_script", "_law_k"] (FnD K 2 [] r) := by
  refine fl_fn D_law_cell_at.fn sc_law_cell_at (by rfl) (fun cdv A outer s H E hr => ?_) hrd
  have tk := takes_of (X := cxOf (L2.CX P w) P w K mg base ["_law_script", "_law_k"] "_law_cell_at" (defScope s_law_cell_at) f_law_cell_at cdv A outer s H E) rfl rfl rfl rfl
  exact (fss_cons (fs_if (ft_cmp fop_lt (fo_val (fe_var (i := 1))) (fo_val (fe_callB fc_len z_len (by decide +kernel) (fa_cons (fo_val (fe_var (i := 0))) fa_nil)))) (fss_one (fs_ret (fe_ix (hu_of hr) (fo_val (fe_var (i := 0))) (fo_val (fe_var (i := 1)))))) fss_nil) (fss_one (fs_ret fe_int)))
theorem sc_law_mixed : FnScope ["_law_number_here", "_law_k", "_law_once", "_law_twice"] ["_law_number_here", "_law_k"] (defScope s_law_mixed) := ⟨rfl, rfl, rfl, by decide +kernel, rfl, by decide +kernel, by decide +kernel⟩
theorem ok_law_mixed {f_law_mixed : Addr} {fd_law_mixed : FuncData} {k : Nat} (D_law_mixed : Df K mg "_law_mixed" s_law_mixed ["_law_number_here", "_law_k"] f_law_mixed fd_law_mixed) {r : FSpec} (hrd : RD_law_mixed r) :
    FnOk P w K mg base (L2.CX P w) (k + 1) f_law_mixed fd_law_mixed ["_law_number_here", "_law_k"] (FnD K 2 [] r) := by
  refine fl_fn D_law_mixed.fn sc_law_mixed (by rfl) (fun cdv A outer s H E hr => ?_) hrd
  have tk := takes_of (X := cxOf (L2.CX P w) P w K mg base ["_law_number_here", "_law_k", "_law_once", "_law_twice"] "_law_mixed" (defScope s_law_mixed) f_law_mixed cdv A outer s H E) rfl rfl rfl rfl
  exact (fss_cons (fs_setF 2 (fe_modC (fo_val (fe_mulC (fo_val (fe_addC (fo_val (fe_op fop_add (fo_val (fe_modC (fo_val (fe_var (i := 0))))) (fo_val (fe_mulCl (fo_val (fe_var (i := 1)))))))))))) sc_law_mixed.nd) (fss_cons (fs_setF 3 (fe_modC (fo_val (fe_op fop_mulX (fo_val (fe_var (i := 2))) (fo_val (fe_addC (fo_val (fe_op fop_add (fo_val (fe_modC (fo_val (fe_var (i := 2))))) (fo_val (fe_var (i := 1)))))))))) sc_law_mixed.nd) (fss_one (fs_ret (fe_fdivC (fo_val (fe_modC (fo_val (fe_op fop_add (fo_val (fe_mulC (fo_val (fe_var (i := 3))))) (fo_val (fe_var (i := 2))))))))))))
theorem sc_law_box : FnScope ["_law_script", "_law_k", "_law_cell"] ["_law_script", "_law_k"] (defScope s_law_box) := ⟨rfl, rfl, rfl, by decide +kernel, rfl, by decide +kernel, by decide +kernel⟩
theorem ok_law_box {f_law_box : Addr} {fd_law_box : FuncData} {f_law_cell_at : Addr} {fd_law_cell_at : FuncData} {f_law_mixed : Addr} {fd_law_mixed : FuncData} {k : Nat} (D_law_box : Df K mg "_law_box" s_law_box ["_law_script", "_law_k"] f_law_box fd_law_box) (D_law_cell_at : Df K mg "_law_cell_at" s_law_cell_at ["_law_script", "_law_k"] f_law_cell_at fd_law_cell_at) (D_law_mixed : Df K mg "_law_mixed" s_law_mixed ["_law_number_here", "_law_k"] f_law_mixed fd_law_mixed) {r_law_cell_at : FSpec} (F_law_cell_at : FnOk P w K mg base (L2.CX P w) k f_law_cell_at fd_law_cell_at ["_law_script", "_law_k"] (FnD K 2 [] r_law_cell_at)) {r_law_mixed : FSpec} (F_law_mixed : FnOk P w K mg base (L2.CX P w) k f_law_mixed fd_law_mixed ["_law_number_here", "_law_k"] (FnD K 2 [] r_law_mixed)) (z_abs : mg "abs" = none) (z_int : mg "int" = none) {r : FSpec} (hrd : RD_law_box r r_law_cell_at r_law_mixed) :
    FnOk P w K mg base (L2.CX P w) (k + 1) f_law_box fd_law_box ["_law_script", "_law_k"] (FnD K 2 [] r) := by
  refine fl_fn D_law_box.fn sc_law_box (by rfl) (fun cdv A outer s H E hr => ?_) hrd
  have tk := takes_of (X := cxOf (L2.CX P w) P w K mg base ["_law_script", "_law_k", "_law_cell"] "_law_box" (defScope s_law_box) f_law_box cdv A outer s H E) rfl rfl rfl rfl
  exact (fss_cons (fs_setF 2 (fe_call tk F_law_cell_at hr D_law_cell_at.mg D_law_cell_at.fn.kp D_law_cell_at.b (fa_cons (fo_val (fe_var (i := 0))) (fa_cons (fo_val (fe_var (i := 1))) fa_nil))) sc_law_box.nd) (fss_one (fs_ret (fe_lst (fa_cons (fo_val (fe_op fop_mulX (fo_val (fe_callB fc_abs z_abs (by decide +kernel) (fa_cons (fo_val (fe_var (i := 2))) fa_nil))) (fo_val (fe_callTy fc_int z_int (by decide +kernel) (fa_cons (fo_val (fe_cmp fop_ge (fo_val (fe_callB fc_abs z_abs (by decide +kernel) (fa_cons (fo_val (fe_var (i := 2))) fa_nil))) (fo_val fe_powC))) fa_nil))))) (fa_cons (fo_val (fe_call tk F_law_mixed hr D_law_mixed.mg D_law_mixed.fn.kp D_law_mixed.b (fa_cons (fo_val (fe_var (i := 2))) (fa_cons (fo_val (fe_addCl (fo_val (fe_var (i := 1))))) fa_nil)))) (fa_cons (fo_val fe_int) fa_nil)))))))
theorem sc_law_take : FnScope ["_law_box_here", "_law_many", "_law_found", "_law_reach"] ["_law_box_here", "_law_many"] (defScope s_law_take) := ⟨rfl, rfl, rfl, by decide +kernel, rfl, by decide +kernel, by decide +kernel⟩
theorem ok_law_take {f_law_take : Addr} {fd_law_take : FuncData} {f_law_mixed : Addr} {fd_law_mixed : FuncData} {k : Nat} (D_law_take : Df K mg "_law_take" s_law_take ["_law_box_here", "_law_many"] f_law_take fd_law_take) (D_law_mixed : Df K mg "_law_mixed" s_law_mixed ["_law_number_here", "_law_k"] f_law_mixed fd_law_mixed) {r_law_mixed : FSpec} (F_law_mixed : FnOk P w K mg base (L2.CX P w) k f_law_mixed fd_law_mixed ["_law_number_here", "_law_k"] (FnD K 2 [] r_law_mixed)) {r : FSpec} (hrd : RD_law_take r r_law_mixed) :
    FnOk P w K mg base (L2.CX P w) (k + 1) f_law_take fd_law_take ["_law_box_here", "_law_many"] (FnD K 2 [0] r) := by
  refine fl_fn D_law_take.fn sc_law_take (by rfl) (fun cdv A outer s H E hr => ?_) hrd
  have tk := takes_of (X := cxOf (L2.CX P w) P w K mg base ["_law_box_here", "_law_many", "_law_found", "_law_reach"] "_law_take" (defScope s_law_take) f_law_take cdv A outer s H E) rfl rfl rfl rfl
  exact (fss_cons (fs_if (ft_cmp fop_gt (fo_val (fe_ix (hu_of hr) (fo_brw (i := 0)) (fo_val fe_int))) (fo_val fe_int)) (fss_cons (fs_setF 2 (fe_op fop_mod (fo_val (fe_ix (hu_of hr) (fo_brw (i := 0)) (fo_val fe_int))) (fo_val (fe_var (i := 1)))) sc_law_take.nd) (fss_cons (fs_setL 0 (fe_op fop_fdiv (fo_val (fe_ix (hu_of hr) (fo_brw (i := 0)) (fo_val fe_int))) (fo_val (fe_var (i := 1)))) (fo_val fe_int)) (fss_one (fs_ret (fe_var (i := 2)))))) fss_nil) (fss_cons (fs_asg [3, 2] (fe_tup (fa_cons (fo_val fe_int) (fa_cons (fo_val fe_int) fa_nil))) (fg_tup (fgs_cons (fg_name 2 sc_law_take.nd) (fgs_cons (fg_name 3 sc_law_take.nd) fgs_nil)))) (fss_cons (fs_while PassesOwn.leaving (ft_cmp fop_lt (fo_val (fe_var (i := 3))) (fo_val (fe_var (i := 1)))) (fss_cons (fs_setL 0 (fe_addC (fo_val (fe_ix (hu_of hr) (fo_brw (i := 0)) (fo_val fe_int)))) (fo_val fe_int)) (fss_cons (fs_setF 2 (fe_op fop_add (fo_val (fe_mulC (fo_val (fe_var (i := 2))))) (fo_val (fe_call tk F_law_mixed hr D_law_mixed.mg D_law_mixed.fn.kp D_law_mixed.b (fa_cons (fo_val (fe_ix (hu_of hr) (fo_brw (i := 0)) (fo_val fe_int))) (fa_cons (fo_val (fe_ix (hu_of hr) (fo_brw (i := 0)) (fo_val fe_int))) fa_nil))))) sc_law_take.nd) (fss_one (fs_setF 3 (fe_mulC (fo_val (fe_var (i := 3)))) sc_law_take.nd))))) (fss_one (fs_ret (fe_op fop_mod (fo_val (fe_var (i := 2))) (fo_val (fe_var (i := 1)))))))))
theorem sc_law_number : FnScope ["_law_box_here", "_law_way"] ["_law_box_here"] (defScope s_law_number) := ⟨rfl, rfl, rfl, by decide +kernel, rfl, by decide +kernel, by decide +kernel⟩
theorem ok_law_number {f_law_number : Addr} {fd_law_number : FuncData} {f_law_take : Addr} {fd_law_take : FuncData} {k : Nat} (D_law_number : Df K mg "_law_number" s_law_number ["_law_box_here"] f_law_number fd_law_number) (D_law_take : Df K mg "_law_take" s_law_take ["_law_box_here", "_law_many"] f_law_take fd_law_take) {r_law_take : FSpec} (F_law_take : FnOk P w K mg base (L2.CX P w) k f_law_take fd_law_take ["_law_box_here", "_law_many"] (FnD K 2 [0] r_law_take)) {r : FSpec} (hrd : RD_law_number r r_law_take) :
    FnOk P w K mg base (L2.CX P w) (k + 1) f_law_number fd_law_number ["_law_box_here"] (FnD K 1 [0] r) := by
  refine fl_fn D_law_number.fn sc_law_number (by rfl) (fun cdv A outer s H E hr => ?_) hrd
  have tk := takes_of (X := cxOf (L2.CX P w) P w K mg base ["_law_box_here", "_law_way"] "_law_number" (defScope s_law_number) f_law_number cdv A outer s H E) rfl rfl rfl rfl
  exact (fss_cons (fs_setF 1 (fe_call tk F_law_take hr D_law_take.mg D_law_take.fn.kp D_law_take.b (fa_cons (fo_brw (i := 0)) (fa_cons (fo_val fe_int) fa_nil))) sc_law_number.nd) (fss_cons (fs_if (ft_cmp (fop_eq hr.units) (fo_val (fe_var (i := 1))) (fo_val fe_int)) (fss_one (fs_ret (fe_subC (fo_val (fe_call tk F_law_take hr D_law_take.mg D_law_take.fn.kp D_law_take.b (fa_cons (fo_brw (i := 0)) (fa_cons (fo_val fe_int) fa_nil))))))) fss_nil) (fss_one (fs_ret (fe_ix (hu_of hr) (fo_val (fe_lst (fa_cons (fo_val fe_int) (fa_cons (fo_val fe_int) (fa_cons (fo_val fe_int) (fa_cons (fo_val fe_int) (fa_cons (fo_val fe_int) (fa_cons (fo_val fe_int) (fa_cons (fo_val fe_negC) (fa_cons (fo_val fe_negC) (fa_cons (fo_val fe_int) fa_nil))))))))))) (fo_val (fe_var (i := 1))))))))
theorem sc_law_part : FnScope ["_law_box_here", "_law_length", "_law_k"] ["_law_box_here", "_law_length"] (defScope s_law_part) := ⟨rfl, rfl, rfl, by decide +kernel, rfl, by decide +kernel, by decide +kernel⟩
theorem ok_law_part {f_law_part : Addr} {fd_law_part : FuncData} {f_law_number : Addr} {fd_law_number : FuncData} {k : Nat} (D_law_part : Df K mg "_law_part" s_law_part ["_law_box_here", "_law_length"] f_law_part fd_law_part) (D_law_number : Df K mg "_law_number" s_law_number ["_law_box_here"] f_law_number fd_law_number) {r_law_number : FSpec} (F_law_number : FnOk P w K mg base (L2.CX P w) k f_law_number fd_law_number ["_law_box_here"] (FnD K 1 [0] r_law_number)) (z_range : mg "range" = none) (z_tuple : mg "tuple" = none) {r : FSpec} (hrd : RD_law_part r r_law_number) :
    FnOk P w K mg base (L2.CX P w) (k + 1) f_law_part fd_law_part ["_law_box_here", "_law_length"] (FnD K 2 [0] r) := by
  refine fl_fn D_law_part.fn sc_law_part (by rfl) (fun cdv A outer s H E hr => ?_) hrd
  have tk := takes_of (X := cxOf (L2.CX P w) P w K mg base ["_law_box_here", "_law_length", "_law_k"] "_law_part" (defScope s_law_part) f_law_part cdv A outer s H E) rfl rfl rfl rfl
  exact (fss_one (fs_ret (fe_callTy fc_tuple z_tuple (by decide +kernel) (fa_cons (fo_val (fe_lc [2] (own := [("_law_k", 2)]) sc_law_part.nd (fi_range1 (fa_cons (fo_val (fe_var (i := 1))) fa_nil) z_range) (blkOk_by (own := [("_law_k", 2)]) (N := ["_law_box_here", "_law_length", "_law_k"]) (sc := defScope s_law_part) (by decide +kernel)) (fun _ => (fg_name 2 sc_law_part.nd)) (fun _ => fts_nil) (fun _ => (fe_call takes0 F_law_number hr D_law_number.mg D_law_number.fn.kp D_law_number.b (fa_cons (fo_brw (i := 0)) fa_nil))))) fa_nil))))
theorem sc_law_scheme : FnScope ["_law_box_here", "_law_lengths_here", "_law_count", "_law_products", "_law_k", "_law_product", "_law_way", "_law_side", "_law_length"] ["_law_box_here", "_law_lengths_here", "_law_count"] (defScope s_law_scheme) := ⟨rfl, rfl, rfl, by decide +kernel, rfl, by decide +kernel, by decide +kernel⟩
theorem ok_law_scheme {f_law_scheme : Addr} {fd_law_scheme : FuncData} {f_law_take : Addr} {fd_law_take : FuncData} {f_law_part : Addr} {fd_law_part : FuncData} {k : Nat} (D_law_scheme : Df K mg "_law_scheme" s_law_scheme ["_law_box_here", "_law_lengths_here", "_law_count"] f_law_scheme fd_law_scheme) (D_law_take : Df K mg "_law_take" s_law_take ["_law_box_here", "_law_many"] f_law_take fd_law_take) (D_law_part : Df K mg "_law_part" s_law_part ["_law_box_here", "_law_length"] f_law_part fd_law_part) {r_law_take : FSpec} (F_law_take : FnOk P w K mg base (L2.CX P w) k f_law_take fd_law_take ["_law_box_here", "_law_many"] (FnD K 2 [0] r_law_take)) {r_law_part : FSpec} (F_law_part : FnOk P w K mg base (L2.CX P w) k f_law_part fd_law_part ["_law_box_here", "_law_length"] (FnD K 2 [0] r_law_part)) (z_len : mg "len" = none) (z_range : mg "range" = none) (z_tuple : mg "tuple" = none) {r : FSpec} (hrd : RD_law_scheme r r_law_take r_law_part) :
    FnOk P w K mg base (L2.CX P w) (k + 1) f_law_scheme fd_law_scheme ["_law_box_here", "_law_lengths_here", "_law_count"] (FnD K 3 [0] r) := by
  refine fl_fn D_law_scheme.fn sc_law_scheme (by rfl) (fun cdv A outer s H E hr => ?_) hrd
  have tk := takes_of (X := cxOf (L2.CX P w) P w K mg base ["_law_box_here", "_law_lengths_here", "_law_count", "_law_products", "_law_k", "_law_product", "_law_way", "_law_side", "_law_length"] "_law_scheme" (defScope s_law_scheme) f_law_scheme cdv A outer s H E) rfl rfl rfl rfl
  exact (fss_cons (fs_set 3 (fe_lst fa_nil) sc_law_scheme.nd) (fss_cons (fs_for [4] PassesOwn.leaving (fi_range1 (fa_cons (fo_val (fe_var (i := 2))) fa_nil) z_range) (fg_name 4 sc_law_scheme.nd) (fss_cons (fs_setLc 5 [8] (own := [("_law_length", 8)]) sc_law_scheme.nd (fi_row (fe_var (i := 1))) (blkOk_by (own := [("_law_length", 8)]) (N := ["_law_box_here", "_law_lengths_here", "_law_count", "_law_products", "_law_k", "_law_product", "_law_way", "_law_side", "_law_length"]) (sc := defScope s_law_scheme) (by decide +kernel)) (fun _ => (fg_name 8 sc_law_scheme.nd)) (fun _ => fts_nil) (fun _ => (fe_call takes0 F_law_part hr D_law_part.mg D_law_part.fn.kp D_law_part.b (fa_cons (fo_brw (i := 0)) (fa_cons (fo_val (fe_var (i := 8))) fa_nil))))) (fss_cons (fs_setF 6 (fe_call tk F_law_take hr D_law_take.mg D_law_take.fn.kp D_law_take.b (fa_cons (fo_brw (i := 0)) (fa_cons (fo_val fe_int) fa_nil))) sc_law_scheme.nd) (fss_cons (fs_cut (fs_if (FW.ft (fw_and (ft_cmp fop_lt (fo_val (fe_var (i := 6))) (fo_val fe_int)) (fw_and1 (ft_cmp (fop_ne hr.units) (fo_brw (i := 3)) (fo_val (fe_lst fa_nil)))))) (fss_one (fs_setL 5 (fe_ix (hu_of hr) (fo_val (fe_ix (hu_of hr) (fo_brw (i := 3)) (fo_val (fe_call tk F_law_take hr D_law_take.mg D_law_take.fn.kp D_law_take.b (fa_cons (fo_brw (i := 0)) (fa_cons (fo_val (fe_callB fc_len z_len (by decide +kernel) (fa_cons (fo_brw (i := 3)) fa_nil))) fa_nil)))))) (fo_val (fe_var (i := 6)))) (fo_val (fe_var (i := 6))))) fss_nil)) (fss_cons (fs_cut (fs_if (ft_cmp (fop_eq hr.units) (fo_val (fe_var (i := 6))) (fo_val fe_int)) (fss_cons (fs_setF 7 (fe_call tk F_law_take hr D_law_take.mg D_law_take.fn.kp D_law_take.b (fa_cons (fo_brw (i := 0)) (fa_cons (fo_val fe_int) fa_nil))) sc_law_scheme.nd) (fss_one (fs_setL 5 (fe_op fop_mulX (fo_val (fe_tup (fa_cons (fo_val fe_int) fa_nil))) (fo_val (fe_ix (hu_of hr) (fo_val (fe_var (i := 1))) (fo_val (fe_var (i := 7)))))) (fo_val (fe_var (i := 7)))))) fss_nil)) (fss_one (fs_expr (fe_app 3 (fe_callTy fc_tuple z_tuple (by decide +kernel) (fa_cons (fo_brw (i := 5)) fa_nil)))))))))) (fss_one (fs_ret (fe_op fop_add (fo_val (fe_callTy fc_tuple z_tuple (by decide +kernel) (fa_cons (fo_val (fe_var (i := 1))) fa_nil))) (fo_val (fe_frz (fe_tup (fa_cons (fo_val (fe_ice (i := 3))) fa_nil)))))))))
theorem sc_law_lengths : FnScope ["_law_box_here", "_law_most", "_law_side"] ["_law_box_here", "_law_most"] (defScope s_law_lengths) := ⟨rfl, rfl, rfl, by decide +kernel, rfl, by decide +kernel, by decide +kernel⟩
theorem ok_law_lengths {f_law_lengths : Addr} {fd_law_lengths : FuncData} {f_law_take : Addr} {fd_law_take : FuncData} {k : Nat} (D_law_lengths : Df K mg "_law_lengths" s_law_lengths ["_law_box_here", "_law_most"] f_law_lengths fd_law_lengths) (D_law_take : Df K mg "_law_take" s_law_take ["_law_box_here", "_law_many"] f_law_take fd_law_take) {r_law_take : FSpec} (F_law_take : FnOk P w K mg base (L2.CX P w) k f_law_take fd_law_take ["_law_box_here", "_law_many"] (FnD K 2 [0] r_law_take)) (z_range : mg "range" = none) {r : FSpec} (hrd : RD_law_lengths r r_law_take) :
    FnOk P w K mg base (L2.CX P w) (k + 1) f_law_lengths fd_law_lengths ["_law_box_here", "_law_most"] (FnD K 2 [0] r) := by
  refine fl_fn D_law_lengths.fn sc_law_lengths (by rfl) (fun cdv A outer s H E hr => ?_) hrd
  have tk := takes_of (X := cxOf (L2.CX P w) P w K mg base ["_law_box_here", "_law_most", "_law_side"] "_law_lengths" (defScope s_law_lengths) f_law_lengths cdv A outer s H E) rfl rfl rfl rfl
  exact (fss_one (fs_ret (fe_lc [2] (own := [("_law_side", 2)]) sc_law_lengths.nd (fi_range1 (fa_cons (fo_val fe_int) fa_nil) z_range) (blkOk_by (own := [("_law_side", 2)]) (N := ["_law_box_here", "_law_most", "_law_side"]) (sc := defScope s_law_lengths) (by decide +kernel)) (fun _ => (fg_name 2 sc_law_lengths.nd)) (fun _ => fts_nil) (fun _ => (fe_addCl (fo_val (fe_call takes0 F_law_take hr D_law_take.mg D_law_take.fn.kp D_law_take.b (fa_cons (fo_brw (i := 0)) (fa_cons (fo_val (fe_var (i := 1))) fa_nil)))))))))
theorem sc_law_sum : FnScope ["_law_part_here", "_law_words", "_law_place", "_law_number_here"] ["_law_part_here"] (defScope s_law_sum) := ⟨rfl, rfl, rfl, by decide +kernel, rfl, by decide +kernel, by decide +kernel⟩
theorem ok_law_sum {f_law_sum : Addr} {fd_law_sum : FuncData} {k : Nat} (D_law_sum : Df K mg "_law_sum" s_law_sum ["_law_part_here"] f_law_sum fd_law_sum) (z_enumerate : mg "enumerate" = none) (z_str : mg "str" = none) {r : FSpec} (hrd : RD_law_sum r) :
    FnOk P w K mg base (L2.CX P w) (k + 1) f_law_sum fd_law_sum ["_law_part_here"] (FnD K 1 [] r) := by
  refine fl_fn D_law_sum.fn sc_law_sum (by rfl) (fun cdv A outer s H E hr => ?_) hrd
  have tk := takes_of (X := cxOf (L2.CX P w) P w K mg base ["_law_part_here", "_law_words", "_law_place", "_law_number_here"] "_law_sum" (defScope s_law_sum) f_law_sum cdv A outer s H E) rfl rfl rfl rfl
  exact (fss_cons (fs_set 1 (fe_lst fa_nil) sc_law_sum.nd) (fss_cons (fs_for [3, 2] PassesOwn.leaving (fi_enum (fa_cons (fo_val (fe_var (i := 0))) fa_nil) z_enumerate) (fg_tup (fgs_cons (fg_name 2 sc_law_sum.nd) (fgs_cons (fg_name 3 sc_law_sum.nd) fgs_nil))) (fss_one (fs_if (ft_cmp (fop_ne hr.units) (fo_val (fe_var (i := 3))) (fo_val fe_int)) (fss_one (fs_expr (fe_app 1 (fe_op fop_add (fo_val (fe_op fop_add (fo_val (fe_callTy fc_strI z_str (by decide +kernel) (fa_cons (fo_val (fe_var (i := 3))) fa_nil))) (fo_val fe_str))) (fo_val (fe_callTy fc_strI z_str (by decide +kernel) (fa_cons (fo_val (fe_var (i := 2))) fa_nil))))))) fss_nil))) (fss_one (fs_ret (fe_join fe_str (fe_orT (fe_var (i := 1)) (fe_one (fe_lst (fa_cons (fo_val fe_str) fa_nil)))))))))
theorem sc_law_text : FnScope ["_law_scheme_here", "_law_rows", "_law_l", "_law_r", "_law_o", "_law_length"] ["_law_scheme_here"] (defScope s_law_text) := ⟨rfl, rfl, rfl, by decide +kernel, rfl, by decide +kernel, by decide +kernel⟩
theorem ok_law_text {f_law_text : Addr} {fd_law_text : FuncData} {f_law_sum : Addr} {fd_law_sum : FuncData} {k : Nat} (D_law_text : Df K mg "_law_text" s_law_text ["_law_scheme_here"] f_law_text fd_law_text) (D_law_sum : Df K mg "_law_sum" s_law_sum ["_law_part_here"] f_law_sum fd_law_sum) {r_law_sum : FSpec} (F_law_sum : FnOk P w K mg base (L2.CX P w) k f_law_sum fd_law_sum ["_law_part_here"] (FnD K 1 [] r_law_sum)) (z_str : mg "str" = none) {r : FSpec} (hrd : RD_law_text r r_law_sum) :
    FnOk P w K mg base (L2.CX P w) (k + 1) f_law_text fd_law_text ["_law_scheme_here"] (FnD K 1 [] r) := by
  refine fl_fn D_law_text.fn sc_law_text (by rfl) (fun cdv A outer s H E hr => ?_) hrd
  have tk := takes_of (X := cxOf (L2.CX P w) P w K mg base ["_law_scheme_here", "_law_rows", "_law_l", "_law_r", "_law_o", "_law_length"] "_law_text" (defScope s_law_text) f_law_text cdv A outer s H E) rfl rfl rfl rfl
  exact (fss_cons (fs_set 1 (fe_lst (fa_cons (fo_val (fe_op fop_add (fo_val fe_str) (fo_val (fe_join fe_str (fe_lc [5] (own := [("_law_length", 5)]) sc_law_text.nd (fi_row (fe_sl (fo_val (fe_var (i := 0))) fp_none (fp_some fe_int))) (blkOk_by (own := [("_law_length", 5)]) (N := ["_law_scheme_here", "_law_rows", "_law_l", "_law_r", "_law_o", "_law_length"]) (sc := defScope s_law_text) (by decide +kernel)) (fun _ => (fg_name 5 sc_law_text.nd)) (fun _ => fts_nil) (fun _ => (fe_callTy fc_strI z_str (by decide +kernel) (fa_cons (fo_val (fe_var (i := 5))) fa_nil)))))))) fa_nil)) sc_law_text.nd) (fss_cons (fs_for [4, 3, 2] PassesOwn.leaving (fi_row (fe_ix (hu_of hr) (fo_val (fe_var (i := 0))) (fo_val fe_int))) (fg_tup (fgs_cons (fg_name 2 sc_law_text.nd) (fgs_cons (fg_name 3 sc_law_text.nd) (fgs_cons (fg_name 4 sc_law_text.nd) fgs_nil)))) (fss_one (fs_expr (fe_app 1 (fe_op fop_add (fo_val (fe_op fop_add (fo_val (fe_op fop_add (fo_val (fe_op fop_add (fo_val (fe_call tk F_law_sum hr D_law_sum.mg D_law_sum.fn.kp D_law_sum.b (fa_cons (fo_val (fe_var (i := 2))) fa_nil))) (fo_val fe_str))) (fo_val (fe_call tk F_law_sum hr D_law_sum.mg D_law_sum.fn.kp D_law_sum.b (fa_cons (fo_val (fe_var (i := 3))) fa_nil))))) (fo_val fe_str))) (fo_val (fe_call tk F_law_sum hr D_law_sum.mg D_law_sum.fn.kp D_law_sum.b (fa_cons (fo_val (fe_var (i := 4))) fa_nil)))))))) (fss_one (fs_ret (fe_join fe_str (fe_var (i := 1)))))))
theorem sc_law_plain : FnScope ["_law_word", "_law_least", "_law_most", "_law_sign"] ["_law_word", "_law_least", "_law_most"] (defScope s_law_plain) := ⟨rfl, rfl, rfl, by decide +kernel, rfl, by decide +kernel, by decide +kernel⟩
theorem ok_law_plain {f_law_plain : Addr} {fd_law_plain : FuncData} {k : Nat} (D_law_plain : Df K mg "_law_plain" s_law_plain ["_law_word", "_law_least", "_law_most"] f_law_plain fd_law_plain) (z_any : mg "any" = none) (z_int : mg "int" = none) (z_len : mg "len" = none) (z_str : mg "str" = none) {r : FSpec} (hrd : RD_law_plain r) :
    FnOk P w K mg base (L2.CX P w) (k + 1) f_law_plain fd_law_plain ["_law_word", "_law_least", "_law_most"] (FnD K 3 [] r) := by
  refine fl_fn D_law_plain.fn sc_law_plain (by rfl) (fun cdv A outer s H E hr => ?_) hrd
  have tk := takes_of (X := cxOf (L2.CX P w) P w K mg base ["_law_word", "_law_least", "_law_most", "_law_sign"] "_law_plain" (defScope s_law_plain) f_law_plain cdv A outer s H E) rfl rfl rfl rfl
  exact (fss_cons (fs_if (FW.ft (fw_or (ft_cmp (fop_eq hr.units) (fo_val (fe_var (i := 0))) (fo_val fe_str)) (fw_or (ft_cmp fop_gt (fo_val (fe_callB fc_len z_len (by decide +kernel) (fa_cons (fo_val (fe_var (i := 0))) fa_nil))) (fo_val fe_int)) (fw_or1 (ft_val (fe_callB fc_any z_any (by decide +kernel) (fa_cons (fo_val (fe_lc [3] (own := [("_law_sign", 3)]) sc_law_plain.nd (fi_str (fe_var (i := 0))) (blkOk_by (own := [("_law_sign", 3)]) (N := ["_law_word", "_law_least", "_law_most", "_law_sign"]) (sc := defScope s_law_plain) (by decide +kernel)) (fun _ => (fg_name 3 sc_law_plain.nd)) (fun _ => fts_nil) (fun _ => (fe_cmp fop_notinS (fo_val (fe_var (i := 3))) (fo_val fe_str))))) fa_nil))))))) (fss_one (fs_ret fe_bl)) fss_nil) (fss_one (fs_ret (fe_and (fe_cmp (fop_eq hr.units) (fo_val (fe_callTy fc_strI z_str (by decide +kernel) (fa_cons (fo_val (fe_callTy fc_intS z_int (by decide +kernel) (fa_cons (fo_val (fe_var (i := 0))) fa_nil))) fa_nil))) (fo_val (fe_var (i := 0)))) (fe_one (fe_chain fop_le fop_le (fo_val (fe_var (i := 1))) (fo_val (fe_callTy fc_intS z_int (by decide +kernel) (fa_cons (fo_val (fe_var (i := 0))) fa_nil))) (fo_val (fe_var (i := 2)))))))))
theorem sc_law_sum_fits : FnScope ["_law_words", "_law_length", "_law_last", "_law_word", "_law_halves", "_law_number_here"] ["_law_words", "_law_length"] (defScope s_law_sum_fits) := ⟨rfl, rfl, rfl, by decide +kernel, rfl, by decide +kernel, by decide +kernel⟩
theorem ok_law_sum_fits {f_law_sum_fits : Addr} {fd_law_sum_fits : FuncData} {f_law_plain : Addr} {fd_law_plain : FuncData} {k : Nat} (D_law_sum_fits : Df K mg "_law_sum_fits" s_law_sum_fits ["_law_words", "_law_length"] f_law_sum_fits fd_law_sum_fits) (D_law_plain : Df K mg "_law_plain" s_law_plain ["_law_word", "_law_least", "_law_most"] f_law_plain fd_law_plain) {r_law_plain : FSpec} (F_law_plain : FnOk P w K mg base (L2.CX P w) k f_law_plain fd_law_plain ["_law_word", "_law_least", "_law_most"] (FnD K 3 [] r_law_plain)) (z_int : mg "int" = none) (z_len : mg "len" = none) {r : FSpec} (hrd : RD_law_sum_fits r r_law_plain) :
    FnOk P w K mg base (L2.CX P w) (k + 1) f_law_sum_fits fd_law_sum_fits ["_law_words", "_law_length"] (FnD K 2 [] r) := by
  refine fl_fn D_law_sum_fits.fn sc_law_sum_fits (by rfl) (fun cdv A outer s H E hr => ?_) hrd
  have tk := takes_of (X := cxOf (L2.CX P w) P w K mg base ["_law_words", "_law_length", "_law_last", "_law_word", "_law_halves", "_law_number_here"] "_law_sum_fits" (defScope s_law_sum_fits) f_law_sum_fits cdv A outer s H E) rfl rfl rfl rfl
  exact (fss_cons (fs_if (ft_cmp (fop_eq hr.units) (fo_val (fe_var (i := 0))) (fo_val (fe_lst (fa_cons (fo_val fe_str) fa_nil)))) (fss_one (fs_ret fe_bl)) fss_nil) (fss_cons (fs_setF 2 fe_negC sc_law_sum_fits.nd) (fss_cons (fs_for [3] PassesOwn.leaving (fi_row (fe_var (i := 0))) (fg_name 3 sc_law_sum_fits.nd) (fss_cons (fs_setF 4 (fe_split (fe_var (i := 3)) fe_str) sc_law_sum_fits.nd) (fss_cons (fs_if (FW.ft (fw_or (ft_cmp (fop_ne hr.units) (fo_val (fe_callB fc_len z_len (by decide +kernel) (fa_cons (fo_val (fe_var (i := 4))) fa_nil))) (fo_val fe_int)) (fw_or1 (ft_not (ft_val (fe_call tk F_law_plain hr D_law_plain.mg D_law_plain.fn.kp D_law_plain.b (fa_cons (fo_val (fe_ix (hu_of hr) (fo_val (fe_var (i := 4))) (fo_val fe_int))) (fa_cons (fo_val (fe_addC (fo_val (fe_var (i := 2))))) (fa_cons (fo_val (fe_subC (fo_val (fe_var (i := 1))))) fa_nil))))))))) (fss_one (fs_ret fe_bl)) fss_nil) (fss_cons (fs_setF 5 (fe_ifE (ft_cmp (fop_eq hr.units) (fo_val (fe_sl (fo_val (fe_ix (hu_of hr) (fo_val (fe_var (i := 4))) (fo_val fe_int))) fp_none (fp_some fe_int))) (fo_val fe_str)) (fe_sl (fo_val (fe_ix (hu_of hr) (fo_val (fe_var (i := 4))) (fo_val fe_int))) (fp_some fe_int) fp_none) (fe_ix (hu_of hr) (fo_val (fe_var (i := 4))) (fo_val fe_int))) sc_law_sum_fits.nd) (fss_cons (fs_if (ft_not (ft_val (fe_call tk F_law_plain hr D_law_plain.mg D_law_plain.fn.kp D_law_plain.b (fa_cons (fo_val (fe_var (i := 5))) (fa_cons (fo_val fe_int) (fa_cons (fo_val fe_int) fa_nil)))))) (fss_one (fs_ret fe_bl)) fss_nil) (fss_one (fs_setF 2 (fe_callTy fc_intS z_int (by decide +kernel) (fa_cons (fo_val (fe_ix (hu_of hr) (fo_val (fe_var (i := 4))) (fo_val fe_int))) fa_nil)) sc_law_sum_fits.nd))))))) (fss_one (fs_ret (fe_cmp (fop_ne hr.units) (fo_val (fe_var (i := 0))) (fo_val (fe_lst fa_nil))))))))
theorem sc_law_product_fits : FnScope ["_law_row", "_law_lengths_here", "_law_words", "_law_parts", "_law_star", "_law_arrow", "_law_part_here", "_law_length"] ["_law_row", "_law_lengths_here"] (defScope s_law_product_fits) := ⟨rfl, rfl, rfl, by decide +kernel, rfl, by decide +kernel, by decide +kernel⟩
theorem ok_law_product_fits {f_law_product_fits : Addr} {fd_law_product_fits : FuncData} {f_law_sum_fits : Addr} {fd_law_sum_fits : FuncData} {k : Nat} (D_law_product_fits : Df K mg "_law_product_fits" s_law_product_fits ["_law_row", "_law_lengths_here"] f_law_product_fits fd_law_product_fits) (D_law_sum_fits : Df K mg "_law_sum_fits" s_law_sum_fits ["_law_words", "_law_length"] f_law_sum_fits fd_law_sum_fits) {r_law_sum_fits : FSpec} (F_law_sum_fits : FnOk P w K mg base (L2.CX P w) k f_law_sum_fits fd_law_sum_fits ["_law_words", "_law_length"] (FnD K 2 [] r_law_sum_fits)) (z_all : mg "all" = none) (z_zip : mg "zip" = none) {r : FSpec} (hrd : RD_law_product_fits r r_law_sum_fits) :
    FnOk P w K mg base (L2.CX P w) (k + 1) f_law_product_fits fd_law_product_fits ["_law_row", "_law_lengths_here"] (FnD K 2 [] r) := by
  refine fl_fn D_law_product_fits.fn sc_law_product_fits (by rfl) (fun cdv A outer s H E hr => ?_) hrd
  have tk := takes_of (X := cxOf (L2.CX P w) P w K mg base ["_law_row", "_law_lengths_here", "_law_words", "_law_parts", "_law_star", "_law_arrow", "_law_part_here", "_law_length"] "_law_product_fits" (defScope s_law_product_fits) f_law_product_fits cdv A outer s H E) rfl rfl rfl rfl
  exact (fss_cons (fs_setF 2 (fe_split (fe_var (i := 0)) fe_str) sc_law_product_fits.nd) (fss_cons (fs_if (FW.ft (fw_or (ft_cmp (fop_ne hr.units) (fo_val (fe_cntS (fe_var (i := 2)) fe_str)) (fo_val fe_int)) (fw_or (ft_cmp (fop_ne hr.units) (fo_val (fe_cntS (fe_var (i := 2)) fe_str)) (fo_val fe_int)) (fw_or1 (ft_cmp fop_gt (fo_val (fe_idxS (fe_var (i := 2)) fe_str)) (fo_val (fe_idxS (fe_var (i := 2)) fe_str))))))) (fss_one (fs_ret fe_bl)) fss_nil) (fss_cons (fs_par2 4 5 [false, false] (fa_cons (fo_val (fe_idxS (fe_var (i := 2)) fe_str)) (fa_cons (fo_val (fe_idxS (fe_var (i := 2)) fe_str)) fa_nil)) sc_law_product_fits.nd) (fss_cons (fs_setF 3 (fe_lst (fa_cons (fo_val (fe_sl (fo_val (fe_var (i := 2))) fp_none (fp_some (fe_var (i := 4))))) (fa_cons (fo_val (fe_sl (fo_val (fe_var (i := 2))) (fp_some (fe_addC (fo_val (fe_var (i := 4))))) (fp_some (fe_var (i := 5))))) (fa_cons (fo_val (fe_sl (fo_val (fe_var (i := 2))) (fp_some (fe_addC (fo_val (fe_var (i := 5))))) fp_none)) fa_nil)))) sc_law_product_fits.nd) (fss_one (fs_ret (fe_callB fc_all z_all (by decide +kernel) (fa_cons (fo_val (fe_lc [7, 6] (own := [("_law_length", 7), ("_law_part_here", 6)]) sc_law_product_fits.nd (fi_zip (fa_cons (fo_val (fe_var (i := 3))) (fa_cons (fo_val (fe_var (i := 1))) fa_nil)) z_zip) (blkOk_by (own := [("_law_length", 7), ("_law_part_here", 6)]) (N := ["_law_row", "_law_lengths_here", "_law_words", "_law_parts", "_law_star", "_law_arrow", "_law_part_here", "_law_length"]) (sc := defScope s_law_product_fits) (by decide +kernel)) (fun _ => (fg_tup (fgs_cons (fg_name 6 sc_law_product_fits.nd) (fgs_cons (fg_name 7 sc_law_product_fits.nd) fgs_nil)))) (fun _ => fts_nil) (fun _ => (fe_call takes0 F_law_sum_fits hr D_law_sum_fits.mg D_law_sum_fits.fn.kp D_law_sum_fits.b (fa_cons (fo_val (fe_var (i := 6))) (fa_cons (fo_val (fe_var (i := 7))) fa_nil)))))) fa_nil))))))))
theorem sc_law_first_bad : FnScope ["_law_text_here", "_law_rows", "_law_words", "_law_lengths_here", "_law_number_here", "_law_row", "_law_word"] ["_law_text_here"] (defScope s_law_first_bad) := ⟨rfl, rfl, rfl, by decide +kernel, rfl, by decide +kernel, by decide +kernel⟩
theorem ok_law_first_bad {f_law_first_bad : Addr} {fd_law_first_bad : FuncData} {f_law_product_fits : Addr} {fd_law_product_fits : FuncData} {f_law_plain : Addr} {fd_law_plain : FuncData} {k : Nat} (D_law_first_bad : Df K mg "_law_first_bad" s_law_first_bad ["_law_text_here"] f_law_first_bad fd_law_first_bad) (D_law_product_fits : Df K mg "_law_product_fits" s_law_product_fits ["_law_row", "_law_lengths_here"] f_law_product_fits fd_law_product_fits) (D_law_plain : Df K mg "_law_plain" s_law_plain ["_law_word", "_law_least", "_law_most"] f_law_plain fd_law_plain) {r_law_product_fits : FSpec} (F_law_product_fits : FnOk P w K mg base (L2.CX P w) k f_law_product_fits fd_law_product_fits ["_law_row", "_law_lengths_here"] (FnD K 2 [] r_law_product_fits)) {r_law_plain : FSpec} (F_law_plain : FnOk P w K mg base (L2.CX P w) k f_law_plain fd_law_plain ["_law_word", "_law_least", "_law_most"] (FnD K 3 [] r_law_plain)) (z_all : mg "all" = none) (z_enumerate : mg "enumerate" = none) (z_int : mg "int" = none) (z_len : mg "len" = none) {r : FSpec} (hrd : RD_law_first_bad r r_law_product_fits r_law_plain) :
    FnOk P w K mg base (L2.CX P w) (k + 1) f_law_first_bad fd_law_first_bad ["_law_text_here"] (FnD K 1 [] r) := by
  refine fl_fn D_law_first_bad.fn sc_law_first_bad (by rfl) (fun cdv A outer s H E hr => ?_) hrd
  have tk := takes_of (X := cxOf (L2.CX P w) P w K mg base ["_law_text_here", "_law_rows", "_law_words", "_law_lengths_here", "_law_number_here", "_law_row", "_law_word"] "_law_first_bad" (defScope s_law_first_bad) f_law_first_bad cdv A outer s H E) rfl rfl rfl rfl
  exact (fss_cons (fs_setF 1 (fe_split (fe_var (i := 0)) fe_str) sc_law_first_bad.nd) (fss_cons (fs_setF 2 (fe_split (fe_ix (hu_of hr) (fo_val (fe_var (i := 1))) (fo_val fe_int)) fe_str) sc_law_first_bad.nd) (fss_cons (fs_if (FW.ft (fw_or (ft_cmp (fop_ne hr.units) (fo_val (fe_callB fc_len z_len (by decide +kernel) (fa_cons (fo_val (fe_var (i := 2))) fa_nil))) (fo_val fe_int)) (fw_or (ft_cmp (fop_ne hr.units) (fo_val (fe_ix (hu_of hr) (fo_val (fe_var (i := 2))) (fo_val fe_int))) (fo_val fe_str)) (fw_or1 (ft_not (ft_val (fe_callB fc_all z_all (by decide +kernel) (fa_cons (fo_val (fe_lc [6] (own := [("_law_word", 6)]) sc_law_first_bad.nd (fi_row (fe_sl (fo_val (fe_var (i := 2))) (fp_some fe_int) fp_none)) (blkOk_by (own := [("_law_word", 6)]) (N := ["_law_text_here", "_law_rows", "_law_words", "_law_lengths_here", "_law_number_here", "_law_row", "_law_word"]) (sc := defScope s_law_first_bad) (by decide +kernel)) (fun _ => (fg_name 6 sc_law_first_bad.nd)) (fun _ => fts_nil) (fun _ => (fe_call takes0 F_law_plain hr D_law_plain.mg D_law_plain.fn.kp D_law_plain.b (fa_cons (fo_val (fe_var (i := 6))) (fa_cons (fo_val fe_int) (fa_cons (fo_val fe_int) fa_nil))))))) fa_nil)))))))) (fss_one (fs_ret fe_int)) fss_nil) (fss_cons (fs_setLcF 3 [6] (own := [("_law_word", 6)]) sc_law_first_bad.nd (fi_row (fe_sl (fo_val (fe_var (i := 2))) (fp_some fe_int) fp_none)) (blkOk_by (own := [("_law_word", 6)]) (N := ["_law_text_here", "_law_rows", "_law_words", "_law_lengths_here", "_law_number_here", "_law_row", "_law_word"]) (sc := defScope s_law_first_bad) (by decide +kernel)) (fun _ => (fg_name 6 sc_law_first_bad.nd)) (fun _ => fts_nil) (fun _ => (fe_callTy fc_intS z_int (by decide +kernel) (fa_cons (fo_val (fe_var (i := 6))) fa_nil)))) (fss_cons (fs_for [5, 4] PassesOwn.leaving (fi_enum (fa_cons (fo_val (fe_sl (fo_val (fe_var (i := 1))) (fp_some fe_int) fp_none)) fa_nil) z_enumerate) (fg_tup (fgs_cons (fg_name 4 sc_law_first_bad.nd) (fgs_cons (fg_name 5 sc_law_first_bad.nd) fgs_nil))) (fss_one (fs_if (FW.ft (fw_or (ft_cmp fop_gt (fo_val (fe_var (i := 4))) (fo_val fe_int)) (fw_or1 (ft_not (ft_val (fe_call tk F_law_product_fits hr D_law_product_fits.mg D_law_product_fits.fn.kp D_law_product_fits.b (fa_cons (fo_val (fe_var (i := 5))) (fa_cons (fo_val (fe_var (i := 3))) fa_nil)))))))) (fss_one (fs_ret (fe_addC (fo_val (fe_var (i := 4)))))) fss_nil))) (fss_one (fs_ret fe_non)))))))
theorem sc_law_refused : FnScope ["_law_text_here", "_law_error", "e"] ["_law_text_here"] (defScope s_law_refused) := ⟨rfl, rfl, rfl, by decide +kernel, rfl, by decide +kernel, by decide +kernel⟩
def rb_law_refused (r_scheme_from : FSpec) (cv_TimesError : Addr) (cv_BadRow : Addr) : RS := (rSeq (rSetF 1 (rC .non))
  (rRefused 2 1 cv_BadRow "row" (rDrop (rCall [] r_scheme_from (rAC (oV (rVar 0)) rA0)))))
abbrev RD_law_refused (r : FSpec) (r_scheme_from : FSpec) (cv_TimesError : Addr) (cv_BadRow : Addr) : Prop := ∀ ds ED QD, ds.length = 1 → r ds ED QD → (rb_law_refused r_scheme_from cv_TimesError cv_BadRow) (startD ["_law_text_here", "_law_error", "e"] ds) (fun c fs ρ => ED c fs (ρ.take 1)) (finD 1 QD)
theorem ok_law_refused {f_law_refused : Addr} {fd_law_refused : FuncData} {f_scheme_from : Addr} {fd_scheme_from : FuncData} {cv_TimesError : Addr} {cv_BadRow : Addr} {k : Nat} (D_law_refused : Df K mg "_law_refused" s_law_refused ["_law_text_here"] f_law_refused fd_law_refused) (D_scheme_from : Df K mg "scheme_from" s_scheme_from ["text"] f_scheme_from fd_scheme_from) {r_scheme_from : FSpec} (F_scheme_from : FnOk P w K mg base (L2.CX P w) k f_scheme_from fd_scheme_from ["text"] (FnD K 1 [] r_scheme_from)) (z_isinstance : mg "isinstance" = none) (xk_BadRow : EK K cv_BadRow "row") (gc_BadRow : mg "BadRow" = some (.ref cv_BadRow)) (gc_TimesError : mg "TimesError" = some (.ref cv_TimesError)) (xm_BadRow_TimesError : PySem.W.exmOne K (.ref cv_BadRow) (.ref cv_TimesError) = some true) (ki_BadRow_BadRow : PySem.W.kitOne K (.ref cv_BadRow) (.ref cv_BadRow) = some true) {r : FSpec} (hrd : RD_law_refused r r_scheme_from cv_TimesError cv_BadRow) :
    FnOk P w K mg base (L2.CX P w) (k + 1) f_law_refused fd_law_refused ["_law_text_here"] (FnD K 1 [] r) := by
  refine fl_fn D_law_refused.fn sc_law_refused (by rfl) (fun cdv A outer s H E hr => ?_) hrd
  have tk := takes_of (X := cxOf (L2.CX P w) P w K mg base ["_law_text_here", "_law_error", "e"] "_law_refused" (defScope s_law_refused) f_law_refused cdv A outer s H E) rfl rfl rfl rfl
  exact (fss_cons (fs_setF 1 fe_non sc_law_refused.nd) (fss_refused3 (i := 2) (j := 1) tk xk_BadRow gc_TimesError xm_BadRow_TimesError sc_law_refused.nd (fun W' pn xe tk' po => (fss_one (fs_expr (fe_call tk' F_scheme_from hr D_scheme_from.mg D_scheme_from.fn.kp D_scheme_from.b (fa_cons (fo_val (fe_var (i := 0))) fa_nil))))) (fun a pn => pss_one (ps_set sc_law_refused.nd rfl (.inl rfl) (pe_var rfl (.inl rfl)) rfl (.inr rfl))) (fs_if (ft_cmp fop_isN0 (fo_val (fe_var (i := 1))) (fo_val fe_non)) (fss_one (fs_ret fe_non)) fss_nil) (kt_of0 (kt0_is (b := true) xk_BadRow.ex (pe_glob (v := V.ref cv_BadRow) (by rfl) gc_BadRow rfl) (fun u r => r) ki_BadRow_BadRow z_isinstance)) pe_str))
theorem sc_law_same_number : FnScope ["_law_found", "_law_due"] ["_law_found", "_law_due"] (defScope s_law_same_number) := ⟨rfl, rfl, rfl, by decide +kernel, rfl, by decide +kernel, by decide +kernel⟩
theorem ok_law_same_number {f_law_same_number : Addr} {fd_law_same_number : FuncData} {k : Nat} (D_law_same_number : Df K mg "_law_same_number" s_law_same_number ["_law_found", "_law_due"] f_law_same_number fd_law_same_number) (z_bool : mg "bool" = none) (z_int : mg "int" = none) (z_isinstance : mg "isinstance" = none) {r : FSpec} (hrd : RD_law_same_number r) :
    FnOk P w K mg base (L2.CX P w) (k + 1) f_law_same_number fd_law_same_number ["_law_found", "_law_due"] (FnD K 2 [] r) := by
  refine fl_fn D_law_same_number.fn sc_law_same_number (by rfl) (fun cdv A outer s H E hr => ?_) hrd
  have tk := takes_of (X := cxOf (L2.CX P w) P w K mg base ["_law_found", "_law_due"] "_law_same_number" (defScope s_law_same_number) f_law_same_number cdv A outer s H E) rfl rfl rfl rfl
  exact (fss_cons (fs_if (FW.ft (fw_or (ft_cmp fop_isN0 (fo_val (fe_var (i := 1))) (fo_val fe_non)) (fw_or1 (ft_cmp fop_isN0 (fo_val (fe_var (i := 0))) (fo_val fe_non))))) (fss_one (fs_ret (fe_and (fe_isN (fo_val (fe_var (i := 0)))) (fe_one (fe_isN (fo_val (fe_var (i := 1)))))))) fss_nil) (fss_one (fs_ret (fe_and (fe_callB fc_isi z_isinstance (by decide +kernel) (fa_cons (fo_val (fe_var (i := 0))) (fa_cons (fo_val (fe_ty (n := "int") z_int (by decide +kernel))) fa_nil))) (fe_and (fe_not (fe_callB fc_isi z_isinstance (by decide +kernel) (fa_cons (fo_val (fe_var (i := 0))) (fa_cons (fo_val (fe_ty (n := "bool") z_bool (by decide +kernel))) fa_nil)))) (fe_one (fe_cmp (fop_eq hr.units) (fo_val (fe_var (i := 0))) (fo_val (fe_var (i := 1))))))))))
theorem sc_law_bent_word : FnScope ["_law_box_here", "_law_word", "_law_some"] ["_law_box_here", "_law_word"] (defScope s_law_bent_word) := ⟨rfl, rfl, rfl, by decide +kernel, rfl, by decide +kernel, by decide +kernel⟩
def rb_law_bent_word (r_law_take : FSpec) : RS := (rSeq (rSetF 2 (rLst (rAC (oV (rBin dAdd (oV (rVar 1)) (oV (rC (.str "0"))))) (rAC (oV (rBin dAdd (oV (rC (.str "0"))) (oV (rVar 1)))) (rAC (oV (rBin dAdd (oV (rC (.str "-"))) (oV (rVar 1)))) (rAC (oV (rBin dAdd (oV (rVar 1)) (oV (rC (.str ":"))))) (rAC (oV (rBin dAdd (oV (rC (.str ":"))) (oV (rVar 1)))) (rAC (oV (rSl (oV (rVar 1)) rP0 (rP1 (rC (.int (-1)))))) (rAC (oV (rC (.str ""))) (rAC (oV (rBin dAdd (oV (rC (.str "+"))) (oV (rVar 1)))) (rAC (oV (rBin dAdd (oV (rBin dAdd (oV (rVar 1)) (oV (rC (.str " "))))) (oV (rVar 1)))) rA0)))))))))))
  (rSeq (rSetF 2 (rBin dAdd (oV (rVar 2)) (oV (rLst (rAC (oV (rC (.str "1:0"))) (rAC (oV (rC (.str "0:0"))) (rAC (oV (rC (.str "-0:1"))) (rAC (oV (rC (.str "1:9"))) (rAC (oV (rC (.str "2:01"))) (rAC (oV (rC (.str "-"))) (rAC (oV (rC (.str "*"))) (rAC (oV (rC (.str ">"))) (rAC (oV (rC (.str "x"))) (rAC (oV (rC (.str "1.0:0"))) (rAC (oV (rC (.str "1:-1"))) (rAC (oV (rBin dAdd (oV (rC (.str " "))) (oV (rVar 1)))) (rAC (oV (rBin dAdd (oV (rVar 1)) (oV (rC (.str "1:1"))))) rA0)))))))))))))))))
  (rRet (rBin dIx (oV (rVar 2)) (oV (rCall [0] r_law_take (rAC (oN 0) (rAC (oV (rCB dLen (rAC (oV (rVar 2)) rA0))) rA0))))))))
abbrev RD_law_bent_word (r : FSpec) (r_law_take : FSpec) : Prop := ∀ ds ED QD, ds.length = 2 → r ds ED QD → (rb_law_bent_word r_law_take) (startD ["_law_box_here", "_law_word", "_law_some"] ds) (fun c fs ρ => ED c fs (ρ.take 2)) (finD 2 QD)
theorem ok_law_bent_word {f_law_bent_word : Addr} {fd_law_bent_word : FuncData} {f_law_take : Addr} {fd_law_take : FuncData} {k : Nat} (D_law_bent_word : Df K mg "_law_bent_word" s_law_bent_word ["_law_box_here", "_law_word"] f_law_bent_word fd_law_bent_word) (D_law_take : Df K mg "_law_take" s_law_take ["_law_box_here", "_law_many"] f_law_take fd_law_take) {r_law_take : FSpec} (F_law_take : FnOk P w K mg base (L2.CX P w) k f_law_take fd_law_take ["_law_box_here", "_law_many"] (FnD K 2 [0] r_law_take)) (z_len : mg "len" = none) {r : FSpec} (hrd : RD_law_bent_word r r_law_take) :
    FnOk P w K mg base (L2.CX P w) (k + 1) f_law_bent_word fd_law_bent_word ["_law_box_here", "_law_word"] (FnD K 2 [0] r) := by
  refine fl_fn D_law_bent_word.fn sc_law_bent_word (by rfl) (fun cdv A outer s H E hr => ?_) hrd
  have tk := takes_of (X := cxOf (L2.CX P w) P w K mg base ["_law_box_here", "_law_word", "_law_some"] "_law_bent_word" (defScope s_law_bent_word) f_law_bent_word cdv A outer s H E) rfl rfl rfl rfl
  exact (fss_cons (fs_setF 2 (fe_lst (fa_cons (fo_val (fe_op fop_add (fo_val (fe_var (i := 1))) (fo_val fe_str))) (fa_cons (fo_val (fe_op fop_add (fo_val fe_str) (fo_val (fe_var (i := 1))))) (fa_cons (fo_val (fe_op fop_add (fo_val fe_str) (fo_val (fe_var (i := 1))))) (fa_cons (fo_val (fe_op fop_add (fo_val (fe_var (i := 1))) (fo_val fe_str))) (fa_cons (fo_val (fe_op fop_add (fo_val fe_str) (fo_val (fe_var (i := 1))))) (fa_cons (fo_val (fe_sl (fo_val (fe_var (i := 1))) fp_none (fp_some fe_negC))) (fa_cons (fo_val fe_str) (fa_cons (fo_val (fe_op fop_add (fo_val fe_str) (fo_val (fe_var (i := 1))))) (fa_cons (fo_val (fe_op fop_add (fo_val (fe_op fop_add (fo_val (fe_var (i := 1))) (fo_val fe_str))) (fo_val (fe_var (i := 1))))) fa_nil)))))))))) sc_law_bent_word.nd) (fss_cons (fs_setF 2 (fe_op fop_add (fo_val (fe_var (i := 2))) (fo_val (fe_lst (fa_cons (fo_val fe_str) (fa_cons (fo_val fe_str) (fa_cons (fo_val fe_str) (fa_cons (fo_val fe_str) (fa_cons (fo_val fe_str) (fa_cons (fo_val fe_str) (fa_cons (fo_val fe_str) (fa_cons (fo_val fe_str) (fa_cons (fo_val fe_str) (fa_cons (fo_val fe_str) (fa_cons (fo_val fe_str) (fa_cons (fo_val (fe_op fop_add (fo_val fe_str) (fo_val (fe_var (i := 1))))) (fa_cons (fo_val (fe_op fop_add (fo_val (fe_var (i := 1))) (fo_val fe_str))) fa_nil)))))))))))))))) sc_law_bent_word.nd) (fss_one (fs_ret (fe_ix (hu_of hr) (fo_val (fe_var (i := 2))) (fo_val (fe_call tk F_law_take hr D_law_take.mg D_law_take.fn.kp D_law_take.b (fa_cons (fo_brw (i := 0)) (fa_cons (fo_val (fe_callB fc_len z_len (by decide +kernel) (fa_cons (fo_val (fe_var (i := 2))) fa_nil))) fa_nil)))))))))
theorem sc_law_bent : FnScope ["_law_box_here", "_law_rows", "_law_at", "_law_words", "_law_spot", "_law_way"] ["_law_box_here", "_law_rows"] (defScope s_law_bent) := ⟨rfl, rfl, rfl, by decide +kernel, rfl, by decide +kernel, by decide +kernel⟩
def rb_law_bent (r_law_take : FSpec) (r_law_bent_word : FSpec) : RS := (rSeq (rSetF 2 (rCall [0] r_law_take (rAC (oN 0) (rAC (oV (rCB dLen (rAC (oV (rVar 1)) rA0))) rA0))))
  (rSeq (rSetF 3 (rSplit (rBin dIx (oV (rVar 1)) (oV (rVar 2))) (rC (.str " "))))
  (rSeq (rSetF 4 (rCall [0] r_law_take (rAC (oN 0) (rAC (oV (rCB dLen (rAC (oV (rVar 3)) rA0))) rA0))))
  (rSeq (rSetF 5 (rCall [0] r_law_take (rAC (oN 0) (rAC (oV (rC (.int 10))) rA0))))
  (rSeq (rCut (rIf (rTst (rBin dLt (oV (rVar 5)) (oV (rC (.int 5))))) (rSetF 3 (rBin dAdd (oV (rBin dAdd (oV (rSl (oV (rVar 3)) rP0 (rP1 (rVar 4)))) (oV (rLst (rAC (oV (rCall [0] r_law_bent_word (rAC (oN 0) (rAC (oV (rBin dIx (oV (rVar 3)) (oV (rVar 4)))) rA0)))) rA0))))) (oV (rSl (oV (rVar 3)) (rP1 (rIc (fun i => i + 1) (oV (rVar 4)))) rP0)))) rNx))
  (rSeq (rCut (rIf (rTst (rBin dEq (oV (rVar 5)) (oV (rC (.int 5))))) (rSetF 3 (rBin dAdd (oV (rSl (oV (rVar 3)) rP0 (rP1 (rVar 4)))) (oV (rSl (oV (rVar 3)) (rP1 (rIc (fun i => i + 1) (oV (rVar 4)))) rP0)))) rNx))
  (rSeq (rCut (rIf (rTst (rBin dEq (oV (rVar 5)) (oV (rC (.int 6))))) (rSetF 3 (rBin dAdd (oV (rSl (oV (rVar 3)) rP0 (rP1 (rIc (fun i => i + 1) (oV (rVar 4)))))) (oV (rSl (oV (rVar 3)) (rP1 (rVar 4)) rP0)))) rNx))
  (rSeq (rCut (rIf (rTst (rBin dEq (oV (rVar 5)) (oV (rC (.int 7))))) (rSetF 3 (rBin dAdd (oV (rSl (oV (rVar 3)) rP0 (rP1 (rVar 4)))) (oV (rSlSt (oV (rSl (oV (rVar 3)) (rP1 (rVar 4)) rP0)) rP0 rP0 (rP1 (rC (.int (-1)))))))) rNx))
  (rSeq (rIf (rTst (rBin dLt (oV (rVar 5)) (oV (rC (.int 8))))) (rRet (rBin dAdd (oV (rBin dAdd (oV (rSl (oV (rVar 1)) rP0 (rP1 (rVar 2)))) (oV (rLst (rAC (oV (rJoin (rC (.str " ")) (rVar 3))) rA0))))) (oV (rSl (oV (rVar 1)) (rP1 (rIc (fun i => i + 1) (oV (rVar 2)))) rP0)))) rNx)
  (rRet (rBin dIx (oV (rFrz (rLst (rAC (oV (rBin dAdd (oV (rSl (oV (rVar 1)) rP0 (rP1 (rVar 2)))) (oV (rSl (oV (rVar 1)) (rP1 (rIc (fun i => i + 1) (oV (rVar 2)))) rP0)))) (rAC (oV (rBin dAdd (oV (rBin dAdd (oV (rSl (oV (rVar 1)) rP0 (rP1 (rVar 2)))) (oV (rLst (rAC (oV (rBin dIx (oV (rLst (rAC (oV (rC (.str ""))) (rAC (oV (rC (.str "-"))) (rAC (oV (rC (.str "- * - > -"))) (rAC (oV (rBin dIx (oV (rVar 1)) (oV (rVar 2)))) rA0)))))) (oV (rIc (fun i => i % 4) (oV (rVar 4)))))) rA0))))) (oV (rSl (oV (rVar 1)) (rP1 (rVar 2)) rP0)))) rA0))))) (oV (rIc (fun i => i - 8) (oV (rVar 5)))))))))))))))
abbrev RD_law_bent (r : FSpec) (r_law_take : FSpec) (r_law_bent_word : FSpec) : Prop := ∀ ds ED QD, ds.length = 2 → r ds ED QD → (rb_law_bent r_law_take r_law_bent_word) (startD ["_law_box_here", "_law_rows", "_law_at", "_law_words", "_law_spot", "_law_way"] ds) (fun c fs ρ => ED c fs (ρ.take 2)) (finD 2 QD)
theorem ok_law_bent {f_law_bent : Addr} {fd_law_bent : FuncData} {f_law_take : Addr} {fd_law_take : FuncData} {f_law_bent_word : Addr} {fd_law_bent_word : FuncData} {k : Nat} (D_law_bent : Df K mg "_law_bent" s_law_bent ["_law_box_here", "_law_rows"] f_law_bent fd_law_bent) (D_law_take : Df K mg "_law_take" s_law_take ["_law_box_here", "_law_many"] f_law_take fd_law_take) (D_law_bent_word : Df K mg "_law_bent_word" s_law_bent_word ["_law_box_here", "_law_word"] f_law_bent_word fd_law_bent_word) {r_law_take : FSpec} (F_law_take : FnOk P w K mg base (L2.CX P w) k f_law_take fd_law_take ["_law_box_here", "_law_many"] (FnD K 2 [0] r_law_take)) {r_law_bent_word : FSpec} (F_law_bent_word : FnOk P w K mg base (L2.CX P w) k f_law_bent_word fd_law_bent_word ["_law_box_here", "_law_word"] (FnD K 2 [0] r_law_bent_word)) (z_len : mg "len" = none) {r : FSpec} (hrd : RD_law_bent r r_law_take r_law_bent_word) :
    FnOk P w K mg base (L2.CX P w) (k + 1) f_law_bent fd_law_bent ["_law_box_here", "_law_rows"] (FnD K 2 [0] r) := by
  refine fl_fn D_law_bent.fn sc_law_bent (by rfl) (fun cdv A outer s H E hr => ?_) hrd
  have tk := takes_of (X := cxOf (L2.CX P w) P w K mg base ["_law_box_here", "_law_rows", "_law_at", "_law_words", "_law_spot", "_law_way"] "_law_bent" (defScope s_law_bent) f_law_bent cdv A outer s H E) rfl rfl rfl rfl
  exact (fss_cons (fs_setF 2 (fe_call tk F_law_take hr D_law_take.mg D_law_take.fn.kp D_law_take.b (fa_cons (fo_brw (i := 0)) (fa_cons (fo_val (fe_callB fc_len z_len (by decide +kernel) (fa_cons (fo_val (fe_var (i := 1))) fa_nil))) fa_nil))) sc_law_bent.nd) (fss_cons (fs_setF 3 (fe_split (fe_ix (hu_of hr) (fo_val (fe_var (i := 1))) (fo_val (fe_var (i := 2)))) fe_str) sc_law_bent.nd) (fss_cons (fs_setF 4 (fe_call tk F_law_take hr D_law_take.mg D_law_take.fn.kp D_law_take.b (fa_cons (fo_brw (i := 0)) (fa_cons (fo_val (fe_callB fc_len z_len (by decide +kernel) (fa_cons (fo_val (fe_var (i := 3))) fa_nil))) fa_nil))) sc_law_bent.nd) (fss_cons (fs_setF 5 (fe_call tk F_law_take hr D_law_take.mg D_law_take.fn.kp D_law_take.b (fa_cons (fo_brw (i := 0)) (fa_cons (fo_val fe_int) fa_nil))) sc_law_bent.nd) (fss_cons (fs_cut (fs_if (ft_cmp fop_lt (fo_val (fe_var (i := 5))) (fo_val fe_int)) (fss_one (fs_setF 3 (fe_op fop_add (fo_val (fe_op fop_add (fo_val (fe_sl (fo_val (fe_var (i := 3))) fp_none (fp_some (fe_var (i := 4))))) (fo_val (fe_lst (fa_cons (fo_val (fe_call tk F_law_bent_word hr D_law_bent_word.mg D_law_bent_word.fn.kp D_law_bent_word.b (fa_cons (fo_brw (i := 0)) (fa_cons (fo_val (fe_ix (hu_of hr) (fo_val (fe_var (i := 3))) (fo_val (fe_var (i := 4))))) fa_nil)))) fa_nil))))) (fo_val (fe_sl (fo_val (fe_var (i := 3))) (fp_some (fe_addC (fo_val (fe_var (i := 4))))) fp_none))) sc_law_bent.nd)) fss_nil)) (fss_cons (fs_cut (fs_if (ft_cmp (fop_eq hr.units) (fo_val (fe_var (i := 5))) (fo_val fe_int)) (fss_one (fs_setF 3 (fe_op fop_add (fo_val (fe_sl (fo_val (fe_var (i := 3))) fp_none (fp_some (fe_var (i := 4))))) (fo_val (fe_sl (fo_val (fe_var (i := 3))) (fp_some (fe_addC (fo_val (fe_var (i := 4))))) fp_none))) sc_law_bent.nd)) fss_nil)) (fss_cons (fs_cut (fs_if (ft_cmp (fop_eq hr.units) (fo_val (fe_var (i := 5))) (fo_val fe_int)) (fss_one (fs_setF 3 (fe_op fop_add (fo_val (fe_sl (fo_val (fe_var (i := 3))) fp_none (fp_some (fe_addC (fo_val (fe_var (i := 4))))))) (fo_val (fe_sl (fo_val (fe_var (i := 3))) (fp_some (fe_var (i := 4))) fp_none))) sc_law_bent.nd)) fss_nil)) (fss_cons (fs_cut (fs_if (ft_cmp (fop_eq hr.units) (fo_val (fe_var (i := 5))) (fo_val fe_int)) (fss_one (fs_setF 3 (fe_op fop_add (fo_val (fe_sl (fo_val (fe_var (i := 3))) fp_none (fp_some (fe_var (i := 4))))) (fo_val (fe_slSt (fo_val (fe_sl (fo_val (fe_var (i := 3))) (fp_some (fe_var (i := 4))) fp_none)) fp_none fp_none (fp_some fe_negC)))) sc_law_bent.nd)) fss_nil)) (fss_cons (fs_if (ft_cmp fop_lt (fo_val (fe_var (i := 5))) (fo_val fe_int)) (fss_one (fs_ret (fe_op fop_add (fo_val (fe_op fop_add (fo_val (fe_sl (fo_val (fe_var (i := 1))) fp_none (fp_some (fe_var (i := 2))))) (fo_val (fe_lst (fa_cons (fo_val (fe_join fe_str (fe_var (i := 3)))) fa_nil))))) (fo_val (fe_sl (fo_val (fe_var (i := 1))) (fp_some (fe_addC (fo_val (fe_var (i := 2))))) fp_none))))) fss_nil) (fss_one (fs_ret (fe_ix (hu_of hr) (fo_val (fe_frz (fe_lst (fa_cons (fo_val (fe_op fop_add (fo_val (fe_sl (fo_val (fe_var (i := 1))) fp_none (fp_some (fe_var (i := 2))))) (fo_val (fe_sl (fo_val (fe_var (i := 1))) (fp_some (fe_addC (fo_val (fe_var (i := 2))))) fp_none)))) (fa_cons (fo_val (fe_op fop_add (fo_val (fe_op fop_add (fo_val (fe_sl (fo_val (fe_var (i := 1))) fp_none (fp_some (fe_var (i := 2))))) (fo_val (fe_lst (fa_cons (fo_val (fe_ix (hu_of hr) (fo_val (fe_lst (fa_cons (fo_val fe_str) (fa_cons (fo_val fe_str) (fa_cons (fo_val fe_str) (fa_cons (fo_val (fe_ix (hu_of hr) (fo_val (fe_var (i := 1))) (fo_val (fe_var (i := 2))))) fa_nil)))))) (fo_val (fe_modC (fo_val (fe_var (i := 4))))))) fa_nil))))) (fo_val (fe_sl (fo_val (fe_var (i := 1))) (fp_some (fe_var (i := 2))) fp_none)))) fa_nil))))) (fo_val (fe_subC (fo_val (fe_var (i := 5)))))))))))))))))
theorem sc_law : FnScope ["_law_script", "_law_k", "_law_box_here", "_law_scheme_here", "_law_turn", "_law_rows", "_law_more", "_law_text_here", "_law_due"] ["_law_script"] (defScope s_law) := ⟨rfl, rfl, rfl, by decide +kernel, rfl, by decide +kernel, by decide +kernel⟩
def rb_law_l1 (r_law_box : FSpec) (r_law_scheme : FSpec) (r_law_lengths : FSpec) (r_law_take : FSpec) (r_law_first_bad : FSpec) (r_law_same_number : FSpec) (r_law_text : FSpec) (r_law_bent : FSpec) (r_law_refused : FSpec) (r_scheme_text : FSpec) (r_scheme_from : FSpec) : RS := (rSetF 5 (rOrT (rCall [0] r_law_bent (rAC (oN 2) (rAC (oV (rVar 5)) rA0))) (rLst (rAC (oV (rC (.str ""))) rA0))))
def rb_law_l2 (r_law_box : FSpec) (r_law_scheme : FSpec) (r_law_lengths : FSpec) (r_law_take : FSpec) (r_law_first_bad : FSpec) (r_law_same_number : FSpec) (r_law_text : FSpec) (r_law_bent : FSpec) (r_law_refused : FSpec) (r_scheme_text : FSpec) (r_scheme_from : FSpec) : RS := (rSeq (rSetF 5 (rSplit (rCall [] r_law_text (rAC (oV (rVar 3)) rA0)) (rC (.str "\n"))))
  (rSeq (rFor (rRg1 (rAC (oV (rIc (fun i => 1 + i) (oV (rCall [0] r_law_take (rAC (oN 2) (rAC (oV (rC (.int 2))) rA0)))))) rA0)) (gNm 6) (rb_law_l1 r_law_box r_law_scheme r_law_lengths r_law_take r_law_first_bad r_law_same_number r_law_text r_law_bent r_law_refused r_scheme_text r_scheme_from))
  (rSeq (rSetF 7 (rJoin (rC (.str "\n")) (rVar 5)))
  (rSeq (rSetF 8 (rCall [] r_law_first_bad (rAC (oV (rVar 7)) rA0)))
  (rSeq (rIf (rNot (rTst (rCall [] r_law_same_number (rAC (oV (rCall [] r_law_refused (rAC (oV (rVar 7)) rA0))) (rAC (oV (rVar 8)) rA0))))) (rRet (rC (.bl false))) rNx)
  (rIf (rAnd (rTst (rBin (dIsN0 false) (oV (rVar 8)) (oV (rC .non)))) (rTst (rBin dNe (oV (rCall [] r_scheme_text (rAC (oV (rCall [] r_scheme_from (rAC (oV (rVar 7)) rA0))) rA0))) (oV (rVar 7))))) (rRet (rC (.bl false))) rNx))))))
def rb_law_l3 (r_law_box : FSpec) (r_law_scheme : FSpec) (r_law_lengths : FSpec) (r_law_take : FSpec) (r_law_first_bad : FSpec) (r_law_same_number : FSpec) (r_law_text : FSpec) (r_law_bent : FSpec) (r_law_refused : FSpec) (r_scheme_text : FSpec) (r_scheme_from : FSpec) : RS := (rSeq (rSet 2 (rCall [] r_law_box (rAC (oV (rVar 0)) (rAC (oV (rVar 1)) rA0))))
  (rSeq (rSetF 3 (rCall [0] r_law_scheme (rAC (oN 2) (rAC (oV (rCall [0] r_law_lengths (rAC (oN 2) (rAC (oV (rC (.int 5))) rA0)))) (rAC (oV (rCall [0] r_law_take (rAC (oN 2) (rAC (oV (rC (.int 7))) rA0)))) rA0)))))
  (rFor (rRg1 (rAC (oV (rC (.int 2))) rA0)) (gNm 4) (rb_law_l2 r_law_box r_law_scheme r_law_lengths r_law_take r_law_first_bad r_law_same_number r_law_text r_law_bent r_law_refused r_scheme_text r_scheme_from))))
def rb_law (r_law_box : FSpec) (r_law_scheme : FSpec) (r_law_lengths : FSpec) (r_law_take : FSpec) (r_law_first_bad : FSpec) (r_law_same_number : FSpec) (r_law_text : FSpec) (r_law_bent : FSpec) (r_law_refused : FSpec) (r_scheme_text : FSpec) (r_scheme_from : FSpec) : RS := (rSeq (rFor (rRg1 (rAC (oV (rCB dMax2 (rAC (oV (rC (.int 8))) (rAC (oV (rCB dMin2 (rAC (oV (rCB dLen (rAC (oV (rVar 0)) rA0))) (rAC (oV (rC (.int 40))) rA0)))) rA0)))) rA0)) (gNm 1) (rb_law_l3 r_law_box r_law_scheme r_law_lengths r_law_take r_law_first_bad r_law_same_number r_law_text r_law_bent r_law_refused r_scheme_text r_scheme_from))
  (rRet (rC (.bl true))))
abbrev RD_law (r : FSpec) (r_law_box : FSpec) (r_law_scheme : FSpec) (r_law_lengths : FSpec) (r_law_take : FSpec) (r_law_first_bad : FSpec) (r_law_same_number : FSpec) (r_law_text : FSpec) (r_law_bent : FSpec) (r_law_refused : FSpec) (r_scheme_text : FSpec) (r_scheme_from : FSpec) : Prop := ∀ ds ED QD, ds.length = 1 → r ds ED QD → (rb_law r_law_box r_law_scheme r_law_lengths r_law_take r_law_first_bad r_law_same_number r_law_text r_law_bent r_law_refused r_scheme_text r_scheme_from) (startD ["_law_script", "_law_k", "_law_box_here", "_law_scheme_here", "_law_turn", "_law_rows", "_law_more", "_law_text_here", "_law_due"] ds) (fun c fs ρ => ED c fs (ρ.take 1)) (finD 1 QD)
theorem ok_law {f_law : Addr} {fd_law : FuncData} {f_law_box : Addr} {fd_law_box : FuncData} {f_law_scheme : Addr} {fd_law_scheme : FuncData} {f_law_lengths : Addr} {fd_law_lengths : FuncData} {f_law_take : Addr} {fd_law_take : FuncData} {f_law_first_bad : Addr} {fd_law_first_bad : FuncData} {f_law_same_number : Addr} {fd_law_same_number : FuncData} {f_law_text : Addr} {fd_law_text : FuncData} {f_law_bent : Addr} {fd_law_bent : FuncData} {f_law_refused : Addr} {fd_law_refused : FuncData} {f_scheme_text : Addr} {fd_scheme_text : FuncData} {f_scheme_from : Addr} {fd_scheme_from : FuncData} {k : Nat} (D_law : Df K mg "law" s_law ["_law_script"] f_law fd_law) (D_law_box : Df K mg "_law_box" s_law_box ["_law_script", "_law_k"] f_law_box fd_law_box) (D_law_scheme : Df K mg "_law_scheme" s_law_scheme ["_law_box_here", "_law_lengths_here", "_law_count"] f_law_scheme fd_law_scheme) (D_law_lengths : Df K mg "_law_lengths" s_law_lengths ["_law_box_here", "_law_most"] f_law_lengths fd_law_lengths) (D_law_take : Df K mg "_law_take" s_law_take ["_law_box_here", "_law_many"] f_law_take fd_law_take) (D_law_first_bad : Df K mg "_law_first_bad" s_law_first_bad ["_law_text_here"] f_law_first_bad fd_law_first_bad) (D_law_same_number : Df K mg "_law_same_number" s_law_same_number ["_law_found", "_law_due"] f_law_same_number fd_law_same_number) (D_law_text : Df K mg "_law_text" s_law_text ["_law_scheme_here"] f_law_text fd_law_text) (D_law_bent : Df K mg "_law_bent" s_law_bent ["_law_box_here", "_law_rows"] f_law_bent fd_law_bent) (D_law_refused : Df K mg "_law_refused" s_law_refused ["_law_text_here"] f_law_refused fd_law_refused) (D_scheme_text : Df K mg "scheme_text" s_scheme_text ["scheme"] f_scheme_text fd_scheme_text) (D_scheme_from : Df K mg "scheme_from" s_scheme_from ["text"] f_scheme_from fd_scheme_from) {r_law_box : FSpec} (F_law_box : FnOk P w K mg base (L2.CX P w) k f_law_box fd_law_box ["_law_script", "_law_k"] (FnD K 2 [] r_law_box)) {r_law_scheme : FSpec} (F_law_scheme : FnOk P w K mg base (L2.CX P w) k f_law_scheme fd_law_scheme ["_law_box_here", "_law_lengths_here", "_law_count"] (FnD K 3 [0] r_law_scheme)) {r_law_lengths : FSpec} (F_law_lengths : FnOk P w K mg base (L2.CX P w) k f_law_lengths fd_law_lengths ["_law_box_here", "_law_most"] (FnD K 2 [0] r_law_lengths)) {r_law_take : FSpec} (F_law_take : FnOk P w K mg base (L2.CX P w) k f_law_take fd_law_take ["_law_box_here", "_law_many"] (FnD K 2 [0] r_law_take)) {r_law_first_bad : FSpec} (F_law_first_bad : FnOk P w K mg base (L2.CX P w) k f_law_first_bad fd_law_first_bad ["_law_text_here"] (FnD K 1 [] r_law_first_bad)) {r_law_same_number : FSpec} (F_law_same_number : FnOk P w K mg base (L2.CX P w) k f_law_same_number fd_law_same_number ["_law_found", "_law_due"] (FnD K 2 [] r_law_same_number)) {r_law_text : FSpec} (F_law_text : FnOk P w K mg base (L2.CX P w) k f_law_text fd_law_text ["_law_scheme_here"] (FnD K 1 [] r_law_text)) {r_law_bent : FSpec} (F_law_bent : FnOk P w K mg base (L2.CX P w) k f_law_bent fd_law_bent ["_law_box_here", "_law_rows"] (FnD K 2 [0] r_law_bent)) {r_law_refused : FSpec} (F_law_refused : FnOk P w K mg base (L2.CX P w) k f_law_refused fd_law_refused ["_law_text_here"] (FnD K 1 [] r_law_refused)) {r_scheme_text : FSpec} (F_scheme_text : FnOk P w K mg base (L2.CX P w) k f_scheme_text fd_scheme_text ["scheme"] (FnD K 1 [] r_scheme_text)) {r_scheme_from : FSpec} (F_scheme_from : FnOk P w K mg base (L2.CX P w) k f_scheme_from fd_scheme_from ["text"] (FnD K 1 [] r_scheme_from)) (z_len : mg "len" = none) (z_max : mg "max" = none) (z_min : mg "min" = none) (z_range : mg "range" = none) {r : FSpec} (hrd : RD_law r r_law_box r_law_scheme r_law_lengths r_law_take r_law_first_bad r_law_same_number r_law_text r_law_bent r_law_refused r_scheme_text r_scheme_from) :
    FnOk P w K mg base (L2.CX P w) (k + 1) f_law fd_law ["_law_script"] (FnD K 1 [] r) := by
  refine fl_fn D_law.fn sc_law (by rfl) (fun cdv A outer s H E hr => ?_) hrd
  have tk := takes_of (X := cxOf (L2.CX P w) P w K mg base ["_law_script", "_law_k", "_law_box_here", "_law_scheme_here", "_law_turn", "_law_rows", "_law_more", "_law_text_here", "_law_due"] "law" (defScope s_law) f_law cdv A outer s H E) rfl rfl rfl rfl
  exact (fss_cons (fs_for [1] PassesOwn.leaving (fi_range1 (fa_cons (fo_val (fe_callB fc_max2 z_max (by decide +kernel) (fa_cons (fo_val fe_int) (fa_cons (fo_val (fe_callB fc_min2 z_min (by decide +kernel) (fa_cons (fo_val (fe_callB fc_len z_len (by decide +kernel) (fa_cons (fo_val (fe_var (i := 0))) fa_nil))) (fa_cons (fo_val fe_int) fa_nil)))) fa_nil)))) fa_nil) z_range) (fg_name 1 sc_law.nd) (fss_cons (fs_set 2 (fe_call tk F_law_box hr D_law_box.mg D_law_box.fn.kp D_law_box.b (fa_cons (fo_val (fe_var (i := 0))) (fa_cons (fo_val (fe_var (i := 1))) fa_nil))) sc_law.nd) (fss_cons (fs_setF 3 (fe_call tk F_law_scheme hr D_law_scheme.mg D_law_scheme.fn.kp D_law_scheme.b (fa_cons (fo_brw (i := 2)) (fa_cons (fo_val (fe_call tk F_law_lengths hr D_law_lengths.mg D_law_lengths.fn.kp D_law_lengths.b (fa_cons (fo_brw (i := 2)) (fa_cons (fo_val fe_int) fa_nil)))) (fa_cons (fo_val (fe_call tk F_law_take hr D_law_take.mg D_law_take.fn.kp D_law_take.b (fa_cons (fo_brw (i := 2)) (fa_cons (fo_val fe_int) fa_nil)))) fa_nil)))) sc_law.nd) (fss_one (fs_for [4] PassesOwn.leaving (fi_range1 (fa_cons (fo_val fe_int) fa_nil) z_range) (fg_name 4 sc_law.nd) (fss_cons (fs_setF 5 (fe_split (fe_call tk F_law_text hr D_law_text.mg D_law_text.fn.kp D_law_text.b (fa_cons (fo_val (fe_var (i := 3))) fa_nil)) fe_str) sc_law.nd) (fss_cons (fs_for [6] PassesOwn.leaving (fi_range1 (fa_cons (fo_val (fe_addCl (fo_val (fe_call tk F_law_take hr D_law_take.mg D_law_take.fn.kp D_law_take.b (fa_cons (fo_brw (i := 2)) (fa_cons (fo_val fe_int) fa_nil)))))) fa_nil) z_range) (fg_name 6 sc_law.nd) (fss_one (fs_setF 5 (fe_orT (fe_call tk F_law_bent hr D_law_bent.mg D_law_bent.fn.kp D_law_bent.b (fa_cons (fo_brw (i := 2)) (fa_cons (fo_val (fe_var (i := 5))) fa_nil))) (fe_one (fe_lst (fa_cons (fo_val fe_str) fa_nil)))) sc_law.nd))) (fss_cons (fs_setF 7 (fe_join fe_str (fe_var (i := 5))) sc_law.nd) (fss_cons (fs_setF 8 (fe_call tk F_law_first_bad hr D_law_first_bad.mg D_law_first_bad.fn.kp D_law_first_bad.b (fa_cons (fo_val (fe_var (i := 7))) fa_nil)) sc_law.nd) (fss_cons (fs_if (ft_not (ft_val (fe_call tk F_law_same_number hr D_law_same_number.mg D_law_same_number.fn.kp D_law_same_number.b (fa_cons (fo_val (fe_call tk F_law_refused hr D_law_refused.mg D_law_refused.fn.kp D_law_refused.b (fa_cons (fo_val (fe_var (i := 7))) fa_nil))) (fa_cons (fo_val (fe_var (i := 8))) fa_nil))))) (fss_one (fs_ret fe_bl)) fss_nil) (fss_one (fs_if (FW.ft (fw_and (ft_cmp fop_isN0 (fo_val (fe_var (i := 8))) (fo_val fe_non)) (fw_and1 (ft_cmp (fop_ne hr.units) (fo_val (fe_call tk F_scheme_text hr D_scheme_text.mg D_scheme_text.fn.kp D_scheme_text.b (fa_cons (fo_val (fe_call tk F_scheme_from hr D_scheme_from.mg D_scheme_from.fn.kp D_scheme_from.b (fa_cons (fo_val (fe_var (i := 7))) fa_nil))) fa_nil))) (fo_val (fe_var (i := 7))))))) (fss_one (fs_ret fe_bl)) fss_nil)))))))))))) (fss_one (fs_ret fe_bl)))
structure Ad where
  f_BadRow_init : Addr
  fd_BadRow_init : FuncData
  f_sum_text : Addr
  fd_sum_text : FuncData
  f_product_text : Addr
  fd_product_text : FuncData
  f_scheme_text : Addr
  fd_scheme_text : FuncData
  f_plain_number : Addr
  fd_plain_number : FuncData
  f_own_number : Addr
  fd_own_number : FuncData
  f_sum_from : Addr
  fd_sum_from : FuncData
  f_product_from : Addr
  fd_product_from : FuncData
  f_lengths_from : Addr
  fd_lengths_from : FuncData
  f_scheme_from : Addr
  fd_scheme_from : FuncData
  f_law_cell_at : Addr
  fd_law_cell_at : FuncData
  f_law_mixed : Addr
  fd_law_mixed : FuncData
  f_law_box : Addr
  fd_law_box : FuncData
  f_law_take : Addr
  fd_law_take : FuncData
  f_law_number : Addr
  fd_law_number : FuncData
  f_law_part : Addr
  fd_law_part : FuncData
  f_law_scheme : Addr
  fd_law_scheme : FuncData
  f_law_lengths : Addr
  fd_law_lengths : FuncData
  f_law_sum : Addr
  fd_law_sum : FuncData
  f_law_text : Addr
  fd_law_text : FuncData
  f_law_plain : Addr
  fd_law_plain : FuncData
  f_law_sum_fits : Addr
  fd_law_sum_fits : FuncData
  f_law_product_fits : Addr
  fd_law_product_fits : FuncData
  f_law_first_bad : Addr
  fd_law_first_bad : FuncData
  f_law_refused : Addr
  fd_law_refused : FuncData
  f_law_same_number : Addr
  fd_law_same_number : FuncData
  f_law_bent_word : Addr
  fd_law_bent_word : FuncData
  f_law_bent : Addr
  fd_law_bent : FuncData
  f_law : Addr
  fd_law : FuncData
  t_FIGURES : Value
  t_MOST_LENGTH : Tok
  t_MOST_NUMBER : Tok
  t_MOST_PRODUCTS : Tok
  t_NOUGHTS : Value
  cv_BadRow : Addr
  cv_TimesError : Addr
structure Tb (K : PySem.W.Frag) (mg : Str → Option Value) (A : Ad) : Prop where
  D_BadRow_init : DfM K "__init__" "BadRow.__init__" s_BadRow_init ["self", "row"] A.f_BadRow_init A.fd_BadRow_init
  D_sum_text : Df K mg "sum_text" s_sum_text ["part"] A.f_sum_text A.fd_sum_text
  D_product_text : Df K mg "product_text" s_product_text ["product"] A.f_product_text A.fd_product_text
  D_scheme_text : Df K mg "scheme_text" s_scheme_text ["scheme"] A.f_scheme_text A.fd_scheme_text
  D_plain_number : Df K mg "plain_number" s_plain_number ["word", "most"] A.f_plain_number A.fd_plain_number
  D_own_number : Df K mg "own_number" s_own_number ["word"] A.f_own_number A.fd_own_number
  D_sum_from : Df K mg "sum_from" s_sum_from ["text", "length"] A.f_sum_from A.fd_sum_from
  D_product_from : Df K mg "product_from" s_product_from ["row", "lengths"] A.f_product_from A.fd_product_from
  D_lengths_from : Df K mg "lengths_from" s_lengths_from ["row"] A.f_lengths_from A.fd_lengths_from
  D_scheme_from : Df K mg "scheme_from" s_scheme_from ["text"] A.f_scheme_from A.fd_scheme_from
  D_law_cell_at : Df K mg "_law_cell_at" s_law_cell_at ["_law_script", "_law_k"] A.f_law_cell_at A.fd_law_cell_at
  D_law_mixed : Df K mg "_law_mixed" s_law_mixed ["_law_number_here", "_law_k"] A.f_law_mixed A.fd_law_mixed
  D_law_box : Df K mg "_law_box" s_law_box ["_law_script", "_law_k"] A.f_law_box A.fd_law_box
  D_law_take : Df K mg "_law_take" s_law_take ["_law_box_here", "_law_many"] A.f_law_take A.fd_law_take
  D_law_number : Df K mg "_law_number" s_law_number ["_law_box_here"] A.f_law_number A.fd_law_number
  D_law_part : Df K mg "_law_part" s_law_part ["_law_box_here", "_law_length"] A.f_law_part A.fd_law_part
  D_law_scheme : Df K mg "_law_scheme" s_law_scheme ["_law_box_here", "_law_lengths_here", "_law_count"] A.f_law_scheme A.fd_law_scheme
  D_law_lengths : Df K mg "_law_lengths" s_law_lengths ["_law_box_here", "_law_most"] A.f_law_lengths A.fd_law_lengths
  D_law_sum : Df K mg "_law_sum" s_law_sum ["_law_part_here"] A.f_law_sum A.fd_law_sum
  D_law_text : Df K mg "_law_text" s_law_text ["_law_scheme_here"] A.f_law_text A.fd_law_text
  D_law_plain : Df K mg "_law_plain" s_law_plain ["_law_word", "_law_least", "_law_most"] A.f_law_plain A.fd_law_plain
  D_law_sum_fits : Df K mg "_law_sum_fits" s_law_sum_fits ["_law_words", "_law_length"] A.f_law_sum_fits A.fd_law_sum_fits
  D_law_product_fits : Df K mg "_law_product_fits" s_law_product_fits ["_law_row", "_law_lengths_here"] A.f_law_product_fits A.fd_law_product_fits
  D_law_first_bad : Df K mg "_law_first_bad" s_law_first_bad ["_law_text_here"] A.f_law_first_bad A.fd_law_first_bad
  D_law_refused : Df K mg "_law_refused" s_law_refused ["_law_text_here"] A.f_law_refused A.fd_law_refused
  D_law_same_number : Df K mg "_law_same_number" s_law_same_number ["_law_found", "_law_due"] A.f_law_same_number A.fd_law_same_number
  D_law_bent_word : Df K mg "_law_bent_word" s_law_bent_word ["_law_box_here", "_law_word"] A.f_law_bent_word A.fd_law_bent_word
  D_law_bent : Df K mg "_law_bent" s_law_bent ["_law_box_here", "_law_rows"] A.f_law_bent A.fd_law_bent
  D_law : Df K mg "law" s_law ["_law_script"] A.f_law A.fd_law
  xi_BadRow : EI K A.cv_BadRow A.f_BadRow_init "row"
  xt_TimesError : InT0 K A.cv_TimesError
  xk_BadRow : EK K A.cv_BadRow "row"
  z_abs : mg "abs" = none
  z_all : mg "all" = none
  z_any : mg "any" = none
  z_bool : mg "bool" = none
  z_enumerate : mg "enumerate" = none
  z_int : mg "int" = none
  z_isinstance : mg "isinstance" = none
  z_len : mg "len" = none
  z_max : mg "max" = none
  z_min : mg "min" = none
  z_range : mg "range" = none
  z_str : mg "str" = none
  z_tuple : mg "tuple" = none
  z_zip : mg "zip" = none
  g_FIGURES : mg "FIGURES" = some A.t_FIGURES ∧ KV K (.str "0123456789") A.t_FIGURES
  g_MOST_LENGTH : mg "MOST_LENGTH" = some (.int 81 A.t_MOST_LENGTH)
  g_MOST_NUMBER : mg "MOST_NUMBER" = some (.int 1000 A.t_MOST_NUMBER)
  g_MOST_PRODUCTS : mg "MOST_PRODUCTS" = some (.int 400 A.t_MOST_PRODUCTS)
  g_NOUGHTS : mg "NOUGHTS" = some A.t_NOUGHTS ∧ KV K (.str "-") A.t_NOUGHTS
  gc_TimesError : mg "TimesError" = some (.ref A.cv_TimesError)
  gc_BadRow : mg "BadRow" = some (.ref A.cv_BadRow)
  xm_BadRow_TimesError : PySem.W.exmOne K (.ref A.cv_BadRow) (.ref A.cv_TimesError) = some true
  ki_BadRow_BadRow : PySem.W.kitOne K (.ref A.cv_BadRow) (.ref A.cv_BadRow) = some true
end
end K54
namespace K54
open PySem PySem.Spec PyProof.Rows L2 FL Cm
set_option maxHeartbeats 0
open TL (tl)
def r_scheme_from (cvB : Addr) : FSpec := fun ds E Q => ∃ (t : Str), ds = [.str t] ∧ t.length ≤ 100000 ∧ (∀ i : Nat, firstBad t = some i → ∀ os, E (.ref cvB) (some [("row", .int i)]) os) ∧
  (∀ (a b c : Nat) (ps : List Pr), Rd t a b c ps → ∀ os, Q (.tup true [.int a, .int b, .int c, .lst .flat (ps.map prD)]) os)
theorem rd_scheme_from {cvB : Addr} : RD_scheme_from (r_scheme_from cvB) r_lengths_from r_product_from cvB := by
  rintro ds ED QD - ⟨t, rfl, ht, hE, hQ⟩
  have rl : ∀ r ∈ Txt.split t "\n", r.length ≤ 100000 := fun r hr => Nat.le_trans (split_len sepN.ne sepN.k r hr) ht
  obtain ⟨r0, rows, hs⟩ : ∃ r0 rows, Txt.split t "\n" = r0 :: rows := by
    cases e : Txt.split t "\n" with
    | nil => exact absurd e (sepN.ne_nil t)
    | cons a b => exact ⟨a, b, rfl⟩
  rw [hs] at rl
  have fb := firstBad_cut hs
  refine ⟨by decide +kernel, by rw [sizeLine_eq]; omega, ?_⟩
  rw [hs, List.map_cons]
  conv => whnf
  rw [at_zero]
  refine ⟨r0, rfl, rl r0 (by simp), fun _ => ?_⟩
  cases e0 : lenF r0 with
  | none =>
    rw [e0] at fb
    refine ⟨fun _ => ⟨rfl, hE 0 fb _⟩, fun h => nomatch h⟩
  | some p =>
  obtain ⟨a, b, c⟩ := p
  rw [e0] at fb
  have fb : firstBad t = badFrom a b c 0 rows := fb
  have hb := lenF_bd e0
  refine ⟨(fun h => nomatch h), fun _ => ?_⟩
  have ecut : cutL (D.str r0 :: rows.map D.str) (some 1) none = rows.map D.str := (cut_from (a := 1) (xs := D.str r0 :: rows.map D.str) (by simp)).trans rfl
  conv => whnf
  rw [ecut]
  refine ⟨forR_on [3] [4, 5, 6] (fun k s => ∃ ps : List Pr, s = [some (.lst .flat (ps.map prD))] ∧ (rows.take k).map (prF a b c) = ps.map some ∧ ps.length ≤ 400 ∧ badFrom a b c 0 rows = badFrom a b c k (rows.drop k)) _ _ ⟨[], rfl, rfl, by decide, rfl⟩ ?_ ?_⟩
  · rintro i d s j hd hj ⟨ps, rfl, h1, h2, h3⟩
    obtain ⟨g4, g5, g6, rfl⟩ := len3 hj
    rw [enD_get, List.getElem?_map] at hd
    cases hrow : rows[i]? with
    | none => rw [hrow] at hd; cases hd
    | some r =>
    rw [hrow] at hd
    cases hd
    have hi : i < rows.length := (List.getElem?_eq_some_iff.mp hrow).1
    have hl : ps.length = i := by
      have := congrArg List.length h1
      rw [List.length_map, List.length_map, List.length_take] at this
      omega
    have hdr : rows.drop i = r :: rows.drop (i + 1) := by
      have hi := (List.getElem?_eq_some_iff.mp hrow)
      rw [List.drop_eq_getElem_cons hi.1, hi.2]
    rw [hdr] at h3
    have h3 : badFrom a b c 0 rows = if 399 < i ∨ (prF a b c r).isSome = false then some (i + 1) else badFrom a b c (i + 1) (rows.drop (i + 1)) := h3
    have bad : (399 < i ∨ (prF a b c r).isSome = false) → ∀ os, ED (.ref cvB) (some [("row", .int (((0 + i : Nat) : Int) + 1))]) os := fun z os => by
      rw [if_pos z] at h3
      have := hE (i + 1) (fb.trans h3) os
      rw [show ((i + 1 : Nat) : Int) = ((0 + i : Nat) : Int) + 1 by omega] at this
      exact this
    refine ⟨rfl, r, a, b, c, rfl, rl r (by simp [List.mem_of_getElem? hrow]), by omega, fun _ => ?_⟩
    cases ep : prF a b c r with
    | none => exact ⟨fun _ => ⟨fun _ => ⟨rfl, bad (.inr (by rw [ep]; rfl)) _⟩, fun h => nomatch h⟩, fun h => nomatch h⟩
    | some p =>
      refine ⟨(fun h => nomatch h), fun _ => ⟨fun h5 => ⟨rfl, bad (.inl (by simp at h5; omega)) _⟩, fun h5 => ?_⟩⟩
      have h5 : i < 400 := by simp at h5; omega
      rw [if_neg (by rw [ep]; simp; omega)] at h3
      refine ⟨by rw [List.length_map, sizeLine_eq]; omega, rfl, ps ++ [p], ?_, ?_, ?_, h3⟩
      · rw [List.map_append]; rfl
      · rw [List.take_add_one, hrow, List.map_append, h1, List.map_append]
        simp [ep]
      · rw [List.length_append]; simp; omega
  · rintro s j hj ⟨ps, rfl, h1, h2, h3⟩
    obtain ⟨g4, g5, g6, rfl⟩ := len3 hj
    rw [enD_len, List.length_map, List.take_length] at h1
    exact ⟨by show 3 + 1 ≤ sizeLine; decide, rfl, hQ a b c ps ⟨⟨r0, rows, hs, e0, h1⟩, h2⟩ _⟩
/-- what is told of a text: the row that is bad, or None -/
def r_law_refused : FSpec := fun ds _ Q => ∃ (t : Str), ds = [.str t] ∧ t.length ≤ 100000 ∧ ∀ os, Q (optN (firstBad t)) os
theorem rd_law_refused {cvT cvB : Addr} : RD_law_refused r_law_refused (r_scheme_from cvB) cvT cvB := by
  rintro ds ED QD - ⟨t, rfl, ht, q⟩
  refine ⟨t, rfl, ht, fun i hi os => ?_, fun a b c ps g os => ?_⟩
  · rw [hi] at q
    exact ⟨rfl, by show 1 < 3; decide, _, rfl, fun a => q _⟩
  · rw [bad_of_none g] at q
    exact ⟨rfl, q _⟩
end K54
namespace Cm
open PySem PySem.Spec PyProof.Rows L2 FL
end Cm
namespace Cm
open PySem PySem.Spec PyProof.Rows L2 FL
end Cm
namespace Cm
open PySem PySem.Spec PyProof.Rows L2 FL
open PySem.W (EachIs AllAlike dataLe dataLt alike alikeAll)
set_option maxHeartbeats 0
structure Pr.sz (p : Pr) (a b c : Nat) : Prop where
  l : p.l.length = a
  r : p.r.length = b
  o : p.o.length = c
end Cm
namespace Cm
open PySem PySem.Spec PyProof.Rows L2 FL
set_option maxHeartbeats 0
/-- terms that stand within lengths a, b, c, numbers -1 to 1 -/
structure Fit1 (ts : List Tm) (a b c : Nat) : Prop where
  ds : Dis ts
  pl : ∀ t ∈ ts, ∃ k i j : Nat, (k < c ∧ i < a ∧ j < b) ∧ t.pl = [(k : Int), i, j]
  mg : ∀ t ∈ ts, -1 ≤ t.c ∧ t.c ≤ 1
theorem Fit1.mem {ts : List Tm} {a b c : Nat} (h : Fit1 ts a b c) {p : List Int} (hp : p ∈ pls ts) : (∃ k i j : Nat, (k < c ∧ i < a ∧ j < b) ∧ p = [(k : Int), i, j]) ∧ -1 ≤ tsum ts p ∧ tsum ts p ≤ 1 := by
  obtain ⟨t, ht, rfl⟩ := (mem_pls _ _).mp hp
  rw [tsum_distinct h.ds.nd ht]
  exact ⟨h.pl t ht, h.mg t ht⟩
theorem one_lo (p : Pr) (k i j : Nat) : (⟨p.l.map fun x => -x, p.r, p.o.map fun x => -x⟩ : Pr).one k i j = p.one k i j := by
  unfold Pr.one
  rw [getD_neg, getD_neg, Int.neg_mul, Int.neg_mul, Int.mul_neg, Int.neg_neg]
theorem one_lr (p : Pr) (k i j : Nat) : (⟨p.l.map fun x => -x, p.r.map fun x => -x, p.o⟩ : Pr).one k i j = p.one k i j := by
  unfold Pr.one
  rw [getD_neg, getD_neg, Int.neg_mul_neg]
structure Lk (p q : Pr) (a b c : Nat) (B : Int) : Prop where
  sz : q.sz a b c
  mg : q.mg B
  one : ∀ k i j, q.one k i j = p.one k i j
theorem sz_neg {xs : List Int} {n : Nat} (h : xs.length = n) : (xs.map fun x => -x).length = n := (List.length_map _).trans h
theorem Lk.refl {p : Pr} {a b c : Nat} {B : Int} (h : p.sz a b c) (g : p.mg B) : Lk p p a b c B := ⟨h, g, fun _ _ _ => rfl⟩
theorem Lk.lo {p q : Pr} {a b c : Nat} {B : Int} (h : Lk p q a b c B) : Lk p ⟨q.l.map fun x => -x, q.r, q.o.map fun x => -x⟩ a b c B := ⟨⟨sz_neg h.sz.l, h.sz.r, sz_neg h.sz.o⟩, ⟨h.mg.l.neg, h.mg.r, h.mg.o.neg⟩, fun k i j => (one_lo q k i j).trans (h.one k i j)⟩
theorem Lk.lr {p q : Pr} {a b c : Nat} {B : Int} (h : Lk p q a b c B) : Lk p ⟨q.l.map fun x => -x, q.r.map fun x => -x, q.o⟩ a b c B := ⟨⟨sz_neg h.sz.l, sz_neg h.sz.r, h.sz.o⟩, ⟨h.mg.l.neg, h.mg.r.neg, h.mg.o⟩, fun k i j => (one_lr q k i j).trans (h.one k i j)⟩
end Cm
namespace Cm
open PySem PySem.Spec PyProof.Rows L2 FL
end Cm
namespace Cm
open PySem PySem.Spec PyProof.Rows L2 FL
set_option maxHeartbeats 0
end Cm
namespace Cm
open PySem PySem.Spec PyProof.Rows L2 FL
set_option maxHeartbeats 0
end Cm
namespace Cm
open PySem PySem.Spec PyProof.Rows L2 FL
def rb_law_same (r_law_same : FSpec) : RS := (rSeq (rIf (rTst (rCB dIsi2 (rAC (oV (rVar 1)) (rAC (oV (rTup (rAC (oV (rC (.ty "list"))) (rAC (oV (rC (.ty "tuple"))) rA0)))) rA0)))) (rSeq (rIf (rOr (rTst (rBin dNe (oV (rCB dIsi (rAC (oV (rVar 1)) (rAC (oV (rC (.ty "list"))) rA0)))) (oV (rCB dIsi (rAC (oV (rVar 0)) (rAC (oV (rC (.ty "list"))) rA0)))))) (rTst (rBin dNe (oV (rCB dIsi (rAC (oV (rVar 1)) (rAC (oV (rC (.ty "tuple"))) rA0)))) (oV (rCB dIsi (rAC (oV (rVar 0)) (rAC (oV (rC (.ty "tuple"))) rA0))))))) (rRet (rC (.bl false))) rNx)
  (rRet (rAndV (rBin dEq (oV (rCB dLen (rAC (oV (rVar 0)) rA0))) (oV (rCB dLen (rAC (oV (rVar 1)) rA0)))) (rCB dAll (rAC (oV (rComp (rRg1 (rAC (oV (rCB dLen (rAC (oV (rVar 1)) rA0))) rA0)) (gNm 2) rYes (rCall [] r_law_same (rAC (oV (rBin dIx (oV (rVar 0)) (oV (rVar 2)))) (rAC (oV (rBin dIx (oV (rVar 1)) (oV (rVar 2)))) rA0))) [2])) rA0))))) rNx)
  (rRet (rAndV (rCB dIsi (rAC (oV (rVar 0)) (rAC (oV (rC (.ty "int"))) rA0))) (rAndV (rNotV (rCB dIsi (rAC (oV (rVar 0)) (rAC (oV (rC (.ty "bool"))) rA0)))) (rBin dEq (oV (rVar 0)) (oV (rVar 1)))))))
abbrev RD_law_same (r : FSpec) (r_law_same : FSpec) : Prop := ∀ ds ED QD, ds.length = 2 → r ds ED QD → (rb_law_same r_law_same) (startD ["_law_found", "_law_due", "_law_k"] ds) (fun c fs ρ => ED c fs (ρ.take 2)) (finD 2 QD)
end Cm
namespace Cm
open PySem PySem.Spec PyProof.Rows L2 FL
set_option maxHeartbeats 0
/-- frozen lists and tuples of such and of ints, m deep at most -/
def okS : Nat → D → Bool
  | _, .int _ => true
  | m + 1, .tup false ds => decide (ds.length ≤ 1000000) && ds.all (okS m)
  | m + 1, .lst .ice ds => decide (ds.length ≤ 1000000) && ds.all (okS m)
  | _, _ => false
theorem okS_own {m : Nat} {d : D} (h : okS m d = true) : d.own = false := by
  cases d with
  | tup o ds => cases o <;> cases m <;> first | rfl | cases h
  | lst o ds => cases o <;> cases m <;> first | rfl | cases h
  | dct o t ks vs => cases m <;> cases h
  | ins o C fs vs => cases m <;> cases h
  | _ => rfl
def r_same (m : Nat) : FSpec := fun ds _ Q => ∃ d : D, ds = [d, d] ∧ okS m d = true ∧ ∀ os, Q (.bl true) os
theorem all_true {α : Type} (xs : List α) : (xs.map fun _ => true).all id = true := by
  induction xs with
  | nil => rfl
  | cons x xs ih => simpa using ih
theorem rd_same_int {r : FSpec} (i : Int) : ∀ (ED : EF) (QD : D → En → Prop), (∀ os, QD (.bl true) os) → (rb_law_same r) (startD ["_law_found", "_law_due", "_law_k"] [.int i, .int i]) (fun c fs ρ => ED c fs (ρ.take 2)) (finD 2 QD) := by
  intro ED QD q
  refine ⟨fun h => (nomatch h), fun _ => ⟨fun _ => ⟨fun _ => ?_, fun h => (nomatch h)⟩, fun h => (nomatch h)⟩⟩
  have : (false ^^ decide (i = i)) = true := by simp
  have qq : ∀ (b : Bool) os, b = true → QD (.bl b) os := fun b os e => e ▸ q os
  exact qq _ _ this
theorem rd_same_seq {m : Nat} (t : Bool) (xs : List D) (hz : xs.length ≤ 1000000) (ho : xs.all (okS m) = true) : ∀ (ED : EF) (QD : D → En → Prop), (∀ os, QD (.bl true) os) → (rb_law_same (r_same m)) (startD ["_law_found", "_law_due", "_law_k"] [match t with | true => .tup false xs | false => .lst .ice xs, match t with | true => .tup false xs | false => .lst .ice xs]) (fun c fs ρ => ED c fs (ρ.take 2)) (finD 2 QD) := by
  intro ED QD q
  have qq : ∀ (b : Bool) os, b = true → QD (.bl b) os := fun b os e => e ▸ q os
  cases t
  all_goals
    refine ⟨fun _ => ⟨rfl, rfl, by decide, fun h => absurd h (by decide), fun _ => ⟨rfl, rfl, by decide, fun h => absurd h (by decide), fun _ => ⟨fun _ => ?_, fun h => ?_⟩⟩⟩, fun h => (nomatch h)⟩
    · refine ⟨⟨by decide, by omega, by omega⟩, ⟨compR_allE (List.range ((xs.length : Int) - 0).toNat) _ (fun _ => .bl true) rfl (fun k hk => ⟨fun _ => ?_, fun h => (nomatch h)⟩) (fun _ => rfl) ?_⟩⟩
      · have hk : k < xs.length := by have := List.mem_range.mp hk; omega
        have ok := List.all_eq_true.mp ho _ (List.getElem_mem hk)
        have at1 : atI xs (0 + (k : Int)) = some xs[k] := by rw [Int.zero_add]; exact atI_nat (List.getElem?_eq_getElem hk)
        refine pick_of at1 (okS_own ok) (pick_of at1 (okS_own ok) ⟨xs[k], ?_, ok, fun _ => ⟨rfl, rfl⟩⟩)
        have fz := frz_id _ (okS_own ok)
        show [D.frz _, D.frz _] = _
        rw [fz]
      · refine ⟨(List.range ((xs.length : Int) - 0).toNat).map fun _ => true, by rw [List.map_map]; rfl, ?_⟩
        exact qq _ _ (all_true _)
    · simp at h
theorem rd_same (m : Nat) : RD_law_same (r_same (m + 1)) (r_same m) := by
  rintro ds ED QD - ⟨d, rfl, ok, q⟩
  cases d with
  | int i => exact rd_same_int i _ QD q
  | tup o xs =>
    cases o with
    | true => cases ok
    | false =>
      simp only [okS, Bool.and_eq_true, decide_eq_true_eq] at ok
      exact rd_same_seq true xs ok.1 ok.2 _ QD q
  | lst o xs =>
    cases o with
    | ice =>
      simp only [okS, Bool.and_eq_true, decide_eq_true_eq] at ok
      exact rd_same_seq false xs ok.1 ok.2 _ QD q
    | _ => cases ok
  | _ => cases ok
def r_law_same : FSpec := r_same 8
end Cm
namespace Cm
open PySem PySem.Spec PyProof.Rows L2 FL
set_option maxHeartbeats 0
end Cm
namespace Cm
open PySem PySem.Spec PyProof.Rows L2 FL
set_option maxHeartbeats 0
end Cm
namespace Cm
open PySem PySem.Spec PyProof.Rows L2 FL
end Cm
namespace Cm
open PySem PySem.Spec PyProof.Rows L2 FL
end Cm
namespace Cm
open PySem PySem.Spec PyProof.Rows L2 FL
set_option maxHeartbeats 0
end Cm
namespace Cm
open PySem PySem.Spec PyProof.Rows L2 FL
end Cm
namespace Cm
open PySem PySem.Spec PyProof.Rows L2 FL
set_option maxHeartbeats 0
end Cm
namespace Cm
open PySem PySem.Spec PyProof.Rows L2 FL
set_option maxHeartbeats 0
end Cm
namespace Cm
open PySem PySem.Spec PyProof.Rows L2 FL
set_option maxHeartbeats 0
end Cm
namespace Cm
open PySem PySem.Spec PyProof.Rows L2 FL
set_option maxHeartbeats 0
end Cm
namespace Cm
open PySem PySem.Spec PyProof.Rows L2 FL
set_option maxHeartbeats 0
theorem zpD_len : ∀ (ds es : List D), ds.length = es.length → (zpD ds es).length = ds.length
  | [], _, _ => by simp [zpD]
  | _ :: _, [], h => by simp at h
  | _ :: ds, _ :: es, h => by simp [zpD, zpD_len ds es (by simpa using h)]
def sh (m : Nat) (b : Nat) (c : Int) (B : Nat → Int) (t : Nat) : Int := Sg (List.range m) fun u => if b + u = t then c * B u else 0
end Cm
namespace Cm
open PySem PySem.Spec PyProof.Rows L2 FL
end Cm
namespace Cm
open PySem PySem.Spec PyProof.Rows L2 FL
end Cm
namespace Cm
open PySem PySem.Spec PyProof.Rows L2 FL
set_option maxHeartbeats 0
def sgD (n i : Nat) : D := .lst .ice ((sg n (i : Int)).map D.int)
end Cm
namespace Cm
open PySem PySem.Spec PyProof.Rows L2 FL
set_option maxHeartbeats 0
/-- products of one kind that tell T -/
structure Tells (T : Nat → Nat → Nat → Int) (a b c : Nat) (N : Nat) (ps : List Pr) : Prop where
  sz : ∀ p ∈ ps, p.sz a b c
  mg : ∀ p ∈ ps, p.mg 1000
  tel : ∀ k i j, tel ps k i j = T k i j
  ne : ps ≠ []
  ln : ps.length ≤ N
theorem Tells.mono {T : Nat → Nat → Nat → Int} {a b c N M : Nat} {ps : List Pr} (h : Tells T a b c N ps) (k : N ≤ M) : Tells T a b c M ps := ⟨h.sz, h.mg, h.tel, h.ne, Nat.le_trans h.ln k⟩
end Cm
namespace Cm
open PySem PySem.Spec PyProof.Rows L2 FL
end Cm
namespace Cm
open PySem PySem.Spec PyProof.Rows L2 FL
set_option maxHeartbeats 0
end Cm
namespace Cm
open PySem PySem.Spec PyProof.Rows L2 FL
set_option maxHeartbeats 0
theorem rev_bounds (n : Nat) : sliceBounds none none (some (-1)) n = ((n : Int) - 1, -1, -1) := by
  unfold sliceBounds
  simp
theorem rev_range (n : Nat) : sliceRange ((n : Int) - 1) (-1) (-1) = (List.range n).map fun k => n - 1 - k := by
  unfold sliceRange
  have e : (if (-1 : Int) > 0 then (if (n : Int) - 1 < -1 then (-1 - ((n : Int) - 1) + -1 - 1) / -1 else 0) else (if (n : Int) - 1 > -1 then ((n : Int) - 1 - -1 - -1 - 1) / (- -1) else 0)) = (n : Int) := by
    rw [if_neg (by decide)]
    by_cases h : (n : Int) - 1 > -1
    · rw [if_pos h, show (- -1 : Int) = 1 by decide, Int.ediv_one]; omega
    · rw [if_neg h]; omega
  rw [e]
  dsimp only
  rw [Int.toNat_natCast]
  exact List.map_congr_left fun k hk => by have := List.mem_range.mp hk; omega
end Cm
namespace Cm
open PySem PySem.Spec PyProof.Rows L2 FL
set_option maxHeartbeats 0
open TL (tl)
theorem neg_txt {n : Nat} (h0 : n ≠ 0) (h : n ≤ 1000) : tl (itxt (0 - (n : Int))) = 45 :: tl (itxt (n : Int)) := by
  have : ∀ n : Fin 1001, n.val ≠ 0 → tl (itxt (0 - (n.val : Int))) = 45 :: tl (itxt (n.val : Int)) := by decide +kernel
  exact this ⟨n, by omega⟩ h0
theorem pos_back {l : List Nat} {n : Nat} (h : posN l = some n) : tl (itxt (n : Int)) = l ∧ n ≠ 0 ∧ n ≤ 1000 := by
  unfold posN at h
  split at h
  · rename_i k e
    split at h
    · cases h
    · cases h
      exact ⟨plain_back e, by omega, by omega⟩
  · cases h
theorem own_back {l : List Nat} {v : Int} (h : ownN l = some v) : tl (itxt v) = l ∧ v ≠ 0 ∧ -1000 ≤ v ∧ v ≤ 1000 := by
  unfold ownN at h
  split at h
  · rename_i hh
    obtain ⟨n, hn, rfl⟩ := Option.map_eq_some_iff.mp h
    obtain ⟨e, n0, n1⟩ := pos_back hn
    refine ⟨?_, by omega, by omega, by omega⟩
    rw [neg_txt n0 n1, e]
    cases l with
    | nil => cases hh
    | cons c r =>
      have hh : c = 45 := by simpa using hh
      rw [hh]; rfl
  · obtain ⟨n, hn, rfl⟩ := Option.map_eq_some_iff.mp h
    obtain ⟨e, n0, n1⟩ := pos_back hn
    exact ⟨e, by omega, by omega, by omega⟩
theorem word_back {w : Str} {v : Int} {k : Nat} (h1 : ownN (tl (Txt.partition w ":").1) = some v) (h2 : plainN 2 (tl (Txt.partition w ":").2.2) = some k) : wordT (v, k) = w := by
  rcases halves w with ⟨_, e⟩ | ⟨a, b, ew, e, _⟩
  · rw [e] at h2; cases h2
  · rw [e] at h1 h2
    refine TL.ext_tl ?_
    unfold wordT
    rw [ew, TL.tl_append, TL.tl_append, TL.tl_append, TL.tl_append, (own_back h1).1, plain_back h2]
theorem noughts_out (k : Nat) : ∀ m : Nat, ((List.replicate m (0 : Int)).zipIdx k).filter (fun p => decide (p.1 ≠ 0)) = [] := fun m => by
  rw [List.filter_eq_nil_iff]
  intro p hp
  have := (List.mem_zipIdx hp).2.2
  simp only [List.getElem_replicate] at this
  simp [this]
theorem sumR_of {len : Nat} : ∀ (ws : List Str) (pre : List Int) (m : Nat) (xs : List Int), pre.length + m = len → sumR len ws (pre ++ List.replicate m 0) ((pre.length : Int) - 1) = some xs →
    ∃ suf, xs = pre ++ suf ∧ suf.length = m ∧ ((suf.zipIdx pre.length).filter fun p => decide (p.1 ≠ 0)).map wordT = ws ∧ ∀ y ∈ suf, -1000 ≤ y ∧ y ≤ 1000
  | [], pre, m, xs, _, h => by
    cases h
    refine ⟨List.replicate m 0, rfl, by simp, ?_, fun y hy => ?_⟩
    · rw [noughts_out]; rfl
    · rw [(List.mem_replicate.mp hy).2]; decide
  | w :: ws, pre, m, xs, hl, h => by
    cases q1 : ownN (tl (Txt.partition w ":").1) with
    | none => rw [sumR_none1 q1] at h; cases h
    | some v =>
    cases q2 : plainN 2 (tl (Txt.partition w ":").2.2) with
    | none => rw [sumR_none2 q2] at h; cases h
    | some k =>
    rw [sumR_cons q1 q2] at h
    split at h
    · rename_i hh
      obtain ⟨d, hd⟩ : ∃ d, k = pre.length + d := ⟨k - pre.length, by omega⟩
      obtain ⟨r, hr⟩ : ∃ r, m = d + (1 + r) := ⟨m - d - 1, by omega⟩
      have e1 : (pre ++ List.replicate m (0 : Int)).set k v = (pre ++ List.replicate d 0 ++ [v]) ++ List.replicate r 0 := by
        rw [hr, hd, ← List.replicate_append_replicate, ← List.replicate_append_replicate, List.set_append_right _ _ (by omega), Nat.add_sub_cancel_left, List.set_append_right _ _ (by simp)]
        simp
      have e2 : (k : Int) = (((pre ++ List.replicate d 0 ++ [v]).length : Nat) : Int) - 1 := by simp; omega
      rw [e1, e2] at h
      obtain ⟨suf, hx, hs, hw, hb⟩ := sumR_of ws _ r xs (by simp; omega) h
      obtain ⟨_, v0, v1, v2⟩ := own_back q1
      refine ⟨List.replicate d 0 ++ v :: suf, by rw [hx]; simp, by simp [hs]; omega, ?_, fun y hy => ?_⟩
      · rw [List.zipIdx_append, List.filter_append, noughts_out, List.nil_append, List.zipIdx_cons, List.filter_cons_of_pos (by simpa using v0), List.map_cons]
        rw [List.length_replicate, ← hd, word_back q1 q2]
        have : (pre ++ List.replicate d 0 ++ [v]).length = k + 1 := by simp; omega
        rw [this] at hw
        rw [hw]
      · rw [List.mem_append, List.mem_cons] at hy
        rcases hy with hy | rfl | hy
        · rw [(List.mem_replicate.mp hy).2]; decide
        · exact ⟨v1, v2⟩
        · exact hb y hy
    · cases h
theorem sumT_of {n : Nat} {t : Str} {xs : List Int} (hn : n ≤ 81) (h : sumF n t = some xs) : sumT xs = t ∧ xs.length = n ∧ Tp xs := by
  unfold sumF at h
  split at h
  · rename_i e
    cases h
    have hw : wp (List.replicate n (0 : Int)) = [] := noughts_out 0 n
    refine ⟨by unfold sumT; rw [if_pos hw, e], by simp, ⟨by simp; exact hn, fun y hy => ?_⟩⟩
    rw [(List.mem_replicate.mp hy).2]; decide
  · rename_i e
    obtain ⟨suf, hx, hs, hw, hb⟩ := sumR_of (Txt.split t " ") [] n xs (by simp) h
    have hx : xs = suf := hx
    subst hx
    have hw : (wp xs).map wordT = Txt.split t " " := hw
    refine ⟨?_, hs, ⟨by omega, hb⟩⟩
    unfold sumT
    rw [if_neg (fun z => sepB.ne_nil t (by rw [← hw, z]; rfl)), hw, sepB.join]
theorem prT_of {a b c : Nat} {row : Str} {p : Pr} (ha : a ≤ 81) (hb : b ≤ 81) (hc : c ≤ 81) (h : prF a b c row = some p) : prT p = row ∧ PrT p ∧ p.l.length = a ∧ p.r.length = b ∧ p.o.length = c := by
  unfold prF at h
  split at h
  · cases h
  rename_i hne
  have n1 : (Txt.partition row " * ").2.1 ≠ "" := fun z => hne (.inl z)
  have n2 : (Txt.partition (Txt.partition row " * ").2.2 " > ").2.1 ≠ "" := fun z => hne (.inr z)
  have r1 := part_sound star n1
  have r2 := part_sound arrow n2
  split at h
  · rename_i l r o q1 q2 q3
    cases h
    obtain ⟨e1, l1, t1⟩ := sumT_of ha q1
    obtain ⟨e2, l2, t2⟩ := sumT_of hb q2
    obtain ⟨e3, l3, t3⟩ := sumT_of hc q3
    refine ⟨?_, ⟨t1, t2, t3⟩, l1, l2, l3⟩
    unfold prT
    dsimp only
    rw [e1, e2, e3]
    conv => rhs; rw [r1, r2]
    exact TL.ext_tl (by simp only [TL.tl_append, List.append_assoc])
  · cases h
theorem headT_of {r0 : Str} {a b c : Nat} (h : lenF r0 = some (a, b, c)) : headT a b c = r0 := by
  have hb := lenF_bd h
  by_cases hl : (Txt.split r0 " ").length = 4
  · obtain ⟨s, x, y, z, e⟩ := len4 hl
    rw [lenF_four e] at h
    split at h
    · rename_i a' b' c' q1 q2 q3
      split at h
      · rename_i hh
        cases h
        unfold headT
        rw [show itxt (a : Int) = x from TL.ext_tl (plain_back q1), show itxt (b : Int) = y from TL.ext_tl (plain_back q2), show itxt (c : Int) = z from TL.ext_tl (plain_back q3), ← hh.1, ← e, sepB.join]
      · cases h
    · cases h
  · rw [lenF_no hl] at h; cases h
/-- what is read is so written -/
theorem schT_of {t : Str} {a b c : Nat} {ps : List Pr} (g : Rd t a b c ps) : schT a b c ps = t ∧ (a ≤ 81 ∧ b ≤ 81 ∧ c ≤ 81) ∧ ∀ p ∈ ps, PrT p := by
  obtain ⟨r0, rows, e, e2, e3⟩ := g.cut
  have hb := lenF_bd e2
  have key : ∀ (rows : List Str) (ps : List Pr), rows.map (prF a b c) = ps.map some → ps.map prT = rows ∧ ∀ p ∈ ps, PrT p := by
    intro rows
    induction rows with
    | nil =>
      intro ps h
      cases ps with
      | nil => exact ⟨rfl, fun _ h => nomatch h⟩
      | cons p ps => cases h
    | cons r rs ih =>
      intro ps h
      cases ps with
      | nil => cases h
      | cons p ps =>
        rw [List.map_cons, List.map_cons, List.cons.injEq] at h
        obtain ⟨g1, g2, _⟩ := prT_of hb.1.2 hb.2.1.2 hb.2.2.2 h.1
        obtain ⟨i1, i2⟩ := ih ps h.2
        refine ⟨by rw [List.map_cons, g1, i1], fun q hq => ?_⟩
        rcases List.mem_cons.mp hq with rfl | hq
        · exact g2
        · exact i2 q hq
  obtain ⟨k1, k2⟩ := key rows ps e3
  refine ⟨?_, ⟨hb.1.2, hb.2.1.2, hb.2.2.2⟩, k2⟩
  unfold schT
  rw [headT_of e2, k1, ← e, sepN.join]
end Cm
namespace K54
open PySem PySem.Spec PyProof.Rows L2 FL Cm
set_option maxHeartbeats 0
open TL (tl)
theorem range_all {α : Type} (ys : List α) : (List.range ys.length).filterMap (fun k => ys[k]?) = ys := by
  have e : (List.range ys.length).map (fun k => ys[k]?) = ys.map some := by
    refine List.ext_getElem? fun i => ?_
    rw [List.getElem?_map, List.getElem?_map]
    by_cases h : i < ys.length
    · rw [List.getElem?_range h, List.getElem?_eq_getElem h]
      simp [h]
    · rw [List.getElem?_eq_none (by rw [List.length_range]; omega), List.getElem?_eq_none (by omega)]
      rfl
  have e2 : (List.range ys.length).filterMap (fun k => ys[k]?) = ((List.range ys.length).map (fun k => ys[k]?)).filterMap id := by rw [List.filterMap_map]; rfl
  rw [e2, e, List.filterMap_map]
  simp
theorem fm_congr {α β : Type} {f g : α → Option β} : ∀ {l : List α}, (∀ x ∈ l, f x = g x) → l.filterMap f = l.filterMap g
  | [], _ => rfl
  | a :: l, h => by
    rw [List.filterMap_cons, List.filterMap_cons, h a (List.mem_cons_self ..), fm_congr fun x hx => h x (List.mem_cons_of_mem _ hx)]
theorem pick_rev {α : Type} (xs : List α) : pickL xs none none (some (-1)) = xs.reverse := by
  unfold pickL
  rw [rev_bounds, rev_range, List.filterMap_map]
  conv => rhs; rw [← range_all xs.reverse, List.length_reverse]
  refine fm_congr fun k hk => ?_
  have hk := List.mem_range.mp hk
  rw [List.getElem?_reverse hk]
  rfl
/-- signs and blanks -/
def szS (ws : List Str) : Nat := (ws.map (·.length)).sum + ws.length
theorem szS_app (a b : List Str) : szS (a ++ b) = szS a + szS b := by
  unfold szS
  rw [List.map_append, List.sum_append, List.length_append]; omega
theorem szS_cons (a : Str) (b : List Str) : szS (a :: b) = a.length + 1 + szS b := by
  unfold szS
  rw [List.map_cons, List.sum_cons, List.length_cons]; omega
theorem szS_take (ws : List Str) (n : Nat) : szS (ws.take n) ≤ szS ws ∧ szS (ws.drop n) ≤ szS ws ∧ szS (ws.take n) + szS (ws.drop n) = szS ws := by
  have := szS_app (ws.take n) (ws.drop n)
  rw [List.take_append_drop] at this
  omega
theorem szS_rev (ws : List Str) : szS ws.reverse = szS ws := by
  unfold szS
  rw [List.map_reverse, List.sum_reverse, List.length_reverse]
theorem szS_cut (ws : List Str) (lo hi : Option Int) : szS (cutL ws lo hi) ≤ szS ws := by
  unfold cutL
  have h1 := (szS_take (ws.drop (HT.sIx ws.length 0 lo)) (HT.sIx ws.length ws.length hi - HT.sIx ws.length 0 lo)).1
  have h2 := (szS_take ws (HT.sIx ws.length 0 lo)).2.1
  omega
theorem cut_map {α β : Type} (f : α → β) (xs : List α) (lo hi : Option Int) : cutL (xs.map f) lo hi = (cutL xs lo hi).map f := by
  unfold cutL
  rw [List.length_map, List.map_take, List.map_drop]
theorem szS_join (ws : List Str) : (Txt.join " " ws).length ≤ szS ws := by
  have := join_len " " ws
  rw [← TL.join_eq, show (" " : Str).length = 1 by decide +kernel] at this
  unfold szS
  omega
theorem szS_split (x : Str) : szS (Txt.split x " ") = x.length + 1 := by
  refine sepB.ind (P := fun x => szS (Txt.split x " ") = x.length + 1) (fun x hx => ?_) (fun a b ha ih => ?_) x
  · rw [sepB.none hx, szS_cons]
    rfl
  · rw [sepB.first ha, szS_cons, ih, Str.length_append, Str.length_append, show (" " : Str).length = 1 by decide +kernel]
    omega
theorem szS_mem {ws : List Str} {w : Str} (h : w ∈ ws) : w.length + 1 ≤ szS ws := by
  obtain ⟨a, b, rfl⟩ := List.append_of_mem h
  rw [szS_app, szS_cons]; omega
theorem szS_len (ws : List Str) : ws.length ≤ szS ws := by unfold szS; omega
def r_law_bent_word : FSpec := fun ds _ Q => ∃ (x : Bx) (w : Str), ds = [bxD x, .str w] ∧ w.length ≤ 100000 ∧ ∀ (w' : Str) (x' : Bx) tl, w'.length ≤ 2 * w.length + 6 → Q (.str w') (some (bxD x') :: tl)
theorem rd_law_bent_word : RD_law_bent_word r_law_bent_word r_law_take := by
  rintro ds ED QD - ⟨x, w, rfl, hw, q⟩
  have z : ∀ a : Str, a.length ≤ 6 → w.length + a.length ≤ sizeLine := fun a h => by rw [sizeLine_eq]; omega
  have z' : ∀ a : Str, a.length ≤ 6 → a.length + w.length ≤ sizeLine := fun a h => by rw [sizeLine_eq]; omega
  have hz : w.length ≤ sizeLine := by rw [sizeLine_eq]; omega
  refine ⟨z "0" (by decide +kernel), z' "0" (by decide +kernel), z' "-" (by decide +kernel), z ":" (by decide +kernel), z' ":" (by decide +kernel), hz, z' "+" (by decide +kernel), z " " (by decide +kernel), ?_, ?_⟩
  · rw [Str.length_append, show (" " : Str).length = 1 by decide +kernel, sizeLine_eq]; omega
  refine ⟨z' " " (by decide +kernel), z "1:1" (by decide +kernel), by show 9 + 13 ≤ sizeLine; decide, x, 22, rfl, by decide, fun v x _ v0 v1 => ?_⟩
  refine pick_at (f := fun s : Str => D.str s) (xs := [w ++ ("0" : Str), ("0" : Str) ++ w, ("-" : Str) ++ w, w ++ (":" : Str), (":" : Str) ++ w, cutS w none (some (-1)), "", ("+" : Str) ++ w, w ++ (" " : Str) ++ w, "1:0", "0:0", "-0:1", "1:9", "2:01", "-", "*", ">", "x", "1.0:0", "1:-1", (" " : Str) ++ w, w ++ ("1:1" : Str)]) v0 v1 (fun _ => rfl) fun u hu => q u x _ ?_
  have hu := List.mem_of_getElem? hu
  have a : ∀ s : Str, s.length ≤ 6 → (w ++ s).length ≤ 2 * w.length + 6 := fun s h => by rw [Str.length_append]; omega
  have b : ∀ s : Str, s.length ≤ 6 → (s ++ w).length ≤ 2 * w.length + 6 := fun s h => by rw [Str.length_append]; omega
  have c : ∀ s : Str, s.length ≤ 6 → s.length ≤ 2 * w.length + 6 := fun s h => by omega
  simp only [List.mem_cons, List.not_mem_nil, or_false] at hu
  rcases hu with rfl | rfl | rfl | rfl | rfl | rfl | rfl | rfl | rfl | rfl | rfl | rfl | rfl | rfl | rfl | rfl | rfl | rfl | rfl | rfl | rfl | rfl
  · exact a _ (by decide +kernel)
  · exact b _ (by decide +kernel)
  · exact b _ (by decide +kernel)
  · exact a _ (by decide +kernel)
  · exact b _ (by decide +kernel)
  · have := cutS_length w none (some (-1)); omega
  · exact c _ (by decide +kernel)
  · exact b _ (by decide +kernel)
  · rw [Str.length_append, Str.length_append, show (" " : Str).length = 1 by decide +kernel]; omega
  · exact c _ (by decide +kernel)
  · exact c _ (by decide +kernel)
  · exact c _ (by decide +kernel)
  · exact c _ (by decide +kernel)
  · exact c _ (by decide +kernel)
  · exact c _ (by decide +kernel)
  · exact c _ (by decide +kernel)
  · exact c _ (by decide +kernel)
  · exact c _ (by decide +kernel)
  · exact c _ (by decide +kernel)
  · exact c _ (by decide +kernel)
  · exact b _ (by decide +kernel)
  · exact a _ (by decide +kernel)
/-- rows bent: at most one more, each not much longer -/
def r_law_bent : FSpec := fun ds _ Q => ∃ (x : Bx) (rows : List Str) (B : Nat), ds = [bxD x, .lst .ice (rows.map D.str)] ∧ (1 ≤ rows.length ∧ rows.length ≤ 100) ∧ 9 ≤ B ∧ B ≤ 5000 ∧ (∀ r ∈ rows, r.length ≤ B) ∧
  ∀ (rows' : List Str) (x' : Bx) tl, rows'.length ≤ rows.length + 1 → (∀ r ∈ rows', r.length ≤ 6 * B + 60) → Q (.lst .flat (rows'.map D.str)) (some (bxD x') :: tl) ∧ Q (.lst .ice (rows'.map D.str)) (some (bxD x') :: tl)
theorem rd_law_bent : RD_law_bent r_law_bent r_law_take r_law_bent_word := by
  rintro ds ED QD - ⟨x, rows, B, rfl, hn, hB9, hB, hr, q⟩
  refine ⟨x, _, rfl, ⟨by rw [List.length_map]; omega, by rw [List.length_map]; omega⟩, fun at' x _ a0 a1 => ?_⟩
  rw [List.length_map] at a1
  refine pick_at (f := fun s : Str => D.str s) (xs := rows) a0 a1 (fun _ => rfl) fun r hr' => ?_
  have lr := hr r (List.mem_of_getElem? hr')
  have sz := szS_split r
  have ne := sepB.ne_nil r
  refine ⟨by decide +kernel, by rw [sizeLine_eq]; omega, ?_⟩
  revert sz ne
  generalize Txt.split r " " = ws
  intro sz ne
  have wl := szS_len ws
  have wp := List.length_pos_iff.mpr ne
  refine ⟨x, _, rfl, ⟨by rw [List.length_map]; omega, by rw [List.length_map]; omega⟩, fun s x _ s0 s1 => ?_⟩
  rw [List.length_map] at s1
  refine ⟨x, 10, rfl, by decide, fun wy x _ w0 w1 => ?_⟩
  have cl : ∀ (V : List Str) lo hi, (cutL (V.map D.str) lo hi).length ≤ szS V := fun V lo hi => by
    have h1 := cutL_len (V.map D.str) lo hi
    have h2 := szS_len V
    rw [List.length_map] at h1
    omega
  refine cut_on [0, 3] [] (fun st => ∃ (x : Bx) (W : List Str), st = [some (bxD x), some (.lst .ice (W.map D.str))] ∧ szS W ≤ 4 * B + 10 ∧ (5 ≤ wy → W = ws)) ?_ ?_
  · refine ⟨fun h => ?_, fun _ => ⟨rfl, x, ws, rfl, by omega, fun _ => rfl⟩⟩
    have h : wy < 5 := by simpa using h
    refine pick_at (f := fun s : Str => D.str s) (xs := ws) s0 s1 (fun _ => rfl) fun w hw => ?_
    have hwm := szS_mem (List.mem_of_getElem? hw)
    refine ⟨x, w, rfl, by omega, fun w' x' _ hw' => ⟨?_, ?_, rfl, x', cutL ws none (some s) ++ [w'] ++ cutL ws (some (s + 1)) none, ?_, ?_, fun h' => by omega⟩⟩
    · have := cl ws none (some s)
      show (cutL (ws.map D.str) none (some s)).length + 1 ≤ sizeLine
      rw [sizeLine_eq]; omega
    · have h1 := cl ws none (some s)
      have h2 := cl ws (some (s + 1)) none
      show (cutL (ws.map D.str) none (some s) ++ [D.str w']).length + (cutL (ws.map D.str) (some (s + 1)) none).length ≤ sizeLine
      rw [List.length_append, sizeLine_eq]
      simp only [List.length_cons, List.length_nil]
      omega
    · rw [List.map_append, List.map_append, ← cut_map, ← cut_map]
      rfl
    · have h1 := szS_cut ws none (some s)
      have h2 := szS_cut ws (some (s + 1)) none
      rw [szS_app, szS_app, szS_cons]
      have : szS [] = 0 := rfl
      omega
  rintro st j hj ⟨x, W, rfl, hW, eW⟩
  obtain rfl := len0 hj
  clear hj
  refine cut_on [0, 3] [] (fun st => ∃ (x : Bx) (W : List Str), st = [some (bxD x), some (.lst .ice (W.map D.str))] ∧ szS W ≤ 4 * B + 10 ∧ (6 ≤ wy → W = ws)) ?_ ?_
  · refine ⟨fun h => ?_, fun _ => ⟨rfl, x, W, rfl, hW, fun h => eW (by omega)⟩⟩
    have h : wy = 5 := by simpa using h
    obtain rfl := eW (by omega)
    refine ⟨?_, rfl, x, cutL W none (some s) ++ cutL W (some (s + 1)) none, ?_, ?_, fun h' => by omega⟩
    · have h1 := cl W none (some s)
      have h2 := cl W (some (s + 1)) none
      show (cutL (W.map D.str) none (some s)).length + (cutL (W.map D.str) (some (s + 1)) none).length ≤ sizeLine
      rw [sizeLine_eq]; omega
    · rw [List.map_append, ← cut_map, ← cut_map]
      rfl
    · have h1 := szS_cut W none (some s)
      have h2 := szS_cut W (some (s + 1)) none
      rw [szS_app]
      omega
  clear hW eW
  rintro st j hj ⟨x, W, rfl, hW, eW⟩
  obtain rfl := len0 hj
  clear hj
  refine cut_on [0, 3] [] (fun st => ∃ (x : Bx) (W : List Str), st = [some (bxD x), some (.lst .ice (W.map D.str))] ∧ szS W ≤ 4 * B + 10 ∧ (7 ≤ wy → W = ws)) ?_ ?_
  · refine ⟨fun h => ?_, fun _ => ⟨rfl, x, W, rfl, hW, fun h => eW (by omega)⟩⟩
    have h : wy = 6 := by simpa using h
    obtain rfl := eW (by omega)
    refine ⟨?_, rfl, x, cutL W none (some (s + 1)) ++ cutL W (some s) none, ?_, ?_, fun h' => by omega⟩
    · have h1 := cl W none (some (s + 1))
      have h2 := cl W (some s) none
      show (cutL (W.map D.str) none (some (s + 1))).length + (cutL (W.map D.str) (some s) none).length ≤ sizeLine
      rw [sizeLine_eq]; omega
    · rw [List.map_append, ← cut_map, ← cut_map]
      rfl
    · have h1 := szS_cut W none (some (s + 1))
      have h2 := szS_cut W (some s) none
      rw [szS_app]
      omega
  clear hW eW
  rintro st j hj ⟨x, W, rfl, hW, eW⟩
  obtain rfl := len0 hj
  clear hj
  refine cut_on [0, 3] [] (fun st => ∃ (x : Bx) (W : List Str), st = [some (bxD x), some (.lst .ice (W.map D.str))] ∧ szS W ≤ 4 * B + 10) ?_ ?_
  · refine ⟨fun h => ?_, fun _ => ⟨rfl, x, W, rfl, hW⟩⟩
    have h : wy = 7 := by simpa using h
    obtain rfl := eW (by omega)
    refine ⟨by decide, ?_, rfl, x, cutL W none (some s) ++ pickL (cutL W (some s) none) none none (some (-1)), ?_, ?_⟩
    · have h1 := cl W none (some s)
      have h2 := cl W (some s) none
      show (cutL (W.map D.str) none (some s)).length + (pickL (cutL (W.map D.str) (some s) none) none none (some (-1))).length ≤ sizeLine
      rw [pick_rev, List.length_reverse, sizeLine_eq]; omega
    · rw [List.map_append, ← pickL_map, ← cut_map, ← cut_map]
      rfl
    · have h1 := szS_cut W none (some s)
      have h2 := szS_cut W (some s) none
      rw [szS_app, pick_rev, szS_rev]
      omega
  clear hW eW
  rintro st j hj ⟨x, W, rfl, hW⟩
  obtain rfl := len0 hj
  clear hj
  have cr : ∀ lo hi, (cutL (rows.map D.str) lo hi).length ≤ rows.length := fun lo hi => by
    have h1 := cutL_len (rows.map D.str) lo hi
    rw [List.length_map] at h1
    exact h1
  obtain ⟨k, rfl⟩ := Int.eq_ofNat_of_zero_le a0
  have hk : k < rows.length := by omega
  have t0 : cutL (rows.map D.str) none (some ((k : Nat) : Int)) = (rows.take k).map D.str := by rw [cutS_to rfl (by rw [List.length_map]; omega), List.map_take]
  have t1 : cutL (rows.map D.str) (some (((k : Nat) : Int) + 1)) none = (rows.drop (k + 1)).map D.str := by rw [cutS_from (n := k + 1) (by omega) (by rw [List.length_map]; omega), List.map_drop]
  have t2 : cutL (rows.map D.str) (some ((k : Nat) : Int)) none = (rows.drop k).map D.str := by rw [cutS_from (n := k) rfl (by rw [List.length_map]; omega), List.map_drop]
  have bt : ∀ n, ∀ r ∈ rows.take n, r.length ≤ 6 * B + 60 := fun n r h => by have := hr r (List.mem_of_mem_take h); omega
  have bd : ∀ n, ∀ r ∈ rows.drop n, r.length ≤ 6 * B + 60 := fun n r h => by have := hr r (List.mem_of_mem_drop h); omega
  refine ⟨fun h => ?_, fun h => ?_⟩
  · refine ⟨⟨_, rfl⟩, " ", W, rfl, .inl rfl, ?_, ?_, ?_, ?_⟩
    · have e : (W.map (·.length)).sum + W.length * (" " : Str).length = szS W := by rw [show (" " : Str).length = 1 by decide +kernel, Nat.mul_one]; rfl
      rw [e]; omega
    · have := cr none (some ((k : Nat) : Int))
      show (cutL (rows.map D.str) none (some ((k : Nat) : Int))).length + 1 ≤ sizeLine
      rw [sizeLine_eq]; omega
    · have h1 := cr none (some ((k : Nat) : Int))
      have h2 := cr (some (((k : Nat) : Int) + 1)) none
      show (cutL (rows.map D.str) none (some ((k : Nat) : Int)) ++ [D.str (Txt.join " " W)]).length + (cutL (rows.map D.str) (some (((k : Nat) : Int) + 1)) none).length ≤ sizeLine
      rw [List.length_append, sizeLine_eq]
      simp only [List.length_cons, List.length_nil]
      omega
    · have hj := szS_join W
      have := (q (rows.take k ++ [Txt.join " " W] ++ rows.drop (k + 1)) x [some (.lst .ice (rows.map D.str))] (by simp; omega) (fun r hm => by
        rw [List.mem_append, List.mem_append, List.mem_singleton] at hm
        rcases hm with (hm | rfl) | hm
        · exact bt _ r hm
        · omega
        · exact bd _ r hm)).1
      rw [List.map_append, List.map_append, ← t0, ← t1] at this
      exact this
  · have h : 8 ≤ wy := by simp at h; omega
    refine ⟨?_, ?_⟩
    · have h1 := cr none (some ((k : Nat) : Int))
      have h2 := cr (some (((k : Nat) : Int) + 1)) none
      show (cutL (rows.map D.str) none (some ((k : Nat) : Int))).length + (cutL (rows.map D.str) (some (((k : Nat) : Int) + 1)) none).length ≤ sizeLine
      rw [sizeLine_eq]; omega
    refine pick_at (f := fun s : Str => D.str s) (xs := rows) a0 a1 (fun _ => rfl) fun r2 hr2 => ?_
    have lr2 := hr r2 (List.mem_of_getElem? hr2)
    refine pick_at (f := fun s : Str => D.str s) (xs := ["", "-", "- * - > -", r2]) (k := s % 4) (by omega) (by show s % 4 < 4; omega) (fun _ => rfl) fun u hu => ?_
    have lu : u.length ≤ B := by
      have := List.mem_of_getElem? hu
      simp only [List.mem_cons, List.not_mem_nil, or_false] at this
      rcases this with rfl | rfl | rfl | rfl
      · have : ("" : Str).length = 0 := by decide +kernel
        omega
      · have : ("-" : Str).length = 1 := by decide +kernel
        omega
      · have : ("- * - > -" : Str).length = 9 := by decide +kernel
        omega
      · exact lr2
    refine ⟨?_, ?_, ?_⟩
    · have := cr none (some ((k : Nat) : Int))
      show (cutL (rows.map D.str) none (some ((k : Nat) : Int))).length + 1 ≤ sizeLine
      rw [sizeLine_eq]; omega
    · have h1 := cr none (some ((k : Nat) : Int))
      have h2 := cr (some ((k : Nat) : Int)) none
      show (cutL (rows.map D.str) none (some ((k : Nat) : Int)) ++ [D.str u]).length + (cutL (rows.map D.str) (some ((k : Nat) : Int)) none).length ≤ sizeLine
      rw [List.length_append, sizeLine_eq]
      simp only [List.length_cons, List.length_nil]
      omega
    have ge : ∀ X ∈ [rows.take k ++ rows.drop (k + 1), rows.take k ++ [u] ++ rows.drop k], QD (.lst .ice (X.map D.str)) [some (bxD x), some (.lst .ice (rows.map D.str))] := fun X hX => by
      simp only [List.mem_cons, List.not_mem_nil, or_false] at hX
      refine (q X x _ ?_ ?_).2
      · rcases hX with rfl | rfl
        · simp; omega
        · simp; omega
      · intro r hm
        rcases hX with rfl | rfl
        · rcases List.mem_append.mp hm with hm | hm
          · exact bt _ r hm
          · exact bd _ r hm
        · rw [List.mem_append, List.mem_append, List.mem_singleton] at hm
          rcases hm with (hm | rfl) | hm
          · exact bt _ r hm
          · omega
          · exact bd _ r hm
    have key := pick_at (f := fun X : List Str => D.lst .ice (X.map D.str)) (xs := [rows.take k ++ rows.drop (k + 1), rows.take k ++ [u] ++ rows.drop k]) (k := wy - 8) (Q := fun d => QD d [some (bxD x), some (.lst .ice (rows.map D.str))]) (by omega) (by show wy - 8 < 2; omega) (fun _ => rfl) fun X hX => ge X (List.mem_of_getElem? hX)
    simp only [List.map_cons, List.map_nil, List.map_append] at key
    rw [← t0, ← t1, ← t2] at key
    exact key
end K54
namespace K54
open PySem PySem.Spec PyProof.Rows L2 FL Cm
set_option maxHeartbeats 0
open TL (tl)
abbrev Rs {cvB : Addr} (f : FSpec → FSpec → FSpec → FSpec → FSpec → FSpec → FSpec → FSpec → FSpec → FSpec → FSpec → RS) : RS :=
  f r_law_box r_law_scheme r_law_lengths r_law_take r_law_first_bad r_law_same_number r_law_text r_law_bent r_law_refused r_scheme_text (r_scheme_from cvB)
theorem word_len' {xs : List Int} (h : Tp xs) : (sumT xs).length ≤ 12 * xs.length + 1 := by
  unfold sumT
  split
  · have c : ("-" : Str).length = 1 := by decide +kernel
    omega
  · have := jlen (a := " ") (ys := (wp xs).map wordT) (B := 11) fun y hy => by
      obtain ⟨p, hp, rfl⟩ := List.mem_map.mp hy
      exact word_len h hp
    rw [List.length_map, show (" " : Str).length = 1 by decide +kernel] at this
    have := wp_len xs
    omega
theorem prT_len' {p : Pr} (h : PrT p) (h1 : p.l.length ≤ 5 ∧ p.r.length ≤ 5 ∧ p.o.length ≤ 5) : (prT p).length ≤ 200 := by
  have a := word_len' h.l
  have b := word_len' h.r
  have c := word_len' h.o
  have d : (" * " : Str).length = 3 := by decide +kernel
  have e : (" > " : Str).length = 3 := by decide +kernel
  unfold prT
  rw [Str.length_append, Str.length_append, Str.length_append, Str.length_append]; omega
def Bk (k : Nat) : Nat := if k = 0 then 200 else if k = 1 then 1260 else 7620
structure Rws (k : Nat) (rows : List Str) : Prop where
  ne : 1 ≤ rows.length
  len : rows.length ≤ 7 + k
  bd : ∀ r ∈ rows, r.length ≤ Bk k
theorem l1_ok {cvB : Addr} {x : Bx} {rows : List Str} {k : Nat} {s0 s1 s3 s4 s6 s7 s8 : Option D} {E : EE} {F : FL.Fin} (hk : k ≤ 1) (h : Rws k rows)
    (q : ∀ x' rows', Rws (k + 1) rows' → F.nx [s0, s1, some (bxD x'), s3, s4, some (.lst .ice (rows'.map D.str)), s6, s7, s8]) :
    @Rs cvB rb_law_l1 [s0, s1, some (bxD x), s3, s4, some (.lst .ice (rows.map D.str)), s6, s7, s8] E F := by
  have hb : 9 ≤ Bk k ∧ Bk k ≤ 5000 ∧ 6 * Bk k + 60 ≤ Bk (k + 1) := by
    have : k = 0 ∨ k = 1 := by omega
    rcases this with rfl | rfl <;> decide
  refine ⟨x, rows, Bk k, rfl, ⟨h.ne, by have := h.len; omega⟩, hb.1, hb.2.1, h.bd, fun rows' x' tl h1 h2 => ?_⟩
  have fin : ∀ rows'' : List Str, Rws (k + 1) rows'' → F.nx [s0, s1, some (bxD x'), s3, s4, some (.lst .ice (rows''.map D.str)), s6, s7, s8] := fun r hr => q x' r hr
  have one : Rws (k + 1) [("" : Str)] := ⟨by decide, by simp; omega, fun r hr => by
    rw [List.mem_singleton] at hr
    subst hr
    exact Nat.zero_le _⟩
  have two : rows' ≠ [] → Rws (k + 1) rows' := fun hne => ⟨List.length_pos_iff.mpr hne, by have := h.len; omega, fun r hr => by have := h2 r hr; omega⟩
  constructor
  · refine ⟨fun he => fin rows' (two fun e => ?_), fun he => fin [("" : Str)] one⟩
    rw [e] at he; cases he
  · refine ⟨fun he => fin rows' (two fun e => ?_), fun he => fin [("" : Str)] one⟩
    rw [e] at he; cases he
structure Sc (a b c : Nat) (ps : List Pr) : Prop where
  ha : 1 ≤ a ∧ a ≤ 5
  hb : 1 ≤ b ∧ b ≤ 5
  hc : 1 ≤ c ∧ c ≤ 5
  pr : ∀ p ∈ ps, PrT p ∧ p.l.length = a ∧ p.r.length = b ∧ p.o.length = c
  len : ps.length ≤ 6
theorem l2_ok {cvB : Addr} {x : Bx} {a b c : Nat} {ps : List Pr} {s0 s1 s4 s5 s6 s7 s8 : Option D} {E : EE} {F : FL.Fin} (h : Sc a b c ps)
    (q : ∀ x' s5 s6 s7 s8, F.nx [s0, s1, some (bxD x'), some (schD a b c ps), s4, s5, s6, s7, s8]) :
    @Rs cvB rb_law_l2 [s0, s1, some (bxD x), some (schD a b c ps), s4, s5, s6, s7, s8] E F := by
  have h1 := h.ha
  have h2 := h.hb
  have h3 := h.hc
  have hp : ∀ p ∈ ps, PrT p := fun p hp => (h.pr p hp).1
  have hl := h.len
  have hcut := sch_cut (a := a) (b := b) (c := c) (ps := ps) (by omega) (by omega) (by omega) hp
  have hlen := sch_len (a := a) (b := b) (c := c) (ps := ps) (by omega) (by omega) (by omega) hp (by omega)
  refine ⟨a, b, c, ps, rfl, by omega, hp, by omega, fun _ => ⟨by decide +kernel, by rw [sizeLine_eq]; omega, ?_⟩⟩
  rw [hcut]
  have r0 : Rws 0 (headT a b c :: ps.map prT) := ⟨by simp, by simp; omega, fun r hr => by
    rcases List.mem_cons.mp hr with rfl | hr
    · have := headT_len (a := a) (b := b) (c := c) (by omega)
      show _ ≤ 200
      omega
    · obtain ⟨p, hp', rfl⟩ := List.mem_map.mp hr
      have := h.pr p hp'
      exact prT_len' this.1 (by omega)⟩
  refine ⟨x, 2, rfl, by decide, fun v x _ v0 v1 => ?_⟩
  refine ⟨⟨by decide, by show -1000000 ≤ 1 + v; omega, by show 1 + v ≤ 1000000; omega⟩, ⟨forR_on [2, 5] [6] (fun k s => ∃ (x : Bx) (rows : List Str), s = [some (bxD x), some (.lst .ice (rows.map D.str))] ∧ Rws k rows) _ _ ⟨x, _, rfl, r0⟩ ?_ ?_⟩⟩
  · rintro i d s j hd hj ⟨x, rows, rfl, hr⟩
    obtain ⟨g6, rfl⟩ := len1 hj
    obtain ⟨rfl, hi⟩ := rgD_at hd
    have hi : 0 + (i : Int) < 1 + v := hi
    refine l1_ok (cvB := cvB) (k := i) (by omega) hr fun x' rows' hr' => ?_
    exact ⟨rfl, x', rows', rfl, hr'⟩
  · rintro s j hj ⟨x, rows, rfl, hr⟩
    obtain ⟨g6, rfl⟩ := len1 hj
    have hr : Rws (rgD 0 (1 + v)).length rows := hr
    rw [rgD_len] at hr
    have hk : (1 + v - 0).toNat ≤ 2 := by omega
    have hB : Bk (1 + v - 0).toNat ≤ 7620 := by unfold Bk; split <;> (try split) <;> omega
    have hrl := hr.len
    have hrb : ∀ r ∈ rows, r.length ≤ 7620 := fun r h => by have := hr.bd r h; omega
    have hsum := sum_len rows hrb
    have c1 : ("\n" : Str).length = 1 := by decide +kernel
    have hj1 : (rows.map (·.length)).sum + rows.length * ("\n" : Str).length ≤ 68589 := by
      rw [c1]
      have : rows.length * 7620 ≤ 9 * 7620 := Nat.mul_le_mul_right _ (by omega)
      omega
    have ht : (Txt.join "\n" rows).length ≤ 100000 := by
      have := join_len "\n" rows
      rw [← TL.join_eq] at this
      omega
    refine ⟨⟨_, rfl⟩, "\n", rows, rfl, .inl rfl, by omega, ?_⟩
    revert ht
    generalize Txt.join "\n" rows = t
    intro ht
    refine ⟨t, rfl, ht, fun _ => ?_⟩
    cases e : firstBad t with
    | some n =>
      refine ⟨t, rfl, ht, fun _ => ?_⟩
      rw [e]
      exact ⟨some n, rfl, fun _ => ⟨(fun h => nomatch h), fun _ => ⟨(fun h => nomatch h), fun _ => ⟨(fun h => nomatch h), fun _ => q x _ _ _ _⟩⟩⟩⟩
    | none =>
      refine ⟨t, rfl, ht, fun _ => ?_⟩
      rw [e]
      refine ⟨none, rfl, fun _ => ⟨(fun h => nomatch h), fun _ => ⟨fun _ => ⟨t, rfl, ht, fun i hi => absurd (e.symm.trans hi) (by simp), fun a' b' c' ps' g os => ?_⟩, fun h => nomatch h⟩⟩⟩
      obtain ⟨z1, z2, z3⟩ := schT_of g
      refine ⟨a', b', c', ps', rfl, by omega, z3, by have := g.len; omega, fun _ => ?_⟩
      rw [z1]
      exact ⟨fun h => absurd h (by simp), fun _ => q x _ _ _ _⟩
def r_law : FSpec := fun ds _ Q => ∃ ns : List Int, ds = [.ro false (ns.map D.int)] ∧ ∀ os, Q (.bl true) os
theorem rd_law {cvB : Addr} : RD_law r_law r_law_box r_law_scheme r_law_lengths r_law_take r_law_first_bad r_law_same_number r_law_text r_law_bent r_law_refused r_scheme_text (r_scheme_from cvB) := by
  rintro ds ED QD - ⟨ns, rfl, q⟩
  show @Rs cvB rb_law [some (.ro false (ns.map D.int)), none, none, none, none, none, none, none, none] _ _
  refine ⟨⟨by decide, ?_, ?_⟩, ⟨forR_on [] [1, 2, 3, 4, 5, 6, 7, 8] (fun _ s => s = []) _ _ rfl ?_ ?_⟩⟩
  · (try dsimp only); split <;> split <;> omega
  · (try dsimp only); split <;> split <;> omega
  · rintro i x s j hx hj rfl
    obtain ⟨rfl, _⟩ := rgD_at hx
    obtain ⟨e1, e2, e3, e4, e5, e6, e7, e8, rfl⟩ := len8 hj
    refine ⟨ns, _, rfl, by omega, fun x _ => ?_⟩
    refine ⟨x, 5, rfl, by decide, fun a b c x _ hs => ⟨x, 7, rfl, by decide, fun v x _ v0 v1 => ?_⟩⟩
    refine ⟨x, a, b, c, v, rfl, by omega, by omega, by omega, by omega, fun ps x _ hl hok => ?_⟩
    have hS : Sc a b c ps := ⟨by omega, by omega, by omega, fun p hp => by
      have := hok p hp
      exact ⟨⟨⟨by rw [this.ll]; omega, this.bl⟩, ⟨by rw [this.lr]; omega, this.br⟩, ⟨by rw [this.lo]; omega, this.bo⟩⟩, this.ll, this.lr, this.lo⟩, by omega⟩
    refine ⟨⟨by decide, by decide⟩, ⟨forR_on [2] [4, 5, 6, 7, 8] (fun _ s => ∃ x : Bx, s = [some (bxD x)]) _ _ ⟨x, rfl⟩ ?_ ?_⟩⟩
    · rintro i d s j hd hj ⟨x, rfl⟩
      obtain ⟨g4, g5, g6, g7, g8, rfl⟩ := len5 hj
      refine l2_ok (cvB := cvB) hS fun x' s5 s6 s7 s8 => ?_
      exact ⟨rfl, x', rfl⟩
    · rintro s j hj ⟨x, rfl⟩
      obtain ⟨g4, g5, g6, g7, g8, rfl⟩ := len5 hj
      exact ⟨rfl, rfl⟩
  · rintro s j hj rfl
    obtain ⟨e1, e2, e3, e4, e5, e6, e7, e8, rfl⟩ := len8 hj
    exact q _
end K54
namespace K54
open PySem PySem.Spec PyProof.Rows L2 FL Cm
set_option maxHeartbeats 0
section
variable {P : Program} {w : World} {K : PySem.W.Frag} {mg : Str → Option Value} {base : Heap} {A : Ad}
theorem A_law_cell_at (t : Tb K mg A) : FnOk P w K mg base (L2.CX P w) 1 A.f_law_cell_at A.fd_law_cell_at ["_law_script", "_law_k"] (FnD K 2 [] r_law_cell_at) := ok_law_cell_at (k := 0) t.D_law_cell_at t.z_len rd_law_cell_at
theorem A_law_mixed (t : Tb K mg A) : FnOk P w K mg base (L2.CX P w) 1 A.f_law_mixed A.fd_law_mixed ["_law_number_here", "_law_k"] (FnD K 2 [] r_law_mixed) := ok_law_mixed (k := 0) t.D_law_mixed rd_law_mixed
theorem A_law_box (t : Tb K mg A) : FnOk P w K mg base (L2.CX P w) 2 A.f_law_box A.fd_law_box ["_law_script", "_law_k"] (FnD K 2 [] r_law_box) := ok_law_box (k := 1) t.D_law_box t.D_law_cell_at t.D_law_mixed ((A_law_cell_at t).mono (by decide)) ((A_law_mixed t).mono (by decide)) t.z_abs t.z_int rd_law_box
theorem A_law_take (t : Tb K mg A) : FnOk P w K mg base (L2.CX P w) 2 A.f_law_take A.fd_law_take ["_law_box_here", "_law_many"] (FnD K 2 [0] r_law_take) := ok_law_take (k := 1) t.D_law_take t.D_law_mixed ((A_law_mixed t).mono (by decide)) rd_law_take
theorem A_law_number (t : Tb K mg A) : FnOk P w K mg base (L2.CX P w) 3 A.f_law_number A.fd_law_number ["_law_box_here"] (FnD K 1 [0] r_law_number) := ok_law_number (k := 2) t.D_law_number t.D_law_take ((A_law_take t).mono (by decide)) rd_law_number
theorem A_law_part (t : Tb K mg A) : FnOk P w K mg base (L2.CX P w) 4 A.f_law_part A.fd_law_part ["_law_box_here", "_law_length"] (FnD K 2 [0] r_law_part) := ok_law_part (k := 3) t.D_law_part t.D_law_number ((A_law_number t).mono (by decide)) t.z_range t.z_tuple rd_law_part
theorem A_law_scheme (t : Tb K mg A) : FnOk P w K mg base (L2.CX P w) 5 A.f_law_scheme A.fd_law_scheme ["_law_box_here", "_law_lengths_here", "_law_count"] (FnD K 3 [0] r_law_scheme) := ok_law_scheme (k := 4) t.D_law_scheme t.D_law_take t.D_law_part ((A_law_take t).mono (by decide)) ((A_law_part t).mono (by decide)) t.z_len t.z_range t.z_tuple rd_law_scheme
theorem A_law_lengths (t : Tb K mg A) : FnOk P w K mg base (L2.CX P w) 3 A.f_law_lengths A.fd_law_lengths ["_law_box_here", "_law_most"] (FnD K 2 [0] r_law_lengths) := ok_law_lengths (k := 2) t.D_law_lengths t.D_law_take ((A_law_take t).mono (by decide)) t.z_range rd_law_lengths
theorem A_law_plain (t : Tb K mg A) : FnOk P w K mg base (L2.CX P w) 1 A.f_law_plain A.fd_law_plain ["_law_word", "_law_least", "_law_most"] (FnD K 3 [] r_law_plain) := ok_law_plain (k := 0) t.D_law_plain t.z_any t.z_int t.z_len t.z_str rd_law_plain
theorem A_law_sum_fits (t : Tb K mg A) : FnOk P w K mg base (L2.CX P w) 2 A.f_law_sum_fits A.fd_law_sum_fits ["_law_words", "_law_length"] (FnD K 2 [] r_law_sum_fits) := ok_law_sum_fits (k := 1) t.D_law_sum_fits t.D_law_plain ((A_law_plain t).mono (by decide)) t.z_int t.z_len rd_law_sum_fits
theorem A_law_product_fits (t : Tb K mg A) : FnOk P w K mg base (L2.CX P w) 3 A.f_law_product_fits A.fd_law_product_fits ["_law_row", "_law_lengths_here"] (FnD K 2 [] r_law_product_fits) := ok_law_product_fits (k := 2) t.D_law_product_fits t.D_law_sum_fits ((A_law_sum_fits t).mono (by decide)) t.z_all t.z_zip rd_law_product_fits
theorem A_law_first_bad (t : Tb K mg A) : FnOk P w K mg base (L2.CX P w) 4 A.f_law_first_bad A.fd_law_first_bad ["_law_text_here"] (FnD K 1 [] r_law_first_bad) := ok_law_first_bad (k := 3) t.D_law_first_bad t.D_law_product_fits t.D_law_plain ((A_law_product_fits t).mono (by decide)) ((A_law_plain t).mono (by decide)) t.z_all t.z_enumerate t.z_int t.z_len rd_law_first_bad
theorem A_law_same_number (t : Tb K mg A) : FnOk P w K mg base (L2.CX P w) 1 A.f_law_same_number A.fd_law_same_number ["_law_found", "_law_due"] (FnD K 2 [] r_law_same_number) := ok_law_same_number (k := 0) t.D_law_same_number t.z_bool t.z_int t.z_isinstance rd_law_same_number
theorem A_law_sum (t : Tb K mg A) : FnOk P w K mg base (L2.CX P w) 1 A.f_law_sum A.fd_law_sum ["_law_part_here"] (FnD K 1 [] r_law_sum) := ok_law_sum (k := 0) t.D_law_sum t.z_enumerate t.z_str rd_law_sum
theorem A_law_text (t : Tb K mg A) : FnOk P w K mg base (L2.CX P w) 2 A.f_law_text A.fd_law_text ["_law_scheme_here"] (FnD K 1 [] r_law_text) := ok_law_text (k := 1) t.D_law_text t.D_law_sum ((A_law_sum t).mono (by decide)) t.z_str rd_law_text
theorem A_law_bent_word (t : Tb K mg A) : FnOk P w K mg base (L2.CX P w) 3 A.f_law_bent_word A.fd_law_bent_word ["_law_box_here", "_law_word"] (FnD K 2 [0] r_law_bent_word) := ok_law_bent_word (k := 2) t.D_law_bent_word t.D_law_take ((A_law_take t).mono (by decide)) t.z_len rd_law_bent_word
theorem A_law_bent (t : Tb K mg A) : FnOk P w K mg base (L2.CX P w) 4 A.f_law_bent A.fd_law_bent ["_law_box_here", "_law_rows"] (FnD K 2 [0] r_law_bent) := ok_law_bent (k := 3) t.D_law_bent t.D_law_take t.D_law_bent_word ((A_law_take t).mono (by decide)) ((A_law_bent_word t).mono (by decide)) t.z_len rd_law_bent
theorem A_plain_number (t : Tb K mg A) : FnOk P w K mg base (L2.CX P w) 1 A.f_plain_number A.fd_plain_number ["word", "most"] (FnD K 2 [] r_plain_number) := ok_plain_number (k := 0) t.D_plain_number t.z_any t.z_int t.z_len t.g_FIGURES rd_plain_number
theorem A_lengths_from (t : Tb K mg A) : FnOk P w K mg base (L2.CX P w) 2 A.f_lengths_from A.fd_lengths_from ["row"] (FnD K 1 [] r_lengths_from) := ok_lengths_from (k := 1) t.D_lengths_from t.D_plain_number ((A_plain_number t).mono (by decide)) t.z_all t.z_len t.z_tuple t.g_MOST_LENGTH rd_lengths_from
theorem A_BadRow_init (t : Tb K mg A) : FnOk P w K mg base (L2.CX P w) 1 A.f_BadRow_init A.fd_BadRow_init ["self", "row"] (spI A.cv_BadRow "row") := ok_BadRow_init t.D_BadRow_init t.xi_BadRow t.xt_TimesError t.gc_TimesError
theorem A_own_number (t : Tb K mg A) : FnOk P w K mg base (L2.CX P w) 2 A.f_own_number A.fd_own_number ["word"] (FnD K 1 [] r_own_number) := ok_own_number (k := 1) t.D_own_number t.D_plain_number ((A_plain_number t).mono (by decide)) t.g_MOST_NUMBER rd_own_number
theorem A_sum_from (t : Tb K mg A) : FnOk P w K mg base (L2.CX P w) 3 A.f_sum_from A.fd_sum_from ["text", "length"] (FnD K 2 [] r_sum_from) := ok_sum_from (k := 2) t.D_sum_from t.D_own_number t.D_plain_number ((A_own_number t).mono (by decide)) ((A_plain_number t).mono (by decide)) t.z_tuple t.g_NOUGHTS rd_sum_from
theorem A_product_from (t : Tb K mg A) : FnOk P w K mg base (L2.CX P w) 4 A.f_product_from A.fd_product_from ["row", "lengths"] (FnD K 2 [] r_product_from) := ok_product_from (k := 3) t.D_product_from t.D_sum_from ((A_sum_from t).mono (by decide)) t.z_tuple t.z_zip rd_product_from
theorem A_scheme_from (t : Tb K mg A) : FnOk P w K mg base (L2.CX P w) 5 A.f_scheme_from A.fd_scheme_from ["text"] (FnD K 1 [] (r_scheme_from A.cv_BadRow)) := ok_scheme_from (k := 4) t.D_scheme_from t.D_lengths_from t.D_BadRow_init t.D_product_from ((A_lengths_from t).mono (by decide)) (A_BadRow_init t) (by decide) ((A_product_from t).mono (by decide)) t.z_enumerate t.g_MOST_PRODUCTS t.xi_BadRow t.gc_BadRow rd_scheme_from
theorem A_law_refused (t : Tb K mg A) : FnOk P w K mg base (L2.CX P w) 6 A.f_law_refused A.fd_law_refused ["_law_text_here"] (FnD K 1 [] r_law_refused) := ok_law_refused (k := 5) t.D_law_refused t.D_scheme_from ((A_scheme_from t).mono (by decide)) t.z_isinstance t.xk_BadRow t.gc_BadRow t.gc_TimesError t.xm_BadRow_TimesError t.ki_BadRow_BadRow rd_law_refused
theorem A_sum_text (t : Tb K mg A) : FnOk P w K mg base (L2.CX P w) 1 A.f_sum_text A.fd_sum_text ["part"] (FnD K 1 [] r_sum_text) := ok_sum_text (k := 0) t.D_sum_text t.z_enumerate t.z_len t.z_str t.g_NOUGHTS rd_sum_text
theorem A_product_text (t : Tb K mg A) : FnOk P w K mg base (L2.CX P w) 2 A.f_product_text A.fd_product_text ["product"] (FnD K 1 [] r_product_text) := ok_product_text (k := 1) t.D_product_text t.D_sum_text ((A_sum_text t).mono (by decide)) rd_product_text
theorem A_scheme_text (t : Tb K mg A) : FnOk P w K mg base (L2.CX P w) 3 A.f_scheme_text A.fd_scheme_text ["scheme"] (FnD K 1 [] r_scheme_text) := ok_scheme_text (k := 2) t.D_scheme_text t.D_product_text ((A_product_text t).mono (by decide)) t.z_str rd_scheme_text
theorem A_law (t : Tb K mg A) : FnOk P w K mg base (L2.CX P w) 7 A.f_law A.fd_law ["_law_script"] (FnD K 1 [] r_law) := ok_law (k := 6) t.D_law t.D_law_box t.D_law_scheme t.D_law_lengths t.D_law_take t.D_law_first_bad t.D_law_same_number t.D_law_text t.D_law_bent t.D_law_refused t.D_scheme_text t.D_scheme_from ((A_law_box t).mono (by decide)) ((A_law_scheme t).mono (by decide)) ((A_law_lengths t).mono (by decide)) ((A_law_take t).mono (by decide)) ((A_law_first_bad t).mono (by decide)) ((A_law_same_number t).mono (by decide)) ((A_law_text t).mono (by decide)) ((A_law_bent t).mono (by decide)) ((A_law_refused t).mono (by decide)) ((A_scheme_text t).mono (by decide)) ((A_scheme_from t).mono (by decide)) t.z_len t.z_max t.z_min t.z_range rd_law
theorem all_mk {l : PySem.W.OpenLaw} {h : Heap} {fa : Addr} (X : K.In h) (G : h.Ns mainGlobals mg) (hfa : mg "law" = some (.ref fa))
    {cv_BadRow : Addr}
    {cv_TimesError : Addr}
    {f0 : Addr} {od0 an0 : Option Addr} {sl0 : Array (Option Value)} {oc0 kV0 dc0 pm0 cd0 ct0 : Value}
    (a0 : PySem.W.findIn K (.ref cv_BadRow) "__init__" = some (some (.ref f0))) (i0 : PySem.W.isFn K (.ref f0) = true) (l0 : K.lookup f0 = some ⟨oc0, od0, .func (PySem.W.fnOf "__init__" "BadRow.__init__" (defArgs s_BadRow_init) (defBody s_BadRow_init) (defScope s_BadRow_init) .none kV0 dc0 pm0 an0 cd0 ct0), sl0⟩) (c0 : PySem.W.codeIn K cd0 "BadRow.__init__" = true) (k0 : PySem.W.keepIn K (.ref f0) = true)
    {f1 : Addr} {od1 an1 : Option Addr} {sl1 : Array (Option Value)} {oc1 kV1 dc1 pm1 cd1 ct1 : Value}
    (a1 : PySem.W.nsIn K mainGlobals "sum_text" = some (some (.ref f1))) (l1 : K.lookup f1 = some ⟨oc1, od1, .func (PySem.W.fnOf "sum_text" "sum_text" (defArgs s_sum_text) (defBody s_sum_text) (defScope s_sum_text) .none kV1 dc1 pm1 an1 cd1 ct1), sl1⟩) (c1 : PySem.W.codeIn K cd1 "sum_text" = true) (k1 : PySem.W.keepIn K (.ref f1) = true)
    {f2 : Addr} {od2 an2 : Option Addr} {sl2 : Array (Option Value)} {oc2 kV2 dc2 pm2 cd2 ct2 : Value}
    (a2 : PySem.W.nsIn K mainGlobals "product_text" = some (some (.ref f2))) (l2 : K.lookup f2 = some ⟨oc2, od2, .func (PySem.W.fnOf "product_text" "product_text" (defArgs s_product_text) (defBody s_product_text) (defScope s_product_text) .none kV2 dc2 pm2 an2 cd2 ct2), sl2⟩) (c2 : PySem.W.codeIn K cd2 "product_text" = true) (k2 : PySem.W.keepIn K (.ref f2) = true)
    {f3 : Addr} {od3 an3 : Option Addr} {sl3 : Array (Option Value)} {oc3 kV3 dc3 pm3 cd3 ct3 : Value}
    (a3 : PySem.W.nsIn K mainGlobals "scheme_text" = some (some (.ref f3))) (l3 : K.lookup f3 = some ⟨oc3, od3, .func (PySem.W.fnOf "scheme_text" "scheme_text" (defArgs s_scheme_text) (defBody s_scheme_text) (defScope s_scheme_text) .none kV3 dc3 pm3 an3 cd3 ct3), sl3⟩) (c3 : PySem.W.codeIn K cd3 "scheme_text" = true) (k3 : PySem.W.keepIn K (.ref f3) = true)
    {f4 : Addr} {od4 an4 : Option Addr} {sl4 : Array (Option Value)} {oc4 kV4 dc4 pm4 cd4 ct4 : Value}
    (a4 : PySem.W.nsIn K mainGlobals "plain_number" = some (some (.ref f4))) (l4 : K.lookup f4 = some ⟨oc4, od4, .func (PySem.W.fnOf "plain_number" "plain_number" (defArgs s_plain_number) (defBody s_plain_number) (defScope s_plain_number) .none kV4 dc4 pm4 an4 cd4 ct4), sl4⟩) (c4 : PySem.W.codeIn K cd4 "plain_number" = true) (k4 : PySem.W.keepIn K (.ref f4) = true)
    {f5 : Addr} {od5 an5 : Option Addr} {sl5 : Array (Option Value)} {oc5 kV5 dc5 pm5 cd5 ct5 : Value}
    (a5 : PySem.W.nsIn K mainGlobals "own_number" = some (some (.ref f5))) (l5 : K.lookup f5 = some ⟨oc5, od5, .func (PySem.W.fnOf "own_number" "own_number" (defArgs s_own_number) (defBody s_own_number) (defScope s_own_number) .none kV5 dc5 pm5 an5 cd5 ct5), sl5⟩) (c5 : PySem.W.codeIn K cd5 "own_number" = true) (k5 : PySem.W.keepIn K (.ref f5) = true)
    {f6 : Addr} {od6 an6 : Option Addr} {sl6 : Array (Option Value)} {oc6 kV6 dc6 pm6 cd6 ct6 : Value}
    (a6 : PySem.W.nsIn K mainGlobals "sum_from" = some (some (.ref f6))) (l6 : K.lookup f6 = some ⟨oc6, od6, .func (PySem.W.fnOf "sum_from" "sum_from" (defArgs s_sum_from) (defBody s_sum_from) (defScope s_sum_from) .none kV6 dc6 pm6 an6 cd6 ct6), sl6⟩) (c6 : PySem.W.codeIn K cd6 "sum_from" = true) (k6 : PySem.W.keepIn K (.ref f6) = true)
    {f7 : Addr} {od7 an7 : Option Addr} {sl7 : Array (Option Value)} {oc7 kV7 dc7 pm7 cd7 ct7 : Value}
    (a7 : PySem.W.nsIn K mainGlobals "product_from" = some (some (.ref f7))) (l7 : K.lookup f7 = some ⟨oc7, od7, .func (PySem.W.fnOf "product_from" "product_from" (defArgs s_product_from) (defBody s_product_from) (defScope s_product_from) .none kV7 dc7 pm7 an7 cd7 ct7), sl7⟩) (c7 : PySem.W.codeIn K cd7 "product_from" = true) (k7 : PySem.W.keepIn K (.ref f7) = true)
    {f8 : Addr} {od8 an8 : Option Addr} {sl8 : Array (Option Value)} {oc8 kV8 dc8 pm8 cd8 ct8 : Value}
    (a8 : PySem.W.nsIn K mainGlobals "lengths_from" = some (some (.ref f8))) (l8 : K.lookup f8 = some ⟨oc8, od8, .func (PySem.W.fnOf "lengths_from" "lengths_from" (defArgs s_lengths_from) (defBody s_lengths_from) (defScope s_lengths_from) .none kV8 dc8 pm8 an8 cd8 ct8), sl8⟩) (c8 : PySem.W.codeIn K cd8 "lengths_from" = true) (k8 : PySem.W.keepIn K (.ref f8) = true)
    {f9 : Addr} {od9 an9 : Option Addr} {sl9 : Array (Option Value)} {oc9 kV9 dc9 pm9 cd9 ct9 : Value}
    (a9 : PySem.W.nsIn K mainGlobals "scheme_from" = some (some (.ref f9))) (l9 : K.lookup f9 = some ⟨oc9, od9, .func (PySem.W.fnOf "scheme_from" "scheme_from" (defArgs s_scheme_from) (defBody s_scheme_from) (defScope s_scheme_from) .none kV9 dc9 pm9 an9 cd9 ct9), sl9⟩) (c9 : PySem.W.codeIn K cd9 "scheme_from" = true) (k9 : PySem.W.keepIn K (.ref f9) = true)
    {f10 : Addr} {od10 an10 : Option Addr} {sl10 : Array (Option Value)} {oc10 kV10 dc10 pm10 cd10 ct10 : Value}
    (a10 : PySem.W.nsIn K mainGlobals "_law_cell_at" = some (some (.ref f10))) (l10 : K.lookup f10 = some ⟨oc10, od10, .func (PySem.W.fnOf "_law_cell_at" "_law_cell_at" (defArgs s_law_cell_at) (defBody s_law_cell_at) (defScope s_law_cell_at) .none kV10 dc10 pm10 an10 cd10 ct10), sl10⟩) (c10 : PySem.W.codeIn K cd10 "_law_cell_at" = true) (k10 : PySem.W.keepIn K (.ref f10) = true)
    {f11 : Addr} {od11 an11 : Option Addr} {sl11 : Array (Option Value)} {oc11 kV11 dc11 pm11 cd11 ct11 : Value}
    (a11 : PySem.W.nsIn K mainGlobals "_law_mixed" = some (some (.ref f11))) (l11 : K.lookup f11 = some ⟨oc11, od11, .func (PySem.W.fnOf "_law_mixed" "_law_mixed" (defArgs s_law_mixed) (defBody s_law_mixed) (defScope s_law_mixed) .none kV11 dc11 pm11 an11 cd11 ct11), sl11⟩) (c11 : PySem.W.codeIn K cd11 "_law_mixed" = true) (k11 : PySem.W.keepIn K (.ref f11) = true)
    {f12 : Addr} {od12 an12 : Option Addr} {sl12 : Array (Option Value)} {oc12 kV12 dc12 pm12 cd12 ct12 : Value}
    (a12 : PySem.W.nsIn K mainGlobals "_law_box" = some (some (.ref f12))) (l12 : K.lookup f12 = some ⟨oc12, od12, .func (PySem.W.fnOf "_law_box" "_law_box" (defArgs s_law_box) (defBody s_law_box) (defScope s_law_box) .none kV12 dc12 pm12 an12 cd12 ct12), sl12⟩) (c12 : PySem.W.codeIn K cd12 "_law_box" = true) (k12 : PySem.W.keepIn K (.ref f12) = true)
    {f13 : Addr} {od13 an13 : Option Addr} {sl13 : Array (Option Value)} {oc13 kV13 dc13 pm13 cd13 ct13 : Value}
    (a13 : PySem.W.nsIn K mainGlobals "_law_take" = some (some (.ref f13))) (l13 : K.lookup f13 = some ⟨oc13, od13, .func (PySem.W.fnOf "_law_take" "_law_take" (defArgs s_law_take) (defBody s_law_take) (defScope s_law_take) .none kV13 dc13 pm13 an13 cd13 ct13), sl13⟩) (c13 : PySem.W.codeIn K cd13 "_law_take" = true) (k13 : PySem.W.keepIn K (.ref f13) = true)
    {f14 : Addr} {od14 an14 : Option Addr} {sl14 : Array (Option Value)} {oc14 kV14 dc14 pm14 cd14 ct14 : Value}
    (a14 : PySem.W.nsIn K mainGlobals "_law_number" = some (some (.ref f14))) (l14 : K.lookup f14 = some ⟨oc14, od14, .func (PySem.W.fnOf "_law_number" "_law_number" (defArgs s_law_number) (defBody s_law_number) (defScope s_law_number) .none kV14 dc14 pm14 an14 cd14 ct14), sl14⟩) (c14 : PySem.W.codeIn K cd14 "_law_number" = true) (k14 : PySem.W.keepIn K (.ref f14) = true)
    {f15 : Addr} {od15 an15 : Option Addr} {sl15 : Array (Option Value)} {oc15 kV15 dc15 pm15 cd15 ct15 : Value}
    (a15 : PySem.W.nsIn K mainGlobals "_law_part" = some (some (.ref f15))) (l15 : K.lookup f15 = some ⟨oc15, od15, .func (PySem.W.fnOf "_law_part" "_law_part" (defArgs s_law_part) (defBody s_law_part) (defScope s_law_part) .none kV15 dc15 pm15 an15 cd15 ct15), sl15⟩) (c15 : PySem.W.codeIn K cd15 "_law_part" = true) (k15 : PySem.W.keepIn K (.ref f15) = true)
    {f16 : Addr} {od16 an16 : Option Addr} {sl16 : Array (Option Value)} {oc16 kV16 dc16 pm16 cd16 ct16 : Value}
    (a16 : PySem.W.nsIn K mainGlobals "_law_scheme" = some (some (.ref f16))) (l16 : K.lookup f16 = some ⟨oc16, od16, .func (PySem.W.fnOf "_law_scheme" "_law_scheme" (defArgs s_law_scheme) (defBody s_law_scheme) (defScope s_law_scheme) .none kV16 dc16 pm16 an16 cd16 ct16), sl16⟩) (c16 : PySem.W.codeIn K cd16 "_law_scheme" = true) (k16 : PySem.W.keepIn K (.ref f16) = true)
    {f17 : Addr} {od17 an17 : Option Addr} {sl17 : Array (Option Value)} {oc17 kV17 dc17 pm17 cd17 ct17 : Value}
    (a17 : PySem.W.nsIn K mainGlobals "_law_lengths" = some (some (.ref f17))) (l17 : K.lookup f17 = some ⟨oc17, od17, .func (PySem.W.fnOf "_law_lengths" "_law_lengths" (defArgs s_law_lengths) (defBody s_law_lengths) (defScope s_law_lengths) .none kV17 dc17 pm17 an17 cd17 ct17), sl17⟩) (c17 : PySem.W.codeIn K cd17 "_law_lengths" = true) (k17 : PySem.W.keepIn K (.ref f17) = true)
    {f18 : Addr} {od18 an18 : Option Addr} {sl18 : Array (Option Value)} {oc18 kV18 dc18 pm18 cd18 ct18 : Value}
    (a18 : PySem.W.nsIn K mainGlobals "_law_sum" = some (some (.ref f18))) (l18 : K.lookup f18 = some ⟨oc18, od18, .func (PySem.W.fnOf "_law_sum" "_law_sum" (defArgs s_law_sum) (defBody s_law_sum) (defScope s_law_sum) .none kV18 dc18 pm18 an18 cd18 ct18), sl18⟩) (c18 : PySem.W.codeIn K cd18 "_law_sum" = true) (k18 : PySem.W.keepIn K (.ref f18) = true)
    {f19 : Addr} {od19 an19 : Option Addr} {sl19 : Array (Option Value)} {oc19 kV19 dc19 pm19 cd19 ct19 : Value}
    (a19 : PySem.W.nsIn K mainGlobals "_law_text" = some (some (.ref f19))) (l19 : K.lookup f19 = some ⟨oc19, od19, .func (PySem.W.fnOf "_law_text" "_law_text" (defArgs s_law_text) (defBody s_law_text) (defScope s_law_text) .none kV19 dc19 pm19 an19 cd19 ct19), sl19⟩) (c19 : PySem.W.codeIn K cd19 "_law_text" = true) (k19 : PySem.W.keepIn K (.ref f19) = true)
    {f20 : Addr} {od20 an20 : Option Addr} {sl20 : Array (Option Value)} {oc20 kV20 dc20 pm20 cd20 ct20 : Value}
    (a20 : PySem.W.nsIn K mainGlobals "_law_plain" = some (some (.ref f20))) (l20 : K.lookup f20 = some ⟨oc20, od20, .func (PySem.W.fnOf "_law_plain" "_law_plain" (defArgs s_law_plain) (defBody s_law_plain) (defScope s_law_plain) .none kV20 dc20 pm20 an20 cd20 ct20), sl20⟩) (c20 : PySem.W.codeIn K cd20 "_law_plain" = true) (k20 : PySem.W.keepIn K (.ref f20) = true)
    {f21 : Addr} {od21 an21 : Option Addr} {sl21 : Array (Option Value)} {oc21 kV21 dc21 pm21 cd21 ct21 : Value}
    (a21 : PySem.W.nsIn K mainGlobals "_law_sum_fits" = some (some (.ref f21))) (l21 : K.lookup f21 = some ⟨oc21, od21, .func (PySem.W.fnOf "_law_sum_fits" "_law_sum_fits" (defArgs s_law_sum_fits) (defBody s_law_sum_fits) (defScope s_law_sum_fits) .none kV21 dc21 pm21 an21 cd21 ct21), sl21⟩) (c21 : PySem.W.codeIn K cd21 "_law_sum_fits" = true) (k21 : PySem.W.keepIn K (.ref f21) = true)
    {f22 : Addr} {od22 an22 : Option Addr} {sl22 : Array (Option Value)} {oc22 kV22 dc22 pm22 cd22 ct22 : Value}
    (a22 : PySem.W.nsIn K mainGlobals "_law_product_fits" = some (some (.ref f22))) (l22 : K.lookup f22 = some ⟨oc22, od22, .func (PySem.W.fnOf "_law_product_fits" "_law_product_fits" (defArgs s_law_product_fits) (defBody s_law_product_fits) (defScope s_law_product_fits) .none kV22 dc22 pm22 an22 cd22 ct22), sl22⟩) (c22 : PySem.W.codeIn K cd22 "_law_product_fits" = true) (k22 : PySem.W.keepIn K (.ref f22) = true)
    {f23 : Addr} {od23 an23 : Option Addr} {sl23 : Array (Option Value)} {oc23 kV23 dc23 pm23 cd23 ct23 : Value}
    (a23 : PySem.W.nsIn K mainGlobals "_law_first_bad" = some (some (.ref f23))) (l23 : K.lookup f23 = some ⟨oc23, od23, .func (PySem.W.fnOf "_law_first_bad" "_law_first_bad" (defArgs s_law_first_bad) (defBody s_law_first_bad) (defScope s_law_first_bad) .none kV23 dc23 pm23 an23 cd23 ct23), sl23⟩) (c23 : PySem.W.codeIn K cd23 "_law_first_bad" = true) (k23 : PySem.W.keepIn K (.ref f23) = true)
    {f24 : Addr} {od24 an24 : Option Addr} {sl24 : Array (Option Value)} {oc24 kV24 dc24 pm24 cd24 ct24 : Value}
    (a24 : PySem.W.nsIn K mainGlobals "_law_refused" = some (some (.ref f24))) (l24 : K.lookup f24 = some ⟨oc24, od24, .func (PySem.W.fnOf "_law_refused" "_law_refused" (defArgs s_law_refused) (defBody s_law_refused) (defScope s_law_refused) .none kV24 dc24 pm24 an24 cd24 ct24), sl24⟩) (c24 : PySem.W.codeIn K cd24 "_law_refused" = true) (k24 : PySem.W.keepIn K (.ref f24) = true)
    {f25 : Addr} {od25 an25 : Option Addr} {sl25 : Array (Option Value)} {oc25 kV25 dc25 pm25 cd25 ct25 : Value}
    (a25 : PySem.W.nsIn K mainGlobals "_law_same_number" = some (some (.ref f25))) (l25 : K.lookup f25 = some ⟨oc25, od25, .func (PySem.W.fnOf "_law_same_number" "_law_same_number" (defArgs s_law_same_number) (defBody s_law_same_number) (defScope s_law_same_number) .none kV25 dc25 pm25 an25 cd25 ct25), sl25⟩) (c25 : PySem.W.codeIn K cd25 "_law_same_number" = true) (k25 : PySem.W.keepIn K (.ref f25) = true)
    {f26 : Addr} {od26 an26 : Option Addr} {sl26 : Array (Option Value)} {oc26 kV26 dc26 pm26 cd26 ct26 : Value}
    (a26 : PySem.W.nsIn K mainGlobals "_law_bent_word" = some (some (.ref f26))) (l26 : K.lookup f26 = some ⟨oc26, od26, .func (PySem.W.fnOf "_law_bent_word" "_law_bent_word" (defArgs s_law_bent_word) (defBody s_law_bent_word) (defScope s_law_bent_word) .none kV26 dc26 pm26 an26 cd26 ct26), sl26⟩) (c26 : PySem.W.codeIn K cd26 "_law_bent_word" = true) (k26 : PySem.W.keepIn K (.ref f26) = true)
    {f27 : Addr} {od27 an27 : Option Addr} {sl27 : Array (Option Value)} {oc27 kV27 dc27 pm27 cd27 ct27 : Value}
    (a27 : PySem.W.nsIn K mainGlobals "_law_bent" = some (some (.ref f27))) (l27 : K.lookup f27 = some ⟨oc27, od27, .func (PySem.W.fnOf "_law_bent" "_law_bent" (defArgs s_law_bent) (defBody s_law_bent) (defScope s_law_bent) .none kV27 dc27 pm27 an27 cd27 ct27), sl27⟩) (c27 : PySem.W.codeIn K cd27 "_law_bent" = true) (k27 : PySem.W.keepIn K (.ref f27) = true)
    {f28 : Addr} {od28 an28 : Option Addr} {sl28 : Array (Option Value)} {oc28 kV28 dc28 pm28 cd28 ct28 : Value}
    (a28 : PySem.W.nsIn K mainGlobals "law" = some (some (.ref f28))) (l28 : K.lookup f28 = some ⟨oc28, od28, .func (PySem.W.fnOf "law" "law" (defArgs s_law) (defBody s_law) (defScope s_law) .none kV28 dc28 pm28 an28 cd28 ct28), sl28⟩) (c28 : PySem.W.codeIn K cd28 "law" = true) (k28 : PySem.W.keepIn K (.ref f28) = true)
    (z_abs : PySem.W.nsIn K mainGlobals "abs" = some none)
    (z_all : PySem.W.nsIn K mainGlobals "all" = some none)
    (z_any : PySem.W.nsIn K mainGlobals "any" = some none)
    (z_bool : PySem.W.nsIn K mainGlobals "bool" = some none)
    (z_enumerate : PySem.W.nsIn K mainGlobals "enumerate" = some none)
    (z_int : PySem.W.nsIn K mainGlobals "int" = some none)
    (z_isinstance : PySem.W.nsIn K mainGlobals "isinstance" = some none)
    (z_len : PySem.W.nsIn K mainGlobals "len" = some none)
    (z_max : PySem.W.nsIn K mainGlobals "max" = some none)
    (z_min : PySem.W.nsIn K mainGlobals "min" = some none)
    (z_range : PySem.W.nsIn K mainGlobals "range" = some none)
    (z_str : PySem.W.nsIn K mainGlobals "str" = some none)
    (z_tuple : PySem.W.nsIn K mainGlobals "tuple" = some none)
    (z_zip : PySem.W.nsIn K mainGlobals "zip" = some none)
    {t_FIGURES : Value} (g_FIGURES : PySem.W.nsIn K mainGlobals "FIGURES" = some (some t_FIGURES)) (v_FIGURES : KV K (.str "0123456789") t_FIGURES)
    {t_MOST_LENGTH : Tok} (g_MOST_LENGTH : PySem.W.nsIn K mainGlobals "MOST_LENGTH" = some (some (.int 81 t_MOST_LENGTH)))
    {t_MOST_NUMBER : Tok} (g_MOST_NUMBER : PySem.W.nsIn K mainGlobals "MOST_NUMBER" = some (some (.int 1000 t_MOST_NUMBER)))
    {t_MOST_PRODUCTS : Tok} (g_MOST_PRODUCTS : PySem.W.nsIn K mainGlobals "MOST_PRODUCTS" = some (some (.int 400 t_MOST_PRODUCTS)))
    {t_NOUGHTS : Value} (g_NOUGHTS : PySem.W.nsIn K mainGlobals "NOUGHTS" = some (some t_NOUGHTS)) (v_NOUGHTS : KV K (.str "-") t_NOUGHTS)
    (gc_TimesError : PySem.W.nsIn K mainGlobals "TimesError" = some (some (.ref cv_TimesError)))
    (gc_BadRow : PySem.W.nsIn K mainGlobals "BadRow" = some (some (.ref cv_BadRow)))
    (xm_BadRow_TimesError : PySem.W.exmOne K (.ref cv_BadRow) (.ref cv_TimesError) = some true)
    (ki_BadRow_BadRow : PySem.W.kitOne K (.ref cv_BadRow) (.ref cv_BadRow) = some true)
    {xnm_BadRow xqn_BadRow : Str} {xN_BadRow : Addr} {xbs_BadRow xbm_BadRow : List Value} {xsn_BadRow : List Str} {xsub_BadRow : List Value} {xab_BadRow : Bool} {xcol_BadRow : Option Bool} {xdd_BadRow : Option Addr} {x0_BadRow x1_BadRow x2_BadRow x3_BadRow x5_BadRow : Option Value}
    (xl_BadRow : K.lookup cv_BadRow = some (excClassObj xnm_BadRow xqn_BadRow cv_BadRow xN_BadRow xbs_BadRow xbm_BadRow true xsn_BadRow xsub_BadRow xab_BadRow xcol_BadRow xdd_BadRow x0_BadRow x1_BadRow x2_BadRow x3_BadRow x5_BadRow "ValueError.__new__"))
    (xr_BadRow : PySem.HandSPX.refsVE xbm_BadRow = true)
    (xs_BadRow : PySem.W.findIn K (.ref cv_BadRow) "__setattr__" = some (some (.builtin "object.__setattr__")))
    (xb_BadRow : PySem.W.subIn K (.ref cv_BadRow) (.type "BaseException") = some true)
    (xy_BadRow : PySem.W.typeIn K (.ref cv_BadRow) = some (.type "type"))
    (xp_BadRow : PySem.W.keepIn K (.ref cv_BadRow) = true)
    (xn_BadRow : PySem.W.findIn K (.ref cv_BadRow) "row" = some none)
    (xtr_TimesError : PySem.W.readsIn K cv_TimesError (.type "type") = true)
    (xtf_TimesError : PySem.W.findCls K (.ref cv_TimesError) (.type "type") "__init__" = some (.val (.builtin "ValueError.__init__")))
    (xts_TimesError : PySem.W.specialIn K (.ref cv_TimesError) "__getattribute__" = some (some (.builtin "type.__getattribute__")))
    (xkn_BadRow : PySem.W.findIn K (.ref cv_BadRow) "row" = some none)
    (xehg_BadRow : PySem.W.findIn K (.ref cv_BadRow) "__getattribute__" = some (some (.builtin "BaseException.__getattribute__")))
    (xehk_BadRow : PySem.W.findIn K (.ref cv_BadRow) "__getattr__" = some none)
    (xehs_BadRow : PySem.W.subIn K (.ref cv_BadRow) (.type "BaseException") = some true)
    (xehd_BadRow : PySem.W.hasDictIn K cv_BadRow = true)
    (xeha_BadRow : PySem.W.findIn K (.ref cv_BadRow) "__class__" = some (some (.builtin "object.__class__")))
    (xehn_BadRow : PySem.W.specialIn K (.builtin "object.__class__") "__get__" = some (some (.builtin "getset_descriptor.__get__")))
    (xeht_BadRow : PySem.W.takesIn K (.builtin "object.__class__") = some true)
    (xehm_BadRow : PySem.W.mroIn K cv_BadRow (.type "object") = some true)
    : ∃ fd : FuncData, (∀ (s : Shared) (v : Value), BindsTo s fd ⟨[v], []⟩ [("_law_script", v)]) ∧ ∀ base : Heap, K.In base → base.Ns mainGlobals mg → FnOk l.prog w K mg base (L2.CX l.prog w) 7 fa fd ["_law_script"] (FnD K 1 [] r_law) := by
  have e := hfa.symm.trans (PySem.W.mg_of X G a28)
  cases e
  have F0 := fun_mk (st := s_BadRow_init) l0 c0 k0
  have B0 := F0.binds (ps := ["self", "row"]) fun _ _ _ _ _ _ us hl => match us, hl with | [_, _], _ => rfl
  have F1 := fun_mk (st := s_sum_text) l1 c1 k1
  have B1 := F1.binds (ps := ["part"]) fun _ _ _ _ _ _ us hl => match us, hl with | [_], _ => rfl
  have F2 := fun_mk (st := s_product_text) l2 c2 k2
  have B2 := F2.binds (ps := ["product"]) fun _ _ _ _ _ _ us hl => match us, hl with | [_], _ => rfl
  have F3 := fun_mk (st := s_scheme_text) l3 c3 k3
  have B3 := F3.binds (ps := ["scheme"]) fun _ _ _ _ _ _ us hl => match us, hl with | [_], _ => rfl
  have F4 := fun_mk (st := s_plain_number) l4 c4 k4
  have B4 := F4.binds (ps := ["word", "most"]) fun _ _ _ _ _ _ us hl => match us, hl with | [_, _], _ => rfl
  have F5 := fun_mk (st := s_own_number) l5 c5 k5
  have B5 := F5.binds (ps := ["word"]) fun _ _ _ _ _ _ us hl => match us, hl with | [_], _ => rfl
  have F6 := fun_mk (st := s_sum_from) l6 c6 k6
  have B6 := F6.binds (ps := ["text", "length"]) fun _ _ _ _ _ _ us hl => match us, hl with | [_, _], _ => rfl
  have F7 := fun_mk (st := s_product_from) l7 c7 k7
  have B7 := F7.binds (ps := ["row", "lengths"]) fun _ _ _ _ _ _ us hl => match us, hl with | [_, _], _ => rfl
  have F8 := fun_mk (st := s_lengths_from) l8 c8 k8
  have B8 := F8.binds (ps := ["row"]) fun _ _ _ _ _ _ us hl => match us, hl with | [_], _ => rfl
  have F9 := fun_mk (st := s_scheme_from) l9 c9 k9
  have B9 := F9.binds (ps := ["text"]) fun _ _ _ _ _ _ us hl => match us, hl with | [_], _ => rfl
  have F10 := fun_mk (st := s_law_cell_at) l10 c10 k10
  have B10 := F10.binds (ps := ["_law_script", "_law_k"]) fun _ _ _ _ _ _ us hl => match us, hl with | [_, _], _ => rfl
  have F11 := fun_mk (st := s_law_mixed) l11 c11 k11
  have B11 := F11.binds (ps := ["_law_number_here", "_law_k"]) fun _ _ _ _ _ _ us hl => match us, hl with | [_, _], _ => rfl
  have F12 := fun_mk (st := s_law_box) l12 c12 k12
  have B12 := F12.binds (ps := ["_law_script", "_law_k"]) fun _ _ _ _ _ _ us hl => match us, hl with | [_, _], _ => rfl
  have F13 := fun_mk (st := s_law_take) l13 c13 k13
  have B13 := F13.binds (ps := ["_law_box_here", "_law_many"]) fun _ _ _ _ _ _ us hl => match us, hl with | [_, _], _ => rfl
  have F14 := fun_mk (st := s_law_number) l14 c14 k14
  have B14 := F14.binds (ps := ["_law_box_here"]) fun _ _ _ _ _ _ us hl => match us, hl with | [_], _ => rfl
  have F15 := fun_mk (st := s_law_part) l15 c15 k15
  have B15 := F15.binds (ps := ["_law_box_here", "_law_length"]) fun _ _ _ _ _ _ us hl => match us, hl with | [_, _], _ => rfl
  have F16 := fun_mk (st := s_law_scheme) l16 c16 k16
  have B16 := F16.binds (ps := ["_law_box_here", "_law_lengths_here", "_law_count"]) fun _ _ _ _ _ _ us hl => match us, hl with | [_, _, _], _ => rfl
  have F17 := fun_mk (st := s_law_lengths) l17 c17 k17
  have B17 := F17.binds (ps := ["_law_box_here", "_law_most"]) fun _ _ _ _ _ _ us hl => match us, hl with | [_, _], _ => rfl
  have F18 := fun_mk (st := s_law_sum) l18 c18 k18
  have B18 := F18.binds (ps := ["_law_part_here"]) fun _ _ _ _ _ _ us hl => match us, hl with | [_], _ => rfl
  have F19 := fun_mk (st := s_law_text) l19 c19 k19
  have B19 := F19.binds (ps := ["_law_scheme_here"]) fun _ _ _ _ _ _ us hl => match us, hl with | [_], _ => rfl
  have F20 := fun_mk (st := s_law_plain) l20 c20 k20
  have B20 := F20.binds (ps := ["_law_word", "_law_least", "_law_most"]) fun _ _ _ _ _ _ us hl => match us, hl with | [_, _, _], _ => rfl
  have F21 := fun_mk (st := s_law_sum_fits) l21 c21 k21
  have B21 := F21.binds (ps := ["_law_words", "_law_length"]) fun _ _ _ _ _ _ us hl => match us, hl with | [_, _], _ => rfl
  have F22 := fun_mk (st := s_law_product_fits) l22 c22 k22
  have B22 := F22.binds (ps := ["_law_row", "_law_lengths_here"]) fun _ _ _ _ _ _ us hl => match us, hl with | [_, _], _ => rfl
  have F23 := fun_mk (st := s_law_first_bad) l23 c23 k23
  have B23 := F23.binds (ps := ["_law_text_here"]) fun _ _ _ _ _ _ us hl => match us, hl with | [_], _ => rfl
  have F24 := fun_mk (st := s_law_refused) l24 c24 k24
  have B24 := F24.binds (ps := ["_law_text_here"]) fun _ _ _ _ _ _ us hl => match us, hl with | [_], _ => rfl
  have F25 := fun_mk (st := s_law_same_number) l25 c25 k25
  have B25 := F25.binds (ps := ["_law_found", "_law_due"]) fun _ _ _ _ _ _ us hl => match us, hl with | [_, _], _ => rfl
  have F26 := fun_mk (st := s_law_bent_word) l26 c26 k26
  have B26 := F26.binds (ps := ["_law_box_here", "_law_word"]) fun _ _ _ _ _ _ us hl => match us, hl with | [_, _], _ => rfl
  have F27 := fun_mk (st := s_law_bent) l27 c27 k27
  have B27 := F27.binds (ps := ["_law_box_here", "_law_rows"]) fun _ _ _ _ _ _ us hl => match us, hl with | [_, _], _ => rfl
  have F28 := fun_mk (st := s_law) l28 c28 k28
  have B28 := F28.binds (ps := ["_law_script"]) fun _ _ _ _ _ _ us hl => match us, hl with | [_], _ => rfl
  exact ⟨_, fun s v => .of_eq rfl, fun base _ _ => A_law (A := ⟨_, _, _, _, _, _, _, _, _, _, _, _, _, _, _, _, _, _, _, _, _, _, _, _, _, _, _, _, _, _, _, _, _, _, _, _, _, _, _, _, _, _, _, _, _, _, _, _, _, _, _, _, _, _, _, _, _, _, t_FIGURES, t_MOST_LENGTH, t_MOST_NUMBER, t_MOST_PRODUCTS, t_NOUGHTS, cv_BadRow, cv_TimesError⟩) ⟨⟨F0, B0⟩, ⟨F1, PySem.W.mg_of X G a1, B1⟩, ⟨F2, PySem.W.mg_of X G a2, B2⟩, ⟨F3, PySem.W.mg_of X G a3, B3⟩, ⟨F4, PySem.W.mg_of X G a4, B4⟩, ⟨F5, PySem.W.mg_of X G a5, B5⟩, ⟨F6, PySem.W.mg_of X G a6, B6⟩, ⟨F7, PySem.W.mg_of X G a7, B7⟩, ⟨F8, PySem.W.mg_of X G a8, B8⟩, ⟨F9, PySem.W.mg_of X G a9, B9⟩, ⟨F10, PySem.W.mg_of X G a10, B10⟩, ⟨F11, PySem.W.mg_of X G a11, B11⟩, ⟨F12, PySem.W.mg_of X G a12, B12⟩, ⟨F13, PySem.W.mg_of X G a13, B13⟩, ⟨F14, PySem.W.mg_of X G a14, B14⟩, ⟨F15, PySem.W.mg_of X G a15, B15⟩, ⟨F16, PySem.W.mg_of X G a16, B16⟩, ⟨F17, PySem.W.mg_of X G a17, B17⟩, ⟨F18, PySem.W.mg_of X G a18, B18⟩, ⟨F19, PySem.W.mg_of X G a19, B19⟩, ⟨F20, PySem.W.mg_of X G a20, B20⟩, ⟨F21, PySem.W.mg_of X G a21, B21⟩, ⟨F22, PySem.W.mg_of X G a22, B22⟩, ⟨F23, PySem.W.mg_of X G a23, B23⟩, ⟨F24, PySem.W.mg_of X G a24, B24⟩, ⟨F25, PySem.W.mg_of X G a25, B25⟩, ⟨F26, PySem.W.mg_of X G a26, B26⟩, ⟨F27, PySem.W.mg_of X G a27, B27⟩, ⟨F28, PySem.W.mg_of X G a28, B28⟩, ⟨⟨⟨_, _, _, _, _, _, _, _, _, _, _, _, _, _, _, xl_BadRow, xr_BadRow⟩, xs_BadRow, xb_BadRow, xy_BadRow, xp_BadRow⟩, xn_BadRow, a0, fn_ty i0⟩, ⟨xtr_TimesError, xtf_TimesError, xts_TimesError⟩, ⟨xkn_BadRow, ⟨xehg_BadRow, xehk_BadRow, xehs_BadRow, xehd_BadRow⟩, ⟨xehg_BadRow, xehk_BadRow, xehs_BadRow, xehd_BadRow, xeha_BadRow, xehn_BadRow, xeht_BadRow, xehm_BadRow⟩⟩, PySem.W.mg_none_of X G z_abs, PySem.W.mg_none_of X G z_all, PySem.W.mg_none_of X G z_any, PySem.W.mg_none_of X G z_bool, PySem.W.mg_none_of X G z_enumerate, PySem.W.mg_none_of X G z_int, PySem.W.mg_none_of X G z_isinstance, PySem.W.mg_none_of X G z_len, PySem.W.mg_none_of X G z_max, PySem.W.mg_none_of X G z_min, PySem.W.mg_none_of X G z_range, PySem.W.mg_none_of X G z_str, PySem.W.mg_none_of X G z_tuple, PySem.W.mg_none_of X G z_zip, ⟨PySem.W.mg_of X G g_FIGURES, v_FIGURES⟩, PySem.W.mg_of X G g_MOST_LENGTH, PySem.W.mg_of X G g_MOST_NUMBER, PySem.W.mg_of X G g_MOST_PRODUCTS, ⟨PySem.W.mg_of X G g_NOUGHTS, v_NOUGHTS⟩, PySem.W.mg_of X G gc_TimesError, PySem.W.mg_of X G gc_BadRow, xm_BadRow_TimesError, ki_BadRow_BadRow⟩⟩
end
end K54
open PySem PySem.W PyProof.Rows
set_option maxHeartbeats 0 in
theorem PySem.Challenge.cw_fewtimes_k54_texts_of_no_scheme_holds : PySem.Challenge.rw_fewtimes_k54_texts_of_no_scheme.Holds := by
  w_on; o_law; k_head; (case hw => w_witness2)
  k_fill
  refine L2.walk_of (l := PySem.Challenge.rw_fewtimes_k54_texts_of_no_scheme) (n := 63) (k := 7) (x := "_law_script") (CX := fun w => L2.CX PySem.Challenge.rw_fewtimes_k54_texts_of_no_scheme.prog w) (sp := fun w => FL.FnD _ 1 [] K54.r_law) rfl (by decide) rfl ⟨rfl, by decide, by decide⟩ (fun w h Y => PySem.W.kIn_of Y) ?F (fun _ _ a ns hl _ hS => FL.law_end hl hS ⟨ns, rfl, fun _ => rfl⟩) (fun _ _ _ _ _ h => FL.cx_none h)
  case F =>
    intro w mg fa h KX G hmg
    refine' K54.all_mk KX G hmg ?a0 ?i0 ?l0 ?c0 ?k0 ?a1 ?l1 ?c1 ?k1 ?a2 ?l2 ?c2 ?k2 ?a3 ?l3 ?c3 ?k3 ?a4 ?l4 ?c4 ?k4 ?a5 ?l5 ?c5 ?k5 ?a6 ?l6 ?c6 ?k6 ?a7 ?l7 ?c7 ?k7 ?a8 ?l8 ?c8 ?k8 ?a9 ?l9 ?c9 ?k9 ?a10 ?l10 ?c10 ?k10 ?a11 ?l11 ?c11 ?k11 ?a12 ?l12 ?c12 ?k12 ?a13 ?l13 ?c13 ?k13 ?a14 ?l14 ?c14 ?k14 ?a15 ?l15 ?c15 ?k15 ?a16 ?l16 ?c16 ?k16 ?a17 ?l17 ?c17 ?k17 ?a18 ?l18 ?c18 ?k18 ?a19 ?l19 ?c19 ?k19 ?a20 ?l20 ?c20 ?k20 ?a21 ?l21 ?c21 ?k21 ?a22 ?l22 ?c22 ?k22 ?a23 ?l23 ?c23 ?k23 ?a24 ?l24 ?c24 ?k24 ?a25 ?l25 ?c25 ?k25 ?a26 ?l26 ?c26 ?k26 ?a27 ?l27 ?c27 ?k27 ?a28 ?l28 ?c28 ?k28 ?z_abs ?z_all ?z_any ?z_bool ?z_enumerate ?z_int ?z_isinstance ?z_len ?z_max ?z_min ?z_range ?z_str ?z_tuple ?z_zip ?g_FIGURES ?v_FIGURES ?g_MOST_LENGTH ?g_MOST_NUMBER ?g_MOST_PRODUCTS ?g_NOUGHTS ?v_NOUGHTS ?gc_TimesError ?gc_BadRow ?xm_BadRow_TimesError ?ki_BadRow_BadRow ?xl_BadRow ?xr_BadRow ?xs_BadRow ?xb_BadRow ?xy_BadRow ?xp_BadRow ?xn_BadRow ?xtr_TimesError ?xtf_TimesError ?xts_TimesError ?xkn_BadRow ?xehg_BadRow ?xehk_BadRow ?xehs_BadRow ?xehd_BadRow ?xeha_BadRow ?xehn_BadRow ?xeht_BadRow ?xehm_BadRow
    (case gc_TimesError => k_is); (case gc_BadRow => k_is); (case a0 => k_is); (case i0 => k_is); (case l0 => k_is); (case c0 => k_is); (case k0 => k_is); (case a1 => k_is); (case l1 => k_is); (case c1 => k_is); (case k1 => k_is); (case a2 => k_is); (case l2 => k_is); (case c2 => k_is); (case k2 => k_is); (case a3 => k_is); (case l3 => k_is); (case c3 => k_is); (case k3 => k_is); (case a4 => k_is); (case l4 => k_is); (case c4 => k_is); (case k4 => k_is); (case a5 => k_is); (case l5 => k_is); (case c5 => k_is); (case k5 => k_is); (case a6 => k_is); (case l6 => k_is); (case c6 => k_is); (case k6 => k_is); (case a7 => k_is); (case l7 => k_is); (case c7 => k_is); (case k7 => k_is); (case a8 => k_is); (case l8 => k_is); (case c8 => k_is); (case k8 => k_is); (case a9 => k_is); (case l9 => k_is); (case c9 => k_is); (case k9 => k_is); (case a10 => k_is); (case l10 => k_is); (case c10 => k_is); (case k10 => k_is); (case a11 => k_is); (case l11 => k_is); (case c11 => k_is); (case k11 => k_is); (case a12 => k_is); (case l12 => k_is); (case c12 => k_is); (case k12 => k_is); (case a13 => k_is); (case l13 => k_is); (case c13 => k_is); (case k13 => k_is); (case a14 => k_is); (case l14 => k_is); (case c14 => k_is); (case k14 => k_is); (case a15 => k_is); (case l15 => k_is); (case c15 => k_is); (case k15 => k_is); (case a16 => k_is); (case l16 => k_is); (case c16 => k_is); (case k16 => k_is); (case a17 => k_is); (case l17 => k_is); (case c17 => k_is); (case k17 => k_is); (case a18 => k_is); (case l18 => k_is); (case c18 => k_is); (case k18 => k_is); (case a19 => k_is); (case l19 => k_is); (case c19 => k_is); (case k19 => k_is); (case a20 => k_is); (case l20 => k_is); (case c20 => k_is); (case k20 => k_is); (case a21 => k_is); (case l21 => k_is); (case c21 => k_is); (case k21 => k_is); (case a22 => k_is); (case l22 => k_is); (case c22 => k_is); (case k22 => k_is); (case a23 => k_is); (case l23 => k_is); (case c23 => k_is); (case k23 => k_is); (case a24 => k_is); (case l24 => k_is); (case c24 => k_is); (case k24 => k_is); (case a25 => k_is); (case l25 => k_is); (case c25 => k_is); (case k25 => k_is); (case a26 => k_is); (case l26 => k_is); (case c26 => k_is); (case k26 => k_is); (case a27 => k_is); (case l27 => k_is); (case c27 => k_is); (case k27 => k_is); (case a28 => k_is); (case l28 => k_is); (case c28 => k_is); (case k28 => k_is); (case z_abs => k_is); (case z_all => k_is); (case z_any => k_is); (case z_bool => k_is); (case z_enumerate => k_is); (case z_int => k_is); (case z_isinstance => k_is); (case z_len => k_is); (case z_max => k_is); (case z_min => k_is); (case z_range => k_is); (case z_str => k_is); (case z_tuple => k_is); (case z_zip => k_is); (case g_FIGURES => k_is); (case v_FIGURES => (exact FL.KV.str')); (case g_MOST_LENGTH => k_is); (case g_MOST_NUMBER => k_is); (case g_MOST_PRODUCTS => k_is); (case g_NOUGHTS => k_is); (case v_NOUGHTS => (exact FL.KV.str')); (case xm_BadRow_TimesError => kts_exm); (case ki_BadRow_BadRow => kit_is); (case xl_BadRow => k_is); (case xr_BadRow => decide +kernel); (case xs_BadRow => k_is); (case xb_BadRow => k_is); (case xy_BadRow => k_is); (case xp_BadRow => k_is); (case xn_BadRow => k_is); (case xtr_TimesError => k_is); (case xtf_TimesError => k_is); (case xts_TimesError => k_is); (case xkn_BadRow => k_is); (case xehg_BadRow => k_is); (case xehk_BadRow => k_is); (case xehs_BadRow => k_is); (case xehd_BadRow => k_is); (case xeha_BadRow => k_is); (case xehn_BadRow => k_is); (case xeht_BadRow => k_is); (case xehm_BadRow => k_is)
