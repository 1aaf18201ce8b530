import PyProof.Rows.All
import Wide.All
import OpenK.AllK
import Wide.FinOn
import HandS.ForMost
import HandS.ForExc
import HandS.Wide
import HandS.IsInst
import KE.DataEq
import HandS.TupAny
import HandS.TupMul
import HandS.NoneIn
import HandS.Ends
import HandS.EndBits
import HandS.Zip
import HandS.Rev
import HandS.SortInts
import KE.GoesEnum
import KE.GoesMore
import KE.GoesZip
import HandS.Dict
import KE.SortData
import HandS.Conv
import HandS.More
import HandS.Style
import HandS.RevTup
import KE.KDictPairs
import HandS.DictEq
import PyProof.DictMoreH
import HandS.SetKeys
import HandS.DictComp
import HandS.TupSets
import HandS.Flow
import HandS.Flt
import KE.DataMinMax
import KE.KDictCopyH
import HandS.DictTup
import HandS.ExcIs
import HandS.ExcOwn
import PyProof.ExcBaseAll.ValueError
import HandS.Text
import HandS.WordsDict
import KE.KDictWalk
import HandS.SetFor
import KE.KDictDisplayH
import HandS.TupLen
import HandS.ListItems
import HandS.ExcInit
import HandS.ExcField
import KE.KExcIs
import HandS.Iter
import PyProof.Rows.CountFlat
import PySem.Challenge.RW_fewtimes_k46_least_counts_kept
set_option Elab.async false
set_option linter.all false
set_option maxRecDepth 100000
set_option autoImplicit false
namespace FL
open PySem PySem.Spec PyProof.Rows L2
/-- an owned node's kind: frozen; owned, its parts frozen; owned, with owned parts -/
inductive Ow where
  | ice | flat | deep
  deriving Inhabited, DecidableEq
def Ow.mine : Ow → Bool
  | .ice => false
  | _ => true
def Ow.light : Ow → Bool
  | .deep => false
  | _ => true
/-- flat, or deep where a part is owned -/
def Ow.of : Bool → Ow
  | true => .deep
  | false => .flat
/-- one more part -/
def Ow.more : Ow → Bool → Ow
  | o, false => o
  | _, true => .deep
/-- data: lists, dicts, instances frozen or owned, tuples (true: with owned parts), what is only read -/
inductive D where
  | any | non | bl (b : Bool) | int (i : Int) | str (s : Str) | obj (a : Addr) | ty (n : String)
  | tup (o : Bool) (xs : List D)
  | lst (o : Ow) (xs : List D)
  | ro (t : Bool) (xs : List D)
  | dct (o : Ow) (t : Bool) (ks vs : List D)
  | ins (o : Ow) (C : Addr) (fs : List Str) (vs : List D)
  deriving Inhabited
abbrev Loc := List Nat
abbrev Tag := Addr → Option Loc
/-- a world: the tags (who owns an address), the shared heap, the whole heap -/
structure Wd where
  G : Tag
  S : Hp
  H : Hp
def skey : D → Key
  | .int i => .inl i
  | .str s => .inr s
  | _ => .inl 0
def isSKey : D → Bool
  | .int _ => true
  | .str _ => true
  | _ => false
def tkey : D → List Key
  | .tup _ ds => ds.map skey
  | _ => []
def isTKey : D → Bool
  | .tup _ ds => ds.all isSKey
  | _ => false
def keyOk (t : Bool) (k : D) : Bool := if t then isTKey k else isSKey k
/-- keys of one kind, no two alike -/
def keysOk (t : Bool) (ks : List D) : Bool := ks.all (keyOk t) && (if t then decide (ks.map tkey).Nodup else decide (ks.map skey).Nodup)
def dHO (t : Bool) (ks : List D) (vs : List V) : HO :=
  if t then .dT ((ks.map tkey).zip vs) else .dK ((ks.map skey).zip vs)
/-- it is owned, or holds what is -/
def D.own : D → Bool
  | .tup o _ => o
  | .lst o _ => o.mine
  | .dct o _ _ _ => o.mine
  | .ins o _ _ _ => o.mine
  | _ => false
def ownL : List D → Bool
  | [] => false
  | d :: ds => d.own || ownL ds
/-- a node of this kind with these parts -/
def Lt (o : Ow) (ds : List D) : Prop := o.light = true → ownL ds = false
mutual
def Rep (K : PySem.W.Frag) (w : Wd) : D → Loc → V → Prop
  | .any, _, _ => True
  | .non, _, v => v = .non
  | .bl b, _, v => v = .bl b
  | .int i, _, v => v = .int i
  | .str s, _, v => v = .str s
  | .obj a, _, v => v = .ref a
  | .ty n, _, v => v = .ty n
  | .tup o ds, ℓ, v => ∃ a vs, v = .ref a ∧ w.S a = some (.tup vs) ∧ (ds.length ≤ sizeLine ∧ (o = false → ownL ds = false)) ∧ RepL K w ds ℓ 0 vs
  | .lst o ds, ℓ, v => ∃ a vs, v = .ref a ∧ (if o.mine then w.G a = some ℓ ∧ w.H a = some (.lst vs) else w.S a = some (.lst vs)) ∧ (ds.length ≤ sizeLine ∧ Lt o ds) ∧ RepL K w ds ℓ 0 vs
  | .ro t ds, ℓ, v => ∃ a vs, v = .ref a ∧ (if t then SqT K w.S a vs else SqL K w.S a vs) ∧ (ds.length ≤ sizeLine ∧ ownL ds = false) ∧ RepL K w ds ℓ 0 vs
  | .dct o t ks ds, ℓ, v => ∃ a vs, v = .ref a ∧ (if o.mine then w.G a = some ℓ ∧ w.H a = some (dHO t ks vs) else Rd w.S a (dHO t ks vs)) ∧ (ks.length = vs.length ∧ keysOk t ks = true ∧ Lt o ds) ∧ RepL K w ds ℓ 0 vs
  | .ins o C fs ds, ℓ, v => ∃ a vs, v = .ref a ∧ (∃ dx, if o.mine then w.G a = some ℓ ∧ w.H a = some (.ins C dx (fs.zip vs)) else w.S a = some (.ins C dx (fs.zip vs))) ∧ (fs.length = vs.length ∧ Lt o ds) ∧ RepL K w ds ℓ 0 vs
def RepL (K : PySem.W.Frag) (w : Wd) : List D → Loc → Nat → List V → Prop
  | [], _, _, vs => vs = []
  | d :: ds, ℓ, j, vs => ∃ v r, vs = v :: r ∧ Rep K w d (ℓ ++ [j]) v ∧ RepL K w ds ℓ (j + 1) r
end
/-- an inner node of the data d at ℓ: the object at a, of the parts vs -/
def Nd (K : PySem.W.Frag) (w : Wd) : D → Loc → Addr → List V → Prop
  | .tup _ _, _, a, vs => w.S a = some (.tup vs)
  | .lst o _, ℓ, a, vs => if o.mine then w.G a = some ℓ ∧ w.H a = some (.lst vs) else w.S a = some (.lst vs)
  | .ro t _, _, a, vs => if t then SqT K w.S a vs else SqL K w.S a vs
  | .dct o t ks _, ℓ, a, vs => if o.mine then w.G a = some ℓ ∧ w.H a = some (dHO t ks vs) else Rd w.S a (dHO t ks vs)
  | .ins o C fs _, ℓ, a, vs => ∃ dx, if o.mine then w.G a = some ℓ ∧ w.H a = some (.ins C dx (fs.zip vs)) else w.S a = some (.ins C dx (fs.zip vs))
  | _, _, _, _ => False
/-- what is asked of an inner node's parts (n of them in the object) -/
def Sz : D → List D → Nat → Prop
  | .tup o _, ds, _ => ds.length ≤ sizeLine ∧ (o = false → ownL ds = false)
  | .lst o _, ds, _ => ds.length ≤ sizeLine ∧ Lt o ds
  | .ro _ _, ds, _ => ds.length ≤ sizeLine ∧ ownL ds = false
  | .dct o t ks _, ds, n => ks.length = n ∧ keysOk t ks = true ∧ Lt o ds
  | .ins o _ fs _, ds, n => fs.length = n ∧ Lt o ds
  | _, _, _ => False
def D.kids : D → List D
  | .tup _ ds => ds
  | .lst _ ds => ds
  | .ro _ ds => ds
  | .dct _ _ _ ds => ds
  | .ins _ _ _ ds => ds
  | _ => []
def D.withKids : D → List D → D
  | .tup o _, es => .tup o es
  | .lst o _, es => .lst o es
  | .ro t _, es => .ro t es
  | .dct o t ks _, es => .dct o t ks es
  | .ins o C fs _, es => .ins o C fs es
  | d, _ => d
def D.inner : D → Bool
  | .tup _ _ => true
  | .lst _ _ => true
  | .ro _ _ => true
  | .dct _ _ _ _ => true
  | .ins _ _ _ _ => true
  | _ => false
mutual
/-- all frozen -/
def D.frz : D → D
  | .tup o ds => match o with
    | false => .tup false ds
    | true => .tup false (frzL ds)
  | .lst o ds => match o with
    | .deep => .lst .ice (frzL ds)
    | _ => .lst .ice ds
  | .ro t ds => .ro t ds
  | .dct o t ks ds => match o with
    | .deep => .dct .ice t ks (frzL ds)
    | _ => .dct .ice t ks ds
  | .ins o C fs ds => match o with
    | .deep => .ins .ice C fs (frzL ds)
    | _ => .ins .ice C fs ds
  | .any => .any
  | .non => .non
  | .bl b => .bl b
  | .int i => .int i
  | .str s => .str s
  | .obj a => .obj a
  | .ty n => .ty n
def frzL : List D → List D
  | [] => []
  | d :: ds => d.frz :: frzL ds
end
theorem ownL_iff {ds : List D} : ownL ds = false ↔ ∀ d ∈ ds, d.own = false := by
  induction ds with
  | nil => simp [ownL]
  | cons d r ih => simp [ownL, ih]
theorem frzL_map {ds : List D} : frzL ds = ds.map D.frz := by
  induction ds with
  | nil => rfl
  | cons d r ih => simp [frzL, ih]
theorem ownL_append {a b : List D} : ownL (a ++ b) = (ownL a || ownL b) := by
  induction a with
  | nil => simp [ownL]
  | cons d r ih => simp [ownL, ih, Bool.or_assoc]
theorem frz_own (d : D) : d.frz.own = false := by
  cases d with
  | tup o ds => cases o <;> rfl
  | lst o ds => cases o <;> rfl
  | dct o t ks ds => cases o <;> rfl
  | ins o C fs ds => cases o <;> rfl
  | _ => rfl
theorem frzL_own : ∀ ds : List D, ownL (frzL ds) = false
  | [] => rfl
  | d :: ds => by simp only [frzL, ownL, frz_own d, frzL_own ds, Bool.or_self]
theorem frz_id (d : D) (h : d.own = false) : d.frz = d := by
  cases d with
  | tup o ds => cases o with
    | true => cases h
    | false => rfl
  | lst o ds => cases o <;> first | rfl | cases h
  | dct o t ks ds => cases o <;> first | rfl | cases h
  | ins o C fs ds => cases o <;> first | rfl | cases h
  | _ => rfl
theorem same_rdT {K : PySem.W.Frag} {H H' : Hp} {a : Addr} {xs : List V} (e : Same H H') (h : SqT K H a xs) : SqT K H' a xs := by
  rcases h with (h | ⟨o, h⟩) | h
  · exact .inl (.inl (e _ _ h))
  · exact .inl (.inr ⟨o, e _ _ h⟩)
  · exact .inr h
theorem ro_same {K : PySem.W.Frag} {H H' : Hp} {a : Addr} {xs : List V} {t : Bool} (e : Same H H') (h : if t then SqT K H a xs else SqL K H a xs) : if t then SqT K H' a xs else SqL K H' a xs := by
  cases t with
  | true => exact same_rdT e h
  | false => exact e.seq h
theorem rd_same {H H' : Hp} {a : Addr} {u : HO} (e : Same H H') (h : Rd H a u) : Rd H' a u := by
  rcases h with h | ⟨o, h⟩
  · exact .inl (e _ _ h)
  · exact .inr ⟨o, e _ _ h⟩
/-- what is kept for a location: its addresses' tags (moved to ℓ') and objects -/
def KeptTo (w w' : Wd) (ℓ ℓ' : Loc) : Prop := ∀ a s, w.G a = some (ℓ ++ s) → w'.G a = some (ℓ' ++ s) ∧ w'.H a = w.H a
theorem KeptTo.sub {w w' : Wd} {ℓ ℓ' : Loc} (k : KeptTo w w' ℓ ℓ') (t : Loc) : KeptTo w w' (ℓ ++ t) (ℓ' ++ t) := fun a s h => by
  rw [List.append_assoc] at h ⊢
  exact k a (t ++ s) h
/-- the addresses of a location are shared from now on -/
def FrzTo (w w' : Wd) (ℓ : Loc) : Prop := ∀ a s o, w.G a = some (ℓ ++ s) → w.H a = some o → w'.S a = some o
theorem FrzTo.sub {w w' : Wd} {ℓ : Loc} (k : FrzTo w w' ℓ) (t : Loc) : FrzTo w w' (ℓ ++ t) := fun a s o h => by
  rw [List.append_assoc] at h
  exact k a (t ++ s) o h
section
variable {K : PySem.W.Frag} {w w' : Wd}
/-- an inner node and its parts -/
theorem rep_inner {d : D} (hd : d.inner = true) {ℓ : Loc} {v : V} : Rep K w d ℓ v ↔ ∃ a vs, v = .ref a ∧ Nd K w d ℓ a vs ∧ Sz d d.kids vs.length ∧ RepL K w d.kids ℓ 0 vs := by
  cases d <;> first
    | (simp [D.inner] at hd; done)
    | (simp only [Rep, Nd, Sz, D.kids])
theorem Nd.later {d : D} {ℓ : Loc} {a : Addr} {vs : List V} {ℓ' : Loc} (h : Nd K w d ℓ a vs) (hs : Same w.S w'.S) (hk : w.G a = some ℓ → w'.G a = some ℓ' ∧ w'.H a = w.H a) : Nd K w' d ℓ' a vs := by
  have own : ∀ (o : Ow) (u : HO), (if o.mine then w.G a = some ℓ ∧ w.H a = some u else w.S a = some u) → if o.mine then w'.G a = some ℓ' ∧ w'.H a = some u else w'.S a = some u := fun o u h => by
    cases e : o.mine with
    | true =>
      rw [e] at h
      obtain ⟨k1, k2⟩ := hk h.1
      exact ⟨k1, k2.trans h.2⟩
    | false =>
      rw [e] at h
      exact hs _ _ h
  cases d with
  | tup o ds => exact hs _ _ h
  | lst o ds => exact own o _ h
  | ro t ds => exact ro_same hs h
  | dct o t ks ds =>
    simp only [Nd] at h ⊢
    cases e : o.mine with
    | true =>
      rw [e] at h
      obtain ⟨k1, k2⟩ := hk h.1
      exact ⟨k1, k2.trans h.2⟩
    | false =>
      rw [e] at h
      exact rd_same hs h
  | ins o C fs ds => obtain ⟨dx, h⟩ := h; exact ⟨dx, own o _ h⟩
  | _ => exact h.elim
/-- not owned: the node does not hang on tags -/
theorem Nd.free {d : D} {ℓ ℓ' : Loc} {a : Addr} {vs : List V} (h : Nd K w d ℓ a vs) (hs : Same w.S w'.S) (ho : d.own = false) : Nd K w' d ℓ' a vs := by
  cases d with
  | tup o ds => exact hs _ _ h
  | lst o ds => have ho : o.mine = false := ho; simp only [Nd, ho] at h ⊢; exact hs _ _ h
  | ro t ds => exact ro_same hs h
  | dct o t ks ds => have ho : o.mine = false := ho; simp only [Nd, ho] at h ⊢; exact rd_same hs h
  | ins o C fs ds => have ho : o.mine = false := ho; simp only [Nd, ho] at h ⊢; obtain ⟨dx, h⟩ := h; exact ⟨dx, hs _ _ h⟩
  | _ => exact h.elim
theorem Sz.lone {d : D} {n : Nat} (h : Sz d d.kids n) (ho : d.own = false) : ownL d.kids = false := by
  cases d with
  | tup o ds => exact h.2 ho
  | lst o ds => have ho : o.mine = false := ho; exact h.2 (by cases o <;> first | rfl | cases ho)
  | ro t ds => exact h.2
  | dct o t ks ds => have ho : o.mine = false := ho; exact h.2.2 (by cases o <;> first | rfl | cases ho)
  | ins o C fs ds => have ho : o.mine = false := ho; exact h.2 (by cases o <;> first | rfl | cases ho)
  | _ => exact h.elim
theorem leaf_rep {d : D} (hd : d.inner = false) {ℓ ℓ' : Loc} {v : V} (h : Rep K w d ℓ v) : Rep K w' d ℓ' v := by
  cases d <;> first
    | (simp [D.inner] at hd; done)
    | (simp only [Rep] at h ⊢; try exact h)
mutual
theorem Rep.to (hs : Same w.S w'.S) : ∀ (d : D) {ℓ ℓ' : Loc} {v : V}, KeptTo w w' ℓ ℓ' → Rep K w d ℓ v → Rep K w' d ℓ' v
  | .any, _, _, _, _, h => leaf_rep rfl h
  | .non, _, _, _, _, h => leaf_rep rfl h
  | .bl _, _, _, _, _, h => leaf_rep rfl h
  | .int _, _, _, _, _, h => leaf_rep rfl h
  | .str _, _, _, _, _, h => leaf_rep rfl h
  | .obj _, _, _, _, _, h => leaf_rep rfl h
  | .ty _, _, _, _, _, h => leaf_rep rfl h
  | .tup o ds, ℓ, ℓ', v, k, h => by
    rw [rep_inner rfl] at h ⊢
    obtain ⟨a, vs, e, h1, hz, h2⟩ := h
    exact ⟨a, vs, e, h1.later hs (fun z => by simpa using k a [] (by simpa using z)), hz, RepL.to hs ds k h2⟩
  | .lst o ds, ℓ, ℓ', v, k, h => by
    rw [rep_inner rfl] at h ⊢
    obtain ⟨a, vs, e, h1, hz, h2⟩ := h
    exact ⟨a, vs, e, h1.later hs (fun z => by simpa using k a [] (by simpa using z)), hz, RepL.to hs ds k h2⟩
  | .ro t ds, ℓ, ℓ', v, k, h => by
    rw [rep_inner rfl] at h ⊢
    obtain ⟨a, vs, e, h1, hz, h2⟩ := h
    exact ⟨a, vs, e, h1.later hs (fun z => by simpa using k a [] (by simpa using z)), hz, RepL.to hs ds k h2⟩
  | .dct o t ks ds, ℓ, ℓ', v, k, h => by
    rw [rep_inner rfl] at h ⊢
    obtain ⟨a, vs, e, h1, hz, h2⟩ := h
    exact ⟨a, vs, e, h1.later hs (fun z => by simpa using k a [] (by simpa using z)), hz, RepL.to hs ds k h2⟩
  | .ins o C fs ds, ℓ, ℓ', v, k, h => by
    rw [rep_inner rfl] at h ⊢
    obtain ⟨a, vs, e, h1, hz, h2⟩ := h
    exact ⟨a, vs, e, h1.later hs (fun z => by simpa using k a [] (by simpa using z)), hz, RepL.to hs ds k h2⟩
theorem RepL.to (hs : Same w.S w'.S) : ∀ (ds : List D) {ℓ ℓ' : Loc} {j : Nat} {vs : List V}, KeptTo w w' ℓ ℓ' → RepL K w ds ℓ j vs → RepL K w' ds ℓ' j vs
  | [], _, _, _, _, _, h => by simpa [RepL] using h
  | d :: ds, ℓ, ℓ', j, vs, k, h => by
    simp only [RepL] at h ⊢
    obtain ⟨v, r, e, h1, h2⟩ := h
    exact ⟨v, r, e, Rep.to hs d (k.sub [j]) h1, RepL.to hs ds k h2⟩
end
mutual
/-- without owned nodes: wherever it stands -/
theorem Rep.free (hs : Same w.S w'.S) : ∀ (d : D) {ℓ ℓ' : Loc} {v : V}, d.own = false → Rep K w d ℓ v → Rep K w' d ℓ' v
  | .any, _, _, _, _, h => leaf_rep rfl h
  | .non, _, _, _, _, h => leaf_rep rfl h
  | .bl _, _, _, _, _, h => leaf_rep rfl h
  | .int _, _, _, _, _, h => leaf_rep rfl h
  | .str _, _, _, _, _, h => leaf_rep rfl h
  | .obj _, _, _, _, _, h => leaf_rep rfl h
  | .ty _, _, _, _, _, h => leaf_rep rfl h
  | .tup o ds, ℓ, ℓ', v, k, h => by
    rw [rep_inner rfl] at h ⊢
    obtain ⟨a, vs, e, h1, hz, h2⟩ := h
    exact ⟨a, vs, e, h1.free hs k, hz, RepL.free hs ds (hz.lone k) h2⟩
  | .lst o ds, ℓ, ℓ', v, k, h => by
    rw [rep_inner rfl] at h ⊢
    obtain ⟨a, vs, e, h1, hz, h2⟩ := h
    exact ⟨a, vs, e, h1.free hs k, hz, RepL.free hs ds (hz.lone k) h2⟩
  | .ro t ds, ℓ, ℓ', v, k, h => by
    rw [rep_inner rfl] at h ⊢
    obtain ⟨a, vs, e, h1, hz, h2⟩ := h
    exact ⟨a, vs, e, h1.free hs k, hz, RepL.free hs ds (hz.lone k) h2⟩
  | .dct o t ks ds, ℓ, ℓ', v, k, h => by
    rw [rep_inner rfl] at h ⊢
    obtain ⟨a, vs, e, h1, hz, h2⟩ := h
    exact ⟨a, vs, e, h1.free hs k, hz, RepL.free hs ds (hz.lone k) h2⟩
  | .ins o C fs ds, ℓ, ℓ', v, k, h => by
    rw [rep_inner rfl] at h ⊢
    obtain ⟨a, vs, e, h1, hz, h2⟩ := h
    exact ⟨a, vs, e, h1.free hs k, hz, RepL.free hs ds (hz.lone k) h2⟩
theorem RepL.free (hs : Same w.S w'.S) : ∀ (ds : List D) {ℓ ℓ' : Loc} {j j' : Nat} {vs : List V}, ownL ds = false → RepL K w ds ℓ j vs → RepL K w' ds ℓ' j' vs
  | [], _, _, _, _, _, _, h => by simpa [RepL] using h
  | d :: ds, ℓ, ℓ', j, j', vs, k, h => by
    simp only [RepL] at h ⊢
    obtain ⟨v, r, e, h1, h2⟩ := h
    simp only [ownL, Bool.or_eq_false_iff] at k
    exact ⟨v, r, e, Rep.free hs d k.1 h1, RepL.free hs ds k.2 h2⟩
end
theorem frz_if {o : Ow} {a : Addr} {ℓ : Loc} {u : HO} (hs : Same w.S w'.S) (k : FrzTo w w' ℓ) (h : if o.mine then w.G a = some ℓ ∧ w.H a = some u else w.S a = some u) : w'.S a = some u := by
  cases e : o.mine with
  | true => rw [e] at h; exact k a [] u (by simpa using h.1) h.2
  | false => rw [e] at h; exact hs _ _ h
theorem frz_ifR {o : Ow} {a : Addr} {ℓ : Loc} {u : HO} (hs : Same w.S w'.S) (k : FrzTo w w' ℓ) (h : if o.mine then w.G a = some ℓ ∧ w.H a = some u else Rd w.S a u) : Rd w'.S a u := by
  cases e : o.mine with
  | true => rw [e] at h; exact .inl (k a [] u (by simpa using h.1) h.2)
  | false => rw [e] at h; exact rd_same hs h
mutual
theorem Rep.frz (hs : Same w.S w'.S) : ∀ (d : D) {ℓ ℓ' : Loc} {v : V}, FrzTo w w' ℓ → Rep K w d ℓ v → Rep K w' d.frz ℓ' v
  | .any, _, _, _, _, h => leaf_rep rfl h
  | .non, _, _, _, _, h => leaf_rep rfl h
  | .bl _, _, _, _, _, h => leaf_rep rfl h
  | .int _, _, _, _, _, h => leaf_rep rfl h
  | .str _, _, _, _, _, h => leaf_rep rfl h
  | .obj _, _, _, _, _, h => leaf_rep rfl h
  | .ty _, _, _, _, _, h => leaf_rep rfl h
  | .tup o ds, ℓ, ℓ', v, k, h => by
    simp only [Rep] at h
    obtain ⟨a, vs, e, h1, hz, h2⟩ := h
    cases o with
    | false => simp only [D.frz, Rep]; exact ⟨a, vs, e, hs _ _ h1, ⟨hz.1, fun _ => hz.2 rfl⟩, RepL.free hs ds (hz.2 rfl) h2⟩
    | true => simp only [D.frz, Rep]; exact ⟨a, vs, e, hs _ _ h1, ⟨by rw [frzL_map, List.length_map]; exact hz.1, fun _ => frzL_own ds⟩, RepL.frz hs ds k h2⟩
  | .lst o ds, ℓ, ℓ', v, k, h => by
    simp only [Rep] at h
    obtain ⟨a, vs, e, h1, hz, h2⟩ := h
    have h3 := frz_if hs k h1
    cases o with
    | deep => simp only [D.frz, Rep]; exact ⟨a, vs, e, h3, ⟨by rw [frzL_map, List.length_map]; exact hz.1, fun _ => frzL_own ds⟩, RepL.frz hs ds k h2⟩
    | flat => simp only [D.frz, Rep]; exact ⟨a, vs, e, h3, ⟨hz.1, fun _ => hz.2 rfl⟩, RepL.free hs ds (hz.2 rfl) h2⟩
    | ice => simp only [D.frz, Rep]; exact ⟨a, vs, e, h3, ⟨hz.1, fun _ => hz.2 rfl⟩, RepL.free hs ds (hz.2 rfl) h2⟩
  | .ro t ds, ℓ, ℓ', v, k, h => Rep.free hs (.ro t ds) rfl h
  | .dct o t ks ds, ℓ, ℓ', v, k, h => by
    simp only [Rep] at h
    obtain ⟨a, vs, e, h1, hz, h2⟩ := h
    have h3 := frz_ifR hs k h1
    cases o with
    | deep => simp only [D.frz, Rep]; exact ⟨a, vs, e, h3, ⟨hz.1, hz.2.1, fun _ => frzL_own ds⟩, RepL.frz hs ds k h2⟩
    | flat => simp only [D.frz, Rep]; exact ⟨a, vs, e, h3, ⟨hz.1, hz.2.1, fun _ => hz.2.2 rfl⟩, RepL.free hs ds (hz.2.2 rfl) h2⟩
    | ice => simp only [D.frz, Rep]; exact ⟨a, vs, e, h3, ⟨hz.1, hz.2.1, fun _ => hz.2.2 rfl⟩, RepL.free hs ds (hz.2.2 rfl) h2⟩
  | .ins o C fs ds, ℓ, ℓ', v, k, h => by
    simp only [Rep] at h
    obtain ⟨a, vs, e, ⟨dx, h1⟩, hz, h2⟩ := h
    have h3 := frz_if hs k h1
    cases o with
    | deep => simp only [D.frz, Rep]; exact ⟨a, vs, e, ⟨dx, h3⟩, ⟨hz.1, fun _ => frzL_own ds⟩, RepL.frz hs ds k h2⟩
    | flat => simp only [D.frz, Rep]; exact ⟨a, vs, e, ⟨dx, h3⟩, ⟨hz.1, fun _ => hz.2 rfl⟩, RepL.free hs ds (hz.2 rfl) h2⟩
    | ice => simp only [D.frz, Rep]; exact ⟨a, vs, e, ⟨dx, h3⟩, ⟨hz.1, fun _ => hz.2 rfl⟩, RepL.free hs ds (hz.2 rfl) h2⟩
theorem RepL.frz (hs : Same w.S w'.S) : ∀ (ds : List D) {ℓ ℓ' : Loc} {j j' : Nat} {vs : List V}, FrzTo w w' ℓ → RepL K w ds ℓ j vs → RepL K w' (frzL ds) ℓ' j' vs
  | [], _, _, _, _, _, _, h => by simpa [RepL, frzL] using h
  | d :: ds, ℓ, ℓ', j, j', vs, k, h => by
    simp only [RepL, frzL] at h ⊢
    obtain ⟨v, r, e, h1, h2⟩ := h
    exact ⟨v, r, e, Rep.frz hs d (k.sub [j]) h1, RepL.frz hs ds k h2⟩
end
theorem RepL.length : ∀ {ds : List D} {ℓ : Loc} {j : Nat} {vs : List V}, RepL K w ds ℓ j vs → vs.length = ds.length
  | [], _, _, _, h => by simp only [RepL] at h; rw [h]; rfl
  | d :: ds, _, _, _, h => by
    simp only [RepL] at h
    obtain ⟨v, r, e, _, h2⟩ := h
    rw [e, List.length_cons, List.length_cons, RepL.length h2]
theorem RepL.get : ∀ {ds : List D} {ℓ : Loc} {j : Nat} {vs : List V} {i : Nat} {d : D}, RepL K w ds ℓ j vs → ds[i]? = some d → ∃ v, vs[i]? = some v ∧ Rep K w d (ℓ ++ [j + i]) v
  | [], _, _, _, _, _, _, e => by simp at e
  | d :: ds, ℓ, j, vs, 0, d', h, e => by
    simp only [RepL] at h
    obtain ⟨v, r, e1, h1, h2⟩ := h
    obtain rfl : d = d' := by simpa using e
    exact ⟨v, by rw [e1]; rfl, by simpa using h1⟩
  | d :: ds, ℓ, j, vs, i + 1, d', h, e => by
    simp only [RepL] at h
    obtain ⟨v, r, e1, h1, h2⟩ := h
    obtain ⟨v', e2, h3⟩ := RepL.get (i := i) (d := d') h2 (by simpa using e)
    refine ⟨v', by rw [e1]; simpa using e2, ?_⟩
    rw [show j + (i + 1) = j + 1 + i by omega]
    exact h3
/-- lists by their places -/
theorem RepL.of : ∀ {ds : List D} {ℓ : Loc} {j : Nat} {vs : List V}, vs.length = ds.length → (∀ i d v, ds[i]? = some d → vs[i]? = some v → Rep K w d (ℓ ++ [j + i]) v) → RepL K w ds ℓ j vs
  | [], _, _, vs, hl, _ => by simp only [RepL]; exact List.length_eq_zero_iff.mp (by simpa using hl)
  | d :: ds, ℓ, j, [], hl, _ => by simp at hl
  | d :: ds, ℓ, j, v :: vs, hl, h => by
    simp only [RepL]
    refine ⟨v, vs, rfl, by simpa using h 0 d v rfl rfl, RepL.of (by simpa using hl) fun i d' v' e1 e2 => ?_⟩
    rw [show j + 1 + i = j + (i + 1) by omega]
    exact h (i + 1) d' v' (by simpa using e1) (by simpa using e2)
theorem RepL.app {ds es : List D} {ℓ : Loc} {j : Nat} {vs us : List V} (h : RepL K w ds ℓ j vs) (g : RepL K w es ℓ (j + ds.length) us) : RepL K w (ds ++ es) ℓ j (vs ++ us) := by
  induction ds generalizing j vs with
  | nil => simp only [RepL] at h; subst h; simpa using g
  | cons d ds ih =>
    simp only [RepL] at h
    obtain ⟨v, r, rfl, h1, h2⟩ := h
    simp only [List.cons_append, RepL]
    refine ⟨v, r ++ us, rfl, h1, ih h2 ?_⟩
    rw [List.length_cons, show j + (ds.length + 1) = j + 1 + ds.length by omega] at g
    exact g
theorem RepL.one {d : D} {ℓ : Loc} {j : Nat} {v : V} (h : Rep K w d (ℓ ++ [j]) v) : RepL K w [d] ℓ j [v] := by
  simp only [RepL]
  exact ⟨v, [], rfl, h, rfl⟩
theorem RepL.set {ds : List D} {ℓ : Loc} {j : Nat} {vs : List V} {i : Nat} {d : D} {v : V} (h : RepL K w ds ℓ j vs) (g : Rep K w d (ℓ ++ [j + i]) v) : RepL K w (ds.set i d) ℓ j (vs.set i v) := by
  refine RepL.of (by rw [List.length_set, List.length_set, h.length]) fun i' d' v' e1 e2 => ?_
  by_cases hi : i' = i
  · subst hi
    have h1 : i' < ds.length := by
      have := (List.getElem?_eq_some_iff.mp e1).1
      simpa using this
    rw [List.getElem?_set_self h1] at e1
    rw [List.getElem?_set_self (by rw [h.length]; exact h1)] at e2
    cases e1; cases e2
    exact g
  · rw [List.getElem?_set_ne (Ne.symm hi)] at e1 e2
    obtain ⟨v2, e3, r⟩ := h.get e1
    rw [e2] at e3; cases e3
    exact r
end
end FL
namespace FL
open PySem PySem.Spec PyProof.Rows L2
abbrev Sl := L2.St
/-- an environment: what each name holds -/
abbrev En := List (Option D)
/-- what is wished of an exception: class, fields, environment -/
abbrev EE := Value → Option (List (Str × D)) → En → Prop
abbrev RE := En → EE → (D → En → Prop) → Prop
abbrev RT := En → EE → (Bool → En → Prop) → Prop
/-- an argument: a value, or a name lent -/
inductive AD where
  | val (d : D) | brw (i : Nat)
abbrev RA := En → EE → (List AD → En → Prop) → Prop
structure Fin where
  nx : En → Prop
  rt : D → En → Prop
  bk : En → Prop := fun _ => False
  ct : En → Prop := fun _ => False
abbrev RS := En → EE → Fin → Prop
/-- the names laid out one by one -/
def nf : En → (En → Prop) → Prop
  | [], k => k []
  | a :: r, k => nf r fun r' => k (a :: r')
theorem nf_eq : ∀ (ρ : En) (k : En → Prop), nf ρ k = k ρ
  | [], _ => rfl
  | a :: r, k => nf_eq r _
theorem nf_of {ρ : En} {k : En → Prop} (h : nf ρ k) : k ρ := by rw [nf_eq] at h; exact h
def Fin.wn (F : Fin) (k : En → Prop) : Fin := ⟨k, F.rt, F.bk, F.ct⟩
/-- the ends of a loop's body -/
def Fin.lp (F : Fin) (k : En → Prop) : Fin := ⟨k, F.rt, F.nx, k⟩
/-- a fixed location: a caller's (0), or an elder temporary's -/
def Fixed (n τ : Nat) (ℓ : Loc) : Prop := ∃ h r, ℓ = h :: r ∧ (h = 0 ∨ (n < h ∧ h < τ))
structure Ext (n τ : Nat) (w w' : Wd) : Prop where
  s : Same w.S w'.S
  f : ∀ a ℓ, w.G a = some ℓ → Fixed n τ ℓ → w'.G a = some ℓ ∧ w'.H a = w.H a
theorem Fixed.mono {n τ τ' : Nat} {ℓ : Loc} (h : Fixed n τ ℓ) (k : τ ≤ τ') : Fixed n τ' ℓ := by
  obtain ⟨a, r, e, q⟩ := h
  exact ⟨a, r, e, by omega⟩
theorem Ext.refl {n τ : Nat} {w : Wd} : Ext n τ w w := ⟨Same.refl _, fun _ _ h _ => ⟨h, rfl⟩⟩
theorem Ext.trans {n τ : Nat} {w w1 w2 : Wd} (a : Ext n τ w w1) (b : Ext n τ w1 w2) : Ext n τ w w2 :=
  ⟨a.s.trans b.s, fun x ℓ h k => by
    obtain ⟨h1, e1⟩ := a.f x ℓ h k
    obtain ⟨h2, e2⟩ := b.f x ℓ h1 k
    exact ⟨h2, e2.trans e1⟩⟩
theorem Ext.mono {n τ τ' : Nat} {w w' : Wd} (a : Ext n τ' w w') (k : τ ≤ τ') : Ext n τ w w' := ⟨a.s, fun x ℓ h f => a.f x ℓ h (f.mono k)⟩
theorem Ext.rep {n τ : Nat} {K : PySem.W.Frag} {w w' : Wd} (a : Ext n τ w w') {d : D} {h : Nat} {r : Loc} {v : V} (k : n < h ∧ h < τ) (q : Rep K w d (h :: r) v) : Rep K w' d (h :: r) v :=
  q.to a.s d fun x s e => a.f x _ e ⟨h, r ++ s, by simp, .inr k⟩
/-- a sound world -/
structure Wf (w : Wd) : Prop where
  sh : Same w.S w.H
  tg : ∀ a ℓ, w.G a = some ℓ → w.S a = none ∧ Mut (w.H a)
structure StE (K : PySem.W.Frag) (w : Wd) (σ : Sl) (ρ : En) : Prop where
  wf : Wf w
  len : σ.length = ρ.length
  rep : ∀ i d, ρ[i]? = some (some d) → ∃ v, σ[i]? = some (some v) ∧ Rep K w d [i + 1] v
def XRepr (K : PySem.W.Frag) (w : Wd) : Option Addr → Option (List (Str × D)) → Prop
  | none, none => True
  | some a, some fs => ∃ vs, w.S a = some (.xd ((fs.map (·.1)).zip vs)) ∧ fs.length = vs.length ∧ ownL (fs.map (·.2)) = false ∧ RepL K w (fs.map (·.2)) [] 0 vs
  | _, _ => False
/-- the world in an expression's end -/
structure EndE (K : PySem.W.Frag) (τ : Nat) (w : Wd) (σ : Sl) (ρ ρ' : En) (w' : Wd) : Prop where
  len : ρ'.length = ρ.length
  st : StE K w' σ ρ'
  ext : Ext ρ.length τ w w'
theorem EndE.trans {K : PySem.W.Frag} {τ τ' : Nat} {w w1 w2 : Wd} {σ : Sl} {ρ ρ1 ρ2 : En} (a : EndE K τ w σ ρ ρ1 w1) (b : EndE K τ' w1 σ ρ1 ρ2 w2) (k : τ ≤ τ') : EndE K τ w σ ρ ρ2 w2 :=
  ⟨b.len.trans a.len, b.st, a.ext.trans (by have := b.ext.mono k; rw [a.len] at this; exact this)⟩
def SX (K : PySem.W.Frag) (W : WX) (τ : Nat) (w : Wd) (σ : Sl) (ρ : En) (E : EE) : Prop :=
  ∀ c fs ρ' w' x, E c fs ρ' → EndE K τ w σ ρ ρ' w' → XRepr K w' x fs → W c x σ w'.H
theorem SX.then {K : PySem.W.Frag} {W : WX} {τ τ' : Nat} {w w1 : Wd} {σ : Sl} {ρ ρ1 : En} {E : EE} (x : SX K W τ w σ ρ E) (a : EndE K τ w σ ρ ρ1 w1) (k : τ ≤ τ') : SX K W τ' w1 σ ρ1 E :=
  fun c fs ρ' w' d h e r => x c fs ρ' w' d h (a.trans e k) r
def SE (K : PySem.W.Frag) (W : WX) (t : TE) (r : RE) : Prop :=
  ∀ (τ : Nat) (w : Wd) (σ : Sl) (ρ : En) (E : EE) (Q : D → En → Prop) (Qv : VK), ρ.length < τ → StE K w σ ρ → r ρ E Q →
    (∀ d ρ' w' v, Q d ρ' → EndE K τ w σ ρ ρ' w' → Rep K w' d [τ] v → Qv v w'.H) → SX K W τ w σ ρ E → t σ w.H Qv
def STt (K : PySem.W.Frag) (W : WX) (t : TT) (r : RT) : Prop :=
  ∀ (τ : Nat) (w : Wd) (σ : Sl) (ρ : En) (E : EE) (Q : Bool → En → Prop) (Qv : Bool → Hp → Prop), ρ.length < τ → StE K w σ ρ → r ρ E Q →
    (∀ b ρ' w', Q b ρ' → EndE K τ w σ ρ ρ' w' → Qv b w'.H) → SX K W τ w σ ρ E → t σ w.H Qv
/-- arguments: values at τ, τ + 1, .. -/
def ArgsAt (K : PySem.W.Frag) (w : Wd) (σ : Sl) : List AD → Nat → List V → Prop
  | [], _, vs => vs = []
  | .val d :: r, τ, vs => ∃ v us, vs = v :: us ∧ Rep K w d [τ] v ∧ ArgsAt K w σ r (τ + 1) us
  | .brw i :: r, τ, vs => ∃ v us, vs = v :: us ∧ σ[i]? = some (some v) ∧ ArgsAt K w σ r (τ + 1) us
def SA (K : PySem.W.Frag) (W : WX) (k : Nat) (t : TA) (r : RA) : Prop :=
  ∀ (τ : Nat) (w : Wd) (σ : Sl) (ρ : En) (E : EE) (Q : List AD → En → Prop) (Qv : List V → Hp → Prop), ρ.length < τ → StE K w σ ρ → r ρ E Q →
    (∀ ads ρ' w' vs, Q ads ρ' → ads.length = k → EndE K τ w σ ρ ρ' w' → ArgsAt K w' σ ads τ vs → Qv vs w'.H) → SX K W τ w σ ρ E → t σ w.H Qv
/-- the names of M are not stored anew -/
def KeepM (M : List Nat) (σ σ' : Sl) : Prop := ∀ i ∈ M, σ'[i]? = σ[i]?
structure EndS (K : PySem.W.Frag) (M : List Nat) (w : Wd) (σ : Sl) (ρ : En) (w' : Wd) (σ' : Sl) (ρ' : En) : Prop where
  len : ρ'.length = ρ.length
  st : StE K w' σ' ρ'
  ext : Ext ρ.length (ρ.length + 1) w w'
  km : KeepM M σ σ'
theorem EndS.trans {K : PySem.W.Frag} {M : List Nat} {w w1 w2 : Wd} {σ σ1 σ2 : Sl} {ρ ρ1 ρ2 : En} (a : EndS K M w σ ρ w1 σ1 ρ1) (b : EndS K M w1 σ1 ρ1 w2 σ2 ρ2) : EndS K M w σ ρ w2 σ2 ρ2 :=
  ⟨b.len.trans a.len, b.st, a.ext.trans (by have := b.ext; rw [a.len] at this; exact this), fun i hi => (b.km i hi).trans (a.km i hi)⟩
theorem EndE.s {K : PySem.W.Frag} {M : List Nat} {τ : Nat} {w w' : Wd} {σ : Sl} {ρ ρ' : En} (a : EndE K τ w σ ρ ρ' w') (h : ρ.length < τ) : EndS K M w σ ρ w' σ ρ' := ⟨a.len, a.st, a.ext.mono h, fun _ _ => rfl⟩
theorem EndS.refl {K : PySem.W.Frag} {M : List Nat} {w : Wd} {σ : Sl} {ρ : En} (h : StE K w σ ρ) : EndS K M w σ ρ w σ ρ := ⟨rfl, h, Ext.refl, fun _ _ => rfl⟩
theorem EndE.refl {K : PySem.W.Frag} {τ : Nat} {w : Wd} {σ : Sl} {ρ : En} (h : StE K w σ ρ) : EndE K τ w σ ρ ρ w := ⟨rfl, h, Ext.refl⟩
structure SF (K : PySem.W.Frag) (W : WX) (M : List Nat) (w : Wd) (σ : Sl) (ρ : En) (E : EE) (F : Fin) (D : Ends) : Prop where
  nx : ∀ ρ' w' σ', F.nx ρ' → EndS K M w σ ρ w' σ' ρ' → D.nx σ' w'.H
  rt : ∀ d ρ' w' σ' v, F.rt d ρ' → EndS K M w σ ρ w' σ' ρ' → Rep K w' d [ρ.length + 1] v → D.rt v w'.H
  bk : ∀ ρ' w' σ', F.bk ρ' → EndS K M w σ ρ w' σ' ρ' → D.bk σ' w'.H
  ct : ∀ ρ' w' σ', F.ct ρ' → EndS K M w σ ρ w' σ' ρ' → D.ct σ' w'.H
  ex : ∀ c fs ρ' w' σ' x, E c fs ρ' → EndS K M w σ ρ w' σ' ρ' → XRepr K w' x fs → W c x σ' w'.H
theorem SF.then {K : PySem.W.Frag} {W : WX} {M : List Nat} {w w1 : Wd} {σ σ1 : Sl} {ρ ρ1 : En} {E : EE} {F : Fin} {D : Ends} (x : SF K W M w σ ρ E F D) (a : EndS K M w σ ρ w1 σ1 ρ1) : SF K W M w1 σ1 ρ1 E F D :=
  ⟨fun ρ' w' σ' h e => x.nx ρ' w' σ' h (a.trans e), fun d ρ' w' σ' v h e r => x.rt d ρ' w' σ' v h (a.trans e) (by rw [a.len] at r; exact r), fun ρ' w' σ' h e => x.bk ρ' w' σ' h (a.trans e),
    fun ρ' w' σ' h e => x.ct ρ' w' σ' h (a.trans e), fun c fs ρ' w' σ' d h e r => x.ex c fs ρ' w' σ' d h (a.trans e) r⟩
theorem SF.sx {K : PySem.W.Frag} {W : WX} {M : List Nat} {w : Wd} {σ : Sl} {ρ : En} {E : EE} {F : Fin} {D : Ends} (x : SF K W M w σ ρ E F D) : SX K W (ρ.length + 1) w σ ρ E :=
  fun c fs ρ' w' d h e r => x.ex c fs ρ' w' σ d h (e.s (Nat.lt_succ_self _)) r
def SS (K : PySem.W.Frag) (W : WX) (M : List Nat) (t : TS) (r : RS) : Prop :=
  ∀ (w : Wd) (σ : Sl) (ρ : En) (E : EE) (F : Fin) (D : Ends), StE K w σ ρ → r ρ E F → SF K W M w σ ρ E F D → t D σ w.H
structure FE (X : Cx) (W : WX) (e : Expr) (r : RE) : Prop where
  ex : ∃ t, PE X e t ∧ SE X.K W t r
structure FT (X : Cx) (W : WX) (e : Expr) (r : RT) : Prop where
  ex : ∃ t, PT X e t ∧ STt X.K W t r
/-- .. whatever its whole is (and, or) -/
structure FW (X : Cx) (W : WX) (e : Expr) (r : RT) : Prop where
  ex : ∃ t, PW X e t ∧ STt X.K W t r
structure FA (X : Cx) (W : WX) (es : List Expr) (r : RA) : Prop where
  ex : ∃ t, PA X es t ∧ SA X.K W es.length t r
structure FS (X : Cx) (W : WX) (M : List Nat) (st : Stmt) (r : RS) : Prop where
  ex : ∃ t, PS X st t ∧ SS X.K W M t r
structure FSs (X : Cx) (W : WX) (M : List Nat) (st : List Stmt) (r : RS) : Prop where
  ex : ∃ t, PSs X st t ∧ SS X.K W M t r
/-- the tags renamed -/
def Wd.ren (w : Wd) (f : Loc → Option Loc) : Wd := ⟨fun a => (w.G a).bind f, w.S, w.H⟩
theorem Wf.ren {w : Wd} (h : Wf w) (f : Loc → Option Loc) : Wf (w.ren f) := ⟨h.sh, fun a ℓ e => by
  cases q : w.G a with
  | none => rw [show (w.ren f).G a = (w.G a).bind f from rfl, q] at e; cases e
  | some k => exact h.tg a k q⟩
theorem ren_at {w : Wd} {f : Loc → Option Loc} {a : Addr} {ℓ ℓ' : Loc} (h : w.G a = some ℓ) (e : f ℓ = some ℓ') : (w.ren f).G a = some ℓ' := by
  show (w.G a).bind f = some ℓ'
  rw [h]; exact e
theorem KeptTo.ren {w : Wd} {f : Loc → Option Loc} {ℓ ℓ' : Loc} (h : ∀ s, f (ℓ ++ s) = some (ℓ' ++ s)) : KeptTo w (w.ren f) ℓ ℓ' := fun a s e => ⟨ren_at e (h s), rfl⟩
theorem Rep.ren {K : PySem.W.Frag} {w : Wd} {f : Loc → Option Loc} {d : D} {ℓ ℓ' : Loc} {v : V} (q : Rep K w d ℓ v) (h : ∀ s, f (ℓ ++ s) = some (ℓ' ++ s)) : Rep K (w.ren f) d ℓ' v := Rep.to (w := w) (w' := w.ren f) (Same.refl _) d (KeptTo.ren h) q
/-- a new owned node at p -/
def Wd.new (w : Wd) (p : Addr) (ℓ : Loc) (o : HO) : Wd := ⟨fun a => if a = p then some ℓ else w.G a, w.S, upd w.H p o⟩
/-- a new shared node at p -/
def Wd.shr (w : Wd) (p : Addr) (o : HO) : Wd := ⟨w.G, upd w.S p o, upd w.H p o⟩
theorem Wf.noG {w : Wd} (h : Wf w) {p : Addr} (n : w.H p = none) : w.G p = none := by
  cases q : w.G p with
  | none => rfl
  | some k => have := (h.tg p k q).2; rw [n] at this; exact this.elim
theorem Wf.noS {w : Wd} (h : Wf w) {p : Addr} (n : w.H p = none) : w.S p = none := h.sh.free n
theorem Same.updNew {H : Hp} {p : Addr} {o : HO} (n : H p = none) : Same H (upd H p o) := fun b u e => by rw [upd_ne (ne_of_none e n)]; exact e
theorem Wf.new {w : Wd} (h : Wf w) {p : Addr} (n : w.H p = none) {ℓ : Loc} {o : HO} (m : Mut (some o)) : Wf (w.new p ℓ o) := by
  refine ⟨fun b u e => ?_, fun a k e => ?_⟩
  · show upd w.H p o b = some u
    rw [upd_ne (ne_of_none (h.sh b u e) n)]; exact h.sh b u e
  · by_cases ha : a = p
    · subst ha
      exact ⟨h.noS n, by show Mut (upd w.H a o a); rw [upd_same]; exact m⟩
    · have e' : w.G a = some k := by
        have e : (if a = p then some ℓ else w.G a) = some k := e
        rw [if_neg ha] at e; exact e
      exact ⟨(h.tg a k e').1, by show Mut (upd w.H p o a); rw [upd_ne ha]; exact (h.tg a k e').2⟩
theorem Wf.shr {w : Wd} (h : Wf w) {p : Addr} (n : w.H p = none) {o : HO} : Wf (w.shr p o) := by
  refine ⟨fun b u e => ?_, fun a k e => ?_⟩
  · show upd w.H p o b = some u
    have e : upd w.S p o b = some u := e
    by_cases hb : b = p
    · subst hb; rw [upd_same] at e ⊢; exact e
    · rw [upd_ne hb] at e ⊢; exact h.sh b u e
  · have e' : w.G a = some k := e
    have ha : a ≠ p := fun z => by rw [z, h.noG n] at e'; cases e'
    exact ⟨by show upd w.S p o a = none; rw [upd_ne ha]; exact (h.tg a k e').1, by show Mut (upd w.H p o a); rw [upd_ne ha]; exact (h.tg a k e').2⟩
theorem new_kept {w : Wd} (h : Wf w) {p : Addr} (n : w.H p = none) {ℓ k : Loc} {o : HO} : KeptTo w (w.new p ℓ o) k k := fun a s e => by
  have ha : a ≠ p := fun z => by subst z; rw [h.noG n] at e; cases e
  exact ⟨by show (if a = p then some ℓ else w.G a) = _; rw [if_neg ha]; exact e, upd_ne ha⟩
theorem shr_kept {w : Wd} (h : Wf w) {p : Addr} (n : w.H p = none) {k : Loc} {o : HO} : KeptTo w (w.shr p o) k k := fun a s e => by
  have e : w.G a = some (k ++ s) := e
  have ha : a ≠ p := fun z => by subst z; rw [h.noG n] at e; cases e
  exact ⟨e, upd_ne ha⟩
theorem shr_same {w : Wd} (h : Wf w) {p : Addr} (n : w.H p = none) {o : HO} : Same w.S (w.shr p o).S := Same.updNew (h.noS n)
theorem StE.to {K : PySem.W.Frag} {w w' : Wd} {σ : Sl} {ρ : En} (h : StE K w σ ρ) (wf : Wf w') (hs : Same w.S w'.S) (k : ∀ i, i < ρ.length → KeptTo w w' [i + 1] [i + 1]) : StE K w' σ ρ :=
  ⟨wf, h.len, fun i d e => by
    obtain ⟨v, e1, q⟩ := h.rep i d e
    exact ⟨v, e1, q.to hs d (k i (List.getElem?_eq_some_iff.mp e).1)⟩⟩
theorem EndE.new {K : PySem.W.Frag} {τ : Nat} {w : Wd} {σ : Sl} {ρ : En} (h : StE K w σ ρ) {p : Addr} (n : w.H p = none) {ℓ : Loc} {o : HO} (m : Mut (some o)) : EndE K τ w σ ρ ρ (w.new p ℓ o) :=
  ⟨rfl, h.to (h.wf.new n m) (Same.refl _) fun i _ => new_kept h.wf n, ⟨Same.refl _, fun a k e _ => by simpa using new_kept (k := k) h.wf n a [] (by simpa using e)⟩⟩
theorem EndE.shr {K : PySem.W.Frag} {τ : Nat} {w : Wd} {σ : Sl} {ρ : En} (h : StE K w σ ρ) {p : Addr} (n : w.H p = none) {o : HO} : EndE K τ w σ ρ ρ (w.shr p o) :=
  ⟨rfl, h.to (h.wf.shr n) (shr_same h.wf n) fun i _ => shr_kept h.wf n, ⟨shr_same h.wf n, fun a k e _ => by simpa using shr_kept (k := k) h.wf n a [] (by simpa using e)⟩⟩
/-- temporaries τ, τ + 1, .. (k of them) become the children of τ -/
def gather (τ k : Nat) : Loc → Option Loc
  | h :: s => if τ ≤ h ∧ h < τ + k then some (τ :: (h - τ) :: s) else some (h :: s)
  | [] => some []
/-- a renaming that leaves names and fixed locations as they are -/
structure Calm (n τ : Nat) (f : Loc → Option Loc) : Prop where
  fix : ∀ h s, h ≤ n ∨ h < τ → f (h :: s) = some (h :: s)
theorem EndE.ren {K : PySem.W.Frag} {τ : Nat} {w : Wd} {σ : Sl} {ρ : En} {f : Loc → Option Loc} (h : StE K w σ ρ) (c : Calm ρ.length τ f) : EndE K τ w σ ρ ρ (w.ren f) :=
  ⟨rfl, h.to (h.wf.ren f) (Same.refl _) fun i hi => KeptTo.ren fun s => c.fix _ _ (.inl hi), ⟨Same.refl _, fun a ℓ e ⟨x, r, e2, q⟩ => by
    subst e2
    exact ⟨ren_at e (c.fix _ _ (by omega)), rfl⟩⟩⟩
theorem gather_calm {n τ k : Nat} (h : n < τ) : Calm n τ (gather τ k) := ⟨fun a s q => by
  show (if _ then _ else _) = _
  rw [if_neg (by omega)]⟩
theorem gather_at {τ k j : Nat} (h : j < k) (s : Loc) : gather τ k ((τ + j) :: s) = some (τ :: j :: s) := by
  show (if _ then _ else _) = _
  rw [if_pos (by omega)]
  simp
end FL
namespace FL
open PySem PySem.Spec PyProof.Rows L2
abbrev RO := En → EE → (AD → En → Prop) → Prop
def AdAt (K : PySem.W.Frag) (w : Wd) (σ : Sl) : AD → Nat → V → Prop
  | .val d, τ, v => Rep K w d [τ] v
  | .brw i, _, v => σ[i]? = some (some v)
def SOp (K : PySem.W.Frag) (W : WX) (t : TE) (r : RO) : Prop :=
  ∀ (τ : Nat) (w : Wd) (σ : Sl) (ρ : En) (E : EE) (Q : AD → En → Prop) (Qv : VK), ρ.length < τ → StE K w σ ρ → r ρ E Q →
    (∀ d ρ' w' v, Q d ρ' → EndE K τ w σ ρ ρ' w' → AdAt K w' σ d τ v → Qv v w'.H) → SX K W τ w σ ρ E → t σ w.H Qv
structure FO (X : Cx) (W : WX) (e : Expr) (r : RO) : Prop where
  ex : ∃ t, PE X e t ∧ SOp X.K W t r
def oV (r : RE) : RO := fun ρ E Q => r ρ E fun d ρ' => Q (.val d) ρ'
def oN (i : Nat) : RO := fun ρ _ Q => match ρ[i]? with
  | some (some _) => Q (.brw i) ρ
  | _ => False
section
variable {X : Cx} {W : WX} {e : Expr}
theorem fo_val {r : RE} (h : FE X W e r) : FO X W e (oV r) := by
  obtain ⟨t, p, s⟩ := h.ex
  exact ⟨t, p, fun τ w σ ρ E Q Qv hn st hr hq hx => s τ w σ ρ E _ Qv hn st hr (fun d ρ' w' v q e' r' => hq (.val d) ρ' w' v q e' r') hx⟩
theorem fo_brw {i : Nat} {x : Str} {pos : Pos} (hN : X.N[i]? = some x := by rfl) (hv : Vis X.env.scope x := by first | exact Or.inl rfl | exact Or.inr (Or.inl rfl) | exact Or.inr (Or.inr rfl)) (hd : (x == ("__debug__" : Str)) = false := by decide)
    (hcd : (x == ("__classdict__" : Str)) = false := by decide) : FO X W (.Name x pos) (oN i) := by
  refine ⟨_, pe_var hN hv hd hcd, fun τ w σ ρ E Q Qv hn st hr hq hx => ?_⟩
  unfold oN at hr
  split at hr
  · rename_i d e
    obtain ⟨v, e1, r1⟩ := st.rep i d e
    exact ⟨v, e1, hq _ _ _ _ hr (EndE.refl st) e1⟩
  · exact hr.elim
end
/-- what an operand is, in the environment at hand -/
def adD (ρ : En) : AD → Option D
  | .val d => some d
  | .brw i => match ρ[i]? with
    | some (some d) => some d
    | _ => none
def on1 (ρ : En) (a : AD) (k : D → Prop) : Prop := match adD ρ a with
  | some d => k d
  | none => False
/-- a data rule of two values -/
abbrev DO := D → D → (D → Prop) → Prop
def rBin (dop : DO) (ra rb : RO) : RE := fun ρ E Q => ra ρ E fun x ρ1 => rb ρ1 E fun y ρ2 => on1 ρ2 x fun dx => on1 ρ2 y fun dy => dop dx dy fun d => Q d ρ2
def rUn (dop : D → (D → Prop) → Prop) (ra : RO) : RE := fun ρ E Q => ra ρ E fun x ρ1 => on1 ρ1 x fun dx => dop dx fun d => Q d ρ1
/-- by values: what is asked of x and y follows from what the data rule asks -/
def SOK (K : PySem.W.Frag) (r : R2) (dop : DO) : Prop :=
  ∀ (τ : Nat) (w : Wd) (σ : Sl) (ρ : En) (x y : V) (dx dy : D) (ℓ ℓ' : Loc) (Q : D → Prop) (Qv : VK), ρ.length < τ → StE K w σ ρ → Rep K w dx ℓ x → Rep K w dy ℓ' y → dop dx dy Q →
    (∀ d w' v, Q d → EndE K τ w σ ρ ρ w' → Rep K w' d [τ] v → Qv v w'.H) → r x y w.H Qv
structure FOp (X : Cx) (f : Value → Value → Sem Value) (dop : DO) : Prop where
  ex : ∃ r : R2, OpR X f r ∧ SOK X.K r dop
theorem FOp.or {X : Cx} {f : Value → Value → Sem Value} {p q : DO} (h : FOp X f p) (g : FOp X f q) : FOp X f (fun a b Q => p a b Q ∨ q a b Q) := by
  obtain ⟨r, h1, h2⟩ := h.ex
  obtain ⟨r', g1, g2⟩ := g.ex
  refine ⟨_, h1.or g1, fun τ w σ ρ x y dx dy ℓ ℓ' Q Qv hn st rx ry hd hq => ?_⟩
  rcases hd with hd | hd
  · exact .inl (h2 τ w σ ρ x y dx dy ℓ ℓ' Q Qv hn st rx ry hd hq)
  · exact .inr (g2 τ w σ ρ x y dx dy ℓ ℓ' Q Qv hn st rx ry hd hq)
theorem FOp.imp {X : Cx} {f : Value → Value → Sem Value} {p q : DO} (h : FOp X f p) (g : ∀ a b Q, q a b Q → p a b Q) : FOp X f q := by
  obtain ⟨r, h1, h2⟩ := h.ex
  exact ⟨r, h1, fun τ w σ ρ x y dx dy ℓ ℓ' Q Qv hn st rx ry hd hq => h2 τ w σ ρ x y dx dy ℓ ℓ' Q Qv hn st rx ry (g _ _ _ hd) hq⟩
section
variable {K : PySem.W.Frag} {w w' : Wd} {σ : Sl} {ρ ρ' : En} {τ : Nat}
/-- an operand, later -/
theorem ad_get {a : AD} {d : D} {v : V} (st : StE K w σ ρ) (h : AdAt K w σ a τ v) (e : adD ρ a = some d) : ∃ ℓ, Rep K w d ℓ v := by
  cases a with
  | val d' => cases e; exact ⟨_, h⟩
  | brw i =>
    simp only [adD] at e
    split at e
    · rename_i d' e'
      cases e
      obtain ⟨v', e1, r⟩ := st.rep i d e'
      rw [show σ[i]? = some (some v) from h] at e1
      cases e1
      exact ⟨_, r⟩
    · cases e
theorem AdAt.later {a : AD} {v : V} (h : AdAt K w σ a τ v) (hn : ρ.length < τ) (e : EndE K (τ + 1) w σ ρ ρ' w') : AdAt K w' σ a τ v := by
  cases a with
  | val d => exact e.ext.rep (r := []) ⟨hn, Nat.lt_succ_self _⟩ h
  | brw i => exact h
theorem on1_elim {a : AD} {k : D → Prop} (h : on1 ρ a k) : ∃ d, adD ρ a = some d ∧ k d := by
  unfold on1 at h
  split at h
  · exact ⟨_, by assumption, h⟩
  · exact h.elim
end
section
variable {X : Cx} {W : WX} {a b : Expr} {ra rb : RO} {pos : Pos}
theorem so_bin {K : PySem.W.Frag} {r : R2} {dop : DO} {ta tb : TE} (sa : SOp K W ta ra) (sb : SOp K W tb rb) (so : SOK K r dop) : SE K W (tOp r ta tb) (rBin dop ra rb) := by
  intro τ w σ ρ E Q Qv hn st hr hq hx
  refine sa τ w σ ρ E _ _ hn st hr (fun x ρ1 w1 v1 h1 e1 r1 => ?_) hx
  have hn1 : ρ1.length < τ + 1 := by rw [e1.len]; omega
  refine sb (τ + 1) w1 σ ρ1 E _ _ hn1 e1.st h1 (fun y ρ2 w2 v2 h2 e2 r2 => ?_) (hx.then e1 (Nat.le_succ _))
  obtain ⟨dx, ex, h2⟩ := on1_elim h2
  obtain ⟨dy, ey, h2⟩ := on1_elim h2
  have e12 := e1.trans e2 (Nat.le_succ _)
  obtain ⟨ℓ, rx⟩ := ad_get e12.st (r1.later (by rw [e1.len]; exact hn) e2) ex
  obtain ⟨ℓ', ry⟩ := ad_get e12.st r2 ey
  exact so τ w2 σ ρ2 v1 v2 dx dy ℓ ℓ' _ _ (by rw [e12.len]; exact hn) e12.st rx ry h2 fun d w3 v3 q e3 r3 => hq d ρ2 w3 v3 q (e12.trans e3 (Nat.le_refl _)) r3
theorem fe_op {op : Operator} {dop : DO} (ho : FOp X (binaryOp op) dop) (ha : FO X W a ra) (hb : FO X W b rb) : FE X W (.BinOp a op b pos) (rBin dop ra rb) := by
  obtain ⟨r, h1, h2⟩ := ho.ex
  obtain ⟨ta, pa, sa⟩ := ha.ex
  obtain ⟨tb, pb, sb⟩ := hb.ex
  exact ⟨_, pe_op h1 pa pb, so_bin sa sb h2⟩
theorem fe_cmp {op : CmpOp} {dop : DO} (ho : FOp X (compareOp op) dop) (ha : FO X W a ra) (hb : FO X W b rb) (hm : behindInMarks op b = false := by first | exact nomark _ | rfl) : FE X W (.Compare a [op] [b] pos) (rBin dop ra rb) := by
  obtain ⟨r, h1, h2⟩ := ho.ex
  obtain ⟨ta, pa, sa⟩ := ha.ex
  obtain ⟨tb, pb, sb⟩ := hb.ex
  exact ⟨_, pe_cmpR h1 pa pb hm, so_bin sa sb h2⟩
/-- a truth value as a test -/
def rTst (r : RE) : RT := fun ρ E Q => r ρ E fun d ρ' => match d with
  | .bl b => Q b ρ'
  | _ => False
theorem st_tst {K : PySem.W.Frag} {t : TE} {r : RE} (s : SE K W t r) : STt K W (tTest t) (rTst r) := by
  intro τ w σ ρ E Q Qv hn st hr hq hx
  refine s τ w σ ρ E _ _ hn st hr (fun d ρ' w' v h e r' => ?_) hx
  cases d with
  | bl b => exact ⟨b, r', hq b ρ' w' h e⟩
  | _ => exact h.elim
theorem ft_cmp {op : CmpOp} {dop : DO} (ho : FOp X (compareOp op) dop) (ha : FO X W a ra) (hb : FO X W b rb) (hm : behindInMarks op b = false := by first | exact nomark _ | rfl) : FT X W (.Compare a [op] [b] pos) (rTst (rBin dop ra rb)) := by
  obtain ⟨r, h1, h2⟩ := ho.ex
  obtain ⟨ta, pa, sa⟩ := ha.ex
  obtain ⟨tb, pb, sb⟩ := hb.ex
  exact ⟨_, pt_cmpR h1 pa pb hm, st_tst (so_bin sa sb h2)⟩
theorem ft_val {e : Expr} {r : RE} (h : FE X W e r) (he : ∀ whole, isTrue e X.env whole = (do let v ← whole; standAt e.pos; holding [v] (truthy v)) := by intro _; rfl) : FT X W e (rTst r) := by
  obtain ⟨t, p, s⟩ := h.ex
  exact ⟨_, pt_val p he, st_tst s⟩
end
section
variable {X : Cx} {W : WX}
/-- a name's value: frozen, it is copied; owned, it is moved -/
def rVar (i : Nat) : RE := fun ρ _ Q => match ρ[i]? with
  | some (some d) => match d.own with
    | false => Q d ρ
    | true => Q d (ρ.set i none)
  | _ => False
/-- out of slot i to τ -/
def slotTo (i τ : Nat) : Loc → Option Loc
  | h :: s => if h = i + 1 then some (τ :: s) else some (h :: s)
  | [] => some []
theorem StE.drop {K : PySem.W.Frag} {w : Wd} {σ : Sl} {ρ : En} (st : StE K w σ ρ) (i : Nat) {f : Loc → Option Loc} (hf : ∀ j s, j ≠ i → j < ρ.length → f ((j + 1) :: s) = some ((j + 1) :: s)) : StE K (w.ren f) σ (ρ.set i none) :=
  ⟨st.wf.ren f, by rw [List.length_set]; exact st.len, fun j d e => by
    have hj : j ≠ i := fun z => by
      subst z
      by_cases hl : j < ρ.length
      · rw [List.getElem?_set_self hl] at e; cases e
      · rw [List.getElem?_eq_none (by simpa using hl)] at e; cases e
    rw [List.getElem?_set_ne (Ne.symm hj)] at e
    obtain ⟨v, e1, r⟩ := st.rep j d e
    exact ⟨v, e1, r.ren fun s => hf j s hj (List.getElem?_eq_some_iff.mp e).1⟩⟩
theorem fe_var {i : Nat} {x : Str} {pos : Pos} (hN : X.N[i]? = some x := by rfl) (hv : Vis X.env.scope x := by first | exact Or.inl rfl | exact Or.inr (Or.inl rfl) | exact Or.inr (Or.inr rfl)) (hd : (x == ("__debug__" : Str)) = false := by decide)
    (hcd : (x == ("__classdict__" : Str)) = false := by decide) : FE X W (.Name x pos) (rVar i) := by
  refine ⟨_, pe_var hN hv hd hcd, fun τ w σ ρ E Q Qv hn st hr hq hx => ?_⟩
  unfold rVar at hr
  split at hr
  · rename_i d e
    obtain ⟨v, e1, r1⟩ := st.rep i d e
    refine ⟨v, e1, ?_⟩
    have hi := (List.getElem?_eq_some_iff.mp e).1
    split at hr
    · rename_i ho
      exact hq _ _ _ _ hr (EndE.refl st) (r1.free (Same.refl _) d ho)
    · refine hq _ _ (w.ren (slotTo i τ)) _ hr ⟨by rw [List.length_set], st.drop i (fun j s hj _ => ?_), Same.refl _, fun a ℓ e2 ⟨h, s, e3, k⟩ => ?_⟩ (r1.ren fun s => ?_)
      · show (if _ then _ else _) = _
        rw [if_neg (by omega)]
      · subst e3
        refine ⟨ren_at e2 ?_, rfl⟩
        show (if _ then _ else _) = _
        rw [if_neg (by omega)]
      · show (if _ then _ else _) = _
        rw [if_pos rfl]; rfl
  · exact hr.elim
def rC (d : D) : RE := fun ρ _ Q => Q d ρ
theorem se_C {K : PySem.W.Frag} {v : V} {d : D} (h : ∀ w τ, Rep K w d [τ] v) : SE K W (tC v) (rC d) := fun τ w σ ρ E Q Qv hn st hr hq hx => hq d ρ w v hr (EndE.refl st) (h w τ)
theorem fe_int {i j pos} : FE X W (.Constant (.int i) j pos) (rC (.int i)) := ⟨_, pe_int, se_C fun _ _ => rfl⟩
theorem fe_bl {b j pos} : FE X W (.Constant (.bool b) j pos) (rC (.bl b)) := ⟨_, pe_bl, se_C fun _ _ => rfl⟩
theorem fe_non {j pos} : FE X W (.Constant .none j pos) (rC .non) := ⟨_, pe_non, se_C fun _ _ => rfl⟩
theorem fe_str {x j pos} : FE X W (.Constant (.str x) j pos) (rC (.str x)) := ⟨_, pe_str, se_C fun _ _ => rfl⟩
/-- a module's constant -/
theorem fe_glob {x : Str} {v : V} {u : Value} {pos : Pos} {d : D} (hg : Gl X x) (hm : X.mg x = some u) (r : RelV v u) (h : ∀ w τ, Rep X.K w d [τ] v) (hd : (x == ("__debug__" : Str)) = false := by decide) : FE X W (.Name x pos) (rC d) :=
  ⟨_, pe_glob hg hm r hd, se_C h⟩
end
def MulOk (i j : Int) : Prop := CMul i j ∨ CMulW i j
def dAdd : DO
  | .int a, .int b, Q => Q (.int (a + b))
  | .int a, .bl b, Q => Q (.int (a + b2i b))
  | .str a, .str b, Q => a.length + b.length ≤ sizeLine ∧ Q (.str (a ++ b))
  | .tup false a, .tup false b, Q => a.length + b.length ≤ sizeLine ∧ Q (.tup false (a ++ b))
  | .lst o a, .lst o' b, Q => match o, o' with
    | .deep, _ => False
    | _, .deep => False
    | _, _ => a.length + b.length ≤ sizeLine ∧ Q (.lst .flat (a ++ b))
  | _, _, _ => False
def dSub : DO
  | .int a, .int b, Q => Q (.int (a - b))
  | _, _, _ => False
def dMul : DO
  | .int a, .int b, Q => MulOk a b ∧ Q (.int (a * b))
  | .lst o a, .int k, Q => match o with
    | .deep => False
    | _ => -(2 ^ 63) ≤ k ∧ k < 2 ^ 63 ∧ a.length * k.toNat ≤ sizeLine ∧ Q (.lst .flat (List.replicate k.toNat a).flatten)
  | _, _, _ => False
def dMod : DO
  | .int a, .int b, Q => 0 < b ∧ Q (.int (a % b))
  | _, _, _ => False
def dFdiv : DO
  | .int a, .int b, Q => (0 < b ∧ b.natAbs.log2 < 9000) ∧ Q (.int (a / b))
  | _, _, _ => False
def dCI (p : Int → Int → Bool) : DO
  | .int a, .int b, Q => Q (.bl (p a b))
  | _, _, _ => False
abbrev dLt : DO := dCI fun i j => decide (i < j)
abbrev dGt : DO := dCI fun i j => decide (j < i)
abbrev dGe : DO := dCI fun i j => decide (j ≤ i)
theorem EndE.own {K : PySem.W.Frag} {τ : Nat} {w : Wd} {σ : Sl} {ρ : En} (o : Ow) (st : StE K w σ ρ) {p : Addr} (n : w.H p = none) {vs : List V} {ds : List D} (hr : RepL K w ds [τ] 0 vs) (hz : ds.length ≤ sizeLine) (hL : Lt o ds) (hm : o.mine = true) : EndE K τ w σ ρ ρ (w.new p [τ] (.lst vs)) ∧ Rep K (w.new p [τ] (.lst vs)) (.lst o ds) [τ] (.ref p) := by
  refine ⟨.new st n trivial, ?_⟩
  rw [rep_inner rfl]
  refine ⟨p, vs, rfl, ?_, ⟨hz, hL⟩, RepL.to (w := w) (w' := w.new p [τ] (.lst vs)) (Same.refl _) ds (new_kept st.wf n) hr⟩
  simp only [Nd, hm, if_true]
  refine ⟨?_, upd_same⟩
  show (if p = p then _ else _) = _
  rw [if_pos rfl]
theorem EndE.tup {K : PySem.W.Frag} {τ : Nat} {w : Wd} {σ : Sl} {ρ : En} (o : Bool) (st : StE K w σ ρ) {p : Addr} (n : w.H p = none) {vs : List V} {ds : List D} {ℓ : Loc} (hr : RepL K w ds ℓ 0 vs) (hz : ds.length ≤ sizeLine) (hL : o = false → ownL ds = false) : EndE K τ w σ ρ ρ (w.shr p (.tup vs)) ∧ Rep K (w.shr p (.tup vs)) (.tup o ds) ℓ (.ref p) := by
  refine ⟨.shr st n, ?_⟩
  simp only [Rep]
  exact ⟨p, vs, rfl, upd_same, ⟨hz, hL⟩, RepL.to (w := w) (w' := w.shr p (.tup vs)) (shr_same st.wf n) ds (shr_kept st.wf n) hr⟩
theorem lst_at {K : PySem.W.Frag} {w : Wd} (wf : Wf w) {o : Ow} {ds : List D} {ℓ : Loc} {v : V} (h : Rep K w (.lst o ds) ℓ v) : ∃ a vs, v = .ref a ∧ w.H a = some (.lst vs) ∧ RepL K w ds ℓ 0 vs := by
  simp only [Rep] at h
  obtain ⟨a, vs, e, h1, hz, h2⟩ := h
  cases q : o.mine with
  | true => rw [q] at h1; exact ⟨a, vs, e, h1.2, h2⟩
  | false => rw [q] at h1; exact ⟨a, vs, e, wf.sh _ _ h1, h2⟩
theorem lst_sz {K : PySem.W.Frag} {w : Wd} {o : Ow} {ds : List D} {ℓ : Loc} {v : V} (h : Rep K w (.lst o ds) ℓ v) : ds.length ≤ sizeLine ∧ Lt o ds := by
  simp only [Rep] at h
  obtain ⟨a, vs, e, h1, hz, h2⟩ := h
  exact hz
theorem tup_sz {K : PySem.W.Frag} {w : Wd} {o : Bool} {ds : List D} {ℓ : Loc} {v : V} (h : Rep K w (.tup o ds) ℓ v) : ds.length ≤ sizeLine ∧ (o = false → ownL ds = false) := by
  simp only [Rep] at h
  obtain ⟨a, vs, e, h1, hz, h2⟩ := h
  exact hz
theorem tup_at {K : PySem.W.Frag} {w : Wd} (wf : Wf w) {o : Bool} {ds : List D} {ℓ : Loc} {v : V} (h : Rep K w (.tup o ds) ℓ v) : ∃ a vs, v = .ref a ∧ w.H a = some (.tup vs) ∧ RepL K w ds ℓ 0 vs := by
  simp only [Rep] at h
  obtain ⟨a, vs, e, h1, hz, h2⟩ := h
  exact ⟨a, vs, e, wf.sh _ _ h1, h2⟩
section
variable {X : Cx}
theorem fop_int {f : Value → Value → Sem Value} {C : Int → Int → Prop} {g : Int → Int → Int} (h : OpR X f (rI C fun i j => .int (g i j))) {dop : DO} (hd : ∀ a b Q, dop a b Q → ∃ i j, a = .int i ∧ b = .int j ∧ C i j ∧ Q (.int (g i j))) : FOp X f dop := by
  refine ⟨_, h, fun τ w σ ρ x y dx dy ℓ ℓ' Q Qv hn st rx ry hq hv => ?_⟩
  obtain ⟨i, j, rfl, rfl, c, q⟩ := hd _ _ _ hq
  simp only [Rep] at rx ry
  subst rx; subst ry
  exact ⟨i, j, rfl, rfl, c, hv _ w _ q (.refl st) rfl⟩
theorem fop_int0 {f : Value → Value → Sem Value} {g : Int → Int → V} {gd : Int → Int → D} (h : OpR X f (rI0 g)) (hg : ∀ i j (K : PySem.W.Frag) w ℓ, Rep K w (gd i j) ℓ (g i j)) {dop : DO} (hd : ∀ a b Q, dop a b Q → ∃ i j, a = .int i ∧ b = .int j ∧ Q (gd i j)) : FOp X f dop := by
  refine ⟨_, h, fun τ w σ ρ x y dx dy ℓ ℓ' Q Qv hn st rx ry hq hv => ?_⟩
  obtain ⟨i, j, rfl, rfl, q⟩ := hd _ _ _ hq
  simp only [Rep] at rx ry
  subst rx; subst ry
  exact ⟨i, j, rfl, rfl, hv _ w _ q (.refl st) (hg ..)⟩
theorem fop_sub : FOp X (binaryOp .Sub) dSub := fop_int0 (gd := fun i j => .int (i - j)) op_sub (fun _ _ _ _ _ => rfl) fun a b Q h => by
  cases a <;> cases b <;> first | exact h.elim | exact ⟨_, _, rfl, rfl, h⟩
theorem fop_cI {op : CmpOp} {p : Int → Int → Bool} (h : OpR X (compareOp op) (rI0 fun i j => .bl (p i j))) : FOp X (compareOp op) (dCI p) := fop_int0 (gd := fun i j => .bl (p i j)) h (fun _ _ _ _ _ => rfl) fun a b Q h => by
  cases a <;> cases b <;> first | exact h.elim | exact ⟨_, _, rfl, rfl, h⟩
theorem fop_lt : FOp X (compareOp .Lt) dLt := fop_cI op_lt
theorem fop_gt : FOp X (compareOp .Gt) dGt := fop_cI op_gt
theorem fop_ge : FOp X (compareOp .GtE) dGe := fop_cI op_ge
theorem fop_mod : FOp X (binaryOp .Mod) dMod := fop_int op_mod fun a b Q h => by
  cases a <;> cases b <;> first | exact h.elim | exact ⟨_, _, rfl, rfl, h⟩
theorem fop_fdiv : FOp X (binaryOp .FloorDiv) dFdiv := fop_int op_fdivW fun a b Q h => by
  cases a <;> cases b <;> first | exact h.elim | exact ⟨_, _, rfl, rfl, h⟩
theorem op_mulOk : OpR X (binaryOp .Mult) (rI MulOk fun i j => .int (i * j)) := opI fun _ _ _ _ _ _ _ hc q => mul_int q (hc.elim (fun z => z.ok) fun z => z.ok)
/-- list and list -/
theorem fop_cat : FOp X (binaryOp .Add) (fun a b Q => ∃ o o' xs ys, a = .lst o xs ∧ b = .lst o' ys ∧ o.light = true ∧ o'.light = true ∧ xs.length + ys.length ≤ sizeLine ∧ Q (.lst .flat (xs ++ ys))) := by
  refine ⟨_, op_cat, fun τ w σ ρ x y dx dy ℓ ℓ' Q Qv hn st rx ry hq hv => ?_⟩
  obtain ⟨o, o', xs, ys, rfl, rfl, ho, ho', hl, q⟩ := hq
  have hx := (lst_sz rx).2 ho
  have hy := (lst_sz ry).2 ho'
  obtain ⟨a, vs, rfl, h1, h2⟩ := lst_at st.wf rx
  obtain ⟨b, us, rfl, k1, k2⟩ := lst_at st.wf ry
  refine ⟨a, b, vs, us, rfl, rfl, h1, k1, by rw [h2.length, k2.length]; exact hl, fun p n => ?_⟩
  have hr : RepL X.K w (xs ++ ys) [τ] 0 (vs ++ us) := (RepL.free (Same.refl _) xs hx h2).app (RepL.free (Same.refl _) ys hy k2)
  obtain ⟨e, r⟩ := EndE.own .flat st n hr (by rw [List.length_append]; exact hl) (fun _ => by rw [ownL_append, hx, hy]; rfl) rfl
  exact hv _ _ _ q e r
theorem fop_rep : FOp X (binaryOp .Mult) (fun a b Q => ∃ o xs k, a = .lst o xs ∧ b = .int k ∧ o.light = true ∧ -(2 ^ 63) ≤ k ∧ k < 2 ^ 63 ∧ xs.length * k.toNat ≤ sizeLine ∧ Q (.lst .flat (List.replicate k.toNat xs).flatten)) := by
  refine ⟨_, op_rep, fun τ w σ ρ x y dx dy ℓ ℓ' Q Qv hn st rx ry hq hv => ?_⟩
  obtain ⟨o, xs, k, rfl, rfl, ho, h0, h9, hl, q⟩ := hq
  have hx := (lst_sz rx).2 ho
  obtain ⟨a, vs, rfl, h1, h2⟩ := lst_at st.wf rx
  simp only [Rep] at ry
  subst ry
  refine ⟨a, k, vs, rfl, rfl, h1, h0, h9, by rw [h2.length]; exact hl, fun p n => ?_⟩
  have ow : ∀ n : Nat, ownL (List.replicate n xs).flatten = false := fun n => by
    rw [ownL_iff]
    intro d hd
    obtain ⟨l, hl, hd⟩ := List.mem_flatten.mp hd
    rw [(List.mem_replicate.mp hl).2] at hd
    exact ownL_iff.mp hx d hd
  have hr : ∀ n : Nat, RepL X.K w (List.replicate n xs).flatten [τ] 0 (List.replicate n vs).flatten := fun n => by
    induction n with
    | zero => exact rfl
    | succ n ih =>
      rw [List.replicate_succ, List.replicate_succ, List.flatten_cons, List.flatten_cons]
      exact (RepL.free (Same.refl _) xs hx h2).app (RepL.free (Same.refl _) _ (ow n) ih)
  obtain ⟨e, r⟩ := EndE.own .flat st n (hr k.toNat) (by rw [PyProof.Rows.lm_len_rep_flat, Nat.mul_comm]; exact hl) (fun _ => ow _) rfl
  exact hv _ _ _ q e r
theorem fop_catT : FOp X (binaryOp .Add) (fun a b Q => ∃ xs ys, a = .tup false xs ∧ b = .tup false ys ∧ xs.length + ys.length ≤ sizeLine ∧ Q (.tup false (xs ++ ys))) := by
  refine ⟨_, op_catA, fun τ w σ ρ x y dx dy ℓ ℓ' Q Qv hn st rx ry hq hv => ?_⟩
  obtain ⟨xs, ys, rfl, rfl, hl, q⟩ := hq
  have hx := (tup_sz rx).2 rfl
  have hy := (tup_sz ry).2 rfl
  obtain ⟨a, vs, rfl, h1, h2⟩ := tup_at st.wf rx
  obtain ⟨b, us, rfl, k1, k2⟩ := tup_at st.wf ry
  have e1 := h2.length
  have e2 := k2.length
  refine ⟨a, b, vs, us, rfl, rfl, SqT.of h1, SqT.of k1, by omega, fun z => ?_, fun _ z => ?_, fun _ _ p n => ?_⟩
  · have : xs = [] := List.length_eq_zero_iff.mp (by rw [← e1, z]; rfl)
    subst this
    exact hv _ w _ q (.refl st) (ry.free (Same.refl _) _ rfl)
  · have : ys = [] := List.length_eq_zero_iff.mp (by rw [← e2, z]; rfl)
    subst this
    rw [List.append_nil] at q
    exact hv _ w _ q (.refl st) (rx.free (Same.refl _) _ rfl)
  · have hr : RepL X.K w (xs ++ ys) [τ] 0 (vs ++ us) := (RepL.free (Same.refl _) xs hx h2).app (RepL.free (Same.refl _) ys hy k2)
    obtain ⟨e, r⟩ := EndE.tup false st n hr (by rw [List.length_append]; exact hl) (fun _ => by rw [ownL_append, hx, hy]; rfl)
    exact hv _ _ _ q e r
theorem fop_addS : FOp X (binaryOp .Add) (fun a b Q => ∃ i j, a = .str i ∧ b = .str j ∧ i.length + j.length ≤ sizeLine ∧ Q (.str (i ++ j))) := by
  refine ⟨_, op_add_str, fun τ w σ ρ x y dx dy ℓ ℓ' Q Qv hn st rx ry hq hv => ?_⟩
  obtain ⟨i, j, rfl, rfl, hl, q⟩ := hq
  simp only [Rep] at rx ry
  subst rx; subst ry
  exact ⟨i, j, rfl, rfl, hl, hv _ w _ q (.refl st) rfl⟩
theorem fop_addI : FOp X (binaryOp .Add) (fun a b Q => ∃ i j, a = .int i ∧ b = .int j ∧ Q (.int (i + j))) := fop_int0 (gd := fun i j => .int (i + j)) op_add (fun _ _ _ _ _ => rfl) fun a b Q h => h
theorem fop_addB : FOp X (binaryOp .Add) (fun a b Q => ∃ i k, a = .int i ∧ b = .bl k ∧ Q (.int (i + b2i k))) := by
  refine ⟨_, op_add_ib, fun τ w σ ρ x y dx dy ℓ ℓ' Q Qv hn st rx ry hq hv => ?_⟩
  obtain ⟨i, j, rfl, rfl, q⟩ := hq
  simp only [Rep] at rx ry
  subst rx; subst ry
  exact ⟨i, j, rfl, rfl, hv _ w _ q (.refl st) rfl⟩
theorem fop_add : FOp X (binaryOp .Add) dAdd := (fop_addI.or (fop_addB.or (fop_addS.or (fop_catT.or fop_cat)))).imp fun a b Q h => by
  unfold dAdd at h
  split at h
  · exact .inl ⟨_, _, rfl, rfl, h⟩
  · exact .inr (.inl ⟨_, _, rfl, rfl, h⟩)
  · exact .inr (.inr (.inl ⟨_, _, rfl, rfl, h⟩))
  · exact .inr (.inr (.inr (.inl ⟨_, _, rfl, rfl, h⟩)))
  · rename_i o a o' b
    cases o <;> cases o' <;> first
      | exact h.elim
      | exact .inr (.inr (.inr (.inr ⟨_, _, _, _, rfl, rfl, rfl, rfl, h⟩)))
  · exact h.elim
theorem fop_mul : FOp X (binaryOp .Mult) dMul := ((fop_int (dop := fun a b Q => ∃ i j, a = .int i ∧ b = .int j ∧ MulOk i j ∧ Q (.int (i * j))) op_mulOk fun a b Q h => h).or fop_rep).imp fun a b Q h => by
  unfold dMul at h
  split at h
  · exact .inl ⟨_, _, rfl, rfl, h⟩
  · rename_i o a k
    cases o <;> first
      | exact h.elim
      | exact .inr ⟨_, _, _, rfl, rfl, rfl, h⟩
  · exact h.elim
end
end FL
namespace FL
open PySem PySem.Spec PyProof.Rows L2
def rIc (g : Int → Int) (ra : RO) : RE := fun ρ E Q => ra ρ E fun x ρ1 => on1 ρ1 x fun dx => match dx with
  | .int i => Q (.int (g i)) ρ1
  | _ => False
section
variable {X : Cx} {W : WX} {a b : Expr} {ra rb : RO} {pos p2 : Pos} {c : Int} {j : Nat}
theorem so_ic {K : PySem.W.Frag} {r : R2} {g : Int → Int} {c : Int} {ta : TE} (hr : ∀ i H Q, Q (.int (g i)) H → r (.int i) (.int c) H Q) (sa : SOp K W ta ra) : SE K W (tOp r ta (tC (.int c))) (rIc g ra) := by
  intro τ w σ ρ E Q Qv hn st h hq hx
  refine sa τ w σ ρ E _ _ hn st h (fun x ρ1 w1 v1 h1 e1 r1 => ?_) hx
  obtain ⟨dx, ex, h1⟩ := on1_elim h1
  obtain ⟨ℓ, rx⟩ := ad_get e1.st r1 ex
  cases dx with
  | int i =>
    simp only [Rep] at rx
    subst rx
    exact hr i _ _ (hq _ _ _ _ h1 e1 rfl)
  | _ => exact h1.elim
theorem so_icl {K : PySem.W.Frag} {r : R2} {g : Int → Int} {c : Int} {ta : TE} (hr : ∀ i H Q, Q (.int (g i)) H → r (.int c) (.int i) H Q) (sa : SOp K W ta ra) : SE K W (tOp r (tC (.int c)) ta) (rIc g ra) := by
  intro τ w σ ρ E Q Qv hn st h hq hx
  refine sa τ w σ ρ E _ _ hn st h (fun x ρ1 w1 v1 h1 e1 r1 => ?_) hx
  obtain ⟨dx, ex, h1⟩ := on1_elim h1
  obtain ⟨ℓ, rx⟩ := ad_get e1.st r1 ex
  cases dx with
  | int i =>
    simp only [Rep] at rx
    subst rx
    exact hr i _ _ (hq _ _ _ _ h1 e1 rfl)
  | _ => exact h1.elim
theorem fe_mulC (ha : FO X W a ra) (hc : (decide (-(2 ^ 64) < c) && decide (c < 2 ^ 64)) = true := by decide) : FE X W (.BinOp a .Mult (.Constant (.int c) j p2) pos) (rIc (fun i => i * c) ra) := by
  obtain ⟨t, p, s⟩ := ha.ex
  simp only [Bool.and_eq_true, decide_eq_true_eq] at hc
  exact ⟨_, pe_op op_mul p pe_int, so_ic (fun i H Q q => ⟨i, c, rfl, rfl, .inr hc, q⟩) s⟩
theorem fe_mulCl (ha : FO X W a ra) (hc : (decide (-(2 ^ 64) < c) && decide (c < 2 ^ 64)) = true := by decide) : FE X W (.BinOp (.Constant (.int c) j p2) .Mult a pos) (rIc (fun i => c * i) ra) := by
  obtain ⟨t, p, s⟩ := ha.ex
  simp only [Bool.and_eq_true, decide_eq_true_eq] at hc
  exact ⟨_, pe_op op_mul pe_int p, so_icl (fun i H Q q => ⟨c, i, rfl, rfl, .inl hc, q⟩) s⟩
theorem fe_modC (ha : FO X W a ra) (hc : decide (0 < c) = true := by decide) : FE X W (.BinOp a .Mod (.Constant (.int c) j p2) pos) (rIc (fun i => i % c) ra) := by
  obtain ⟨t, p, s⟩ := ha.ex
  exact ⟨_, pe_op op_mod p pe_int, so_ic (fun i H Q q => ⟨i, c, rfl, rfl, of_decide_eq_true hc, q⟩) s⟩
theorem fe_fdivC (ha : FO X W a ra) (hc : (decide (0 < c) && decide (c.natAbs < 2 ^ 64)) = true := by decide) : FE X W (.BinOp a .FloorDiv (.Constant (.int c) j p2) pos) (rIc (fun i => i / c) ra) := by
  obtain ⟨t, p, s⟩ := ha.ex
  simp only [Bool.and_eq_true, decide_eq_true_eq] at hc
  exact ⟨_, pe_op op_fdivW p pe_int, so_ic (fun i H Q q => ⟨i, c, rfl, rfl, wide_div hc.1 hc.2 (by decide) (by decide), q⟩) s⟩
theorem fe_addC (ha : FO X W a ra) : FE X W (.BinOp a .Add (.Constant (.int c) j p2) pos) (rIc (fun i => i + c) ra) := by
  obtain ⟨t, p, s⟩ := ha.ex
  exact ⟨_, pe_op op_add p pe_int, so_ic (fun i H Q q => ⟨i, c, rfl, rfl, q⟩) s⟩
theorem fe_addCl (ha : FO X W a ra) : FE X W (.BinOp (.Constant (.int c) j p2) .Add a pos) (rIc (fun i => c + i) ra) := by
  obtain ⟨t, p, s⟩ := ha.ex
  exact ⟨_, pe_op op_add pe_int p, so_icl (fun i H Q q => ⟨c, i, rfl, rfl, q⟩) s⟩
theorem fe_subC (ha : FO X W a ra) : FE X W (.BinOp a .Sub (.Constant (.int c) j p2) pos) (rIc (fun i => i - c) ra) := by
  obtain ⟨t, p, s⟩ := ha.ex
  exact ⟨_, pe_op op_sub p pe_int, so_ic (fun i H Q q => ⟨i, c, rfl, rfl, q⟩) s⟩
theorem fe_powC {c d : Int} {j k : Nat} {p2 p3 : Pos} (hc : (decide (0 ≤ d) && decide (d ≤ 1000) && decide (c.natAbs < 2 ^ 64)) = true := by decide) : FE X W (.BinOp (.Constant (.int c) j p2) .Pow (.Constant (.int d) k p3) pos) (rC (.int (c ^ d.toNat))) := by
  simp only [Bool.and_eq_true, decide_eq_true_eq] at hc
  refine ⟨_, pe_op op_pow pe_int pe_int, fun τ w σ ρ E Q Qv hn st h hq hx => ?_⟩
  exact ⟨c, d, rfl, rfl, ⟨hc.1.1, by omega, hc.2⟩, hq _ _ w _ h (EndE.refl st) rfl⟩
theorem fe_negC {c : Int} {j : Nat} {p2 : Pos} : FE X W (.UnaryOp .USub (.Constant (.int c) j p2) pos) (rC (.int (-c))) := by
  refine ⟨_, pe_un un_neg pe_int, fun τ w σ ρ E Q Qv hn st h hq hx => ?_⟩
  exact ⟨c, rfl, hq _ _ w _ h (EndE.refl st) rfl⟩
theorem fe_neg (ha : FO X W a ra) : FE X W (.UnaryOp .USub a pos) (rIc (fun i => -i) ra) := by
  obtain ⟨t, p, s⟩ := ha.ex
  refine ⟨_, pe_un un_neg p, fun τ w σ ρ E Q Qv hn st h hq hx => ?_⟩
  refine s τ w σ ρ E _ _ hn st h (fun x ρ1 w1 v1 h1 e1 r1 => ?_) hx
  obtain ⟨dx, ex, h1⟩ := on1_elim h1
  obtain ⟨ℓ, rx⟩ := ad_get e1.st r1 ex
  cases dx with
  | int i =>
    simp only [Rep] at rx
    subst rx
    exact ⟨i, rfl, hq _ _ _ _ h1 e1 rfl⟩
  | _ => exact h1.elim
end
mutual
def D.py : D → PyData
  | .non => .none
  | .bl b => .bool b
  | .int i => .int i
  | .str s => .str s
  | .tup _ ds => .tuple (pyL ds)
  | .lst _ ds => .list (pyL ds)
  | .ro t ds => if t then .tuple (pyL ds) else .list (pyL ds)
  | .obj _ => .dict []
  | .ty _ => .dict []
  | .any => .dict []
  | .dct _ _ _ _ => .dict []
  | .ins _ _ _ _ => .dict []
def pyL : List D → List PyData
  | [] => []
  | d :: ds => d.py :: pyL ds
end
mutual
/-- no dict, instance or function within -/
def D.dat : D → Bool
  | .non => true
  | .bl _ => true
  | .int _ => true
  | .str _ => true
  | .tup _ ds => datL ds
  | .lst _ ds => datL ds
  | .ro _ ds => datL ds
  | _ => false
def datL : List D → Bool
  | [] => true
  | d :: ds => d.dat && datL ds
end
mutual
def D.dep : D → Nat
  | .tup _ ds => depL ds + 1
  | .lst _ ds => depL ds + 1
  | .ro _ ds => depL ds + 1
  | _ => 0
def depL : List D → Nat
  | [] => 0
  | d :: ds => max d.dep (depL ds)
end
def deq (a b : D) : Bool := PyData.eqv a.py b.py
mutual
theorem py_plain : ∀ d : D, d.dat = true → d.py.plain = true
  | .non, _ => rfl
  | .bl _, _ => rfl
  | .int _, _ => rfl
  | .str _, _ => rfl
  | .tup _ ds, h => by simp only [D.py, PyData.plain]; exact pyL_plain ds (by simpa [D.dat] using h)
  | .lst _ ds, h => by simp only [D.py, PyData.plain]; exact pyL_plain ds (by simpa [D.dat] using h)
  | .ro t ds, h => by cases t <;> (simp only [D.py, PyData.plain, if_true, if_false, Bool.false_eq_true]) <;> exact pyL_plain ds (by simpa [D.dat] using h)
  | .obj _, h => by simp [D.dat] at h
  | .ty _, h => by simp [D.dat] at h
  | .any, h => by simp [D.dat] at h
  | .dct _ _ _ _, h => by simp [D.dat] at h
  | .ins _ _ _ _, h => by simp [D.dat] at h
theorem pyL_plain : ∀ ds : List D, datL ds = true → PyData.plainAll (pyL ds) = true
  | [], _ => rfl
  | d :: ds, h => by
    simp only [datL, Bool.and_eq_true] at h
    simp only [pyL, PyData.plainAll, py_plain d h.1, pyL_plain ds h.2, Bool.and_self]
end
mutual
theorem py_dep : ∀ d : D, d.dat = true → d.py.depth = d.dep
  | .non, _ => rfl
  | .bl _, _ => rfl
  | .int _, _ => rfl
  | .str _, _ => rfl
  | .tup _ ds, h => by simp only [D.py, PyData.depth, D.dep, pyL_dep ds (by simpa [D.dat] using h)]
  | .lst _ ds, h => by simp only [D.py, PyData.depth, D.dep, pyL_dep ds (by simpa [D.dat] using h)]
  | .ro t ds, h => by cases t <;> simp only [D.py, PyData.depth, D.dep, if_true, if_false, Bool.false_eq_true, pyL_dep ds (by simpa [D.dat] using h)]
  | .obj _, h => by simp [D.dat] at h
  | .ty _, h => by simp [D.dat] at h
  | .any, h => by simp [D.dat] at h
  | .dct _ _ _ _, h => by simp [D.dat] at h
  | .ins _ _ _ _, h => by simp [D.dat] at h
theorem pyL_dep : ∀ ds : List D, datL ds = true → PyData.depthAll (pyL ds) = depL ds
  | [], _ => rfl
  | d :: ds, h => by
    simp only [datL, Bool.and_eq_true] at h
    simp only [pyL, PyData.depthAll, depL, py_dep d h.1, pyL_dep ds h.2]
end
mutual
theorem rep_dp {K : PySem.W.Frag} {w : Wd} (wf : Wf w) : ∀ (d : D) {ℓ : Loc} {v : V}, d.dat = true → Rep K w d ℓ v → Dp K w.H v d.py
  | .non, _, _, _, h => by simp only [Rep] at h; subst h; exact .non
  | .bl _, _, _, _, h => by simp only [Rep] at h; subst h; exact .bl _
  | .int _, _, _, _, h => by simp only [Rep] at h; subst h; exact .int _
  | .str _, _, _, _, h => by simp only [Rep] at h; subst h; exact .str _
  | .tup o ds, _, _, k, h => by
    obtain ⟨a, vs, rfl, h1, h2⟩ := tup_at wf h
    exact .tup (SqT.of h1) (rep_dps wf ds (by simpa [D.dat] using k) h2)
  | .lst o ds, _, _, k, h => by
    obtain ⟨a, vs, rfl, h1, h2⟩ := lst_at wf h
    exact .lst (SqL.of h1) (rep_dps wf ds (by simpa [D.dat] using k) h2)
  | .ro t ds, _, _, k, h => by
    simp only [Rep] at h
    obtain ⟨a, vs, rfl, h1, _, h2⟩ := h
    cases t with
    | true => exact .tup (same_rdT wf.sh h1) (rep_dps wf ds (by simpa [D.dat] using k) h2)
    | false => exact .lst (wf.sh.seq h1) (rep_dps wf ds (by simpa [D.dat] using k) h2)
  | .obj _, _, _, k, _ => by simp [D.dat] at k
  | .ty _, _, _, k, _ => by simp [D.dat] at k
  | .any, _, _, k, _ => by simp [D.dat] at k
  | .dct _ _ _ _, _, _, k, _ => by simp [D.dat] at k
  | .ins _ _ _ _, _, _, k, _ => by simp [D.dat] at k
theorem rep_dps {K : PySem.W.Frag} {w : Wd} (wf : Wf w) : ∀ (ds : List D) {ℓ : Loc} {j : Nat} {vs : List V}, datL ds = true → RepL K w ds ℓ j vs → DpAll K w.H vs (pyL ds)
  | [], _, _, _, _, h => by simp only [RepL] at h; subst h; exact .nil
  | d :: ds, _, _, _, k, h => by
    simp only [RepL] at h
    obtain ⟨v, r, rfl, h1, h2⟩ := h
    simp only [datL, Bool.and_eq_true] at k
    exact .cons (rep_dp wf d k.1 h1) (rep_dps wf ds k.2 h2)
end
def dEqB (neg : Bool) : DO
  | .int a, .int b, Q => Q (.bl (neg ^^ decide (a = b)))
  | .str a, .str b, Q => Q (.bl (neg ^^ decide (a = b)))
  | a, b, Q => a.dat = true ∧ b.dat = true ∧ min a.dep b.dep ≤ 60 ∧ Q (.bl (neg ^^ deq a b))
abbrev dEq : DO := dEqB false
abbrev dNe : DO := dEqB true
def rEqP (K : PySem.W.Frag) (neg : Bool) : R2 := fun x y H Q => ∃ d e, Dp K H x d ∧ Dp K H y e ∧ d.plain = true ∧ e.plain = true ∧ min d.depth e.depth ≤ 60 ∧ Q (.bl (neg ^^ PyData.eqv d e)) H
theorem op_eqP {X : Cx} (hu : X.A.units + 64 < cLine) : OpR X (compareOp .Eq) (rEqP X.K false) := by
  intro pins s σ H x y v u Q I rx ry h
  obtain ⟨d, e, hd, he, sd, se, hm, q⟩ := h
  obtain ⟨as, r1⟩ := Dp.reads I d x v hd rx
  obtain ⟨bs, r2⟩ := Dp.reads I e y u he ry
  exact SeqAt.eq_plain r1 r2 sd se (by omega) ⟨.bl _, H, I, by rw [Bool.false_xor]; rfl, q⟩
theorem op_neP {X : Cx} (hu : X.A.units + 64 < cLine) : OpR X (compareOp .NotEq) (rEqP X.K true) := by
  intro pins s σ H x y v u Q I rx ry h
  obtain ⟨d, e, hd, he, sd, se, hm, q⟩ := h
  obtain ⟨as, r1⟩ := Dp.reads I d x v hd rx
  obtain ⟨bs, r2⟩ := Dp.reads I e y u he ry
  exact SeqAt.ne_plain r1 r2 sd se (by omega) ⟨.bl _, H, I, by rw [Bool.true_xor]; rfl, q⟩
theorem dEq_get {neg : Bool} {a b : D} {Q : D → Prop} (h : dEqB neg a b Q) : a.dat = true ∧ b.dat = true ∧ min a.dep b.dep ≤ 60 ∧ Q (.bl (neg ^^ deq a b)) := by
  unfold dEqB at h
  split at h
  · refine ⟨rfl, rfl, by simp [D.dep], ?_⟩
    have e : ∀ a b : Int, deq (.int a) (.int b) = decide (a = b) := fun a b => by simp [deq, D.py, PyData.eqv, Bool.beq_eq_decide_eq]
    rw [e]; exact h
  · refine ⟨rfl, rfl, by simp [D.dep], ?_⟩
    have e : ∀ a b : Str, deq (.str a) (.str b) = decide (a = b) := fun a b => by simp [deq, D.py, PyData.eqv, Bool.beq_eq_decide_eq]
    rw [e]; exact h
  · exact h
theorem sok_eq {K : PySem.W.Frag} {neg : Bool} : SOK K (rEqP K neg) (dEqB neg) := by
  intro τ w σ ρ x y dx dy ℓ ℓ' Q Qv hn st rx ry hq hv
  obtain ⟨h1, h2, h3, q⟩ := dEq_get hq
  exact ⟨_, _, rep_dp st.wf dx h1 rx, rep_dp st.wf dy h2 ry, py_plain _ h1, py_plain _ h2, by rw [py_dep _ h1, py_dep _ h2]; exact h3, hv _ w _ q (.refl st) rfl⟩
section
variable {X : Cx}
theorem fop_eq (hu : X.A.units + 64 < cLine) : FOp X (compareOp .Eq) dEq := ⟨_, op_eqP hu, sok_eq⟩
theorem fop_ne (hu : X.A.units + 64 < cLine) : FOp X (compareOp .NotEq) dNe := ⟨_, op_neP hu, sok_eq⟩
end
def isNon : D → Option Bool
  | .non => some true
  | .any => none
  | _ => some false
def rIsN (neg : Bool) (ra : RO) : RE := fun ρ E Q => ra ρ E fun x ρ1 => on1 ρ1 x fun dx => match isNon dx with
  | some b => Q (.bl (neg ^^ b)) ρ1
  | none => False
theorem isNon_rep {K : PySem.W.Frag} {w : Wd} {d : D} {ℓ : Loc} {v : V} (h : Rep K w d ℓ v) {b : Bool} (e : isNon d = some b) : decide (v = .non) = b := by
  cases d with
  | any => cases e
  | non => simp only [Rep] at h; subst h; cases e; rfl
  | bl b => simp only [Rep] at h; subst h; cases e; rfl
  | int b => simp only [Rep] at h; subst h; cases e; rfl
  | str b => simp only [Rep] at h; subst h; cases e; rfl
  | obj b => simp only [Rep] at h; subst h; cases e; rfl
  | ty b => simp only [Rep] at h; subst h; cases e; rfl
  | tup o ds => simp only [Rep] at h; obtain ⟨a, vs, rfl, _⟩ := h; cases e; rfl
  | lst o ds => simp only [Rep] at h; obtain ⟨a, vs, rfl, _⟩ := h; cases e; rfl
  | ro t ds => simp only [Rep] at h; obtain ⟨a, vs, rfl, _⟩ := h; cases e; rfl
  | dct o t ks ds => simp only [Rep] at h; obtain ⟨a, vs, rfl, _⟩ := h; cases e; rfl
  | ins o C fs ds => simp only [Rep] at h; obtain ⟨a, vs, rfl, _⟩ := h; cases e; rfl
section
variable {X : Cx} {W : WX} {a b : Expr} {ra rb : RO} {pos p2 : Pos} {j : Nat}
theorem fe_isN (ha : FO X W a ra) : FE X W (.Compare a [.Is] [.Constant .none j p2] pos) (rIsN false ra) := by
  obtain ⟨t, p, s⟩ := ha.ex
  refine ⟨_, pe_cmp (pc_isN p), fun τ w σ ρ E Q Qv hn st h hq hx => ?_⟩
  refine s τ w σ ρ E _ _ hn st h (fun x ρ1 w1 v1 h1 e1 r1 => ?_) hx
  obtain ⟨dx, ex, h1⟩ := on1_elim h1
  obtain ⟨ℓ, rx⟩ := ad_get e1.st r1 ex
  split at h1
  · rename_i bb eb
    rw [isNon_rep rx eb]
    exact hq _ _ _ _ h1 e1 (by rw [Bool.false_xor]; rfl)
  · exact h1.elim
end
def keyEq (t : Bool) (a b : D) : Bool := if t then decide (tkey a = tkey b) else decide (skey a = skey b)
def kIdx (t : Bool) (ks : List D) (k : D) : Option Nat := ks.findIdx? fun k' => keyEq t k' k
def dLook (t : Bool) (ks ds : List D) (k : D) : Option D := (kIdx t ks k).bind fun i => ds[i]?
def pick (o : Option D) (Q : D → Prop) : Prop := match o with
  | some d => match d.own with
    | false => Q d
    | true => False
  | none => False
theorem pick_elim {o : Option D} {Q : D → Prop} (h : pick o Q) : ∃ d, o = some d ∧ d.own = false ∧ Q d := by
  unfold pick at h
  split at h
  · split at h
    · rename_i d _ e
      exact ⟨d, rfl, e, h⟩
    · exact h.elim
  · exact h.elim
theorem pick_of {o : Option D} {Q : D → Prop} {d : D} (h : o = some d) (ho : d.own = false) (q : Q d) : pick o Q := by
  subst h
  unfold pick
  simp only [ho]
  exact q
def dIx : DO
  | .lst _ ds, .int k, Q => pick (atI ds k) Q
  | .ro _ ds, .int k, Q => pick (atI ds k) Q
  | .tup _ ds, .int k, Q => pick (atI ds k) Q
  | .str z, .int k, Q => z.length ≤ sizeLine ∧ match atI z.cps.toList k with
    | some c => Q (.str ⟨#[c]⟩)
    | none => False
  | .dct _ t ks ds, k, Q => keyOk t k = true ∧ pick (dLook t ks ds k) Q
  | _, _, _ => False
theorem valV_zip {κ : Type} [DecidableEq κ] (f : D → κ) (k : D) : ∀ (ks : List D) (vs : List V), valV ((ks.map f).zip vs) (f k) = (ks.findIdx? fun k' => decide (f k' = f k)).bind fun i => vs[i]?
  | [], _ => by simp [valV]
  | a :: ks, [] => by simp [valV]
  | a :: ks, v :: vs => by
    rw [List.map_cons, List.zip_cons_cons, List.findIdx?_cons]
    by_cases e : f a = f k
    · rw [valV_pos (by exact e), if_pos (by simpa using e)]; rfl
    · rw [valV_neg (by exact e), if_neg (by simpa using e), valV_zip f k ks vs]
      cases (ks.findIdx? fun k' => decide (f k' = f k)) <;> rfl
theorem rep_skey {K : PySem.W.Frag} {w : Wd} {k : D} {ℓ : Loc} {v : V} (h : Rep K w k ℓ v) (hk : isSKey k = true) : v = kV (skey k) := by
  cases k with
  | int i => exact h
  | str s => exact h
  | _ => simp [isSKey] at hk
theorem repl_skeys {K : PySem.W.Frag} {w : Wd} : ∀ {ks : List D} {ℓ : Loc} {j : Nat} {vs : List V}, RepL K w ks ℓ j vs → ks.all isSKey = true → vs = (ks.map skey).map kV
  | [], _, _, _, h, _ => by simp only [RepL] at h; subst h; rfl
  | k :: ks, _, _, _, h, hk => by
    simp only [RepL] at h
    obtain ⟨v, r, rfl, h1, h2⟩ := h
    simp only [List.all_cons, Bool.and_eq_true] at hk
    rw [rep_skey h1 hk.1, repl_skeys h2 hk.2]; rfl
/-- a tuple that H tracks by itself (not one of the written part): keys of dicts -/
theorem DGet.of {K : PySem.W.Frag} {w : Wd} (wf : Wf w) {a : Addr} {t : Bool} {ks : List D} {us : List V} {k : D} {ℓ : Loc} {y : V} (h : Rd w.H a (dHO t ks us)) (hl : ks.length = us.length) (hk : keyOk t k = true) (ry : Rep K w k ℓ y)
    (ht : t = true → ∃ b, y = .ref b ∧ w.H b = some (.tup ((tkey k).map kV))) : DGet w.H a y ((kIdx t ks k).bind fun i => us[i]?) := by
  cases t with
  | false =>
    have hk : isSKey k = true := hk
    rw [rep_skey ry hk]
    have e : ((kIdx false ks k).bind fun i => us[i]?) = valV ((ks.map skey).zip us) (skey k) := (valV_zip skey k ks us).symm
    rw [e]
    exact .inl ⟨(ks.map skey).zip us, _, h, rfl, rfl⟩
  | true =>
    obtain ⟨b, rfl, hb⟩ := ht rfl
    have e : ((kIdx true ks k).bind fun i => us[i]?) = valV ((ks.map tkey).zip us) (tkey k) := (valV_zip tkey k ks us).symm
    rw [e]
    exact .inr ⟨(ks.map tkey).zip us, _, b, h, rfl, hb, rfl⟩
end FL
namespace FL
open PySem PySem.Spec PyProof.Rows L2
theorem ix_dict {X : Cx} (hu : X.A.units + 1 < cLine) : IxR X (fun x y H Q => ∃ a v, x = .ref a ∧ DGet H a y (some v) ∧ Q v H) := by
  intro value slice pins s σ H x y v u Q I rx ry h hs
  obtain ⟨a, z, rfl, g, q⟩ := h
  obtain rfl : v = Value.ref a := rx
  have hT := dict_typeIs I g
  unfold subscriptTail
  refine wpAny_bind ?_
  rw [getitemInPython_of_ne hT.not_modules]
  refine wpAny_bind (wpAny_specialOf hT PySem.F.slot_dict_getitem.lookup ?_)
  have fin : wpAny (model X.prog X.w) X.A (subscripted slice false (.ref a) u) (fun r s₃ => wpAny (model X.prog X.w) X.A (letTemporaryGo value (.ref a) r >>= fun _ => pure r) (EP X pins σ Q) X.xe s₃) X.xe s := by
    rw [hs]
    refine wpAny_operating (wpAny_mono (d_getItem hu I g ry fun w' s3 I3 rw' => (⟨z, H, I3, rw', q⟩ : EP X pins σ Q w' s3)) (fun r s₃ h₃ => wpAny_bind (wpAny_letTemporaryGo (wpAny_pure h₃))) fun _ _ x => x)
  first
    | exact wpAny_pure (wpAny_bind fin)
    | exact wpAny_bind (wpAny_pure (wpAny_bind fin))
    | exact wpAny_bind fin
theorem atI_map {α β : Type} {xs : List α} {ys : List β} (hl : xs.length = ys.length) {i : Int} {x : α} (h : atI xs i = some x) : ∃ j, xs[j]? = some x ∧ j < ys.length ∧ ∀ y, ys[j]? = some y → atI ys i = some y := by
  unfold atI at h ⊢
  rw [← hl]
  cases e : ixN xs.length i with
  | none => rw [e] at h; cases h
  | some j =>
    rw [e] at h
    have h : xs[j]? = some x := h
    exact ⟨j, h, (List.getElem?_eq_some_iff.mp h).1, fun y hy => hy⟩
theorem RepL.at {K : PySem.W.Frag} {w : Wd} {ds : List D} {ℓ : Loc} {vs : List V} {i : Int} {d : D} (h : RepL K w ds ℓ 0 vs) (e : atI ds i = some d) (ho : d.own = false) : ∃ v, atI vs i = some v ∧ ∀ τ, Rep K w d [τ] v := by
  obtain ⟨j, e1, _, e2⟩ := atI_map h.length.symm e
  obtain ⟨v, e3, r⟩ := h.get e1
  exact ⟨v, e2 v e3, fun τ => r.free (Same.refl _) d ho⟩
theorem dct_at {K : PySem.W.Frag} {w : Wd} (wf : Wf w) {o : Ow} {t : Bool} {ks ds : List D} {ℓ : Loc} {v : V} (h : Rep K w (.dct o t ks ds) ℓ v) : ∃ a vs, v = .ref a ∧ Rd w.H a (dHO t ks vs) ∧ ks.length = vs.length ∧ keysOk t ks = true ∧ RepL K w ds ℓ 0 vs := by
  simp only [Rep] at h
  obtain ⟨a, vs, e, h1, ⟨h3, h4, _⟩, h2⟩ := h
  cases q : o.mine with
  | true => rw [q] at h1; exact ⟨a, vs, e, .inl h1.2, h3, h4, h2⟩
  | false => rw [q] at h1; exact ⟨a, vs, e, rd_same wf.sh h1, h3, h4, h2⟩
theorem rep_tkey {K : PySem.W.Frag} {w : Wd} (wf : Wf w) {k : D} {ℓ : Loc} {v : V} (h : Rep K w k ℓ v) (hk : isTKey k = true) : ∃ b, v = .ref b ∧ w.H b = some (.tup ((tkey k).map kV)) := by
  cases k with
  | tup o ds =>
    obtain ⟨a, vs, rfl, h1, h2⟩ := tup_at wf h
    exact ⟨a, rfl, by rw [h1, repl_skeys h2 hk]; rfl⟩
  | _ => simp [isTKey] at hk
theorem dct_get {K : PySem.W.Frag} {w : Wd} (wf : Wf w) {o : Ow} {t : Bool} {ks ds : List D} {k : D} {ℓ ℓ' : Loc} {v y : V} (h : Rep K w (.dct o t ks ds) ℓ v) (ry : Rep K w k ℓ' y) (hk : keyOk t k = true) :
    ∃ a, v = .ref a ∧ ((∀ d, dLook t ks ds k = some d → ∃ z i, DGet w.H a y (some z) ∧ Rep K w d (ℓ ++ [i]) z) ∧ (dLook t ks ds k = none → DGet w.H a y none)) := by
  obtain ⟨a, vs, rfl, h1, h3, h4, h2⟩ := dct_at wf h
  have g := DGet.of wf h1 h3 hk ry (fun e => by subst e; exact rep_tkey wf ry hk)
  refine ⟨a, rfl, fun d e => ?_, fun e => ?_⟩
  · unfold dLook at e
    cases q : kIdx t ks k with
    | none => rw [q] at e; cases e
    | some i =>
      rw [q] at e g
      obtain ⟨z, e1, r⟩ := h2.get e
      refine ⟨z, 0 + i, ?_, r⟩
      rw [show ((some i).bind fun i => vs[i]?) = some z from e1] at g
      exact g
  · unfold dLook at e
    cases q : kIdx t ks k with
    | none => rw [q] at g; exact g
    | some i =>
      rw [q] at e g
      have e : ds[i]? = none := e
      rw [show ((some i).bind fun i => vs[i]?) = none from by
        show vs[i]? = none
        rw [List.getElem?_eq_none_iff] at e ⊢
        rw [h2.length]; exact e] at g
      exact g
section
variable {X : Cx} {W : WX} {a b : Expr} {ra rb : RO} {pos : Pos}
theorem fe_ix (hu : X.A.units + 1 < cLine) (ha : FO X W a ra) (hb : FO X W b rb) (hs : PlainIx b := by exact fun _ _ => rfl) : FE X W (.Subscript a b pos) (rBin dIx ra rb) := by
  obtain ⟨ta, pa, sa⟩ := ha.ex
  obtain ⟨tb, pb, sb⟩ := hb.ex
  refine ⟨_, pe_ix (ix_seq.or (ix_dict hu)) pa pb hs, so_bin sa sb fun τ w σ ρ x y dx dy ℓ ℓ' Q Qv hn st rx ry hq hv => ?_⟩
  unfold dIx at hq
  split at hq
  · rename_i o ds k
    obtain ⟨a, vs, rfl, h1, h2⟩ := lst_at st.wf rx
    obtain ⟨d, e, ho, q⟩ := pick_elim hq
    obtain ⟨z, e1, r⟩ := h2.at e ho
    simp only [Rep] at ry
    subst ry
    exact .inl (.inl ⟨a, vs, k, z, rfl, rfl, SqL.of h1, e1, hv _ w _ q (.refl st) (r τ)⟩)
  · rename_i t ds k
    simp only [Rep] at rx ry
    obtain ⟨a, vs, rfl, h1, _, h2⟩ := rx
    obtain ⟨d, e, ho, q⟩ := pick_elim hq
    obtain ⟨z, e1, r⟩ := h2.at e ho
    subst ry
    cases t with
    | true => exact .inl (.inr (.inl ⟨a, vs, k, z, rfl, rfl, same_rdT st.wf.sh h1, e1, hv _ w _ q (.refl st) (r τ)⟩))
    | false => exact .inl (.inl ⟨a, vs, k, z, rfl, rfl, st.wf.sh.seq h1, e1, hv _ w _ q (.refl st) (r τ)⟩)
  · rename_i o ds k
    obtain ⟨a, vs, rfl, h1, h2⟩ := tup_at st.wf rx
    obtain ⟨d, e, ho, q⟩ := pick_elim hq
    obtain ⟨z, e1, r⟩ := h2.at e ho
    simp only [Rep] at ry
    subst ry
    exact .inl (.inr (.inl ⟨a, vs, k, z, rfl, rfl, SqT.of h1, e1, hv _ w _ q (.refl st) (r τ)⟩))
  · rename_i z k
    simp only [Rep] at rx ry
    subst rx; subst ry
    obtain ⟨hz, q⟩ := hq
    split at q
    · rename_i c e
      exact .inl (.inr (.inr ⟨z, k, c, rfl, rfl, hz, e, hv _ w _ q (.refl st) rfl⟩))
    · exact q.elim
  · rename_i o t ks ds
    obtain ⟨hk, hq⟩ := hq
    obtain ⟨d, e, ho, q⟩ := pick_elim hq
    obtain ⟨a, rfl, g, _⟩ := dct_get st.wf rx ry hk
    obtain ⟨z, i, g, r⟩ := g d e
    exact .inr ⟨a, z, rfl, g, hv _ w _ q (.refl st) (r.free (Same.refl _) d ho)⟩
  · exact hq.elim
end
def rA0 : RA := fun ρ _ Q => Q [] ρ
def rAC (r : RO) (rs : RA) : RA := fun ρ E Q => r ρ E fun a ρ1 => rs ρ1 E fun as ρ2 => Q (a :: as) ρ2
theorem ArgsAt.cons {K : PySem.W.Frag} {w : Wd} {σ : Sl} {a : AD} {as : List AD} {τ : Nat} {v : V} {vs : List V} (h : AdAt K w σ a τ v) (g : ArgsAt K w σ as (τ + 1) vs) : ArgsAt K w σ (a :: as) τ (v :: vs) := by
  cases a with
  | val d => exact ⟨v, vs, rfl, h, g⟩
  | brw i => exact ⟨v, vs, rfl, h, g⟩
section
variable {X : Cx} {W : WX} {e : Expr} {es : List Expr} {r : RO} {rs : RA} {pos : Pos}
theorem fa_nil : FA X W [] rA0 := ⟨_, pa_nil, fun τ w σ ρ E Q Qv hn st h hq hx => hq _ _ _ _ h rfl (.refl st) rfl⟩
theorem fa_cons (h : FO X W e r) (g : FA X W es rs) (hs : starEach (e :: es) X.env = (false, eval e X.env) :: starEach es X.env := by rfl) : FA X W (e :: es) (rAC r rs) := by
  obtain ⟨t, p, s⟩ := h.ex
  obtain ⟨ts, ps, ss⟩ := g.ex
  refine ⟨_, pa_cons p ps hs, fun τ w σ ρ E Q Qv hn st h hq hx => ?_⟩
  refine s τ w σ ρ E _ _ hn st h (fun a ρ1 w1 v1 h1 e1 r1 => ?_) hx
  refine ss (τ + 1) w1 σ ρ1 E _ _ (by rw [e1.len]; omega) e1.st h1 (fun as ρ2 w2 vs h2 hl e2 r2 => ?_) (hx.then e1 (Nat.le_succ _))
  exact hq _ _ _ _ h2 (by rw [List.length_cons, List.length_cons, hl]) (e1.trans e2 (Nat.le_succ _)) (.cons (r1.later (by rw [e1.len]; exact hn) e2) r2)
end
def vals : List AD → Option (List D)
  | [] => some []
  | .val d :: r => match vals r with
    | some ds => some (d :: ds)
    | none => none
  | .brw _ :: _ => none
def onVals (ads : List AD) (k : List D → Prop) : Prop := match vals ads with
  | some ds => k ds
  | none => False
theorem onVals_elim {ads : List AD} {k : List D → Prop} (h : onVals ads k) : ∃ ds, vals ads = some ds ∧ k ds := by
  unfold onVals at h
  split at h
  · exact ⟨_, by assumption, h⟩
  · exact h.elim
theorem vals_at {K : PySem.W.Frag} {w : Wd} {σ : Sl} : ∀ {ads : List AD} {τ : Nat} {vs : List V} {ds : List D}, ArgsAt K w σ ads τ vs → vals ads = some ds → vs.length = ds.length ∧ ds.length = ads.length ∧ ∀ i d v, ds[i]? = some d → vs[i]? = some v → Rep K w d [τ + i] v
  | [], _, _, _, h, e => by simp only [vals] at e; cases e; simp only [ArgsAt] at h; subst h; simp
  | .brw _ :: _, _, _, _, _, e => by simp only [vals] at e; cases e
  | .val d :: r, τ, vs, ds, h, e => by
    simp only [ArgsAt] at h
    obtain ⟨v, us, rfl, h1, h2⟩ := h
    simp only [vals] at e
    split at e
    · rename_i ds' e'
      cases e
      obtain ⟨l1, l2, g⟩ := vals_at h2 e'
      refine ⟨by simpa using l1, by simpa using l2, fun i d' v' e1 e2 => ?_⟩
      cases i with
      | zero => cases e1; cases e2; exact h1
      | succ i =>
        have := g i d' v' (by simpa using e1) (by simpa using e2)
        rw [show τ + 1 + i = τ + (i + 1) by omega] at this
        exact this
    · cases e
theorem gather_reps {K : PySem.W.Frag} {w : Wd} {σ : Sl} {ads : List AD} {τ : Nat} {vs : List V} {ds : List D} (h : ArgsAt K w σ ads τ vs) (e : vals ads = some ds) : RepL K (w.ren (gather τ ds.length)) ds [τ] 0 vs := by
  obtain ⟨l1, _, g⟩ := vals_at h e
  refine RepL.of l1 fun i d v e1 e2 => ?_
  have hi := (List.getElem?_eq_some_iff.mp e1).1
  refine (g i d v e1 e2).ren fun s => ?_
  have := gather_at (τ := τ) hi s
  simpa using this
def rTup (ra : RA) : RE := fun ρ E Q => ra ρ E fun ads ρ' => onVals ads fun ds => Q (.tup (ownL ds) ds) ρ'
def rLst (ra : RA) : RE := fun ρ E Q => ra ρ E fun ads ρ' => onVals ads fun ds => Q (.lst (Ow.of (ownL ds)) ds) ρ'
section
variable {X : Cx} {W : WX} {es : List Expr} {ra : RA} {pos : Pos}
theorem fe_tup {k : Nat} (h : FA X W es ra) (hl : decide (es.length ≤ 1000) = true := by rfl) : FE X W (.Tuple es k pos) (rTup ra) := by
  obtain ⟨t, p, s⟩ := h.ex
  refine ⟨_, pe_tup p, fun τ w σ ρ E Q Qv hn st h hq hx => ?_⟩
  refine s τ w σ ρ E _ _ hn st h (fun ads ρ1 w1 vs h1 l1 e1 r1 => ?_) hx
  obtain ⟨ds, ev, q⟩ := onVals_elim h1
  obtain ⟨l2, l3, _⟩ := vals_at r1 ev
  refine ⟨by have := of_decide_eq_true hl; rw [l2, l3, l1]; exact Nat.le_of_lt (small1000 this), fun p n => ?_⟩
  have er := EndE.ren (τ := τ) e1.st (gather_calm (k := ds.length) (by rw [e1.len]; exact hn))
  obtain ⟨e2, r2⟩ := EndE.tup (τ := τ) (ownL ds) er.st (p := p) n (gather_reps r1 ev) (by have := of_decide_eq_true hl; rw [l3, l1]; exact Nat.le_of_lt (small1000 this)) (fun z => z)
  exact hq _ ρ1 _ _ q ((e1.trans er (Nat.le_refl _)).trans e2 (Nat.le_refl _)) r2
theorem fe_lst (h : FA X W es ra) (hl : decide (es.length ≤ 1000) = true := by rfl) : FE X W (.List es pos) (rLst ra) := by
  obtain ⟨t, p, s⟩ := h.ex
  refine ⟨_, pe_lst p, fun τ w σ ρ E Q Qv hn st h hq hx => ?_⟩
  refine s τ w σ ρ E _ _ hn st h (fun ads ρ1 w1 vs h1 l1 e1 r1 => ?_) hx
  obtain ⟨ds, ev, q⟩ := onVals_elim h1
  obtain ⟨l2, l3, _⟩ := vals_at r1 ev
  refine ⟨by have := of_decide_eq_true hl; rw [l2, l3, l1]; exact Nat.le_of_lt (small1000 this), fun p n => ?_⟩
  have er := EndE.ren (τ := τ) e1.st (gather_calm (k := ds.length) (by rw [e1.len]; exact hn))
  obtain ⟨e2, r2⟩ := EndE.own (τ := τ) (Ow.of (ownL ds)) er.st (p := p) n (gather_reps r1 ev) (by have := of_decide_eq_true hl; rw [l3, l1]; exact Nat.le_of_lt (small1000 this)) (fun z => by cases q : ownL ds with | false => rfl | true => rw [q] at z; cases z) (by cases ownL ds <;> rfl)
  exact hq _ ρ1 _ _ q ((e1.trans er (Nat.le_refl _)).trans e2 (Nat.le_refl _)) r2
/-- {} : a new dict, its keys by t -/
def rDNew (t : Bool) : RE := fun ρ _ Q => Q (.dct .flat t [] []) ρ
theorem fe_dnew (t : Bool) : FE X W (.Dict [] [] pos) (rDNew t) := by
  have key : ∀ t, SE X.K W (fun _ H Q => ∀ p, H p = none → Q (.ref p) (upd H p (dHO t [] []))) (rDNew t) := fun t τ w σ ρ E Q Qv hn st h hq hx p n => by
    refine hq _ ρ (w.new p [τ] (dHO t [] [])) _ h (.new st n (by cases t <;> trivial)) ?_
    simp only [Rep]
    refine ⟨p, [], rfl, ⟨?_, upd_same⟩, ⟨rfl, by cases t <;> simp [keysOk], fun _ => rfl⟩, by simp [RepL]⟩
    show (if p = p then _ else _) = _
    rw [if_pos rfl]
  cases t with
  | true => exact ⟨_, pe_dnewT, key true⟩
  | false => exact ⟨_, pe_dnewK, key false⟩
end
def RepsAny (K : PySem.W.Frag) (w : Wd) : List D → List V → Prop
  | [], vs => vs = []
  | d :: ds, vs => ∃ v us, vs = v :: us ∧ (∃ ℓ, Rep K w d ℓ v) ∧ RepsAny K w ds us
def adsD (ρ : En) : List AD → Option (List D)
  | [] => some []
  | a :: r => match adD ρ a with
    | some d => match adsD ρ r with
      | some ds => some (d :: ds)
      | none => none
    | none => none
def onAds (ρ : En) (ads : List AD) (k : List D → Prop) : Prop := match adsD ρ ads with
  | some ds => k ds
  | none => False
theorem onAds_elim {ρ : En} {ads : List AD} {k : List D → Prop} (h : onAds ρ ads k) : ∃ ds, adsD ρ ads = some ds ∧ k ds := by
  unfold onAds at h
  split at h
  · exact ⟨_, by assumption, h⟩
  · exact h.elim
theorem ads_any {K : PySem.W.Frag} {w : Wd} {σ : Sl} {ρ : En} (st : StE K w σ ρ) : ∀ {ads : List AD} {τ : Nat} {vs : List V} {ds : List D}, ArgsAt K w σ ads τ vs → adsD ρ ads = some ds → RepsAny K w ds vs
  | [], _, _, _, h, e => by simp only [adsD] at e; cases e; exact h
  | a :: r, τ, vs, ds, h, e => by
    obtain ⟨v, us, rfl, h1, h2⟩ : ∃ v us, vs = v :: us ∧ AdAt K w σ a τ v ∧ ArgsAt K w σ r (τ + 1) us := by
      cases a with
      | val d => exact h
      | brw i => exact h
    simp only [adsD] at e
    split at e
    · rename_i d e1
      split at e
      · rename_i ds' e2
        cases e
        exact ⟨v, us, rfl, ad_get st h1 e1, ads_any st h2 e2⟩
      · cases e
    · cases e
abbrev DC := List D → (D → Prop) → Prop
def SCK (K : PySem.W.Frag) (r : List V → Hp → VK → Prop) (dc : DC) : Prop :=
  ∀ (τ : Nat) (w : Wd) (σ : Sl) (ρ : En) (vs : List V) (ds : List D) (Q : D → Prop) (Qv : VK), ρ.length < τ → StE K w σ ρ → RepsAny K w ds vs → dc ds Q →
    (∀ d w' v, Q d → EndE K τ w σ ρ ρ w' → Rep K w' d [τ] v → Qv v w'.H) → r vs w.H Qv
structure FC (X : Cx) (f : Value) (dc : DC) : Prop where
  ex : ∃ r, CallR X f r ∧ SCK X.K r dc
theorem FC.or {X : Cx} {f : Value} {p q : DC} (h : FC X f p) (g : FC X f q) : FC X f (fun a Q => p a Q ∨ q a Q) := by
  obtain ⟨r, h1, h2⟩ := h.ex
  obtain ⟨r', g1, g2⟩ := g.ex
  refine ⟨_, h1.or g1, fun τ w σ ρ vs ds Q Qv hn st rs hd hq => ?_⟩
  rcases hd with hd | hd
  · exact .inl (h2 τ w σ ρ vs ds Q Qv hn st rs hd hq)
  · exact .inr (g2 τ w σ ρ vs ds Q Qv hn st rs hd hq)
theorem FC.imp {X : Cx} {f : Value} {p q : DC} (h : FC X f p) (g : ∀ a Q, q a Q → p a Q) : FC X f q := by
  obtain ⟨r, h1, h2⟩ := h.ex
  exact ⟨r, h1, fun τ w σ ρ vs ds Q Qv hn st rs hd hq => h2 τ w σ ρ vs ds Q Qv hn st rs (g _ _ hd) hq⟩
def rCB (dc : DC) (ra : RA) : RE := fun ρ E Q => ra ρ E fun ads ρ' => onAds ρ' ads fun ds => dc ds fun d => Q d ρ'
section
variable {X : Cx} {W : WX} {x : Str} {p pos : Pos} {e : Expr} {es : List Expr} {ra : RA} {id T : String} {dc : DC}
theorem se_cb {K : PySem.W.Frag} {k : Nat} {t : TA} {r : List V → Hp → VK → Prop} (sa : SA K W k t ra) (sc : SCK K r dc) : SE K W (tCB r t) (rCB dc ra) := by
  intro τ w σ ρ E Q Qv hn st h hq hx
  refine sa τ w σ ρ E _ _ hn st h (fun ads ρ1 w1 vs h1 l1 e1 r1 => ?_) hx
  obtain ⟨ds, ev, q⟩ := onAds_elim h1
  exact sc τ w1 σ ρ1 vs ds _ _ (by rw [e1.len]; exact hn) e1.st (ads_any e1.st r1 ev) q fun d w2 v q2 e2 r2 => hq d ρ1 w2 v q2 (e1.trans e2 (Nat.le_refl _)) r2
theorem fe_callB (hc : FC X (.builtin id) dc) (hm : X.mg x = none) (hv : bootBuiltins x = some (.builtin id)) (ha : FA X W (e :: es) ra) (hg : Gl X x := by rfl) (hn : x ≠ "__name__" := by decide) (hdb : (x == ("__debug__" : Str)) = false := by decide)
    (he : starEach (e :: es) X.env = (false, eval e X.env) :: starEach es X.env := by rfl) (hpl : (backTo pos (starEach es X.env)).any (·.1) = false := by rfl) : FE X W (.Call (.Name x p) (e :: es) [] pos) (rCB dc ra) := by
  obtain ⟨r, h1, h2⟩ := hc.ex
  obtain ⟨t, pa, sa⟩ := ha.ex
  exact ⟨_, pe_callB h1 hg hm hv pa hn hdb he hpl, se_cb sa h2⟩
theorem fe_callTy (hc : FC X (.type T) dc) (hm : X.mg x = none) (hv : bootBuiltins x = some (.type T)) (ha : FA X W (e :: es) ra) (hg : Gl X x := by rfl) (hn : x ≠ "__name__" := by decide) (hdb : (x == ("__debug__" : Str)) = false := by decide)
    (he : starEach (e :: es) X.env = (false, eval e X.env) :: starEach es X.env := by rfl) (hpl : (backTo pos (starEach es X.env)).any (·.1) = false := by rfl) : FE X W (.Call (.Name x p) (e :: es) [] pos) (rCB dc ra) := by
  obtain ⟨r, h1, h2⟩ := hc.ex
  obtain ⟨t, pa, sa⟩ := ha.ex
  exact ⟨_, pe_callTy h1 hg hm hv pa hn hdb he hpl, se_cb sa h2⟩
end
def dLen : DC
  | [.lst _ ds], Q => Q (.int ds.length)
  | [.ro _ ds], Q => Q (.int ds.length)
  | [.tup _ ds], Q => Q (.int ds.length)
  | [.str z], Q => z.length ≤ sizeLine ∧ Q (.int z.length)
  | _, _ => False
def dAbs : DC
  | [.int i], Q => Q (.int (if i < 0 then -i else i))
  | _, _ => False
def dMax2 : DC
  | [.int i, .int j], Q => Q (.int (if j > i then j else i))
  | _, _ => False
def dMin2 : DC
  | [.int i, .int j], Q => Q (.int (if j < i then j else i))
  | _, _ => False
def dInt : DC
  | [.int i], Q => Q (.int i)
  | [.bl k], Q => Q (.int (if k then 1 else 0))
  | _, _ => False
def dList : DC
  | [.lst o ds], Q => match o with
    | .deep => False
    | _ => Q (.lst .flat ds)
  | [.ro _ ds], Q => Q (.lst .flat ds)
  | [.tup false ds], Q => Q (.lst .flat ds)
  | _, _ => False
def dTuple : DC
  | [.lst o ds], Q => match o with
    | .deep => False
    | _ => Q (.tup false ds)
  | [.tup false ds], Q => Q (.tup false ds)
  | _, _ => False
section
variable {X : Cx}
theorem reps1 {K : PySem.W.Frag} {w : Wd} {d : D} {vs : List V} (h : RepsAny K w [d] vs) : ∃ v ℓ, vs = [v] ∧ Rep K w d ℓ v := by
  obtain ⟨v, us, rfl, ⟨ℓ, r⟩, h2⟩ := h
  simp only [RepsAny] at h2
  subst h2
  exact ⟨v, ℓ, rfl, r⟩
theorem reps2 {K : PySem.W.Frag} {w : Wd} {d e : D} {vs : List V} (h : RepsAny K w [d, e] vs) : ∃ v u ℓ ℓ', vs = [v, u] ∧ Rep K w d ℓ v ∧ Rep K w e ℓ' u := by
  obtain ⟨v, us, rfl, ⟨ℓ, r⟩, h2⟩ := h
  obtain ⟨u, ℓ', rfl, r'⟩ := reps1 h2
  exact ⟨v, u, ℓ, ℓ', rfl, r, r'⟩
theorem fc_len : FC X (.builtin "len") dLen := by
  refine ⟨_, call_len, fun τ w σ ρ vs ds Q Qv hn st rs hd hq => ?_⟩
  unfold dLen at hd
  split at hd
  · obtain ⟨v, ℓ, rfl, r⟩ := reps1 rs
    obtain ⟨a, us, rfl, h1, h2⟩ := lst_at st.wf r
    exact ⟨.ref a, _, rfl, .inl ⟨us, SqL.of h1, rfl⟩, hq _ w _ hd (.refl st) (by rw [h2.length]; rfl)⟩
  · rename_i t ds
    obtain ⟨v, ℓ, rfl, r⟩ := reps1 rs
    simp only [Rep] at r
    obtain ⟨a, us, rfl, h1, hz, h2⟩ := r
    refine ⟨.ref a, _, rfl, ?_, hq _ w _ hd (.refl st) (by rw [← h2.length]; rfl)⟩
    cases t with
    | true => exact .inr ⟨us, same_rdT st.wf.sh h1, rfl⟩
    | false => exact .inl ⟨us, st.wf.sh.seq h1, rfl⟩
  · obtain ⟨v, ℓ, rfl, r⟩ := reps1 rs
    obtain ⟨a, us, rfl, h1, h2⟩ := tup_at st.wf r
    exact ⟨.ref a, _, rfl, .inr ⟨us, SqT.of h1, rfl⟩, hq _ w _ hd (.refl st) (by rw [h2.length]; rfl)⟩
  · obtain ⟨v, ℓ, rfl, r⟩ := reps1 rs
    simp only [Rep] at r
    subst r
    exact ⟨_, _, rfl, ⟨hd.1, rfl⟩, hq _ w _ hd.2 (.refl st) rfl⟩
  · exact hd.elim
theorem fc_abs : FC X (.builtin "abs") dAbs := by
  refine ⟨_, call_abs, fun τ w σ ρ vs ds Q Qv hn st rs hd hq => ?_⟩
  unfold dAbs at hd
  split at hd
  · obtain ⟨v, ℓ, rfl, r⟩ := reps1 rs
    simp only [Rep] at r
    subst r
    exact ⟨_, rfl, hq _ w _ hd (.refl st) rfl⟩
  · exact hd.elim
theorem fc_max2 (hc : X.calm = true := by rfl) : FC X (.builtin "max") dMax2 := by
  refine ⟨_, call_max2 hc, fun τ w σ ρ vs ds Q Qv hn st rs hd hq => ?_⟩
  unfold dMax2 at hd
  split at hd
  · obtain ⟨v, u, ℓ, ℓ', rfl, r, r'⟩ := reps2 rs
    simp only [Rep] at r r'
    subst r; subst r'
    exact ⟨_, _, rfl, hq _ w _ hd (.refl st) rfl⟩
  · exact hd.elim
theorem fc_min2 (hc : X.calm = true := by rfl) : FC X (.builtin "min") dMin2 := by
  refine ⟨_, call_min2 hc, fun τ w σ ρ vs ds Q Qv hn st rs hd hq => ?_⟩
  unfold dMin2 at hd
  split at hd
  · obtain ⟨v, u, ℓ, ℓ', rfl, r, r'⟩ := reps2 rs
    simp only [Rep] at r r'
    subst r; subst r'
    exact ⟨_, _, rfl, hq _ w _ hd (.refl st) rfl⟩
  · exact hd.elim
theorem fc_int : FC X (.type "int") dInt := by
  refine ⟨_, call_int1, fun τ w σ ρ vs ds Q Qv hn st rs hd hq => ?_⟩
  unfold dInt at hd
  split at hd
  · obtain ⟨v, ℓ, rfl, r⟩ := reps1 rs
    simp only [Rep] at r
    subst r
    exact .inl ⟨_, rfl, hq _ w _ hd (.refl st) rfl⟩
  · obtain ⟨v, ℓ, rfl, r⟩ := reps1 rs
    simp only [Rep] at r
    subst r
    exact .inr ⟨_, rfl, hq _ w _ hd (.refl st) rfl⟩
  · exact hd.elim
theorem fc_list : FC X (.type "list") dList := by
  refine ⟨_, call_list_of, fun τ w σ ρ vs ds Q Qv hn st rs hd hq => ?_⟩
  unfold dList at hd
  split at hd
  · rename_i o ds
    obtain ⟨v, ℓ, rfl, r⟩ := reps1 rs
    have hz := lst_sz r
    have key : o.light = true → Q (.lst .flat ds) → (∃ p ys, [v] = [V.ref p] ∧ (SqL X.K w.H p ys ∨ SqT X.K w.H p ys) ∧ ∀ l, w.H l = none → Qv (.ref l) (upd w.H l (.lst ys))) := fun ho hd => by
      obtain ⟨a, us, rfl, h1, h2⟩ := lst_at st.wf r
      refine ⟨a, us, rfl, .inl (SqL.of h1), fun p n => ?_⟩
      obtain ⟨e, r⟩ := EndE.own (τ := τ) .flat st n (RepL.free (w' := w) (ℓ' := [τ]) (j' := 0) (Same.refl _) ds (hz.2 ho) h2) hz.1 (fun _ => hz.2 ho) rfl
      exact hq _ _ _ hd e r
    cases o with
    | deep => exact hd.elim
    | flat => exact key rfl hd
    | ice => exact key rfl hd
  · rename_i t ds
    obtain ⟨v, ℓ, rfl, r⟩ := reps1 rs
    simp only [Rep] at r
    obtain ⟨a, us, rfl, h1, hz, h2⟩ := r
    refine ⟨a, us, rfl, ?_, fun p n => ?_⟩
    · cases t with
      | true => exact .inr (same_rdT st.wf.sh h1)
      | false => exact .inl (st.wf.sh.seq h1)
    · obtain ⟨e, r⟩ := EndE.own (τ := τ) .flat st n (RepL.free (w' := w) (ℓ' := [τ]) (j' := 0) (Same.refl _) ds hz.2 h2) hz.1 (fun _ => hz.2) rfl
      exact hq _ _ _ hd e r
  · rename_i ds
    obtain ⟨v, ℓ, rfl, r⟩ := reps1 rs
    have hz := tup_sz r
    obtain ⟨a, us, rfl, h1, h2⟩ := tup_at st.wf r
    refine ⟨a, us, rfl, .inr (SqT.of h1), fun p n => ?_⟩
    obtain ⟨e, r⟩ := EndE.own (τ := τ) .flat st n (RepL.free (w' := w) (ℓ' := [τ]) (j' := 0) (Same.refl _) ds (hz.2 rfl) h2) hz.1 (fun _ => hz.2 rfl) rfl
    exact hq _ _ _ hd e r
  · exact hd.elim
theorem fc_tuple : FC X (.type "tuple") dTuple := by
  refine ⟨_, call_tuple_of, fun τ w σ ρ vs ds Q Qv hn st rs hd hq => ?_⟩
  unfold dTuple at hd
  split at hd
  · rename_i o ds
    obtain ⟨v, ℓ, rfl, r⟩ := reps1 rs
    have hz := lst_sz r
    obtain ⟨a, us, rfl, h1, h2⟩ := lst_at st.wf r
    have key : o.light = true → Q (.tup false ds) → ∀ l, w.H l = none → Qv (.ref l) (upd w.H l (.tup us)) := fun ho hd p n => by
      obtain ⟨e, r⟩ := EndE.tup (τ := τ) false st n (RepL.free (w' := w) (ℓ' := [τ]) (j' := 0) (Same.refl _) ds (hz.2 ho) h2) hz.1 (fun _ => hz.2 ho)
      exact hq _ _ _ hd e r
    refine ⟨a, us, rfl, .inl ⟨SqL.of h1, ?_⟩⟩
    cases o with
    | deep => exact hd.elim
    | flat => exact key rfl hd
    | ice => exact key rfl hd
  · rename_i ds
    obtain ⟨v, ℓ, rfl, r⟩ := reps1 rs
    obtain ⟨a, us, rfl, h1, h2⟩ := tup_at st.wf r
    exact ⟨a, us, rfl, .inr ⟨SqT.of h1, hq _ w _ hd (.refl st) (r.free (Same.refl _) _ rfl)⟩⟩
  · exact hd.elim
end
def rAnd (r s : RT) : RT := fun ρ E Q => r ρ E fun b ρ1 => (b = true → s ρ1 E Q) ∧ (b = false → Q false ρ1)
def rOr (r s : RT) : RT := fun ρ E Q => r ρ E fun b ρ1 => (b = true → Q true ρ1) ∧ (b = false → s ρ1 E Q)
def rIfE (t : RT) (r s : RE) : RE := fun ρ E Q => t ρ E fun b ρ1 => (b = true → r ρ1 E Q) ∧ (b = false → s ρ1 E Q)
def rAndV (r s : RE) : RE := fun ρ E Q => r ρ E fun d ρ1 => match d with
  | .bl b => (b = true → s ρ1 E Q) ∧ (b = false → Q (.bl false) ρ1)
  | _ => False
def rNotV (r : RE) : RE := fun ρ E Q => r ρ E fun d ρ1 => match d with
  | .bl b => Q (.bl (!b)) ρ1
  | _ => False
section
variable {X : Cx} {W : WX} {a b c : Expr} {rest : List Expr} {r s : RT} {re se : RE} {pos : Pos}
theorem FW.ft (h : FW X W a r) : FT X W a r := by
  obtain ⟨t, p, k⟩ := h.ex
  exact ⟨t, p.pt, k⟩
theorem fw_and1 (h : FT X W a r) : FW X W (.BoolOp .And [a] pos) r := by
  obtain ⟨t, p, k⟩ := h.ex
  exact ⟨t, pw_and1 p, k⟩
theorem fw_and (h : FT X W a r) (g : FW X W (.BoolOp .And (b :: rest) pos) s) : FW X W (.BoolOp .And (a :: b :: rest) pos) (rAnd r s) := by
  obtain ⟨t, p, k⟩ := h.ex
  obtain ⟨u, q, l⟩ := g.ex
  refine ⟨_, pw_and p q, fun τ w σ ρ E Q Qv hn st h hq hx => ?_⟩
  refine k τ w σ ρ E _ _ hn st h (fun b ρ1 w1 h1 e1 => ?_) hx
  cases b with
  | true =>
    rw [if_pos rfl]
    exact l τ w1 σ ρ1 E _ _ (by rw [e1.len]; exact hn) e1.st (h1.1 rfl) (fun b ρ2 w2 h2 e2 => hq b ρ2 w2 h2 (e1.trans e2 (Nat.le_refl _))) (hx.then e1 (Nat.le_refl _))
  | false =>
    rw [if_neg Bool.false_ne_true]
    exact hq false ρ1 w1 (h1.2 rfl) e1
theorem fe_ifE (hc : FT X W c r) (ha : FE X W a re) (hb : FE X W b se) : FE X W (.IfExp c a b pos) (rIfE r re se) := by
  obtain ⟨t, p, k⟩ := hc.ex
  obtain ⟨u, q, l⟩ := ha.ex
  obtain ⟨u', q', l'⟩ := hb.ex
  refine ⟨_, pe_ifExp p q q', fun τ w σ ρ E Q Qv hn st h hq hx => ?_⟩
  refine k τ w σ ρ E _ _ hn st h (fun b ρ1 w1 h1 e1 => ?_) hx
  cases b with
  | true =>
    rw [if_pos rfl]
    exact l τ w1 σ ρ1 E _ _ (by rw [e1.len]; exact hn) e1.st (h1.1 rfl) (fun b ρ2 w2 v h2 e2 r2 => hq b ρ2 w2 v h2 (e1.trans e2 (Nat.le_refl _)) r2) (hx.then e1 (Nat.le_refl _))
  | false =>
    rw [if_neg Bool.false_ne_true]
    exact l' τ w1 σ ρ1 E _ _ (by rw [e1.len]; exact hn) e1.st (h1.2 rfl) (fun b ρ2 w2 v h2 e2 r2 => hq b ρ2 w2 v h2 (e1.trans e2 (Nat.le_refl _)) r2) (hx.then e1 (Nat.le_refl _))
end
end FL
namespace FL
open PySem PySem.Spec PyProof.Rows L2
def Wd.ice (w : Wd) (P : Loc → Bool) : Wd :=
  ⟨fun a => match w.G a with
    | some ℓ => if P ℓ then none else some ℓ
    | none => none,
   fun a => match w.G a with
    | some ℓ => if P ℓ then w.H a else w.S a
    | none => w.S a, w.H⟩
section
variable {w : Wd} {P : Loc → Bool}
theorem Wf.ice (h : Wf w) : Wf (w.ice P) := by
  refine ⟨fun a o e => ?_, fun a ℓ e => ?_⟩
  · have e : (match w.G a with | some ℓ => if P ℓ then w.H a else w.S a | none => w.S a) = some o := e
    cases hk : w.G a with
    | none => rw [hk] at e; exact h.sh a o e
    | some k =>
      rw [hk] at e
      have e : (if P k then w.H a else w.S a) = some o := e
      cases hp : P k with
      | true => rw [hp] at e; exact e
      | false => rw [hp] at e; exact h.sh a o e
  · have e : (match w.G a with | some ℓ => if P ℓ then none else some ℓ | none => none) = some ℓ := e
    cases hk : w.G a with
    | none => rw [hk] at e; cases e
    | some k =>
      rw [hk] at e
      have e : (if P k then none else some k) = some ℓ := e
      cases hp : P k with
      | true => rw [hp] at e; cases e
      | false =>
        refine ⟨?_, (h.tg a k hk).2⟩
        show (match w.G a with | some ℓ => if P ℓ then w.H a else w.S a | none => w.S a) = none
        rw [hk]
        show (if P k then w.H a else w.S a) = none
        rw [hp]
        exact (h.tg a k hk).1
theorem ice_same (h : Wf w) : Same w.S (w.ice P).S := fun a o e => by
  show (match w.G a with | some ℓ => if P ℓ then w.H a else w.S a | none => w.S a) = some o
  cases hk : w.G a with
  | none => exact e
  | some k => rw [(h.tg a k hk).1] at e; cases e
theorem ice_kept {ℓ : Loc} (h : ∀ s, P (ℓ ++ s) = false) : KeptTo w (w.ice P) ℓ ℓ := fun a s e => by
  refine ⟨?_, rfl⟩
  show (match w.G a with | some ℓ => if P ℓ then none else some ℓ | none => none) = _
  rw [e]
  show (if P (ℓ ++ s) then none else some (ℓ ++ s)) = _
  rw [h s]; rfl
theorem ice_frz {ℓ : Loc} (h : ∀ s, P (ℓ ++ s) = true) : FrzTo w (w.ice P) ℓ := fun a s o e eo => by
  show (match w.G a with | some ℓ => if P ℓ then w.H a else w.S a | none => w.S a) = some o
  rw [e]
  show (if P (ℓ ++ s) then w.H a else w.S a) = some o
  rw [h s]; exact eo
end
section
variable {X : Cx} {W : WX} {M : List Nat} {st : Stmt} {rest : List Stmt} {r u : RS} {e : Expr} {re : RE} {pos pos' : Pos}
def rNx : RS := fun ρ _ F => F.nx ρ
def rSeq (r u : RS) : RS := fun ρ E F => r ρ E (F.wn fun ρ' => u ρ' E F)
theorem fss_nil : FSs X W M [] rNx := ⟨_, pss_nil, fun w σ ρ E F D st h hf => hf.nx ρ w σ h (.refl st)⟩
theorem fss_cons (h : FS X W M st r) (g : FSs X W M rest u) : FSs X W M (st :: rest) (rSeq r u) := by
  obtain ⟨t, p, k⟩ := h.ex
  obtain ⟨t', p', k'⟩ := g.ex
  refine ⟨_, pss_cons p p', fun w σ ρ E F D st h hf => ?_⟩
  exact k w σ ρ E _ _ st h ⟨fun ρ' w' σ' h' e => k' w' σ' ρ' E F D e.st h' (hf.then e), hf.rt, hf.bk, hf.ct, hf.ex⟩
theorem fss_one (h : FS X W M st r) : FSs X W M [st] r := by
  obtain ⟨t, p, k⟩ := h.ex
  exact ⟨_, pss_one p, k⟩
/-- the ways joined behind a statement -/
structure CutG (r : RS) (ρ : En) (E : EE) (F : Fin) : Prop where
  go : ∃ I : En → Prop, r ρ E (F.wn I) ∧ ∀ ρ', I ρ' → F.nx ρ'
def rCut (r : RS) : RS := fun ρ E F => CutG r ρ E F
theorem fs_cut (h : FS X W M st r) : FS X W M st (rCut r) := by
  obtain ⟨t, p, k⟩ := h.ex
  refine ⟨_, p, fun w σ ρ E F D st ⟨I, h, g⟩ hf => ?_⟩
  exact k w σ ρ E _ _ st h ⟨fun ρ' w' σ' h' e => hf.nx ρ' w' σ' (g ρ' h') e, hf.rt, hf.bk, hf.ct, hf.ex⟩
/-- any weakening of the ends -/
structure Fin.le (F G : Fin) : Prop where
  nx : ∀ ρ, F.nx ρ → G.nx ρ
  rt : ∀ d ρ, F.rt d ρ → G.rt d ρ
  bk : ∀ ρ, F.bk ρ → G.bk ρ
  ct : ∀ ρ, F.ct ρ → G.ct ρ
theorem Fin.le.refl (F : Fin) : F.le F := ⟨fun _ h => h, fun _ _ h => h, fun _ h => h, fun _ h => h⟩
theorem SF.le {K : PySem.W.Frag} {w : Wd} {σ : Sl} {ρ : En} {E : EE} {F G : Fin} {D : Ends} (h : SF K W M w σ ρ E G D) (l : F.le G) : SF K W M w σ ρ E F D :=
  ⟨fun ρ' w' σ' q e => h.nx ρ' w' σ' (l.nx _ q) e, fun d ρ' w' σ' v q e r => h.rt d ρ' w' σ' v (l.rt _ _ q) e r, fun ρ' w' σ' q e => h.bk ρ' w' σ' (l.bk _ q) e, fun ρ' w' σ' q e => h.ct ρ' w' σ' (l.ct _ q) e, h.ex⟩
def rDrop (re : RE) : RS := fun ρ E F => re ρ E fun _ ρ' => F.nx ρ'
theorem fs_expr (he : FE X W e re) (hs : swapsWith e none pos.line X.env = pure false := by rfl) : FS X W M (.Expr e pos) (rDrop re) := by
  obtain ⟨t, p, k⟩ := he.ex
  refine ⟨_, ps_expr p hs, fun w σ ρ E F D st h hf => ?_⟩
  exact k _ w σ ρ E _ _ (Nat.lt_succ_self _) st h (fun d ρ' w' v q e r => hf.nx ρ' w' σ q (e.s (Nat.lt_succ_self _))) hf.sx
def rRet (re : RE) : RS := fun ρ E F => re ρ E fun d ρ' => F.rt d ρ'
theorem fs_ret (he : FE X W e re) : FS X W M (.Return (some e) pos) (rRet re) := by
  obtain ⟨t, p, k⟩ := he.ex
  refine ⟨_, ps_ret p, fun w σ ρ E F D st h hf => ?_⟩
  exact k _ w σ ρ E _ _ (Nat.lt_succ_self _) st h (fun d ρ' w' v q e r => hf.rt d ρ' w' σ v q (e.s (Nat.lt_succ_self _)) r) hf.sx
def rIf (t : RT) (r u : RS) : RS := fun ρ E F => t ρ E fun b ρ1 => (b = true → r ρ1 E F) ∧ (b = false → u ρ1 E F)
theorem fs_if {c : Expr} {a b : List Stmt} {rt : RT} (hc : FT X W c rt) (ha : FSs X W M a r) (hb : FSs X W M b u) : FS X W M (.If c a b pos) (rIf rt r u) := by
  obtain ⟨t, p, k⟩ := hc.ex
  obtain ⟨t1, p1, k1⟩ := ha.ex
  obtain ⟨t2, p2, k2⟩ := hb.ex
  refine ⟨_, ps_if p p1 p2, fun w σ ρ E F D st h hf => ?_⟩
  refine k _ w σ ρ E _ _ (Nat.lt_succ_self _) st h (fun b ρ1 w1 h1 e1 => ?_) hf.sx
  have es := e1.s (M := M) (Nat.lt_succ_self _)
  cases b with
  | true =>
    rw [if_pos rfl]
    exact k1 w1 σ ρ1 E F D e1.st (h1.1 rfl) (hf.then es)
  | false =>
    rw [if_neg Bool.false_ne_true]
    exact k2 w1 σ ρ1 E F D e1.st (h1.2 rfl) (hf.then es)
/-- the temporary n + 1 goes to slot i -/
def tempTo (n i : Nat) : Loc → Option Loc
  | h :: s => if h = i + 1 then none else if h = n + 1 then some ((i + 1) :: s) else some (h :: s)
  | [] => some []
theorem store_end {K : PySem.W.Frag} {w : Wd} {σ : Sl} {ρ : En} {i : Nat} {d : D} {v : V} (st : StE K w σ ρ) (r : Rep K w d [ρ.length + 1] v) (hi : i < ρ.length) (hM : M.contains i = false) : EndS K M w σ ρ (w.ren (tempTo ρ.length i)) (σ.set i (some v)) (ρ.set i (some d)) := by
  refine ⟨by rw [List.length_set], ⟨st.wf.ren _, by rw [List.length_set, List.length_set]; exact st.len, fun j d' e => ?_⟩, ⟨Same.refl _, fun a ℓ e ⟨h, s, e2, k⟩ => ?_⟩, fun j hj => ?_⟩
  · by_cases hj : j = i
    · subst hj
      rw [List.getElem?_set_self hi] at e
      cases e
      refine ⟨v, List.getElem?_set_self (by rw [st.len]; exact hi), r.ren fun s => ?_⟩
      show (if _ then _ else _) = _
      rw [if_neg (by omega), if_pos rfl]; rfl
    · rw [List.getElem?_set_ne (Ne.symm hj)] at e ⊢
      obtain ⟨v', e1, r'⟩ := st.rep j d' e
      have hl := (List.getElem?_eq_some_iff.mp e).1
      refine ⟨v', e1, r'.ren fun s => ?_⟩
      show (if _ then _ else _) = _
      rw [if_neg (by omega), if_neg (by omega)]; rfl
  · subst e2
    refine ⟨ren_at e ?_, rfl⟩
    show (if _ then _ else _) = _
    rw [if_neg (by omega), if_neg (by omega)]
  · have : j ≠ i := fun z => by
      subst z
      have := List.contains_iff_mem.mpr hj
      rw [this] at hM; cases hM
    exact List.getElem?_set_ne (Ne.symm this)
theorem ice_temp {K : PySem.W.Frag} {w : Wd} {σ : Sl} {ρ : En} {d : D} {v : V} (st : StE K w σ ρ) (r : Rep K w d [ρ.length + 1] v) :
    EndE K (ρ.length + 1) w σ ρ ρ (w.ice fun ℓ => match ℓ with | h :: _ => h == ρ.length + 1 | [] => false) ∧ ∀ ℓ, Rep K (w.ice fun ℓ => match ℓ with | h :: _ => h == ρ.length + 1 | [] => false) d.frz ℓ v := by
  refine ⟨⟨rfl, st.to st.wf.ice (ice_same st.wf) fun i hi => ice_kept fun s => ?_, ⟨ice_same st.wf, fun a ℓ e ⟨h, s, e2, k⟩ => ?_⟩⟩, fun ℓ => ?_⟩
  · show ((i + 1) == ρ.length + 1) = false
    simp; omega
  · subst e2
    have := ice_kept (w := w) (ℓ := h :: s) (P := fun ℓ => match ℓ with | h :: _ => h == ρ.length + 1 | [] => false) (fun t => by
      show (h == ρ.length + 1) = false
      simp; omega) a [] (by simpa using e)
    simpa using this
  · exact Rep.frz (w := w) (ice_same st.wf) d (ice_frz fun s => by show ((ρ.length + 1) == ρ.length + 1) = true; simp) r
def rSet (i : Nat) (re : RE) : RS := fun ρ E F => re ρ E fun d ρ' => nf (ρ'.set i (some d)) F.nx
/-- the value frozen -/
def rSetF (i : Nat) (re : RE) : RS := fun ρ E F => re ρ E fun d ρ' => nf (ρ'.set i (some d.frz)) F.nx
theorem set_out {α : Type} {l : List α} {i : Nat} (a : α) (h : ¬ i < l.length) : l.set i a = l := List.set_eq_of_length_le (by omega)
theorem se_set {K : PySem.W.Frag} {te : TE} {i : Nat} (k : SE K W te re) (hM : M.contains i = false) : SS K W M (tAsg te (gName i)) (rSet i re) := by
  intro w σ ρ E F D st h hf
  refine k _ w σ ρ E _ _ (Nat.lt_succ_self _) st h (fun d ρ' w' v q e r => ?_) hf.sx
  have es := e.s (M := M) (Nat.lt_succ_self _)
  by_cases hi : i < ρ'.length
  · exact hf.nx _ (w'.ren (tempTo ρ'.length i)) _ (nf_of q) (es.trans (store_end e.st (by rw [e.len]; exact r) hi hM))
  · show D.nx (σ.set i (some v)) w'.H
    rw [set_out _ (by rw [e.st.len]; exact hi)]
    have q : F.nx (ρ'.set i (some d)) := nf_of q
    rw [set_out _ hi] at q
    exact hf.nx _ _ _ q es
theorem se_setF {K : PySem.W.Frag} {te : TE} {i : Nat} (k : SE K W te re) (hM : M.contains i = false) : SS K W M (tAsg te (gName i)) (rSetF i re) := by
  intro w σ ρ E F D st h hf
  refine k _ w σ ρ E _ _ (Nat.lt_succ_self _) st h (fun d ρ' w' v q e r => ?_) hf.sx
  have es := e.s (M := M) (Nat.lt_succ_self _)
  by_cases hi : i < ρ'.length
  · obtain ⟨e2, r2⟩ := ice_temp e.st (by rw [e.len]; exact r)
    exact hf.nx _ ((w'.ice _).ren (tempTo ρ'.length i)) _ (nf_of q) ((es.trans (e2.s (Nat.lt_succ_self _))).trans (store_end e2.st (r2 _) hi hM))
  · show D.nx (σ.set i (some v)) w'.H
    rw [set_out _ (by rw [e.st.len]; exact hi)]
    have q : F.nx (ρ'.set i (some d.frz)) := nf_of q
    rw [set_out _ hi] at q
    exact hf.nx _ _ _ q es
theorem fs_set (i : Nat) {x : Str} (he : FE X W e re) (hN : X.N.Nodup) (hi : X.N[i]? = some x := by rfl) (hx : L2.Loc X.env.scope x := by first | exact .inl rfl | exact .inr rfl) (hM : M.contains i = false := by rfl) (hs : swapsWith e (some (.Name x pos')) pos.line X.env = pure false := by rfl) (hf : X.fn x = true ∨ X.env.scope.names.lookup x = some .local := by first | exact .inl rfl | exact .inr rfl) : FS X W M (.Assign [.Name x pos'] e pos) (rSet i re) := by
  obtain ⟨t, p, k⟩ := he.ex
  exact ⟨_, ps_set hN hi hx p hs hf, se_set k hM⟩
theorem fs_setF (i : Nat) {x : Str} (he : FE X W e re) (hN : X.N.Nodup) (hi : X.N[i]? = some x := by rfl) (hx : L2.Loc X.env.scope x := by first | exact .inl rfl | exact .inr rfl) (hM : M.contains i = false := by rfl) (hs : swapsWith e (some (.Name x pos')) pos.line X.env = pure false := by rfl) (hf : X.fn x = true ∨ X.env.scope.names.lookup x = some .local := by first | exact .inl rfl | exact .inr rfl) : FS X W M (.Assign [.Name x pos'] e pos) (rSetF i re) := by
  obtain ⟨t, p, k⟩ := he.ex
  exact ⟨_, ps_set hN hi hx p hs hf, se_setF k hM⟩
end
abbrev EF := Value → Option (List (Str × D)) → En → Prop
abbrev FSpec := List D → EF → (D → En → Prop) → Prop
/-- behind a call: m arguments at 1 .. m, those of M lent -/
structure EndF (K : PySem.W.Frag) (m : Nat) (M : List Nat) (w : Wd) (vs : List V) (os : En) (w' : Wd) : Prop where
  wf : Wf w'
  s : Same w.S w'.S
  f : ∀ a ℓ, w.G a = some (0 :: ℓ) → w'.G a = some (0 :: ℓ) ∧ w'.H a = w.H a
  args : ∀ j, M.contains j = true → ∀ d v, os[j]? = some (some d) → vs[j]? = some v → Rep K w' d [j + 1] v
def FnD (K : PySem.W.Frag) (m : Nat) (M : List Nat) (r : FSpec) : Sp := fun vs H Q E => vs.length = m ∧ ∃ (w : Wd) (ds : List D) (ED : EF) (QD : D → En → Prop), w.H = H ∧ Wf w ∧ ds.length = m ∧
  (∀ j d v, ds[j]? = some d → vs[j]? = some v → Rep K w d [j + 1] v) ∧ r ds ED QD ∧
  (∀ d os w' v, QD d os → EndF K m M w vs os w' → Rep K w' d [m + 1] v → Q v w'.H) ∧ (∀ c fs os w' x, ED c fs os → EndF K m M w vs os w' → XRepr K w' x fs → E c x w'.H)
/-- the names at a def's entry -/
def startD (N : List Str) (ds : List D) : En := ds.map some ++ List.replicate (N.length - ds.length) none
/-- a def's ends -/
def finD (m : Nat) (Q : D → En → Prop) : Fin := { nx := fun ρ => Q .non (ρ.take m), rt := fun d ρ => Q d (ρ.take m) }
/-- out of the def: its names are forgotten, what is handed back stands at m + 1 -/
def leaveTo (n m : Nat) : Loc → Option Loc
  | h :: s => if h ≤ m then some (h :: s) else if h = n + 1 then some ((m + 1) :: s) else none
  | [] => none
section
variable {P : Program} {w : World} {K : PySem.W.Frag} {mg : Str → Option Value} {base : Heap}
theorem leave_end {m : Nat} {M : List Nat} {w0 w' : Wd} {σ σ' : Sl} {ρ ρ' : En} {vs : List V} (hm : m ≤ ρ.length) (e : EndS K M w0 σ ρ w' σ' ρ') (hv : ∀ j, j < m → σ[j]? = (vs[j]?).map some) (hM : ∀ j, M.contains j = true → j < m) :
    EndF K m M w0 vs (ρ'.take m) (w'.ren (leaveTo ρ.length m)) := by
  refine ⟨e.st.wf.ren _, e.ext.s, fun a ℓ h => ?_, fun j hj d v h1 h2 => ?_⟩
  · obtain ⟨k1, k2⟩ := e.ext.f a _ h ⟨0, ℓ, rfl, .inl rfl⟩
    refine ⟨ren_at k1 ?_, k2⟩
    exact if_pos (e := if 0 = ρ.length + 1 then some ((m + 1) :: ℓ) else none) (Nat.zero_le m)
  · have hjm := hM j hj
    rw [List.getElem?_take_of_lt hjm] at h1
    obtain ⟨v', e1, r⟩ := e.st.rep j d h1
    have k := e.km j (List.contains_iff_mem.mp hj)
    rw [hv j hjm, h2] at k
    rw [k] at e1; cases e1
    refine r.ren fun s => ?_
    show (if _ then _ else _) = _
    rw [if_pos (by omega)]; rfl
theorem fl_fn {x qual : Str} {st : Stmt} {f : Addr} {fd : FuncData} {N ps : List Str} {k : Nat} {M : List Nat} {r : FSpec} {rb : RS} (F : Fun K x qual st f fd) (S : FnScope N ps (defScope st))
    (hMb : (M.all fun j => decide (j < ps.length)) = true)
    (hb : ∀ (cdv : Value) (A : Around) (outer : List Env) (s : Shared) (H : Hp) (E : XK), Room k (A.deeper (envOfC qual (defScope st) s.heap.objs.size f cdv)) →
      FSs (cxOf (L2.CX P w) P w K mg base N qual (defScope st) f cdv A outer s H E) (fun c d _ H' => E c d H') M (defBody st) rb)
    (hr : ∀ ds ED QD, ds.length = ps.length → r ds ED QD → rb (startD N ds) (fun c fs ρ => ED c fs (ρ.take ps.length)) (finD ps.length QD)) :
    FnOk P w K mg base (L2.CX P w) (k + 1) f fd ps (FnD K ps.length M r) := by
  have hM : ∀ j, M.contains j = true → j < ps.length := fun j hj => of_decide_eq_true (List.all_eq_true.mp hMb j (List.contains_iff_mem.mp hj))
  refine F.okX S (fun vs H Q E h => h.1) fun cdv A outer s H vs Q E hroom h => ?_
  obtain ⟨hl, w0, ds, ED, QD, rfl, wf, hd, hrep, hspec, hq, hx⟩ := h
  obtain ⟨t, p, kk⟩ := (hb cdv A outer s w0.H E hroom).ex
  have hNl : ps.length ≤ N.length := by have := congrArg List.length S.pre; rw [List.length_take] at this; omega
  have hlen : (startD N ds).length = N.length := by
    unfold startD
    rw [List.length_append, List.length_map, List.length_replicate]; omega
  have hslen : (L2.start N vs).length = N.length := by
    unfold L2.start
    rw [List.length_append, List.length_map, List.length_replicate]; omega
  have hv : ∀ j, j < ps.length → (L2.start N vs)[j]? = (vs[j]?).map some := fun j hj => by
    unfold L2.start
    rw [List.getElem?_append_left (by rw [List.length_map]; omega), List.getElem?_map]
  have s0 : StE K w0 (L2.start N vs) (startD N ds) := ⟨wf, by rw [hlen, hslen], fun i d e => by
    by_cases hi : i < ds.length
    · unfold startD at e
      rw [List.getElem?_append_left (by rw [List.length_map]; exact hi), List.getElem?_map] at e
      have hi' : i < vs.length := by omega
      refine ⟨vs[i], ?_, ?_⟩
      · rw [hv i (by omega), List.getElem?_eq_getElem hi']; rfl
      · refine hrep i d _ ?_ (List.getElem?_eq_getElem hi')
        rw [List.getElem?_eq_getElem hi] at e ⊢
        exact Option.some.inj e
    · unfold startD at e
      rw [List.getElem?_append_right (by rw [List.length_map]; omega), List.getElem?_replicate] at e
      split at e <;> cases e⟩
  have hm : ps.length ≤ (startD N ds).length := by rw [hlen]; exact hNl
  refine ⟨t, p, kk w0 (L2.start N vs) (startD N ds) _ _ _ s0 (hr ds ED QD hd hspec) ⟨fun ρ' w' σ' h e => ?_, fun d ρ' w' σ' v h e r => ?_, fun ρ' w' σ' h e => h, fun ρ' w' σ' h e => h, fun c fs ρ' w' σ' x h e r => ?_⟩⟩
  · exact hq .non _ (w'.ren _) .non h (leave_end hm e hv hM) rfl
  · refine hq d _ (w'.ren _) v h (leave_end hm e hv hM) (r.ren fun s => ?_)
    show (if _ then _ else _) = _
    rw [if_neg (by omega), if_pos rfl]; rfl
  · refine hx c fs _ (w'.ren _) x h (leave_end hm e hv hM) ?_
    cases x with
    | none => cases fs <;> exact r
    | some a =>
      cases fs with
      | none => exact r
      | some fs =>
        obtain ⟨us, h1, h2, h3, h4⟩ := r
        exact ⟨us, h1, h2, h3, RepL.free (w := w') (w' := w'.ren (leaveTo (startD N ds).length ps.length)) (Same.refl _) _ h3 h4⟩
end
/-- the arguments as the def gets them: those of M as they are, the others frozen -/
def argDs (M : List Nat) : Nat → List AD → En → Option (List D × En)
  | _, [], ρ => some ([], ρ)
  | j, .val d :: r, ρ => match argDs M (j + 1) r ρ with
    | some (ds, ρ') => some ((match M.contains j with | true => d | false => d.frz) :: ds, ρ')
    | none => none
  | j, .brw i :: r, ρ => match ρ[i]? with
    | some (some d) => match M.contains j with
      | true => match argDs M (j + 1) r ρ with
        | some (ds, ρ') => some (d :: ds, ρ')
        | none => none
      | false => match argDs M (j + 1) r (ρ.set i (some d.frz)) with
        | some (ds, ρ') => some (d.frz :: ds, ρ')
        | none => none
    | _ => none
/-- the names lent for good (M) -/
def lends (M : List Nat) : Nat → List AD → List (Nat × Nat)
  | _, [] => []
  | j, .val _ :: r => lends M (j + 1) r
  | j, .brw i :: r => match M.contains j with
    | true => (i, j) :: lends M (j + 1) r
    | false => lends M (j + 1) r
/-- names lent that are frozen from then on -/
def ices (M : List Nat) : Nat → List AD → List Nat
  | _, [] => []
  | j, .val _ :: r => ices M (j + 1) r
  | j, .brw i :: r => match M.contains j with
    | true => ices M (j + 1) r
    | false => i :: ices M (j + 1) r
def apart : List (Nat × Nat) → List Nat → Bool
  | [], _ => true
  | (i, _) :: r, l => !l.contains i && !(r.any fun p => p.1 == i) && apart r l
def oGet (os : En) (j : Nat) : Option D := match os[j]? with
  | some o => o
  | none => none
def putBack : List (Nat × Nat) → En → En → En
  | [], _, ρ => ρ
  | (i, j) :: r, os, ρ => putBack r os (ρ.set i (oGet os j))
def rCall (M : List Nat) (r : FSpec) (ra : RA) : RE := fun ρ E Q => ra ρ E fun ads ρ1 => match argDs M 0 ads ρ1 with
  | some (ds, ρ2) => match apart (lends M 0 ads) (ices M 0 ads) with
    | true => r ds (fun c fs os => E c fs (putBack (lends M 0 ads) os ρ2)) (fun d os => nf (putBack (lends M 0 ads) os ρ2) (Q d))
    | false => False
  | none => False
end FL
namespace FL
open PySem PySem.Spec PyProof.Rows L2
/-- into the def -/
def inLoc (M : List Nat) (τ : Nat) (ads : List AD) : Loc → Option Loc
  | h :: s => if τ ≤ h then (if M.contains (h - τ) then some ((h - τ + 1) :: s) else none) else match h with
    | 0 => some (0 :: h :: s)
    | i + 1 => match (lends M 0 ads).lookup i with
      | some j => some ((j + 1) :: s)
      | none => some (0 :: h :: s)
  | [] => some [0]
/-- and back -/
def outLoc (M : List Nat) (τ m : Nat) (ads : List AD) : Loc → Option Loc
  | 0 :: s => some s
  | (j + 1) :: s => if j = m then some (τ :: s) else match ((lends M 0 ads).map fun p => (p.2, p.1)).lookup j with
    | some i => some ((i + 1) :: s)
    | none => none
  | [] => none
theorem lends_mem {M : List Nat} : ∀ {ads : List AD} {j i k : Nat}, (i, k) ∈ lends M j ads → ∃ q, k = j + q ∧ ads[q]? = some (.brw i) ∧ M.contains k = true
  | [], _, _, _, h => by simp [lends] at h
  | .val d :: r, j, i, k, h => by
    simp only [lends] at h
    obtain ⟨q, e, e2, e3⟩ := lends_mem h
    exact ⟨q + 1, by omega, by simpa using e2, e3⟩
  | .brw i' :: r, j, i, k, h => by
    simp only [lends] at h
    split at h
    · rename_i hc
      rcases List.mem_cons.mp h with e | h
      · cases e
        exact ⟨0, rfl, rfl, hc⟩
      · obtain ⟨q, e, e2, e3⟩ := lends_mem h
        exact ⟨q + 1, by omega, by simpa using e2, e3⟩
    · obtain ⟨q, e, e2, e3⟩ := lends_mem h
      exact ⟨q + 1, by omega, by simpa using e2, e3⟩
theorem apart_get : ∀ {l : List (Nat × Nat)} {c : List Nat}, apart l c = true → (∀ p ∈ l, p.1 ∉ c) ∧ l.Pairwise (fun p q => p.1 ≠ q.1)
  | [], _, _ => ⟨(fun _ h => nomatch h), .nil⟩
  | (i, j) :: r, c, h => by
    simp only [apart, Bool.and_eq_true, Bool.not_eq_true', List.any_eq_false, beq_iff_eq] at h
    obtain ⟨⟨h1, h2⟩, h3⟩ := h
    obtain ⟨g1, g2⟩ := apart_get h3
    refine ⟨fun p hp => ?_, .cons (fun q hq e => h2 q hq e.symm) g2⟩
    rcases List.mem_cons.mp hp with rfl | hp
    · intro hm
      rw [List.contains_iff_mem.mpr hm] at h1; cases h1
    · exact g1 p hp
theorem lookup_of_mem {l : List (Nat × Nat)} (h : l.Pairwise fun p q => p.1 ≠ q.1) {i j : Nat} (hm : (i, j) ∈ l) : l.lookup i = some j := by
  induction l with
  | nil => cases hm
  | cons p r ih =>
    obtain ⟨a, b⟩ := p
    rw [List.lookup_cons]
    rcases List.mem_cons.mp hm with e | hm
    · cases e; simp
    · have : a ≠ i := fun z => by
        have := (List.pairwise_cons.mp h).1 _ hm
        exact this z
      rw [show (i == a) = false by simp; omega]
      exact ih (List.pairwise_cons.mp h).2 hm
theorem lookup_some {l : List (Nat × Nat)} {i j : Nat} (h : l.lookup i = some j) : (i, j) ∈ l := by
  induction l with
  | nil => cases h
  | cons p r ih =>
    obtain ⟨a, b⟩ := p
    rw [List.lookup_cons] at h
    cases q : (i == a) with
    | true =>
      rw [q] at h
      have : i = a := by simpa using q
      subst this
      cases h
      exact List.mem_cons_self
    | false =>
      rw [q] at h
      exact List.mem_cons_of_mem _ (ih h)
theorem lends_snd {M : List Nat} : ∀ (ads : List AD) (j : Nat), (lends M j ads).Pairwise (fun p q => p.2 < q.2) ∧ ∀ p ∈ lends M j ads, j ≤ p.2
  | [], _ => ⟨.nil, fun _ h => nomatch h⟩
  | .val d :: r, j => by
    obtain ⟨h1, h2⟩ := lends_snd r (j + 1)
    simp only [lends]
    exact ⟨h1, fun p hp => by have := h2 p hp; omega⟩
  | .brw i :: r, j => by
    obtain ⟨h1, h2⟩ := lends_snd r (j + 1)
    simp only [lends]
    split
    · refine ⟨.cons (fun q hq => ?_) h1, fun p hp => ?_⟩
      · have := h2 q hq
        show j < q.2
        omega
      · rcases List.mem_cons.mp hp with rfl | hp
        · exact Nat.le_refl _
        · have := h2 p hp; omega
    · exact ⟨h1, fun p hp => by have := h2 p hp; omega⟩
theorem lends_back {M : List Nat} {ads : List AD} {i j : Nat} (h : (i, j) ∈ lends M 0 ads) : ((lends M 0 ads).map fun p => (p.2, p.1)).lookup j = some i := by
  refine lookup_of_mem ?_ (List.mem_map.mpr ⟨(i, j), h, rfl⟩)
  rw [List.pairwise_map]
  exact (lends_snd ads 0).1.imp fun h => by show _ ≠ _; omega
theorem putBack_len : ∀ (l : List (Nat × Nat)) (os ρ : En), (putBack l os ρ).length = ρ.length
  | [], _, _ => rfl
  | (i, j) :: r, os, ρ => by
    unfold putBack
    rw [putBack_len r, List.length_set]
theorem putBack_other : ∀ {l : List (Nat × Nat)} {os ρ : En} {k : Nat}, (∀ p ∈ l, p.1 ≠ k) → (putBack l os ρ)[k]? = ρ[k]?
  | [], _, _, _, _ => rfl
  | (i, j) :: r, os, ρ, k, h => by
    unfold putBack
    rw [putBack_other fun p hp => h p (List.mem_cons_of_mem _ hp), List.getElem?_set_ne (h (i, j) List.mem_cons_self)]
theorem putBack_at : ∀ {l : List (Nat × Nat)} {os ρ : En} {i j : Nat}, (l.Pairwise fun p q => p.1 ≠ q.1) → (i, j) ∈ l → i < ρ.length → (putBack l os ρ)[i]? = some (oGet os j)
  | [], _, _, _, _, _, h, _ => nomatch h
  | (a, b) :: r, os, ρ, i, j, hp, h, hi => by
    unfold putBack
    rcases List.mem_cons.mp h with e | h
    · cases e
      rw [putBack_other fun p hq e => (List.pairwise_cons.mp hp).1 p hq e.symm, List.getElem?_set_self hi]
    · exact putBack_at (List.pairwise_cons.mp hp).2 h (by rw [List.length_set]; exact hi)
/-- what is frozen at a call: the values that are not lent, the names lent to what is not M -/
def iceP (M : List Nat) (τ : Nat) (ads : List AD) : Loc → Bool
  | h :: _ => if τ ≤ h then !M.contains (h - τ) else match h with
    | 0 => false
    | i + 1 => (ices M 0 ads).contains i
  | [] => false
def ArgSpec (M : List Nat) (ic : List Nat) (ρ : En) (k : Nat) (d : D) : AD → Prop
  | .val d0 => d = (match M.contains k with | true => d0 | false => d0.frz)
  | .brw i => (M.contains k = true ∧ ic.contains i = false → ρ[i]? = some (some d)) ∧ (M.contains k = false → ic.contains i = true ∧ ∃ d0, ρ[i]? = some (some d0) ∧ d = d0.frz)
theorem argDs_spec {M : List Nat} : ∀ {ads : List AD} {j : Nat} {ρ ρ' : En} {ds : List D}, argDs M j ads ρ = some (ds, ρ') → ds.length = ads.length ∧ ρ'.length = ρ.length ∧
    (∀ k, (ices M j ads).contains k = false → ρ'[k]? = ρ[k]?) ∧ (∀ k d, (ices M j ads).contains k = true → ρ'[k]? = some (some d) → ∃ d0, ρ[k]? = some (some d0) ∧ d = d0.frz) ∧
    (∀ (q : Nat) (d : D), ds[q]? = some d → ∃ a, ads[q]? = some a ∧ ArgSpec M (ices M j ads) ρ (j + q) d a)
  | [], j, ρ, ρ', ds, h => by
    simp only [argDs] at h
    cases h
    exact ⟨rfl, rfl, fun _ _ => rfl, fun k d hk _ => by simp [ices] at hk, fun q d e => by simp at e⟩
  | .val d0 :: r, j, ρ, ρ', ds, h => by
    simp only [argDs] at h
    split at h
    · rename_i ds' ρ1 e1
      cases h
      obtain ⟨h1, h2, h3, h4, h5⟩ := argDs_spec e1
      refine ⟨by simp [h1], h2, h3, h4, fun q d e => ?_⟩
      cases q with
      | zero => cases e; exact ⟨_, rfl, rfl⟩
      | succ q =>
        obtain ⟨a, e2, g⟩ := h5 q d (by simpa using e)
        refine ⟨a, by simpa using e2, ?_⟩
        rw [show j + (q + 1) = j + 1 + q by omega]
        exact g
    · cases h
  | .brw i :: r, j, ρ, ρ', ds, h => by
    simp only [argDs] at h
    split at h
    · rename_i d0 e0
      split at h
      · rename_i hc
        split at h
        · rename_i ds' ρ1 e1
          cases h
          obtain ⟨h1, h2, h3, h4, h5⟩ := argDs_spec e1
          have ei : ices M j (.brw i :: r) = ices M (j + 1) r := by simp only [ices]; rw [hc]
          rw [ei]
          refine ⟨by simp [h1], h2, h3, h4, fun q d e => ?_⟩
          cases q with
          | zero =>
            cases e
            refine ⟨_, rfl, fun _ => e0, fun z => ?_⟩
            rw [show j + 0 = j by omega, hc] at z; cases z
          | succ q =>
            obtain ⟨a, e2, g⟩ := h5 q d (by simpa using e)
            refine ⟨a, by simpa using e2, ?_⟩
            rw [show j + (q + 1) = j + 1 + q by omega]
            exact g
        · cases h
      · rename_i hc
        split at h
        · rename_i ds' ρ1 e1
          cases h
          obtain ⟨h1, h2, h3, h4, h5⟩ := argDs_spec e1
          have ei : ices M j (.brw i :: r) = i :: ices M (j + 1) r := by simp only [ices]; rw [hc]
          have hi := (List.getElem?_eq_some_iff.mp e0).1
          rw [ei]
          have old : ∀ k d, (ρ.set i (some d0.frz))[k]? = some (some d) → ∃ d1, ρ[k]? = some (some d1) ∧ (d = d1 ∧ k ≠ i ∨ d = d1.frz ∧ k = i) := fun k d e => by
            by_cases hk : k = i
            · subst hk
              rw [List.getElem?_set_self hi] at e
              cases e
              exact ⟨d0, e0, .inr ⟨rfl, rfl⟩⟩
            · rw [List.getElem?_set_ne (Ne.symm hk)] at e
              exact ⟨d, e, .inl ⟨rfl, hk⟩⟩
          have ff : ∀ d : D, d.frz.frz = d.frz := fun d => frz_id _ (frz_own d)
          refine ⟨by simp [h1], by rw [h2, List.length_set], fun k hk => ?_, fun k d hk e => ?_, fun q d e => ?_⟩
          · simp only [List.contains_cons, Bool.or_eq_false_iff, beq_eq_false_iff_ne] at hk
            rw [h3 k hk.2, List.getElem?_set_ne (Ne.symm hk.1)]
          · by_cases hk2 : (ices M (j + 1) r).contains k = true
            · obtain ⟨d1, e3, e4⟩ := h4 k d hk2 e
              obtain ⟨d2, e5, e6⟩ := old k d1 e3
              refine ⟨d2, e5, ?_⟩
              rcases e6 with ⟨rfl, _⟩ | ⟨rfl, _⟩
              · exact e4
              · rw [e4, ff]
            · rw [h3 k (by simpa using hk2)] at e
              obtain ⟨d2, e5, e6⟩ := old k d e
              refine ⟨d2, e5, ?_⟩
              rcases e6 with ⟨rfl, hne⟩ | ⟨rfl, _⟩
              · simp only [List.contains_cons, Bool.or_eq_true, beq_iff_eq] at hk
                rcases hk with z | z
                · exact absurd z hne
                · exact absurd z hk2
              · rfl
          · cases q with
            | zero =>
              cases e
              refine ⟨_, rfl, fun z => ?_, fun _ => ⟨by simp, d0, e0, rfl⟩⟩
              rw [show j + 0 = j by omega, hc] at z; cases z.1
            | succ q =>
              obtain ⟨a, e2, g⟩ := h5 q d (by simpa using e)
              refine ⟨a, by simpa using e2, ?_⟩
              rw [show j + (q + 1) = j + 1 + q by omega]
              cases a with
              | val d1 => exact g
              | brw i2 =>
                refine ⟨fun z => ?_, fun z => ?_⟩
                · have z2 := z.2
                  simp only [List.contains_cons, Bool.or_eq_false_iff, beq_eq_false_iff_ne] at z2
                  have := g.1 ⟨z.1, z2.2⟩
                  rw [List.getElem?_set_ne (Ne.symm z2.1)] at this
                  exact this
                · obtain ⟨g1, d1, e3, e4⟩ := g.2 z
                  obtain ⟨d2, e5, e6⟩ := old i2 d1 e3
                  refine ⟨by simp only [List.contains_cons, g1, Bool.or_true], d2, e5, ?_⟩
                  rcases e6 with ⟨rfl, _⟩ | ⟨rfl, _⟩
                  · exact e4
                  · rw [e4, ff]
        · cases h
    · cases h
theorem argsAt_get {K : PySem.W.Frag} {w : Wd} {σ : Sl} : ∀ {ads : List AD} {τ : Nat} {vs : List V}, ArgsAt K w σ ads τ vs → vs.length = ads.length ∧ ∀ i a v, ads[i]? = some a → vs[i]? = some v → AdAt K w σ a (τ + i) v
  | [], _, _, h => by simp only [ArgsAt] at h; subst h; simp
  | a :: r, τ, vs, h => by
    obtain ⟨v, us, rfl, h1, h2⟩ : ∃ v us, vs = v :: us ∧ AdAt K w σ a τ v ∧ ArgsAt K w σ r (τ + 1) us := by
      cases a with
      | val d => exact h
      | brw i => exact h
    obtain ⟨l, g⟩ := argsAt_get h2
    refine ⟨by simpa using l, fun i a' v' e1 e2 => ?_⟩
    cases i with
    | zero => cases e1; cases e2; exact h1
    | succ i =>
      have := g i a' v' (by simpa using e1) (by simpa using e2)
      rw [show τ + 1 + i = τ + (i + 1) by omega] at this
      exact this
section
variable {X : Cx} {W : WX}
theorem call_sound {m τ : Nat} {M : List Nat} {r : FSpec} {w : Wd} {σ : Sl} {ρ : En} {E : EE} {Q : D → En → Prop} {Qv : VK} {ads : List AD} {vs : List V} (hn : ρ.length < τ) (st : StE X.K w σ ρ) (hl : ads.length = m) (ha : ArgsAt X.K w σ ads τ vs)
    (h : match argDs M 0 ads ρ with
      | some (ds, ρ2) => match apart (lends M 0 ads) (ices M 0 ads) with
        | true => r ds (fun c fs os => E c fs (putBack (lends M 0 ads) os ρ2)) (fun d os => nf (putBack (lends M 0 ads) os ρ2) (Q d))
        | false => False
      | none => False)
    (hq : ∀ d ρ' w' v, Q d ρ' → EndE X.K τ w σ ρ ρ' w' → Rep X.K w' d [τ] v → Qv v w'.H) (hx : SX X.K W τ w σ ρ E) : FnD X.K m M r vs w.H Qv (WE W σ) := by
  split at h
  · rename_i ds ρ2 eds
    split at h
    · rename_i eap
      obtain ⟨l1, l2, a3, a4, a5⟩ := argDs_spec eds
      obtain ⟨lv, av⟩ := argsAt_get ha
      obtain ⟨p1, p2⟩ := apart_get eap
      have hP : ∀ i, i < ρ.length → ∀ s, iceP M τ ads ((i + 1) :: s) = (ices M 0 ads).contains i := fun i hi s => by
        show (if τ ≤ i + 1 then _ else _) = _
        rw [if_neg (by omega)]
      have inO : ∀ i s, i < ρ.length → (∀ p ∈ lends M 0 ads, p.1 ≠ i) → inLoc M τ ads ((i + 1) :: s) = some (0 :: (i + 1) :: s) := fun i s hi hne => by
        show (if τ ≤ i + 1 then _ else _) = _
        rw [if_neg (by omega)]
        show (match (lends M 0 ads).lookup i with | some j => some ((j + 1) :: s) | none => some (0 :: (i + 1) :: s)) = _
        cases q : (lends M 0 ads).lookup i with
        | none => rfl
        | some j => exact absurd rfl (hne _ (lookup_some q))
      have inL : ∀ i j s, i < ρ.length → (i, j) ∈ lends M 0 ads → inLoc M τ ads ((i + 1) :: s) = some ((j + 1) :: s) := fun i j s hi hm => by
        show (if τ ≤ i + 1 then _ else _) = _
        rw [if_neg (by omega)]
        show (match (lends M 0 ads).lookup i with | some j => some ((j + 1) :: s) | none => some (0 :: (i + 1) :: s)) = _
        rw [lookup_of_mem p2 hm]
      -- the world in the def
      refine ⟨lv.trans hl, (w.ice (iceP M τ ads)).ren (inLoc M τ ads), ds, _, _, rfl, st.wf.ice.ren _, l1.trans hl, fun j d v e1 e2 => ?_, h, fun d os w' v hQ eF rv => ?_, fun c fs os w' x hE eF rx => ?_⟩
      · -- the arguments
        obtain ⟨a, ea, g⟩ := a5 j d e1
        have at1 := av j a v ea e2
        rw [Nat.zero_add] at g
        cases a with
        | val d0 =>
          have at1 : Rep X.K w d0 [τ + j] v := at1
          have g : d = (match M.contains j with | true => d0 | false => d0.frz) := g
          cases hc : M.contains j with
          | true =>
            rw [hc] at g
            have g : d = d0 := g
            subst g
            refine Rep.ren (Rep.to (w' := w.ice (iceP M τ ads)) (ice_same st.wf) d (ice_kept fun s => ?_) at1) fun s => ?_
            · show (if τ ≤ τ + j then !M.contains (τ + j - τ) else _) = false
              rw [if_pos (by omega), show τ + j - τ = j by omega, hc]; rfl
            · show (if τ ≤ τ + j then (if M.contains (τ + j - τ) then _ else _) else _) = _
              rw [if_pos (by omega), show τ + j - τ = j by omega, hc]; rfl
          | false =>
            rw [hc] at g
            have g : d = d0.frz := g
            subst g
            refine Rep.free (w := w.ice (iceP M τ ads)) (w' := (w.ice (iceP M τ ads)).ren (inLoc M τ ads)) (ℓ := [τ + j]) (Same.refl _) _ (frz_own d0) (Rep.frz (ice_same st.wf) d0 (ice_frz fun s => ?_) at1)
            show (if τ ≤ τ + j then !M.contains (τ + j - τ) else _) = true
            rw [if_pos (by omega), show τ + j - τ = j by omega, hc]; rfl
        | brw i =>
          have at1 : σ[i]? = some (some v) := at1
          cases hc : M.contains j with
          | true =>
            have hm : (i, j) ∈ lends M 0 ads := by
              have : ∀ (l : List AD) (b q : Nat), l[q]? = some (.brw i) → M.contains (b + q) = true → (i, b + q) ∈ lends M b l := by
                intro l
                induction l with
                | nil => intro b q e; simp at e
                | cons a l ih =>
                  intro b q e hcc
                  cases q with
                  | zero =>
                    cases e
                    simp only [lends]
                    rw [show b + 0 = b by omega] at hcc ⊢
                    rw [hcc]; exact List.mem_cons_self
                  | succ q =>
                    have z := ih (b + 1) q (by simpa using e) (by rw [show b + 1 + q = b + (q + 1) by omega]; exact hcc)
                    rw [show b + 1 + q = b + (q + 1) by omega] at z
                    cases a with
                    | val d => simp only [lends]; exact z
                    | brw i' =>
                      simp only [lends]
                      split
                      · exact List.mem_cons_of_mem _ z
                      · exact z
              have z := this ads 0 j ea (by simpa using hc)
              simpa using z
            have hni : (ices M 0 ads).contains i = false := by
              cases q : (ices M 0 ads).contains i with
              | false => rfl
              | true => exact absurd (List.contains_iff_mem.mp q) (p1 _ hm)
            have er := g.1 ⟨hc, hni⟩
            have hi := (List.getElem?_eq_some_iff.mp er).1
            obtain ⟨v', e3, r3⟩ := st.rep i d er
            rw [at1] at e3; cases e3
            refine Rep.ren (Rep.to (w' := w.ice (iceP M τ ads)) (ice_same st.wf) d (ice_kept fun s => ?_) r3) fun s => ?_
            · exact (hP i hi s).trans hni
            · exact inL i j s hi hm
          | false =>
            obtain ⟨hi1, d0, er, ed⟩ := g.2 hc
            subst ed
            have hi := (List.getElem?_eq_some_iff.mp er).1
            obtain ⟨v', e3, r3⟩ := st.rep i d0 er
            rw [at1] at e3; cases e3
            refine Rep.free (w := w.ice (iceP M τ ads)) (w' := (w.ice (iceP M τ ads)).ren (inLoc M τ ads)) (ℓ := [i + 1]) (Same.refl _) _ (frz_own d0) (Rep.frz (ice_same st.wf) d0 (ice_frz fun s => ?_) r3)
            exact (hP i hi s).trans hi1
      all_goals
        have key : EndE X.K τ w σ ρ (putBack (lends M 0 ads) os ρ2) (w'.ren (outLoc M τ m ads)) := by
          have back : ∀ a h s, w.G a = some (h :: s) → iceP M τ ads (h :: s) = false → inLoc M τ ads (h :: s) = some (0 :: h :: s) → (w'.ren (outLoc M τ m ads)).G a = some (h :: s) ∧ w'.H a = w.H a := fun a h s e1 e2 e3 => by
            have g1 : (w.ice (iceP M τ ads)).G a = some (h :: s) := by
              have := (ice_kept (w := w) (P := iceP M τ ads) (ℓ := h :: s) (fun t => by
                cases h with
                | zero => exact e2
                | succ h => exact e2) a [] (by simpa using e1)).1
              simpa using this
            obtain ⟨k1, k2⟩ := eF.f a (h :: s) (ren_at g1 e3)
            exact ⟨ren_at k1 rfl, k2⟩
          have hss : Same w.S w'.S := (ice_same st.wf).trans eF.s
          refine ⟨by rw [putBack_len, l2], ⟨eF.wf.ren _, by rw [putBack_len, l2]; exact st.len, fun i d' e => ?_⟩, ⟨hss, fun a ℓ e ⟨h, s, e2, k⟩ => ?_⟩⟩
          · by_cases hm : ∃ j, (i, j) ∈ lends M 0 ads
            · obtain ⟨j, hm⟩ := hm
              obtain ⟨q, e3, e4, e5⟩ := lends_mem hm
              rw [Nat.zero_add] at e3
              subst e3
              have hqa := (List.getElem?_eq_some_iff.mp e4).1
              have hv : vs[j]? = some (vs[j]'(by rw [lv]; exact hqa)) := List.getElem?_eq_getElem _
              have at1 : σ[i]? = some (some _) := av j (.brw i) _ e4 hv
              have hiσ := (List.getElem?_eq_some_iff.mp at1).1
              rw [putBack_at p2 hm (by rw [l2, ← st.len]; exact hiσ)] at e
              have e : oGet os j = some d' := Option.some.inj e
              unfold oGet at e
              cases hos : os[j]? with
              | none => rw [hos] at e; cases e
              | some o =>
                rw [hos] at e
                have e : o = some d' := e
                subst e
                refine ⟨_, at1, (eF.args j e5 d' _ hos hv).ren fun s => ?_⟩
                show (if j = m then _ else _) = _
                rw [if_neg (by omega)]
                show (match ((lends M 0 ads).map fun p => (p.2, p.1)).lookup j with | some i => some ((i + 1) :: s) | none => none) = _
                rw [lends_back hm]; rfl
            · have hne : ∀ p ∈ lends M 0 ads, p.1 ≠ i := fun p hp z => hm ⟨p.2, by rw [← z]; exact hp⟩
              rw [putBack_other hne] at e
              have hi : i < ρ.length := by rw [← l2]; exact (List.getElem?_eq_some_iff.mp e).1
              cases hic : (ices M 0 ads).contains i with
              | true =>
                obtain ⟨d0, er, ed⟩ := a4 i d' hic e
                subst ed
                obtain ⟨v', e3, r3⟩ := st.rep i d0 er
                refine ⟨v', e3, ?_⟩
                have r4 : Rep X.K (w.ice (iceP M τ ads)) d0.frz [i + 1] v' := Rep.frz (ice_same st.wf) d0 (ice_frz fun s => (hP i hi s).trans hic) r3
                exact Rep.free (w := w.ice (iceP M τ ads)) (w' := w'.ren (outLoc M τ m ads)) eF.s _ (frz_own d0) r4
              | false =>
                rw [a3 i hic] at e
                obtain ⟨v', e3, r3⟩ := st.rep i d' e
                exact ⟨v', e3, Rep.to (w' := w'.ren (outLoc M τ m ads)) hss d' (fun a s e6 => back a (i + 1) s e6 ((hP i hi s).trans hic) (inO i s hi hne)) r3⟩
          · subst e2
            refine back a h s e ?_ ?_
            · show (if τ ≤ h then _ else _) = false
              rw [if_neg (by omega)]
              cases h with
              | zero => rfl
              | succ i =>
                show (ices M 0 ads).contains i = false
                cases q : (ices M 0 ads).contains i with
                | false => rfl
                | true =>
                  exfalso
                  have mem : ∀ (l : List AD) (b : Nat), (ices M b l).contains i = true → ∃ q : Nat, l[q]? = some (AD.brw i) := by
                    intro l
                    induction l with
                    | nil => intro b h; simp [ices] at h
                    | cons a l ih =>
                      intro b h
                      cases a with
                      | val d => simp only [ices] at h; obtain ⟨q, e⟩ := ih (b + 1) h; exact ⟨q + 1, by simpa using e⟩
                      | brw i' =>
                        simp only [ices] at h
                        split at h
                        · obtain ⟨q, e⟩ := ih (b + 1) h; exact ⟨q + 1, by simpa using e⟩
                        · simp only [List.contains_cons, Bool.or_eq_true, beq_iff_eq] at h
                          rcases h with z | z
                          · exact ⟨0, by rw [z]; rfl⟩
                          · obtain ⟨q, e⟩ := ih (b + 1) z; exact ⟨q + 1, by simpa using e⟩
                  obtain ⟨qq, eq⟩ := mem ads 0 q
                  have hqa := (List.getElem?_eq_some_iff.mp eq).1
                  have at1 : σ[i]? = some (some _) := av qq (.brw i) _ eq (List.getElem?_eq_getElem (by rw [lv]; exact hqa))
                  have := (List.getElem?_eq_some_iff.mp at1).1
                  rw [st.len] at this
                  omega
            · show (if τ ≤ h then _ else _) = _
              rw [if_neg (by omega)]
              cases h with
              | zero => rfl
              | succ i =>
                show (match (lends M 0 ads).lookup i with | some j => some ((j + 1) :: s) | none => some (0 :: (i + 1) :: s)) = _
                cases q : (lends M 0 ads).lookup i with
                | none => rfl
                | some j =>
                  exfalso
                  obtain ⟨q2, e3, e4, e5⟩ := lends_mem (lookup_some q)
                  have hqa := (List.getElem?_eq_some_iff.mp e4).1
                  have at1 : σ[i]? = some (some _) := av q2 (.brw i) _ e4 (List.getElem?_eq_getElem (by rw [lv]; exact hqa))
                  have := (List.getElem?_eq_some_iff.mp at1).1
                  rw [st.len] at this
                  omega
      · refine hq d _ (w'.ren (outLoc M τ m ads)) v (nf_of hQ) key (rv.ren fun s => ?_)
        show (if m = m then _ else _) = _
        rw [if_pos rfl]; rfl
      · refine hx c fs _ (w'.ren (outLoc M τ m ads)) x hE key ?_
        cases x with
        | none => cases fs <;> exact rx
        | some a =>
          cases fs with
          | none => exact rx
          | some fs =>
            obtain ⟨us, h1, h2, h3, h4⟩ := rx
            exact ⟨us, h1, h2, h3, RepL.free (w := w') (w' := w'.ren (outLoc M τ m ads)) (Same.refl _) _ h3 h4⟩
    · exact h.elim
  · exact h.elim
variable {k : Nat} {f : Addr} {fd : FuncData} {ps : List Str} {M : List Nat} {r : FSpec} {x : Str} {p pos : Pos} {e : Expr} {es : List Expr} {ra : RA}
theorem fe_call {m : Nat} (tk : Takes X W) (F : FnOk X.prog X.w X.K X.mg X.base (L2.CX X.prog X.w) k f fd ps (FnD X.K m M r)) (hr : Room k X.A) (hm : X.mg x = some (.ref f)) (hk : PySem.W.keepIn X.K (.ref f) = true) (hb : Binds X.K fd ps [])
    (ha : FA X W (e :: es) ra) (hl : (e :: es).length = m := by rfl) (hg : Gl X x := by rfl) (hdb : (x == ("__debug__" : Str)) = false := by decide) (he : starEach (e :: es) X.env = (false, eval e X.env) :: starEach es X.env := by rfl) (hpl : (backTo pos (starEach es X.env)).any (·.1) = false := by rfl) :
    FE X W (.Call (.Name x p) (e :: es) [] pos) (rCall M r ra) := by
  obtain ⟨t, pa, sa⟩ := ha.ex
  refine ⟨_, pe_callS (E := WE W) F hr hg hm hk hb (fun σ => passAt tk σ) pa hdb he hpl, fun τ w σ ρ E Q Qv hn st h hq hx => ?_⟩
  refine sa τ w σ ρ E _ _ hn st h (fun ads ρ1 w1 vs h1 l1 e1 r1 => ?_) hx
  exact call_sound (by rw [e1.len]; exact hn) e1.st (l1.trans hl) r1 h1 (fun d ρ' w' v q e2 r2 => hq d ρ' w' v q (e1.trans e2 (Nat.le_refl _)) r2) (hx.then e1 (Nat.le_refl _))
end
end FL
namespace FL
open PySem PySem.Spec PyProof.Rows L2
def rWhile (rt : RT) (rb : RS) : RS := fun ρ E F => ∃ I : Nat → En → Prop, (∃ m, I m ρ) ∧ ∀ m ρ, I m ρ → rt ρ E fun b ρ1 =>
  (b = true → rb ρ1 E (F.lp fun ρ2 => ∃ m', m' < m ∧ I m' ρ2)) ∧ (b = false → F.nx ρ1)
section
variable {X : Cx} {W : WX} {M : List Nat} {pos : Pos}
theorem fs_while {c : Expr} {body : List Stmt} {rt : RT} {rb : RS} (hp : PassesOwn (model X.prog X.w) X.A X.env X.xe) (hc : FT X W c rt) (hb : FSs X W M body rb) : FS X W M (.While c body [] pos) (rWhile rt rb) := by
  obtain ⟨t, p, k⟩ := hc.ex
  obtain ⟨u, q, l⟩ := hb.ex
  refine ⟨_, ps_while hp p q, fun w σ ρ E F D st ⟨I, ⟨m0, i0⟩, turn⟩ hf => ?_⟩
  refine ⟨fun m σ' H' => ∃ ρ' w', w'.H = H' ∧ I m ρ' ∧ EndS X.K M w σ ρ w' σ' ρ', ⟨m0, ρ, w, rfl, i0, .refl st⟩, ?_⟩
  rintro m σ1 H1 ⟨ρ1, w1, rfl, i1, e1⟩
  refine k _ w1 σ1 ρ1 E _ _ (Nat.lt_succ_self _) e1.st (turn m ρ1 i1) (fun b ρ2 w2 h2 e2 => ?_) (hf.then e1).sx
  have e12 := e1.trans (e2.s (M := M) (Nat.lt_succ_self _))
  cases b with
  | true =>
    rw [if_pos rfl]
    refine ⟨fun σ' H' => ∃ m', m' < m ∧ ∃ ρ' w', w'.H = H' ∧ I m' ρ' ∧ EndS X.K M w σ ρ w' σ' ρ', fun σ' H' ⟨m', h1, h2⟩ => ⟨m', h1, h2⟩, ?_⟩
    refine l w2 σ1 ρ2 E _ _ e12.st (h2.1 rfl) ⟨fun ρ' w' σ' ⟨m', h1, h2⟩ e => ⟨m', h1, ρ', w', rfl, h2, e12.trans e⟩, (hf.then e12).rt, (hf.then e12).nx, fun ρ' w' σ' ⟨m', h1, h2⟩ e => ⟨m', h1, ρ', w', rfl, h2, e12.trans e⟩, (hf.then e12).ex⟩
  | false =>
    rw [if_neg Bool.false_ne_true]
    exact hf.nx ρ2 w2 σ1 (h2.2 rfl) e12
end
/-- a later world that only has more -/
def Grow (w w' : Wd) : Prop := Wf w' ∧ Same w.S w'.S ∧ (∀ ℓ, KeptTo w w' ℓ ℓ)
theorem Grow.refl {w : Wd} (h : Wf w) : Grow w w := ⟨h, Same.refl _, fun ℓ a s e => ⟨e, rfl⟩⟩
theorem Grow.end {K : PySem.W.Frag} {τ : Nat} {w w' : Wd} {σ : Sl} {ρ : En} (g : Grow w w') (st : StE K w σ ρ) : EndE K τ w σ ρ ρ w' :=
  ⟨rfl, st.to g.1 g.2.1 fun i _ => g.2.2 _, ⟨g.2.1, fun a ℓ e _ => by simpa using g.2.2 ℓ a [] (by simpa using e)⟩⟩
def ItOk (K : PySem.W.Frag) (J : It) (ds : List D) (w : Wd) : Prop := ∀ i w1, Wf w1 → Same w.S w1.S →
  (∀ d, ds[i]? = some d → J.go i w1.H ∧ ∀ x H', J.yld i w1.H x H' → ∃ w2, w2.H = H' ∧ Grow w1 w2 ∧ d.own = false ∧ ∀ ℓ, Rep K w2 d ℓ x) ∧ (i = ds.length → J.stop i w1.H)
abbrev RI := En → EE → (List D → En → Prop) → Prop
def SI (K : PySem.W.Frag) (W : WX) (wi : TI) (ri : RI) : Prop :=
  ∀ (τ : Nat) (w : Wd) (σ : Sl) (ρ : En) (E : EE) (Q : List D → En → Prop) (R : It → Hp → Prop), ρ.length < τ → StE K w σ ρ → ri ρ E Q →
    (∀ ds ρ' w' J, Q ds ρ' → ds.length ≤ sizeLine → EndE K τ w σ ρ ρ' w' → ItOk K J ds w' → R J w'.H) → SX K W τ w σ ρ E → wi σ w.H R
structure FI (X : Cx) (W : WX) (tg iter : Expr) (ri : RI) : Prop where
  ex : ∃ wi, PI X tg iter wi ∧ SI X.K W wi ri
abbrev RG := D → En → (En → Prop) → Prop
abbrev RGs := List D → En → (En → Prop) → Prop
/-- behind a store to names of A -/
structure EndG (K : PySem.W.Frag) (A : List Nat) (w : Wd) (σ : Sl) (ρ : En) (w' : Wd) (σ' : Sl) (ρ' : En) : Prop where
  len : ρ'.length = ρ.length
  st : StE K w' σ' ρ'
  ext : ∀ T, Ext ρ.length T w w'
  off : ∀ i, i ∉ A → σ'[i]? = σ[i]?
theorem EndG.refl {K : PySem.W.Frag} {A : List Nat} {w : Wd} {σ : Sl} {ρ : En} (h : StE K w σ ρ) : EndG K A w σ ρ w σ ρ := ⟨rfl, h, fun _ => .refl, fun _ _ => rfl⟩
theorem EndG.trans {K : PySem.W.Frag} {A : List Nat} {w w1 w2 : Wd} {σ σ1 σ2 : Sl} {ρ ρ1 ρ2 : En} (a : EndG K A w σ ρ w1 σ1 ρ1) (b : EndG K A w1 σ1 ρ1 w2 σ2 ρ2) : EndG K A w σ ρ w2 σ2 ρ2 :=
  ⟨b.len.trans a.len, b.st, fun T => (a.ext T).trans (by have := b.ext T; rw [a.len] at this; exact this), fun i hi => (b.off i hi).trans (a.off i hi)⟩
theorem EndG.s {K : PySem.W.Frag} {A M : List Nat} {w w1 : Wd} {σ σ1 : Sl} {ρ ρ1 : En} (a : EndG K A w σ ρ w1 σ1 ρ1) (h : (M.all fun i => !A.contains i) = true) : EndS K M w σ ρ w1 σ1 ρ1 :=
  ⟨a.len, a.st, a.ext _, fun i hi => a.off i fun hA => by
    have := List.all_eq_true.mp h i hi
    rw [List.contains_iff_mem.mpr hA] at this
    cases this⟩
def SG (K : PySem.W.Frag) (A : List Nat) (g : TG) (rg : RG) : Prop :=
  ∀ (w : Wd) (σ : Sl) (ρ : En) (d : D) (v : V) (Q : En → Prop) (Qg : Sl → Hp → Prop), d.own = false → (∀ ℓ, Rep K w d ℓ v) → StE K w σ ρ → rg d ρ Q →
    (∀ ρ' w' σ', Q ρ' → EndG K A w σ ρ w' σ' ρ' → Qg σ' w'.H) → g v σ w.H Qg
def SGs (K : PySem.W.Frag) (A : List Nat) (g : TGs) (rg : RGs) : Prop :=
  ∀ (w : Wd) (σ : Sl) (ρ : En) (ds : List D) (vs : List V) (Q : En → Prop) (Qg : Sl → Hp → Prop), ownL ds = false → (∀ ℓ j, RepL K w ds ℓ j vs) → StE K w σ ρ → rg ds ρ Q →
    (∀ ρ' w' σ', Q ρ' → EndG K A w σ ρ w' σ' ρ' → Qg σ' w'.H) → g vs σ w.H Qg
/-- a target that stores to names of A -/
structure FG (X : Cx) (A : List Nat) (tg : Expr) (rg : RG) : Prop where
  ex : ∃ g, PG X tg g ∧ SG X.K A g rg
structure FGs (X : Cx) (A : List Nat) (tgs : List Expr) (rg : RGs) : Prop where
  ex : ∃ g, PGs X tgs g ∧ SGs X.K A g rg
def gNm (i : Nat) : RG := fun d ρ Q => nf (ρ.set i (some d)) Q
def gTp (n : Nat) (rg : RGs) : RG := fun d ρ Q => match d with
  | .tup false ds => ds.length = n ∧ rg ds ρ Q
  | .ro true ds => ds.length = n ∧ rg ds ρ Q
  | .lst .ice ds => ds.length = n ∧ rg ds ρ Q
  | .ro false ds => ds.length = n ∧ rg ds ρ Q
  | _ => False
def gNl : RGs := fun ds ρ Q => match ds with
  | [] => Q ρ
  | _ => False
def gCs (r : RG) (rs : RGs) : RGs := fun ds ρ Q => match ds with
  | d :: ds => r d ρ fun ρ' => rs ds ρ' Q
  | [] => False
/-- slot i forgotten -/
def dropT (i : Nat) : Loc → Option Loc
  | h :: s => if h = i + 1 then none else some (h :: s)
  | [] => some []
theorem StE.putF {K : PySem.W.Frag} {w : Wd} {σ : Sl} {ρ : En} (st : StE K w σ ρ) (i : Nat) {d : D} {v : V} (ho : d.own = false) (r : ∀ ℓ, Rep K w d ℓ v) : StE K (w.ren (dropT i)) (σ.set i (some v)) (ρ.set i (some d)) := by
  refine ⟨st.wf.ren _, by rw [List.length_set, List.length_set]; exact st.len, fun j d' e => ?_⟩
  by_cases hj : j = i
  · subst hj
    have hl : j < ρ.length := by
      have := (List.getElem?_eq_some_iff.mp e).1
      simpa using this
    rw [List.getElem?_set_self hl] at e
    cases e
    exact ⟨v, List.getElem?_set_self (by rw [st.len]; exact hl), Rep.free (w := w) (w' := w.ren (dropT j)) (Same.refl _) d ho (r [])⟩
  · rw [List.getElem?_set_ne (Ne.symm hj)] at e ⊢
    obtain ⟨v', e1, r'⟩ := st.rep j d' e
    refine ⟨v', e1, r'.ren fun s => ?_⟩
    show (if _ then _ else _) = _
    rw [if_neg (by omega)]; rfl
section
variable {X : Cx} {A : List Nat} {pos : Pos}
theorem sg_name {K : PySem.W.Frag} {i : Nat} (hA : A.contains i = true) : SG K A (gName i) (gNm i) := by
  intro w σ ρ d v Q Qg ho hr st h hq
  by_cases hi : i < ρ.length
  · refine hq _ (w.ren (dropT i)) _ (nf_of h) ⟨by rw [List.length_set], st.putF i ho hr, fun T => ⟨Same.refl _, fun a ℓ e ⟨h, s, e2, k⟩ => ?_⟩, fun j hj => ?_⟩
    · subst e2
      refine ⟨ren_at e ?_, rfl⟩
      show (if _ then _ else _) = _
      rw [if_neg (by omega)]
    · have : j ≠ i := fun z => by
        subst z
        exact hj (List.contains_iff_mem.mp hA)
      exact List.getElem?_set_ne (Ne.symm this)
  · show Qg (σ.set i (some v)) w.H
    rw [set_out _ (by rw [st.len]; exact hi)]
    have h : Q (ρ.set i (some d)) := nf_of h
    rw [set_out _ hi] at h
    exact hq _ _ _ h (.refl st)
theorem fg_name (i : Nat) {x : Str} (hN : X.N.Nodup) (hi : X.N[i]? = some x := by rfl) (hx : L2.Loc X.env.scope x := by first | exact .inl rfl | exact .inr rfl) (hA : A.contains i = true := by rfl) (hf : X.fn x = true ∨ X.env.scope.names.lookup x = some .local := by first | exact .inl rfl | exact .inr rfl) : FG X A (.Name x pos) (gNm i) :=
  ⟨_, pg_name hN hi hx hf, sg_name hA⟩
theorem fgs_nil : FGs X A [] gNl := ⟨_, pgs_nil, fun w σ ρ ds vs Q Qg ho hr st h hq => by
  unfold gNl at h
  split at h
  · have := hr [] 0
    simp only [RepL] at this
    exact ⟨this, hq _ _ _ h (.refl st)⟩
  · exact h.elim⟩
theorem fgs_cons {e : Expr} {es : List Expr} {r : RG} {rs : RGs} (h : FG X A e r) (g : FGs X A es rs) (hs : (assignEach (e :: es) X.env).map (·.2) = assign e X.env :: (assignEach es X.env).map (·.2) := by rfl) : FGs X A (e :: es) (gCs r rs) := by
  obtain ⟨t, p, k⟩ := h.ex
  obtain ⟨u, q, l⟩ := g.ex
  refine ⟨_, pgs_cons p q hs, fun w σ ρ ds vs Q Qg ho hr st h hq => ?_⟩
  unfold gCs at h
  split at h
  · rename_i d ds'
    have r0 := hr [] 0
    simp only [RepL] at r0
    obtain ⟨v, us, rfl, _, _⟩ := r0
    simp only [ownL, Bool.or_eq_false_iff] at ho
    have rd : ∀ ℓ, Rep X.K w d ℓ v := fun ℓ => by
      have := hr [] 0
      simp only [RepL] at this
      obtain ⟨v', us', e, h1, _⟩ := this
      cases e
      exact h1.free (Same.refl _) d ho.1
    have rds : ∀ ℓ j, RepL X.K w ds' ℓ j us := fun ℓ j => by
      have := hr [] 0
      simp only [RepL] at this
      obtain ⟨v', us', e, _, h2⟩ := this
      cases e
      exact RepL.free (Same.refl _) ds' ho.2 h2
    refine ⟨v, us, rfl, k w σ ρ d v _ _ ho.1 rd st h fun ρ1 w1 σ1 h1 e1 => ?_⟩
    exact l w1 σ1 ρ1 ds' us _ _ ho.2 (fun ℓ j => RepL.free (w := w) (ℓ := ℓ) (j := j) (e1.ext 0).s ds' ho.2 (rds ℓ j)) e1.st h1 fun ρ2 w2 σ2 h2 e2 => hq ρ2 w2 σ2 h2 (e1.trans e2)
  · exact h.elim
theorem pg_or {tg : Expr} {g g' : TG} (h : PG X tg g) (k : PG X tg g') : PG X tg (fun v σ H Q => g v σ H Q ∨ g' v σ H Q) :=
  ⟨fun pins s σ H v u Q I r hw => hw.elim (fun z => h.run pins s σ H v u Q I r z) fun z => k.run pins s σ H v u Q I r z⟩
theorem fg_tup {es : List Expr} {k n : Nat} {rs : RGs} (h : FGs X A es rs) (hc : X.calm = true := by rfl) (hn : (assignEach es X.env).length = n := by rfl) (hst : (assignEach es X.env).findIdx? (·.1) = none := by rfl) : FG X A (.Tuple es k pos) (gTp n rs) := by
  obtain ⟨t, p, k⟩ := h.ex
  refine ⟨_, pg_or (pg_tup hc p hn hst) (pg_unl hc p hn hst), fun w σ ρ d v Q Qg ho hr st h hq => ?_⟩
  unfold gTp at h
  split at h
  · rename_i ds
    have hz := (tup_sz (hr [])).2 rfl
    obtain ⟨a, vs, rfl, h1, h2⟩ := tup_at st.wf (hr [])
    exact .inl ⟨a, vs, rfl, SqT.of h1, h2.length.trans h.1, k w σ ρ ds vs _ _ hz (fun ℓ j => h2.free (Same.refl _) ds hz) st h.2 hq⟩
  · rename_i ds
    have r := hr []
    simp only [Rep] at r
    obtain ⟨a, vs, rfl, h1, hz, h2⟩ := r
    exact .inl ⟨a, vs, rfl, same_rdT st.wf.sh h1, h2.length.trans h.1, k w σ ρ ds vs _ _ hz.2 (fun ℓ j => h2.free (Same.refl _) ds hz.2) st h.2 hq⟩
  · rename_i ds
    have hz := (lst_sz (hr [])).2 rfl
    obtain ⟨a, vs, rfl, h1, h2⟩ := lst_at st.wf (hr [])
    exact .inr ⟨a, vs, rfl, SqL.of h1, h2.length.trans h.1, k w σ ρ ds vs _ _ hz (fun ℓ j => h2.free (Same.refl _) ds hz) st h.2 hq⟩
  · rename_i ds
    have r := hr []
    simp only [Rep] at r
    obtain ⟨a, vs, rfl, h1, hz, h2⟩ := r
    exact .inr ⟨a, vs, rfl, st.wf.sh.seq h1, h2.length.trans h.1, k w σ ρ ds vs _ _ hz.2 (fun ℓ j => h2.free (Same.refl _) ds hz.2) st h.2 hq⟩
  · exact h.elim
end
def RgOk (lo hi : Int) : Prop := (-1000000 ≤ lo ∧ lo ≤ 1000000) ∧ (-1000000 ≤ hi ∧ hi ≤ 1000000)
def rgD (lo hi : Int) : List D := (List.range (hi - lo).toNat).map fun (i : Nat) => D.int (lo + (i : Int))
def rRg1 (ra : RA) : RI := fun ρ E Q => ra ρ E fun ads ρ' => onAds ρ' ads fun ds => match ds with
  | [.int n] => RgOk 0 n ∧ Q (rgD 0 n) ρ'
  | _ => False
def rRg2 (ra : RA) : RI := fun ρ E Q => ra ρ E fun ads ρ' => onAds ρ' ads fun ds => match ds with
  | [.int m, .int n] => RgOk m n ∧ Q (rgD m n) ρ'
  | _ => False
theorem it_list {K : PySem.W.Frag} {w : Wd} {a : Addr} {vs : List V} {ds : List D} (h : SqL K w.S a vs) (ho : ownL ds = false) (r : ∀ ℓ, RepL K w ds ℓ 0 vs) : ItOk K (Itl K a) ds w := by
  intro i w1 wf1 sm
  have hq : SqL K w1.H a vs := wf1.sh.seq (sm.seq h)
  refine ⟨fun d e => ?_, fun hl => ⟨vs, hq, by rw [(r []).length, hl]; exact Nat.le_refl _⟩⟩
  obtain ⟨v, ev, rv⟩ := (r []).get e
  have ho' : d.own = false := ownL_iff.mp ho d (List.mem_of_getElem? e)
  refine ⟨⟨vs, v, hq, ev⟩, fun x H' y => ?_⟩
  obtain ⟨rfl, y⟩ := y
  have := y vs hq
  rw [ev] at this; cases this
  exact ⟨w1, rfl, .refl wf1, ho', fun ℓ => rv.free sm d ho'⟩
theorem it_tup {K : PySem.W.Frag} {w : Wd} {a : Addr} {vs : List V} {ds : List D} (h : SqT K w.S a vs) (ho : ownL ds = false) (r : ∀ ℓ, RepL K w ds ℓ 0 vs) : ItOk K (Itt K a) ds w := by
  intro i w1 wf1 sm
  have hq : SqT K w1.H a vs := same_rdT wf1.sh (same_rdT sm h)
  refine ⟨fun d e => ?_, fun hl => ⟨vs, hq, by rw [(r []).length, hl]; exact Nat.le_refl _⟩⟩
  obtain ⟨v, ev, rv⟩ := (r []).get e
  have ho' : d.own = false := ownL_iff.mp ho d (List.mem_of_getElem? e)
  refine ⟨⟨vs, v, hq, ev⟩, fun x H' y => ?_⟩
  obtain ⟨rfl, y⟩ := y
  have := y vs hq
  rw [ev] at this; cases this
  exact ⟨w1, rfl, .refl wf1, ho', fun ℓ => rv.free sm d ho'⟩
theorem it_range {K : PySem.W.Frag} {w : Wd} {lo : Int} {n : Nat} : ItOk K (Itr lo n) ((List.range n).map fun (i : Nat) => D.int (lo + (i : Int))) w := by
  intro i w1 wf1 sm
  refine ⟨fun d e => ?_, fun hl => by rw [List.length_map, List.length_range] at hl; exact Nat.le_of_eq hl.symm⟩
  rw [List.getElem?_map] at e
  have hi : i < n := by
    cases q : (List.range n)[i]? with
    | none => rw [q] at e; cases e
    | some j => have := (List.getElem?_eq_some_iff.mp q).1; simpa using this
  rw [List.getElem?_range hi] at e
  cases e
  refine ⟨hi, fun x H' y => ?_⟩
  obtain ⟨rfl, rfl⟩ := y
  exact ⟨w1, rfl, .refl wf1, rfl, fun ℓ => rfl⟩
/-- an owned list at a temporary is frozen for the walk -/
theorem EndE.iceT {K : PySem.W.Frag} {τ : Nat} {w : Wd} {σ : Sl} {ρ : En} {d : D} {v : V} (hn : ρ.length < τ) (st : StE K w σ ρ) (r : Rep K w d [τ] v) :
    ∃ w', w'.H = w.H ∧ EndE K τ w σ ρ ρ w' ∧ ∀ ℓ, Rep K w' d.frz ℓ v := by
  refine ⟨w.ice fun ℓ => match ℓ with | h :: _ => h == τ | [] => false, rfl, ⟨rfl, st.to st.wf.ice (ice_same st.wf) fun i hi => ice_kept fun s => ?_, ⟨ice_same st.wf, fun a ℓ e ⟨h, s, e2, k⟩ => ?_⟩⟩, fun ℓ => ?_⟩
  · show ((i + 1) == τ) = false
    simp; omega
  · subst e2
    have := ice_kept (w := w) (ℓ := h :: s) (P := fun ℓ => match ℓ with | h :: _ => h == τ | [] => false) (fun t => by
      show (h == τ) = false
      simp; omega) a [] (by simpa using e)
    simpa using this
  · exact Rep.frz (w := w) (ice_same st.wf) d (ice_frz fun s => by show (τ == τ) = true; simp) r
section
variable {X : Cx} {W : WX} {tg e : Expr} {re : RE} {p pos : Pos}
theorem rgD_len (lo hi : Int) : (rgD lo hi).length = (hi - lo).toNat := by unfold rgD; rw [List.length_map, List.length_range]
theorem fi_range1 {a : Expr} {ra : RA} (ha : FA X W [a] ra) (hm : X.mg "range" = none) (hg : Gl X "range" := by rfl) (hs : starEach [a] X.env = [(false, eval a X.env)] := by rfl) : FI X W tg (.Call (.Name "range" p) [a] [] pos) (rRg1 ra) := by
  obtain ⟨t, q, k⟩ := ha.ex
  refine ⟨_, pi_range1 hg hm q hs, fun τ w σ ρ E Q R hn st h hq hx => ?_⟩
  refine k τ w σ ρ E _ _ hn st h (fun ads ρ1 w1 vs h1 l1 e1 r1 => ?_) hx
  obtain ⟨ds, ed, h1⟩ := onAds_elim h1
  have ra := ads_any e1.st r1 ed
  split at h1
  · rename_i n
    obtain ⟨v, ℓ, rfl, r⟩ := reps1 ra
    simp only [Rep] at r
    subst r
    obtain ⟨⟨_, b1, b2⟩, h1⟩ := h1
    refine ⟨n, rfl, by omega, by omega, hq _ ρ1 w1 _ h1 (by rw [rgD_len, sizeLine_eq]; omega) e1 ?_⟩
    unfold rgD
    rw [Int.sub_zero]
    exact it_range
  · exact h1.elim
theorem fi_range2 {a b : Expr} {ra : RA} (ha : FA X W [a, b] ra) (hm : X.mg "range" = none) (hg : Gl X "range" := by rfl) (hs : starEach [a, b] X.env = [(false, eval a X.env), (false, eval b X.env)] := by rfl) (hs2 : starEach [b] X.env = [(false, eval b X.env)] := by rfl) : FI X W tg (.Call (.Name "range" p) [a, b] [] pos) (rRg2 ra) := by
  obtain ⟨t, q, k⟩ := ha.ex
  refine ⟨_, pi_range2 hg hm q hs hs2, fun τ w σ ρ E Q R hn st h hq hx => ?_⟩
  refine k τ w σ ρ E _ _ hn st h (fun ads ρ1 w1 vs h1 l1 e1 r1 => ?_) hx
  obtain ⟨ds, ed, h1⟩ := onAds_elim h1
  have ra := ads_any e1.st r1 ed
  split at h1
  · rename_i m n
    obtain ⟨v, u, ℓ, ℓ', rfl, r, r'⟩ := reps2 ra
    simp only [Rep] at r r'
    subst r; subst r'
    obtain ⟨⟨b0, b1⟩, h1⟩ := h1
    refine ⟨m, n, rfl, by omega, hq _ ρ1 w1 _ h1 (by rw [rgD_len, sizeLine_eq]; omega) e1 ?_⟩
    exact it_range
  · exact h1.elim
end
def forR (body : D → RS) : List D → RS
  | [], ρ, _, F => F.nx ρ
  | d :: ds, ρ, E, F => ∃ G : Fin, body d ρ E G ∧ G.le (F.lp fun ρ' => forR body ds ρ' E F)
/-- (a door: what stands ahead of it is reckoned out no further) -/
structure ForG (body : D → RS) (ds : List D) (ρ : En) (E : EE) (F : Fin) : Prop where
  go : forR body ds ρ E F
def rFor (ri : RI) (rg : RG) (rb : RS) : RS := fun ρ E F => ri ρ E fun ds ρ1 => ForG (fun d ρ E F => rg d ρ fun ρ2 => rb ρ2 E F) ds ρ1 E F
/-- what a judgement may lean on at its start -/
abbrev LW := Wd → Sl → En → Prop
def SIL (K : PySem.W.Frag) (W : WX) (L : LW) (wi : TI) (ri : RI) : Prop :=
  ∀ (τ : Nat) (w : Wd) (σ : Sl) (ρ : En) (E : EE) (Q : List D → En → Prop) (R : It → Hp → Prop), L w σ ρ → ρ.length < τ → StE K w σ ρ → ri ρ E Q →
    (∀ ds ρ' w' J, Q ds ρ' → ds.length ≤ sizeLine → EndE K τ w σ ρ ρ' w' → ItOk K J ds w' → R J w'.H) → SX K W τ w σ ρ E → wi σ w.H R
def SEL (K : PySem.W.Frag) (W : WX) (L : LW) (t : TE) (r : RE) : Prop :=
  ∀ (τ : Nat) (w : Wd) (σ : Sl) (ρ : En) (E : EE) (Q : D → En → Prop) (Qv : VK), L w σ ρ → ρ.length < τ → StE K w σ ρ → r ρ E Q →
    (∀ d ρ' w' v, Q d ρ' → EndE K τ w σ ρ ρ' w' → Rep K w' d [τ] v → Qv v w'.H) → SX K W τ w σ ρ E → t σ w.H Qv
def SSL (K : PySem.W.Frag) (W : WX) (L : LW) (M : List Nat) (t : TS) (r : RS) : Prop :=
  ∀ (w : Wd) (σ : Sl) (ρ : En) (E : EE) (F : Fin) (D : Ends), L w σ ρ → StE K w σ ρ → r ρ E F → SF K W M w σ ρ E F D → t D σ w.H
section
variable {X : Cx} {W : WX} {M : List Nat} {pos : Pos}
theorem fs_forL (L : LW) (A : List Nat) {tg iter : Expr} {body : List Stmt} {ri : RI} {rg : RG} {rb : RS} (hp : PassesOwn (model X.prog X.w) X.A X.env X.xe) (hi : ∃ wi, PI X tg iter wi ∧ SIL X.K W L wi ri) (hg : FG X A tg rg) (hb : FSs X W M body rb) (hA : (M.all fun i => !A.contains i) = true) (hc : X.calm = true)
    (hs : ∀ x, foldedSetIterable iter X.env x = pure x) : ∃ t, PS X (.For tg iter body [] pos) t ∧ SSL X.K W L M t (rFor ri rg rb) := by
  obtain ⟨wi, p, k⟩ := hi
  obtain ⟨g, pg, kg⟩ := hg.ex
  obtain ⟨t, pb, kb⟩ := hb.ex
  refine ⟨_, ps_for hp hc p pg pb hs, fun w σ ρ E F D hL st h hf => ?_⟩
  refine k _ w σ ρ E _ _ hL (Nat.lt_succ_self _) st h (fun ds ρ1 w1 J h1 hz e1 io => ?_) hf.sx
  have es := e1.s (M := M) (Nat.lt_succ_self _)
  have hf1 := hf.then es
  refine ⟨fun i m σ' H' => m = ds.length - i ∧ i ≤ ds.length ∧ ∃ ρ' w', w'.H = H' ∧ forR (fun d ρ E F => rg d ρ fun ρ2 => rb ρ2 E F) (ds.drop i) ρ' E F ∧ EndS X.K M w1 σ ρ1 w' σ' ρ', ⟨_, rfl, Nat.zero_le _, ρ1, w1, rfl, h1.go, .refl e1.st⟩, ?_⟩
  rintro i m σ2 H2 ⟨rfl, hi2, ρ2, w2, rfl, h2, e2⟩
  obtain ⟨io1, io2⟩ := io i w2 e2.st.wf e2.ext.s
  by_cases hlt : i < ds.length
  · obtain ⟨go, yl⟩ := io1 _ (List.getElem?_eq_getElem hlt)
    rw [List.drop_eq_getElem_cons hlt] at h2
    obtain ⟨G, hbd, hle⟩ := h2
    refine .inr ⟨go, fun σ' H' => ∃ ρ' w', w'.H = H' ∧ forR (fun d ρ E F => rg d ρ fun ρ2 => rb ρ2 E F) (ds.drop (i + 1)) ρ' E F ∧ EndS X.K M w1 σ ρ1 w' σ' ρ', fun σ' H' h => ⟨ds.length - (i + 1), by omega, rfl, hlt, h⟩, fun x H' y => ?_⟩
    obtain ⟨w3, rfl, gr, ho, rx⟩ := yl x H' y
    have e3 := gr.end (τ := ρ2.length + 1) e2.st
    have e13 := e2.trans (e3.s (M := M) (Nat.lt_succ_self _))
    refine kg w3 σ2 ρ2 _ x _ _ ho rx e3.st hbd fun ρ4 w4 σ4 h4 e4 => ?_
    have e14 := e13.trans (e4.s hA)
    have hf4 := hf1.then e14
    exact kb w4 σ4 ρ4 E G _ e14.st h4 ⟨fun ρ' w' σ' q e => ⟨ρ', w', rfl, hle.nx _ q, e14.trans e⟩, fun d ρ' w' σ' v q e r => hf4.rt d ρ' w' σ' v (hle.rt _ _ q) e r, fun ρ' w' σ' q e => hf4.nx ρ' w' σ' (hle.bk _ q) e,
      fun ρ' w' σ' q e => ⟨ρ', w', rfl, hle.ct _ q, e14.trans e⟩, hf4.ex⟩
  · have : i = ds.length := by omega
    subst this
    rw [List.drop_length] at h2
    exact .inl ⟨io2 rfl, hf1.nx ρ2 w2 σ2 h2 e2⟩
theorem FI.toL {L : LW} {tg iter : Expr} {ri : RI} (hi : FI X W tg iter ri) : ∃ wi, PI X tg iter wi ∧ SIL X.K W L wi ri := by
  obtain ⟨wi, p, k⟩ := hi.ex
  exact ⟨wi, p, fun τ w σ ρ E Q R _ => k τ w σ ρ E Q R⟩
theorem fs_for (A : List Nat) {tg iter : Expr} {body : List Stmt} {ri : RI} {rg : RG} {rb : RS} (hp : PassesOwn (model X.prog X.w) X.A X.env X.xe) (hi : FI X W tg iter ri) (hg : FG X A tg rg) (hb : FSs X W M body rb) (hA : (M.all fun i => !A.contains i) = true := by rfl) (hc : X.calm = true := by rfl)
    (hs : ∀ x, foldedSetIterable iter X.env x = pure x := by intro _; rfl) : FS X W M (.For tg iter body [] pos) (rFor ri rg rb) := by
  obtain ⟨t, p, k⟩ := fs_forL (fun _ _ _ => True) A hp hi.toL hg hb hA hc hs
  exact ⟨t, p, fun w σ ρ E F D => k w σ ρ E F D trivial⟩
end
/-- a loop by what holds between its turns -/
theorem forR_inv {body : D → RS} {E : EE} {F : Fin} (I : Nat → En → Prop) : ∀ (ds : List D) (k : Nat) (ρ : En), I k ρ →
    (∀ i d ρ, ds[i]? = some d → I (k + i) ρ → body d ρ E (F.lp (I (k + i + 1)))) → (∀ ρ, I (k + ds.length) ρ → F.nx ρ) → forR body ds ρ E F
  | [], k, ρ, h0, _, hd => hd ρ h0
  | d :: ds, k, ρ, h0, hs, hd => by
    refine ⟨_, hs 0 d ρ rfl h0, fun ρ' h => ?_, fun _ _ h => h, fun _ h => h, fun ρ' h => ?_⟩
    all_goals
      refine forR_inv I ds (k + 1) ρ' h (fun i d' ρ2 e h2 => ?_) fun ρ2 h2 => hd ρ2 (by rw [List.length_cons, show k + (ds.length + 1) = k + 1 + ds.length by omega]; exact h2)
      have := hs (i + 1) d' ρ2 (by simpa using e) (by rw [show k + (i + 1) = k + 1 + i by omega]; exact h2)
      rw [show k + (i + 1) + 1 = k + 1 + i + 1 by omega] at this
      exact this
def E0D : EE := fun _ _ _ => False
def W0 : WX := fun _ _ _ _ => False
def wipeD (ρ : En) : List Nat → En
  | [] => ρ
  | v :: vs => (wipeD ρ vs).set v none
def backD (ρ0 ρ : En) : List Nat → En
  | [] => ρ
  | v :: vs => (backD ρ0 ρ vs).set v (match ρ0[v]? with
    | some (some d) => match d.own with
      | true => none
      | false => some d
    | _ => none)
/-- the kind of a list that has got one more part, or none -/
def kindR : Ow → Option D → Ow
  | o, none => o
  | o, some d => match d.own with
    | false => o
    | true => .deep
def compR (f : D → En → (Option D → En → Prop) → Prop) (vs : List Nat) : List D → En → Ow → List D → (Ow → List D → En → Prop) → Prop
  | [], ρ, k, acc, Q => Q k acc ρ
  | d :: ds, ρ, k, acc, Q => ∃ P : Option D → En → Prop, f d ρ P ∧ ∀ o ρ', P o ρ' → compR f vs ds (wipeD ρ' vs) (kindR k o) (acc ++ o.toList) Q
structure CompG (f : D → En → (Option D → En → Prop) → Prop) (vs : List Nat) (ds : List D) (ρ : En) (Q : Ow → List D → En → Prop) : Prop where
  go : compR f vs ds ρ .flat [] Q
def rComp (ri : RI) (rg : RG) (rt : RT) (re : RE) (vs : List Nat) : RE := fun ρ E Q => ri ρ E fun ds ρ1 => nf (wipeD ρ1 vs) fun ρ0 =>
  CompG (fun d ρ k => rg d ρ fun ρ2 => rt ρ2 E0D fun b ρ3 => (b = true → re ρ3 E0D fun y ρ4 => k (some y) ρ4) ∧ (b = false → k none ρ3)) vs ds ρ0 fun k ys ρ' => nf (backD ρ1 ρ' vs) (Q (.lst k ys))
def rYes : RT := fun ρ _ Q => Q true ρ
structure FTs (X : Cx) (W : WX) (ifs : List Expr) (r : RT) : Prop where
  ex : ∃ t, PTs X ifs t ∧ STt X.K W t r
section
variable {X : Cx} {W : WX}
theorem fts_nil : FTs X W [] rYes := ⟨_, pts_nil, fun τ w σ ρ E Q Qv hn st h hq hx => hq true ρ w h (.refl st)⟩
theorem fts_one {c : Expr} {r : RT} (h : FT X W c r) : FTs X W [c] r := by
  obtain ⟨t, p, k⟩ := h.ex
  exact ⟨_, pts_one p, k⟩
end
theorem wipeD_len (ρ : En) : ∀ vs, (wipeD ρ vs).length = ρ.length
  | [] => rfl
  | v :: vs => by unfold wipeD; rw [List.length_set, wipeD_len ρ vs]
theorem wipeD_some {ρ : En} {i : Nat} {d : D} : ∀ {vs : List Nat}, (wipeD ρ vs)[i]? = some (some d) → ρ[i]? = some (some d) ∧ i ∉ vs
  | [], h => ⟨h, by simp⟩
  | v :: vs, h => by
    unfold wipeD at h
    by_cases hi : v = i
    · subst hi
      by_cases hv : v < (wipeD ρ vs).length
      · rw [List.getElem?_set_self hv] at h; cases h
      · rw [List.getElem?_eq_none (by simpa using hv)] at h; cases h
    · rw [List.getElem?_set_ne hi] at h
      obtain ⟨h1, h2⟩ := wipeD_some h
      exact ⟨h1, by simp only [List.mem_cons, not_or]; exact ⟨fun e => hi e.symm, h2⟩⟩
theorem backD_len (ρ0 ρ : En) : ∀ vs, (backD ρ0 ρ vs).length = ρ.length
  | [] => rfl
  | v :: vs => by unfold backD; rw [List.length_set, backD_len ρ0 ρ vs]
theorem backD_some {ρ0 ρ : En} {i : Nat} {d : D} : ∀ {vs : List Nat}, (backD ρ0 ρ vs)[i]? = some (some d) → (i ∉ vs ∧ ρ[i]? = some (some d)) ∨ (i ∈ vs ∧ ρ0[i]? = some (some d) ∧ d.own = false)
  | [], h => .inl ⟨by simp, h⟩
  | v :: vs, h => by
    unfold backD at h
    by_cases hi : v = i
    · subst hi
      by_cases hv : v < (backD ρ0 ρ vs).length
      · rw [List.getElem?_set_self hv] at h
        have h : (match ρ0[v]? with | some (some d) => (match d.own with | true => none | false => some d) | _ => none) = some d := Option.some.inj h
        split at h
        · rename_i d' e
          split at h
          · cases h
          · rename_i ho
            cases h
            exact .inr ⟨List.mem_cons_self, e, ho⟩
        · cases h
      · rw [List.getElem?_eq_none (by simpa using hv)] at h; cases h
    · rw [List.getElem?_set_ne hi] at h
      rcases backD_some h with ⟨h1, h2⟩ | ⟨h1, h2⟩
      · exact .inl ⟨by simp only [List.mem_cons, not_or]; exact ⟨fun e => hi e.symm, h1⟩, h2⟩
      · exact .inr ⟨List.mem_cons_of_mem _ h1, h2⟩
theorem StE.wipe {K : PySem.W.Frag} {w : Wd} {σ : Sl} {ρ : En} (st : StE K w σ ρ) (vs : List Nat) : StE K w (L2.wipe σ vs) (wipeD ρ vs) :=
  ⟨st.wf, by rw [wipe_length, wipeD_len]; exact st.len, fun i d e => by
    obtain ⟨e1, hn⟩ := wipeD_some e
    obtain ⟨v, e2, r⟩ := st.rep i d e1
    exact ⟨v, by rw [wipe_out hn]; exact e2, r⟩⟩
theorem wipe_eq {σ σ' : Sl} {vs : List Nat} (hl : σ'.length = σ.length) (h : ∀ i, i ∉ vs → σ'[i]? = σ[i]?) : L2.wipe σ' vs = L2.wipe σ vs := by
  have at1 : ∀ (τ : Sl) (i : Nat) (vs : List Nat), i ∈ vs → i < τ.length → (L2.wipe τ vs)[i]? = some none := by
    intro τ i vs
    induction vs with
    | nil => intro h; cases h
    | cons v vs ih =>
      intro h hi
      unfold L2.wipe
      by_cases hv : v = i
      · subst hv
        exact List.getElem?_set_self (by rw [wipe_length]; exact hi)
      · rw [List.getElem?_set_ne hv]
        rcases List.mem_cons.mp h with e | h
        · exact absurd e.symm hv
        · exact ih h hi
  apply List.ext_getElem?
  intro i
  by_cases hi : i ∈ vs
  · by_cases hl2 : i < σ.length
    · rw [at1 σ' i vs hi (by omega), at1 σ i vs hi hl2]
    · rw [List.getElem?_eq_none (by rw [wipe_length]; omega), List.getElem?_eq_none (by rw [wipe_length]; omega)]
  · rw [wipe_out hi, wipe_out hi, h i hi]
theorem wipe_wipe (σ : Sl) (vs : List Nat) : L2.wipe (L2.wipe σ vs) vs = L2.wipe σ vs := wipe_eq (by rw [wipe_length]) fun i hi => wipe_out hi
/-- an object changed -/
def Wd.put (w : Wd) (a : Addr) (o : HO) : Wd := ⟨w.G, w.S, upd w.H a o⟩
theorem Wf.put {w : Wd} (h : Wf w) {a : Addr} {ℓ : Loc} (ht : w.G a = some ℓ) {o : HO} (m : Mut (some o)) : Wf (w.put a o) := by
  refine ⟨fun b u e => ?_, fun b k e => ?_⟩
  · have e' : w.S b = some u := e
    have : b ≠ a := fun z => by rw [z, (h.tg a ℓ ht).1] at e'; cases e'
    show upd w.H a o b = some u
    rw [upd_ne this]; exact h.sh b u e
  · refine ⟨(h.tg b k e).1, ?_⟩
    show Mut (upd w.H a o b)
    by_cases hb : b = a
    · subst hb; rw [upd_same]; exact m
    · rw [upd_ne hb]; exact (h.tg b k e).2
theorem put_kept {w : Wd} {a : Addr} {ℓ k : Loc} (ht : w.G a = some ℓ) {o : HO} (hk : ∀ s, k ++ s ≠ ℓ) : KeptTo w (w.put a o) k k := fun b s e => ⟨e, by
  have : b ≠ a := fun z => by subst z; rw [ht] at e; cases e; exact hk s rfl
  exact upd_ne this⟩
/-- the temporary τ + 1 becomes the j-th child of τ -/
def joinT (τ j : Nat) : Loc → Option Loc
  | h :: s => if h = τ + 1 then some (τ :: j :: s) else some (h :: s)
  | [] => some []
theorem joinT_calm {n τ j : Nat} (h : n < τ) : Calm n τ (joinT τ j) := ⟨fun a s q => by
  show (if _ then _ else _) = _
  rw [if_neg (by omega)]⟩
section
variable {X : Cx} {W : WX}
abbrev BlkC := Shared × Hp × Addr × List (Str × Addr) × List Addr
abbrev Cx.blkC (X : Cx) (scope : Scope) (c : BlkC) : Cx := X.blk c.1 c.2.1 scope (compEnvC scope c.2.2.2.1 c.2.2.1 X.env) c.2.2.2.2
theorem lc_exL (L : LW) (vs : List Nat) {elt tg iter : Expr} {ifs : List Expr} {scope : Scope} {ri : RI} {rg : RG} {rt : RT} {re : RE} (hi : ∃ wi, PI X tg iter wi ∧ SIL X.K W L wi ri)
    (hg : ∀ c : BlkC, FG (Cx.blkC X scope c) vs tg rg) (ht : ∀ c : BlkC, FTs (Cx.blkC X scope c) W0 ifs rt) (he : ∀ c : BlkC, FE (Cx.blkC X scope c) W0 elt re) :
    ∃ (wi : TI) (g : TG) (tt : TT) (te : TE), PI X tg iter wi ∧ (∀ c : BlkC, PG (Cx.blkC X scope c) tg g) ∧ (∀ c : BlkC, PTs (Cx.blkC X scope c) ifs tt) ∧ (∀ c : BlkC, PE (Cx.blkC X scope c) elt te) ∧ SEL X.K W L (tLc wi g tt te vs) (rComp ri rg rt re vs) := by
  obtain ⟨wi, p, k⟩ := hi
  let g : TG := fun v σ H Q => ∀ c, Classical.choose (hg c).ex v σ H Q
  let tt : TT := fun σ H Q => ∀ c, Classical.choose (ht c).ex σ H Q
  let te : TE := fun σ H Q => ∀ c, Classical.choose (he c).ex σ H Q
  have pg : ∀ c, PG (Cx.blkC X scope c) tg g := fun c => ⟨fun pins s σ H v u Q I r h => (Classical.choose_spec (hg c).ex).1.run pins s σ H v u Q I r (h c)⟩
  have sg : SG X.K vs g rg := fun w σ ρ d v Q Qg ho hr st h hq c => (Classical.choose_spec (hg c).ex).2 w σ ρ d v Q Qg ho hr st h hq
  have pt : ∀ c, PTs (Cx.blkC X scope c) ifs tt := fun c => ⟨fun pins s σ H Q I h => (Classical.choose_spec (ht c).ex).1.run pins s σ H Q I (h c)⟩
  have stt : STt X.K W0 tt rt := fun τ w σ ρ E Q Qv hn st h hq hx c => (Classical.choose_spec (ht c).ex).2 τ w σ ρ E Q Qv hn st h hq hx
  have pe : ∀ c, PE (Cx.blkC X scope c) elt te := fun c => ⟨fun pins s σ H Q I h => (Classical.choose_spec (he c).ex).1.run pins s σ H Q I (h c)⟩
  have ste : SE X.K W0 te re := fun τ w σ ρ E Q Qv hn st h hq hx c => (Classical.choose_spec (he c).ex).2 τ w σ ρ E Q Qv hn st h hq hx
  refine ⟨wi, g, tt, te, p, pg, pt, pe, fun τ w σ ρ E Q Qv hL hn st h hq hx => ?_⟩
  refine k τ w σ ρ E _ _ hL hn st h (fun ds ρ1 w1 J h1 hz e1 io => ?_) hx
  simp only [nf_eq] at h1
  replace h1 := h1.go
  intro L nL
  have hn1 : ρ1.length < τ := by rw [e1.len]; exact hn
  have s0 := e1.st.wipe vs
  have eo : EndE X.K τ w1 (L2.wipe σ vs) (wipeD ρ1 vs) (wipeD ρ1 vs) (w1.new L [τ] (.lst [])) ∧ Rep X.K (w1.new L [τ] (.lst [])) (.lst .deep []) [τ] (.ref L) := EndE.own .deep s0 nL (by simp [RepL]) (Nat.zero_le _) (fun z => nomatch z) rfl
  refine ⟨fun i m H' => m = ds.length - i ∧ i ≤ ds.length ∧ ∃ ρ' w' kd acc, w'.H = H' ∧ ρ'.length = ρ1.length ∧ StE X.K w' (L2.wipe σ vs) ρ' ∧ Ext ρ1.length τ w1 w' ∧ Rep X.K w' (.lst .deep acc) [τ] (.ref L) ∧ (kd.mine = true ∧ Lt kd acc) ∧ acc.length ≤ i ∧
    compR (fun d ρ k => rg d ρ fun ρ2 => rt ρ2 E0D fun b ρ3 => (b = true → re ρ3 E0D fun y ρ4 => k (some y) ρ4) ∧ (b = false → k none ρ3)) vs (ds.drop i) ρ' kd acc fun k ys ρ' => Q (.lst k ys) (backD ρ1 ρ' vs),
    ⟨_, rfl, Nat.zero_le _, _, _, .flat, [], rfl, wipeD_len _ _, eo.1.st, by have := eo.1.ext; rw [wipeD_len] at this; exact this, eo.2, ⟨rfl, fun _ => rfl⟩, Nat.zero_le _, h1⟩, ?_⟩
  rintro i m H2 ⟨rfl, hi2, ρ2, w2, kd, acc, rfl, l2, st2, x2, r2, kl, al, h2⟩
  obtain ⟨io1, io2⟩ := io i w2 st2.wf x2.s
  by_cases hlt : i < ds.length
  · obtain ⟨go, yl⟩ := io1 _ (List.getElem?_eq_getElem hlt)
    rw [List.drop_eq_getElem_cons hlt] at h2
    obtain ⟨P, hb, hP⟩ := h2
    refine .inr ⟨go, fun H' => ∃ ρ' w' kd acc, w'.H = H' ∧ ρ'.length = ρ1.length ∧ StE X.K w' (L2.wipe σ vs) ρ' ∧ Ext ρ1.length τ w1 w' ∧ Rep X.K w' (.lst .deep acc) [τ] (.ref L) ∧ (kd.mine = true ∧ Lt kd acc) ∧ acc.length ≤ i + 1 ∧
      compR (fun d ρ k => rg d ρ fun ρ2 => rt ρ2 E0D fun b ρ3 => (b = true → re ρ3 E0D fun y ρ4 => k (some y) ρ4) ∧ (b = false → k none ρ3)) vs (ds.drop (i + 1)) ρ' kd acc fun k ys ρ' => Q (.lst k ys) (backD ρ1 ρ' vs),
      fun H' h => ⟨ds.length - (i + 1), by omega, rfl, hlt, h⟩, fun x H' y => ?_⟩
    obtain ⟨w3, rfl, gr, ho, rx⟩ := yl x H' y
    have e3 := gr.end (τ := τ + 1) st2
    refine sg w3 (L2.wipe σ vs) ρ2 _ x _ _ ho rx e3.st hb fun ρ4 w4 σ4 h4 e4 => ?_
    have hw4 : L2.wipe σ4 vs = L2.wipe σ vs := by
      have l4 : σ4.length = (L2.wipe σ vs).length := by rw [e4.st.len, e4.len, ← e3.st.len]
      rw [wipe_eq l4 e4.off, wipe_wipe]
    refine ⟨hw4, ?_⟩
    have l4 : ρ4.length = ρ1.length := by rw [e4.len, l2]
    have x4 : Ext ρ1.length (τ + 1) w2 w4 := by
      have a := e3.ext
      have b := e4.ext (τ + 1)
      rw [l2] at a b
      exact a.trans b
    refine stt (τ + 1) w4 σ4 ρ4 E0D _ _ (by omega) e4.st h4 (fun b ρ5 w5 h5 e5 => ?_) (fun c fs ρ' w' d h => h.elim)
    have x5 : Ext ρ1.length (τ + 1) w2 w5 := x4.trans (by have := e5.ext; rw [l4] at this; exact this)
    have l5 : ρ5.length = ρ1.length := e5.len.trans l4
    have again : ∀ {ρ6 : En} {w6 : Wd} {kd' : Ow} {acc' : List D}, ρ6.length = ρ1.length → StE X.K w6 σ4 ρ6 → Ext ρ1.length τ w1 w6 → Rep X.K w6 (.lst .deep acc') [τ] (.ref L) → (kd'.mine = true ∧ Lt kd' acc') → acc'.length ≤ i + 1 → compR (fun d ρ k => rg d ρ fun ρ2 => rt ρ2 E0D fun b ρ3 => (b = true → re ρ3 E0D fun y ρ4 => k (some y) ρ4) ∧ (b = false → k none ρ3)) vs (ds.drop (i + 1)) (wipeD ρ6 vs) kd' acc' (fun k ys ρ' => Q (.lst k ys) (backD ρ1 ρ' vs)) →
        ∃ ρ' w' kd acc, w'.H = w6.H ∧ ρ'.length = ρ1.length ∧ StE X.K w' (L2.wipe σ vs) ρ' ∧ Ext ρ1.length τ w1 w' ∧ Rep X.K w' (.lst .deep acc) [τ] (.ref L) ∧ (kd.mine = true ∧ Lt kd acc) ∧ acc.length ≤ i + 1 ∧
      compR (fun d ρ k => rg d ρ fun ρ2 => rt ρ2 E0D fun b ρ3 => (b = true → re ρ3 E0D fun y ρ4 => k (some y) ρ4) ∧ (b = false → k none ρ3)) vs (ds.drop (i + 1)) ρ' kd acc fun k ys ρ' => Q (.lst k ys) (backD ρ1 ρ' vs) :=
      fun {ρ6 w6 kd' acc'} a1 a2 a3 a4 a7 a5 a6 => ⟨wipeD ρ6 vs, w6, kd', acc', rfl, by rw [wipeD_len]; exact a1, by have := a2.wipe vs; rw [hw4] at this; exact this, a3, a4, a7, a5, a6⟩
    cases b with
    | false =>
      rw [if_neg Bool.false_ne_true]
      have q := hP none ρ5 (h5.2 rfl)
      rw [Option.toList_none, List.append_nil] at q
      exact again l5 e5.st (x2.trans (x5.mono (Nat.le_succ _))) (x5.rep (r := []) ⟨hn1, Nat.lt_succ_self _⟩ r2) kl (by omega) q
    | true =>
      rw [if_pos rfl]
      refine ste (τ + 1) w5 σ4 ρ5 E0D _ _ (by omega) e5.st (h5.1 rfl) (fun y ρ6 w6 v6 h6 e6 r6 => ?_) (fun c fs ρ' w' d h => h.elim)
      have x6 : Ext ρ1.length (τ + 1) w2 w6 := x5.trans (by have := e6.ext; rw [l5] at this; exact this)
      have l6 : ρ6.length = ρ1.length := e6.len.trans l5
      have ra : Rep X.K w6 (.lst .deep acc) [τ] (.ref L) := x6.rep (r := []) ⟨hn1, Nat.lt_succ_self _⟩ r2
      -- the element goes to its place
      have er : EndE X.K τ w6 σ4 ρ6 ρ6 (w6.ren (joinT τ acc.length)) := EndE.ren e6.st (joinT_calm (by omega))
      have ra2 : Rep X.K (w6.ren (joinT τ acc.length)) (.lst .deep acc) [τ] (.ref L) := ra.ren fun s => by
        show (if _ then _ else _) = _
        rw [if_neg (by omega)]; rfl
      have ry : Rep X.K (w6.ren (joinT τ acc.length)) y [τ, acc.length] v6 := r6.ren fun s => by
        show (if _ then _ else _) = _
        rw [if_pos rfl]; rfl
      simp only [Rep] at ra2
      obtain ⟨a, us, ea, tha, hza, rl⟩ := ra2
      cases ea
      obtain ⟨ta, ha⟩ := (show _ ∧ _ from tha)
      refine ⟨us, ha, by rw [rl.length]; omega, ?_⟩
      have kk : ∀ (h : Nat) (s t : Loc), h ≠ τ → h :: s ++ t ≠ [τ] := fun h s t e z => by
        have := congrArg List.head? z
        simp at this
        exact e this
      have ek : EndE X.K τ (w6.ren (joinT τ acc.length)) σ4 ρ6 ρ6 ((w6.ren (joinT τ acc.length)).put L (.lst (us ++ [v6]))) :=
        ⟨rfl, er.st.to (er.st.wf.put ta trivial) (Same.refl _) fun i hi => put_kept ta fun s => kk _ [] s (by omega), ⟨Same.refl _, fun b ℓ e ⟨h, s, e2, k⟩ => by
          subst e2
          have := put_kept (o := .lst (us ++ [v6])) ta (k := h :: s) (fun t => kk h s t (by omega)) b [] (by simpa using e)
          simpa using this⟩⟩
      have q := hP (some y) ρ6 h6
      refine again l6 ek.st ((x2.trans (x6.mono (Nat.le_succ _))).trans (by have a := er.ext; have b := ek.ext; rw [l6] at a b; exact a.trans b)) ?_ ?_ (by simp; omega) q
      rotate_left
      · show (kindR kd (some y)).mine = true ∧ Lt (kindR kd (some y)) (acc ++ [y])
        cases qy : y.own with
        | true =>
          have : kindR kd (some y) = .deep := by simp only [kindR, qy]
          rw [this]
          exact ⟨rfl, fun z => nomatch z⟩
        | false =>
          have : kindR kd (some y) = kd := by simp only [kindR, qy]
          rw [this]
          exact ⟨kl.1, fun z => by rw [ownL_append, kl.2 z]; simp [ownL, qy]⟩
      have ch : ∀ (j : Nat) (t : Loc), [τ] ++ [j] ++ t ≠ [τ] := fun j t z => by
        have := congrArg List.length z
        simp at this
      simp only [Rep]
      refine ⟨L, us ++ [v6], rfl, (show _ ∧ _ from ⟨ta, upd_same⟩), ⟨by simp; omega, fun z => nomatch z⟩, ?_⟩
      refine RepL.app (RepL.of rl.length fun j d v e1 e2 => ?_) (RepL.one ?_)
      · obtain ⟨v', e3, r⟩ := rl.get e1
        rw [e2] at e3; cases e3
        exact Rep.to (w := w6.ren (joinT τ acc.length)) (w' := (w6.ren (joinT τ acc.length)).put L (.lst (us ++ [v6]))) (Same.refl _) d (put_kept ta fun t => ch _ t) r
      · rw [Nat.zero_add]
        exact Rep.to (w := w6.ren (joinT τ acc.length)) (w' := (w6.ren (joinT τ acc.length)).put L (.lst (us ++ [v6]))) (Same.refl _) y (put_kept ta fun t => ch _ t) ry
  · have : i = ds.length := by omega
    subst this
    rw [List.drop_length] at h2
    refine .inl ⟨io2 rfl, hq _ _ w2 _ h2 ⟨by rw [backD_len, l2, e1.len], ⟨st2.wf, by rw [backD_len, l2]; exact e1.st.len, fun i d e => ?_⟩, e1.ext.trans (by have := x2; rw [e1.len] at this; exact this)⟩ ?_⟩
    rotate_left
    · simp only [Rep] at r2 ⊢
      obtain ⟨a, us, ea, tha, hza, rl⟩ := r2
      exact ⟨a, us, ea, by rw [if_pos kl.1]; exact tha, ⟨hza.1, kl.2⟩, rl⟩
    rcases backD_some e with ⟨h3, h4⟩ | ⟨h3, h4, h5⟩
    · obtain ⟨v, e5, r⟩ := st2.rep i d h4
      rw [wipe_out h3] at e5
      exact ⟨v, e5, r⟩
    · obtain ⟨v, e5, r⟩ := e1.st.rep i d h4
      exact ⟨v, e5, r.free x2.s d h5⟩
theorem lc_ex (vs : List Nat) {elt tg iter : Expr} {ifs : List Expr} {scope : Scope} {ri : RI} {rg : RG} {rt : RT} {re : RE} (hi : FI X W tg iter ri)
    (hg : ∀ c : BlkC, FG (Cx.blkC X scope c) vs tg rg) (ht : ∀ c : BlkC, FTs (Cx.blkC X scope c) W0 ifs rt) (he : ∀ c : BlkC, FE (Cx.blkC X scope c) W0 elt re) :
    ∃ (wi : TI) (g : TG) (tt : TT) (te : TE), PI X tg iter wi ∧ (∀ c : BlkC, PG (Cx.blkC X scope c) tg g) ∧ (∀ c : BlkC, PTs (Cx.blkC X scope c) ifs tt) ∧ (∀ c : BlkC, PE (Cx.blkC X scope c) elt te) ∧ SE X.K W (tLc wi g tt te vs) (rComp ri rg rt re vs) := by
  obtain ⟨wi, g, tt, te, p, pg, pt, pe, k⟩ := lc_exL (fun _ _ _ => True) vs hi.toL hg ht he
  exact ⟨wi, g, tt, te, p, pg, pt, pe, fun τ w σ ρ E Q Qv => k τ w σ ρ E Q Qv trivial⟩
theorem fe_lc (vs : List Nat) {elt tg iter : Expr} {ifs : List Expr} {scope : Scope} {own : List (Str × Nat)} {pos : Pos} {ri : RI} {rg : RG} {rt : RT} {re : RE} (hN : X.N.Nodup) (hi : FI X W tg iter ri) (ok : BlkOk X.N X.env.scope scope own)
    (hg : ∀ c : BlkC, FG (Cx.blkC X scope c) vs tg rg) (ht : ∀ c : BlkC, FTs (Cx.blkC X scope c) W0 ifs rt) (he : ∀ c : BlkC, FE (Cx.blkC X scope c) W0 elt re) (hv : own.map (·.2) = vs := by rfl) (hc : X.calm = true := by rfl) (hs : ∀ x, foldedSetIterable iter X.env x = pure x := by intro _; rfl) :
    FE X W (.ListComp elt [⟨tg, iter, ifs, 0⟩] scope pos) (rComp ri rg rt re vs) := by
  obtain ⟨wi, g, tt, te, p, pg, pt, pe, k⟩ := lc_ex vs hi hg ht he
  exact ⟨tLc wi g tt te vs, by rw [← hv]; exact pe_lc hc hN p ok (fun s H C cl fp => pg (s, H, C, cl, fp)) (fun s H C cl fp => pt (s, H, C, cl, fp)) (fun s H C cl fp => pe (s, H, C, cl, fp)) hs, k⟩
end
end FL
namespace FL
open PySem PySem.Spec PyProof.Rows L2
/-- its parts are known to the letter -/
def D.seen : D → Bool
  | .ro _ _ => false
  | _ => true
def D.at : D → List Nat → Option D
  | d, [] => some d
  | d, j :: p => match d.kids[j]? with
    | some e => e.at p
    | none => none
def D.put : D → List Nat → D → D
  | _, [], e => e
  | d, j :: p, e => match d.kids[j]? with
    | some c => d.withKids (d.kids.set j (c.put p e))
    | none => d
section
variable {K : PySem.W.Frag} {w w' : Wd}
theorem kids_inner {d : D} {j : Nat} {e : D} (hj : d.kids[j]? = some e) : d.inner = true := by
  cases d <;> first | rfl | (simp [D.kids] at hj)
theorem withKids_inner {d : D} (es : List D) (h : d.inner = true) : (d.withKids es).inner = true := by cases d <;> first | exact h | rfl
theorem withKids_kids {d : D} (es : List D) (h : d.inner = true) : (d.withKids es).kids = es := by
  cases d <;> first | rfl | (simp [D.inner] at h)
theorem withKids_own {d : D} (es : List D) : (d.withKids es).own = d.own := by cases d <;> rfl
theorem nd_withKids {d : D} {es : List D} {ℓ : Loc} {a : Addr} {vs : List V} (h : Nd K w d ℓ a vs) : Nd K w (d.withKids es) ℓ a vs := by
  cases d <;> exact h
theorem sz_withKids {d : D} {es fs : List D} {n : Nat} (h : Sz d fs n) : Sz (d.withKids es) fs n := by
  cases d <;> exact h
theorem node_rep {d : D} {ℓ : Loc} {a : Addr} {vs : List V} {es : List D} (hi : d.inner = true) (h : Nd K w d ℓ a vs) (hz : Sz d es vs.length) (hl : RepL K w es ℓ 0 vs) : Rep K w (d.withKids es) ℓ (.ref a) := by
  rw [rep_inner (withKids_inner es hi), withKids_kids es hi]
  exact ⟨a, vs, rfl, nd_withKids h, sz_withKids hz, hl⟩
theorem ownL_set : ∀ {ds : List D} {j : Nat} {c e : D}, ownL ds = false → ds[j]? = some c → (e.own = true → c.own = true) → ownL (ds.set j e) = false
  | [], j, c, e, _, h, _ => by simp at h
  | d :: ds, 0, c, e, h, hj, k => by
    simp only [ownL, Bool.or_eq_false_iff] at h
    cases hj
    have : e.own = false := by
      cases q : e.own with
      | false => rfl
      | true => rw [k q] at h; exact absurd h.1 (by decide)
    simp only [List.set_cons_zero, ownL, this, h.2, Bool.or_self]
  | d :: ds, j + 1, c, e, h, hj, k => by
    simp only [ownL, Bool.or_eq_false_iff] at h
    simp only [List.set_cons_succ, ownL, h.1, Bool.false_or]
    exact ownL_set h.2 (by simpa using hj) k
theorem sz_set {d : D} {ds : List D} {j n : Nat} {c e : D} (h : Sz d ds n) (hj : ds[j]? = some c) (k : e.own = true → c.own = true) : Sz d (ds.set j e) n := by
  cases d <;> first
    | exact h.elim
    | exact ⟨by rw [List.length_set]; exact h.1, fun z => ownL_set (h.2 z) hj k⟩
    | exact ⟨by rw [List.length_set]; exact h.1, ownL_set h.2 hj k⟩
    | exact ⟨h.1, h.2.1, fun z => ownL_set (h.2.2 z) hj k⟩
    | exact ⟨h.1, fun z => ownL_set (h.2 z) hj k⟩
theorem zip_inj {α β : Type} {ks : List α} {vs vs' : List β} (h1 : ks.length = vs.length) (h2 : ks.length = vs'.length) (e : ks.zip vs = ks.zip vs') : vs = vs' := by
  have := congrArg (List.map Prod.snd) e
  rwa [List.map_snd_zip (by omega), List.map_snd_zip (by omega)] at this
theorem own_inj {o : Ow} {ℓ : Loc} {a : Addr} {u u' : HO} (h : if o.mine then w.G a = some ℓ ∧ w.H a = some u else w.S a = some u) (h' : if o.mine then w.G a = some ℓ ∧ w.H a = some u' else w.S a = some u') : u = u' := by
  cases e : o.mine with
  | true => rw [e] at h h'; exact Option.some.inj (h.2.symm.trans h'.2)
  | false => rw [e] at h h'; exact Option.some.inj (h.symm.trans h')
theorem own_injR {o : Ow} {ℓ : Loc} {a : Addr} {u u' : HO} (hu : ∀ ob x, u ≠ .frz ob x) (hu' : ∀ ob x, u' ≠ .frz ob x) (h : if o.mine then w.G a = some ℓ ∧ w.H a = some u else Rd w.S a u) (h' : if o.mine then w.G a = some ℓ ∧ w.H a = some u' else Rd w.S a u') : u = u' := by
  cases e : o.mine with
  | true => rw [e] at h h'; exact Option.some.inj (h.2.symm.trans h'.2)
  | false =>
    rw [e] at h h'
    rcases h with h | ⟨p, h⟩ <;> rcases h' with h' | ⟨p', h'⟩
    · exact Option.some.inj (h.symm.trans h')
    · exact absurd (Option.some.inj (h.symm.trans h')) (hu _ _)
    · exact absurd (Option.some.inj (h'.symm.trans h)) (hu' _ _)
    · have := Option.some.inj (h.symm.trans h'); injection this
theorem nd_inj {d : D} {ℓ : Loc} {a : Addr} {vs vs' : List V} (hs : d.seen = true) (h : Nd K w d ℓ a vs) (h' : Nd K w d ℓ a vs') (hz : Sz d d.kids vs'.length) (hl : vs.length = vs'.length) : vs = vs' := by
  cases d with
  | tup o ds => have := h.symm.trans h'; cases this; rfl
  | lst o ds => have := own_inj h h'; cases this; rfl
  | ro t ds => cases hs
  | dct o t ks ds =>
    have e := own_injR (fun ob x => by unfold dHO; split <;> intro z <;> cases z) (fun ob x => by unfold dHO; split <;> intro z <;> cases z) h h'
    have l1 : ks.length = vs'.length := hz.1
    cases t with
    | true => injection e with e; exact zip_inj (by simp; omega) (by simp; omega) e
    | false => injection e with e; exact zip_inj (by simp; omega) (by simp; omega) e
  | ins o C fs ds =>
    obtain ⟨dx, h⟩ := h
    obtain ⟨dx', h'⟩ := h'
    have l1 : fs.length = vs'.length := hz.1
    cases q : o.mine with
    | true =>
      rw [q] at h h'
      have := Option.some.inj (h.2.symm.trans h'.2)
      injection this with _ _ e
      exact zip_inj (by omega) l1 e
    | false =>
      rw [q] at h h'
      have := Option.some.inj (h.symm.trans h')
      injection this with _ _ e
      exact zip_inj (by omega) l1 e
  | _ => exact h.elim
/-- the value that stands at a path -/
inductive AtV (K : PySem.W.Frag) (w : Wd) : D → Loc → V → List Nat → D → V → Prop
  | here {d : D} {ℓ : Loc} {v : V} : AtV K w d ℓ v [] d v
  | down {d e : D} {ℓ : Loc} {a : Addr} {vs : List V} {j : Nat} {p : List Nat} {v u : V} {c : D} : d.seen = true → Nd K w d ℓ a vs → vs.length = d.kids.length → d.kids[j]? = some c → vs[j]? = some v → AtV K w c (ℓ ++ [j]) v p e u → AtV K w d ℓ (.ref a) (j :: p) e u
theorem AtV.at {d e : D} {ℓ : Loc} {v u : V} {p : List Nat} (h : AtV K w d ℓ v p e u) : d.at p = some e := by
  induction h with
  | here => rfl
  | down _ _ _ hk _ _ ih => simp only [D.at, hk]; exact ih
theorem node_vs {d : D} {ℓ : Loc} {a : Addr} {vs : List V} (hs : d.seen = true) (hi : d.inner = true) (hn : Nd K w d ℓ a vs) (hl : vs.length = d.kids.length) (r : Rep K w d ℓ (.ref a)) : Sz d d.kids vs.length ∧ RepL K w d.kids ℓ 0 vs := by
  rw [rep_inner hi] at r
  obtain ⟨a', vs', ea, hn', hz, rl⟩ := r
  cases ea
  obtain rfl := nd_inj hs hn hn' hz (hl.trans rl.length.symm)
  exact ⟨hz, rl⟩
theorem AtV.rep {d e : D} {ℓ : Loc} {v u : V} {p : List Nat} (h : AtV K w d ℓ v p e u) (r : Rep K w d ℓ v) : Rep K w e (ℓ ++ p) u := by
  induction h with
  | here => rw [List.append_nil]; exact r
  | @down d e ℓ a vs j p v u c hs hn hl hk hv _ ih =>
    obtain ⟨_, rl⟩ := node_vs hs (kids_inner hk) hn hl r
    obtain ⟨v1, e1, r1⟩ := rl.get hk
    rw [hv] at e1; cases e1
    have := ih (by rw [Nat.zero_add] at r1; exact r1)
    rw [List.append_assoc] at this
    exact this
theorem put_own : ∀ {p : List Nat} {d e e' : D}, d.at p = some e → (e'.own = true → e.own = true) → (d.put p e').own = true → d.own = true
  | [], d, e, e', h, k, z => by cases h; exact k z
  | j :: p, d, e, e', h, k, z => by
    simp only [D.at] at h
    cases hk : d.kids[j]? with
    | none => simp [hk] at h
    | some c => simp only [D.put, hk] at z; rw [withKids_own] at z; exact z
/-- the subtree at a path exchanged -/
theorem AtV.put {d e e' : D} {ℓ : Loc} {v u : V} {p : List Nat} (h : AtV K w d ℓ v p e u) (r : Rep K w d ℓ v) (hs : Same w.S w'.S) (ho : e'.own = true → e.own = true)
    (hk : ∀ a k, w.G a = some k → ℓ <+: k → ¬ (ℓ ++ p <+: k) → w'.G a = some k ∧ w'.H a = w.H a) (r' : Rep K w' e' (ℓ ++ p) u) : Rep K w' (d.put p e') ℓ v := by
  induction h with
  | here => rw [List.append_nil] at r'; simp only [D.put]; exact r'
  | @down d e ℓ a vs j p v u c hsn hn hl hkd hv hat ih =>
    obtain ⟨hz, hvs⟩ := node_vs hsn (kids_inner hkd) hn hl r
    have rc := (AtV.down hsn hn hl hkd hv .here : AtV K w d ℓ (.ref a) [j] c v).rep r
    have pre : ∀ k : Loc, ¬ (ℓ ++ (j :: p) <+: ℓ) := fun _ z => by
      have := z.length_le
      simp at this
      omega
    have hnw : Nd K w' d ℓ a vs := hn.later hs fun e1 => hk a ℓ e1 (List.prefix_refl _) (pre ℓ)
    simp only [D.put, hkd]
    refine node_rep (kids_inner hkd) hnw (sz_set hz hkd fun z => put_own hat.at ho z) ?_
    refine RepL.of (by rw [List.length_set]; exact hvs.length) fun i di vi e1 e2 => ?_
    rw [Nat.zero_add]
    by_cases hij : i = j
    · subst hij
      have hl := (List.getElem?_eq_some_iff.mp hkd).1
      rw [List.getElem?_set_self hl] at e1
      cases e1
      rw [hv] at e2; cases e2
      refine ih rc ho (fun b k hb h1 h2 => hk b k hb ((List.prefix_append ℓ [i]).trans h1) fun z => h2 (by rw [List.append_assoc]; exact z)) (by rw [List.append_assoc]; exact r')
    · rw [List.getElem?_set_ne (Ne.symm hij)] at e1
      obtain ⟨v1, e3, r1⟩ := hvs.get e1
      rw [e2] at e3; cases e3
      rw [Nat.zero_add] at r1
      refine r1.to hs di fun b s hb => hk b _ hb (by rw [List.append_assoc]; exact List.prefix_append _ _) fun z => ?_
      rw [List.append_assoc, List.prefix_append_right_inj] at z
      have := z
      simp only [List.singleton_append, List.cons_prefix_cons] at this
      exact hij this.1.symm
end
end FL
namespace FL
open PySem PySem.Spec PyProof.Rows L2
/-- the temporary τ1 goes to L -/
def moveT (τ1 : Nat) (L : Loc) : Loc → Option Loc
  | h :: s => if h = τ1 then some (L ++ s) else some (h :: s)
  | [] => some []
section
variable {K : PySem.W.Frag} {w w' : Wd}
theorem moveT_ne {τ1 h : Nat} {L s : Loc} (e : h ≠ τ1) : moveT τ1 L (h :: s) = some (h :: s) := by
  show (if _ then _ else _) = _
  rw [if_neg e]
theorem moveT_at {τ1 : Nat} {L s : Loc} : moveT τ1 L (τ1 :: s) = some (L ++ s) := by
  show (if _ then _ else _) = _
  rw [if_pos rfl]
theorem Rep.mv {d : D} {h τ1 : Nat} {p L : Loc} {v : V} (r : Rep K w d (h :: p) v) (e : h ≠ τ1) : Rep K (w.ren (moveT τ1 L)) d (h :: p) v := r.ren fun s => moveT_ne e
theorem Rep.mvT {d : D} {τ1 : Nat} {L : Loc} {v : V} (r : Rep K w d [τ1] v) : Rep K (w.ren (moveT τ1 L)) d L v := r.ren fun s => moveT_at
/-- the object at a path of the tree at h0 is exchanged, a temporary taken up -/
theorem node_op {d0 dn d' : D} {h0 τ1 : Nat} {v0 : V} {p : List Nat} {a : Addr} {u : HO} {L : Loc} (r0 : Rep K w d0 [h0] v0) (at0 : AtV K w d0 [h0] v0 p dn (.ref a)) (hne : h0 ≠ τ1) (ta : w.G a = some (h0 :: p)) (ho : d'.own = true → dn.own = true)
    (r' : Rep K ((w.ren (moveT τ1 L)).put a u) d' (h0 :: p) (.ref a)) : Rep K ((w.ren (moveT τ1 L)).put a u) (d0.put p d') [h0] v0 := by
  refine at0.put r0 (Same.refl _) ho (fun b k hb h1 h2 => ?_) r'
  obtain ⟨t, rfl⟩ := h1
  have hb : w.G b = some (h0 :: t) := hb
  refine ⟨ren_at hb (moveT_ne hne), upd_ne fun z => ?_⟩
  subst z
  rw [ta] at hb
  injection hb with hb
  injection hb with _ hb
  exact h2 (by rw [hb]; exact List.prefix_refl _)
/-- the parts of a changed node -/
theorem parts_op {h0 τ1 : Nat} {p : List Nat} {ds : List D} {a : Addr} {vs : List V} {u : HO} {L : Loc} (hne : h0 ≠ τ1) (ta : w.G a = some (h0 :: p)) (rl : RepL K (w.ren (moveT τ1 L)) ds (h0 :: p) 0 vs) : RepL K ((w.ren (moveT τ1 L)).put a u) ds (h0 :: p) 0 vs := by
  have ta' : (w.ren (moveT τ1 L)).G a = some (h0 :: p) := ren_at ta (moveT_ne hne)
  refine RepL.of rl.length fun j d v e1 e2 => ?_
  obtain ⟨v2, e3, r⟩ := rl.get e1
  rw [e2] at e3; cases e3
  refine Rep.to (w := w.ren (moveT τ1 L)) (w' := (w.ren (moveT τ1 L)).put a u) (Same.refl _) d (put_kept ta' fun s z => ?_) r
  have := congrArg List.length z
  simp at this
/-- behind such a change: slot i has the new tree -/
theorem node_end {σ : Sl} {ρ : En} {i τ τ1 : Nat} {d0 dn d' : D} {v0 : V} {p : List Nat} {a : Addr} {u : HO} {L : Loc} (st : StE K w σ ρ) (hi : ρ[i]? = some (some d0)) (hv : σ[i]? = some (some v0)) (r0 : Rep K w d0 [i + 1] v0)
    (at0 : AtV K w d0 [i + 1] v0 p dn (.ref a)) (hτ : ρ.length < τ) (hτ1 : τ ≤ τ1) (ta : w.G a = some ((i + 1) :: p)) (hm : Mut (some u)) (ho : d'.own = true → dn.own = true)
    (r' : Rep K ((w.ren (moveT τ1 L)).put a u) d' ((i + 1) :: p) (.ref a)) :
    EndE K τ w σ ρ (ρ.set i (some (d0.put p d'))) ((w.ren (moveT τ1 L)).put a u) := by
  have hin := (List.getElem?_eq_some_iff.mp hi).1
  have r1 := node_op r0 at0 (show i + 1 ≠ τ1 by omega) ta ho r'
  have ta' : (w.ren (moveT τ1 L)).G a = some ((i + 1) :: p) := ren_at ta (moveT_ne (by omega))
  have wf : Wf ((w.ren (moveT τ1 L)).put a u) := (st.wf.ren _).put ta' hm
  have other : ∀ (h : Nat) (s : Loc) (b : Addr), w.G b = some (h :: s) → h ≠ i + 1 → h ≠ τ1 → ((w.ren (moveT τ1 L)).put a u).G b = some (h :: s) ∧ ((w.ren (moveT τ1 L)).put a u).H b = w.H b := fun h s b hb h1 h2 =>
    ⟨ren_at hb (moveT_ne h2), upd_ne fun z => by subst z; rw [ta] at hb; injection hb with hb; injection hb with hb _; exact h1 hb.symm⟩
  refine ⟨by rw [List.length_set], ⟨wf, by rw [List.length_set]; exact st.len, fun k d e => ?_⟩, ⟨Same.refl _, fun b ℓ e ⟨h, s, e2, q⟩ => ?_⟩⟩
  · by_cases hk : k = i
    · subst hk
      rw [List.getElem?_set_self hin] at e
      cases e
      exact ⟨v0, hv, r1⟩
    · rw [List.getElem?_set_ne (Ne.symm hk)] at e
      obtain ⟨v, e1, r⟩ := st.rep k d e
      have hkl := (List.getElem?_eq_some_iff.mp e).1
      exact ⟨v, e1, Rep.to (w := w) (w' := (w.ren (moveT τ1 L)).put a u) (Same.refl _) d (fun b s hb => other (k + 1) s b hb (by omega) (by omega)) r⟩
  · subst e2
    exact other h s b e (by omega) (by omega)
/-- an owned list at a path -/
theorem list_at {d0 : D} {h0 : Nat} {v0 u : V} {p : List Nat} {o : Ow} {ds : List D} (ho : o.mine = true) (r0 : Rep K w d0 [h0] v0) (at0 : AtV K w d0 [h0] v0 p (.lst o ds) u) : ∃ a us, u = .ref a ∧ w.G a = some (h0 :: p) ∧ w.H a = some (.lst us) ∧ (ds.length ≤ sizeLine ∧ Lt o ds) ∧ RepL K w ds (h0 :: p) 0 us := by
  have ra := at0.rep r0
  simp only [Rep] at ra
  obtain ⟨a, us, ea, th, hz, hl⟩ := ra
  rw [if_pos ho] at th
  obtain ⟨ta, ha⟩ := th
  exact ⟨a, us, ea, ta, ha, hz, hl⟩
theorem list_end {σ : Sl} {ρ : En} {i τ τ1 : Nat} {d0 : D} {v0 : V} {p : List Nat} {o o' : Ow} {ds ds' : List D} {a : Addr} {vs' : List V} {L : Loc} (ho : o.mine = true) (ho' : o'.mine = true) (st : StE K w σ ρ) (hi : ρ[i]? = some (some d0)) (hv : σ[i]? = some (some v0)) (r0 : Rep K w d0 [i + 1] v0)
    (at0 : AtV K w d0 [i + 1] v0 p (.lst o ds) (.ref a)) (hτ : ρ.length < τ) (hτ1 : τ ≤ τ1) (rl : RepL K (w.ren (moveT τ1 L)) ds' ((i + 1) :: p) 0 vs') (hz : ds'.length ≤ sizeLine) (hL : Lt o' ds') :
    EndE K τ w σ ρ (ρ.set i (some (d0.put p (.lst o' ds')))) ((w.ren (moveT τ1 L)).put a (.lst vs')) := by
  obtain ⟨a', us, ea, ta, ha, _, _⟩ := list_at ho r0 at0
  cases ea
  have hne : i + 1 ≠ τ1 := by have := (List.getElem?_eq_some_iff.mp hi).1; omega
  refine node_end st hi hv r0 at0 hτ hτ1 ta trivial (fun _ => ho) ?_
  simp only [Rep]
  exact ⟨a, vs', rfl, by rw [if_pos ho']; exact ⟨ren_at ta (moveT_ne hne), upd_same⟩, ⟨hz, hL⟩, parts_op hne ta rl⟩
theorem Lt.set {o : Ow} {ds : List D} (h : Lt o ds) {j : Nat} {d : D} : Lt (o.more d.own) (ds.set j d) := by
  cases q : d.own with
  | true => exact fun z => by cases o <;> cases z
  | false =>
      intro z
      have z : o.light = true := by cases o <;> exact z
      have h := h z
      rw [ownL_iff] at h ⊢
      intro e he
      rcases List.mem_or_eq_of_mem_set he with he | rfl
      · exact h e he
      · exact q
theorem Lt.app {o : Ow} {ds : List D} (h : Lt o ds) {d : D} : Lt (o.more d.own) (ds ++ [d]) := by
  cases q : d.own with
  | true => exact fun z => by cases o <;> cases z
  | false =>
      intro z
      have z : o.light = true := by cases o <;> exact z
      rw [ownL_append, h z]
      simp [ownL, q]
theorem more_mine {o : Ow} (h : o.mine = true) (b : Bool) : (o.more b).mine = true := by cases o <;> cases b <;> first | rfl | cases h
end
def onLst (ρ : En) (i : Nat) (k : Ow → List D → Prop) : Prop := match ρ[i]? with
  | some (some (.lst o ds)) => match o with
    | .ice => False
    | .flat => k .flat ds
    | .deep => k .deep ds
  | _ => False
theorem onLst_elim {ρ : En} {i : Nat} {k : Ow → List D → Prop} (h : onLst ρ i k) : ∃ o ds, ρ[i]? = some (some (.lst o ds)) ∧ o.mine = true ∧ k o ds := by
  unfold onLst at h
  split at h
  · rename_i o ds e
    cases o with
    | ice => exact h.elim
    | flat => exact ⟨_, _, e, rfl, h⟩
    | deep => exact ⟨_, _, e, rfl, h⟩
  · exact h.elim
def natAt (o : Option Nat) (Q : Nat → Prop) : Prop := match o with
  | some j => Q j
  | none => False
theorem natAt_of {o : Option Nat} {j : Nat} {Q : Nat → Prop} (h : o = some j) (q : Q j) : natAt o Q := by subst h; exact q
theorem natAt_elim {o : Option Nat} {Q : Nat → Prop} (h : natAt o Q) : ∃ j, o = some j ∧ Q j := by
  unfold natAt at h
  split at h
  · exact ⟨_, rfl, h⟩
  · exact h.elim
/-- x[k] = e -/
def rSetL (i : Nat) (rk : RO) (re : RE) : RS := fun ρ E F => re ρ E fun d ρ1 => oN i ρ1 E fun _ ρ1' => rk ρ1' E fun k ρ2 => on1 ρ2 k fun dk => onLst ρ2 i fun o ds => match dk with
  | .int n => natAt (ixN ds.length n) fun j => nf (ρ2.set i (some (.lst (o.more d.own) (ds.set j d)))) F.nx
  | _ => False
theorem ixN_lt {n : Nat} {k : Int} {j : Nat} (h : ixN n k = some j) : j < n := by
  unfold ixN at h
  split at h
  · split at h
    · cases h; omega
    · cases h
  · split at h
    · cases h; omega
    · cases h
theorem oN_elim {ρ : En} {i : Nat} {E : EE} {Q : AD → En → Prop} (h : oN i ρ E Q) : (∃ d, ρ[i]? = some (some d)) ∧ Q (.brw i) ρ := by
  unfold oN at h
  split at h
  · exact ⟨⟨_, by assumption⟩, h⟩
  · exact h.elim
section
variable {X : Cx} {W : WX} {M : List Nat} {pos pos' p2 apos : Pos}
theorem fs_setL (i : Nat) {x : Str} {k e : Expr} {rk : RO} {re : RE} (he : FE X W e re) (hk : FO X W k rk) (hN : X.N[i]? = some x := by rfl) (hv : Vis X.env.scope x := by first | exact Or.inl rfl | exact Or.inr (Or.inl rfl) | exact Or.inr (Or.inr rfl)) (hd : (x == ("__debug__" : Str)) = false := by decide)
    (hcd : (x == ("__classdict__" : Str)) = false := by decide) (ha : ∀ v, assign (.Subscript (.Name x p2) k pos') X.env v = (do
      let ov ← holding [v] (eval (.Name x p2) X.env)
      let iv ← holding [v, ov] (eval k X.env)
      standAt pos'
      holding [v, ov, iv] (setItem ov iv v)
      release [v, ov, iv] []) := by intro _; rfl) (hs : swapsWithSole [.Subscript (.Name x p2) k pos'] e pos.line X.env = pure false := by rfl) (hw : swappedStores [.Subscript (.Name x p2) k pos'] e X.env = pure none := by rfl)
    (h1 : (assignEach [.Subscript (.Name x p2) k pos'] X.env).map (·.2) = [assign (.Subscript (.Name x p2) k pos') X.env] := by rfl) : FS X W M (.Assign [.Subscript (.Name x p2) k pos'] e pos) (rSetL i rk re) := by
  obtain ⟨t, p, l⟩ := he.ex
  obtain ⟨t', p', l'⟩ := hk.ex
  refine ⟨_, ps_asg p (pg_sub (pe_var hN hv hd hcd) p' set_list ha) hs hw h1, fun w σ ρ E F D st h hf => ?_⟩
  refine l _ w σ ρ E _ _ (Nat.lt_succ_self _) st h (fun d ρ1 w1 v h1 e1 r1 => ?_) hf.sx
  obtain ⟨⟨d0, e0⟩, h1⟩ := oN_elim h1
  obtain ⟨v0, ev, _⟩ := e1.st.rep i d0 e0
  refine ⟨v0, ev, ?_⟩
  refine l' (ρ1.length + 2) w1 σ ρ1 E _ _ (by omega) e1.st h1 (fun ak ρ2 w2 vk h2 e2 r2 => ?_) (hf.sx.then e1 (by rw [e1.len]; omega))
  have e12 := e1.trans e2 (by rw [e1.len]; omega)
  obtain ⟨dk, ek, h2⟩ := on1_elim h2
  obtain ⟨o, ds, ed, ho, h2⟩ := onLst_elim h2
  obtain ⟨ℓ, rk⟩ := ad_get e12.st r2 ek
  obtain ⟨v0', ev', r0⟩ := e12.st.rep i _ ed
  rw [ev] at ev'; cases ev'
  obtain ⟨a, us, rfl, ta, ha, ⟨hz, hL⟩, rl⟩ := list_at ho r0 .here
  cases dk with
  | int n =>
    simp only [Rep] at rk
    subst rk
    obtain ⟨j, ej, h2⟩ := natAt_elim h2
    · have r1' : Rep X.K w2 d [ρ.length + 1] v := e2.ext.rep (r := []) (by rw [e1.len]; omega) r1
      refine ⟨a, us, n, j, rfl, rfl, ha, by rw [rl.length]; exact ej, ?_⟩
      have hj := ixN_lt ej
      have rr : RepL X.K (w2.ren (moveT (ρ.length + 1) ((i + 1) :: [] ++ [j]))) (ds.set j d) ((i + 1) :: []) 0 (us.set j v) := by
        have hin := (List.getElem?_eq_some_iff.mp ed).1
        rw [e12.len] at hin
        refine RepL.set (RepL.of rl.length fun q dq vq e3 e4 => ?_) ?_
        · obtain ⟨v3, e5, r3⟩ := rl.get e3
          rw [e4] at e5; cases e5
          exact r3.mv (by omega)
        · rw [Nat.zero_add]; exact r1'.mvT
      have ee := list_end (i := i) (τ := ρ.length + 1) (p := []) ho (more_mine ho d.own) e12.st ed ev r0 .here (by rw [e12.len]; omega) (Nat.le_refl _) rr (by rw [List.length_set]; exact hz) hL.set
      exact hf.nx _ _ σ (nf_of h2) ((e12.trans ee (Nat.le_refl _)).s (Nat.lt_succ_self _))
  | _ => exact h2.elim
/-- x.append(e) -/
def rApp (i : Nat) (re : RE) : RE := fun ρ E Q => onLst ρ i fun _ _ => re ρ E fun d ρ1 => onLst ρ1 i fun o ds => ds.length < sizeLine ∧ nf (ρ1.set i (some (.lst (o.more d.own) (ds ++ [d])))) (Q .non)
/-- x.extend(e), e a list whose items are frozen -/
def rExt (i : Nat) (re : RE) : RE := fun ρ E Q => onLst ρ i fun _ _ => re ρ E fun d ρ1 => onLst ρ1 i fun o ds => match d with
  | .lst o2 es => o2.light = true ∧ ds.length + es.length ≤ sizeLine ∧ nf (ρ1.set i (some (.lst o (ds ++ es)))) (Q .non)
  | _ => False
theorem tyL {K : PySem.W.Frag} {w : Wd} (wf : Wf w) {o : Ow} {ds : List D} {ℓ : Loc} {v : V} (h : Rep K w (.lst o ds) ℓ v) : tyV K "list" v w.H := by
  obtain ⟨a, us, rfl, ha, _⟩ := lst_at wf h
  exact .inl ⟨rfl, _, SqL.of ha⟩
theorem fe_app (i : Nat) {x : Str} {e : Expr} {re : RE} (he : FE X W e re) (hN : X.N[i]? = some x := by rfl) (hv : Vis X.env.scope x := by first | exact Or.inl rfl | exact Or.inr (Or.inl rfl) | exact Or.inr (Or.inr rfl)) (hd : (x == ("__debug__" : Str)) = false := by decide)
    (hcd : (x == ("__classdict__" : Str)) = false := by decide) (hbase : attributeBase (.Name x p2) "append" X.env (eval (.Name x p2) X.env) = eval (.Name x p2) X.env := by rfl)
    (hfew : ((backTo pos (starEach [e] X.env)).all (fun x => !x.1) && (backToKw pos (keywordEach [] X.env)).all (fun x => x.1.isSome)
      && decide ([e].length + ([] : List Keyword).length + (if ([] : List Keyword).isEmpty then 0 else 1) < 30)) = true := by rfl)
    (hline : (apos.endLine == pos.line) = true := by rfl) (hs : starEach [e] X.env = (false, eval e X.env) :: starEach [] X.env := by rfl) (hplain : (backTo pos (starEach [] X.env)).any (·.1) = false := by rfl) :
    FE X W (.Call (.Attribute (.Name x p2) "append" apos) [e] [] pos) (rApp i re) := by
  obtain ⟨t, p, l⟩ := he.ex
  refine ⟨_, pe_bm PySem.F.plainAttrs_list PySem.F.slot_list_append PySem.F.type_list_append mt_append (pe_var hN hv hd hcd) (pa_cons p pa_nil hs) hbase hfew hline hs hplain, fun τ w σ ρ E Q Qv hn st h hq hx => ?_⟩
  obtain ⟨o0, ds0, e0, _, h⟩ := onLst_elim h
  obtain ⟨v0, ev, r00⟩ := st.rep i _ e0
  refine ⟨v0, ev, tyL st.wf r00, ?_⟩
  refine l τ w σ ρ E _ _ hn st h (fun d ρ1 w1 v h1 e1 r1 => ?_) hx
  obtain ⟨o, ds, ed, ho, hz, q⟩ := onLst_elim h1
  obtain ⟨v0', ev', r0⟩ := e1.st.rep i _ ed
  rw [ev] at ev'; cases ev'
  obtain ⟨a, us, rfl, ta, ha, ⟨hz0, hL⟩, rl⟩ := list_at ho r0 .here
  refine ⟨a, us, v, rfl, rfl, ha, by rw [rl.length]; exact hz, ?_⟩
  have hin := (List.getElem?_eq_some_iff.mp ed).1
  rw [e1.len] at hin
  have rr : RepL X.K (w1.ren (moveT τ ((i + 1) :: [] ++ [ds.length]))) (ds ++ [d]) ((i + 1) :: []) 0 (us ++ [v]) := by
    refine RepL.app (RepL.of rl.length fun q dq vq e3 e4 => ?_) (RepL.one ?_)
    · obtain ⟨v3, e5, r3⟩ := rl.get e3
      rw [e4] at e5; cases e5
      exact r3.mv (by omega)
    · rw [Nat.zero_add]; exact r1.mvT
  have ee := list_end (i := i) (τ := τ) (p := []) ho (more_mine ho d.own) e1.st ed ev r0 .here (by rw [e1.len]; exact hn) (Nat.le_refl _) rr (by rw [List.length_append]; exact hz) hL.app
  exact hq .non _ _ .non (nf_of q) (e1.trans ee (Nat.le_refl _)) rfl
theorem fe_ext (i : Nat) {x : Str} {e : Expr} {re : RE} (he : FE X W e re) (hN : X.N[i]? = some x := by rfl) (hv : Vis X.env.scope x := by first | exact Or.inl rfl | exact Or.inr (Or.inl rfl) | exact Or.inr (Or.inr rfl)) (hd : (x == ("__debug__" : Str)) = false := by decide)
    (hcd : (x == ("__classdict__" : Str)) = false := by decide) (hbase : attributeBase (.Name x p2) "extend" X.env (eval (.Name x p2) X.env) = eval (.Name x p2) X.env := by rfl)
    (hfew : ((backTo pos (starEach [e] X.env)).all (fun x => !x.1) && (backToKw pos (keywordEach [] X.env)).all (fun x => x.1.isSome)
      && decide ([e].length + ([] : List Keyword).length + (if ([] : List Keyword).isEmpty then 0 else 1) < 30)) = true := by rfl)
    (hline : (apos.endLine == pos.line) = true := by rfl) (hs : starEach [e] X.env = (false, eval e X.env) :: starEach [] X.env := by rfl) (hplain : (backTo pos (starEach [] X.env)).any (·.1) = false := by rfl) :
    FE X W (.Call (.Attribute (.Name x p2) "extend" apos) [e] [] pos) (rExt i re) := by
  obtain ⟨t, p, l⟩ := he.ex
  refine ⟨_, pe_bm PySem.F.plainAttrs_list PySem.F.slot_list_extend PySem.F.type_list_extend mt_extend (pe_var hN hv hd hcd) (pa_cons p pa_nil hs) hbase hfew hline hs hplain, fun τ w σ ρ E Q Qv hn st h hq hx => ?_⟩
  obtain ⟨o0, ds0, e0, _, h⟩ := onLst_elim h
  obtain ⟨v0, ev, r00⟩ := st.rep i _ e0
  refine ⟨v0, ev, tyL st.wf r00, ?_⟩
  refine l τ w σ ρ E _ _ hn st h (fun d ρ1 w1 v h1 e1 r1 => ?_) hx
  obtain ⟨o, ds, ed, ho, h1⟩ := onLst_elim h1
  cases d with
  | lst o2 es =>
    obtain ⟨ho2, hz, q⟩ := h1
    obtain ⟨v0', ev', r0⟩ := e1.st.rep i _ ed
    rw [ev] at ev'; cases ev'
    obtain ⟨a, us, rfl, ta, ha, ⟨hz0, hL⟩, rl⟩ := list_at ho r0 .here
    have hL2 : Lt o2 es := by
      simp only [Rep] at r1
      obtain ⟨_, _, _, _, hz2, _⟩ := r1
      exact hz2.2
    obtain ⟨b, ws, rfl, hb, rb⟩ := lst_at e1.st.wf r1
    refine ⟨a, b, us, ws, rfl, rfl, ha, hb, by rw [rl.length, rb.length]; exact hz, ?_⟩
    have hin := (List.getElem?_eq_some_iff.mp ed).1
    rw [e1.len] at hin
    have rr : RepL X.K (w1.ren (moveT τ ((i + 1) :: [] ++ [ds.length]))) (ds ++ es) ((i + 1) :: []) 0 (us ++ ws) := by
      refine RepL.app (RepL.of rl.length fun q dq vq e3 e4 => ?_) (RepL.free (w := w1) (w' := w1.ren (moveT τ ((i + 1) :: [] ++ [ds.length]))) (Same.refl _) es (hL2 ho2) rb)
      obtain ⟨v3, e5, r3⟩ := rl.get e3
      rw [e4] at e5; cases e5
      exact r3.mv (by omega)
    have ee := list_end (i := i) (τ := τ) (p := []) ho ho e1.st ed ev r0 .here (by rw [e1.len]; exact hn) (Nat.le_refl _) rr (by rw [List.length_append]; exact hz) (fun z => by rw [ownL_append, hL z, hL2 ho2]; rfl)
    exact hq .non _ _ .non (nf_of q) (e1.trans ee (Nat.le_refl _)) rfl
  | _ => exact h1.elim
end
end FL
namespace FL
open PySem PySem.Spec PyProof.Rows L2
/-- target = value, the value frozen -/
def rAsg (rg : RG) (re : RE) : RS := fun ρ E F => re ρ E fun d ρ' => rg d.frz ρ' F.nx
theorem fs_asg {X : Cx} {W : WX} {M : List Nat} {pos : Pos} (A : List Nat) {tg e : Expr} {rg : RG} {re : RE} (he : FE X W e re) (hg : FG X A tg rg) (hA : (M.all fun i => !A.contains i) = true := by rfl)
    (hs : swapsWithSole [tg] e pos.line X.env = pure false := by rfl) (hw : swappedStores [tg] e X.env = pure none := by rfl) (h1 : (assignEach [tg] X.env).map (·.2) = [assign tg X.env] := by rfl) : FS X W M (.Assign [tg] e pos) (rAsg rg re) := by
  obtain ⟨t, p, k⟩ := he.ex
  obtain ⟨g, pg, kg⟩ := hg.ex
  refine ⟨_, ps_asg p pg hs hw h1, fun w σ ρ E F D st h hf => ?_⟩
  refine k _ w σ ρ E _ _ (Nat.lt_succ_self _) st h (fun d ρ1 w1 v h1 e1 r1 => ?_) hf.sx
  obtain ⟨w2, e0, e2, r2⟩ := EndE.iceT (by rw [e1.len]; omega) e1.st r1
  have e12 := (e1.trans e2 (Nat.le_refl _)).s (M := M) (Nat.lt_succ_self _)
  rw [← e0]
  exact kg w2 σ ρ1 d.frz v _ _ (frz_own d) r2 e2.st h1 fun ρ' w' σ' q e => hf.nx ρ' w' σ' q (e12.trans (e.s hA))
/-- a def of the text, callable by its name -/
structure Df (K : PySem.W.Frag) (mg : Str → Option Value) (x : Str) (st : Stmt) (ps : List Str) (f : Addr) (fd : FuncData) : Prop where
  fn : Fun K x x st f fd
  mg : mg x = some (.ref f)
  b : Binds K fd ps []
/-- a law's end: what its def is given -/
theorem law_end {K : PySem.W.Frag} {H : Hp} {a : Addr} {ns : List Int} {r : FSpec} (hl : ns.length ≤ 63) (hs : SqL K H a (ns.map V.int)) (h : r [.ro false (ns.map D.int)] (fun _ _ _ => False) (fun d _ => d = .bl true)) :
    FnD K 1 [] r [V.ref a] H (fun v _ => v = V.bl true) (fun _ _ _ => False) := by
  refine ⟨rfl, ⟨fun _ => none, H, H⟩, [.ro false (ns.map D.int)], _, _, rfl, ⟨Same.refl _, fun _ _ h => nomatch h⟩, rfl, fun j d v e1 e2 => ?_, h, fun d os w' v q _ r => ?_, fun _ _ _ _ _ q _ _ => q⟩
  · cases j with
    | zero =>
      cases e1; cases e2
      simp only [Rep]
      refine ⟨a, _, rfl, hs, ⟨by rw [List.length_map, sizeLine_eq]; omega, ownL_iff.mpr fun d hd => by obtain ⟨n, _, rfl⟩ := List.mem_map.mp hd; rfl⟩, RepL.of (by rw [List.length_map, List.length_map]) fun i d v e1 e2 => ?_⟩
      rw [List.getElem?_map] at e1 e2
      cases q : ns[i]? with
      | none => rw [q] at e1; cases e1
      | some n => rw [q] at e1 e2; cases e1; cases e2; rfl
    | succ j => simp at e1
  · subst q
    exact r
theorem cx_none {P : Program} {w : World} {H : Hp} {s s' : Shared} {e : Value} (h : L2.CX P w [] H s (fun _ _ _ => False) e s') : False := by
  obtain ⟨_, _, _, _, _, _, _, _, _, _, _, _, z⟩ := h
  exact z
end FL
namespace FL
open PySem PySem.Spec PyProof.Rows L2
def tyOf : D → Option String
  | .non => some "NoneType"
  | .bl _ => some "bool"
  | .int _ => some "int"
  | .str _ => some "str"
  | .tup _ _ => some "tuple"
  | .lst _ _ => some "list"
  | .ro true _ => some "tuple"
  | .ro false _ => some "list"
  | .dct _ false _ _ => some "dict"
  | _ => none
def subTy (a b : String) : Bool := a == b || (a == "bool" && b == "int")
def tyKnown : List String := ["int", "bool", "str", "tuple", "list", "dict"]
def isTy (d : D) (n : String) : Option Bool := match tyOf d with
  | some a => if tyKnown.contains n then some (subTy a n) else none
  | none => none
def dIsi : DC
  | [d, .ty n], Q => match isTy d n with
    | some b => Q (.bl b)
    | none => False
  | _, _ => False
end FL
namespace FL
open PySem PySem.Spec PyProof.Rows L2
theorem int_rmul_tup1 (a : Int) (t : Tok) (l : Addr) (its : Array Value) (n : Nat) (dd : Option Addr) (sl : Array (Option Value)) : Meets (Builtin.«int.__rmul__» ⟨[.int a t, .ref l], []⟩) (fun _ R s =>
    s.heap.get? l = some { cls := .type "tuple", dict := dd, data := .seq its n, slots := sl } ∧ R (.ok (.ret Value.notImplemented)) s) :=
  .of_wp fun prog w A R s h => by
    obtain ⟨hp, g, d, tk, os⟩ := s
    obtain ⟨hl, h⟩ := h
    wp_walk using wpAny_loadPart' hl
    exact ⟨_, rfl, h⟩
theorem tup_mul_one (l : Addr) (its : Array Value) (n : Nat) (dd : Option Addr) (sl : Array (Option Value)) (u : Tok) : Meets (Builtin.«tuple.__mul__» ⟨[.ref l, .int 1 u], []⟩) (fun _ R s =>
    s.heap.get? l = some { cls := .type "tuple", dict := dd, data := .seq its n, slots := sl } ∧ R (.ok (.ret (Value.ref l))) s) :=
  .of_wp fun prog w A R s h => by
    obtain ⟨hp, g, d, tk, os⟩ := s
    obtain ⟨hl, h⟩ := h
    have f1 := AutoSeq1.idx_int
    have c1 : (its.isEmpty || (1 : Int) == 1) = true := by simp
    wp_walk using wpAny_loadPart' hl
    exact ⟨_, rfl, h⟩
theorem tup_mul_none (l : Addr) (its : Array Value) (n : Nat) (dd : Option Addr) (sl : Array (Option Value)) (x : Int) (u : Tok) (h0 : x ≤ 0) (h1 : -(2 ^ 63) ≤ x) (hi : its.isEmpty = false) : Meets (Builtin.«tuple.__mul__» ⟨[.ref l, .int x u], []⟩) (fun _ R s =>
    s.heap.get? l = some { cls := .type "tuple", dict := dd, data := .seq its n, slots := sl } ∧
      R (.ok (.ret (Value.ref s.heap.objs.size))) { s with heap := s.heap.push { cls := Value.type "tuple", data := Data.seq #[] }, toks := s.toks }) :=
  .of_wp fun prog w A R s h => by
    obtain ⟨hp, g, d, tk, os⟩ := s
    obtain ⟨hl, h⟩ := h
    have f1 := AutoSeq1.idx_int
    have c0 : (decide (x < -(2 ^ 63)) || decide (x ≥ 2 ^ 63)) = false := by rw [decide_eq_false (by omega), decide_eq_false (by omega)]; rfl
    have c1 : (its.isEmpty || x == 1) = false := by rw [hi, Bool.false_or]; exact beq_eq_false_iff_ne.mpr (by omega)
    have c2 : (decide (x ≤ 0) || its.isEmpty) = true := by rw [decide_eq_true h0]; rfl
    wp_walk using wpAny_loadPart' hl
    refine wpAny_ite_false (decide_eq_false (by rw [c0]; exact Bool.false_ne_true)) ?_
    wp_walk using wpAny_loadPart' hl
    refine wpAny_ite_false (decide_eq_false (by rw [c1]; exact Bool.false_ne_true)) ?_
    wp_walk using wpAny_loadPart' hl
    exact ⟨_, rfl, h⟩
def rRep1 (K : PySem.W.Frag) : R2 := fun x y H Q => ∃ l k xs, x = .ref l ∧ y = .int k ∧ SqT K H l xs ∧ xs ≠ [] ∧ -(2 ^ 63) ≤ k ∧ k ≤ 1 ∧ (k = 1 → Q (.ref l) H) ∧ (k ≤ 0 → ∀ p, H p = none → Q (.ref p) (upd H p (.tup [])))
section
variable {X : Cx}
theorem op_rep1 : OpR X (binaryOp .Mult) (rRep1 X.K) := by
  intro pins s σ H x y v u Q I rx ry hyp
  obtain ⟨l, k, xs, rfl, rfl, hT, hne, h1, h2, q1, q0⟩ := hyp
  cases rx
  obtain ⟨t, rfl⟩ := ry
  obtain ⟨its, r, ⟨⟨cls, dd, data, sl⟩, ho, hc, n, hd⟩, hs⟩ := I.tuple hT
  simp only at hc hd
  subst hc hd
  have hi : its.toArray.isEmpty = false := by
    cases its with
    | nil => exact absurd (List.eq_nil_of_length_eq_zero r.length) hne
    | cons a b => rfl
  have road : ∀ {Q' : Value → Shared → Prop}, wpAny (model X.prog X.w) X.A (call (.builtin "tuple.__mul__") [.ref l, .int k t]) Q' X.xe s → wpAny (model X.prog X.w) X.A (binaryOp .Mult (.ref l) (.int k t)) Q' X.xe s := fun g =>
    wpAny_binaryOp_repeat_ref (T := "tuple") (U := "int") (by decide) ⟨_, ho, rfl⟩ (fun s' => typeIs_int s' k t) noFill_tuple_mul F.fills_int_mul F.slot_int_rmul repeat_tuple F.slot_int_index.lookup
      (call_meets F.slot_int_rmul (typeIs_int s k t) F.entry_int_rmul (F.args_int_rmul_2 _ _) (int_rmul_tup1 k t l its.toArray n dd sl) ⟨ho, rfl, ⟨_, ho, rfl⟩, g⟩)
  refine road ?_
  by_cases hk : k = 1
  · subst hk
    exact call_meets F.slot_tuple_mul ⟨_, ho, rfl⟩ F.entry_tuple_mul (F.args_tuple_mul_2 _ _) (tup_mul_one l its.toArray n dd sl t) ⟨ho, ⟨.ref l, H, I, rfl, q1 rfl⟩⟩
  · have hk : k ≤ 0 := by omega
    refine call_meets F.slot_tuple_mul ⟨_, ho, rfl⟩ F.entry_tuple_mul (F.args_tuple_mul_2 _ _) (tup_mul_none l its.toArray n dd sl k t hk h1 hi) ⟨ho, ?_⟩
    exact ⟨.ref s.heap.objs.size, _, I.laid (t' := s.toks) (o := .tup []) (fun b ob e => Heap.get?_push_of_some _ e) (Nat.le_refl _) ⟨Nat.zero_le _, [], .nil, IsTup.new _ _⟩, rfl, q0 hk _ (I.hok.fresh (Nat.le_refl _))⟩
theorem rep_own {xs : List D} (h : ownL xs = false) (n : Nat) : ownL (List.replicate n xs).flatten = false := by
  rw [ownL_iff]
  intro d hd
  obtain ⟨l, hl, hd⟩ := List.mem_flatten.mp hd
  rw [(List.mem_replicate.mp hl).2] at hd
  exact ownL_iff.mp h d hd
theorem rep_reps {K : PySem.W.Frag} {w : Wd} {xs : List D} {vs : List V} {ℓ ℓ' : Loc} {j : Nat} (h : ownL xs = false) (r : RepL K w xs ℓ' j vs) : ∀ n : Nat, RepL K w (List.replicate n xs).flatten ℓ 0 (List.replicate n vs).flatten
  | 0 => by simp [RepL]
  | n + 1 => by
    rw [List.replicate_succ, List.replicate_succ, List.flatten_cons, List.flatten_cons]
    exact (RepL.free (Same.refl _) xs h r).app (RepL.free (Same.refl _) _ (rep_own h n) (rep_reps (ℓ := ℓ) h r n))
theorem fop_repT : FOp X (binaryOp .Mult) (fun a b Q => ∃ xs k, a = .tup false xs ∧ b = .int k ∧ (xs ≠ [] ∧ xs.length ≤ 1000 ∧ -(2 ^ 63) ≤ k ∧ k ≤ 1000) ∧ Q (.tup false (List.replicate k.toNat xs).flatten)) := by
  refine ⟨_, op_repT.or op_rep1, fun τ w σ ρ x y dx dy ℓ ℓ' Q Qv hn st rx ry hq hv => ?_⟩
  obtain ⟨xs, k, rfl, rfl, ⟨hne, hl, h1, h2⟩, q⟩ := hq
  have hx := (tup_sz rx).2 rfl
  have rx0 := rx
  obtain ⟨a, vs, rfl, e1, e2⟩ := tup_at st.wf rx
  simp only [Rep] at ry
  subst ry
  have hv0 : vs ≠ [] := fun z => by subst z; have := e2.length; exact hne (List.eq_nil_of_length_eq_zero this.symm)
  by_cases hk : 2 ≤ k
  · refine .inl ⟨a, k, vs, rfl, rfl, SqT.of e1, hv0, hk, h2, by rw [e2.length]; exact hl, fun p n => ?_⟩
    obtain ⟨e, r⟩ := EndE.tup (τ := τ) false st n (rep_reps (ℓ := [τ]) hx e2 k.toNat) (by rw [PyProof.Rows.lm_len_rep_flat, sizeLine_eq]; have := Nat.mul_le_mul (show k.toNat ≤ 1000 by omega) hl; omega) (fun _ => rep_own hx _)
    exact hv _ _ _ q e r
  · refine .inr ⟨a, k, vs, rfl, rfl, SqT.of e1, hv0, h1, by omega, fun z => ?_, fun z p n => ?_⟩
    · subst z
      refine hv _ w _ q (.refl st) ?_
      have : (List.replicate (Int.toNat 1) xs).flatten = xs := by simp
      rw [this]
      exact rx0.free (Same.refl _) _ rfl
    · have : k.toNat = 0 := by omega
      rw [this] at q
      obtain ⟨e, r⟩ := EndE.tup (τ := τ) (ds := []) (vs := []) (ℓ := [τ]) false st n (by simp [RepL]) (Nat.zero_le _) (fun _ => rfl)
      exact hv _ _ _ q e r
end
/-- .. * .. of all kinds -/
def dMulX : DO
  | .tup false xs, .int k, Q => (xs ≠ [] ∧ xs.length ≤ 1000 ∧ -(2 ^ 63) ≤ k ∧ k ≤ 1000) ∧ Q (.tup false (List.replicate k.toNat xs).flatten)
  | .int a, .int b, Q => MulOk a b ∧ Q (.int (a * b))
  | .lst o a, .int k, Q => dMul (.lst o a) (.int k) Q
  | _, _, _ => False
theorem fop_mulX {X : Cx} : FOp X (binaryOp .Mult) dMulX := (fop_mul.or fop_repT).imp fun a b Q h => by
  unfold dMulX at h
  split at h
  · exact .inr ⟨_, _, rfl, rfl, h⟩
  · exact .inl h
  · exact .inl h
  · exact h.elim
end FL
namespace FL
open PySem PySem.Spec PyProof.Rows L2
/-- a list of frozen parts -/
def lstOf : D → Option (List D)
  | .lst o ds => match o with
    | .deep => none
    | _ => some ds
  | .ro t ds => match t with
    | false => some ds
    | true => none
  | _ => none
/-- a tuple of frozen parts -/
def tupOf : D → Option (List D)
  | .tup o ds => match o with
    | false => some ds
    | true => none
  | .ro t ds => match t with
    | true => some ds
    | false => none
  | _ => none
section
variable {K : PySem.W.Frag} {w : Wd}
theorem lst_seq (wf : Wf w) {d : D} {ds : List D} {ℓ : Loc} {v : V} (e : lstOf d = some ds) (r : Rep K w d ℓ v) : ∃ a vs, v = .ref a ∧ SqL K w.H a vs ∧ ds.length ≤ sizeLine ∧ ownL ds = false ∧ ∀ ℓ j, RepL K w ds ℓ j vs := by
  cases d with
  | lst o xs =>
    have hz := lst_sz r
    obtain ⟨a, vs, rfl, h1, h2⟩ := lst_at wf r
    have key : o.light = true → xs = ds → ∃ a' vs, V.ref a = .ref a' ∧ SqL K w.H a' vs ∧ ds.length ≤ sizeLine ∧ ownL ds = false ∧ ∀ ℓ j, RepL K w ds ℓ j vs := fun ho z => by
      subst z
      exact ⟨a, vs, rfl, SqL.of h1, hz.1, hz.2 ho, fun ℓ j => h2.free (Same.refl _) _ (hz.2 ho)⟩
    cases o with
    | deep => cases e
    | flat => exact key rfl (Option.some.inj e)
    | ice => exact key rfl (Option.some.inj e)
  | ro t xs =>
    cases t with
    | true => cases e
    | false =>
      cases e
      simp only [Rep] at r
      obtain ⟨a, vs, rfl, h1, hz, h2⟩ := r
      exact ⟨a, vs, rfl, wf.sh.seq h1, hz.1, hz.2, fun ℓ j => h2.free (Same.refl _) _ hz.2⟩
  | _ => cases e
theorem tup_seq (wf : Wf w) {d : D} {ds : List D} {ℓ : Loc} {v : V} (e : tupOf d = some ds) (r : Rep K w d ℓ v) : ∃ a vs, v = .ref a ∧ SqT K w.H a vs ∧ ds.length ≤ sizeLine ∧ ownL ds = false ∧ ∀ ℓ j, RepL K w ds ℓ j vs := by
  cases d with
  | tup o xs =>
    cases o with
    | true => cases e
    | false =>
      cases e
      have hz := tup_sz r
      obtain ⟨a, vs, rfl, h1, h2⟩ := tup_at wf r
      exact ⟨a, vs, rfl, SqT.of h1, hz.1, hz.2 rfl, fun ℓ j => h2.free (Same.refl _) _ (hz.2 rfl)⟩
  | ro t xs =>
    cases t with
    | false => cases e
    | true =>
      cases e
      simp only [Rep] at r
      obtain ⟨a, vs, rfl, h1, hz, h2⟩ := r
      exact ⟨a, vs, rfl, same_rdT wf.sh h1, hz.1, hz.2, fun ℓ j => h2.free (Same.refl _) _ hz.2⟩
  | _ => cases e
end
def dL1 (p : List D → (D → Prop) → Prop) : DC
  | [d], Q => match lstOf d with
    | some ds => p ds Q
    | none => False
  | _, _ => False
def dAll : DC := dL1 fun ds Q => ∃ bs : List Bool, ds = bs.map D.bl ∧ Q (.bl (bs.all id))
def rIce (i : Nat) : RE := fun ρ _ Q => match ρ[i]? with
  | some (some d) => nf (ρ.set i (some d.frz)) (Q d.frz)
  | _ => False
theorem ice_slot {K : PySem.W.Frag} {w : Wd} {σ : Sl} {ρ : En} {d : D} {v : V} {τ i : Nat} (hn : ρ.length < τ) (st : StE K w σ ρ) (e : ρ[i]? = some (some d)) (hv : σ[i]? = some (some v)) :
    ∃ w', w'.H = w.H ∧ EndE K τ w σ ρ (ρ.set i (some d.frz)) w' ∧ ∀ ℓ, Rep K w' d.frz ℓ v := by
  have hi := (List.getElem?_eq_some_iff.mp e).1
  obtain ⟨v', e1, r⟩ := st.rep i d e
  rw [hv] at e1; cases e1
  have rf : ∀ ℓ, Rep K (w.ice fun ℓ => match ℓ with | h :: _ => h == i + 1 | [] => false) d.frz ℓ v := fun ℓ => Rep.frz (w := w) (ice_same st.wf) d (ice_frz fun s => by show (i + 1 == i + 1) = true; simp) r
  refine ⟨w.ice fun ℓ => match ℓ with | h :: _ => h == i + 1 | [] => false, rfl, ⟨by rw [List.length_set], ⟨st.wf.ice, by rw [List.length_set]; exact st.len, fun j d' e' => ?_⟩, ⟨ice_same st.wf, fun a ℓ e3 ⟨h, s, e2, k⟩ => ?_⟩⟩, rf⟩
  · by_cases hj : j = i
    · subst hj
      rw [List.getElem?_set_self hi] at e'
      cases e'
      exact ⟨v, hv, rf _⟩
    · rw [List.getElem?_set_ne (Ne.symm hj)] at e'
      obtain ⟨u, e4, r2⟩ := st.rep j d' e'
      exact ⟨u, e4, Rep.to (w := w) (ice_same st.wf) d' (ice_kept fun s => by show (j + 1 == i + 1) = false; simp; omega) r2⟩
  · subst e2
    have := ice_kept (w := w) (ℓ := h :: s) (P := fun ℓ => match ℓ with | h :: _ => h == i + 1 | [] => false) (fun t => by
      show (h == i + 1) = false
      simp; omega) a [] (by simpa using e3)
    simpa using this
theorem fe_ice {X : Cx} {W : WX} {i : Nat} {x : Str} {pos : Pos} (hN : X.N[i]? = some x := by rfl) (hv : Vis X.env.scope x := by first | exact Or.inl rfl | exact Or.inr (Or.inl rfl) | exact Or.inr (Or.inr rfl)) (hd : (x == ("__debug__" : Str)) = false := by decide)
    (hcd : (x == ("__classdict__" : Str)) = false := by decide) : FE X W (.Name x pos) (rIce i) := by
  refine ⟨_, pe_var hN hv hd hcd, fun τ w σ ρ E Q Qv hn st hr hq hx => ?_⟩
  unfold rIce at hr
  split at hr
  · rename_i d e
    obtain ⟨v, e1, r1⟩ := st.rep i d e
    obtain ⟨w', e0, e2, r2⟩ := ice_slot hn st e e1
    refine ⟨v, e1, ?_⟩
    rw [← e0]
    exact hq _ _ w' v (nf_of hr) e2 (r2 _)
  · exact hr.elim
def cutL {α : Type} (xs : List α) (lo hi : Option Int) : List α := (xs.drop (HT.sIx xs.length 0 lo)).take (HT.sIx xs.length xs.length hi - HT.sIx xs.length 0 lo)
abbrev RP := En → EE → (Option Int → En → Prop) → Prop
def rP0 : RP := fun ρ _ Q => Q none ρ
def rP1 (re : RE) : RP := fun ρ E Q => re ρ E fun d ρ' => match d with
  | .int i => Q (some i) ρ'
  | _ => False
def SP (K : PySem.W.Frag) (W : WX) (t : TO) (r : RP) : Prop :=
  ∀ (τ : Nat) (w : Wd) (σ : Sl) (ρ : En) (E : EE) (Q : Option Int → En → Prop) (Qv : Option Int → Hp → Prop), ρ.length < τ → StE K w σ ρ → r ρ E Q →
    (∀ o ρ' w', Q o ρ' → EndE K τ w σ ρ ρ' w' → Qv o w'.H) → SX K W τ w σ ρ E → t σ w.H Qv
structure FP (X : Cx) (W : WX) (e : Option Expr) (r : RP) : Prop where
  ex : ∃ t, PO X e t ∧ SP X.K W t r
/-- a tuple of d's kind -/
def reT : D → List D → D
  | .ro _ _, es => .ro true es
  | _, es => .tup false es
def dSl (d : D) (lo hi : Option Int) (Q : D → Prop) : Prop := match lstOf d with
  | some ds => Q (.lst .flat (cutL ds lo hi))
  | none => match tupOf d with
    | some ds => Q (reT d (cutL ds lo hi))
    | none => match d with
      | .str z => z.length ≤ sizeLine ∧ Q (.str (cutS z lo hi))
      | _ => False
def rSl (ra : RO) (rl rh : RP) : RE := fun ρ E Q => ra ρ E fun x ρ1 => rl ρ1 E fun lo ρ2 => rh ρ2 E fun hi ρ3 => on1 ρ3 x fun dx => dSl dx lo hi fun d => Q d ρ3
section
variable {K : PySem.W.Frag} {w : Wd}
theorem RepL.drop {ds : List D} {ℓ : Loc} {j : Nat} {vs : List V} (h : RepL K w ds ℓ j vs) (ho : ownL ds = false) (n : Nat) {ℓ' : Loc} {j' : Nat} : RepL K w (ds.drop n) ℓ' j' (vs.drop n) := by
  refine RepL.of (by rw [List.length_drop, List.length_drop, h.length]) fun i d v e1 e2 => ?_
  rw [List.getElem?_drop] at e1 e2
  obtain ⟨v', e3, r⟩ := h.get e1
  rw [e2] at e3; cases e3
  exact r.free (Same.refl _) d (ownL_iff.mp ho d (List.mem_of_getElem? e1))
theorem RepL.take {ds : List D} {ℓ : Loc} {j : Nat} {vs : List V} (h : RepL K w ds ℓ j vs) (n : Nat) : RepL K w (ds.take n) ℓ j (vs.take n) := by
  refine RepL.of (by rw [List.length_take, List.length_take, h.length]) fun i d v e1 e2 => ?_
  rw [List.getElem?_take] at e1 e2
  split at e1
  · obtain ⟨v', e3, r⟩ := h.get e1
    rw [if_pos (by assumption), e3] at e2; cases e2
    exact r
  · cases e1
theorem cutL_mem {ds : List D} {lo hi : Option Int} {d : D} (h : d ∈ cutL ds lo hi) : d ∈ ds := List.mem_of_mem_drop (List.mem_of_mem_take h)
theorem cutL_own {ds : List D} {lo hi : Option Int} (h : ownL ds = false) : ownL (cutL ds lo hi) = false := ownL_iff.mpr fun d hd => ownL_iff.mp h d (cutL_mem hd)
theorem cutL_len {α : Type} (ds : List α) (lo hi : Option Int) : (cutL ds lo hi).length ≤ ds.length := by unfold cutL; rw [List.length_take, List.length_drop]; omega
theorem RepL.cut {ds : List D} {ℓ : Loc} {j : Nat} {vs : List V} (h : RepL K w ds ℓ j vs) (ho : ownL ds = false) {lo hi : Option Int} {ℓ' : Loc} {j' : Nat} : RepL K w (cutL ds lo hi) ℓ' j' (cutV vs lo hi) := by
  unfold cutL cutV
  rw [h.length]
  exact (h.drop ho _).take _
end
section
variable {X : Cx} {W : WX} {e : Expr}
theorem fp_none : FP X W none rP0 := ⟨_, po_none, fun τ w σ ρ E Q Qv hn st h hq hx => hq none ρ w h (.refl st)⟩
theorem fp_some {re : RE} (h : FE X W e re) : FP X W (some e) (rP1 re) := by
  obtain ⟨t, p, k⟩ := h.ex
  refine ⟨_, po_some p, fun τ w σ ρ E Q Qv hn st h hq hx => k τ w σ ρ E _ _ hn st h (fun d ρ1 w1 v h1 e1 r1 => ?_) hx⟩
  split at h1
  · rename_i i
    simp only [Rep] at r1
    exact ⟨i, r1, hq _ ρ1 w1 h1 e1⟩
  · exact h1.elim
theorem cutL_all {α : Type} (xs : List α) {lo hi : Option Int} (h : HT.sIx xs.length 0 lo = 0 ∧ HT.sIx xs.length xs.length hi = xs.length) : cutL xs lo hi = xs := by
  unfold cutL
  rw [h.1, h.2, List.drop_zero, Nat.sub_zero, List.take_length]
theorem fe_sl {a : Expr} {lo hi : Option Expr} {ra : RO} {rl rh : RP} {p2 pos : Pos} (ha : FO X W a ra) (hl : FP X W lo rl) (hh : FP X W hi rh) : FE X W (.Subscript a (.Slice lo hi none p2) pos) (rSl ra rl rh) := by
  obtain ⟨ta, pa, ka⟩ := ha.ex
  obtain ⟨tl, pl, kl⟩ := hl.ex
  obtain ⟨th, ph, kh⟩ := hh.ex
  refine ⟨_, pe_slice ((sl_list.or sl_tupA).or sl_str) pa pl ph, fun τ w σ ρ E Q Qv hn st h hq hx => ?_⟩
  refine ka τ w σ ρ E _ _ hn st h (fun x ρ1 w1 v h1 e1 r1 => ?_) hx
  refine kl (τ + 1) w1 σ ρ1 E _ _ (by rw [e1.len]; omega) e1.st h1 (fun o ρ2 w2 h2 e2 => ?_) (hx.then e1 (Nat.le_succ _))
  have e12 := e1.trans e2 (Nat.le_succ _)
  refine kh (τ + 1) w2 σ ρ2 E _ _ (by rw [e12.len]; omega) e2.st h2 (fun o' ρ3 w3 h3 e3 => ?_) (hx.then e12 (Nat.le_succ _))
  have e13 := e12.trans e3 (Nat.le_succ _)
  have r3 : AdAt X.K w3 σ x τ v := (r1.later (by rw [e1.len]; exact hn) e2).later (by rw [e12.len]; exact hn) e3
  obtain ⟨dx, ex, q⟩ := on1_elim h3
  obtain ⟨ℓ, r⟩ := ad_get e3.st r3 ex
  have hn3 : ρ3.length < τ := by rw [e13.len]; exact hn
  unfold dSl at q
  cases el : lstOf dx with
  | some ds =>
    simp only [el] at q
    obtain ⟨b, vs, rfl, h4, hz, ho, h5⟩ := lst_seq e3.st.wf el r
    refine .inl (.inl ⟨b, vs, rfl, h4, fun p n => ?_⟩)
    obtain ⟨e4, r4⟩ := EndE.own (τ := τ) .flat e3.st n ((h5 [] 0).cut ho (ℓ' := [τ]) (j' := 0)) (Nat.le_trans (cutL_len _ _ _) hz) (fun _ => cutL_own ho) rfl
    exact hq _ ρ3 _ _ q (e13.trans e4 (Nat.le_refl _)) r4
  | none =>
    simp only [el] at q
    cases et : tupOf dx with
    | some ds =>
      simp only [et] at q
      have hf : dx.own = false := by
        cases dx with
        | tup o xs => cases o <;> first | rfl | cases et
        | _ => first | rfl | cases et
      obtain ⟨b, vs, rfl, h4, hz, ho, h5⟩ := tup_seq e3.st.wf et r
      refine .inl (.inr ⟨b, vs, rfl, h4, fun hw => ?_, fun _ p n => ?_⟩)
      · have hlen := (h5 [] 0).length
        rw [hlen] at hw
        rw [cutL_all ds hw] at q
        refine hq _ ρ3 w3 _ q e13 ?_
        cases dx with
        | tup o xs => cases o with
          | false => cases et; exact r.free (Same.refl _) _ rfl
          | true => cases et
        | ro t xs => cases t with
          | true => cases et; exact r.free (Same.refl _) _ rfl
          | false => cases et
        | _ => cases et
      · obtain ⟨e4, r4⟩ := EndE.tup (τ := τ) (ℓ := [τ]) false e3.st n ((h5 [] 0).cut ho (j' := 0)) (Nat.le_trans (cutL_len _ _ _) hz) (fun _ => cutL_own ho)
        refine hq _ ρ3 _ _ q (e13.trans e4 (Nat.le_refl _)) ?_
        cases dx with
        | ro t xs =>
          simp only [Rep] at r4
          obtain ⟨a', us, ea, h6, h7, h8⟩ := r4
          simp only [reT, Rep]
          exact ⟨a', us, ea, SqT.of h6, ⟨h7.1, cutL_own ho⟩, h8⟩
        | _ => exact r4
    | none =>
      simp only [et] at q
      split at q
      · simp only [Rep] at r
        subst r
        exact .inr ⟨_, rfl, q.1, hq _ ρ3 w3 _ q.2 e13 rfl⟩
      · exact q.elim
end
section
variable {X : Cx} {W : WX} {M : List Nat}
theorem fs_setLc (i : Nat) (vs : List Nat) {y : Str} {elt tg iter : Expr} {ifs : List Expr} {scope : Scope} {own : List (Str × Nat)} {py pos spos : Pos} {ri : RI} {rg : RG} {rt : RT} {re : RE} (hN : X.N.Nodup) (hi : FI X W tg iter ri) (ok : BlkOk X.N X.env.scope scope own)
    (hg : ∀ c : BlkC, FG (Cx.blkC X scope c) vs tg rg) (ht : ∀ c : BlkC, FTs (Cx.blkC X scope c) W0 ifs rt) (he : ∀ c : BlkC, FE (Cx.blkC X scope c) W0 elt re) (hy : X.N[i]? = some y := by rfl) (hyl : X.env.scope.names.lookup y = some .local := by rfl) (hM : M.contains i = false := by rfl)
    (hsw : swapsWith (.ListComp elt [⟨tg, iter, ifs, 0⟩] scope pos) (some (.Name y py)) spos.line X.env = pure true := by rfl) (hv : own.map (·.2) = vs := by rfl) (hc : X.calm = true := by rfl) (hs : ∀ x, foldedSetIterable iter X.env x = pure x := by intro _; rfl) :
    FS X W M (.Assign [.Name y py] (.ListComp elt [⟨tg, iter, ifs, 0⟩] scope pos) spos) (rSet i (rComp ri rg rt re vs)) := by
  obtain ⟨wi, g, tt, te, p, pg, pt, pe, k⟩ := lc_ex vs hi hg ht he
  exact ⟨_, by have := ps_setLc (i := i) hc hN hy hyl hsw p ok (fun s H C cl fp => pg (s, H, C, cl, fp)) (fun s H C cl fp => pt (s, H, C, cl, fp)) (fun s H C cl fp => pe (s, H, C, cl, fp)) hs; rw [hv] at this; exact this, se_set k hM⟩
theorem fs_setLcF (i : Nat) (vs : List Nat) {y : Str} {elt tg iter : Expr} {ifs : List Expr} {scope : Scope} {own : List (Str × Nat)} {py pos spos : Pos} {ri : RI} {rg : RG} {rt : RT} {re : RE} (hN : X.N.Nodup) (hi : FI X W tg iter ri) (ok : BlkOk X.N X.env.scope scope own)
    (hg : ∀ c : BlkC, FG (Cx.blkC X scope c) vs tg rg) (ht : ∀ c : BlkC, FTs (Cx.blkC X scope c) W0 ifs rt) (he : ∀ c : BlkC, FE (Cx.blkC X scope c) W0 elt re) (hy : X.N[i]? = some y := by rfl) (hyl : X.env.scope.names.lookup y = some .local := by rfl) (hM : M.contains i = false := by rfl)
    (hsw : swapsWith (.ListComp elt [⟨tg, iter, ifs, 0⟩] scope pos) (some (.Name y py)) spos.line X.env = pure true := by rfl) (hv : own.map (·.2) = vs := by rfl) (hc : X.calm = true := by rfl) (hs : ∀ x, foldedSetIterable iter X.env x = pure x := by intro _; rfl) :
    FS X W M (.Assign [.Name y py] (.ListComp elt [⟨tg, iter, ifs, 0⟩] scope pos) spos) (rSetF i (rComp ri rg rt re vs)) := by
  obtain ⟨wi, g, tt, te, p, pg, pt, pe, k⟩ := lc_ex vs hi hg ht he
  exact ⟨_, by have := ps_setLc (i := i) hc hN hy hyl hsw p ok (fun s H C cl fp => pg (s, H, C, cl, fp)) (fun s H C cl fp => pt (s, H, C, cl, fp)) (fun s H C cl fp => pe (s, H, C, cl, fp)) hs; rw [hv] at this; exact this, se_setF k hM⟩
end
end FL
namespace FL
open PySem PySem.Spec PyProof.Rows L2
def SqB (K : PySem.W.Frag) (b : Bool) (H : Hp) (a : Addr) (xs : List V) : Prop := if b then SqT K H a xs else SqL K H a xs
def itB (b : Bool) (h : Heap) (it a : Addr) (i : Nat) : Prop := if b then h.IsTupleIter it a i else h.IsListIter it a i
def isB (b : Bool) (h : Heap) (a : Addr) (its : Array Value) : Prop := if b then h.IsTuple a its else h.IsList a its
def obB (b : Bool) (a : Addr) : Obj := if b then { cls := .type "tuple_iterator", data := .fields #[.ref a, .int 0 0] } else { cls := .type "list_iterator", data := .fields #[.ref a, .int 0 0] }
theorem itB_obj {b : Bool} {h : Heap} {it a : Addr} {i : Nat} (q : itB b h it a i) : ∃ o, h.get? it = some o ∧ (o.cls = .type "tuple_iterator" ∨ o.cls = .type "list_iterator") ∧ ∀ v, o.data ≠ .cell v := by
  cases b with
  | true => obtain ⟨o, h1, h2, h3⟩ := (show h.IsTupleIter it a i from q); exact ⟨o, h1, .inl h2, fun v z => by rw [h3] at z; cases z⟩
  | false => obtain ⟨o, h1, h2, h3⟩ := (show h.IsListIter it a i from q); exact ⟨o, h1, .inr h2, fun v z => by rw [h3] at z; cases z⟩
theorem isB_obj {b : Bool} {h : Heap} {a : Addr} {its : Array Value} (q : isB b h a its) : ∃ o, h.get? a = some o ∧ (o.cls = .type "tuple" ∨ o.cls = .type "list") := by
  cases b with
  | true => obtain ⟨o, h1, h2, _⟩ := (show h.IsTuple a its from q); exact ⟨o, h1, .inl h2⟩
  | false => obtain ⟨o, h1, h2, _⟩ := (show h.IsList a its from q); exact ⟨o, h1, .inr h2⟩
theorem itB_at {b : Bool} {h h' : Heap} {it a : Addr} {i : Nat} (q : itB b h it a i) (k : ∀ o, h.get? it = some o → h'.get? it = some o) : itB b h' it a i := by
  cases b with
  | true => exact Heap.IsTupleIter.at (show h.IsTupleIter it a i from q) k
  | false => exact Heap.IsListIter.at (show h.IsListIter it a i from q) k
theorem row_apart {b : Bool} {h : Heap} {a e : Addr} {its : Array Value} {o : Obj} (q : isB b h a its) (he : h.get? e = some o) (hc : o.cls ≠ .type "tuple" ∧ o.cls ≠ .type "list") : a ≠ e := fun z => by
  obtain ⟨o', h1, h2⟩ := isB_obj q
  rw [z, he] at h1
  cases h1
  rcases h2 with h2 | h2
  · exact hc.1 h2
  · exact hc.2 h2
section
variable {X : Cx} {pins : List (Addr × Obj)} {σ : L2.St} {H : Hp} {s : Shared} {b : Bool} {a : Addr} {xs : List V}
theorem row_of (I : Inv X pins σ H s) (h : SqB X.K b H a xs) : ∃ its : List Value, Vals xs its ∧ isB b s.heap a its.toArray ∧ xs.length ≤ sizeLine := by
  cases b with
  | true => obtain ⟨its, r, p, z⟩ := I.tuple (show SqT X.K H a xs from h); exact ⟨its, r, p, z⟩
  | false => obtain ⟨its, r, p, z⟩ := I.list (show SqL X.K H a xs from h); exact ⟨its, r, p.isList, z⟩
theorem row_inj (I : Inv X pins σ H s) {ys : List V} (h : SqB X.K b H a xs) (g : SqB X.K b H a ys) : ys = xs := by
  cases b with
  | true => exact I.tuple_inj g h
  | false => exact I.list_inj g h
end
theorem draws_row {prog : Program} {w : World} {A : Around} (hh : A.handled = none) (b : Bool) (it a : Addr) (hne : a ≠ it) (its : Array Value) :
    Draws prog w A it [it, a] its.size (fun i v => its[i]? = some v) (fun i h => itB b h it a i ∧ isB b h a its) := by
  cases b with
  | true => exact Draws.tuple hh it a hne its
  | false => exact Draws.list hh it a hne its
theorem begins_row (b : Bool) (a : Addr) (its : Array Value) : Begins (.ref a) (obB b a) fun h => isB b h a its := by
  cases b with
  | true => exact begins_tuple a its
  | false => exact begins_list a its
theorem row_start {b : Bool} {h : Heap} {it a : Addr} (q : h.get? it = some (obB b a)) : itB b h it a 0 := by
  cases b with
  | true => exact ⟨_, q, rfl, rfl⟩
  | false => exact ⟨_, q, rfl, rfl⟩
set_option maxHeartbeats 1000000 in
theorem meets_enum_row {v : Value} {o : Obj} {Hs : Heap → Prop} (B : Begins v o Hs) : Meets (Builtin.«enumerate.__new__» ⟨[.type "enumerate", v], []⟩) (fun _ R s => Hs s.heap ∧
    R (.ok (.ret (.ref (s.heap.push o).objs.size))) { s with heap := (s.heap.push o).push { cls := .type "enumerate", data := .fields #[.none, .bool false, .ref s.heap.objs.size, rawInt 0, .none, .none] } }) :=
  .of_wp fun prog w A R s hyp => by
    obtain ⟨hp, g, d, tk, os⟩ := s
    obtain ⟨h1, h⟩ := hyp
    have hsub := sub_enumerate
    have road : ∀ {A' : Around} {E Q : Value → Shared → Prop}, Q (.ref hp.objs.size) ⟨hp.push o, g, d, tk, os⟩ → wpAny (model prog w) A' (pyIter v) Q E ⟨hp, g, d, tk, os⟩ :=
      fun q => B.iter prog w _ _ _ _ h1 q
    wp_walk using road
    refine wpAny_stack_any fun st => wpAny_pure ?_
    split
    · rename_i c _ _ _ _ _
      cases (c == Value.type "enumerate") <;> (wp_walk using road; exact ⟨_, rfl, h⟩)
    · wp_walk using road
      exact ⟨_, rfl, h⟩
theorem call_enum_row {prog : Program} {w : World} {A : Around} {E : Value → Shared → Prop} {s : Shared} {v : Value} {o : Obj} {Hs : Heap → Prop} {Q : Value → Shared → Prop} (B : Begins v o Hs) (h1 : Hs s.heap)
    (h : ∀ h', IsEnum h' (s.heap.objs.size + 1) s.heap.objs.size 0 .none → h'.get? s.heap.objs.size = some o → (∀ c u, s.heap.get? c = some u → h'.get? c = some u) → Q (.ref (s.heap.objs.size + 1)) { s with heap := h' }) :
    wpAny (model prog w) A (call (.type "enumerate") [v]) Q E s := by
  refine callType_new F.called_enumerate (by decide) (F.typeCall_enumerate_1 _) (F.newCall_enumerate_1 _) (fun obj => F.args_object_init_2 obj _) F.entry_enumerate_new (meets_enum_row B) ⟨h1, ?_⟩
  have z : (s.heap.push o).objs.size = s.heap.objs.size + 1 := Heap.size_push ..
  have he := Heap.get?_push_size (s.heap.push o) (o := { cls := .type "enumerate", data := .fields #[.none, .bool false, .ref s.heap.objs.size, rawInt 0, .none, .none] }) rfl
  rw [z] at he
  show _ ∧ _
  rw [z]
  exact ⟨⟨_, he, rfl⟩, h _ he (Heap.get?_push_of_some _ (Heap.get?_push_size _ B.free)) fun c u x => Heap.get?_push_of_some _ (Heap.get?_push_of_some _ x)⟩
def ItE (K : PySem.W.Frag) (b : Bool) (a : Addr) : It where
  go i H := ∃ (xs : List V) (x : V), SqB K b H a xs ∧ xs[i]? = some x
  yld i H v H' := ∃ T x, v = .ref T ∧ H T = none ∧ H' = upd H T (.tup [.int (i : Nat), x]) ∧ ∀ xs, SqB K b H a xs → xs[i]? = some x
  stop i H := ∃ xs : List V, SqB K b H a xs ∧ i = xs.length
def tnE (b : Bool) (a e it : Addr) (i : Nat) (h : Heap) : Prop := (∃ old, IsEnum h e it ((i : Nat) : Int) old) ∧ itB b h it a i ∧ e ≠ it
theorem turn_E {P : Program} {w : World} {K : PySem.W.Frag} {elts : List Expr} {kk : Nat} {tpos : Pos} (b : Bool) (a e it : Addr) : Turn P w K (.Tuple elts kk tpos) (ItE K b a) [e, it] e (tnE b a e it) where
  mem := List.mem_cons_self
  obj := fun i h ⟨⟨old, he⟩, hi, _⟩ c hc => by
    rcases List.mem_cons.mp hc with rfl | hc
    · exact ⟨_, he, fun v z => nomatch z⟩
    · rcases List.mem_cons.mp hc with rfl | hc
      · obtain ⟨o, h1, _, h3⟩ := itB_obj hi
        exact ⟨o, h1, h3⟩
      · cases hc
  keep := fun i h h' ⟨⟨old, he⟩, hi, hne⟩ k => ⟨⟨old, k e List.mem_cons_self _ he⟩, itB_at hi fun o q => k it (List.mem_cons_of_mem _ List.mem_cons_self) o q, hne⟩
  item := by
    intro X hP hw hK hc i pins s σ H E I hf ⟨⟨old, he⟩, hit, hne⟩ ⟨xs, x, hq, hx⟩
    subst hP hw hK
    obtain ⟨its, rv, p, hz⟩ := row_of I hq
    obtain ⟨u, hu, ru⟩ := rv.get hx
    obtain ⟨oi, hoi, hci, _⟩ := itB_obj hit
    have ai : a ≠ it := row_apart p hoi (by rcases hci with z | z <;> rw [z] <;> decide)
    have ae : a ≠ e := row_apart p he ⟨by simp, by simp⟩
    have D := draws_row (prog := X.prog) (w := X.w) (A := X.A.in1) (I.ok.hd hc) b it a ai its.toArray
    have hlt : i < its.toArray.size := by
      have := (List.getElem?_eq_some_iff.mp hx).1
      rw [rv.length] at this
      simpa using this
    refine wpAny_pyNext_enum_itemD D he ⟨hit, p⟩ hlt hne (by simp [hne, Ne.symm ae]) fun x' h' tk hx' ho st' hT hsz hk => ?_
    have ex : x' = u := by
      have : its.toArray[i]? = some u := by simpa using hu
      exact Option.some.inj (hx'.symm.trans this)
    subst ex
    refine ⟨_, rfl, wpAny_letOwnedTupleGo_enum (s := { s with heap := h', toks := tk + 1 }) ho fun h2 he2 sb => ?_⟩
    have hel : e < s.heap.objs.size := Heap.lt_size he
    have hil : it < s.heap.objs.size := Heap.lt_size hoi
    have old2 : ∀ c u', c ∉ [e, it] → s.heap.get? c = some u' → h2.get? c = some u' := fun c u' hn q => (sb.2 c fun z => hn (by simp [z])).trans (hk c u' (fun z => hn (by simp [z])) (fun z => hn (by simp [z])) q)
    have hT2 := (sb.2 _ (Nat.ne_of_gt hel)).trans hT
    have I2 := I.turnedNew (t' := tk + 1) (ob := .tup [.int (i : Nat), x]) old2 hf (Nat.le_refl _) ⟨(by decide : 2 ≤ sizeLine), [.int i tk, x'], .cons ⟨_, rfl⟩ (.cons ru .nil), ⟨_, hT2, rfl, _, rfl⟩⟩
    refine ⟨.ref s.heap.objs.size, _, I2, rfl, ⟨_, x, rfl, I.hok.fresh (Nat.le_refl _), rfl, fun ys hy => by rw [row_inj I hq hy]; exact hx⟩, ⟨⟨x', he2⟩, itB_at st'.1 fun o q => (sb.2 it (Ne.symm hne)).trans q, hne⟩, fun c hc => ?_⟩
    have hlc : c < s.heap.objs.size := by
      rcases List.mem_cons.mp hc with rfl | hc
      · exact hel
      · rcases List.mem_cons.mp hc with rfl | hc
        · exact hil
        · cases hc
    rw [upd_ne (Nat.ne_of_lt hlc)]
    exact (hf c hc).1
  done := by
    intro X hP hw hK hc i pins s σ H E I hf ⟨⟨old, he⟩, hit, hne⟩ ⟨xs, hq, hx⟩
    subst hP hw hK
    obtain ⟨its, rv, p, hz⟩ := row_of I hq
    have hl := rv.length
    obtain ⟨oi, hoi, hci, _⟩ := itB_obj hit
    have ai : a ≠ it := row_apart p hoi (by rcases hci with z | z <;> rw [z] <;> decide)
    have D := draws_row (prog := X.prog) (w := X.w) (A := X.A.in1) (I.ok.hd hc) b it a ai its.toArray
    have hn : its.toArray.size = i := by rw [List.size_toArray, ← hl]; exact hx.symm
    obtain ⟨f0, f1, f2, f3, f4, f5⟩ := hf it (by simp)
    exact wpAny_pyNext_enum_endD D he (by rw [hn]; exact ⟨hit, p⟩) fun h' eb => ⟨rfl, I.turned (t' := s.toks) (fun c o hb q => eb c o hb q) f0 f1 f3 f4 f5⟩
  self := fun A i s Q E ⟨⟨_, he⟩, _⟩ h => wpAny_pyIter_enum he h
def ItZ (K : PySem.W.Frag) (b b' : Bool) (a a' : Addr) : It where
  go i H := ∃ (xs ys : List V) (x y : V), SqB K b H a xs ∧ SqB K b' H a' ys ∧ xs[i]? = some x ∧ ys[i]? = some y
  yld i H v H' := ∃ T x y, v = .ref T ∧ H T = none ∧ H' = upd H T (.tup [x, y]) ∧ (∀ xs, SqB K b H a xs → xs[i]? = some x) ∧ ∀ ys, SqB K b' H a' ys → ys[i]? = some y
  stop i H := ∃ xs ys : List V, SqB K b H a xs ∧ SqB K b' H a' ys ∧ i ≤ xs.length ∧ i ≤ ys.length ∧ (i = xs.length ∨ i = ys.length)
def tnZ (b b' : Bool) (a a' z TI TO i1 i2 : Addr) (i : Nat) (h : Heap) : Prop := IsZip h z TI TO .none ∧ IsTupOf2 h TI (.ref i1) (.ref i2) ∧ (∃ x y, IsTupOf2 h TO x y) ∧ itB b h i1 a i ∧ itB b' h i2 a' i
theorem five {c z TI TO i1 i2 : Addr} (h : c ∈ [z, TI, TO, i1, i2]) : c = z ∨ c = TI ∨ c = TO ∨ c = i1 ∨ c = i2 := by simpa using h
theorem turn_Z {P : Program} {w : World} {K : PySem.W.Frag} {elts : List Expr} {kk : Nat} {tpos : Pos} (b b' : Bool) {a a' z TI TO i1 i2 : Addr} (S : ZipSep2 z TI TO i1 i2 [i1, a] [i2, a']) (n1 : a ≠ i1) (n2 : a' ≠ i2) :
    Turn P w K (.Tuple elts kk tpos) (ItZ K b b' a a') [z, TI, TO, i1, i2] z (tnZ b b' a a' z TI TO i1 i2) where
  mem := List.mem_cons_self
  obj := fun i h ⟨hz, hI, ⟨x, y, hO⟩, h1, h2⟩ c hc => by
    rcases five hc with rfl | rfl | rfl | rfl | rfl
    · exact ⟨_, hz, fun v q => nomatch q⟩
    · exact ⟨_, hI, fun v q => nomatch q⟩
    · exact ⟨_, hO, fun v q => nomatch q⟩
    · obtain ⟨o, e1, _, e3⟩ := itB_obj h1; exact ⟨o, e1, e3⟩
    · obtain ⟨o, e1, _, e3⟩ := itB_obj h2; exact ⟨o, e1, e3⟩
  keep := fun i h h' ⟨hz, hI, ⟨x, y, hO⟩, h1, h2⟩ k => ⟨k z (by simp) _ hz, k TI (by simp) _ hI, ⟨x, y, k TO (by simp) _ hO⟩, itB_at h1 fun o q => k i1 (by simp) o q, itB_at h2 fun o q => k i2 (by simp) o q⟩
  item := by
    intro X hP hw hK hc i pins s σ H E I hf ⟨hz, hI, ⟨x0, y0, hO⟩, h1, h2⟩ ⟨xs, ys, x, y, hq1, hq2, hx, hy⟩
    subst hP hw hK
    obtain ⟨its, rv, p, _⟩ := row_of I hq1
    obtain ⟨its', rv', p', _⟩ := row_of I hq2
    obtain ⟨u, hu, ru⟩ := rv.get hx
    obtain ⟨u', hu', ru'⟩ := rv'.get hy
    have D1 := draws_row (prog := X.prog) (w := X.w) (A := X.A.in1) (I.ok.hd hc) b i1 a n1 its.toArray
    have D2 := draws_row (prog := X.prog) (w := X.w) (A := X.A.in1) (I.ok.hd hc) b' i2 a' n2 its'.toArray
    have l1 : i < its.toArray.size := by
      have := (List.getElem?_eq_some_iff.mp hx).1
      rw [rv.length] at this; simpa using this
    have l2 : i < its'.toArray.size := by
      have := (List.getElem?_eq_some_iff.mp hy).1
      rw [rv'.length] at this; simpa using this
    refine wpAny_pyNext_zipD2_item S D1 D2 hz hI hO ⟨h1, p⟩ ⟨h2, p'⟩ l1 l2 fun x1 x2 h' tk g1 g2 hz' hO' t1 t2 hT hsz hk => ?_
    obtain rfl : x1 = u := Option.some.inj (g1.symm.trans (by simpa using hu))
    obtain rfl : x2 = u' := Option.some.inj (g2.symm.trans (by simpa using hu'))
    refine ⟨_, rfl, wpAny_letOwnedTupleGo_zip (s := { s with heap := h', toks := tk }) hz' fun h3 hz3 sb => ?_⟩
    have lz : z < s.heap.objs.size := Heap.lt_size hz
    have hT3 : IsTupOf2 h3 s.heap.objs.size x1 x2 := (sb.2 _ (Nat.ne_of_gt lz)).trans hT
    have old : ∀ c o, c ∉ [z, TI, TO, i1, i2] → s.heap.get? c = some o → h3.get? c = some o := fun c o hn q => (sb.2 c fun q' => hn (by simp [q'])).trans (hk c o (fun q' => hn (by simp [q'])) (fun q' => hn (by simp [q'])) (fun q' => hn (by simp [q'])) (fun q' => hn (by simp [q'])) q)
    have I3 := I.turnedNew (t' := tk) (ob := .tup [x, y]) old hf (Nat.le_refl _) ⟨(by decide : 2 ≤ sizeLine), [x1, x2], .cons ru (.cons ru' .nil), ⟨_, hT3, rfl, _, rfl⟩⟩
    refine ⟨.ref s.heap.objs.size, _, I3, rfl, ⟨_, x, y, rfl, I.hok.fresh (Nat.le_refl _), rfl, fun l hl => by rw [row_inj I hq1 hl]; exact hx, fun l hl => by rw [row_inj I hq2 hl]; exact hy⟩,
      ⟨hz3, (sb.2 _ S.TIz).trans (hk _ _ S.TIz S.TITO S.TIi1 S.TIi2 hI), ⟨_, _, (sb.2 _ S.TOz).trans hO'⟩, itB_at t1.1 fun o q => (sb.2 _ (Ne.symm S.zi1)).trans q, itB_at t2.1 fun o q => (sb.2 _ (Ne.symm S.zi2)).trans q⟩, fun c hc => ?_⟩
    have lc : c < s.heap.objs.size := by
      rcases five hc with rfl | rfl | rfl | rfl | rfl
      · exact lz
      · exact Heap.lt_size hI
      · exact Heap.lt_size hO
      · obtain ⟨_, e1, _⟩ := itB_obj h1; exact Heap.lt_size e1
      · obtain ⟨_, e1, _⟩ := itB_obj h2; exact Heap.lt_size e1
    rw [upd_ne (Nat.ne_of_lt lc)]
    exact (hf c hc).1
  done := by
    intro X hP hw hK hc i pins s σ H E I hf ⟨hz, hI, ⟨x0, y0, hO⟩, h1, h2⟩ ⟨xs, ys, hq1, hq2, le1, le2, he⟩
    subst hP hw hK
    obtain ⟨its, rv, p, _⟩ := row_of I hq1
    obtain ⟨its', rv', p', _⟩ := row_of I hq2
    have D1 := draws_row (prog := X.prog) (w := X.w) (A := X.A.in1) (I.ok.hd hc) b i1 a n1 its.toArray
    have D2 := draws_row (prog := X.prog) (w := X.w) (A := X.A.in1) (I.ok.hd hc) b' i2 a' n2 its'.toArray
    have m1 : its.toArray.size = xs.length := by rw [List.size_toArray, ← rv.length]
    have m2 : its'.toArray.size = ys.length := by rw [List.size_toArray, ← rv'.length]
    exact wpAny_pyNext_zipD2_end S D1 D2 hz hI hO ⟨h1, p⟩ ⟨h2, p'⟩ (by omega) (by omega) (by omega) fun h' tk hk => ⟨rfl, I.turnedL (t' := tk) (ch := [z, TI, TO, i1, i2]) (fun c o hn q =>
      hk c o (fun q' => hn (by simp [q'])) (fun q' => hn (by simp [q'])) (fun q' => hn (by simp [q'])) (fun q' => hn (by simp [q'])) q) hf⟩
  self := fun A i s Q E st h => wpAny_pyIter_zip st.1 h
section
variable {X : Cx} {e e2 : Expr} {ta : TA} {p pos tpos : Pos} {elts : List Expr} {kk : Nat}
def iE (K : PySem.W.Frag) (ta : TA) : TI := fun σ H R => ta σ H fun vs H1 => ∃ b a xs, vs = [.ref a] ∧ SqB K b H1 a xs ∧ R (ItE K b a) H1
theorem pi_E (hg : Gl X "enumerate") (hm : X.mg "enumerate" = none) (ha : PA X [e] ta) (hs : starEach [e] X.env = [(false, eval e X.env)] := by rfl) : PI X (.Tuple elts kk tpos) (.Call (.Name "enumerate" p) [e] [] pos) (iE X.K ta) := by
  refine ⟨fun pins s σ H R I h => Call_ (ld_blt I hg hm boot_enumerate (PyProof.Rows.callWith_type1 (thn (ha.run pos pins s σ H _ I h) fun us s1 ⟨vs, H1, I1, r1, b, a, xs, ev, hq, q⟩ => ?_) hs rfl))⟩
  subst ev
  rw [Vals.ref1 r1]
  obtain ⟨its, rv, p', hz⟩ := row_of I1 hq
  refine call_enum_row (begins_row b a its.toArray) p' fun h' he hit hk => wpAny_pyIter_enum he ?_
  refine ⟨s1.heap.objs.size + 1, [s1.heap.objs.size + 1, s1.heap.objs.size], _, _, H1, rfl, I1.kept (t' := s1.toks) hk, turn_E b a (s1.heap.objs.size + 1) s1.heap.objs.size, ⟨⟨.none, he⟩, row_start hit, Nat.succ_ne_self _⟩, fun c hc => ?_, q⟩
  have hle : s1.heap.objs.size ≤ c := by
    rcases List.mem_cons.mp hc with rfl | hc
    · exact Nat.le_succ _
    · rcases List.mem_cons.mp hc with rfl | hc
      · exact Nat.le_refl _
      · cases hc
  exact I1.fpOk hle (I1.hok.fresh hle)
def iZ (K : PySem.W.Frag) (ta : TA) : TI := fun σ H R => ta σ H fun vs H1 => ∃ b b' a a' xs ys, vs = [.ref a, .ref a'] ∧ SqB K b H1 a xs ∧ SqB K b' H1 a' ys ∧ R (ItZ K b b' a a') H1
theorem pi_Z (hg : Gl X "zip") (hm : X.mg "zip" = none) (ha : PA X [e, e2] ta) (hs : starEach [e, e2] X.env = (false, eval e X.env) :: starEach [e2] X.env := by rfl) (hpl : (backTo pos (starEach [e2] X.env)).any (·.1) = false := by rfl) :
    PI X (.Tuple elts kk tpos) (.Call (.Name "zip" p) [e, e2] [] pos) (iZ X.K ta) := by
  refine ⟨fun pins s σ H R I h => Call_ (ld_blt I hg hm PyProof.Rows.boot_zip (PyProof.Rows.callWith_type1 (thn (ha.run pos pins s σ H _ I h) fun us s1 ⟨vs, H1, I1, r1, b, b', a, a', xs, ys, ev, hq1, hq2, q⟩ => ?_) hs hpl))⟩
  subst ev
  cases r1 with
  | cons r rr => cases rr with
    | cons r' rr =>
      cases rr; cases r; cases r'
      obtain ⟨its, rv, p1, _⟩ := row_of I1 hq1
      obtain ⟨its', rv', p2, _⟩ := row_of I1 hq2
      obtain ⟨o1, g1, _⟩ := isB_obj p1
      obtain ⟨o2, g2, _⟩ := isB_obj p2
      have la := Heap.lt_size g1
      have la' := Heap.lt_size g2
      refine zip_begins2 (begins_row b a its.toArray) (begins_row b' a' its'.toArray) p1 p2 fun h' hz hI hO k1 k2 _ hk => wpAny_pyIter_zip hz ?_
      refine ⟨s1.heap.objs.size + 4, [s1.heap.objs.size + 4, s1.heap.objs.size + 2, s1.heap.objs.size + 3, s1.heap.objs.size, s1.heap.objs.size + 1], _, _, H1, rfl, I1.kept (t' := s1.toks) hk,
        turn_Z b b' (zip_sep2 (fp1 := [a]) (fp2 := [a']) (fun c hc => by rw [List.mem_singleton.mp hc]; exact la) (fun c hc => by rw [List.mem_singleton.mp hc]; exact la')) (Nat.ne_of_lt la) (Nat.ne_of_lt (Nat.lt_succ_of_lt la')), ⟨hz, hI, ⟨_, _, hO⟩, row_start k1, row_start k2⟩, fun c hc => ?_, q⟩
      have hle : s1.heap.objs.size ≤ c := by rcases five hc with rfl | rfl | rfl | rfl | rfl <;> omega
      exact I1.fpOk hle (I1.hok.fresh hle)
end
/-- a list's or a tuple's frozen parts -/
def rowOf (d : D) : Option (List D) := match lstOf d with
  | some ds => some ds
  | none => tupOf d
section
variable {K : PySem.W.Frag} {w : Wd}
theorem SqB.same {b : Bool} {H H' : Hp} {a : Addr} {xs : List V} (e : Same H H') (h : SqB K b H a xs) : SqB K b H' a xs := by
  cases b with
  | true => exact same_rdT e h
  | false => exact e.seq h
theorem row_frz {d : D} {ds : List D} {ℓ : Loc} {v : V} (e : rowOf d = some ds) (r : Rep K w d.frz ℓ v) : ∃ b a vs, v = .ref a ∧ SqB K b w.S a vs ∧ ds.length ≤ sizeLine ∧ ownL ds = false ∧ ∀ ℓ j, RepL K w ds ℓ j vs := by
  have lst : ∀ {o : Ow} {xs : List D}, o.light = true → Rep K w (D.lst o xs).frz ℓ v → ∃ b a vs, v = .ref a ∧ SqB K b w.S a vs ∧ xs.length ≤ sizeLine ∧ ownL xs = false ∧ ∀ ℓ j, RepL K w xs ℓ j vs := fun {o xs} ho r => by
    have : (D.lst o xs).frz = .lst .ice xs := by cases o <;> first | rfl | cases ho
    rw [this] at r
    simp only [Rep] at r
    obtain ⟨a, vs, rfl, h1, hz, h2⟩ := r
    have h1 : w.S a = some (.lst vs) := h1
    exact ⟨false, a, vs, rfl, SqL.of h1, hz.1, hz.2 rfl, fun ℓ j => h2.free (Same.refl _) _ (hz.2 rfl)⟩
  cases d with
  | lst o xs =>
    cases o with
    | ice => cases e; exact lst rfl r
    | flat => cases e; exact lst rfl r
    | deep => cases e
  | tup o xs =>
    cases o with
    | true => cases e
    | false =>
      cases e
      simp only [D.frz, Rep] at r
      obtain ⟨a, vs, rfl, h1, hz, h2⟩ := r
      have ho : ownL ds = false := by have := hz.2; simpa using this
      exact ⟨true, a, vs, rfl, SqT.of h1, hz.1, ho, fun ℓ j => h2.free (Same.refl _) _ ho⟩
  | ro t xs =>
    cases t with
    | true =>
      cases e
      simp only [D.frz, Rep] at r
      obtain ⟨a, vs, rfl, h1, hz, h2⟩ := r
      exact ⟨true, a, vs, rfl, h1, hz.1, hz.2, fun ℓ j => h2.free (Same.refl _) _ hz.2⟩
    | false =>
      cases e
      simp only [D.frz, Rep] at r
      obtain ⟨a, vs, rfl, h1, hz, h2⟩ := r
      exact ⟨false, a, vs, rfl, h1, hz.1, hz.2, fun ℓ j => h2.free (Same.refl _) _ hz.2⟩
  | _ => cases e
/-- all temporaries from τ on frozen -/
theorem EndE.iceA {σ : Sl} {ρ : En} {τ : Nat} {ads : List AD} {vs : List V} {ds : List D} (hn : ρ.length < τ) (st : StE K w σ ρ) (r : ArgsAt K w σ ads τ vs) (e : vals ads = some ds) :
    ∃ w' : Wd, w'.H = w.H ∧ EndE K τ w σ ρ ρ w' ∧ ∀ (i : Nat) (d : D) (v : V), ds[i]? = some d → vs[i]? = some v → ∀ ℓ, Rep K w' d.frz ℓ v := by
  obtain ⟨_, _, g⟩ := vals_at r e
  refine ⟨w.ice fun ℓ => match ℓ with | h :: _ => decide (τ ≤ h) | [] => false, rfl, ⟨rfl, st.to st.wf.ice (ice_same st.wf) fun i hi => ice_kept fun s => ?_, ⟨ice_same st.wf, fun a ℓ e ⟨h, s, e2, k⟩ => ?_⟩⟩, fun i d v e1 e2 ℓ => ?_⟩
  · show decide (τ ≤ i + 1) = false
    simp; omega
  · subst e2
    have := ice_kept (w := w) (ℓ := h :: s) (P := fun ℓ => match ℓ with | h :: _ => decide (τ ≤ h) | [] => false) (fun t => by
      show decide (τ ≤ h) = false
      simp; omega) a [] (by simpa using e)
    simpa using this
  · exact Rep.frz (w := w) (ice_same st.wf) d (ice_frz fun s => by show decide (τ ≤ τ + i) = true; simp) (g i d v e1 e2)
def enD : Nat → List D → List D
  | _, [] => []
  | k, d :: r => .tup false [.int k, d] :: enD (k + 1) r
theorem enD_get : ∀ (k : Nat) (ds : List D) (i : Nat), (enD k ds)[i]? = (ds[i]?).map fun d => .tup false [.int ((k + i : Nat) : Int), d]
  | k, [], i => by simp [enD]
  | k, d :: r, 0 => rfl
  | k, d :: r, i + 1 => by
    have := enD_get (k + 1) r i
    rw [show k + 1 + i = k + (i + 1) by omega] at this
    simpa [enD] using this
theorem enD_len : ∀ (k : Nat) (ds : List D), (enD k ds).length = ds.length
  | _, [] => rfl
  | k, d :: r => by simp [enD, enD_len (k + 1) r]
def zpD : List D → List D → List D
  | d :: r, e :: q => .tup false [d, e] :: zpD r q
  | _, _ => []
theorem zpD_get : ∀ (ds es : List D) (i : Nat) (x : D), (zpD ds es)[i]? = some x → ∃ d e, ds[i]? = some d ∧ es[i]? = some e ∧ x = .tup false [d, e]
  | [], _, i, x, h => by simp [zpD] at h
  | _ :: _, [], i, x, h => by simp [zpD] at h
  | d :: r, e :: q, 0, x, h => by cases h; exact ⟨d, e, rfl, rfl, rfl⟩
  | d :: r, e :: q, i + 1, x, h => zpD_get r q i x (by simpa [zpD] using h)
theorem zpD_len : ∀ (ds es : List D), (zpD ds es).length = min ds.length es.length
  | [], _ => by simp [zpD]
  | _ :: _, [] => by simp [zpD]
  | d :: r, e :: q => by simp only [zpD, List.length_cons, zpD_len r q]; omega
theorem pair_new {w1 : Wd} (wf : Wf w1) {T : Addr} (n : w1.H T = none) {d e : D} {x y : V} (hd : d.own = false) (he : e.own = false) (r : ∀ ℓ, Rep K w1 d ℓ x) (r' : ∀ ℓ, Rep K w1 e ℓ y) :
    Grow w1 (w1.shr T (.tup [x, y])) ∧ ∀ ℓ, Rep K (w1.shr T (.tup [x, y])) (.tup false [d, e]) ℓ (.ref T) := by
  refine ⟨⟨wf.shr n, shr_same wf n, fun ℓ => shr_kept wf n⟩, fun ℓ => ?_⟩
  simp only [Rep]
  refine ⟨T, [x, y], rfl, upd_same, ⟨(by decide : 2 ≤ sizeLine), fun _ => by simp [ownL, hd, he]⟩, RepL.to (w := w1) (shr_same wf n) [d, e] (shr_kept wf n) ?_⟩
  simp only [RepL]
  exact ⟨x, [y], rfl, r _, y, [], rfl, r' _, rfl⟩
theorem it_E {b : Bool} {a : Addr} {vs : List V} {ds : List D} (h : SqB K b w.S a vs) (ho : ownL ds = false) (r : ∀ ℓ j, RepL K w ds ℓ j vs) : ItOk K (ItE K b a) (enD 0 ds) w := by
  intro i w1 wf1 sm
  have hq : SqB K b w1.H a vs := (h.same sm).same wf1.sh
  refine ⟨fun d e => ?_, fun hl => ⟨vs, hq, by rw [hl, enD_len, (r [] 0).length]⟩⟩
  rw [enD_get] at e
  cases q : ds[i]? with
  | none => rw [q] at e; cases e
  | some x =>
    rw [q] at e; cases e
    obtain ⟨v, ev, rv⟩ := (r [] 0).get q
    have hx : x.own = false := ownL_iff.mp ho x (List.mem_of_getElem? q)
    refine ⟨⟨vs, v, hq, ev⟩, fun u H' ⟨T, y, eu, nT, eH, hy⟩ => ?_⟩
    subst eu; subst eH
    have := hy vs hq
    rw [ev] at this; cases this
    obtain ⟨g1, g2⟩ := pair_new wf1 nT (d := .int i) rfl hx (fun ℓ => rfl) (fun ℓ => rv.free sm x hx)
    refine ⟨w1.shr T (.tup [.int (i : Nat), v]), rfl, g1, rfl, fun ℓ => ?_⟩
    rw [Nat.zero_add]
    exact g2 ℓ
theorem it_Z {b b' : Bool} {a a' : Addr} {vs us : List V} {ds es : List D} (h : SqB K b w.S a vs) (h' : SqB K b' w.S a' us) (ho : ownL ds = false) (ho' : ownL es = false) (r : ∀ ℓ j, RepL K w ds ℓ j vs) (r' : ∀ ℓ j, RepL K w es ℓ j us) : ItOk K (ItZ K b b' a a') (zpD ds es) w := by
  intro i w1 wf1 sm
  have hq : SqB K b w1.H a vs := (h.same sm).same wf1.sh
  have hq' : SqB K b' w1.H a' us := (h'.same sm).same wf1.sh
  refine ⟨fun x e => ?_, fun hl => ⟨vs, us, hq, hq', ?_⟩⟩
  · obtain ⟨d, e', q, q', rfl⟩ := zpD_get _ _ _ _ e
    obtain ⟨v, ev, rv⟩ := (r [] 0).get q
    obtain ⟨u, eu, ru⟩ := (r' [] 0).get q'
    have hd : d.own = false := ownL_iff.mp ho d (List.mem_of_getElem? q)
    have he : e'.own = false := ownL_iff.mp ho' e' (List.mem_of_getElem? q')
    refine ⟨⟨vs, us, v, u, hq, hq', ev, eu⟩, fun z H' ⟨T, y1, y2, ez, nT, eH, k1, k2⟩ => ?_⟩
    subst ez; subst eH
    have j1 := k1 vs hq
    have j2 := k2 us hq'
    rw [ev] at j1; cases j1
    rw [eu] at j2; cases j2
    obtain ⟨g1, g2⟩ := pair_new wf1 nT hd he (fun ℓ => rv.free sm d hd) (fun ℓ => ru.free sm e' he)
    exact ⟨w1.shr T (.tup [v, u]), rfl, g1, rfl, g2⟩
  · rw [hl, zpD_len, (r [] 0).length, (r' [] 0).length]
    omega
end
def rEn (ra : RA) : RI := fun ρ E Q => ra ρ E fun ads ρ' => onVals ads fun ds => match ds with
  | [d] => match rowOf d with
    | some xs => Q (enD 0 xs) ρ'
    | none => False
  | _ => False
def rZp (ra : RA) : RI := fun ρ E Q => ra ρ E fun ads ρ' => onVals ads fun ds => match ds with
  | [d, e] => match rowOf d with
    | some xs => match rowOf e with
      | some ys => Q (zpD xs ys) ρ'
      | none => False
    | none => False
  | _ => False
section
variable {X : Cx} {W : WX} {p pos tpos : Pos} {elts : List Expr} {kk : Nat} {ra : RA}
theorem fi_enum {e : Expr} (ha : FA X W [e] ra) (hm : X.mg "enumerate" = none) (hg : Gl X "enumerate" := by rfl) (hs : starEach [e] X.env = [(false, eval e X.env)] := by rfl) : FI X W (.Tuple elts kk tpos) (.Call (.Name "enumerate" p) [e] [] pos) (rEn ra) := by
  obtain ⟨t, q, k⟩ := ha.ex
  refine ⟨_, pi_E hg hm q hs, fun τ w σ ρ E Q R hn st h hq hx => ?_⟩
  refine k τ w σ ρ E _ _ hn st h (fun ads ρ1 w1 vs h1 l1 e1 r1 => ?_) hx
  obtain ⟨ds, ed, h1⟩ := onVals_elim h1
  obtain ⟨w2, e0, e2, g⟩ := EndE.iceA (by rw [e1.len]; exact hn) e1.st r1 ed
  obtain ⟨l2, _, _⟩ := vals_at r1 ed
  match ds, vs, l2, h1, g with
  | [d], [v], _, h1, g =>
    have h1 : (match rowOf d with | some xs => Q (enD 0 xs) ρ1 | none => False) := h1
    cases er : rowOf d with
    | none => rw [er] at h1; exact h1.elim
    | some xs =>
      rw [er] at h1
      obtain ⟨b, a, us, rfl, h2, hz, ho, h3⟩ := row_frz er (g 0 d v rfl rfl [])
      rw [← e0]
      exact ⟨b, a, us, rfl, h2.same e2.st.wf.sh, hq _ ρ1 w2 _ h1 (by rw [enD_len]; exact hz) (e1.trans e2 (Nat.le_refl _)) (it_E h2 ho h3)⟩
theorem fi_zip {e e2 : Expr} (ha : FA X W [e, e2] ra) (hm : X.mg "zip" = none) (hg : Gl X "zip" := by rfl) (hs : starEach [e, e2] X.env = (false, eval e X.env) :: starEach [e2] X.env := by rfl) (hpl : (backTo pos (starEach [e2] X.env)).any (·.1) = false := by rfl) :
    FI X W (.Tuple elts kk tpos) (.Call (.Name "zip" p) [e, e2] [] pos) (rZp ra) := by
  obtain ⟨t, q, k⟩ := ha.ex
  refine ⟨_, pi_Z hg hm q hs hpl, fun τ w σ ρ E Q R hn st h hq hx => ?_⟩
  refine k τ w σ ρ E _ _ hn st h (fun ads ρ1 w1 vs h1 l1 e1 r1 => ?_) hx
  obtain ⟨ds, ed, h1⟩ := onVals_elim h1
  obtain ⟨w2, e0, e2, g⟩ := EndE.iceA (by rw [e1.len]; exact hn) e1.st r1 ed
  obtain ⟨l2, _, _⟩ := vals_at r1 ed
  match ds, vs, l2, h1, g with
  | [d, d'], [v, v'], _, h1, g =>
    have h1 : (match rowOf d with | some xs => (match rowOf d' with | some ys => Q (zpD xs ys) ρ1 | none => False) | none => False) := h1
    cases er : rowOf d with
    | none => rw [er] at h1; exact h1.elim
    | some xs =>
      cases er' : rowOf d' with
      | none => rw [er, er'] at h1; exact h1.elim
      | some ys =>
        rw [er, er'] at h1
        obtain ⟨b, a, us, rfl, h2, hz, ho, h3⟩ := row_frz er (g 0 d v rfl rfl [])
        obtain ⟨b', a', us', rfl, h2', hz', ho', h3'⟩ := row_frz er' (g 1 d' v' rfl rfl [])
        rw [← e0]
        exact ⟨b, b', a, a', us, us', rfl, h2.same e2.st.wf.sh, h2'.same e2.st.wf.sh, hq _ ρ1 w2 _ h1 (by rw [zpD_len]; omega) (e1.trans e2 (Nat.le_refl _)) (it_Z h2 h2' ho ho' h3 h3')⟩
end
theorem lookup_bent (g : Bool) (f : Str → Bool) : ∀ {names : List (Str × NameKind)} {x : Str}, names.lookup x = some .cell ∨ names.lookup x = some .free →
    (names.map fun (n, k) => if (k == NameKind.free && g && f n) then (n, NameKind.cell) else (n, k)).lookup x = some .cell ∨ (names.map fun (n, k) => if (k == NameKind.free && g && f n) then (n, NameKind.cell) else (n, k)).lookup x = some .free
  | [], x, h => by simp at h
  | (n, k) :: r, x, h => by
    rw [List.map_cons]
    have e : ∃ k', (if (k == NameKind.free && g && f n) then (n, NameKind.cell) else (n, k)) = (n, k') ∧ (k' = k ∨ k = .free ∧ k' = .cell) := by
      by_cases q : (k == NameKind.free && g && f n) = true
      · rw [if_pos q]
        simp only [Bool.and_eq_true, beq_iff_eq] at q
        exact ⟨_, rfl, .inr ⟨q.1.1, rfl⟩⟩
      · rw [if_neg q]; exact ⟨_, rfl, .inl rfl⟩
    obtain ⟨k', e, hk⟩ := e
    show List.lookup x ((if (k == NameKind.free && g && f n) then (n, NameKind.cell) else (n, k)) :: _) = _ ∨ List.lookup x ((if (k == NameKind.free && g && f n) then (n, NameKind.cell) else (n, k)) :: _) = _
    rw [e]
    by_cases hx : (x == n) = true
    · rw [List.lookup_cons, hx] at h ⊢
      simp only [Option.some.injEq] at h ⊢
      rcases hk with rfl | ⟨rfl, rfl⟩
      · exact h
      · exact .inl rfl
    · have hx : (x == n) = false := by simpa using hx
      rw [List.lookup_cons, hx] at h ⊢
      exact lookup_bent g f h
/-- a comprehension within another: its block's names -/
theorem blk_ok {X : Cx} {scope scope' : Scope} {own : List (Str × Nat)} {c : BlkC} {N : List Str} (hN : X.N = N) (h : BlkOk N scope scope' own) : BlkOk (Cx.blkC X scope c).N (Cx.blkC X scope c).env.scope scope' own := by
  subst hN
  exact ⟨h.kind, h.uniq, h.ix, fun y hy e => lookup_bent (X.env.scope.kind == .function) (fun n => X.env.kindOf n == some .cell) (h.free y hy e), h.own⟩
def ItRow (K : PySem.W.Frag) (b : Bool) (a : Addr) : It := if b then Itt K a else Itl K a
def iRow (K : PySem.W.Frag) (te : TE) : TI := fun σ H R => te σ H fun x H1 => ∃ b a xs, x = .ref a ∧ SqB K b H1 a xs ∧ R (ItRow K b a) H1
theorem pi_row {X : Cx} {tg e : Expr} {te : TE} (he : PE X e te) : PI X tg e (iRow X.K te) := by
  refine ⟨fun pins s σ H R I h => thn (he.run pins s σ H _ I h) fun v s1 ⟨x, H1, I1, r1, b, a, xs, ev, hq, q⟩ => ?_⟩
  subst ev
  cases r1
  obtain ⟨its, rv, p, hz⟩ := row_of I1 hq
  refine (begins_row b a its.toArray).iter _ _ _ _ s1 _ p ?_
  have hf : ∀ c ∈ [s1.heap.objs.size], FpOk X pins H1 c := fun c hc => by
    rw [List.mem_singleton.mp hc]
    exact I1.fpOk (Nat.le_refl _) (I1.hok.fresh (Nat.le_refl _))
  cases b with
  | true => exact ⟨_, _, _, _, H1, rfl, I1.kept (t' := s1.toks) fun c o e => Heap.get?_push_of_some _ e, turn_tuple a _, ⟨_, Heap.get?_push_size _ rfl, rfl, rfl⟩, hf, q⟩
  | false => exact ⟨_, _, _, _, H1, rfl, I1.kept (t' := s1.toks) fun c o e => Heap.get?_push_of_some _ e, turn_list a _, ⟨_, Heap.get?_push_size _ rfl, rfl, rfl⟩, hf, q⟩
def rItA (re : RE) : RI := fun ρ E Q => re ρ E fun d ρ' => match rowOf d with
  | some ds => Q ds ρ'
  | none => False
theorem fi_row {X : Cx} {W : WX} {tg e : Expr} {re : RE} (h : FE X W e re) : FI X W tg e (rItA re) := by
  obtain ⟨t, q, k⟩ := h.ex
  refine ⟨_, pi_row q, fun τ w σ ρ E Q R hn st h hq hx => ?_⟩
  refine k τ w σ ρ E _ _ hn st h (fun d ρ1 w1 v h1 e1 r1 => ?_) hx
  cases er : rowOf d with
  | none => simp only [er] at h1
  | some ds =>
    simp only [er] at h1
    obtain ⟨w2, e0, e2, r2⟩ := EndE.iceT (by rw [e1.len]; exact hn) e1.st r1
    obtain ⟨b, a, vs, rfl, h2, hz, ho, h3⟩ := row_frz er (r2 [])
    rw [← e0]
    refine ⟨b, a, vs, rfl, h2.same e2.st.wf.sh, hq ds ρ1 w2 _ h1 hz (e1.trans e2 (Nat.le_refl _)) ?_⟩
    cases b with
    | true => exact it_tup h2 ho fun ℓ => h3 ℓ 0
    | false => exact it_list h2 ho fun ℓ => h3 ℓ 0
def rFrz (re : RE) : RE := fun ρ E Q => re ρ E fun d ρ' => Q d.frz ρ'
theorem fe_frz {X : Cx} {W : WX} {e : Expr} {re : RE} (h : FE X W e re) : FE X W e (rFrz re) := by
  obtain ⟨t, q, k⟩ := h.ex
  refine ⟨_, q, fun τ w σ ρ E Q Qv hn st h hq hx => ?_⟩
  refine k τ w σ ρ E _ _ hn st h (fun d ρ1 w1 v h1 e1 r1 => ?_) hx
  obtain ⟨w2, e0, e2, r2⟩ := EndE.iceT (by rw [e1.len]; exact hn) e1.st r1
  rw [← e0]
  exact hq _ ρ1 w2 v h1 (e1.trans e2 (Nat.le_refl _)) (r2 _)
end FL
namespace FL
open PySem PySem.Spec PyProof.Rows L2
mutual
theorem eqv_self : ∀ x : PyData, x.plain = true → PyData.eqv x x = true
  | .none, _ => by simp [PyData.eqv]
  | .bool _, _ => by simp [PyData.eqv]
  | .int _, _ => by simp [PyData.eqv]
  | .str _, _ => by simp [PyData.eqv]
  | .list xs, h => by simp only [PyData.eqv]; exact eqvAll_self xs (by simpa [PyData.plain] using h)
  | .tuple xs, h => by simp only [PyData.eqv]; exact eqvAll_self xs (by simpa [PyData.plain] using h)
  | .dict _, h => by simp [PyData.plain] at h
theorem eqvAll_self : ∀ xs : List PyData, PyData.plainAll xs = true → PyData.eqvAll xs xs = true
  | [], _ => by simp [PyData.eqvAll]
  | x :: xs, h => by
    simp only [PyData.plainAll, Bool.and_eq_true] at h
    simp only [PyData.eqvAll, eqv_self x h.1, eqvAll_self xs h.2, Bool.and_self]
end
theorem deq_py {a b : D} (h : a.dat = true) (e : a.py = b.py) : deq a b = true := by
  unfold deq
  rw [← e]
  exact eqv_self _ (py_plain a h)
theorem pyL_map {α : Type} (f : α → D) : ∀ xs : List α, pyL (xs.map f) = xs.map fun x => (f x).py
  | [] => rfl
  | x :: xs => by simp [pyL, pyL_map f xs]
theorem datL_all {ds : List D} : datL ds = true ↔ ∀ d ∈ ds, d.dat = true := by
  induction ds with
  | nil => simp [datL]
  | cons d r ih => simp [datL, ih]
theorem datL_map {α : Type} {f : α → D} {xs : List α} (h : ∀ x ∈ xs, (f x).dat = true) : datL (xs.map f) = true := datL_all.mpr fun d hd => by
  obtain ⟨x, hx, rfl⟩ := List.mem_map.mp hd
  exact h x hx
theorem depL_le {ds : List D} {n : Nat} (h : ∀ d ∈ ds, d.dep ≤ n) : depL ds ≤ n := by
  induction ds with
  | nil => simp [depL]
  | cons d r ih =>
    simp only [depL]
    have h1 := h d List.mem_cons_self
    have h2 := ih fun e he => h e (List.mem_cons_of_mem _ he)
    omega
theorem depL_map {α : Type} {f : α → D} {xs : List α} {n : Nat} (h : ∀ x ∈ xs, (f x).dep ≤ n) : depL (xs.map f) ≤ n := depL_le fun d hd => by
  obtain ⟨x, hx, rfl⟩ := List.mem_map.mp hd
  exact h x hx
theorem own_map {α : Type} {f : α → D} {xs : List α} (h : ∀ x, (f x).own = false) : ownL (xs.map f) = false := ownL_iff.mpr fun d hd => by
  obtain ⟨x, _, rfl⟩ := List.mem_map.mp hd
  exact h x
/-- against the empty row -/
theorem deq_nilL {o o' : Ow} {ds : List D} : deq (.lst o ds) (.lst o' []) = ds.isEmpty := by
  cases ds with
  | nil => rfl
  | cons d r => rfl
/-- a comprehension by what holds between its turns, its parts frozen -/
theorem compR_flat {f : D → En → (Option D → En → Prop) → Prop} {vs : List Nat} {Q : Ow → List D → En → Prop} (I : Nat → List D → En → Prop) : ∀ (ds : List D) (k : Nat) (acc : List D) (ρ : En), I k acc ρ →
    (∀ i d acc ρ, ds[i]? = some d → I (k + i) acc ρ → f d ρ fun o ρ' => (∀ y, o = some y → y.own = false) ∧ I (k + i + 1) (acc ++ o.toList) (wipeD ρ' vs)) → (∀ acc ρ, I (k + ds.length) acc ρ → Q .flat acc ρ) → compR f vs ds ρ .flat acc Q
  | [], k, acc, ρ, h0, _, hd => hd acc ρ h0
  | d :: ds, k, acc, ρ, h0, hs, hd => by
    refine ⟨_, hs 0 d acc ρ rfl h0, fun o ρ' ⟨ho, h⟩ => ?_⟩
    have : kindR .flat o = .flat := by
      cases o with
      | none => rfl
      | some y =>
        have := ho y rfl
        simp only [kindR, this]
    rw [this]
    refine compR_flat I ds (k + 1) _ _ h (fun i d' a2 ρ2 e h2 => ?_) fun a2 ρ2 h2 => hd a2 ρ2 (by rw [List.length_cons, show k + (ds.length + 1) = k + 1 + ds.length by omega]; exact h2)
    have := hs (i + 1) d' a2 ρ2 (by simpa using e) (by rw [show k + (i + 1) = k + 1 + i by omega]; exact h2)
    rw [show k + (i + 1) + 1 = k + 1 + i + 1 by omega] at this
    exact this
theorem compR_map {α : Type} {f : D → En → (Option D → En → Prop) → Prop} {vs : List Nat} {Q : Ow → List D → En → Prop} (g : α → D) (h : α → Option D) : ∀ (xs : List α) (acc : List D) (ρ : En),
    (∀ x ∈ xs, f (g x) ρ fun o ρ' => o = h x ∧ wipeD ρ' vs = ρ) → (∀ x ∈ xs, ∀ y, h x = some y → y.own = false) → Q .flat (acc ++ xs.filterMap h) ρ → compR f vs (xs.map g) ρ .flat acc Q
  | [], acc, ρ, _, _, q => by simpa [compR] using q
  | x :: xs, acc, ρ, k, ho, q => by
    refine ⟨_, k x List.mem_cons_self, fun o ρ' ⟨e1, e2⟩ => ?_⟩
    subst e1
    have : kindR .flat (h x) = .flat := by
      cases e : h x with
      | none => rfl
      | some y =>
        have := ho x List.mem_cons_self y e
        simp only [kindR, this]
    rw [this, e2]
    refine compR_map g h xs _ ρ (fun x' hx => k x' (List.mem_cons_of_mem _ hx)) (fun x' hx => ho x' (List.mem_cons_of_mem _ hx)) ?_
    rw [List.append_assoc]
    have e : (h x).toList ++ xs.filterMap h = (x :: xs).filterMap h := by
      rw [List.filterMap_cons]
      cases h x <;> rfl
    rw [e]
    exact q
/-- .. each part by a rule -/
theorem compR_all {α : Type} {f : D → En → (Option D → En → Prop) → Prop} {vs : List Nat} {Q : Ow → List D → En → Prop} (g h : α → D) (xs : List α) (ρ : En)
    (k : ∀ x ∈ xs, f (g x) ρ fun o ρ' => o = some (h x) ∧ wipeD ρ' vs = ρ) (ho : ∀ x, (h x).own = false) (q : Q .flat (xs.map h) ρ) : compR f vs (xs.map g) ρ .flat [] Q :=
  compR_map g (fun x => some (h x)) xs [] ρ k (fun x _ y e => by cases e; exact ho x) (by
    have e : xs.filterMap (fun x => some (h x)) = xs.map h := by simp
    rw [List.nil_append, e]
    exact q)
/-- what is equal is not told unequal -/
theorem ne_no {a b : D} (h : (true ^^ deq a b) = true) (hd : a.dat = true) (e : a.py = b.py) : False := by
  rw [deq_py hd e] at h
  cases h
end FL
namespace FL
open PySem PySem.Spec PyProof.Rows L2
section
variable {κ : Type} [DecidableEq κ]
theorem putK_zip (f : D → κ) (k : D) (v : V) : ∀ (ks : List D) (us : List V), ks.length = us.length → (ks.map f).Nodup →
    putK ((ks.map f).zip us) (f k) v = match ks.findIdx? fun k' => decide (f k' = f k) with
      | some i => (ks.map f).zip (us.set i v)
      | none => ((ks ++ [k]).map f).zip (us ++ [v])
  | [], [], _, _ => by simp [putK]
  | a :: ks, u :: us, hl, hn => by
    rw [List.map_cons, List.nodup_cons] at hn
    have ih := putK_zip f k v ks us (by simpa using hl) hn.2
    rw [List.findIdx?_cons]
    by_cases e : f a = f k
    · rw [if_pos (by simpa using e)]
      have hno : ∀ p ∈ (ks.map f).zip us, p.1 ≠ f k := fun p hp z => hn.1 (by rw [e, ← z]; exact (List.of_mem_zip hp).1)
      unfold putK
      rw [if_pos (by simp [e])]
      simp only [List.map_cons, List.zip_cons_cons, e, if_true, List.set_cons_zero]
      congr 1
      have : ((ks.map f).zip us).map (fun kv => if kv.1 = f k then (kv.1, v) else kv) = ((ks.map f).zip us).map id := List.map_congr_left fun p hp => if_neg (hno p hp)
      rw [this, List.map_id]
    · rw [if_neg (by simpa using e)]
      unfold putK at ih ⊢
      rw [List.map_cons, List.zip_cons_cons, List.any_cons, decide_eq_false (by exact e), Bool.false_or]
      cases q : ks.findIdx? fun k' => decide (f k' = f k) with
      | none =>
        rw [q] at ih
        by_cases b : (((ks.map f).zip us).any fun kv => decide (kv.1 = f k)) = true
        · rw [if_pos b] at ih ⊢
          rw [List.map_cons, if_neg (by exact e), ih]
          simp
        · rw [if_neg b] at ih ⊢
          simp only [Option.map_none, List.cons_append, List.map_cons, List.zip_cons_cons]
          rw [ih]
      | some i =>
        rw [q] at ih
        by_cases b : (((ks.map f).zip us).any fun kv => decide (kv.1 = f k)) = true
        · rw [if_pos b] at ih ⊢
          rw [List.map_cons, if_neg (by exact e), ih]
          simp
        · rw [if_neg b] at ih ⊢
          have ih : (ks.map f).zip us ++ [(f k, v)] = (ks.map f).zip (us.set i v) := ih
          show (f a, u) :: ((ks.map f).zip us ++ [(f k, v)]) = (f a, u) :: (ks.map f).zip (us.set i v)
          rw [ih]
end
/-- the keys behind d[k] = .. -/
def putKs (t : Bool) (ks : List D) (k : D) : List D := match kIdx t ks k with
  | some _ => ks
  | none => ks ++ [k]
def putDs {α : Type} (t : Bool) (ks : List D) (k : D) (ds : List α) (d : α) : List α := match kIdx t ks k with
  | some i => ds.set i d
  | none => ds ++ [d]
theorem idx_none {t : Bool} {ks : List D} {k : D} (h : kIdx t ks k = none) : ∀ k' ∈ ks, keyEq t k' k = false := fun k' hk => by
  have := List.findIdx?_eq_none_iff.mp h k' hk
  simpa using this
theorem putKs_ok {t : Bool} {ks : List D} {k : D} (h : keysOk t ks = true) (hk : keyOk t k = true) : keysOk t (putKs t ks k) = true := by
  unfold putKs
  split
  · exact h
  · rename_i e
    have no := idx_none e
    unfold keysOk at h ⊢
    simp only [Bool.and_eq_true] at h ⊢
    refine ⟨by rw [List.all_append, h.1]; simp [hk], ?_⟩
    cases t with
    | true =>
      have h2 : (ks.map tkey).Nodup := by simpa using h.2
      have : ((ks ++ [k]).map tkey).Nodup := by
        rw [List.map_append, List.nodup_append]
        refine ⟨h2, by simp, fun a ha b hb => ?_⟩
        obtain ⟨k', hk', rfl⟩ := List.mem_map.mp ha
        have hb : b = tkey k := by simpa using hb
        rw [hb]
        have := no k' hk'
        simpa [keyEq] using this
      simpa using this
    | false =>
      have h2 : (ks.map skey).Nodup := by simpa using h.2
      have : ((ks ++ [k]).map skey).Nodup := by
        rw [List.map_append, List.nodup_append]
        refine ⟨h2, by simp, fun a ha b hb => ?_⟩
        obtain ⟨k', hk', rfl⟩ := List.mem_map.mp ha
        have hb : b = skey k := by simpa using hb
        rw [hb]
        have := no k' hk'
        simpa [keyEq] using this
      simpa using this
theorem putDs_len {α : Type} {t : Bool} {ks : List D} {k : D} {ds : List α} {d : α} (h : ks.length = ds.length) : (putKs t ks k).length = (putDs t ks k ds d).length := by
  unfold putKs putDs
  split <;> simp [h]
theorem dHO_put {t : Bool} {ks : List D} {us : List V} {k : D} {v : V} (hl : ks.length = us.length) (hk : keysOk t ks = true) :
    dHO t (putKs t ks k) (putDs t ks k us v) = if t then .dT (putK ((ks.map tkey).zip us) (tkey k) v) else .dK (putK ((ks.map skey).zip us) (skey k) v) := by
  unfold keysOk at hk
  simp only [Bool.and_eq_true] at hk
  cases t with
  | true =>
    have h2 : (ks.map tkey).Nodup := by simpa using hk.2
    have e := putK_zip tkey k v ks us hl h2
    have ei : kIdx true ks k = ks.findIdx? fun k' => decide (tkey k' = tkey k) := rfl
    unfold putKs putDs dHO
    rw [ei]
    simp only [if_true]
    rw [e]
    split <;> rfl
  | false =>
    have h2 : (ks.map skey).Nodup := by simpa using hk.2
    have e := putK_zip skey k v ks us hl h2
    have ei : kIdx false ks k = ks.findIdx? fun k' => decide (skey k' = skey k) := rfl
    unfold putKs putDs dHO
    rw [ei]
    simp only [Bool.false_eq_true, if_false]
    rw [e]
    split <;> rfl
section
variable {K : PySem.W.Frag} {w : Wd}
theorem dict_at {d0 : D} {h0 : Nat} {v0 u : V} {p : List Nat} {o : Ow} {t : Bool} {ks ds : List D} (ho : o.mine = true) (r0 : Rep K w d0 [h0] v0) (at0 : AtV K w d0 [h0] v0 p (.dct o t ks ds) u) :
    ∃ a us, u = .ref a ∧ w.G a = some (h0 :: p) ∧ w.H a = some (dHO t ks us) ∧ (ks.length = us.length ∧ keysOk t ks = true ∧ Lt o ds) ∧ RepL K w ds (h0 :: p) 0 us := by
  have ra := at0.rep r0
  simp only [Rep] at ra
  obtain ⟨a, us, ea, th, hz, hl⟩ := ra
  rw [if_pos ho] at th
  obtain ⟨ta, ha⟩ := th
  exact ⟨a, us, ea, ta, ha, hz, hl⟩
theorem dict_end {σ : Sl} {ρ : En} {i τ τ1 : Nat} {d0 : D} {v0 : V} {p : List Nat} {o o' : Ow} {t : Bool} {ks ks' ds ds' : List D} {a : Addr} {vs' : List V} {L : Loc} (ho : o.mine = true) (ho' : o'.mine = true) (st : StE K w σ ρ) (hi : ρ[i]? = some (some d0)) (hv : σ[i]? = some (some v0)) (r0 : Rep K w d0 [i + 1] v0)
    (at0 : AtV K w d0 [i + 1] v0 p (.dct o t ks ds) (.ref a)) (hτ : ρ.length < τ) (hτ1 : τ ≤ τ1) (rl : RepL K (w.ren (moveT τ1 L)) ds' ((i + 1) :: p) 0 vs') (hz : ks'.length = vs'.length ∧ keysOk t ks' = true ∧ Lt o' ds') :
    EndE K τ w σ ρ (ρ.set i (some (d0.put p (.dct o' t ks' ds')))) ((w.ren (moveT τ1 L)).put a (dHO t ks' vs')) := by
  obtain ⟨a', us, ea, ta, ha, _, _⟩ := dict_at ho r0 at0
  cases ea
  have hne : i + 1 ≠ τ1 := by have := (List.getElem?_eq_some_iff.mp hi).1; omega
  refine node_end st hi hv r0 at0 hτ hτ1 ta (by cases t <;> trivial) (fun _ => ho) ?_
  simp only [Rep]
  exact ⟨a, vs', rfl, by rw [if_pos ho']; exact ⟨ren_at ta (moveT_ne hne), upd_same⟩, hz, parts_op hne ta rl⟩
end
def onDct (ρ : En) (i : Nat) (k : Ow → Bool → List D → List D → Prop) : Prop := match ρ[i]? with
  | some (some (.dct o t ks ds)) => match o with
    | .ice => False
    | .flat => k .flat t ks ds
    | .deep => k .deep t ks ds
  | _ => False
theorem onDct_elim {ρ : En} {i : Nat} {k : Ow → Bool → List D → List D → Prop} (h : onDct ρ i k) : ∃ o t ks ds, ρ[i]? = some (some (.dct o t ks ds)) ∧ o.mine = true ∧ k o t ks ds := by
  unfold onDct at h
  split at h
  · rename_i o t ks ds e
    cases o with
    | ice => exact h.elim
    | flat => exact ⟨_, _, _, _, e, rfl, h⟩
    | deep => exact ⟨_, _, _, _, e, rfl, h⟩
  · exact h.elim
/-- x[k] = e, x a dict -/
def rSetD (i : Nat) (rk : RO) (re : RE) : RS := fun ρ E F => re ρ E fun d ρ1 => oN i ρ1 E fun _ ρ1' => rk ρ1' E fun k ρ2 => on1 ρ2 k fun dk => onDct ρ2 i fun o t ks ds =>
  keyOk t dk = true ∧ ks.length < sizeLine ∧ nf (ρ2.set i (some (.dct (o.more d.own) t (putKs t ks dk) (putDs t ks dk ds d)))) F.nx
theorem Lt.put {o : Ow} {t : Bool} {ks : List D} {k : D} {ds : List D} {d : D} (h : Lt o ds) : Lt (o.more d.own) (putDs t ks k ds d) := by
  unfold putDs
  split
  · exact h.set
  · exact h.app
theorem RepL.put {K : PySem.W.Frag} {w : Wd} {t : Bool} {ks : List D} {k : D} {ds : List D} {d : D} {ℓ : Loc} {us : List V} {v : V} (h : RepL K w ds ℓ 0 us) (g : ∀ j, (kIdx t ks k = some j ∨ kIdx t ks k = none ∧ j = ds.length) → Rep K w d (ℓ ++ [j]) v) :
    RepL K w (putDs t ks k ds d) ℓ 0 (putDs t ks k us v) := by
  unfold putDs
  cases e : kIdx t ks k with
  | some j => exact h.set (by rw [Nat.zero_add]; exact g j (.inl e))
  | none => exact h.app (RepL.one (by rw [Nat.zero_add]; exact g _ (.inr ⟨e, rfl⟩)))
theorem DPut.of {K : PySem.W.Frag} {w : Wd} (wf : Wf w) {a : Addr} {t : Bool} {ks : List D} {us : List V} {k : D} {ℓ : Loc} {y v : V} (h : w.H a = some (dHO t ks us)) (hl : ks.length = us.length) (hks : keysOk t ks = true) (hk : keyOk t k = true) (hz : ks.length < sizeLine) (ry : Rep K w k ℓ y) :
    DPut w.H a y v (upd w.H a (dHO t (putKs t ks k) (putDs t ks k us v))) := by
  rw [dHO_put hl hks]
  cases t with
  | true =>
    obtain ⟨b, rfl, hb⟩ := rep_tkey wf ry hk
    exact DPut.t h hb (by rw [List.length_zip, List.length_map, ← hl]; omega)
  | false =>
    rw [rep_skey ry hk]
    exact DPut.k h (by rw [List.length_zip, List.length_map, ← hl]; omega)
section
variable {X : Cx} {W : WX} {M : List Nat} {pos pos' p2 apos : Pos}
theorem fs_setD (i : Nat) {x : Str} {k e : Expr} {rk : RO} {re : RE} (he : FE X W e re) (hk : FO X W k rk) (hu : X.A.units + 1 < cLine) (hN : X.N[i]? = some x := by rfl) (hv : Vis X.env.scope x := by first | exact Or.inl rfl | exact Or.inr (Or.inl rfl) | exact Or.inr (Or.inr rfl)) (hd : (x == ("__debug__" : Str)) = false := by decide)
    (hcd : (x == ("__classdict__" : Str)) = false := by decide) (hs : swapsWith e (some (.Subscript (.Name x p2) k pos')) pos.line X.env = pure false := by rfl) : FS X W M (.Assign [.Subscript (.Name x p2) k pos'] e pos) (rSetD i rk re) := by
  obtain ⟨t, p, l⟩ := he.ex
  obtain ⟨t', p', l'⟩ := hk.ex
  refine ⟨_, ps_dput hu (pe_var hN hv hd hcd) p' p hs, fun w σ ρ E F D st h hf => ?_⟩
  refine l _ w σ ρ E _ _ (Nat.lt_succ_self _) st h (fun d ρ1 w1 v h1 e1 r1 => ?_) hf.sx
  obtain ⟨⟨d0, e0⟩, h1⟩ := oN_elim h1
  obtain ⟨v0, ev, _⟩ := e1.st.rep i d0 e0
  refine ⟨v0, ev, ?_⟩
  refine l' (ρ1.length + 2) w1 σ ρ1 E _ _ (by omega) e1.st h1 (fun ak ρ2 w2 vk h2 e2 r2 => ?_) (hf.sx.then e1 (by rw [e1.len]; omega))
  have e12 := e1.trans e2 (by rw [e1.len]; omega)
  obtain ⟨dk, ek, h2⟩ := on1_elim h2
  obtain ⟨o, tt, ks, ds, ed, ho, hko, hkl, q⟩ := onDct_elim h2
  obtain ⟨ℓ, rk⟩ := ad_get e12.st r2 ek
  obtain ⟨v0', ev', r0⟩ := e12.st.rep i _ ed
  rw [ev] at ev'; cases ev'
  obtain ⟨a, us, rfl, ta, ha, ⟨hl, hks, hL⟩, rl⟩ := dict_at ho r0 .here
  have r1' : Rep X.K w2 d [ρ.length + 1] v := e2.ext.rep (r := []) (by rw [e1.len]; omega) r1
  have hin := (List.getElem?_eq_some_iff.mp ed).1
  rw [e12.len] at hin
  let j := match kIdx tt ks dk with | some j => j | none => ds.length
  refine ⟨a, _, rfl, DPut.of e12.st.wf ha hl hks hko hkl rk (v := v), ?_⟩
  have rr : RepL X.K (w2.ren (moveT (ρ.length + 1) ((i + 1) :: [] ++ [j]))) (putDs tt ks dk ds d) ((i + 1) :: []) 0 (putDs tt ks dk us v) := by
    have base : RepL X.K (w2.ren (moveT (ρ.length + 1) ((i + 1) :: [] ++ [j]))) ds ((i + 1) :: []) 0 us := RepL.of rl.length fun q dq vq e3 e4 => by
      obtain ⟨v3, e5, r3⟩ := rl.get e3
      rw [e4] at e5; cases e5
      exact r3.mv (by omega)
    have hlu : us.length = ds.length := rl.length
    have : putDs tt ks dk us v = putDs tt ks dk us v := rfl
    refine RepL.put base fun j' hj' => ?_
    have : j = j' := by
      show (match kIdx tt ks dk with | some j => j | none => ds.length) = j'
      rcases hj' with hj' | ⟨hj', rfl⟩ <;> rw [hj']
    subst this
    exact r1'.mvT
  have ee := dict_end (i := i) (τ := ρ.length + 1) (p := []) ho (more_mine ho d.own) e12.st ed ev r0 .here (by rw [e12.len]; omega) (Nat.le_refl _) rr ⟨putDs_len hl, putKs_ok hks hko, hL.put⟩
  exact hf.nx _ _ σ (nf_of q) ((e12.trans ee (Nat.le_refl _)).s (Nat.lt_succ_self _))
/-- what is found, or x -/
def pickOr (o : Option D) (x : D) (Q : D → Prop) : Prop := match o with
  | some d => d.own = false ∧ Q d
  | none => Q x
theorem pickOr_of {o : Option D} {x y : D} {Q : D → Prop} (h : o = some y ∨ o = none ∧ x = y) (hy : y.own = false) (q : Q y) : pickOr o x Q := by
  rcases h with rfl | ⟨rfl, rfl⟩
  · exact ⟨hy, q⟩
  · exact q
/-- d.get(k, x) -/
def rGet2 (ra rk : RO) (rx : RE) : RE := fun ρ E Q => ra ρ E fun a ρ0 => on1 ρ0 a fun dd0 => isDct dd0 = true ∧ rk ρ0 E fun k ρ1 => rx ρ1 E fun x ρ2 => on1 ρ2 a fun dd => on1 ρ2 k fun dk => match dd with
  | .dct _ t ks ds => keyOk t dk = true ∧ x.own = false ∧ pickOr (dLook t ks ds dk) x fun d => Q d ρ2
  | _ => False
where isDct : D → Bool
  | .dct _ _ _ _ => true
  | _ => false
theorem isD_of {K : PySem.W.Frag} {w : Wd} (wf : Wf w) {d : D} {ℓ : Loc} {v : V} (h : Rep K w d ℓ v) (e : rGet2.isDct d = true) : ∃ a, v = .ref a ∧ IsD w.H a := by
  cases d with
  | dct o t ks ds =>
    obtain ⟨a, vs, rfl, h1, _⟩ := dct_at wf h
    cases t with
    | true => exact ⟨a, rfl, .inr ⟨_, h1⟩⟩
    | false => exact ⟨a, rfl, .inl ⟨_, h1⟩⟩
  | _ => cases e
theorem fe_get2 {o k x : Expr} {ra rk : RO} {rx : RE} {cpos : Pos} (ho : FO X W o ra) (hk : FO X W k rk) (hx0 : FE X W x rx) (hu : X.A.units + 1 < cLine) (m : M2 X o "get" apos k x cpos := by exact ⟨rfl, rfl, rfl, rfl⟩) : FE X W (.Call (.Attribute o "get" apos) [k, x] [] cpos) (rGet2 ra rk rx) := by
  obtain ⟨t, p, l⟩ := ho.ex
  obtain ⟨t1, p1, l1⟩ := hk.ex
  obtain ⟨t2, p2', l2⟩ := hx0.ex
  refine ⟨_, pe_dget2 hu p p1 p2' m, fun τ w σ ρ E Q Qv hn st h hq hx => ?_⟩
  refine l τ w σ ρ E _ _ hn st h (fun a ρ0 w0 v0 h0 e0 r0 => ?_) hx
  obtain ⟨dd0, ea0, hD, h0⟩ := on1_elim h0
  obtain ⟨ℓ0, ra0⟩ := ad_get e0.st r0 ea0
  obtain ⟨ad, rfl, hD⟩ := isD_of e0.st.wf ra0 hD
  refine ⟨ad, rfl, hD, ?_⟩
  refine l1 (τ + 1) w0 σ ρ0 E _ _ (by rw [e0.len]; omega) e0.st h0 (fun ak ρ1 w1 v1 h1 e1 r1 => ?_) (hx.then e0 (Nat.le_succ _))
  have e01 := e0.trans e1 (Nat.le_succ _)
  refine l2 (τ + 2) w1 σ ρ1 E _ _ (by rw [e01.len]; omega) e1.st h1 (fun dx ρ2 w2 v2 h2 e2 r2 => ?_) (hx.then e01 (by omega))
  have e02 := e01.trans e2 (by omega)
  obtain ⟨dd, ed, h2⟩ := on1_elim h2
  obtain ⟨dk, ek, h2⟩ := on1_elim h2
  have r0' : AdAt X.K w2 σ a τ (.ref ad) := (r0.later (by rw [e0.len]; exact hn) e1).later (by rw [e01.len]; exact hn) (⟨e2.len, e2.st, e2.ext.mono (by omega)⟩)
  have r1' : AdAt X.K w2 σ ak (τ + 1) v1 := r1.later (by rw [e01.len]; omega) e2
  obtain ⟨ℓd, rd⟩ := ad_get e2.st r0' ed
  obtain ⟨ℓk, rk⟩ := ad_get e2.st r1' ek
  cases dd with
  | dct o t ks ds =>
    obtain ⟨hko, hxo, h2⟩ := h2
    obtain ⟨a', ea', g1, g2⟩ := dct_get e2.st.wf rd rk hko
    cases ea'
    cases eL : dLook t ks ds dk with
    | some d =>
      simp only [eL, pickOr] at h2
      obtain ⟨hd0, q⟩ := h2
      obtain ⟨z, i, g, rz⟩ := g1 d eL
      exact ⟨_, g, hq d ρ2 w2 z q e02 (rz.free (Same.refl _) d hd0)⟩
    | none =>
      simp only [eL, pickOr] at h2
      exact ⟨_, g2 eL, hq dx ρ2 w2 v2 h2 e02 (r2.free (Same.refl _) dx hxo)⟩
  | _ => exact h2.elim
end
end FL
namespace FL
open PySem PySem.Spec PyProof.Rows L2
open PySem.W (EachIs AllAlike dataLe)
/-- a row's data with its values, in order -/
abbrev PV := PyData × V
def sortPV (ps : List PV) : List PV := ps.mergeSort (dataLe false fun p => p.1)
structure SortPV (K : PySem.W.Frag) (H : Hp) (ps : List PV) : Prop where
  dp : ∀ p ∈ ps, Dp K H p.2 p.1
  al : AllAlike (ps.map fun p => p.1)
  so : PySem.W.Sortable (ps.map fun p => p.1)
  de : ∀ p ∈ ps, p.1.depth ≤ 50
  sz : ps.length ≤ sizeLine
theorem each_vals : ∀ {ps : List PV} {us : List Value}, Vals (ps.map fun p => p.2) us → EachIs (fun v (p : PV) => RelV p.2 v) us ps
  | [], us, h => by cases h; exact .nil
  | p :: ps, us, h => by
    cases h with
    | cons r rr => exact .cons r (each_vals rr)
theorem vals_each : ∀ {ps : List PV} {us : List Value}, EachIs (fun v (p : PV) => RelV p.2 v) us ps → Vals (ps.map fun p => p.2) us
  | _, _, .nil => .nil
  | _, _, .cons r rr => .cons r (vals_each rr)
theorem each_and {α β : Type} {R T : α → β → Prop} : ∀ {as : List α} {bs : List β}, EachIs R as bs → (∀ a b, b ∈ bs → R a b → T a b) → EachIs T as bs
  | _, _, .nil, _ => .nil
  | _, _, .cons r rr, h => .cons (h _ _ List.mem_cons_self r) (each_and rr fun a b hb q => h a b (List.mem_cons_of_mem _ hb) q)
theorem sortPV_len (ps : List PV) : (sortPV ps).length = ps.length := List.length_mergeSort ps
structure SortOk (ds : List D) : Prop where
  da : datL ds = true
  al : AllAlike (ds.map D.py)
  so : PySem.W.Sortable (ds.map D.py)
  de : ∀ d ∈ ds, d.dep ≤ 50
def sortD (ds : List D) : List D := ds.mergeSort (dataLe false D.py)
theorem sortD_mem {ds : List D} {d : D} : d ∈ sortD ds ↔ d ∈ ds := (List.mergeSort_perm ds _).mem_iff
theorem sortD_len (ds : List D) : (sortD ds).length = ds.length := List.length_mergeSort ds
theorem sortD_own {ds : List D} (h : ownL ds = false) : ownL (sortD ds) = false := ownL_iff.mpr fun d hd => ownL_iff.mp h d (sortD_mem.mp hd)
def pvOf (ds : List D) (vs : List V) : List PV := (ds.zip vs).map fun p => (p.1.py, p.2)
theorem pvOf_fst {ds : List D} {vs : List V} (h : vs.length = ds.length) : (pvOf ds vs).map (fun p => p.1) = ds.map D.py := by
  unfold pvOf
  rw [List.map_map]
  have : ((fun p : PV => p.1) ∘ fun p : D × V => ((p.1.py, p.2) : PV)) = D.py ∘ Prod.fst := rfl
  rw [this, ← List.map_map, List.map_fst_zip (by omega)]
def sortZ (zs : List (D × V)) : List (D × V) := zs.mergeSort (dataLe false fun p : D × V => p.1.py)
theorem sortZ_pv (ds : List D) (vs : List V) : sortPV (pvOf ds vs) = (sortZ (ds.zip vs)).map fun p => (p.1.py, p.2) := by
  unfold sortPV sortZ pvOf
  exact (List.map_mergeSort (r := dataLe false fun p : D × V => p.1.py) (s := dataLe false fun p : PV => p.1) (f := fun p : D × V => (p.1.py, p.2)) (fun a _ b _ => rfl)).symm
theorem sortZ_fst {ds : List D} {vs : List V} (h : vs.length = ds.length) : (sortZ (ds.zip vs)).map Prod.fst = sortD ds := by
  unfold sortZ sortD
  rw [List.map_mergeSort (r := dataLe false fun p : D × V => p.1.py) (s := dataLe false D.py) (f := Prod.fst) (fun a _ b _ => rfl), List.map_fst_zip (by omega)]
section
variable {K : PySem.W.Frag} {w : Wd}
theorem sorted_reps {ds : List D} {vs : List V} {ℓ ℓ' : Loc} {j : Nat} (ho : ownL ds = false) (h : RepL K w ds ℓ j vs) : RepL K w (sortD ds) ℓ' 0 ((sortPV (pvOf ds vs)).map fun p => p.2) := by
  rw [← sortZ_fst h.length, sortZ_pv, List.map_map]
  refine RepL.of (by rw [List.length_map, List.length_map]) fun i d v e1 e2 => ?_
  rw [List.getElem?_map] at e1 e2
  cases q : (sortZ (ds.zip vs))[i]? with
  | none => rw [q] at e1; cases e1
  | some z =>
    rw [q] at e1 e2
    cases e1; cases e2
    have hm : z ∈ ds.zip vs := (List.mergeSort_perm _ _).mem_iff.mp (List.mem_of_getElem? q)
    obtain ⟨n, hn⟩ := List.getElem?_of_mem hm
    obtain ⟨h1, h2⟩ := List.getElem?_zip_eq_some.mp hn
    obtain ⟨v', e3, r⟩ := h.get h1
    rw [h2] at e3; cases e3
    exact r.free (Same.refl _) z.1 (ownL_iff.mp ho z.1 (List.mem_of_getElem? h1))
theorem sortOk_pv (wf : Wf w) {ds : List D} {vs : List V} (S : SortOk ds) (hz : ds.length ≤ sizeLine) (h : ∀ ℓ j, RepL K w ds ℓ j vs) : SortPV K w.H (pvOf ds vs) := by
  have hl := (h [] 0).length
  have mem : ∀ p ∈ pvOf ds vs, ∃ d, d ∈ ds ∧ p.1 = d.py ∧ ∃ ℓ, Rep K w d ℓ p.2 := fun p hp => by
    obtain ⟨z, hm, rfl⟩ := List.mem_map.mp hp
    obtain ⟨n, hn⟩ := List.getElem?_of_mem hm
    obtain ⟨h1, h2⟩ := List.getElem?_zip_eq_some.mp hn
    obtain ⟨v', e3, r⟩ := (h [] 0).get h1
    rw [h2] at e3; cases e3
    exact ⟨z.1, List.mem_of_getElem? h1, rfl, _, r⟩
  refine ⟨fun p hp => ?_, by rw [pvOf_fst hl]; exact S.al, by rw [pvOf_fst hl]; exact S.so, fun p hp => ?_, ?_⟩
  · obtain ⟨d, hd, e, ℓ, r⟩ := mem p hp
    rw [e]
    exact rep_dp wf d (datL_all.mp S.da d hd) r
  · obtain ⟨d, hd, e, _⟩ := mem p hp
    rw [e, py_dep d (datL_all.mp S.da d hd)]
    exact S.de d hd
  · unfold pvOf
    rw [List.length_map, List.length_zip, hl, Nat.min_self]; exact hz
end
section
variable {X : Cx}
theorem sorted_src {pins : List (Addr × Obj)} {σ : L2.St} {H : Hp} {s : Shared} {Q : VK} {r d : Addr} {n : Nat} {P : Nat → Value → Prop} {OK : Heap → Prop} (K0 : PySem.W.KdlSrc X.prog X.w "dict" r d n P OK) (hc : X.calm = true) (hu : X.A.units + 64 < cLine) (hok : OK s.heap) (hn : n ≤ sizeLine) (I : Inv X pins σ H s)
    (conv : ∀ acc : Array Value, PySem.ItemsOf P acc n → ∃ ps : List PV, EachIs (fun v (p : PV) => RelV p.2 v) acc.toList ps ∧ SortPV X.K H ps ∧ ∀ l, H l = none → Q (.ref l) (upd H l (.lst ((sortPV ps).map fun p => p.2)))) :
    wpAny (model X.prog X.w) X.A (call (.builtin "sorted") [.ref r]) (EP X pins σ Q) X.xe s := by
  refine Calls.call_function_entry PyProof.Rows.kind_sorted PyProof.Rows.plain_sorted PyProof.Rows.entry_sorted (PyProof.Rows.args_sorted1 _) ?_
  unfold Builtin.«sorted»
  refine wpAny_bind (m := checkCount "sorted" 1 1 _) (wpAny_pure ?_)
  refine wpAny_bind (PySem.W.kdu_collect (A := X.A.in1) K0 (I.ok.hd hc) hok hn fun h' tk acc hk hacc => ?_)
  obtain ⟨ps, e, S, q⟩ := conv acc hacc
  have hl : acc.toList.length = ps.length := e.length
  have I1 : Inv X pins σ H { s with heap := h', toks := tk } := I.kept hk
  refine wpAny_bind (wpAny_newList ?_ (by rw [hl]; exact S.sz))
  have hoL : (h'.push (seqObj "list" acc.toList.toArray 0)).get? h'.objs.size = some (seqObj "list" acc.toList.toArray 0) := Heap.get?_push_size _ rfl
  show wpAny _ _ _ _ _ { s with heap := h'.push (seqObj "list" acc.toList.toArray 0), toks := tk }
  have old : ∀ b o, h'.get? b = some o → (PySem.W.sortingHeap (h'.push (seqObj "list" acc.toList.toArray 0)) h'.objs.size acc.toList).get? b = some o := fun b o eb =>
    PySem.W.sortingHeap_old (Nat.ne_of_lt (Heap.lt_size eb)) (Heap.get?_push_of_some _ eb)
  have er : EachIs (fun v (p : PV) => ∃ as, Reads (PySem.W.sortingHeap (h'.push (seqObj "list" acc.toList.toArray 0)) h'.objs.size acc.toList) v p.1 as) acc.toList ps := each_and e fun v p hp rp => by
    obtain ⟨as, r⟩ := Dp.reads I1 p.1 p.2 v (S.dp p hp) rp
    exact ⟨as, PyProof.Rows.Reads.keeps old r⟩
  have un : ∀ p ∈ ps, X.A.in1.in1.units + p.1.depth < cLine := fun p hp => by
    have h1 := S.de p hp
    have h2 : X.A.in1.in1.units ≤ X.A.units + 2 := Nat.le_refl _
    omega
  have body := PySem.W.SortsAt.data (prog := X.prog) (w := X.w) (A := X.A.in1.in1) (s := { s with heap := PySem.W.sortingHeap (h'.push (seqObj "list" acc.toList.toArray 0)) h'.objs.size acc.toList, toks := tk }) (PySem.W.each_map (R := fun v d => ∃ as, Reads (PySem.W.sortingHeap (h'.push (seqObj "list" acc.toList.toArray 0)) h'.objs.size acc.toList) v d as) (fun p : PV => p.1) er) S.al S.so (PySem.W.bound_map un)
  refine wpAny_bind (wpAny_holding (wpAny_call_entry PyProof.Rows.slot_list_sort ⟨_, hoL, rfl⟩ PyProof.Rows.entry_list_sort
    (PySem.W.list_sort_vals (s := { s with heap := h'.push (seqObj "list" acc.toList.toArray 0), toks := tk }) hoL body (by rw [hl]; exact S.sz) ⟨_, rfl, ?_⟩) (PyProof.Rows.args_list_sort _)))
  have eo := PySem.W.sortVals_data (R := fun v (p : PV) => RelV p.2 v) (enc := fun p : PV => p.1) false e er S.al
  obtain ⟨c, hc2⟩ := sortedHeap_at (vs := acc.toList) (out := (PySem.W.sortVals (PySem.W.dataKind (PySem.W.sortingHeap (h'.push (seqObj "list" acc.toList.toArray 0)) h'.objs.size acc.toList) (ps.map fun p => p.1)) false acc.toList acc.toList).toArray) hoL
  have hlen : ((sortPV ps).map fun p => p.2).length ≤ sizeLine := by rw [List.length_map, sortPV_len]; exact S.sz
  refine wpAny_pure ⟨_, rfl, .ref h'.objs.size, _, I1.laid (t' := tk) (o := .lst ((sortPV ps).map fun p => p.2)) (fun b u eb => ?_) (Nat.le_refl _) ⟨hlen, _, c, vals_each eo, hc2⟩, rfl, q _ (I1.hok.fresh (Nat.le_refl _))⟩
  have hb : b < h'.objs.size := Heap.lt_size eb
  rw [sortedHeap_old (Nat.ne_of_lt hb) (by rw [size_push']; exact Nat.lt_succ_of_lt hb)]
  exact Heap.get?_push_of_some _ eb
end
def keyPy : Key → PyData
  | .inl i => .int i
  | .inr x => .str x
def ktPy (k : List Key) : PyData := .tuple (k.map keyPy)
/-- what stands at key addresses -/
def rSortDT (K : PySem.W.Frag) : List V → Hp → VK → Prop := fun vs H Q => ∃ d kvs, vs = [V.ref d] ∧ Rd H d (.dT kvs) ∧ ∀ bs, IsKeys H kvs bs → SortPV K H ((kvs.map fun p => ktPy p.1).zip (bs.map V.ref)) ∧
  ∀ l, H l = none → Q (.ref l) (upd H l (.lst ((sortPV ((kvs.map fun p => ktPy p.1).zip (bs.map V.ref))).map fun p => p.2)))
section
variable {X : Cx}
theorem entries_at {es : Array DictEntry} {xs : List (List Key × Addr × Value)} {f : (List Key × Addr × Value) → DictEntry} (he : es.toList = xs.map f) (j : Nat) : es[j]? = (xs[j]?).map f := by
  rw [← Array.getElem?_toList, he, List.getElem?_map]
theorem cr_sortDT (hc : X.calm = true) (hu : X.A.units + 64 < cLine) : CallR X (.builtin "sorted") (rSortDT X.K) := by
  intro pins s σ H vs us Q I rr hyp
  obtain ⟨d, kvs, rfl, hd, q⟩ := hyp
  rw [Vals.ref1 rr]
  obtain ⟨hz, hs, xs, pr, o, es, ep, ho, hx, hdt, he, hn⟩ := (show ObjOk X.prog X.w H s.heap d (.dT kvs) from hd.ok I.hok)
  have l1 : es.size = xs.length := by rw [← Array.length_toList, he, List.length_map]
  have l2 : kvs.length = xs.length := Paired.length pr
  refine sorted_src (kdl_raw hs hx hdt) hc hu ho (by omega) I fun acc hacc => ?_
  have kk := isKeys_of pr
  obtain ⟨S, q⟩ := q _ kk
  refine ⟨_, ?_, S, q⟩
  have ea : acc.toList = (xs.map fun x => x.2.1).map Value.ref := by
    apply List.ext_getElem?
    intro j
    rw [List.getElem?_map, List.getElem?_map]
    cases hj : acc.toList[j]? with
    | none =>
      have h1 := List.getElem?_eq_none_iff.mp hj
      have h2 : acc.toList.length = es.size := by rw [Array.length_toList]; exact hacc.1
      rw [List.getElem?_eq_none (by omega)]; rfl
    | some v =>
      obtain ⟨en, hen, hv⟩ := hacc.2 j v (by rw [← Array.getElem?_toList]; exact hj)
      rw [entries_at he] at hen
      cases hb : xs[j]? with
      | none => rw [hb] at hen; cases hen
      | some b =>
        rw [hb] at hen
        have e2 : en = entryOfKey (tupleKind (mixKind X.prog X.w)) b := (Option.some.inj hen).symm
        rw [hv, e2]; rfl
  refine each_vals ?_
  rw [List.map_snd_zip (by rw [List.length_map, List.length_map, List.length_map]; omega), ea]
  exact vals_refs _
end
def Wd.adopt (w : Wd) (bs : List Addr) : Wd := ⟨w.G, fun a => if a ∈ bs then w.H a else w.S a, w.H⟩
section
variable {K : PySem.W.Frag} {w : Wd} {bs : List Addr}
theorem adopt_same (wf : Wf w) : Same w.S (w.adopt bs).S := fun a o e => by
  show (if a ∈ bs then w.H a else w.S a) = some o
  split
  · exact wf.sh a o e
  · exact e
theorem Wf.adopt (wf : Wf w) (h : ∀ b ∈ bs, ∃ vs, w.H b = some (.tup vs)) : Wf (w.adopt bs) := by
  refine ⟨fun a o e => ?_, fun a ℓ e => ?_⟩
  · have e : (if a ∈ bs then w.H a else w.S a) = some o := e
    split at e
    · exact e
    · exact wf.sh a o e
  · obtain ⟨h1, h2⟩ := wf.tg a ℓ e
    refine ⟨?_, h2⟩
    show (if a ∈ bs then w.H a else w.S a) = none
    by_cases hb : a ∈ bs
    · obtain ⟨vs, q⟩ := h a hb
      rw [q] at h2
      exact h2.elim
    · rw [if_neg hb]; exact h1
theorem EndE.adopt {σ : Sl} {ρ : En} {τ : Nat} (st : StE K w σ ρ) (h : ∀ b ∈ bs, ∃ vs, w.H b = some (.tup vs)) : EndE K τ w σ ρ ρ (w.adopt bs) :=
  ⟨rfl, st.to (st.wf.adopt h) (adopt_same st.wf) fun i hi a s e => ⟨e, rfl⟩, ⟨adopt_same st.wf, fun a ℓ e _ => ⟨e, rfl⟩⟩⟩
end
theorem skey_py {d : D} (h : isSKey d = true) : keyPy (skey d) = d.py := by
  cases d <;> first | rfl | cases h
theorem tkey_py {d : D} (h : isTKey d = true) : ktPy (tkey d) = d.py := by
  cases d with
  | tup o cs =>
    have h : cs.all isSKey = true := h
    show PyData.tuple ((cs.map skey).map keyPy) = .tuple (pyL cs)
    have key : ∀ cs : List D, cs.all isSKey = true → (cs.map skey).map keyPy = pyL cs := fun cs => by
      induction cs with
      | nil => intro _; rfl
      | cons c r ih =>
        intro h
        simp only [List.all_cons, Bool.and_eq_true] at h
        simp only [List.map_cons, pyL, skey_py h.1]
        rw [ih h.2]
    rw [key cs h]
  | _ => cases h
theorem skey_rep {K : PySem.W.Frag} {w : Wd} {d : D} (h : isSKey d = true) {ℓ : Loc} : Rep K w d ℓ (kV (skey d)) := by
  cases d <;> first | rfl | cases h
theorem skeys_rep {K : PySem.W.Frag} {w : Wd} : ∀ {cs : List D} {ℓ : Loc} {j : Nat}, cs.all isSKey = true → RepL K w cs ℓ j ((cs.map skey).map kV)
  | [], _, _, _ => rfl
  | c :: r, ℓ, j, h => by
    simp only [List.all_cons, Bool.and_eq_true] at h
    simp only [List.map_cons, RepL]
    exact ⟨_, _, rfl, skey_rep h.1, skeys_rep h.2⟩
theorem skeys_own {cs : List D} (h : cs.all isSKey = true) : ownL cs = false := ownL_iff.mpr fun d hd => by
  have := List.all_eq_true.mp h d hd
  cases d <;> first | rfl | cases this
theorem paired_at {α β : Type} {R : α → β → Prop} : ∀ {as : List α} {bs : List β}, Paired R as bs → ∀ {i : Nat} {a : α} {b : β}, as[i]? = some a → bs[i]? = some b → R a b
  | _, _, .nil, i, a, b, h, _ => by simp at h
  | _, _, .cons q t, 0, a, b, h, g => by cases h; cases g; exact q
  | _, _, .cons q t, i + 1, a, b, h, g => paired_at t (i := i) (by simpa using h) (by simpa using g)
/-- sorted(d), d's keys tuples -/
def dSortD : DC
  | [.dct _ t ks _], Q => t = true ∧ ownL ks = false ∧ (∀ k ∈ ks, k.kids.length ≤ 1000) ∧ ks.length ≤ sizeLine ∧ SortOk ks ∧ Q (.lst .flat (sortD ks))
  | _, _ => False
section
variable {X : Cx}
theorem fc_sortD (hu : X.A.units + 64 < cLine) (hc : X.calm = true := by rfl) : FC X (.builtin "sorted") dSortD := by
  refine ⟨_, cr_sortDT hc hu, fun τ w σ ρ vs ds Q Qv hn st rs hd hq => ?_⟩
  unfold dSortD at hd
  split at hd
  · rename_i o t ks dd
    obtain ⟨rfl, ho, hk, hz, S, q⟩ := hd
    obtain ⟨v, ℓ, rfl, r⟩ := reps1 rs
    obtain ⟨a, us, rfl, h1, hl, hks, h2⟩ := dct_at st.wf r
    have hT : ∀ k ∈ ks, isTKey k = true := fun k hk => by
      unfold keysOk at hks
      simp only [Bool.and_eq_true] at hks
      exact List.all_eq_true.mp hks.1 k hk
    have e1 : ((ks.map tkey).zip us).map (fun p => ktPy p.1) = ks.map D.py := by
      have : (fun p : List Key × V => ktPy p.1) = ktPy ∘ Prod.fst := rfl
      rw [this, ← List.map_map, List.map_fst_zip (by rw [List.length_map]; omega), List.map_map]
      exact List.map_congr_left fun k hk => tkey_py (hT k hk)
    refine ⟨a, (ks.map tkey).zip us, rfl, h1, fun bs hbs => ?_⟩
    have lb : bs.length = ks.length := by
      have := Paired.length hbs
      rw [List.length_zip, List.length_map] at this
      omega
    have hb : ∀ (i : Nat) (b : Addr) (k : D), bs[i]? = some b → ks[i]? = some k → w.H b = some (.tup ((tkey k).map kV)) := fun i b k e2 e3 => by
      have hi := (List.getElem?_eq_some_iff.mp e3).1
      have e4 : us[i]? = some us[i] := List.getElem?_eq_getElem (by omega)
      have e5 : ((ks.map tkey).zip us)[i]? = some (tkey k, us[i]) := by
        rw [List.getElem?_zip_eq_some]
        exact ⟨by rw [List.getElem?_map, e3]; rfl, e4⟩
      exact paired_at hbs e5 e2
    have hall : ∀ b ∈ bs, ∃ vs, w.H b = some (.tup vs) := fun b hm => by
      obtain ⟨i, e2⟩ := List.getElem?_of_mem hm
      have hi := (List.getElem?_eq_some_iff.mp e2).1
      exact ⟨_, hb i b _ e2 (List.getElem?_eq_getElem (by omega))⟩
    have ea := EndE.adopt (τ := τ) st hall
    have rl : ∀ ℓ j, RepL X.K (w.adopt bs) ks ℓ j (bs.map V.ref) := fun ℓ j => RepL.of (by rw [List.length_map]; exact lb) fun i k v e2 e3 => by
      rw [List.getElem?_map] at e3
      cases e4 : bs[i]? with
      | none => rw [e4] at e3; cases e3
      | some b =>
        rw [e4] at e3
        cases e3
        have hm := List.mem_of_getElem? e2
        have kT := hT k hm
        have kz := hk k hm
        have ko := ownL_iff.mp ho k hm
        have hH := hb i b k e4 e2
        cases k with
        | tup o' cs =>
          have ko : o' = false := ko
          subst ko
          have kT : cs.all isSKey = true := kT
          have kz : cs.length ≤ 1000 := kz
          simp only [Rep]
          refine ⟨b, (cs.map skey).map kV, rfl, ?_, ⟨by rw [sizeLine_eq]; omega, fun _ => skeys_own kT⟩, skeys_rep kT⟩
          show (if b ∈ bs then w.H b else w.S b) = _
          rw [if_pos (List.mem_of_getElem? e4)]
          exact hH
        | _ => cases kT
    have ps : (((ks.map tkey).zip us).map fun p => ktPy p.1).zip (bs.map V.ref) = pvOf ks (bs.map V.ref) := by
      rw [e1]
      unfold pvOf
      rw [List.zip_map_left]
      rfl
    rw [ps]
    refine ⟨sortOk_pv (K := X.K) (w := w.adopt bs) ea.st.wf S hz rl, fun l nl => ?_⟩
    obtain ⟨e, r⟩ := EndE.own (τ := τ) .flat ea.st nl (sorted_reps (ℓ' := [τ]) ho (rl [] 0)) (by rw [sortD_len]; exact hz) (fun _ => sortD_own ho) rfl
    exact hq _ _ _ q (ea.trans e (Nat.le_refl _)) r
  · exact hd.elim
end
end FL
namespace FL
open PySem PySem.Spec PyProof.Rows L2
end FL
namespace FL
open PySem PySem.Spec PyProof.Rows L2
def slotO (ρ : En) (a : Nat) : Option D := match ρ[a]? with
  | some o => o
  | none => none
def readA (ρ : En) : List Nat → En
  | [] => []
  | a :: A => slotO ρ a :: readA ρ A
def putA (ρ : En) : List Nat → En → En
  | a :: A, s :: S => (putA ρ A S).set a s
  | _, _ => ρ
/-- slots A hold s, slots J anything -/
def putJ (ρ : En) (A J : List Nat) (s j : En) : En := putA (putA ρ J j) A s
theorem readA_len (ρ : En) : ∀ A : List Nat, (readA ρ A).length = A.length
  | [] => rfl
  | a :: A => by simp [readA, readA_len ρ A]
theorem len0 {α : Type} {l : List α} (h : l.length = 0) : l = [] := List.length_eq_zero_iff.mp h
theorem len1 {α : Type} {l : List α} (h : l.length = 1) : ∃ a, l = [a] := by match l, h with | [a], _ => exact ⟨a, rfl⟩
theorem len2 {α : Type} {l : List α} (h : l.length = 2) : ∃ a b, l = [a, b] := by match l, h with | [a, b], _ => exact ⟨a, b, rfl⟩
theorem len3 {α : Type} {l : List α} (h : l.length = 3) : ∃ a b c, l = [a, b, c] := by match l, h with | [a, b, c], _ => exact ⟨a, b, c, rfl⟩
theorem len4 {α : Type} {l : List α} (h : l.length = 4) : ∃ a b c d, l = [a, b, c, d] := by match l, h with | [a, b, c, d], _ => exact ⟨a, b, c, d, rfl⟩
theorem len5 {α : Type} {l : List α} (h : l.length = 5) : ∃ a b c d e, l = [a, b, c, d, e] := by match l, h with | [a, b, c, d, e], _ => exact ⟨a, b, c, d, e, rfl⟩
theorem len6 {α : Type} {l : List α} (h : l.length = 6) : ∃ a b c d e f, l = [a, b, c, d, e, f] := by match l, h with | [a, b, c, d, e, f], _ => exact ⟨a, b, c, d, e, f, rfl⟩
theorem forR_on {body : D → RS} {E : EE} {F : Fin} (A J : List Nat) (I : Nat → En → Prop) (ds : List D) (ρ0 : En) (h0 : I 0 (readA ρ0 A))
    (step : ∀ i d s j, ds[i]? = some d → j.length = J.length → I i s → nf (putJ ρ0 A J s j) fun ρ => body d ρ E (F.lp fun ρ' => ρ' = putJ ρ0 A J (readA ρ' A) (readA ρ' J) ∧ I (i + 1) (readA ρ' A)))
    (fin : ∀ s j, j.length = J.length → I ds.length s → nf (putJ ρ0 A J s j) F.nx) (e0 : ρ0 = putJ ρ0 A J (readA ρ0 A) (readA ρ0 J) := by rfl) : forR body ds ρ0 E F := by
  refine forR_inv (fun k ρ' => ρ' = putJ ρ0 A J (readA ρ' A) (readA ρ' J) ∧ I k (readA ρ' A)) ds 0 ρ0 ⟨e0, h0⟩ (fun i d ρ hd h => ?_) fun ρ h => ?_
  · rw [Nat.zero_add] at h ⊢
    have := nf_of (step i d _ _ hd (readA_len ρ J) h.2)
    rw [← h.1] at this
    exact this
  · rw [Nat.zero_add] at h
    have := nf_of (fin _ _ (readA_len ρ J) h.2)
    rw [← h.1] at this
    exact this
theorem cut_on {r : RS} {ρ0 : En} {E : EE} {F : Fin} (A J : List Nat) (I : En → Prop) (h : r ρ0 E (F.wn fun ρ' => ρ' = putJ ρ0 A J (readA ρ' A) (readA ρ' J) ∧ I (readA ρ' A))) (fin : ∀ s j, j.length = J.length → I s → nf (putJ ρ0 A J s j) F.nx) : CutG r ρ0 E F :=
  ⟨⟨_, h, fun ρ' h => by
    have := nf_of (fin _ _ (readA_len ρ' J) h.2)
    rw [← h.1] at this
    exact this⟩⟩
theorem compR_on {f : D → En → (Option D → En → Prop) → Prop} {vs : List Nat} {Q : Ow → List D → En → Prop} (A : List Nat) (I : Nat → List D → En → Prop) (ds : List D) (ρ0 : En) (h0 : I 0 [] (readA ρ0 A))
    (step : ∀ i d acc s, ds[i]? = some d → I i acc s → nf (putA ρ0 A s) fun ρ => f d ρ fun o ρ' => (∀ y, o = some y → y.own = false) ∧ wipeD ρ' vs = putA ρ0 A (readA (wipeD ρ' vs) A) ∧ I (i + 1) (acc ++ o.toList) (readA (wipeD ρ' vs) A))
    (fin : ∀ acc s, I ds.length acc s → nf (putA ρ0 A s) (Q .flat acc)) (e0 : ρ0 = putA ρ0 A (readA ρ0 A) := by rfl) : compR f vs ds ρ0 .flat [] Q := by
  refine compR_flat (fun k acc ρ' => ρ' = putA ρ0 A (readA ρ' A) ∧ I k acc (readA ρ' A)) ds 0 [] ρ0 ⟨e0, h0⟩ (fun i d acc ρ hd h => ?_) fun acc ρ h => ?_
  · rw [Nat.zero_add] at h ⊢
    have := nf_of (step i d acc _ hd h.2)
    rw [← h.1] at this
    exact this
  · rw [Nat.zero_add] at h
    have := nf_of (fin _ _ h.2)
    rw [← h.1] at this
    exact this
/-- the box of a law's draws -/
structure Bx where
  a : Int
  m : Int
  c : Int
  h : 0 ≤ a
def bxD (b : Bx) : D := .lst .flat [.int b.a, .int b.m, .int b.c]
/-- a comprehension each of whose parts is drawn from the box of slot j -/
theorem compR_drawK {α : Type} {f : D → En → (Option D → En → Prop) → Prop} {vs : List Nat} {Q : Ow → List D → En → Prop} (j : Nat) (enc : α → D) (P : Nat → α → Prop) (ρ0 : En) (ho : ∀ x, (enc x).own = false) : ∀ (ds : List D) (k : Nat) (acc : List D) (b0 : Bx) (ρ : En), ρ = putA ρ0 [j] [some (bxD b0)] →
    (∀ i d (b : Bx), ds[i]? = some d → nf (putA ρ0 [j] [some (bxD b)]) fun ρ => f d ρ fun o ρ' => ∃ (x : α) (b' : Bx), o = some (enc x) ∧ P (k + i) x ∧ wipeD ρ' vs = putA ρ0 [j] [some (bxD b')]) →
    (∀ (xs : List α) (b : Bx), xs.length = ds.length → (∀ i x, xs[i]? = some x → P (k + i) x) → nf (putA ρ0 [j] [some (bxD b)]) (Q .flat (acc ++ xs.map enc))) → compR f vs ds ρ .flat acc Q
  | [], k, acc, b0, ρ, e, _, q => by
    have := nf_of (q [] b0 rfl (fun i x h => by simp at h))
    rw [← e] at this
    simpa [compR] using this
  | d :: ds, k, acc, b0, ρ, e, hs, q => by
    have h1 := nf_of (hs 0 d b0 rfl)
    rw [← e] at h1
    refine ⟨_, h1, fun o ρ' ⟨x, b', eo, hp, ew⟩ => ?_⟩
    subst eo
    have : kindR .flat (some (enc x)) = .flat := by simp only [kindR, ho x]
    rw [this]
    refine compR_drawK j enc P ρ0 ho ds (k + 1) _ b' _ ew (fun i d' b hd => ?_) fun xs b hl hx => ?_
    · have := hs (i + 1) d' b (by simpa using hd)
      rw [show k + (i + 1) = k + 1 + i by omega] at this
      exact this
    · have := q (x :: xs) b (by simp [hl]) fun i y hy => by
        cases i with
        | zero => cases hy; exact hp
        | succ i => have := hx i y (by simpa using hy); rwa [show k + 1 + i = k + (i + 1) by omega] at this
      simpa [List.append_assoc] using this
theorem compR_draw {α : Type} {f : D → En → (Option D → En → Prop) → Prop} {vs : List Nat} {Q : Ow → List D → En → Prop} (j : Nat) (enc : α → D) (P : Nat → α → Prop) (ds : List D) (ρ0 : En) (b0 : Bx) (ho : ∀ x, (enc x).own = false)
    (step : ∀ i d (b : Bx), ds[i]? = some d → nf (putA ρ0 [j] [some (bxD b)]) fun ρ => f d ρ fun o ρ' => ∃ (x : α) (b' : Bx), o = some (enc x) ∧ P i x ∧ wipeD ρ' vs = putA ρ0 [j] [some (bxD b')])
    (fin : ∀ (xs : List α) (b : Bx), xs.length = ds.length → (∀ i x, xs[i]? = some x → P i x) → nf (putA ρ0 [j] [some (bxD b)]) (Q .flat (xs.map enc))) (e0 : ρ0 = putA ρ0 [j] [some (bxD b0)] := by rfl) : compR f vs ds ρ0 .flat [] Q :=
  compR_drawK j enc P ρ0 ho ds 0 [] b0 ρ0 e0 (fun i d b h => by rw [Nat.zero_add]; exact step i d b h) fun xs b hl hx => fin xs b hl fun i x h => by have := hx i x h; rwa [Nat.zero_add] at this
end FL
namespace FL
open PySem PySem.Spec PyProof.Rows L2
end FL
namespace FL
open PySem PySem.Spec PyProof.Rows L2
structure Sm (d : D) (n : Nat) : Prop where
  dat : d.dat = true
  dep : d.dep ≤ n
def SmL (ds : List D) (n : Nat) : Prop := ∀ d ∈ ds, Sm d n
theorem SmL.nil {n : Nat} : SmL [] n := fun d h => (nomatch h)
theorem SmL.cons {d : D} {ds : List D} {n : Nat} (h : Sm d n) (k : SmL ds n) : SmL (d :: ds) n := fun e he => by
  rcases List.mem_cons.mp he with rfl | he
  · exact h
  · exact k e he
theorem SmL.app {ds es : List D} {n : Nat} (h : SmL ds n) (k : SmL es n) : SmL (ds ++ es) n := fun e he => by
  rcases List.mem_append.mp he with he | he
  · exact h e he
  · exact k e he
theorem SmL.map {α : Type} {f : α → D} {xs : List α} {n : Nat} (h : ∀ x ∈ xs, Sm (f x) n) : SmL (xs.map f) n := fun d hd => by
  obtain ⟨x, hx, rfl⟩ := List.mem_map.mp hd
  exact h x hx
theorem SmL.dat {ds : List D} {n : Nat} (h : SmL ds n) : datL ds = true := datL_all.mpr fun d hd => (h d hd).dat
theorem SmL.dep {ds : List D} {n : Nat} (h : SmL ds n) : depL ds ≤ n := depL_le fun d hd => (h d hd).dep
theorem Sm.mono {d : D} {n m : Nat} (h : Sm d n) (k : n ≤ m) : Sm d m := ⟨h.dat, Nat.le_trans h.dep k⟩
theorem SmL.mono {ds : List D} {n m : Nat} (h : SmL ds n) (k : n ≤ m) : SmL ds m := fun d hd => (h d hd).mono k
theorem Sm.int {i : Int} {n : Nat} : Sm (.int i) n := ⟨rfl, Nat.zero_le _⟩
theorem Sm.bl {i : Bool} {n : Nat} : Sm (.bl i) n := ⟨rfl, Nat.zero_le _⟩
theorem Sm.non {n : Nat} : Sm .non n := ⟨rfl, Nat.zero_le _⟩
theorem Sm.str {i : Str} {n : Nat} : Sm (.str i) n := ⟨rfl, Nat.zero_le _⟩
theorem Sm.lst {o : Ow} {ds : List D} {n : Nat} (h : SmL ds n) : Sm (.lst o ds) (n + 1) := ⟨h.dat, Nat.succ_le_succ h.dep⟩
theorem Sm.tup {o : Bool} {ds : List D} {n : Nat} (h : SmL ds n) : Sm (.tup o ds) (n + 1) := ⟨h.dat, Nat.succ_le_succ h.dep⟩
theorem Sm.ro {o : Bool} {ds : List D} {n : Nat} (h : SmL ds n) : Sm (.ro o ds) (n + 1) := ⟨h.dat, Nat.succ_le_succ h.dep⟩
/-- each part by itself -/
theorem compR_allE {α : Type} {f : D → En → (Option D → En → Prop) → Prop} {vs : List Nat} {Q : Ow → List D → En → Prop} {ds : List D} {ρ : En} (xs : List α) (g h : α → D) (e : ds = xs.map g)
    (k : ∀ x ∈ xs, f (g x) ρ fun o ρ' => o = some (h x) ∧ wipeD ρ' vs = ρ) (ho : ∀ x, (h x).own = false) (q : Q .flat (xs.map h) ρ) : compR f vs ds ρ .flat [] Q := by
  subst e
  exact compR_all g h xs ρ k ho q
/-- those parts that p takes -/
theorem compR_if {α : Type} {f : D → En → (Option D → En → Prop) → Prop} {vs : List Nat} {Q : Ow → List D → En → Prop} {ds : List D} {ρ : En} (xs : List α) (g : α → D) (p : α → Bool) (h : α → D) (e : ds = xs.map g)
    (k : ∀ x ∈ xs, f (g x) ρ fun o ρ' => (o = if p x then some (h x) else none) ∧ wipeD ρ' vs = ρ) (ho : ∀ x, (h x).own = false) (q : Q .flat ((xs.filter p).map h) ρ) : compR f vs ds ρ .flat [] Q := by
  subst e
  refine compR_map g (fun x => if p x then some (h x) else none) xs [] ρ k (fun x _ y e => by split at e <;> cases e; exact ho x) ?_
  have : xs.filterMap (fun x => if p x then some (h x) else none) = (xs.filter p).map h := by
    clear k q
    induction xs with
    | nil => rfl
    | cons x xs ih => rw [List.filterMap_cons, List.filter_cons]; cases p x <;> simp [ih]
  rw [List.nil_append, this]
  exact q
/-- parts that are owned -/
theorem compR_ownK {α : Type} {f : D → En → (Option D → En → Prop) → Prop} {vs : List Nat} {Q : Ow → List D → En → Prop} {ρ : En} (g h : α → D) (ho : ∀ x, (h x).own = true) : ∀ (xs : List α) (k : Ow) (acc : List D),
    (∀ x ∈ xs, f (g x) ρ fun o ρ' => o = some (h x) ∧ wipeD ρ' vs = ρ) → Q (match xs with | [] => k | _ => .deep) (acc ++ xs.map h) ρ → compR f vs (xs.map g) ρ k acc Q
  | [], k, acc, _, q => by simpa [compR] using q
  | x :: xs, k, acc, hs, q => by
    refine ⟨_, hs x List.mem_cons_self, fun o ρ' ⟨e1, e2⟩ => ?_⟩
    subst e1
    have : kindR k (some (h x)) = .deep := by simp only [kindR, ho x]
    rw [this, e2]
    refine compR_ownK g h ho xs .deep _ (fun y hy => hs y (List.mem_cons_of_mem _ hy)) ?_
    have e : acc ++ (some (h x)).toList ++ xs.map h = acc ++ (x :: xs).map h := by simp
    rw [e]
    cases xs <;> exact q
theorem compR_own {α : Type} {f : D → En → (Option D → En → Prop) → Prop} {vs : List Nat} {Q : Ow → List D → En → Prop} {ds : List D} {ρ : En} (xs : List α) (g h : α → D) (e : ds = xs.map g) (hne : xs ≠ [])
    (k : ∀ x ∈ xs, f (g x) ρ fun o ρ' => o = some (h x) ∧ wipeD ρ' vs = ρ) (ho : ∀ x, (h x).own = true) (q : Q .deep (xs.map h) ρ) : compR f vs ds ρ .flat [] Q := by
  subst e
  refine compR_ownK g h ho xs .flat [] k ?_
  cases xs with
  | nil => exact absurd rfl hne
  | cons x xs => exact q
/-- an int, or nothing yet -/
def isI (o : Option D) : Prop := o = none ∨ ∃ i : Int, o = some (.int i)
theorem isI.i {i : Int} : isI (some (.int i)) := .inr ⟨i, rfl⟩
end FL
namespace PySem
open PySem PySem.Spec PyProof.Rows RT
end PySem
namespace FL
open PySem PySem.Spec PyProof.Rows L2 RT
end FL
namespace FL
open PySem PySem.Spec PyProof.Rows L2 RT
end FL
namespace FL
open PySem PySem.Spec PyProof.Rows L2 RT
def D.atS : D → List Nat → Option D
  | d, [] => some d
  | .tup _ ds, j :: p => match ds[j]? with
    | some e => e.atS p
    | none => none
  | .lst _ ds, j :: p => match ds[j]? with
    | some e => e.atS p
    | none => none
  | .ins _ _ _ ds, j :: p => match ds[j]? with
    | some e => e.atS p
    | none => none
  | .dct _ _ _ ds, j :: p => match ds[j]? with
    | some e => e.atS p
    | none => none
  | _, _ :: _ => none
section
variable {K : PySem.W.Frag} {w w' : Wd}
theorem AtV.to {d e : D} {ℓ : Loc} {v u : V} {p : List Nat} (hs : Same w.S w'.S) (h : AtV K w d ℓ v p e u) : ∀ {ℓ' : Loc}, KeptTo w w' ℓ ℓ' → AtV K w' d ℓ' v p e u := by
  induction h with
  | here => exact fun _ => .here
  | down h1 h2 h3 h4 h5 _ ih =>
    intro ℓ' k
    refine .down h1 (h2.later hs fun z => by simpa using k _ [] (by simpa using z)) h3 h4 h5 (ih (k.sub _))
/-- one step down from a place -/
theorem AtV.snoc {d e c : D} {ℓ : Loc} {v u x : V} {p : List Nat} {j : Nat} (h : AtV K w d ℓ v p e u) : AtV K w e (ℓ ++ p) u [j] c x → AtV K w d ℓ v (p ++ [j]) c x := by
  induction h with
  | here => intro g; rw [List.append_nil] at g; exact g
  | down h1 h2 h3 h4 h5 _ ih => intro g; exact .down h1 h2 h3 h4 h5 (ih (by rw [List.append_assoc]; exact g))
theorem hold {σ : Sl} {ρ : En} {i τ : Nat} {d0 dn : D} {v0 u : V} {p : List Nat} (st : StE K w σ ρ) (hi : ρ[i]? = some (some d0)) (hv : σ[i]? = some (some v0)) (at0 : AtV K w d0 [i + 1] v0 p dn u) (hτ : ρ.length < τ) :
    StE K (w.ren (moveT (i + 1) [τ])) σ (ρ.set i none) ∧ ∀ ρ1 w1, EndE K (τ + 1) (w.ren (moveT (i + 1) [τ])) σ (ρ.set i none) ρ1 w1 →
      EndE K τ w σ ρ (ρ1.set i (some d0)) (w1.ren (moveT τ [i + 1])) ∧ AtV K (w1.ren (moveT τ [i + 1])) d0 [i + 1] v0 p dn u ∧ ∀ d v h s, h ≠ τ → Rep K w1 d (h :: s) v → Rep K (w1.ren (moveT τ [i + 1])) d (h :: s) v := by
  have hin := (List.getElem?_eq_some_iff.mp hi).1
  obtain ⟨v0', ev', r0⟩ := st.rep i d0 hi
  rw [hv] at ev'; cases ev'
  have kt : KeptTo w (w.ren (moveT (i + 1) [τ])) [i + 1] [τ] := KeptTo.ren fun s => moveT_at
  refine ⟨⟨st.wf.ren _, by rw [List.length_set]; exact st.len, fun k d e => ?_⟩, fun ρ1 w1 e1 => ?_⟩
  · by_cases hk : k = i
    · subst hk
      rw [List.getElem?_set_self hin] at e
      cases e
    · rw [List.getElem?_set_ne (Ne.symm hk)] at e
      obtain ⟨v, e2, r⟩ := st.rep k d e
      exact ⟨v, e2, r.mv (by omega)⟩
  · have hl : ρ1.length = ρ.length := by rw [e1.len, List.length_set]
    have fx : ∀ a s, (w.ren (moveT (i + 1) [τ])).G a = some (τ :: s) → w1.G a = some (τ :: s) ∧ w1.H a = (w.ren (moveT (i + 1) [τ])).H a := fun a s e => e1.ext.f a _ e ⟨τ, s, rfl, .inr ⟨by rw [List.length_set]; exact hτ, Nat.lt_succ_self _⟩⟩
    have k1 : KeptTo (w.ren (moveT (i + 1) [τ])) w1 [τ] [τ] := fun a s e => fx a s e
    have k2 : KeptTo w1 (w1.ren (moveT τ [i + 1])) [τ] [i + 1] := KeptTo.ren fun s => moveT_at
    have r1 : Rep K w1 d0 [τ] v0 := (r0.ren fun s => moveT_at).to e1.ext.s d0 k1
    have r2 : Rep K (w1.ren (moveT τ [i + 1])) d0 [i + 1] v0 := r1.ren fun s => moveT_at
    have st2 : StE K (w1.ren (moveT τ [i + 1])) σ (ρ1.set i (some d0)) := ⟨e1.st.wf.ren _, by rw [List.length_set]; exact e1.st.len, fun k d e => by
      by_cases hk : k = i
      · subst hk
        rw [List.getElem?_set_self (by omega)] at e
        cases e
        exact ⟨v0, hv, r2⟩
      · rw [List.getElem?_set_ne (Ne.symm hk)] at e
        obtain ⟨v, e2, r⟩ := e1.st.rep k d e
        have := (List.getElem?_eq_some_iff.mp e).1
        exact ⟨v, e2, r.mv (by omega)⟩⟩
    refine ⟨⟨by rw [List.length_set, hl], st2, ⟨e1.ext.s, fun a ℓ e ⟨h, s, e2, q⟩ => ?_⟩⟩, AtV.to (w := w1) (w' := w1.ren (moveT τ [i + 1])) (Same.refl _) (AtV.to (w := w.ren (moveT (i + 1) [τ])) (w' := w1) e1.ext.s (AtV.to (w := w) (w' := w.ren (moveT (i + 1) [τ])) (Same.refl _) at0 kt) k1) k2, fun d v h s hh r => r.mv hh⟩
    subst e2
    have g1 : (w.ren (moveT (i + 1) [τ])).G a = some (h :: s) := ren_at e (moveT_ne (by omega))
    obtain ⟨g2, g3⟩ := e1.ext.f a _ g1 ⟨h, s, rfl, q.imp id fun q => by rw [List.length_set]; exact ⟨q.1, by omega⟩⟩
    exact ⟨ren_at g2 (moveT_ne (by omega)), g3⟩
end
abbrev RPl := En → EE → (Nat → List Nat → En → Prop) → Prop
/-- e names a place: slot i, path p -/
structure FPl (X : Cx) (W : WX) (e : Expr) (rp : RPl) : Prop where
  ex : ∃ t, PE X e t ∧ ∀ (τ : Nat) (w : Wd) (σ : Sl) (ρ : En) (E : EE) (Q : Nat → List Nat → En → Prop) (Qv : VK), ρ.length < τ → StE X.K w σ ρ → rp ρ E Q →
    (∀ i p ρ' w' d0 dn v0 v, Q i p ρ' → EndE X.K τ w σ ρ ρ' w' → ρ'[i]? = some (some d0) → d0.atS p = some dn → σ[i]? = some (some v0) → AtV X.K w' d0 [i + 1] v0 p dn v → Qv v w'.H) → SX X.K W τ w σ ρ E → t σ w.H Qv
def rpN (i : Nat) : RPl := fun ρ _ Q => match ρ[i]? with
  | some (some _) => Q i [] ρ
  | _ => False
/-- evaluated while slot i is held -/
def heldE (i : Nat) (d0 : D) (E : EE) : EE := fun c fs ρ' => E c fs (ρ'.set i (some d0))
def rpIx (rp : RPl) (rk : RE) : RPl := fun ρ E Q => rp ρ E fun i p ρ1 => match ρ1[i]? with
  | some (some d0) => rk (ρ1.set i none) (heldE i d0 E) fun dk ρ2 => match dk with
    | .int n => match d0.atS p with
      | some (.tup _ ds) => match ixN ds.length n with
        | some j => nf (ρ2.set i (some d0)) (Q i (p ++ [j]))
        | none => False
      | some (.lst _ ds) => match ixN ds.length n with
        | some j => nf (ρ2.set i (some d0)) (Q i (p ++ [j]))
        | none => False
      | _ => False
    | _ => False
  | _ => False
theorem held_sx {K : PySem.W.Frag} {W : WX} {τ : Nat} {w w1 : Wd} {σ : Sl} {ρ : En} {E : EE} {i : Nat} {d0 : D} (hx : SX K W τ w σ ρ E)
    (h : ∀ ρ1 w1', EndE K (τ + 1) w1 σ (ρ.set i none) ρ1 w1' → EndE K τ w σ ρ (ρ1.set i (some d0)) (w1'.ren (moveT τ [i + 1]))) : SX K W (τ + 1) w1 σ (ρ.set i none) (heldE i d0 E) := fun c fs ρ' w' x e en xr => by
  refine hx c fs _ (w'.ren (moveT τ [i + 1])) x e (h ρ' w' en) ?_
  cases x with
  | none => cases fs <;> exact xr
  | some a =>
    cases fs with
    | none => exact xr
    | some fs =>
      obtain ⟨us, h1, h2, h3, h4⟩ := xr
      exact ⟨us, h1, h2, h3, RepL.free (w := w') (w' := w'.ren (moveT τ [i + 1])) (Same.refl _) _ h3 h4⟩
theorem atS_snoc : ∀ {p : List Nat} {d e c : D} {j : Nat}, d.atS p = some e → e.atS [j] = some c → d.atS (p ++ [j]) = some c
  | [], d, e, c, j, h, g => by
    have : d = e := by cases d <;> (simp only [D.atS] at h; cases h; rfl)
    subst this; exact g
  | k :: p, d, e, c, j, h, g => by
    cases d with
    | tup o ds =>
      simp only [D.atS, List.cons_append] at h ⊢
      cases q : ds[k]? with
      | none => rw [q] at h; cases h
      | some d' => rw [q] at h; exact atS_snoc h g
    | lst o ds =>
      simp only [D.atS, List.cons_append] at h ⊢
      cases q : ds[k]? with
      | none => rw [q] at h; cases h
      | some d' => rw [q] at h; exact atS_snoc h g
    | ins o C fs ds =>
      simp only [D.atS, List.cons_append] at h ⊢
      cases q : ds[k]? with
      | none => rw [q] at h; cases h
      | some d' => rw [q] at h; exact atS_snoc h g
    | dct o t ks ds =>
      simp only [D.atS, List.cons_append] at h ⊢
      cases q : ds[k]? with
      | none => rw [q] at h; cases h
      | some d' => rw [q] at h; exact atS_snoc h g
    | _ => simp [D.atS] at h
theorem atI_ixN {α : Type} {xs : List α} {n : Int} {j : Nat} {x : α} (h : ixN xs.length n = some j) (e : xs[j]? = some x) : atI xs n = some x := by
  unfold atI
  rw [h]; exact e
section
variable {X : Cx} {W : WX} {M : List Nat} {pos pos' p2 apos : Pos}
theorem fp_name (i : Nat) {x : Str} (hN : X.N[i]? = some x := by rfl) (hv : Vis X.env.scope x := by first | exact Or.inl rfl | exact Or.inr (Or.inl rfl) | exact Or.inr (Or.inr rfl)) (hd : (x == ("__debug__" : Str)) = false := by decide)
    (hcd : (x == ("__classdict__" : Str)) = false := by decide) : FPl X W (.Name x p2) (rpN i) := by
  refine ⟨_, pe_var hN hv hd hcd, fun τ w σ ρ E Q Qv hn st h hq hx => ?_⟩
  unfold rpN at h
  split at h
  · rename_i d0 e0
    obtain ⟨v0, ev, r0⟩ := st.rep i _ e0
    exact ⟨v0, ev, hq i [] ρ w d0 d0 v0 v0 h (.refl st) e0 (by cases d0 <;> rfl) ev .here⟩
  · exact h.elim
theorem fp_ix {e k : Expr} {rp : RPl} {rk : RE} (he : FPl X W e rp) (hk : FE X W k rk) (hs : PlainIx k := by exact fun _ _ => rfl) : FPl X W (.Subscript e k pos) (rpIx rp rk) := by
  obtain ⟨t, q, l⟩ := he.ex
  obtain ⟨t', q', l'⟩ := hk.ex
  refine ⟨_, pe_ix ix_seq q q' hs, fun τ w σ ρ E Q Qv hn st h hq hx => ?_⟩
  refine l τ w σ ρ E _ _ hn st h (fun i p ρ1 w1 d0 dn v0 v h1 e1 hi ha hv at0 => ?_) hx
  have hn1 : ρ1.length < τ := by rw [e1.len]; exact hn
  obtain ⟨s1, back⟩ := hold e1.st hi hv at0 hn1
  have hx1 : SX X.K W τ w1 σ ρ1 E := hx.then e1 (Nat.le_refl _)
  simp only [hi] at h1
  refine l' (τ + 1) (w1.ren (moveT (i + 1) [τ])) σ (ρ1.set i none) _ _ _ (by rw [List.length_set]; omega) s1 h1 (fun dk ρ2 w2 vk h2 e2 r2 => ?_) (held_sx hx1 fun ρ' w' en => (back ρ' w' en).1)
  obtain ⟨b1, b2, b3⟩ := back ρ2 w2 e2
  cases dk with
  | int n =>
    simp only [Rep] at r2
    subst r2
    have hl2 : ρ2.length = ρ1.length := by rw [e2.len, List.length_set]
    have hin := (List.getElem?_eq_some_iff.mp hi).1
    have key : ∀ {ds : List D} {j : Nat}, dn.kids = ds → dn.seen = true → dn.inner = true → (∀ c, ds[j]? = some c → dn.atS [j] = some c) → ixN ds.length n = some j → (∀ a vs, Nd X.K (w2.ren (moveT τ [i + 1])) dn ([i + 1] ++ p) a vs → SqL X.K w2.H a vs ∨ SqT X.K w2.H a vs) → Q i (p ++ [j]) (ρ2.set i (some d0)) → rIx X.K v (.int n) w2.H Qv := by
      intro ds j hk hse hin' hat hj hsq qq
      obtain ⟨v0', ev', r0⟩ := b1.st.rep i d0 (List.getElem?_set_self (by omega))
      rw [hv] at ev'; cases ev'
      have rn := b2.rep r0
      rw [rep_inner hin'] at rn
      obtain ⟨a, vs, rfl, nd, sz, rl⟩ := rn
      rw [hk] at rl
      have hjl := ixN_lt hj
      obtain ⟨c, hc⟩ : ∃ c, ds[j]? = some c := ⟨_, List.getElem?_eq_getElem hjl⟩
      obtain ⟨x, ex, rx⟩ := rl.get hc
      rw [Nat.zero_add] at rx
      have a3 : AtV X.K (w2.ren (moveT τ [i + 1])) d0 [i + 1] v0 (p ++ [j]) c x := b2.snoc (.down hse nd (by rw [hk]; exact rl.length) (by rw [hk]; exact hc) ex .here)
      have fin := hq i (p ++ [j]) (ρ2.set i (some d0)) _ d0 c v0 x qq (e1.trans b1 (Nat.le_refl _)) (List.getElem?_set_self (by omega)) (atS_snoc ha (hat c hc)) hv a3
      have hat2 : atI vs n = some x := atI_ixN (by rw [rl.length]; exact hj) ex
      rcases hsq a vs nd with hs | hs
      · exact .inl ⟨a, vs, n, x, rfl, rfl, hs, hat2, fin⟩
      · exact .inr (.inl ⟨a, vs, n, x, rfl, rfl, hs, hat2, fin⟩)
    simp only [ha] at h2
    cases dn with
    | tup o ds =>
      dsimp only at h2
      cases ej : ixN ds.length n with
      | none => rw [ej] at h2; exact h2.elim
      | some j =>
        rw [ej] at h2
        exact key rfl rfl rfl (fun c hc => by have hc : ds[j]? = some c := hc; simp only [D.atS]; rw [hc]) ej (fun a vs nd => .inr (SqT.of (e2.st.wf.sh _ _ nd))) (nf_of h2)
    | lst o ds =>
      dsimp only at h2
      cases ej : ixN ds.length n with
      | none => rw [ej] at h2; exact h2.elim
      | some j =>
        rw [ej] at h2
        refine key rfl rfl rfl (fun c hc => by have hc : ds[j]? = some c := hc; simp only [D.atS]; rw [hc]) ej (fun a vs nd => .inl (SqL.of ?_)) (nf_of h2)
        simp only [Nd] at nd
        cases q : o.mine with
        | true => rw [q] at nd; exact nd.2
        | false => rw [q] at nd; exact e2.st.wf.sh _ _ nd
    | _ => exact h2.elim
  | _ => exact h2.elim
theorem m0_end {K : PySem.W.Frag} {w : Wd} {σ : Sl} {ρ : En} {i τ : Nat} {d0 : D} {v0 : V} {p : List Nat} {o : Ow} {ds ds' : List D} {a : Addr} {us' : List V} (ho : o.mine = true) (st : StE K w σ ρ) (hi : ρ[i]? = some (some d0)) (hv : σ[i]? = some (some v0)) (r0 : Rep K w d0 [i + 1] v0)
    (at0 : AtV K w d0 [i + 1] v0 p (.lst o ds) (.ref a)) (hτ : ρ.length < τ) (rl : RepL K w ds' ((i + 1) :: p) 0 us') (hL : ownL ds' = false) (hz : ds'.length ≤ sizeLine) : EndE K τ w σ ρ (ρ.set i (some (d0.put p (.lst .flat ds')))) ((w.ren (moveT τ [])).put a (.lst us')) :=
  list_end (o' := .flat) ho rfl st hi hv r0 at0 hτ (Nat.le_refl _) (RepL.free (w := w) (w' := w.ren (moveT τ [])) (Same.refl _) ds' hL rl) hz (fun _ => hL)
end
end FL
namespace FL
open PySem PySem.Spec PyProof.Rows L2 RT
/-- x.pop(e), of light parts -/
def rPopAt (i : Nat) (re : RE) : RE := fun ρ E Q => onLst ρ i fun _ _ => re ρ E fun d ρ1 => onLst ρ1 i fun o ds => match d with
  | .int n => match o with
    | .flat => natAt (ixN ds.length n) fun k => (-(2 ^ 62) ≤ n ∧ n < 2 ^ 62) ∧ pick ds[k]? fun y => nf (ρ1.set i (some (.lst .flat (ds.eraseIdx k)))) (Q y)
    | _ => False
  | _ => False
section
variable {X : Cx} {W : WX} {M : List Nat} {pos pos' p2 p3 apos : Pos}
theorem fe_popAt (i : Nat) {x : Str} {e : Expr} {re : RE} (he : FE X W e re) (hN : X.N[i]? = some x := by rfl) (hv : Vis X.env.scope x := by first | exact Or.inl rfl | exact Or.inr (Or.inl rfl) | exact Or.inr (Or.inr rfl)) (hd : (x == ("__debug__" : Str)) = false := by decide)
    (hcd : (x == ("__classdict__" : Str)) = false := by decide) (hbase : attributeBase (.Name x p2) "pop" X.env (eval (.Name x p2) X.env) = eval (.Name x p2) X.env := by rfl)
    (hfew : ((backTo pos (starEach [e] X.env)).all (fun x => !x.1) && (backToKw pos (keywordEach [] X.env)).all (fun x => x.1.isSome)
      && decide ([e].length + ([] : List Keyword).length + (if ([] : List Keyword).isEmpty then 0 else 1) < 30)) = true := by rfl)
    (hline : (apos.endLine == pos.line) = true := by rfl) (hs : starEach [e] X.env = (false, eval e X.env) :: starEach [] X.env := by rfl) (hplain : (backTo pos (starEach [] X.env)).any (·.1) = false := by rfl) :
    FE X W (.Call (.Attribute (.Name x p2) "pop" apos) [e] [] pos) (rPopAt i re) := by
  obtain ⟨t, p, l⟩ := he.ex
  refine ⟨_, pe_bm PySem.F.plainAttrs_list PySem.F.slot_list_pop PySem.F.type_list_pop mt_popAt (pe_var hN hv hd hcd) (pa_cons p pa_nil hs) hbase hfew hline hs hplain, fun τ w σ ρ E Q Qv hn st h hq hx => ?_⟩
  obtain ⟨o0, ds0, e0, _, h⟩ := onLst_elim h
  obtain ⟨v0, ev, r00⟩ := st.rep i _ e0
  refine ⟨v0, ev, tyL st.wf r00, ?_⟩
  refine l τ w σ ρ E _ _ hn st h (fun d ρ1 w1 v h1 e1 r1 => ?_) hx
  obtain ⟨o, ds, ed, ho, h1⟩ := onLst_elim h1
  cases d with
  | int n =>
    cases o with
    | flat =>
      dsimp only at h1
      obtain ⟨k, ek, ⟨b1, b2⟩, h1⟩ := natAt_elim h1
      · obtain ⟨y, ey, _, h1⟩ := pick_elim h1
        · simp only [Rep] at r1
          subst r1
          obtain ⟨v0', ev', r0⟩ := e1.st.rep i _ ed
          rw [ev] at ev'; cases ev'
          obtain ⟨a, us, rfl, ta, ha, z, rl⟩ := list_at ho r0 .here
          have hL : ownL ds = false := z.2 rfl
          obtain ⟨x, ex, rx⟩ := rl.get ey
          have he : ownL (ds.eraseIdx k) = false := by rw [ownL_iff] at hL ⊢; exact fun d hd => hL d (List.eraseIdx_subset hd)
          have rl' : RepL X.K w1 (ds.eraseIdx k) ((i + 1) :: []) 0 (us.eraseIdx k) := RepL.of (by rw [List.length_eraseIdx, List.length_eraseIdx, rl.length]) fun j d v e1 e2 => by
            rw [List.getElem?_eraseIdx] at e1 e2
            split at e1
            · rename_i hj
              rw [if_pos hj] at e2
              obtain ⟨v', e3, r⟩ := rl.get e1
              rw [e2] at e3; cases e3
              exact r
            · rename_i hj
              rw [if_neg hj] at e2
              obtain ⟨v', e3, r⟩ := rl.get e1
              rw [e2] at e3; cases e3
              exact r.free (Same.refl _) d (ownL_iff.mp hL d (List.mem_of_getElem? e1))
          have hkl := (List.getElem?_eq_some_iff.mp ey).1
          refine ⟨a, us, n, k, x, rfl, rfl, ha, by omega, by omega, (ixN_seq (by rw [rl.length]; exact ek)).1, ex, ?_⟩
          exact hq y _ ((w1.ren (moveT τ [])).put a (.lst (us.eraseIdx k))) x (nf_of h1) (e1.trans (m0_end (us' := us.eraseIdx k) ho e1.st ed ev r0 .here (by rw [e1.len]; exact hn) rl' he (by rw [List.length_eraseIdx]; split <;> omega)) (Nat.le_refl _))
            (Rep.free (w := w1) (w' := (w1.ren (moveT τ [])).put a (.lst (us.eraseIdx k))) (Same.refl _) y (ownL_iff.mp hL y (List.mem_of_getElem? ey)) rx)
    | _ => exact h1.elim
  | _ => cases o <;> exact h1.elim
/-- list(range(n)), list(range(a, b)) -/
def rLstRg1 (ra : RO) : RE := fun ρ E Q => ra ρ E fun x ρ1 => on1 ρ1 x fun dx => match dx with
  | .int n => (n ≤ 16777216 ∧ -(2 ^ 62) ≤ n) ∧ Q (.lst .flat (rgD 0 n)) ρ1
  | _ => False
theorem repl_rg {K : PySem.W.Frag} {w : Wd} (a b : Int) (ℓ : Loc) : RepL K w (rgD a b) ℓ 0 (rgV a b) := RepL.of (by rw [rgD_len, rgV_length]) fun j d v e1 e2 => by
  unfold rgD at e1
  unfold rgV at e2
  rw [List.getElem?_map] at e1 e2
  cases q : (List.range (b - a).toNat)[j]? with
  | none => rw [q] at e1; cases e1
  | some k => rw [q] at e1 e2; cases e1; cases e2; rfl
theorem fe_lstRg1 {a : Expr} {ra : RO} (ha : FO X W a ra) (hm : X.mg "list" = none) (hm2 : X.mg "range" = none) (hc : X.calm = true := by rfl) (hg : Gl X "list" := by rfl) (hg2 : Gl X "range" := by rfl)
    (na : starEach [a] X.env = (false, eval a X.env) :: starEach [] X.env := by rfl) (nb : starEach [.Call (.Name "range" p2) [a] [] p3] X.env = (false, eval (.Call (.Name "range" p2) [a] [] p3) X.env) :: starEach [] X.env := by rfl) :
    FE X W (.Call (.Name "list" pos') [.Call (.Name "range" p2) [a] [] p3] [] pos) (rLstRg1 ra) := by
  obtain ⟨t, q, k⟩ := ha.ex
  refine ⟨_, pe_listRg hc hg hm (prg_1 hg2 hm2 q na) nb, fun τ w σ ρ E Q Qv hn st h hq hx => ?_⟩
  refine k τ w σ ρ E _ _ hn st h (fun x ρ1 w1 v h1 e1 r1 => ?_) hx
  obtain ⟨dx, ex, h1⟩ := on1_elim h1
  obtain ⟨ℓ, rx⟩ := ad_get e1.st r1 ex
  cases dx with
  | int n =>
    simp only [Rep] at rx
    subst rx
    obtain ⟨⟨b1, b2⟩, h1⟩ := h1
    refine ⟨n, rfl, ⟨by omega, by omega, by omega, by omega, by omega⟩, fun p nn => ?_⟩
    have ho : ownL (rgD 0 n) = false := by unfold rgD; exact own_map fun _ => rfl
    obtain ⟨e2, r2⟩ := EndE.own (τ := τ) .flat e1.st nn (repl_rg 0 n [τ]) (by rw [rgD_len, sizeLine_eq]; omega) (fun _ => ho) rfl
    exact hq _ _ _ _ h1 (e1.trans e2 (Nat.le_refl _)) r2
  | _ => exact h1.elim
end
end FL
namespace FL
open PySem PySem.Spec PyProof.Rows L2 RT
theorem cut_to {α : Type} {xs : List α} {b : Nat} (h : b ≤ xs.length) : cutL xs none (some (b : Int)) = xs.take b := by
  unfold cutL
  rw [HT.sIx_nat, HT.sIx_none, Nat.min_eq_left h, List.drop_zero, Nat.sub_zero]
theorem cut_from {α : Type} {xs : List α} {a : Nat} (h : a ≤ xs.length) : cutL xs (some (a : Int)) none = xs.drop a := by
  unfold cutL
  rw [HT.sIx_nat, HT.sIx_none, Nat.min_eq_left h, List.take_of_length_le (by rw [List.length_drop]; omega)]
end FL
namespace FL
open PySem PySem.Spec PyProof.Rows L2 RT
abbrev QT := Addr × List Key × Addr × V
def mergeT (qs : List QT) : List (List Key × V) := qs.foldl (fun (acc : List (List Key × V)) (q : QT) => putK acc q.2.1 q.2.2.2) []
section
variable {X : Cx}
theorem pairsT_of {pins : List (Addr × Obj)} {σ : L2.St} {H : Hp} {s : Shared} (I : Inv X pins σ H s) : ∀ {qs : List QT}, (∀ q : QT, q ∈ qs → SqT X.K H q.1 [.ref q.2.2.1, q.2.2.2] ∧ H q.2.2.1 = some (.tup (q.2.1.map kV))) →
    ∃ us : List Value, us.length = qs.length ∧ ∀ (j : Nat) (q : QT) (u : Value), qs[j]? = some q → us[j]? = some u → RelV q.2.2.2 u ∧ IsTup s.heap q.1 #[.ref q.2.2.1, u] ∧ (tupleKind (mixKind X.prog X.w)).is s.heap q.2.1 q.2.2.1
  | [], _ => ⟨[], rfl, fun j q u e => by simp at e⟩
  | q :: qs, h => by
    obtain ⟨us, hl, hp⟩ := pairsT_of I fun z hz => h z (List.mem_cons_of_mem _ hz)
    obtain ⟨h1, h2⟩ := h q List.mem_cons_self
    obtain ⟨its, rv, ht, _⟩ := I.tuple h1
    obtain ⟨u, y, ei, ru, ry⟩ := vals2 rv
    subst ei
    cases ru
    refine ⟨y :: us, by rw [List.length_cons, List.length_cons, hl], fun j z u e1 e2 => ?_⟩
    cases j with
    | zero =>
      cases e1; cases e2
      exact ⟨ry, ht, key_of I.hok h2⟩
    | succ j => exact hp j z u (by simpa using e1) (by simpa using e2)
theorem kt_merge {H : Hp} : ∀ {qs : List QT} {us : List Value} {kvs : List (List Key × V)} {xs : List (List Key × Addr × Value)}, us.length = qs.length → (∀ (j : Nat) (q : QT) (u : Value), qs[j]? = some q → us[j]? = some u → RelV q.2.2.2 u) → (∀ q : QT, q ∈ qs → H q.2.2.1 = some (.tup (q.2.1.map kV))) → KT H kvs xs →
    KT H (qs.foldl (fun (acc : List (List Key × V)) (q : QT) => putK acc q.2.1 q.2.2.2) kvs) (storedAllH xs ((qs.zip us).map fun z => (z.1.2.1, z.1.2.2.1, z.2)))
  | [], us, kvs, xs, hl, _, _, r => by
    have : us = [] := List.length_eq_zero_iff.mp hl
    subst this
    exact r
  | q :: qs, [], kvs, xs, hl, _, _, r => by simp at hl
  | q :: qs, u :: us, kvs, xs, hl, hr, hk, r => by
    have r1 := r.put q.2.1 (hk q List.mem_cons_self) (hr 0 q u rfl rfl)
    exact kt_merge (qs := qs) (us := us) (by simpa using hl) (fun j z v e1 e2 => hr (j + 1) z v (by simpa using e1) (by simpa using e2)) (fun z hz => hk z (List.mem_cons_of_mem _ hz)) r1
theorem call_dictPT (hcalm : X.calm = true) (hu : X.A.units + 2 < cLine) : CallR X (.type "dict") (fun xs H Q => ∃ (a : Addr) (qs : List QT), xs = [.ref a] ∧ SqL X.K H a (qs.map fun q => V.ref q.1) ∧ (∀ q : QT, q ∈ qs → SqT X.K H q.1 [.ref q.2.2.1, q.2.2.2] ∧ H q.2.2.1 = some (.tup (q.2.1.map kV))) ∧
    ∀ p, H p = none → Q (.ref p) (upd H p (.dT (mergeT qs)))) := by
  intro pins s σ H xs us0 Q I r q
  obtain ⟨a, qs, ex, hq, hp, q⟩ := q
  subst ex
  obtain ⟨u, eu, rx⟩ := vals1 r
  subst eu
  cases rx
  obtain ⟨its, rv, pl, hz⟩ := I.list hq
  have rv' : Vals ((qs.map (·.1)).map V.ref) its := by rw [List.map_map]; exact rv
  have ei := refs_at rv'
  subst ei
  rw [List.length_map] at hz
  obtain ⟨us, hl, hpr⟩ := pairsT_of I hp
  let prs : List (Value × Value) := (qs.zip us).map fun z => (.ref z.1.2.2.1, z.2)
  let Ts : Nat → Addr := fun j => match qs[j]? with | some z => z.1 | none => 0
  let ps : List (List Key × Addr × Value) := (qs.zip us).map fun z => (z.1.2.1, z.1.2.2.1, z.2)
  have hlen : prs.length = qs.length := by show ((qs.zip us).map _).length = _; rw [List.length_map, List.length_zip]; omega
  have getz : ∀ (j : Nat) (q : QT), qs[j]? = some q → ∃ u, us[j]? = some u ∧ (qs.zip us)[j]? = some (q, u) := fun j z e => by
    have hj := (List.getElem?_eq_some_iff.mp e).1
    have hj2 : j < us.length := by omega
    refine ⟨us[j], List.getElem?_eq_getElem hj2, ?_⟩
    rw [List.getElem?_eq_getElem (by rw [List.length_zip]; omega), List.getElem_zip]
    rw [List.getElem?_eq_getElem hj] at e
    rw [Option.some.inj e]
  have pit : PairItems s.heap ((qs.map (·.1)).map Value.ref).toArray Ts prs := by
    refine ⟨by simp [hlen], fun j k v e => ?_⟩
    have hj : j < qs.length := by rw [← hlen]; exact (List.getElem?_eq_some_iff.mp e).1
    have eq := List.getElem?_eq_getElem hj
    obtain ⟨u, eu, ez⟩ := getz j _ eq
    have e' : prs[j]? = some (.ref (qs[j]).2.2.1, u) := by show ((qs.zip us).map _)[j]? = _; rw [List.getElem?_map, ez]; rfl
    rw [e'] at e
    cases e
    have et : Ts j = (qs[j]).1 := by show (match qs[j]? with | some z => z.1 | none => 0) = _; rw [eq]
    refine ⟨by rw [et]; simp [eq], ?_⟩
    rw [et]
    obtain ⟨_, h2, _⟩ := hpr j _ _ eq eu
    obtain ⟨o, h5, h6, n, h7⟩ := h2
    exact .inl ⟨o, h5, h6, n, h7⟩
  have pH : PairsHaveH (tupleKind (mixKind X.prog X.w)) prs.length (PairRel prs) ps := by
    refine ⟨by show ((qs.zip us).map _).length = _; rw [hlen, List.length_map, List.length_zip]; omega, fun i key v e => ?_⟩
    have hj : i < qs.length := by rw [← hlen]; exact (List.getElem?_eq_some_iff.mp e).1
    have eq := List.getElem?_eq_getElem hj
    obtain ⟨u, eu, ez⟩ := getz i _ eq
    have e' : prs[i]? = some (.ref (qs[i]).2.2.1, u) := by show ((qs.zip us).map _)[i]? = _; rw [List.getElem?_map, ez]; rfl
    have e : prs[i]? = some (key, v) := e
    rw [e'] at e
    cases e
    exact ⟨(qs[i]).2.1, (qs[i]).2.2.1, by show ((qs.zip us).map _)[i]? = _; rw [List.getElem?_map, ez]; rfl, rfl⟩
  have ik : ∀ h', (∀ b o, b ≠ s.heap.objs.size → b ∉ ([] : List Addr) → s.heap.get? b = some o → h'.get? b = some o) → ∀ x ∈ ps, (tupleKind (mixKind X.prog X.w)).is h' x.1 x.2.1 := fun h' hk x hx => by
    obtain ⟨⟨z, u⟩, hz, rfl⟩ := List.mem_map.mp hx
    obtain ⟨j, hj⟩ := List.mem_iff_getElem?.mp hz
    obtain ⟨hjq, hju⟩ := List.getElem?_zip_eq_some.mp hj
    obtain ⟨_, _, h3⟩ := hpr j z u hjq hju
    obtain ⟨o, i3, n, g1, g2, g3, g4⟩ := h3
    exact ⟨o, i3, n, hk _ _ (Nat.ne_of_lt (Heap.lt_size g1)) (by simp) g1, g2, g3, g4⟩
  refine call_dict_pairsH (PairArg.list a ((qs.map (·.1)).map Value.ref).toArray Ts prs) (I.ok.hd hcalm) (show X.A.in1.in1.units < cLine from hu) ⟨?_, pit⟩ pH ik (by rw [hlen]; simpa using hz) fun h' tk hd' hk => ?_
  · obtain ⟨o, n, ho, hc, hd, hdat⟩ := pl
    exact ⟨o, n, ho, hc, hd, hdat⟩
  · have hm : (s.heap.objs.size == sysModules) = false := beq_eq_false_iff_ne.mpr (Nat.ne_of_gt I.big)
    have kt : KT (upd H s.heap.objs.size (.dT (mergeT qs))) (mergeT qs) (storedAllH [] ps) := kt_merge hl (fun j z u e1 e2 => (hpr j z u e1 e2).1) (fun z hz => by
      rw [upd_ne (ne_of_none (hp z hz).2 (I.hok.fresh (Nat.le_refl _)))]
      exact (hp z hz).2) .nil
    have hlen2 := Paired.length kt
    have hlen3 := storedAllH_length ps []
    have hlen4 : ps.length ≤ qs.length := by show ((qs.zip us).map _).length ≤ _; rw [List.length_map, List.length_zip]; omega
    obtain ⟨o, es, ep, g1, g2, g3, g4, _, g5⟩ := hd'
    exact ⟨.ref s.heap.objs.size, upd H s.heap.objs.size (.dT (mergeT qs)), I.laid (t' := tk) (fun b o e => hk b o (by simp) e) (Nat.le_refl _) (show ObjOk X.prog X.w _ _ _ (.dT (mergeT qs)) from ⟨by simp at hlen3; omega, hm, _, kt, o, es, ep, g1, g2, g3, g4, g5⟩), rfl, q _ (I.hok.fresh (Nat.le_refl _))⟩
end
def mkS {α : Type} (t : Bool) (ks : List D) (us : List α) (kvs : List (D × α)) : List D × List α := kvs.foldl (fun s kv => (putKs t s.1 kv.1, putDs t s.1 kv.1 s.2 kv.2)) (ks, us)
structure MkOk (K : PySem.W.Frag) (w : Wd) (t : Bool) (ks : List D) (ds : List D) (ℓ : Loc) (us : List V) : Prop where
  l : ks.length = us.length
  k : keysOk t ks = true
  r : RepL K w ds ℓ 0 us
  o : ownL ds = false
theorem MkOk.put {K : PySem.W.Frag} {w : Wd} {t : Bool} {ks ds : List D} {ℓ : Loc} {us : List V} (h : MkOk K w t ks ds ℓ us) {k d : D} {v : V} (hk : keyOk t k = true) (ho : d.own = false) (r : ∀ ℓ, Rep K w d ℓ v) : MkOk K w t (putKs t ks k) (putDs t ks k ds d) ℓ (putDs t ks k us v) :=
  ⟨putDs_len h.l, putKs_ok h.k hk, RepL.put h.r fun _ _ => r _, by
    have := h.o
    unfold putDs
    split
    · rw [ownL_iff] at this ⊢
      intro e he
      rcases List.mem_or_eq_of_mem_set he with he | rfl
      · exact this e he
      · exact ho
    · rw [ownL_append, this]; simp [ownL, ho]⟩
theorem mkT {K : PySem.W.Frag} {w : Wd} (wf : Wf w) {ℓ' : Loc} : ∀ {kvs : List (D × D)} {ℓ : Loc} {j : Nat} {vs : List V}, RepL K w (kvs.map fun p => D.tup false [p.1, p.2]) ℓ j vs → (∀ p ∈ kvs, keyOk true p.1 = true) →
    ∃ qs : List QT, vs = qs.map (fun q => V.ref q.1) ∧ (∀ q : QT, q ∈ qs → SqT K w.H q.1 [.ref q.2.2.1, q.2.2.2] ∧ w.H q.2.2.1 = some (.tup (q.2.1.map kV))) ∧
      ∀ ks ds us, MkOk K w true ks ds ℓ' us → ∃ us', qs.foldl (fun (acc : List (List Key × V)) (q : QT) => putK acc q.2.1 q.2.2.2) ((ks.map tkey).zip us) = ((mkS true ks ds kvs).1.map tkey).zip us' ∧ MkOk K w true (mkS true ks ds kvs).1 (mkS true ks ds kvs).2 ℓ' us'
  | [], ℓ, j, vs, h, _ => by
    simp only [List.map_nil, RepL] at h
    subst h
    exact ⟨[], rfl, fun q hq => (nomatch hq), fun ks ds us ok => ⟨us, rfl, ok⟩⟩
  | p :: kvs, ℓ, j, vs, h, hk => by
    simp only [List.map_cons, RepL] at h
    obtain ⟨v, r, rfl, h1, h2⟩ := h
    obtain ⟨qs, rfl, g1, g2⟩ := mkT wf (ℓ' := ℓ') h2 fun z hz => hk z (List.mem_cons_of_mem _ hz)
    have hz := (tup_sz h1).2 rfl
    simp only [ownL, Bool.or_false, Bool.or_eq_false_iff] at hz
    obtain ⟨T, ws, rfl, ht, hr⟩ := tup_at wf h1
    simp only [RepL] at hr
    obtain ⟨vk, r1, rfl, rk, vd, r2, rfl, rd, rfl⟩ := hr
    obtain ⟨b, rfl, hb⟩ := rep_tkey wf rk (hk p List.mem_cons_self)
    refine ⟨(T, tkey p.1, b, vd) :: qs, rfl, fun q hq => ?_, fun ks ds us ok => ?_⟩
    · rcases List.mem_cons.mp hq with rfl | hq
      · exact ⟨SqT.of ht, hb⟩
      · exact g1 q hq
    · have ok1 := ok.put (d := p.2) (v := vd) (hk p List.mem_cons_self) hz.2 fun ℓ2 => rd.free (Same.refl _) p.2 hz.2
      obtain ⟨us', e1, e2⟩ := g2 _ _ _ ok1
      refine ⟨us', ?_, e2⟩
      have e3 := dHO_put (t := true) (k := p.1) (v := vd) ok.l ok.k
      rw [if_pos rfl] at e3
      have e4 : ((putKs true ks p.1).map tkey).zip (putDs true ks p.1 us vd) = putK ((ks.map tkey).zip us) (tkey p.1) vd := by injection e3
      rw [List.foldl_cons]
      show qs.foldl _ (putK ((ks.map tkey).zip us) (tkey p.1) vd) = _
      rw [← e4]
      exact e1
/-- dict(pairs); t: the keys are tuples -/
def dDictP (t : Bool) : DC
  | [.lst o ps], Q => o.light = true ∧ ∃ kvs : List (D × D), ps = kvs.map (fun p => D.tup false [p.1, p.2]) ∧ (∀ p ∈ kvs, keyOk t p.1 = true) ∧ Q (.dct .flat t (mkS t [] [] kvs).1 (mkS t [] [] kvs).2)
  | _, _ => False
theorem EndE.ownD {K : PySem.W.Frag} {τ : Nat} {w : Wd} {σ : Sl} {ρ : En} {t : Bool} {ks ds : List D} {us : List V} (st : StE K w σ ρ) {p : Addr} (n : w.H p = none) (h : MkOk K w t ks ds [τ] us) : EndE K τ w σ ρ ρ (w.new p [τ] (dHO t ks us)) ∧ Rep K (w.new p [τ] (dHO t ks us)) (.dct .flat t ks ds) [τ] (.ref p) := by
  refine ⟨.new st n (by cases t <;> trivial), ?_⟩
  rw [rep_inner rfl]
  refine ⟨p, us, rfl, ?_, ⟨h.l, h.k, fun _ => h.o⟩, RepL.to (w := w) (w' := w.new p [τ] (dHO t ks us)) (Same.refl _) ds (new_kept st.wf n) h.r⟩
  refine ⟨?_, upd_same⟩
  show (if p = p then _ else _) = _
  rw [if_pos rfl]
section
variable {X : Cx}
theorem mk_nil {K : PySem.W.Frag} {w : Wd} {t : Bool} {ℓ : Loc} : MkOk K w t [] [] ℓ [] := ⟨rfl, by cases t <;> simp [keysOk], by simp [RepL], rfl⟩
theorem fc_dictPT (hu : X.A.units + 2 < cLine) (hc : X.calm = true := by rfl) : FC X (.type "dict") (dDictP true) := by
  refine ⟨_, call_dictPT hc hu, fun τ w σ ρ vs ds Q Qv hn st rs hd hq => ?_⟩
  unfold dDictP at hd
  split at hd
  · rename_i o ps
    obtain ⟨ho, kvs, rfl, hk, q⟩ := hd
    obtain ⟨v, ℓ, rfl, r⟩ := reps1 rs
    obtain ⟨a, us, rfl, h1, h2⟩ := lst_at st.wf r
    obtain ⟨qs, rfl, g1, g2⟩ := mkT st.wf (ℓ' := [τ]) h2 hk
    obtain ⟨us', e1, ok⟩ := g2 [] [] [] mk_nil
    refine ⟨a, qs, rfl, SqL.of h1, g1, fun p n => ?_⟩
    obtain ⟨e2, r2⟩ := EndE.ownD st n ok
    have e3 : HO.dT (mergeT qs) = dHO true (mkS true [] [] kvs).1 us' := congrArg HO.dT e1
    rw [e3]
    exact hq _ _ _ q e2 r2
  · exact hd.elim
end
end FL
namespace FL
open PySem PySem.Spec PyProof.Rows L2 RT
/-- two worlds that differ in a dict's lock -/
structure Sw (w w' : Wd) (a : Addr) (u : HO) : Prop where
  du : ∃ t ks vs, u = dHO t ks vs
  G : w'.G = w.G
  S : ∀ b, b ≠ a → w'.S b = w.S b
  H : ∀ b, b ≠ a → w'.H b = w.H b
  r : Rd w.S a u
  r' : Rd w'.S a u
  e : w'.H a = w'.S a
def plainHO : HO → Bool
  | .tup _ => true
  | .lst _ => true
  | .ins _ _ _ => true
  | .frz _ (.tup _) => true
  | .frz _ (.lst _) => true
  | _ => false
section
variable {K : PySem.W.Frag} {w w' : Wd} {a : Addr} {u : HO}
theorem Sw.ne (h : Sw w w' a u) {b : Addr} {o : HO} (e : w.S b = some o) (ho : plainHO o = true) : b ≠ a := fun z => by
  subst z
  obtain ⟨t, ks, vs, rfl⟩ := h.du
  rcases h.r with r | ⟨x, r⟩
  · rw [e] at r
    cases r
    cases t <;> cases ho
  · rw [e] at r
    cases r
    cases t <;> cases ho
theorem Sw.neG (h : Sw w w' a u) (wf : Wf w) {b : Addr} {ℓ : Loc} (e : w.G b = some ℓ) : b ≠ a := fun z => by
  subst z
  have := (wf.tg _ _ e).1
  rcases h.r with r | ⟨x, r⟩ <;> rw [this] at r <;> cases r
theorem Nd.sw (h : Sw w w' a u) (wf : Wf w) {d : D} {ℓ : Loc} {b : Addr} {vs : List V} (n : Nd K w d ℓ b vs) : Nd K w' d ℓ b vs := by
  have own : ∀ {o : Ow} {x : HO}, plainHO x = true → (if o.mine then w.G b = some ℓ ∧ w.H b = some x else w.S b = some x) → if o.mine then w'.G b = some ℓ ∧ w'.H b = some x else w'.S b = some x := fun {o x} hx n => by
    cases e : o.mine with
    | true =>
      rw [e] at n
      exact ⟨by rw [h.G]; exact n.1, by rw [h.H b (h.neG wf n.1)]; exact n.2⟩
    | false =>
      rw [e] at n
      exact (h.S b (h.ne n hx)).trans n
  cases d with
  | tup o ds => exact (h.S b (h.ne n rfl)).trans n
  | lst o ds => exact own rfl n
  | ro t ds =>
    have rd : ∀ {x : HO}, plainHO x = true → plainHO (.frz default x) = true → (∀ o, plainHO (.frz o x) = true) → Rd w.S b x → Rd w'.S b x := fun h1 _ h3 r => by
      rcases r with r | ⟨o, r⟩
      · exact .inl ((h.S b (h.ne r h1)).trans r)
      · exact .inr ⟨o, (h.S b (h.ne r (h3 o))).trans r⟩
    cases t with
    | true =>
      rcases n with n | n
      · exact .inl (rd rfl rfl (fun _ => rfl) n)
      · exact .inr n
    | false =>
      rcases n with n | n
      · exact .inl (rd rfl rfl (fun _ => rfl) n)
      · exact .inr n
  | dct o t ks ds =>
    simp only [Nd] at n ⊢
    cases e : o.mine with
    | true =>
      rw [e] at n
      exact ⟨by rw [h.G]; exact n.1, by rw [h.H b (h.neG wf n.1)]; exact n.2⟩
    | false =>
      rw [e] at n
      have n : Rd w.S b (dHO t ks vs) := n
      by_cases hb : b = a
      · subst hb
        have eu : dHO t ks vs = u := by
          obtain ⟨t', ks', vs', rfl⟩ := h.du
          have fz : ∀ x t ks vs t' ks' vs', (dHO t ks vs) ≠ .frz x (dHO t' ks' vs') := fun x t ks vs t' ks' vs' z => by cases t <;> cases z
          rcases n with n | ⟨x, n⟩ <;> rcases h.r with r | ⟨y, r⟩ <;> rw [n] at r
          · exact Option.some.inj r
          · exact absurd (Option.some.inj r) (fz _ _ _ _ _ _ _)
          · exact absurd (Option.some.inj r).symm (fz _ _ _ _ _ _ _)
          · have := Option.some.inj r
            injection this
        show Rd w'.S b (dHO t ks vs)
        rw [eu]; exact h.r'
      · rcases n with n | ⟨x, n⟩
        · exact .inl ((h.S b hb).trans n)
        · exact .inr ⟨x, (h.S b hb).trans n⟩
  | ins o C fs ds => obtain ⟨dx, n⟩ := n; exact ⟨dx, own rfl n⟩
  | _ => exact n.elim
mutual
theorem Rep.sw (h : Sw w w' a u) (wf : Wf w) : ∀ (d : D) {ℓ : Loc} {v : V}, Rep K w d ℓ v → Rep K w' d ℓ v
  | .any, _, _, r => leaf_rep rfl r
  | .non, _, _, r => leaf_rep rfl r
  | .bl _, _, _, r => leaf_rep rfl r
  | .int _, _, _, r => leaf_rep rfl r
  | .str _, _, _, r => leaf_rep rfl r
  | .obj _, _, _, r => leaf_rep rfl r
  | .ty _, _, _, r => leaf_rep rfl r
  | .tup o ds, ℓ, v, r => by
    rw [rep_inner rfl] at r ⊢
    obtain ⟨b, vs, e, h1, hz, h2⟩ := r
    exact ⟨b, vs, e, h1.sw h wf, hz, RepL.sw h wf ds h2⟩
  | .lst o ds, ℓ, v, r => by
    rw [rep_inner rfl] at r ⊢
    obtain ⟨b, vs, e, h1, hz, h2⟩ := r
    exact ⟨b, vs, e, h1.sw h wf, hz, RepL.sw h wf ds h2⟩
  | .ro t ds, ℓ, v, r => by
    rw [rep_inner rfl] at r ⊢
    obtain ⟨b, vs, e, h1, hz, h2⟩ := r
    exact ⟨b, vs, e, h1.sw h wf, hz, RepL.sw h wf ds h2⟩
  | .dct o t ks ds, ℓ, v, r => by
    rw [rep_inner rfl] at r ⊢
    obtain ⟨b, vs, e, h1, hz, h2⟩ := r
    exact ⟨b, vs, e, h1.sw h wf, hz, RepL.sw h wf ds h2⟩
  | .ins o C fs ds, ℓ, v, r => by
    rw [rep_inner rfl] at r ⊢
    obtain ⟨b, vs, e, h1, hz, h2⟩ := r
    exact ⟨b, vs, e, h1.sw h wf, hz, RepL.sw h wf ds h2⟩
theorem RepL.sw (h : Sw w w' a u) (wf : Wf w) : ∀ (ds : List D) {ℓ : Loc} {j : Nat} {vs : List V}, RepL K w ds ℓ j vs → RepL K w' ds ℓ j vs
  | [], _, _, _, r => by simpa [RepL] using r
  | d :: ds, ℓ, j, vs, r => by
    simp only [RepL] at r ⊢
    obtain ⟨v, us, e, h1, h2⟩ := r
    exact ⟨v, us, e, Rep.sw h wf d h1, RepL.sw h wf ds h2⟩
end
theorem Sw.wf (h : Sw w w' a u) (wf : Wf w) : Wf w' := ⟨fun b o e => by
    by_cases hb : b = a
    · subst hb; rw [h.e]; exact e
    · rw [h.S b hb] at e; rw [h.H b hb]; exact wf.sh b o e, fun b ℓ e => by
    rw [h.G] at e
    have hb := h.neG wf e
    rw [h.S b hb, h.H b hb]; exact wf.tg b ℓ e⟩
theorem StE.sw {σ : Sl} {ρ : En} (h : Sw w w' a u) (st : StE K w σ ρ) : StE K w' σ ρ := ⟨h.wf st.wf, st.len, fun i d e => by
  obtain ⟨v, e1, r⟩ := st.rep i d e
  exact ⟨v, e1, Rep.sw h st.wf d r⟩⟩
/-- the lock laid on -/
def Wd.lock (w : Wd) (a : Addr) (od : Obj) (u : HO) : Wd := ⟨w.G, upd w.S a (.frz od u), upd w.H a (.frz od u)⟩
/-- .. taken off -/
def Wd.unlock (w : Wd) (a : Addr) (u : HO) : Wd := ⟨w.G, upd w.S a u, upd w.H a u⟩
theorem sw_lock {od : Obj} (du : ∃ t ks vs, u = dHO t ks vs) (e : w.S a = some u) : Sw w (w.lock a od u) a u := ⟨du, rfl, fun b hb => upd_ne hb, fun b hb => upd_ne hb, .inl e, .inr ⟨od, upd_same⟩, by show upd w.H a _ a = upd w.S a _ a; rw [upd_same, upd_same]⟩
theorem sw_unlock {od : Obj} (du : ∃ t ks vs, u = dHO t ks vs) (e : w.S a = some (.frz od u)) : Sw w (w.unlock a u) a u := ⟨du, rfl, fun b hb => upd_ne hb, fun b hb => upd_ne hb, .inr ⟨od, e⟩, .inl upd_same, by show upd w.H a _ a = upd w.S a _ a; rw [upd_same, upd_same]⟩
/-- what holds between a world and a later one of the locked world, unlocked -/
theorem ext_lock {n τ : Nat} {od : Obj} (wf : Wf w) (du : ∃ t ks vs, u = dHO t ks vs) (e : w.S a = some u) {w3 : Wd} (x : Ext n τ (w.lock a od u) w3) : Ext n τ w (w3.unlock a u) := by
  have sw := sw_lock (od := od) du e
  refine ⟨fun b o eb => ?_, fun b ℓ g f => ?_⟩
  · by_cases hb : b = a
    · subst hb
      rw [e] at eb; cases eb
      exact upd_same
    · show upd w3.S a u b = some o
      rw [upd_ne hb]
      refine x.s b o ?_
      show upd w.S a _ b = some o
      rw [upd_ne hb]; exact eb
  · have hb := sw.neG wf g
    obtain ⟨h1, h2⟩ := x.f b ℓ g f
    refine ⟨h1, ?_⟩
    show upd w3.H a u b = w.H b
    rw [upd_ne hb, h2]
    exact upd_ne hb
end
theorem pe_or {X : Cx} {e : Expr} {t u : TE} (h : PE X e t) (k : PE X e u) : PE X e (fun σ H Q => t σ H Q ∨ u σ H Q) :=
  ⟨fun pins s σ H Q I q => q.elim (h.run pins s σ H Q I) (k.run pins s σ H Q I)⟩
def rItK (i : Nat) : RI := fun ρ _ Q => match ρ[i]? with
  | some (some (.dct _ t ks _)) => ownL ks = false ∧ (∀ k ∈ ks, k.kids.length ≤ 1000) ∧ ks.length ≤ sizeLine ∧ Q ks ρ
  | _ => False
/-- slot i holds a locked dict -/
def LkS (i : Nat) : LW := fun w σ _ => ∃ (a : Addr) (od : Obj) (t : Bool) (ks : List D) (vs : List V), σ[i]? = some (some (.ref a)) ∧ w.S a = some (.frz od (dHO t ks vs))
theorem dHO_inj {t t' : Bool} {ks ks' : List D} {vs vs' : List V} {w : Wd} {a : Addr} {od : Obj} (h : Rd w.S a (dHO t ks vs)) (e : w.S a = some (.frz od (dHO t' ks' vs'))) : dHO t' ks' vs' = dHO t ks vs := by
  rcases h with h | ⟨x, h⟩
  · rw [e] at h
    cases t <;> cases h
  · rw [e] at h
    have h := Option.some.inj h
    injection h
theorem it_keys {K : PySem.W.Frag} {w : Wd} {a : Addr} {od : Obj} {t : Bool} {ks : List D} {vs : List V} (e : w.S a = some (.frz od (dHO t ks vs))) (hl : ks.length = vs.length) (hks : keysOk t ks = true) (ho : ownL ks = false) (hz : ∀ k ∈ ks, k.kids.length ≤ 1000) :
    ItOk K (match t with | true => Itkt a od ((ks.map tkey).zip vs) | false => Itk a od ((ks.map skey).zip vs)) ks w := by
  have hK : ∀ k ∈ ks, keyOk t k = true := fun k hk => by
    unfold keysOk at hks
    simp only [Bool.and_eq_true] at hks
    exact List.all_eq_true.mp hks.1 k hk
  cases t with
  | false =>
    intro i w1 wf1 sm
    have eH : w1.H a = some (.frz od (.dK ((ks.map skey).zip vs))) := wf1.sh _ _ (sm _ _ e)
    have zl : ((ks.map skey).zip vs).length = ks.length := by rw [List.length_zip, List.length_map]; omega
    refine ⟨fun d ed => ?_, fun hi => ⟨eH, by omega⟩⟩
    have hi := (List.getElem?_eq_some_iff.mp ed).1
    have hm := List.mem_of_getElem? ed
    refine ⟨⟨eH, by omega⟩, fun x H' y => ?_⟩
    obtain ⟨rfl, k, v, ek, rfl⟩ := y
    obtain ⟨h1, h2⟩ := List.getElem?_zip_eq_some.mp ek
    rw [List.getElem?_map, ed] at h1
    cases h1
    exact ⟨w1, rfl, .refl wf1, ownL_iff.mp ho d hm, fun ℓ => skey_rep (hK d hm)⟩
  | true =>
    intro i w1 wf1 sm
    have eH : w1.H a = some (.frz od (.dT ((ks.map tkey).zip vs))) := wf1.sh _ _ (sm _ _ e)
    have zl : ((ks.map tkey).zip vs).length = ks.length := by rw [List.length_zip, List.length_map]; omega
    refine ⟨fun d ed => ?_, fun hi => ⟨eH, by omega⟩⟩
    have hi := (List.getElem?_eq_some_iff.mp ed).1
    have hm := List.mem_of_getElem? ed
    refine ⟨⟨eH, by omega⟩, fun x H' y => ?_⟩
    obtain ⟨rfl, k, v, q, ek, rfl, hq⟩ := y
    obtain ⟨h1, h2⟩ := List.getElem?_zip_eq_some.mp ek
    rw [List.getElem?_map, ed] at h1
    cases h1
    have kT := hK d hm
    have kz := hz d hm
    have ko := ownL_iff.mp ho d hm
    have hall : ∀ b ∈ [q], ∃ vs, w1.H b = some (.tup vs) := fun b hb => by
      have : b = q := by simpa using hb
      subst this; exact ⟨_, hq⟩
    refine ⟨w1.adopt [q], rfl, ⟨wf1.adopt hall, adopt_same wf1, fun ℓ a s e => ⟨e, rfl⟩⟩, ko, fun ℓ => ?_⟩
    cases d with
    | tup o' cs =>
      have ko : o' = false := ko
      subst ko
      have kT : cs.all isSKey = true := kT
      have kz : cs.length ≤ 1000 := kz
      simp only [Rep]
      refine ⟨q, (cs.map skey).map kV, rfl, ?_, ⟨by rw [sizeLine_eq]; omega, fun _ => skeys_own kT⟩, skeys_rep kT⟩
      show (if q ∈ [q] then w1.H q else w1.S q) = _
      rw [if_pos (List.mem_singleton.mpr rfl)]
      exact hq
    | _ => cases kT
section
variable {X : Cx} {W : WX} {M : List Nat} {pos : Pos}
theorem fi_keys {i : Nat} {x : Str} {tg : Expr} (hN : X.N[i]? = some x := by rfl) (hv : Vis X.env.scope x := by first | exact Or.inl rfl | exact Or.inr (Or.inl rfl) | exact Or.inr (Or.inr rfl)) (hd : (x == ("__debug__" : Str)) = false := by decide)
    (hcd : (x == ("__classdict__" : Str)) = false := by decide) : ∃ wi, PI X tg (.Name x pos) wi ∧ SIL X.K W (LkS i) wi (rItK i) := by
  refine ⟨_, pi_keys (pe_var hN hv hd hcd), fun τ w σ ρ E Q R hL hn st hr hq hx => ?_⟩
  unfold rItK at hr
  split at hr
  · rename_i o t ks ds e
    obtain ⟨ho, hz, hzl, q⟩ := hr
    obtain ⟨a, od, t', ks', vs', ev, eS⟩ := hL
    obtain ⟨v, e1, r⟩ := st.rep i _ e
    rw [ev] at e1
    cases e1
    obtain ⟨b, us, eb, h1, h2, h3⟩ := (rep_inner rfl).mp r
    cases eb
    have ice : Rd w.S a (dHO t ks us) := by
      simp only [Nd] at h1
      cases em : o.mine with
      | true =>
        rw [em] at h1
        have := (st.wf.tg _ _ h1.1).1
        rw [eS] at this; cases this
      | false => rw [em] at h1; exact h1
    rw [dHO_inj ice eS] at eS
    have io := it_keys (K := X.K) eS h2.1 h2.2.1 ho hz
    have eH := st.wf.sh _ _ eS
    refine ⟨_, ev, a, od, rfl, ?_⟩
    cases t with
    | false => exact .inl ⟨_, eH, hq ks ρ w _ q hzl (.refl st) io⟩
    | true => exact .inr ⟨_, eH, hq ks ρ w _ q hzl (.refl st) io⟩
  · exact hr.elim
end
/-- the dict in slot i is frozen -/
def onIce (i : Nat) (ρ : En) (k : En → Prop) : Prop := match ρ[i]? with
  | some (some (.dct o t ks ds)) => nf (ρ.set i (some (D.dct o t ks ds).frz)) k
  | _ => False
theorem onIce_elim {i : Nat} {ρ : En} {k : En → Prop} (h : onIce i ρ k) : ∃ d o t ks ds, ρ[i]? = some (some d) ∧ d = .dct o t ks ds ∧ k (ρ.set i (some d.frz)) := by
  unfold onIce at h
  split at h
  · rename_i o t ks ds e
    exact ⟨_, _, _, _, _, e, rfl, nf_of h⟩
  · exact h.elim
theorem frz_dct {o : Ow} {t : Bool} {ks ds : List D} : ∃ ds', (D.dct o t ks ds).frz = .dct .ice t ks ds' := by
  cases o <;> exact ⟨_, rfl⟩
/-- slot i frozen: a dict, locked or not -/
theorem ice_dct {K : PySem.W.Frag} {w : Wd} {σ : Sl} {ρ : En} {τ i : Nat} {k : En → Prop} (hn : ρ.length < τ) (st : StE K w σ ρ) (h : onIce i ρ k) :
    ∃ w' ρ' a t ks vs, w'.H = w.H ∧ EndE K τ w σ ρ ρ' w' ∧ k ρ' ∧ σ[i]? = some (some (.ref a)) ∧ Rd w'.S a (dHO t ks vs) := by
  obtain ⟨d, o, t, ks, ds, e, ed, hk⟩ := onIce_elim h
  obtain ⟨v, ev, _⟩ := st.rep i d e
  obtain ⟨w', e0, e2, r2⟩ := ice_slot hn st e ev
  have r := r2 []
  rw [ed] at r
  obtain ⟨ds', ef⟩ := frz_dct (o := o) (t := t) (ks := ks) (ds := ds)
  rw [ef] at r
  obtain ⟨b, us, rfl, h1, _⟩ := (rep_inner rfl).mp r
  exact ⟨w', _, b, t, ks, us, e0, e2, hk, ev, h1⟩
section
variable {K : PySem.W.Frag} {W : WX} {M : List Nat}
theorem mut_dHO {t : Bool} {ks : List D} {vs : List V} : Mut (some (dHO t ks vs)) := by cases t <;> trivial
theorem sx0 {τ : Nat} {w : Wd} {σ : Sl} {ρ : En} : SX K W τ w σ ρ E0D := fun _ _ _ _ _ h => h.elim
theorem se_lock {i : Nat} {t : TE} {r : RE} (h : SEL K W (LkS i) t r) : SE K W (fun σ H Q => t σ H Q ∨ tLockE t σ H Q) (fun ρ _ Q => onIce i ρ fun ρ' => r ρ' E0D Q) := by
  intro τ w σ ρ E Q Qv hn st hr hq hx
  obtain ⟨w1, ρ1, a, tt, ks, vs, e0, e1, hk, ev, rd⟩ := ice_dct (K := K) hn st hr
  have hn1 : ρ1.length < τ := by rw [e1.len]; exact hn
  rw [← e0]
  rcases rd with rd | ⟨od, rd⟩
  · refine .inr ⟨a, _, e1.st.wf.sh _ _ rd, mut_dHO, fun od => ?_⟩
    have sw := sw_lock (od := od) ⟨tt, ks, vs, rfl⟩ rd
    refine h τ (w1.lock a od (dHO tt ks vs)) σ ρ1 E0D _ _ ⟨a, od, tt, ks, vs, ev, upd_same⟩ hn1 (e1.st.sw sw) hk (fun d ρ2 w2 v q e2 r2 => ?_) sx0
    have hS : w2.S a = some (.frz od (dHO tt ks vs)) := e2.ext.s _ _ upd_same
    have su := sw_unlock ⟨tt, ks, vs, rfl⟩ hS
    refine ⟨e2.st.wf.sh _ _ hS, ?_⟩
    refine hq d ρ2 (w2.unlock a (dHO tt ks vs)) v q (e1.trans (τ' := τ) ⟨e2.len, e2.st.sw su, ext_lock e1.st.wf ⟨tt, ks, vs, rfl⟩ rd e2.ext⟩ (Nat.le_refl _)) (Rep.sw su e2.st.wf d r2)
  · exact .inl (h τ w1 σ ρ1 E0D _ _ ⟨a, od, tt, ks, vs, ev, rd⟩ hn1 e1.st hk (fun d ρ2 w2 v q e2 r2 => hq d ρ2 w2 v q (e1.trans e2 (Nat.le_refl _)) r2) sx0)
end
/-- [.. for x in d], d a dict -/
def rCompD (i : Nat) (rg : RG) (rt : RT) (re : RE) (vs : List Nat) : RE := fun ρ _ Q => onIce i ρ fun ρ' => rComp (rItK i) rg rt re vs ρ' E0D Q
section
variable {X : Cx} {W : WX} {M : List Nat} {pos : Pos}
theorem fe_lcD (i : Nat) (vs : List Nat) {elt tg : Expr} {x : Str} {ipos : Pos} {ifs : List Expr} {scope : Scope} {own : List (Str × Nat)} {rg : RG} {rt : RT} {re : RE} (hN : X.N.Nodup) (ok : BlkOk X.N X.env.scope scope own)
    (hg : ∀ c : BlkC, FG (Cx.blkC X scope c) vs tg rg) (ht : ∀ c : BlkC, FTs (Cx.blkC X scope c) W0 ifs rt) (he : ∀ c : BlkC, FE (Cx.blkC X scope c) W0 elt re) (hNi : X.N[i]? = some x := by rfl) (hvi : Vis X.env.scope x := by first | exact Or.inl rfl | exact Or.inr (Or.inl rfl) | exact Or.inr (Or.inr rfl)) (hd : (x == ("__debug__" : Str)) = false := by decide)
    (hcd : (x == ("__classdict__" : Str)) = false := by decide) (hv : own.map (·.2) = vs := by rfl) (hc : X.calm = true := by rfl) (hs : ∀ y, foldedSetIterable (.Name x ipos) X.env y = pure y := by intro _; rfl) :
    FE X W (.ListComp elt [⟨tg, .Name x ipos, ifs, 0⟩] scope pos) (rCompD i rg rt re vs) := by
  obtain ⟨wi, g, tt, te, p, pg, pt, pe, k⟩ := lc_exL (W := W) (LkS i) vs (fi_keys hNi hvi hd hcd) hg ht he
  have pl : PE X (.ListComp elt [⟨tg, .Name x ipos, ifs, 0⟩] scope pos) (tLc wi g tt te vs) := by rw [← hv]; exact pe_lc hc hN p ok (fun s H C cl fp => pg (s, H, C, cl, fp)) (fun s H C cl fp => pt (s, H, C, cl, fp)) (fun s H C cl fp => pe (s, H, C, cl, fp)) hs
  exact ⟨_, pe_or pl (pe_lock pl), se_lock k⟩
end
end FL
namespace FL
open PySem PySem.Spec PyProof.Rows L2 RT
theorem hu2 {n : Nat} (h : n + 64 < cLine) : n + 2 < cLine := by omega
/-- a frozen tuple and a tuple at the next temporary, added -/
def rCatT (ra rb : RE) : RE := fun ρ E Q => ra ρ E fun dx ρ1 => rb ρ1 E fun dy ρ2 => match dx with
  | .tup false xs => match dy with
    | .tup o ys => xs.length + ys.length ≤ sizeLine ∧ ys.isEmpty = false ∧ Q (.tup o (xs ++ ys)) ρ2
    | _ => False
  | _ => False
/-- the parts of τ + 1 become τ's, from n on -/
def catT (τ n : Nat) : Loc → Option Loc
  | h :: j :: s => if h = τ + 1 then some (τ :: (n + j) :: s) else some (h :: j :: s)
  | [h] => some [h]
  | [] => some []
theorem catT_calm {m τ n : Nat} (h : m < τ) : Calm m τ (catT τ n) := ⟨fun a s q => by
  cases s with
  | nil => rfl
  | cons j s =>
    show (if _ then _ else _) = _
    rw [if_neg (by omega)]⟩
theorem reps_catT {K : PySem.W.Frag} {w : Wd} {ds : List D} {τ n : Nat} {vs : List V} (h : RepL K w ds [τ + 1] 0 vs) : RepL K (w.ren (catT τ n)) ds [τ] n vs := by
  refine RepL.of h.length fun i d v e1 e2 => ?_
  obtain ⟨v', e3, r⟩ := h.get e1
  rw [e2] at e3; cases e3
  rw [Nat.zero_add] at r
  refine r.ren fun s => ?_
  show (if _ then _ else _) = _
  rw [if_pos rfl]; rfl
section
variable {X : Cx} {W : WX} {a b : Expr} {ra rb : RE} {pos : Pos}
theorem fe_catT (ha : FE X W a ra) (hb : FE X W b rb) : FE X W (.BinOp a .Add b pos) (rCatT ra rb) := by
  obtain ⟨ta, pa, sa⟩ := ha.ex
  obtain ⟨tb, pb, sb⟩ := hb.ex
  refine ⟨_, pe_op op_catA pa pb, fun τ w σ ρ E Q Qv hn st hr hq hx => ?_⟩
  refine sa τ w σ ρ E _ _ hn st hr (fun dx ρ1 w1 v1 h1 e1 r1 => ?_) hx
  have hn1 : ρ1.length < τ + 1 := by rw [e1.len]; omega
  refine sb (τ + 1) w1 σ ρ1 E _ _ hn1 e1.st h1 (fun dy ρ2 w2 v2 h2 e2 r2 => ?_) (hx.then e1 (Nat.le_succ _))
  have e12 := e1.trans e2 (Nat.le_succ _)
  split at h2
  · rename_i xs
    split at h2
    · rename_i o ys
      obtain ⟨hz, hy, q⟩ := h2
      have ox := (tup_sz r1).2 rfl
      have r1 : Rep X.K w2 (.tup false xs) [τ] v1 := r1.free e2.ext.s _ rfl
      obtain ⟨a, vs, rfl, h1, hl⟩ := tup_at e12.st.wf r1
      have sz2 := tup_sz r2
      obtain ⟨b, us, rfl, k1, kl⟩ := tup_at e12.st.wf r2
      have l1 := hl.length
      have l2 := kl.length
      have er := EndE.ren (τ := τ) e12.st (catT_calm (n := xs.length) (by rw [e12.len]; exact hn))
      have rl : RepL X.K (w2.ren (catT τ xs.length)) (xs ++ ys) [τ] 0 (vs ++ us) := (RepL.free (w := w2) (w' := w2.ren (catT τ xs.length)) (ℓ := [τ]) (j := 0) (Same.refl _) xs ox hl).app (by rw [Nat.zero_add]; exact reps_catT kl)
      have hy' : us ≠ [] := fun z => by
        subst z
        cases ys with
        | nil => cases hy
        | cons _ _ => cases l2
      refine ⟨a, b, vs, us, rfl, rfl, SqT.of h1, SqT.of k1, by omega, fun z => ?_, fun _ z => absurd z hy', fun _ _ p n => ?_⟩
      · -- the first is empty: the second itself
        subst z
        have hx0 : xs = [] := List.length_eq_zero_iff.mp (by rw [← l1]; rfl)
        subst hx0
        have r3 : Rep X.K (w2.ren (catT τ 0)) (.tup o ys) [τ] (.ref b) := by
          simp only [Rep] at r2 ⊢
          obtain ⟨b', us', eb, g1, g2, g3⟩ := r2
          cases eb
          have : us' = us := by
            have := e12.st.wf.sh _ _ g1
            rw [k1] at this; cases this; rfl
          subst this
          exact ⟨b, us', rfl, g1, g2, reps_catT g3⟩
        exact hq (.tup o ys) ρ2 (w2.ren (catT τ 0)) _ q (e12.trans er (Nat.le_refl _)) r3
      · obtain ⟨e3, r3⟩ := EndE.tup (τ := τ) o er.st (p := p) n rl (by rw [List.length_append]; exact hz) (fun z => by
          subst z
          rw [ownL_iff]
          intro d hd
          rcases List.mem_append.mp hd with h | h
          · exact ownL_iff.mp ox d h
          · exact ownL_iff.mp (sz2.2 rfl) d h)
        exact hq _ ρ2 _ _ q ((e12.trans er (Nat.le_refl _)).trans e3 (Nat.le_refl _)) r3
    · exact h2.elim
  · exact h2.elim
end
end FL
namespace FL
open PySem PySem.Spec PyProof.Rows L2 RT
mutual
/-- no frozen node that could change: it is no part of what was lent -/
def D.clean : D → Bool
  | .tup _ ds => cleanL ds
  | .lst o ds => match o with
    | .ice => false
    | _ => cleanL ds
  | .ro t ds => match t with
    | true => cleanL ds
    | false => false
  | .dct o _ _ ds => match o with
    | .ice => false
    | _ => cleanL ds
  | .ins o _ _ ds => match o with
    | .ice => false
    | _ => cleanL ds
  | .any => true
  | .non => true
  | .bl _ => true
  | .int _ => true
  | .str _ => true
  | .obj _ => true
  | .ty _ => true
def cleanL : List D → Bool
  | [] => true
  | d :: ds => d.clean && cleanL ds
end
theorem cleanL_all {ds : List D} : cleanL ds = true ↔ ∀ d ∈ ds, d.clean = true := by
  induction ds with
  | nil => simp [cleanL]
  | cons d r ih => simp [cleanL, ih]
/-- w'' is w' but for some changeable shared nodes -/
structure Tw (w' w'' : Wd) : Prop where
  G : ∀ a ℓ, w'.G a = some ℓ → w''.G a = some ℓ
  S : ∀ a o, w'.S a = some o → ¬ Mut (some o) → w''.S a = some o
  H : w''.H = w'.H
section
variable {K : PySem.W.Frag} {w' w'' : Wd}
theorem Nd.thaw (h : Tw w' w'') {d : D} {ℓ : Loc} {a : Addr} {vs : List V} (hd : d.clean = true) (n : Nd K w' d ℓ a vs) : Nd K w'' d ℓ a vs := by
  cases d with
  | tup o ds => exact h.S _ _ n fun z => z.elim
  | lst o ds =>
    cases o with
    | ice => cases hd
    | flat => exact ⟨h.G _ _ n.1, by rw [h.H]; exact n.2⟩
    | deep => exact ⟨h.G _ _ n.1, by rw [h.H]; exact n.2⟩
  | ro t ds =>
    cases t with
    | false => cases hd
    | true =>
      rcases n with (n | ⟨o, n⟩) | n
      · exact .inl (.inl (h.S _ _ n fun z => z.elim))
      · exact .inl (.inr ⟨o, h.S _ _ n fun z => z.elim⟩)
      · exact .inr n
  | dct o t ks ds =>
    cases o with
    | ice => cases hd
    | flat => exact ⟨h.G _ _ n.1, by rw [h.H]; exact n.2⟩
    | deep => exact ⟨h.G _ _ n.1, by rw [h.H]; exact n.2⟩
  | ins o C fs ds =>
    obtain ⟨dx, n⟩ := n
    cases o with
    | ice => cases hd
    | flat => exact ⟨dx, h.G _ _ n.1, by rw [h.H]; exact n.2⟩
    | deep => exact ⟨dx, h.G _ _ n.1, by rw [h.H]; exact n.2⟩
  | _ => exact n.elim
theorem clean_kids {d : D} (h : d.clean = true) : cleanL d.kids = true := by
  cases d with
  | tup o ds => exact h
  | lst o ds => cases o <;> first | (cases h; done) | exact h
  | ro t ds => cases t <;> first | (cases h; done) | exact h
  | dct o t ks ds => cases o <;> first | (cases h; done) | exact h
  | ins o C fs ds => cases o <;> first | (cases h; done) | exact h
  | _ => rfl
mutual
theorem Rep.thaw (h : Tw w' w'') : ∀ (d : D) {ℓ : Loc} {v : V}, d.clean = true → Rep K w' d ℓ v → Rep K w'' d ℓ v
  | .any, _, _, _, r => leaf_rep rfl r
  | .non, _, _, _, r => leaf_rep rfl r
  | .bl _, _, _, _, r => leaf_rep rfl r
  | .int _, _, _, _, r => leaf_rep rfl r
  | .str _, _, _, _, r => leaf_rep rfl r
  | .obj _, _, _, _, r => leaf_rep rfl r
  | .ty _, _, _, _, r => leaf_rep rfl r
  | .tup o ds, ℓ, v, c, r => by
    rw [rep_inner rfl] at r ⊢
    obtain ⟨b, vs, e, h1, hz, h2⟩ := r
    exact ⟨b, vs, e, h1.thaw h c, hz, RepL.thaw h ds (clean_kids c) h2⟩
  | .lst o ds, ℓ, v, c, r => by
    rw [rep_inner rfl] at r ⊢
    obtain ⟨b, vs, e, h1, hz, h2⟩ := r
    exact ⟨b, vs, e, h1.thaw h c, hz, RepL.thaw h ds (clean_kids c) h2⟩
  | .ro t ds, ℓ, v, c, r => by
    rw [rep_inner rfl] at r ⊢
    obtain ⟨b, vs, e, h1, hz, h2⟩ := r
    exact ⟨b, vs, e, h1.thaw h c, hz, RepL.thaw h ds (clean_kids c) h2⟩
  | .dct o t ks ds, ℓ, v, c, r => by
    rw [rep_inner rfl] at r ⊢
    obtain ⟨b, vs, e, h1, hz, h2⟩ := r
    exact ⟨b, vs, e, h1.thaw h c, hz, RepL.thaw h ds (clean_kids c) h2⟩
  | .ins o C fs ds, ℓ, v, c, r => by
    rw [rep_inner rfl] at r ⊢
    obtain ⟨b, vs, e, h1, hz, h2⟩ := r
    exact ⟨b, vs, e, h1.thaw h c, hz, RepL.thaw h ds (clean_kids c) h2⟩
theorem RepL.thaw (h : Tw w' w'') : ∀ (ds : List D) {ℓ : Loc} {j : Nat} {vs : List V}, cleanL ds = true → RepL K w' ds ℓ j vs → RepL K w'' ds ℓ j vs
  | [], _, _, _, _, r => by simpa [RepL] using r
  | d :: ds, ℓ, j, vs, c, r => by
    simp only [cleanL, Bool.and_eq_true] at c
    simp only [RepL] at r ⊢
    obtain ⟨v, us, e, h1, h2⟩ := r
    exact ⟨v, us, e, Rep.thaw h d c.1 h1, RepL.thaw h ds c.2 h2⟩
end
end
/-- of slot i -/
def isOf (i : Nat) (o : Option Loc) : Bool := match o with
  | some (h :: _) => h == i + 1
  | _ => false
def Wd.thaw (w w' : Wd) (i : Nat) : Wd := ⟨fun a => if isOf i (w.G a) then w.G a else w'.G a, fun a => if isOf i (w.G a) then none else w'.S a, w'.H⟩
def iceS (i : Nat) : Loc → Bool := fun ℓ => match ℓ with | h :: _ => h == i + 1 | [] => false
theorem isOf_some {i : Nat} {o : Option Loc} (h : isOf i o = true) : ∃ s, o = some ((i + 1) :: s) := by
  unfold isOf at h
  split at h
  · rename_i x s
    have : x = i + 1 := by simpa using h
    subst this
    exact ⟨s, rfl⟩
  · cases h
section
variable {K : PySem.W.Frag} {w w' : Wd} {i : Nat}
theorem thaw_at (wf : Wf w) (wf' : Wf w') (hs : Same (w.ice (iceS i)).S w'.S) {a : Addr} (h : isOf i (w.G a) = true) : w.S a = none ∧ Mut (w.H a) ∧ w'.H a = w.H a ∧ w'.S a = w.H a ∧ w'.G a = none := by
  obtain ⟨s, e⟩ := isOf_some h
  obtain ⟨h1, h2⟩ := wf.tg _ _ e
  obtain ⟨o, eo⟩ : ∃ o, w.H a = some o := by
    cases q : w.H a with
    | none => rw [q] at h2; exact h2.elim
    | some o => exact ⟨o, rfl⟩
  have e1 : (w.ice (iceS i)).S a = some o := by
    show (match w.G a with | some ℓ => if iceS i ℓ then w.H a else w.S a | none => w.S a) = some o
    rw [e]
    show (if iceS i ((i + 1) :: s) then w.H a else w.S a) = some o
    rw [if_pos (by show (i + 1 == i + 1) = true; simp)]
    exact eo
  have e2 := hs _ _ e1
  refine ⟨h1, h2, by rw [wf'.sh _ _ e2, eo], by rw [e2, eo], ?_⟩
  cases q : w'.G a with
  | none => rfl
  | some ℓ =>
    have := (wf'.tg _ _ q).1
    rw [e2] at this; cases this
theorem thaw_wf (wf : Wf w) (wf' : Wf w') (hs : Same (w.ice (iceS i)).S w'.S) : Wf (w.thaw w' i) := by
  refine ⟨fun a o e => ?_, fun a ℓ e => ?_⟩
  · have e : (if isOf i (w.G a) then none else w'.S a) = some o := e
    split at e
    · cases e
    · exact wf'.sh _ _ e
  · have e : (if isOf i (w.G a) then w.G a else w'.G a) = some ℓ := e
    by_cases h : isOf i (w.G a) = true
    · obtain ⟨h1, h2, h3, h4, h5⟩ := thaw_at wf wf' hs h
      refine ⟨if_pos h, ?_⟩
      show Mut (w'.H a)
      rw [h3]; exact h2
    · rw [if_neg h] at e
      obtain ⟨h1, h2⟩ := wf'.tg _ _ e
      exact ⟨by show (if isOf i (w.G a) then none else w'.S a) = none; rw [if_neg h]; exact h1, h2⟩
theorem thaw_tw (wf : Wf w) (wf' : Wf w') (hs : Same (w.ice (iceS i)).S w'.S) : Tw w' (w.thaw w' i) := by
  refine ⟨fun a ℓ e => ?_, fun a o e m => ?_, rfl⟩
  · show (if isOf i (w.G a) then w.G a else w'.G a) = some ℓ
    by_cases h : isOf i (w.G a) = true
    · have := (thaw_at wf wf' hs h).2.2.2.2
      rw [e] at this; cases this
    · rw [if_neg h]; exact e
  · show (if isOf i (w.G a) then none else w'.S a) = some o
    by_cases h : isOf i (w.G a) = true
    · obtain ⟨_, h2, _, h4, _⟩ := thaw_at wf wf' hs h
      rw [h4] at e
      rw [e] at h2
      exact absurd h2 m
    · rw [if_neg h]; exact e
theorem thaw_same (wf : Wf w) (hs : Same (w.ice (iceS i)).S w'.S) : Same w.S (w.thaw w' i).S := fun a o e => by
  show (if isOf i (w.G a) then none else w'.S a) = some o
  by_cases h : isOf i (w.G a) = true
  · obtain ⟨s, g⟩ := isOf_some h
    rw [(wf.tg _ _ g).1] at e; cases e
  · rw [if_neg h]
    exact hs _ _ (ice_same wf _ _ e)
theorem thaw_ext {n τ : Nat} (wf : Wf w) (hi : i < n) (x : Ext n τ (w.ice (iceS i)) w') : Ext n τ w (w.thaw w' i) := by
  refine ⟨thaw_same wf x.s, fun a ℓ e f => ?_⟩
  obtain ⟨h, s, rfl, hh⟩ := f
  have hne : ¬ h = i + 1 := by omega
  have h0 : isOf i (w.G a) = false := by
    rw [e]
    show (h == i + 1) = false
    simpa using hne
  have e1 : (w.ice (iceS i)).G a = some (h :: s) := by
    show (match w.G a with | some ℓ => if iceS i ℓ then none else some ℓ | none => none) = _
    rw [e]
    show (if iceS i (h :: s) then none else some (h :: s)) = _
    rw [if_neg (by show ¬ (h == i + 1) = true; simpa using hne)]
  obtain ⟨g1, g2⟩ := x.f a _ e1 ⟨h, s, rfl, hh⟩
  refine ⟨?_, g2⟩
  show (if isOf i (w.G a) then w.G a else w'.G a) = _
  rw [h0]
  exact g1
/-- what the other names hold -/
def tw (a b : Option D) : Prop := match b with
  | none => True
  | some d => d.clean = true ∨ (d.own = false ∧ a = some d)
def twL : En → En → Prop
  | a :: ρ1, b :: ρ' => tw a b ∧ twL ρ1 ρ'
  | _, _ => True
theorem twL_at : ∀ {ρ1 ρ' : En} {j : Nat} {d : D}, ρ'.length = ρ1.length → twL ρ1 ρ' → ρ'[j]? = some (some d) → d.clean = true ∨ (d.own = false ∧ ρ1[j]? = some (some d))
  | [], [], j, d, _, _, e => by simp at e
  | a :: ρ1, b :: ρ', 0, d, _, h, e => by
    have e : b = some d := by simpa using e
    subst e
    rcases h.1 with h | ⟨h, h2⟩
    · exact .inl h
    · exact .inr ⟨h, by simpa using h2⟩
  | a :: ρ1, b :: ρ', j + 1, d, hl, h, e => twL_at (ρ1 := ρ1) (ρ' := ρ') (j := j) (by simpa using hl) h.2 (by simpa using e)
theorem thaw_st {σ : Sl} {ρ ρ' : En} {d : D} {v : V} {τ : Nat} (st : StE K w σ ρ) (ed : ρ[i]? = some (some d)) (ev : σ[i]? = some (some v)) (rv : Rep K w d [i + 1] v) (e : EndE K τ (w.ice (iceS i)) σ (ρ.set i (some d.frz)) ρ' w') (h : twL (ρ.set i (some d.frz)) ρ') :
    EndE K τ w σ ρ (ρ'.set i (some d)) (w.thaw w' i) := by
  have hi := (List.getElem?_eq_some_iff.mp ed).1
  have hl : ρ'.length = ρ.length := by have := e.len; rw [List.length_set] at this; exact this
  have wf' := e.st.wf
  have x : Ext ρ.length τ (w.ice (iceS i)) w' := by have := e.ext; rw [List.length_set] at this; exact this
  have twd := thaw_tw st.wf wf' x.s
  have sm := thaw_same st.wf x.s
  refine ⟨by rw [List.length_set]; exact hl, ⟨thaw_wf st.wf wf' x.s, by rw [List.length_set]; exact e.st.len, fun j d' e' => ?_⟩, thaw_ext st.wf hi x⟩
  by_cases hj : j = i
  · subst hj
    rw [List.getElem?_set_self (by rw [hl]; exact hi)] at e'
    cases e'
    refine ⟨v, ev, Rep.to (w := w) sm d (fun a s g => ?_) rv⟩
    have h1 : isOf j (w.G a) = true := by
      rw [g]
      show (j + 1 == j + 1) = true
      simp
    refine ⟨?_, (thaw_at st.wf wf' x.s h1).2.2.1⟩
    show (if isOf j (w.G a) then w.G a else w'.G a) = _
    rw [if_pos h1]; exact g
  · rw [List.getElem?_set_ne (Ne.symm hj)] at e'
    obtain ⟨u, eu, r⟩ := e.st.rep j d' e'
    refine ⟨u, eu, ?_⟩
    rcases twL_at e.len h e' with c | ⟨c, e1⟩
    · exact Rep.thaw twd d' c r
    · rw [List.getElem?_set_ne (Ne.symm hj)] at e1
      obtain ⟨u', eu', r'⟩ := st.rep j d' e1
      rw [eu] at eu'; cases eu'
      exact r'.free sm d' c
theorem ice_slot' {σ : Sl} {ρ : En} {d : D} {τ : Nat} (hn : ρ.length < τ) (st : StE K w σ ρ) (e : ρ[i]? = some (some d)) : EndE K τ w σ ρ (ρ.set i (some d.frz)) (w.ice (iceS i)) := by
  refine ⟨by rw [List.length_set], ⟨st.wf.ice, by rw [List.length_set]; exact st.len, fun j d' e' => ?_⟩, ⟨ice_same st.wf, fun a ℓ e3 ⟨h, s, e2, k⟩ => ?_⟩⟩
  · have hi := (List.getElem?_eq_some_iff.mp e).1
    by_cases hj : j = i
    · subst hj
      rw [List.getElem?_set_self hi] at e'
      cases e'
      obtain ⟨v, ev, r⟩ := st.rep j d e
      exact ⟨v, ev, Rep.frz (w := w) (ice_same st.wf) d (ice_frz fun s => by show (j + 1 == j + 1) = true; simp) r⟩
    · rw [List.getElem?_set_ne (Ne.symm hj)] at e'
      obtain ⟨u, e4, r2⟩ := st.rep j d' e'
      exact ⟨u, e4, Rep.to (w := w) (ice_same st.wf) d' (ice_kept fun s => by show (j + 1 == i + 1) = false; simp; omega) r2⟩
  · subst e2
    have hi := (List.getElem?_eq_some_iff.mp e).1
    have := ice_kept (w := w) (ℓ := h :: s) (P := iceS i) (fun t => by
      show (h == i + 1) = false
      simp; omega) a [] (by simpa using e3)
    simpa using this
end
/-- e with slot i lent -/
def rThaw (i : Nat) (re : RE) : RE := fun ρ _ Q => match ρ[i]? with
  | some (some d) => nf (ρ.set i (some d.frz)) fun ρ1 => re ρ1 E0D fun r ρ' => twL ρ1 ρ' ∧ r.clean = true ∧ nf (ρ'.set i (some d)) (Q r)
  | _ => False
theorem se_thaw {K : PySem.W.Frag} {W : WX} (i : Nat) {t : TE} {re : RE} (k : SE K W t re) : SE K W t (rThaw i re) := by
  intro τ w σ ρ E Q Qv hn st hr hq hx
  unfold rThaw at hr
  split at hr
  · rename_i d ed
    have hr := nf_of hr
    obtain ⟨v, ev, rv⟩ := st.rep i d ed
    have e1 := ice_slot' hn st ed
    refine k τ (w.ice (iceS i)) σ _ E0D _ _ (by rw [e1.len]; exact hn) e1.st hr (fun r ρ' w' v' q e2 r2 => ?_) (fun _ _ _ _ _ z => z.elim)
    obtain ⟨q1, q2, q3⟩ := q
    have x : Ext ρ.length τ (w.ice (iceS i)) w' := by have := e2.ext; rw [List.length_set] at this; exact this
    exact hq r _ (w.thaw w' i) v' (nf_of q3) (thaw_st st ed ev rv e2 q1) (Rep.thaw (thaw_tw st.wf e2.st.wf x.s) r q2 r2)
  · exact hr.elim
section
variable {X : Cx} {W : WX} {M : List Nat} {e : Expr}
theorem fe_thaw (i : Nat) {re : RE} (h : FE X W e re) : FE X W e (rThaw i re) := by
  obtain ⟨t, p, k⟩ := h.ex
  exact ⟨t, p, se_thaw i k⟩
end
end FL
namespace Cm
open PySem PySem.Spec PyProof.Rows L2 FL
def rb_law_cell_at : RS := (rSeq (rIf (rTst (rBin dLt (oV (rVar 1)) (oV (rCB dLen (rAC (oV (rVar 0)) rA0))))) (rRet (rBin dIx (oV (rVar 0)) (oV (rVar 1)))) rNx)
  (rRet (rC (.int 0))))
abbrev RD_law_cell_at (r : FSpec) : Prop := ∀ ds ED QD, ds.length = 2 → r ds ED QD → rb_law_cell_at (startD ["_law_script", "_law_k"] ds) (fun c fs ρ => ED c fs (ρ.take 2)) (finD 2 QD)
def rb_law_mixed : RS := (rSeq (rSetF 2 (rIc (fun i => i % 2147483647) (oV (rIc (fun i => i * 48271) (oV (rIc (fun i => i + 1) (oV (rBin dAdd (oV (rIc (fun i => i % 1000000007) (oV (rVar 0)))) (oV (rIc (fun i => 7 * i) (oV (rVar 1))))))))))))
  (rSeq (rSetF 3 (rIc (fun i => i % 998244353) (oV (rBin dMulX (oV (rVar 2)) (oV (rIc (fun i => i + 3) (oV (rBin dAdd (oV (rIc (fun i => i % 1009) (oV (rVar 2)))) (oV (rVar 1))))))))))
  (rRet (rIc (fun i => i / 64) (oV (rIc (fun i => i % 2147483629) (oV (rBin dAdd (oV (rIc (fun i => i * 39373) (oV (rVar 3)))) (oV (rVar 2))))))))))
abbrev RD_law_mixed (r : FSpec) : Prop := ∀ ds ED QD, ds.length = 2 → r ds ED QD → rb_law_mixed (startD ["_law_number", "_law_k", "_law_once", "_law_twice"] ds) (fun c fs ρ => ED c fs (ρ.take 2)) (finD 2 QD)
def rb_law_box (r_law_cell_at : FSpec) (r_law_mixed : FSpec) : RS := (rSeq (rSetF 2 (rCall [] r_law_cell_at (rAC (oV (rVar 0)) (rAC (oV (rVar 1)) rA0))))
  (rRet (rLst (rAC (oV (rBin dMulX (oV (rCB dAbs (rAC (oV (rVar 2)) rA0))) (oV (rCB dInt (rAC (oV (rBin dGe (oV (rCB dAbs (rAC (oV (rVar 2)) rA0))) (oV (rC (.int (10 ^ 18)))))) rA0))))) (rAC (oV (rCall [] r_law_mixed (rAC (oV (rVar 2)) (rAC (oV (rIc (fun i => 900 + i) (oV (rVar 1)))) rA0)))) (rAC (oV (rC (.int 0))) rA0))))))
abbrev RD_law_box (r : FSpec) (r_law_cell_at : FSpec) (r_law_mixed : FSpec) : Prop := ∀ ds ED QD, ds.length = 2 → r ds ED QD → (rb_law_box r_law_cell_at r_law_mixed) (startD ["_law_script", "_law_k", "_law_cell"] ds) (fun c fs ρ => ED c fs (ρ.take 2)) (finD 2 QD)
def rb_law_take (r_law_mixed : FSpec) : RS := (rSeq (rIf (rTst (rBin dGt (oV (rBin dIx (oN 0) (oV (rC (.int 0))))) (oV (rC (.int 0))))) (rSeq (rSetF 2 (rBin dMod (oV (rBin dIx (oN 0) (oV (rC (.int 0))))) (oV (rVar 1))))
  (rSeq (rSetL 0 (oV (rC (.int 0))) (rBin dFdiv (oV (rBin dIx (oN 0) (oV (rC (.int 0))))) (oV (rVar 1))))
  (rRet (rVar 2)))) rNx)
  (rSeq (rAsg (gTp 2 (gCs (gNm 2) (gCs (gNm 3) gNl))) (rTup (rAC (oV (rC (.int 0))) (rAC (oV (rC (.int 1))) rA0))))
  (rSeq (rWhile (rTst (rBin dLt (oV (rVar 3)) (oV (rVar 1)))) (rSeq (rSetL 0 (oV (rC (.int 2))) (rIc (fun i => i + 1) (oV (rBin dIx (oN 0) (oV (rC (.int 2)))))))
  (rSeq (rSetF 2 (rBin dAdd (oV (rIc (fun i => i * 33554432) (oV (rVar 2)))) (oV (rCall [] r_law_mixed (rAC (oV (rBin dIx (oN 0) (oV (rC (.int 1))))) (rAC (oV (rBin dIx (oN 0) (oV (rC (.int 2))))) rA0))))))
  (rSetF 3 (rIc (fun i => i * 33554432) (oV (rVar 3)))))))
  (rRet (rBin dMod (oV (rVar 2)) (oV (rVar 1)))))))
abbrev RD_law_take (r : FSpec) (r_law_mixed : FSpec) : Prop := ∀ ds ED QD, ds.length = 2 → r ds ED QD → (rb_law_take r_law_mixed) (startD ["_law_box_here", "_law_many", "_law_found", "_law_reach"] ds) (fun c fs ρ => ED c fs (ρ.take 2)) (finD 2 QD)
def rb_law_part (r_law_number : FSpec) : RS := (rRet (rCB dTuple (rAC (oV (rComp (rRg1 (rAC (oV (rVar 1)) rA0)) (gNm 2) rYes (rCall [0] r_law_number (rAC (oN 0) rA0)) [2])) rA0)))
abbrev RD_law_part (r : FSpec) (r_law_number : FSpec) : Prop := ∀ ds ED QD, ds.length = 2 → r ds ED QD → (rb_law_part r_law_number) (startD ["_law_box_here", "_law_length", "_law_k"] ds) (fun c fs ρ => ED c fs (ρ.take 2)) (finD 2 QD)
def rb_law_scheme (r_law_take : FSpec) (r_law_part : FSpec) : RS := (rSeq (rSet 3 (rLst rA0))
  (rSeq (rFor (rRg1 (rAC (oV (rVar 2)) rA0)) (gNm 4) (rSeq (rSet 5 (rComp (rItA (rVar 1)) (gNm 8) rYes (rCall [0] r_law_part (rAC (oN 0) (rAC (oV (rVar 8)) rA0))) [8]))
  (rSeq (rSetF 6 (rCall [0] r_law_take (rAC (oN 0) (rAC (oV (rC (.int 8))) rA0))))
  (rSeq (rCut (rIf (rAnd (rTst (rBin dLt (oV (rVar 6)) (oV (rC (.int 3))))) (rTst (rBin dNe (oN 3) (oV (rLst rA0))))) (rSetL 5 (oV (rVar 6)) (rBin dIx (oV (rBin dIx (oN 3) (oV (rCall [0] r_law_take (rAC (oN 0) (rAC (oV (rCB dLen (rAC (oN 3) rA0))) rA0)))))) (oV (rVar 6)))) rNx))
  (rSeq (rCut (rIf (rTst (rBin dEq (oV (rVar 6)) (oV (rC (.int 3))))) (rSeq (rSetF 7 (rCall [0] r_law_take (rAC (oN 0) (rAC (oV (rC (.int 3))) rA0))))
  (rSetL 5 (oV (rVar 7)) (rBin dMulX (oV (rTup (rAC (oV (rC (.int 0))) rA0))) (oV (rBin dIx (oV (rVar 1)) (oV (rVar 7))))))) rNx))
  (rDrop (rApp 3 (rCB dTuple (rAC (oN 5) rA0)))))))))
  (rRet (rBin dAdd (oV (rCB dTuple (rAC (oV (rVar 1)) rA0))) (oV (rFrz (rTup (rAC (oV (rIce 3)) rA0))))))))
abbrev RD_law_scheme (r : FSpec) (r_law_take : FSpec) (r_law_part : FSpec) : Prop := ∀ ds ED QD, ds.length = 3 → r ds ED QD → (rb_law_scheme r_law_take r_law_part) (startD ["_law_box_here", "_law_lengths", "_law_count", "_law_products", "_law_k", "_law_product", "_law_way", "_law_side", "_law_length"] ds) (fun c fs ρ => ED c fs (ρ.take 3)) (finD 3 QD)
end Cm
namespace Cm
open PySem PySem.Spec PyProof.Rows L2 FL
theorem fdOk {b : Int} (h0 : 0 < b) (h : b < 2 ^ 64) : 0 < b ∧ b.natAbs.log2 < 9000 := ⟨h0, (wide_div (i := 0) h0 (b := 64) (by omega) (by decide) (by decide)).2⟩
theorem mulL {a b : Int} (h0 : -(2 ^ 64) < a) (h : a < 2 ^ 64) : MulOk a b := .inl (.inl ⟨h0, h⟩)
theorem mulR {a b : Int} (h0 : -(2 ^ 64) < b) (h : b < 2 ^ 64) : MulOk a b := .inl (.inr ⟨h0, h⟩)
theorem rgD_at {lo hi : Int} {i : Nat} {x : D} (h : (rgD lo hi)[i]? = some x) : x = .int (lo + i) ∧ lo + i < hi := by
  unfold rgD at h
  rw [List.getElem?_map] at h
  obtain ⟨j, e, rfl⟩ := Option.map_eq_some_iff.mp h
  obtain ⟨h1, e⟩ := List.getElem?_eq_some_iff.mp e
  rw [List.getElem_range] at e
  rw [List.length_range] at h1
  subst e
  exact ⟨rfl, by omega⟩
set_option maxHeartbeats 0
def r_law_mixed : FSpec := fun ds _ Q => ∃ a b : Int, ds = [.int a, .int b] ∧ ∀ r os, 0 ≤ r → r < 33554432 → Q (.int r) os
theorem rd_law_mixed : ∀ ds ED QD, ds.length = 2 → r_law_mixed ds ED QD → rb_law_mixed (startD ["_law_number", "_law_k", "_law_once", "_law_twice"] ds) (fun c fs ρ => ED c fs (ρ.take 2)) (finD 2 QD) := by
  rintro ds ED QD - ⟨a, b, rfl, q⟩
  refine ⟨mulL ?_ ?_, q _ _ ?_ ?_⟩
  all_goals ((try dsimp only); omega)
def r_law_cell_at : FSpec := fun ds _ Q => ∃ (ns : List Int) (k : Int), ds = [.ro false (ns.map D.int), .int k] ∧ 0 ≤ k ∧ ∀ r os, (r = 0 ∨ r ∈ ns) → Q (.int r) os
theorem atI_ints {ns : List Int} {k : Int} (h0 : 0 ≤ k) (h : k < ns.length) : ∃ n, n ∈ ns ∧ atI (ns.map D.int) k = some (.int n) := by
  obtain ⟨j, rfl⟩ : ∃ j : Nat, k = (j : Int) := ⟨k.toNat, by omega⟩
  have hj : j < ns.length := by omega
  exact ⟨ns[j], List.getElem_mem hj, atI_nat (by rw [List.getElem?_map, List.getElem?_eq_getElem hj]; rfl)⟩
theorem rd_law_cell_at : ∀ ds ED QD, ds.length = 2 → r_law_cell_at ds ED QD → rb_law_cell_at (startD ["_law_script", "_law_k"] ds) (fun c fs ρ => ED c fs (ρ.take 2)) (finD 2 QD) := by
  rintro ds ED QD - ⟨ns, k, rfl, h0, q⟩
  refine ⟨fun h => ?_, fun h => q _ _ (.inl rfl)⟩
  obtain ⟨n, hm, e⟩ := atI_ints (ns := ns) h0 (by simpa using h)
  exact pick_of e rfl (q _ _ (.inr hm))
def r_law_box : FSpec := fun ds _ Q => ∃ (ns : List Int) (k : Int), ds = [.ro false (ns.map D.int), .int k] ∧ 0 ≤ k ∧ ∀ (b : Bx) os, Q (bxD b) os
theorem rd_law_box : ∀ ds ED QD, ds.length = 2 → r_law_box ds ED QD → rb_law_box r_law_cell_at r_law_mixed (startD ["_law_script", "_law_k", "_law_cell"] ds) (fun c fs ρ => ED c fs (ρ.take 2)) (finD 2 QD) := by
  rintro ds ED QD - ⟨ns, k, rfl, h0, q⟩
  refine ⟨ns, k, rfl, h0, fun r os hr => ⟨mulR ?_ ?_, ?_⟩⟩
  · split <;> omega
  · split <;> omega
  · refine ⟨r, 900 + k, rfl, fun m os _ _ => q ⟨_, m, 0, ?_⟩ _⟩
    apply Int.mul_nonneg
    · split <;> omega
    · split <;> omega
/-- b draws a number below n -/
def r_law_take : FSpec := fun ds _ Q => ∃ (b : Bx) (n : Int), ds = [bxD b, .int n] ∧ (0 < n ∧ n < 2 ^ 64) ∧ ∀ r (b' : Bx) tl, 0 ≤ r → r < n → Q (.int r) (some (bxD b') :: tl)
theorem rd_law_take : ∀ ds ED QD, ds.length = 2 → r_law_take ds ED QD → rb_law_take r_law_mixed (startD ["_law_box_here", "_law_many", "_law_found", "_law_reach"] ds) (fun c fs ρ => ED c fs (ρ.take 2)) (finD 2 QD) := by
  rintro ds ED QD - ⟨⟨a, m, c, h0⟩, n, rfl, ⟨h1, h2⟩, q⟩
  refine ⟨fun h => ?_, fun h => ?_⟩
  · exact ⟨h1, fdOk h1 h2, q _ ⟨_, _, _, Int.ediv_nonneg h0 (by omega)⟩ _ (Int.emod_nonneg _ (by omega)) (Int.emod_lt_of_pos _ h1)⟩
  · refine ⟨rfl, fun k ρ => ∃ c f r : Int, ρ = [some (bxD ⟨a, m, c, h0⟩), some (.int n), some (.int f), some (.int r)] ∧ 0 < r ∧ k = (n - r).toNat, ⟨_, c, 0, 1, rfl, by omega, rfl⟩, ?_⟩
    rintro k ρ ⟨c, f, r, rfl, hr, rfl⟩
    refine ⟨fun h => ?_, fun h => ?_⟩
    · have h : r < n := by simpa using h
      exact ⟨_, _, rfl, fun x os _ _ => ⟨(n - r * 33554432).toNat, (by (try dsimp only); omega), c + 1, f * 33554432 + x, r * 33554432, rfl, (by (try dsimp only); omega), rfl⟩⟩
    · exact ⟨h1, q _ ⟨_, _, _, h0⟩ _ (Int.emod_nonneg _ (by omega)) (Int.emod_lt_of_pos _ h1)⟩
def InB (xs : List Int) : Prop := ∀ x ∈ xs, -1000 ≤ x ∧ x ≤ 1000
def r_law_number : FSpec := fun ds _ Q => ∃ b : Bx, ds = [bxD b] ∧ ∀ x (b' : Bx) tl, -1000 ≤ x → x ≤ 1000 → Q (.int x) (some (bxD b') :: tl)
def rowD (xs : List Int) : D := .tup false (xs.map D.int)
theorem all_in {P : Int → Prop} {xs : List Int} (h : ∀ (i : Nat) x, xs[i]? = some x → P x) : ∀ x ∈ xs, P x := fun x hx => by
  obtain ⟨i, hi, e⟩ := List.mem_iff_getElem.mp hx
  exact h i x (by rw [List.getElem?_eq_getElem hi, e])
def r_law_part : FSpec := fun ds _ Q => ∃ (b : Bx) (n : Int), ds = [bxD b, .int n] ∧ (0 ≤ n ∧ n ≤ 1000) ∧ ∀ xs (b' : Bx) tl, xs.length = n.toNat → InB xs → Q (rowD xs) (some (bxD b') :: tl)
theorem rd_law_part : RD_law_part r_law_part r_law_number := by
  rintro ds ED QD - ⟨b, n, rfl, ⟨n0, n1⟩, q⟩
  refine ⟨⟨by decide, by omega, by omega⟩, ⟨compR_draw 0 D.int (fun _ x => -1000 ≤ x ∧ x ≤ 1000) _ _ b (fun _ => rfl) (fun i d b hd => ?_) fun xs b hl hx => ?_⟩⟩
  · exact ⟨fun _ => ⟨b, rfl, fun x b' tl x1 x2 => ⟨x, b', rfl, ⟨x1, x2⟩, rfl⟩⟩, fun h => (nomatch h)⟩
  · exact q xs b _ (by rw [hl, rgD_len]; omega) (all_in hx)
/-- a product: three parts -/
structure Pr where
  l : List Int
  r : List Int
  o : List Int
def prD (p : Pr) : D := .tup false [rowD p.l, rowD p.r, rowD p.o]
structure Pr.ok (p : Pr) (n m k : Int) : Prop where
  ll : p.l.length = n.toNat
  lr : p.r.length = m.toNat
  lo : p.o.length = k.toNat
  bl : InB p.l
  br : InB p.r
  bo : InB p.o
def schD (n m k : Int) (ps : List Pr) : D := .tup false [.int n, .int m, .int k, .lst .ice (ps.map prD)]
def lensD (n m k : Int) : D := .lst .ice [.int n, .int m, .int k]
theorem rep_ints (n : Nat) : (List.replicate n [D.int 0]).flatten = (List.replicate n (0 : Int)).map D.int := by
  induction n with
  | zero => rfl
  | succ n ih => rw [List.replicate_succ, List.flatten_cons, ih, List.replicate_succ, List.map_cons]; rfl
theorem InB.rep (n : Nat) : InB (List.replicate n 0) := fun x hx => by rw [(List.mem_replicate.mp hx).2]; omega
theorem three {x : Int} (h0 : 0 ≤ x) (h : x < 3) : x = 0 ∨ x = 1 ∨ x = 2 := by omega
def r_law_scheme : FSpec := fun ds _ Q => ∃ (b : Bx) (n1 n2 n3 cnt : Int), ds = [bxD b, lensD n1 n2 n3, .int cnt] ∧ (0 ≤ n1 ∧ n1 ≤ 1000) ∧ (0 ≤ n2 ∧ n2 ≤ 1000) ∧ (0 ≤ n3 ∧ n3 ≤ 1000) ∧ (0 ≤ cnt ∧ cnt ≤ 1000) ∧
  ∀ (ps : List Pr) (b' : Bx) tl, ps.length = cnt.toNat → (∀ p ∈ ps, p.ok n1 n2 n3) → Q (schD n1 n2 n3 ps) (some (bxD b') :: tl)
theorem all_snoc {α : Type} {P : α → Prop} {l : List α} {a : α} (h : ∀ x ∈ l, P x) (ha : P a) : ∀ x ∈ l ++ [a], P x := fun x hx => by
  rcases List.mem_append.mp hx with hx | hx
  · exact h x hx
  · rw [List.mem_singleton.mp hx]; exact ha
theorem pr_dat (p : Pr) : (prD p).dat = true := by
  simp only [prD, rowD, D.dat, datL, Bool.and_true]
  rw [datL_map fun _ _ => rfl, datL_map fun _ _ => rfl, datL_map fun _ _ => rfl]; rfl
theorem rd_law_scheme : RD_law_scheme r_law_scheme r_law_take r_law_part := by
  rintro ds ED QD - ⟨b, n1, n2, n3, cnt, rfl, hn1, hn2, hn3, ⟨c0, c1⟩, q⟩
  refine ⟨⟨by decide, by omega, by omega⟩, ?_⟩
  refine ⟨forR_on [0, 3] [4, 5, 6, 7, 8] (fun k s => ∃ (ps : List Pr) (b : Bx), s = [some (bxD b), some (.lst .flat (ps.map prD))] ∧ ps.length = k ∧ (∀ p ∈ ps, p.ok n1 n2 n3)) _ _ ⟨[], b, rfl, rfl, fun p h => (nomatch h)⟩ ?_ ?_⟩
  · rintro i x s j hx hj ⟨ps, b, rfl, hl', hps⟩
    obtain ⟨e4, e5, e6, e7, e8, rfl⟩ := len5 hj
    obtain ⟨rfl, hic⟩ := rgD_at hx
    -- the product's parts
    refine ⟨compR_draw 0 rowD (fun i (xs : List Int) => ([n1.toNat, n2.toNat, n3.toNat] : List Nat)[i]? = some xs.length ∧ InB xs) [.int n1, .int n2, .int n3] _ b (fun _ => rfl) (fun j d b hd => ?_) fun Ls b hl hx => ?_⟩
    · have key : ∃ n : Int, d = .int n ∧ 0 ≤ n ∧ n ≤ 1000 ∧ ([n1.toNat, n2.toNat, n3.toNat] : List Nat)[j]? = some n.toNat := by
        match j, hd with
        | 0, hd => cases hd; exact ⟨n1, rfl, hn1.1, hn1.2, rfl⟩
        | 1, hd => cases hd; exact ⟨n2, rfl, hn2.1, hn2.2, rfl⟩
        | 2, hd => cases hd; exact ⟨n3, rfl, hn3.1, hn3.2, rfl⟩
        | j + 3, hd => simp at hd
      obtain ⟨n, rfl, k0, k1, kj⟩ := key
      exact ⟨fun _ => ⟨b, n, rfl, ⟨k0, k1⟩, fun xs b' tl hx hbx => ⟨xs, b', rfl, ⟨by rw [hx]; exact kj, hbx⟩, rfl⟩⟩, fun h => (nomatch h)⟩
    · obtain ⟨l, r, o, rfl⟩ : ∃ l r o, Ls = [l, r, o] := by match Ls, hl with | [l, r, o], _ => exact ⟨l, r, o, rfl⟩
      obtain ⟨hl1, hl⟩ := hx 0 l rfl
      obtain ⟨hl2, hr⟩ := hx 1 r rfl
      obtain ⟨hl3, ho⟩ := hx 2 o rfl
      replace hl1 : l.length = n1.toNat := (by simpa using hl1.symm)
      replace hl2 : r.length = n2.toNat := (by simpa using hl2.symm)
      replace hl3 : o.length = n3.toNat := (by simpa using hl3.symm)
      refine ⟨b, 8, rfl, by decide, fun way b _ w0 w1 => ?_⟩
      have dps : datL (ps.map prD) = true := datL_map fun p _ => pr_dat p
      have ne : deq (D.lst .flat (ps.map prD)) (D.lst (Ow.of (ownL [])) []) = ps.isEmpty := by
        rw [deq_nilL]; cases ps <;> rfl
      refine cut_on [0, 5] [] (fun s => ∃ (p : Pr) (b : Bx), s = [some (bxD b), some (.lst .flat [rowD p.l, rowD p.r, rowD p.o])] ∧ p.ok n1 n2 n3) ?_ ?_
      · refine ⟨fun h => ⟨dps, rfl, by simp [D.dep, depL], fun h2 => ?_, fun h2 => ?_⟩, fun h => ⟨fun z => (nomatch z), fun _ => ⟨rfl, ⟨l, r, o⟩, b, rfl, ⟨hl1, hl2, hl3, hl, hr, ho⟩⟩⟩⟩
        · have hw : way < 3 := by simpa using h
          rw [ne] at h2
          have hne : ps ≠ [] := by rintro rfl; cases h2
          have hpos : 0 < ps.length := List.length_pos_iff.mpr hne
          refine ⟨_, (ps.length : Int), (by show [_, D.int ((ps.map prD).length : Nat)] = _; rw [List.length_map]), by omega, fun x b _ x0 x1 => ?_⟩
          obtain ⟨j, rfl⟩ : ∃ j : Nat, x = (j : Int) := ⟨x.toNat, by omega⟩
          have hj : j < ps.length := by omega
          refine pick_of (d := prD ps[j]) (atI_nat (by rw [List.getElem?_map, List.getElem?_eq_getElem hj]; rfl)) rfl ?_
          have ok := hps _ (List.getElem_mem hj)
          rcases three w0 hw with rfl | rfl | rfl
          · exact ⟨rfl, ⟨ps[j].l, r, o⟩, b, rfl, ⟨ok.ll, hl2, hl3, ok.bl, hr, ho⟩⟩
          · exact ⟨rfl, ⟨l, ps[j].r, o⟩, b, rfl, ⟨hl1, ok.lr, hl3, hl, ok.br, ho⟩⟩
          · exact ⟨rfl, ⟨l, r, ps[j].o⟩, b, rfl, ⟨hl1, hl2, ok.lo, hl, hr, ok.bo⟩⟩
        · exact ⟨rfl, ⟨l, r, o⟩, b, rfl, ⟨hl1, hl2, hl3, hl, hr, ho⟩⟩
      · rintro s j hj ⟨p, b, rfl, hp⟩
        obtain rfl := len0 hj
        refine cut_on [0, 5] [7] (fun s => ∃ (p : Pr) (b : Bx), s = [some (bxD b), some (.lst .flat [rowD p.l, rowD p.r, rowD p.o])] ∧ p.ok n1 n2 n3) ?_ ?_
        · refine ⟨fun h => ?_, fun h => ⟨rfl, p, b, rfl, hp⟩⟩
          refine ⟨b, 3, rfl, by decide, fun s b _ s0 s1 => ?_⟩
          rcases three s0 s1 with rfl | rfl | rfl
          · refine ⟨⟨by simp, by simp, by omega, by omega⟩, rfl, ⟨List.replicate n1.toNat 0, p.r, p.o⟩, b, ?_, ⟨by simp, hp.lr, hp.lo, .rep _, hp.br, hp.bo⟩⟩
            rw [rep_ints]; rfl
          · refine ⟨⟨by simp, by simp, by omega, by omega⟩, rfl, ⟨p.l, List.replicate n2.toNat 0, p.o⟩, b, ?_, ⟨hp.ll, by simp, hp.lo, hp.bl, .rep _, hp.bo⟩⟩
            rw [rep_ints]; rfl
          · refine ⟨⟨by simp, by simp, by omega, by omega⟩, rfl, ⟨p.l, p.r, List.replicate n3.toNat 0⟩, b, ?_, ⟨hp.ll, hp.lr, by simp, hp.bl, hp.br, .rep _⟩⟩
            rw [rep_ints]; rfl
        · rintro s j hj ⟨p, b, rfl, hp⟩
          obtain ⟨e7, rfl⟩ := len1 hj
          exact ⟨by rw [List.length_map, sizeLine_eq]; omega, rfl, ps ++ [p], b, (by rw [List.map_append]; rfl), by simp [hl'], all_snoc hps hp⟩
  · rintro s j hj ⟨ps, b, rfl, hl, hps⟩
    obtain ⟨e4, e5, e6, e7, e8, rfl⟩ := len5 hj
    exact ⟨by (show (3 : Nat) + 1 ≤ sizeLine); decide, q ps b _ (by rw [hl, rgD_len]; omega) hps⟩
end Cm
set_option maxHeartbeats 0
namespace Cm
open PySem PySem.Spec PyProof.Rows L2 FL
open PySem.W (EachIs AllAlike dataLe)
theorem row_py (xs : List Int) : (rowD xs).py = .tuple (xs.map PyData.int) := by
  show PyData.tuple (pyL (xs.map D.int)) = _
  rw [pyL_map]; rfl
theorem row_dat (xs : List Int) : (rowD xs).dat = true := datL_map fun _ _ => rfl
theorem row_dep (xs : List Int) : (rowD xs).dep ≤ 1 := by
  show depL (xs.map D.int) + 1 ≤ 1
  have := depL_map (f := D.int) (xs := xs) (n := 0) fun x _ => Nat.le_refl _
  omega
theorem row_le (xs ys : List Int) : dataLe false D.py (rowD xs) (rowD ys) = decide (xs ≤ ys) := by
  rw [PySem.W.dataLe_eq]
  show (!PySem.W.dataLt (rowD ys).py (rowD xs).py) = _
  rw [row_py, row_py, PySem.W.dataLt_tuple]
  have := PySem.W.dataLt_ints ys xs
  unfold PySem.W.rowLt at this
  rw [this]
  by_cases h : ys < xs
  · rw [decide_eq_true h, decide_eq_false (by exact fun z => z h)]; rfl
  · rw [decide_eq_false h, decide_eq_true (by exact h)]; rfl
abbrev leR (xs ys : List Int) : Bool := decide (xs ≤ ys)
theorem sort_rows (rs : List (List Int)) : sortD (rs.map rowD) = (rs.mergeSort leR).map rowD := by
  unfold sortD
  exact (List.map_mergeSort (r := leR) (s := dataLe false D.py) (f := rowD) fun a _ b _ => (row_le a b).symm).symm
theorem alike_rows : ∀ (xs ys : List Int), xs.length = ys.length → PySem.W.alike (rowD xs).py (rowD ys).py = true := by
  intro xs ys h
  rw [row_py, row_py]
  simp only [PySem.W.alike, PySem.W.alike_ints]
theorem sortOk_rows {rs : List (List Int)} (n : Nat) (h : ∀ r ∈ rs, r.length = n + 1) : SortOk (rs.map rowD) := by
  refine ⟨datL_map fun r _ => row_dat r, ?_, .inl ?_, fun d hd => ?_⟩
  · intro d hd d' hd'
    rw [List.map_map] at hd hd'
    obtain ⟨r, hr, rfl⟩ := List.mem_map.mp hd
    obtain ⟨r', hr', rfl⟩ := List.mem_map.mp hd'
    exact alike_rows r r' (by rw [h r hr, h r' hr'])
  · intro d hd
    rw [List.map_map] at hd
    obtain ⟨r, hr, rfl⟩ := List.mem_map.mp hd
    have := h r hr
    match r, this with
    | x :: r, _ => exact ⟨_, _, row_py _⟩
  · obtain ⟨r, hr, rfl⟩ := List.mem_map.mp hd
    have := row_dep r
    omega
theorem leR_trans (a b c : List Int) (h : leR a b = true) (g : leR b c = true) : leR a c = true := by
  simp only [leR, decide_eq_true_eq] at h g ⊢
  exact List.le_trans h g
theorem leR_total (a b : List Int) : (leR a b || leR b a) = true := by
  simp only [leR, Bool.or_eq_true, decide_eq_true_eq]
  exact List.le_total a b
theorem sorted_rows (rs : List (List Int)) : (rs.mergeSort leR).Pairwise fun a b => leR a b = true := List.pairwise_mergeSort leR_trans leR_total rs
/-- one list in order -/
theorem rows_uniq {rs qs : List (List Int)} (p : rs.Perm qs) (h : rs.Pairwise fun a b => leR a b = true) (g : qs.Pairwise fun a b => leR a b = true) : rs = qs :=
  List.Perm.eq_of_pairwise (fun a b _ _ h g => by
    simp only [leR, decide_eq_true_eq] at h g
    exact List.le_antisymm h g) h g p
theorem row_tkey (xs : List Int) : tkey (rowD xs) = xs.map Sum.inl := by
  show (xs.map D.int).map skey = _
  rw [List.map_map]; rfl
theorem inl_inj : ∀ {xs ys : List Int}, (xs.map (Sum.inl : Int → Key)) = ys.map Sum.inl → xs = ys
  | [], [], _ => rfl
  | [], _ :: _, h => by cases h
  | _ :: _, [], h => by cases h
  | x :: xs, y :: ys, h => by
    simp only [List.map_cons, List.cons.injEq, Sum.inl.injEq] at h
    rw [h.1, inl_inj h.2]
theorem row_keyEq (xs ys : List Int) : keyEq true (rowD xs) (rowD ys) = decide (xs = ys) := by
  unfold keyEq
  rw [row_tkey, row_tkey]
  by_cases h : xs = ys
  · rw [h]; simp
  · rw [decide_eq_false h]
    simp only [if_true]
    exact decide_eq_false fun z => h (inl_inj z)
theorem row_keyOk (xs : List Int) : keyOk true (rowD xs) = true := by
  show (xs.map D.int).all isSKey = true
  rw [List.all_map, List.all_eq_true]
  intro x _; rfl
theorem row_kIdx (P : List (List Int)) (q : List Int) : kIdx true (P.map rowD) (rowD q) = P.findIdx? fun p => decide (p = q) := by
  unfold kIdx
  rw [List.findIdx?_map]
  congr 1
  funext p
  exact row_keyEq p q
/-- one place more -/
def addP (P : List (List Int)) (q : List Int) : List (List Int) := if q ∈ P then P else P ++ [q]
theorem addP_nodup {P : List (List Int)} {q : List Int} (h : P.Nodup) : (addP P q).Nodup := by
  unfold addP
  split
  · exact h
  · rename_i hq
    rw [List.nodup_append]
    exact ⟨h, by simp, fun a ha b hb => by rw [List.mem_singleton.mp hb]; exact fun z => hq (z ▸ ha)⟩
theorem idx_in {P : List (List Int)} {q : List Int} (h : q ∈ P) : ∃ i, (P.findIdx? fun p => decide (p = q)) = some i ∧ P[i]? = some q := by
  cases e : P.findIdx? fun p => decide (p = q) with
  | none => have := List.findIdx?_eq_none_iff.mp e q h; simp at this
  | some i =>
    obtain ⟨h1, h2, _⟩ := List.findIdx?_eq_some_iff_getElem.mp e
    exact ⟨i, rfl, by rw [List.getElem?_eq_getElem h1]; simpa using h2⟩
theorem idx_out {P : List (List Int)} {q : List Int} (h : q ∉ P) : (P.findIdx? fun p => decide (p = q)) = none :=
  List.findIdx?_eq_none_iff.mpr fun p hp => decide_eq_false fun z => h (z ▸ hp)
theorem look_rows {g : List Int → D} {P : List (List Int)} {q : List Int} : dLook true (P.map rowD) (P.map g) (rowD q) = if q ∈ P then some (g q) else none := by
  unfold dLook
  rw [row_kIdx]
  by_cases h : q ∈ P
  · obtain ⟨i, e1, e2⟩ := idx_in h
    rw [e1, if_pos h]
    show (P.map g)[i]? = _
    rw [List.getElem?_map, e2]; rfl
  · rw [idx_out h, if_neg h]; rfl
theorem putKs_rows {P : List (List Int)} {q : List Int} : putKs true (P.map rowD) (rowD q) = (addP P q).map rowD := by
  unfold putKs addP
  rw [row_kIdx]
  by_cases h : q ∈ P
  · obtain ⟨i, e1, e2⟩ := idx_in h
    rw [e1, if_pos h]
  · rw [idx_out h, if_neg h, List.map_append]; rfl
theorem putDs_rows {g g' : List Int → D} {P : List (List Int)} {q : List Int} {d : D} (hn : P.Nodup) (h1 : g' q = d) (h2 : ∀ p, p ≠ q → g' p = g p) : putDs true (P.map rowD) (rowD q) (P.map g) d = (addP P q).map g' := by
  unfold putDs addP
  rw [row_kIdx]
  by_cases h : q ∈ P
  · obtain ⟨i, e1, e2⟩ := idx_in h
    rw [e1, if_pos h]
    show (P.map g).set i d = P.map g'
    apply List.ext_getElem?
    intro j
    by_cases hj : i = j
    · subst hj
      have hi := (List.getElem?_eq_some_iff.mp e2).1
      rw [List.getElem?_set_self (by rw [List.length_map]; exact hi), List.getElem?_map, e2]
      exact congrArg some h1.symm
    · rw [List.getElem?_set_ne hj, List.getElem?_map, List.getElem?_map]
      cases e3 : P[j]? with
      | none => rfl
      | some p =>
        have : p ≠ q := fun z => by
          subst z
          exact hj ((List.getElem?_inj (List.getElem?_eq_some_iff.mp e2).1 hn).mp (e2.trans e3.symm))
        exact congrArg some (h2 p this).symm
  · rw [idx_out h, if_neg h, List.map_append]
    show P.map g ++ [d] = _
    rw [List.map_congr_left fun p hp => (h2 p fun z => h (z ▸ hp)).symm, List.map_singleton, h1]
structure Tm where
  k : Int
  i : Int
  j : Int
  c : Int
def Tm.pl (t : Tm) : List Int := [t.k, t.i, t.j]
def Tm.row (t : Tm) : List Int := [t.k, t.i, t.j, t.c]
def tmD (t : Tm) : D := rowD t.row
def tsum (ts : List Tm) (p : List Int) : Int := ((ts.filter fun t => decide (t.pl = p)).map fun t => t.c).sum
def pls (ts : List Tm) : List (List Int) := ts.foldl (fun P t => addP P t.pl) []
theorem tsum_snoc (ts : List Tm) (t : Tm) (p : List Int) : tsum (ts ++ [t]) p = tsum ts p + (if t.pl = p then t.c else 0) := by
  unfold tsum
  rw [List.filter_append, List.map_append, List.sum_append]
  congr 1
  by_cases h : t.pl = p
  · rw [if_pos h, List.filter_cons, if_pos (by simpa using h)]; simp
  · rw [if_neg h, List.filter_cons, if_neg (by simpa using h)]; simp
theorem pls_snoc (ts : List Tm) (t : Tm) : pls (ts ++ [t]) = addP (pls ts) t.pl := by
  unfold pls
  rw [List.foldl_append]; rfl
theorem snoc_ind {α : Type} {C : List α → Prop} (h0 : C []) (h1 : ∀ l a, C l → C (l ++ [a])) (l : List α) : C l := by
  have : ∀ r : List α, C r.reverse := fun r => by
    induction r with
    | nil => exact h0
    | cons a r ih => rw [List.reverse_cons]; exact h1 _ a ih
  have := this l.reverse
  rwa [List.reverse_reverse] at this
theorem pls_nodup (ts : List Tm) : (pls ts).Nodup := snoc_ind (C := fun ts => (pls ts).Nodup) (by simp [pls]) (fun l a h => by rw [pls_snoc]; exact addP_nodup h) ts
theorem mem_addP {P : List (List Int)} {q p : List Int} : p ∈ addP P q ↔ p ∈ P ∨ p = q := by
  unfold addP
  split
  · rename_i h
    exact ⟨.inl, fun z => z.elim id fun e => e ▸ h⟩
  · rw [List.mem_append, List.mem_singleton]
theorem mem_pls (ts : List Tm) (p : List Int) : p ∈ pls ts ↔ ∃ t ∈ ts, t.pl = p := by
  refine snoc_ind (C := fun ts => p ∈ pls ts ↔ ∃ t ∈ ts, t.pl = p) (by simp [pls]) (fun l a h => ?_) ts
  rw [pls_snoc, mem_addP, h]
  constructor
  · rintro (⟨t, ht, e⟩ | e)
    · exact ⟨t, List.mem_append_left _ ht, e⟩
    · exact ⟨a, by simp, e.symm⟩
  · rintro ⟨t, ht, e⟩
    rcases List.mem_append.mp ht with ht | ht
    · exact .inl ⟨t, ht, e⟩
    · rw [List.mem_singleton.mp ht] at e
      exact .inr e.symm
theorem pls_len (ts : List Tm) : (pls ts).length ≤ ts.length := by
  refine snoc_ind (C := fun ts => (pls ts).length ≤ ts.length) (by simp [pls]) (fun l a h => ?_) ts
  rw [pls_snoc, List.length_append, List.length_singleton]
  unfold addP
  split
  · omega
  · rw [List.length_append, List.length_singleton]; omega
theorem tsum_out {ts : List Tm} {p : List Int} (h : p ∉ pls ts) : tsum ts p = 0 := by
  unfold tsum
  rw [List.filter_eq_nil_iff.mpr fun t ht => by
    intro z
    exact h ((mem_pls ts p).mpr ⟨t, ht, by simpa using z⟩)]
  rfl
theorem pls_three {ts : List Tm} {p : List Int} (h : p ∈ pls ts) : p.length = 3 := by
  obtain ⟨t, _, rfl⟩ := (mem_pls ts p).mp h
  rfl
/-- what the terms tell at k -/
def valAt (ts : List Tm) (xs ys : List Int) (k : Nat) : Int := ((ts.filter fun t => decide (t.k = (k : Int))).map fun t => t.c * xs.getD t.i.toNat 0 * ys.getD t.j.toNat 0).sum
def vals (m : Nat) (ts : List Tm) (xs ys : List Int) : List Int := (List.range m).map fun k => valAt ts xs ys k
structure Tm.fits (t : Tm) (m a b : Nat) : Prop where
  k0 : 0 ≤ t.k
  k1 : t.k < m
  i0 : 0 ≤ t.i
  i1 : t.i < a
  j0 : 0 ≤ t.j
  j1 : t.j < b
  c0 : -(2 ^ 64) < t.c
  c1 : t.c < 2 ^ 64
theorem ixN_of {n : Nat} {k : Int} (h0 : 0 ≤ k) (h : k < n) : ixN n k = some k.toNat := by
  unfold ixN
  rw [if_pos h0, if_pos (by omega)]
def InT (xs : List Int) : Prop := ∀ x ∈ xs, -(10 ^ 12) ≤ x ∧ x ≤ 10 ^ 12
theorem pls_distinct {ts : List Tm} (h : (ts.map Tm.pl).Nodup) : pls ts = ts.map Tm.pl := by
  refine snoc_ind (C := fun ts => (ts.map Tm.pl).Nodup → pls ts = ts.map Tm.pl) (fun _ => rfl) (fun l a ih h => ?_) ts h
  rw [List.map_append, List.nodup_append] at h
  rw [pls_snoc, ih h.1, List.map_append]
  unfold addP
  rw [if_neg fun hm => h.2.2 _ hm _ (by simp) rfl]; rfl
theorem tsum_distinct {ts : List Tm} (h : (ts.map Tm.pl).Nodup) {t : Tm} (ht : t ∈ ts) : tsum ts t.pl = t.c := by
  refine snoc_ind (C := fun ts => (ts.map Tm.pl).Nodup → t ∈ ts → tsum ts t.pl = t.c) (fun _ h => (nomatch h)) (fun l a ih h ht => ?_) ts h ht
  rw [List.map_append, List.nodup_append] at h
  rw [tsum_snoc]
  rcases List.mem_append.mp ht with hl | ha
  · rw [ih h.1 hl, if_neg fun z => h.2.2 t.pl (List.mem_map.mpr ⟨t, hl, rfl⟩) a.pl (by simp) z.symm, Int.add_zero]
  · have ha : t = a := by simpa using ha
    subst ha
    rw [if_pos rfl, tsum_out fun z => by
      obtain ⟨u, hu, e⟩ := (mem_pls l t.pl).mp z
      exact h.2.2 u.pl (List.mem_map.mpr ⟨u, hu, rfl⟩) t.pl (by simp) e, Int.zero_add]
def tmOf (p : List Int) (c : Int) : Tm := ⟨p.getD 0 0, p.getD 1 0, p.getD 2 0, c⟩
def canonT (ts : List Tm) : List Tm := ((pls ts).mergeSort leR).filterMap fun p => if tsum ts p ≠ 0 then some (tmOf p (tsum ts p)) else none
theorem tmOf_pl {p : List Int} {c : Int} (h : p.length = 3) : (tmOf p c).pl = p ∧ (tmOf p c).row = p ++ [c] := by
  match p, h with
  | [a, b, d], _ => exact ⟨rfl, rfl⟩
theorem fm_if {α β : Type} {p : α → Prop} [DecidablePred p] {f : α → β} : ∀ (l : List α), l.filterMap (fun t => if p t then some (f t) else none) = (l.filter fun t => decide (p t)).map f
  | [] => rfl
  | t :: l => by
    rw [List.filterMap_cons, List.filter_cons]
    by_cases h : p t
    · rw [if_pos h, if_pos (by simpa using h), List.map_cons, fm_if l]
    · rw [if_neg h, if_neg (by simpa using h), fm_if l]
theorem canonT_mem {ts : List Tm} {t : Tm} (h : t ∈ canonT ts) : (∃ u ∈ ts, t.pl = u.pl) ∧ t.c = tsum ts t.pl ∧ t.c ≠ 0 := by
  unfold canonT at h
  obtain ⟨p, hp, e⟩ := List.mem_filterMap.mp h
  have hp := List.mem_mergeSort.mp hp
  have h3 := pls_three hp
  split at e
  · rename_i hn
    cases e
    obtain ⟨u, hu, eu⟩ := (mem_pls ts p).mp hp
    rw [(tmOf_pl h3).1]
    exact ⟨⟨u, hu, eu.symm⟩, rfl, hn⟩
  · cases e
theorem sum_bd {B : Int} (hB : 0 ≤ B) : ∀ (l : List Int), (∀ x ∈ l, -B ≤ x ∧ x ≤ B) → -(l.length * B) ≤ l.sum ∧ l.sum ≤ l.length * B
  | [], _ => by simp
  | x :: l, h => by
    have h1 := h x List.mem_cons_self
    have h2 := sum_bd hB l fun y hy => h y (List.mem_cons_of_mem _ hy)
    rw [List.sum_cons, List.length_cons]
    have : ((l.length + 1 : Nat) : Int) * B = l.length * B + B := by rw [Int.natCast_add, Int.add_mul]; simp
    omega
theorem tsum_bd {B : Int} (hB : 0 ≤ B) {ts : List Tm} (h : ∀ t ∈ ts, -B ≤ t.c ∧ t.c ≤ B) (p : List Int) : -(ts.length * B) ≤ tsum ts p ∧ tsum ts p ≤ ts.length * B := by
  have h1 := sum_bd hB ((ts.filter fun t => decide (t.pl = p)).map fun t => t.c) fun x hx => by
    obtain ⟨t, ht, rfl⟩ := List.mem_map.mp hx
    exact h t (List.mem_filter.mp ht).1
  rw [List.length_map] at h1
  have h2 : ((ts.filter fun t => decide (t.pl = p)).length : Int) * B ≤ ts.length * B := Int.mul_le_mul_of_nonneg_right (by have := List.length_filter_le (fun t : Tm => decide (t.pl = p)) ts; omega) hB
  unfold tsum
  omega
/-- a term of places below m, a, b and a number within B -/
structure Tm.inB (t : Tm) (m a b : Int) (B : Int) : Prop where
  k0 : 0 ≤ t.k
  k1 : t.k < m
  i0 : 0 ≤ t.i
  i1 : t.i < a
  j0 : 0 ≤ t.j
  j1 : t.j < b
  c0 : -B ≤ t.c
  c1 : t.c ≤ B
theorem canonT_in {ts : List Tm} {m a b B : Int} (hB : 0 ≤ B) (h : ∀ t ∈ ts, t.inB m a b B) : ∀ t ∈ canonT ts, t.inB m a b (ts.length * B) := fun t ht => by
  obtain ⟨⟨u, hu, e⟩, ec, _⟩ := canonT_mem ht
  have f := h u hu
  have bd := tsum_bd hB (fun t ht => ⟨(h t ht).c0, (h t ht).c1⟩) t.pl
  rw [← ec] at bd
  simp only [Tm.pl, List.cons.injEq, and_true] at e
  obtain ⟨e1, e2, e3⟩ := e
  exact ⟨by rw [e1]; exact f.k0, by rw [e1]; exact f.k1, by rw [e2]; exact f.i0, by rw [e2]; exact f.i1, by rw [e3]; exact f.j0, by rw [e3]; exact f.j1, bd.1, bd.2⟩
theorem Tm.inB.fits {t : Tm} {m a b B : Int} {m' a' b' : Nat} (h : t.inB m a b B) (hm : m ≤ m') (ha : a ≤ a') (hb : b ≤ b') (hB : B < 2 ^ 64) : t.fits m' a' b' :=
  ⟨h.k0, by have := h.k1; omega, h.i0, by have := h.i1; omega, h.j0, by have := h.j1; omega, by have := h.c0; omega, by have := h.c1; omega⟩
end Cm
namespace FL
open PySem PySem.Spec PyProof.Rows L2 RT
def dIsi2 : DC
  | [d, .tup false [.ty n, .ty m]], Q => match isTy d n with
    | some b => match isTy d m with
      | some c => Q (.bl (b || c))
      | none => False
    | none => False
  | _, _ => False
end FL
namespace PySem.W
open PySem PySem.Calls PyProof.Rows PyProof.V PySem.Spec
end PySem.W
namespace PySem.W
open PySem PySem.Calls PyProof.Rows PyProof.V PySem.Spec
end PySem.W
namespace FL
open PySem PySem.Spec PyProof.Rows L2 RT
section
variable {X : Cx}
/-- the int at a key -/
def intK (ks : List D) (ns : List Int) (k : D) : Option Int := (kIdx true ks k).bind fun i => ns[i]?
def tabD (ks : List D) (ns : List Int) (ks' : List D) (ns' : List Int) : Bool := (ks.zip ns).all fun p => decide (intK ks' ns' p.1 = some p.2)
end
end FL
namespace FL
open PySem PySem.Spec PyProof.Rows L2
end FL
namespace FL
open PySem PySem.Spec PyProof.Rows L2
end FL
namespace FL
open PySem PySem.Spec PyProof.Rows L2
end FL
namespace FL
open PySem PySem.Spec PyProof.Rows L2
end FL
namespace FL
open PySem PySem.Spec PyProof.Rows L2
end FL
namespace FL
open PySem PySem.Spec PyProof.Rows L2
end FL
namespace FL
open PySem PySem.Spec PyProof.Rows L2
def dIsN0 (neg : Bool) : DO := fun a b Q => match b with
  | .non => match isNon a with
    | some c => Q (.bl (neg ^^ c))
    | none => False
  | _ => False
section
variable {X : Cx}
theorem fop_isN0 : FOp X (compareOp .Is) (dIsN0 false) := ⟨_, op_isN, fun τ w σ ρ x y dx dy ℓ ℓ' Q Qv hn st rx ry hd hq => by
  cases dy with
  | non =>
    unfold dIsN0 at hd
    simp only at hd
    cases e : isNon dx with
    | none => simp only [e] at hd
    | some c =>
      simp only [e] at hd
      simp only [Rep] at ry
      refine ⟨ry, hq _ _ _ hd (.refl st) ?_⟩
      simp only [Rep]
      rw [isNon_rep rx e, Bool.false_xor]
  | _ => exact hd.elim⟩
end
end FL
namespace FL
open PySem PySem.Spec PyProof.Rows L2
end FL
namespace FL
open PySem PySem.Spec PyProof.Rows L2
end FL
namespace FL
open PySem PySem.Spec PyProof.Rows L2
end FL
namespace FL
open PySem PySem.Spec PyProof.Rows L2
end FL
namespace FL
open PySem PySem.Spec PyProof.Rows L2
end FL
namespace FL
open PySem PySem.Spec PyProof.Rows L2
mutual
/-- what stands in the module's frozen objects -/
def KV (K : PySem.W.Frag) : D → Value → Prop
  | .int i, v => ∃ t, v = .int i t
  | .str s, v => ∃ t, v = .str s t
  | .ro t ds, v => ∃ a o its n, v = .ref a ∧ t = true ∧ K.lookup a = some o ∧ o.cls = .type "tuple" ∧ o.data = .seq its n ∧ its.size ≤ sizeLine ∧ KVL K ds its.toList
  | _, _ => False
def KVL (K : PySem.W.Frag) : List D → List Value → Prop
  | [], vs => vs = []
  | d :: ds, vs => ∃ v r, vs = v :: r ∧ KV K d v ∧ KVL K ds r
end
mutual
theorem KV.rep {K : PySem.W.Frag} : ∀ {d : D} {u : Value}, KV K d u → ∃ v, RelV v u ∧ d.own = false ∧ ∀ w ℓ, Rep K w d ℓ v
  | .int i, u, h => by
    simp only [KV] at h
    obtain ⟨t, rfl⟩ := h
    exact ⟨.int i, ⟨t, rfl⟩, rfl, fun w ℓ => rfl⟩
  | .str s, u, h => by
    simp only [KV] at h
    obtain ⟨t, rfl⟩ := h
    exact ⟨.str s, ⟨t, rfl⟩, rfl, fun w ℓ => rfl⟩
  | .ro t ds, u, h => by
    simp only [KV] at h
    obtain ⟨a, o, its, n, rfl, rfl, hk, hc, hs, hz, hl⟩ := h
    obtain ⟨vs, rv, ho, rr⟩ := KVL.rep hl
    have hlen : ds.length = its.size := by
      have h1 := (rr ⟨fun _ => none, fun _ => none, fun _ => none⟩ [] 0).length
      have h2 := rv.length
      simp at h2
      omega
    refine ⟨.ref a, rfl, rfl, fun w ℓ => ?_⟩
    simp only [Rep]
    exact ⟨a, vs, rfl, by rw [if_pos trivial]; exact .inr ⟨o, its, n, hk, hc, hs, hz, rv⟩, ⟨by omega, ho⟩, rr w ℓ 0⟩
  | .any, _, h => by simp only [KV] at h
  | .non, _, h => by simp only [KV] at h
  | .bl _, _, h => by simp only [KV] at h
  | .obj _, _, h => by simp only [KV] at h
  | .ty _, _, h => by simp only [KV] at h
  | .tup _ _, _, h => by simp only [KV] at h
  | .lst _ _, _, h => by simp only [KV] at h
  | .dct _ _ _ _, _, h => by simp only [KV] at h
  | .ins _ _ _ _, _, h => by simp only [KV] at h
theorem KVL.rep {K : PySem.W.Frag} : ∀ {ds : List D} {us : List Value}, KVL K ds us → ∃ vs, Vals vs us ∧ ownL ds = false ∧ ∀ w ℓ j, RepL K w ds ℓ j vs
  | [], us, h => by
    simp only [KVL] at h
    subst h
    exact ⟨[], .nil, rfl, fun w ℓ j => by simp [RepL]⟩
  | d :: ds, us, h => by
    simp only [KVL] at h
    obtain ⟨v, r, rfl, h1, h2⟩ := h
    obtain ⟨x, e1, o1, r1⟩ := KV.rep h1
    obtain ⟨xs, e2, o2, r2⟩ := KVL.rep h2
    refine ⟨x :: xs, .cons e1 e2, by simp [ownL, o1, o2], fun w ℓ j => ?_⟩
    simp only [RepL]
    exact ⟨x, xs, rfl, r1 _ _, r2 _ _ _⟩
end
theorem KV.mk {K : PySem.W.Frag} {ds : List D} {a : Addr} {od : Option Addr} {its : Array Value} {n : Nat} {sl : Array (Option Value)} (hk : K.lookup a = some ⟨.type "tuple", od, .seq its n, sl⟩) (hz : its.size ≤ sizeLine) (hl : KVL K ds its.toList) : KV K (.ro true ds) (.ref a) := by
  simp only [KV]
  exact ⟨a, _, its, n, rfl, trivial, hk, rfl, rfl, hz, hl⟩
end FL
namespace FL
open PySem PySem.Spec PyProof.Rows L2
end FL
namespace FL
open PySem PySem.Spec PyProof.Rows L2
end FL
namespace FL
open PySem PySem.Spec PyProof.Rows L2
end FL
namespace FL
open PySem PySem.Spec PyProof.Rows L2
end FL
namespace FL
open PySem PySem.Spec PyProof.Rows L2
def rowP (xs : List Int) : PyData := .tuple (xs.map PyData.int)
end FL
namespace FL
open PySem PySem.Spec PyProof.Rows L2 RT
end FL
namespace FL
open PySem PySem.Spec PyProof.Rows L2 RT
/-- the hash value of a tuple of ints -/
def hkT (t : List Int) : Int := reduceHash (Builtin.Tuple.tupleHashOf (t.map hashInt))
end FL
namespace FL
open PySem PySem.Spec PyProof.Rows L2 RT
end FL
namespace FL
open PySem PySem.Spec PyProof.Rows L2 RT
end FL
namespace FL
open PySem PySem.Spec PyProof.Rows L2
end FL
namespace FL
open PySem PySem.Spec PyProof.Rows L2 RT
/-- where a field stands -/
def fIx (f : Str) : List Str → Option Nat
  | [] => none
  | g :: r => if g = f then some 0 else (fIx f r).map (· + 1)
theorem fIx_lookup {f : Str} : ∀ {fs : List Str} {us : List V} {j : Nat}, fIx f fs = some j → fs.length = us.length → (fs.zip us).lookup f = us[j]?
  | [], _, _, h, _ => by cases h
  | g :: r, [], _, _, l => by simp at l
  | g :: r, u :: us, j, h, l => by
    unfold fIx at h
    by_cases e : g = f
    · rw [if_pos e] at h
      cases h
      have hb : (f == g) = true := beq_iff_eq.mpr e.symm
      simp only [List.zip_cons_cons, List.lookup, hb]
      rfl
    · rw [if_neg e] at h
      have hb : (f == g) = false := beq_eq_false_iff_ne.mpr (Ne.symm e)
      cases q : fIx f r with
      | none => rw [q] at h; cases h
      | some i =>
        rw [q] at h; cases h
        simp only [List.zip_cons_cons, List.lookup, hb]
        rw [fIx_lookup q (by simpa using l)]
        rfl
theorem fIx_none {f : Str} {v : V} : ∀ {fs : List Str} {us : List V}, fIx f fs = none → fs.length = us.length → (fs.zip us).lookup f = none ∧ putF f v (fs.zip us) = (fs ++ [f]).zip (us ++ [v])
  | [], [], _, _ => ⟨rfl, rfl⟩
  | [], _ :: _, _, l => by simp at l
  | g :: r, [], _, l => by simp at l
  | g :: r, u :: us, h, l => by
    unfold fIx at h
    by_cases e : g = f
    · rw [if_pos e] at h; cases h
    · rw [if_neg e] at h
      have hb : (f == g) = false := beq_eq_false_iff_ne.mpr (Ne.symm e)
      have q : fIx f r = none := by cases q : fIx f r with
        | none => rfl
        | some i => rw [q] at h; cases h
      obtain ⟨h1, h2⟩ := fIx_none (f := f) (v := v) q (us := us) (by simpa using l)
      refine ⟨?_, ?_⟩
      · simp only [List.zip_cons_cons, List.lookup, hb]; exact h1
      · rw [List.zip_cons_cons, show putF f v ((g, u) :: r.zip us) = (if g = f then (g, v) :: r.zip us else (g, u) :: putF f v (r.zip us)) from rfl, if_neg e, h2]
        rfl
section
variable {K : PySem.W.Frag} {w : Wd}
theorem ins_at (wf : Wf w) {o : Ow} {C : Addr} {fs : List Str} {ds : List D} {ℓ : Loc} {v : V} (h : Rep K w (.ins o C fs ds) ℓ v) : ∃ a dx vs, v = .ref a ∧ w.H a = some (.ins C dx (fs.zip vs)) ∧ fs.length = vs.length ∧ Lt o ds ∧ RepL K w ds ℓ 0 vs := by
  simp only [Rep] at h
  obtain ⟨a, vs, e, ⟨dx, h1⟩, ⟨hl, hL⟩, h2⟩ := h
  refine ⟨a, dx, vs, e, ?_, hl, hL, h2⟩
  cases q : o.mine with
  | true => rw [q] at h1; exact h1.2
  | false => rw [q] at h1; exact wf.sh _ _ h1
end
/-- x.f: the field at j of an instance of the class at C -/
def dFld (C : Addr) (Fs : List Str) (j : Nat) (d : D) (Q : D → Prop) : Prop := match d with
  | .ins _ C' fs ds => C' = C ∧ fs = Fs ∧ pick ds[j]? Q
  | _ => False
section
variable {X : Cx} {W : WX} {M : List Nat} {pos pos' p2 tpos : Pos}
theorem fe_fld {e : Expr} {f : Str} {C : Addr} {Fs : List Str} {ra : RO} (j : Nat) (c : Cls X.K C) (n : NoAttr X.K C f) (ha : FO X W e ra) (hj : fIx f Fs = some j := by decide +kernel) (hb : attributeBase e f X.env (eval e X.env) = eval e X.env := by rfl) : FE X W (.Attribute e f pos) (rUn (dFld C Fs j) ra) := by
  obtain ⟨ta, pa, sa⟩ := ha.ex
  refine ⟨_, pe_fld pa hb, fun τ w σ ρ E Q Qv hn st hr hq hx => ?_⟩
  refine sa τ w σ ρ E _ _ hn st hr (fun x ρ1 w1 v1 h1 e1 r1 => ?_) hx
  obtain ⟨dz, ex, g1⟩ := on1_elim h1
  obtain ⟨ℓ, rx⟩ := ad_get e1.st r1 ex
  cases dz with
  | ins o C' fs ds =>
    obtain ⟨rfl, rfl, g2⟩ := g1
    obtain ⟨d, ed, ho, q⟩ := pick_elim g2
    obtain ⟨a, dx, vs, rfl, hh, hl, _, rl⟩ := ins_at e1.st.wf rx
    obtain ⟨v, ev, rv⟩ := rl.get ed
    exact ⟨a, C', dx, _, v, rfl, hh, c, n, (fIx_lookup hj hl).trans ev, hq d ρ1 w1 v q e1 (rv.free (Same.refl _) d ho)⟩
  | _ => exact g1.elim
/-- a new tree for the instance in slot i -/
theorem ins_end {K : PySem.W.Frag} {w : Wd} {σ : Sl} {ρ : En} {i τ : Nat} {o o' : Ow} {C dx : Addr} {fs fs' : List Str} {ds ds' : List D} {a : Addr} {vs' : List V} {L : Loc} (ho : o.mine = true) (ho' : o'.mine = true) (st : StE K w σ ρ) (hi : ρ[i]? = some (some (.ins o C fs ds))) (hv : σ[i]? = some (some (.ref a)))
    (r0 : Rep K w (.ins o C fs ds) [i + 1] (.ref a)) (hτ : ρ.length < τ) (rl : RepL K (w.ren (moveT τ L)) ds' [i + 1] 0 vs') (hz : fs'.length = vs'.length) (hL : Lt o' ds') :
    EndE K τ w σ ρ (ρ.set i (some (.ins o' C fs' ds'))) ((w.ren (moveT τ L)).put a (.ins C dx (fs'.zip vs'))) := by
  have hne : i + 1 ≠ τ := by have := (List.getElem?_eq_some_iff.mp hi).1; omega
  have r1 := r0
  simp only [Rep] at r1
  obtain ⟨a', us, ea, ⟨dx', h1⟩, _⟩ := r1
  cases ea
  rw [if_pos ho] at h1
  refine node_end (p := []) (d' := .ins o' C fs' ds') st hi hv r0 .here hτ (Nat.le_refl _) h1.1 trivial (fun _ => ho) ?_
  simp only [Rep]
  exact ⟨a, vs', rfl, ⟨dx, by rw [if_pos ho']; exact ⟨ren_at h1.1 (moveT_ne hne), upd_same⟩⟩, ⟨hz, hL⟩, parts_op (p := []) hne h1.1 rl⟩
/-- x.f = e, a new field -/
def rNewF (i : Nat) (C : Addr) (fs0 : List Str) (f : Str) (re : RE) : RS := fun ρ E F => re ρ E fun d ρ1 => match ρ1[i]? with
  | some (some (.ins o C' fs ds)) => o.mine = true ∧ C' = C ∧ fs = fs0 ∧ nf (ρ1.set i (some (.ins (o.more d.own) C (fs0 ++ [f]) (ds ++ [d])))) F.nx
  | _ => False
theorem fs_newF (i : Nat) {x f : Str} {C : Addr} {fs0 : List Str} {e : Expr} {re : RE} (c : Cls X.K C) (n : NoAttr X.K C f) (he : FE X W e re) (hj : fIx f fs0 = none := by decide +kernel) (hz : fs0.length < 1000 := by decide) (hN : X.N[i]? = some x := by rfl) (hv : Vis X.env.scope x := by first | exact Or.inl rfl | exact Or.inr (Or.inl rfl) | exact Or.inr (Or.inr rfl)) (hd : (x == ("__debug__" : Str)) = false := by decide)
    (hcd : (x == ("__classdict__" : Str)) = false := by decide) (hs : swapsWith e (some (.Attribute (.Name x p2) f pos')) pos.line X.env = pure false := by rfl) : FS X W M (.Assign [.Attribute (.Name x p2) f pos'] e pos) (rNewF i C fs0 f re) := by
  obtain ⟨t, p, l⟩ := he.ex
  refine ⟨_, ps_fld (pe_var hN hv hd hcd) p hs, fun w σ ρ E F Z st h hf => ?_⟩
  refine l _ w σ ρ E _ _ (Nat.lt_succ_self _) st h (fun d ρ1 w1 v h1 e1 r1 => ?_) hf.sx
  split at h1
  · rename_i o C' fs ds ei
    obtain ⟨ho, rfl, rfl, h1⟩ := h1
    obtain ⟨v0, ev, r0⟩ := e1.st.rep i _ ei
    obtain ⟨a, dx, vs, rfl, hh, hl, hL, rl⟩ := ins_at e1.st.wf r0
    have fp := fIx_none (f := f) (v := v) hj hl
    refine ⟨_, ev, a, C', dx, _, rfl, hh, c, n, by rw [List.length_zip]; omega, ?_⟩
    have hin := (List.getElem?_eq_some_iff.mp ei).1
    rw [e1.len] at hin
    have rr : RepL X.K (w1.ren (moveT (ρ.length + 1) [i + 1, ds.length])) (ds ++ [d]) [i + 1] 0 (vs ++ [v]) := by
      refine RepL.app (RepL.of rl.length fun q dq vq e3 e4 => ?_) (RepL.one ?_)
      · obtain ⟨v3, e5, r3⟩ := rl.get e3
        rw [e4] at e5; cases e5
        exact r3.mv (by omega)
      · rw [Nat.zero_add]; exact r1.mvT
    have ee := ins_end (i := i) (τ := ρ.length + 1) (dx := dx) (fs' := fs ++ [f]) ho (more_mine ho d.own) e1.st ei ev r0 (by rw [e1.len]; omega) rr (by rw [List.length_append, List.length_append, hl]; rfl) hL.app
    rw [fp.2]
    exact hf.nx _ _ σ (nf_of h1) ((e1.trans ee (Nat.le_refl _)).s (Nat.lt_succ_self _))
  · exact h1.elim
end
end FL
namespace FL
open PySem PySem.Spec PyProof.Rows L2 RT
end FL
namespace FL
open PySem PySem.Spec PyProof.Rows L2 RT
section
variable {X : Cx} {CX : CXT} {k : Nat} {f C : Addr} {fd : FuncData} {ps : List Str} {sp : Sp} {E : L2.St → XK} {x m : Str} {p pos apos : Pos} {e o : Expr} {es : List Expr} {ta : TE} {t : TA}
def tMakeX (C : Addr) (sp : Sp) (E : L2.St → XK) (t : TA) : TE := fun σ H Q => t σ H fun vs H1 => ∀ x dx, H1 x = none → H1 dx = none → dx ≠ x →
  sp (.ref x :: vs) (upd (upd H1 dx (.own x)) x (.ins C dx [])) (fun v H2 => v = .non ∧ Q (.ref x) H2) (E σ)
theorem run_makeX {pins : List (Addr × Obj)} {σ : L2.St} {H : Hp} {s : Shared} {Q : VK} {us : List Value} {vs : List V} (M : Mk X.K C f) (F : FnOk X.prog X.w X.K X.mg X.base CX k f fd ps sp) (hr : Room (k + 1) X.A) (hb : Binds X.K fd ps [])
    (hx : PassesAt CX X σ (E σ)) (I : Inv X pins σ H s) (r : Vals vs us)
    (h : ∀ x dx, H x = none → H dx = none → dx ≠ x → sp (.ref x :: vs) (upd (upd H dx (.own x)) x (.ins C dx [])) (fun v H2 => v = .non ∧ Q (.ref x) H2) (E σ)) :
    wpAny (model X.prog X.w) X.A (call (.ref C) us) (EP X pins σ Q) X.xe s := by
  have hq := h (s.heap.objs.size + 1) s.heap.objs.size (I.hok.fresh (Nat.le_succ _)) (I.hok.fresh (Nat.le_refl _)) (Nat.ne_of_lt (Nat.lt_succ_self _))
  have I2 := Inv.made (C := C) I
  have r2 : Vals (V.ref (s.heap.objs.size + 1) :: vs) (Value.ref (s.heap.objs.size + 1) :: us) := .cons rfl r
  have hl : (Value.ref (s.heap.objs.size + 1) :: us).length = ps.length := by
    have e := r2.length
    rw [F.len _ _ _ _ hq] at e
    exact e.symm
  have b := hb _ (Value.ref (s.heap.objs.size + 1) :: us) I2.kIn (by rw [List.append_nil]; exact hl)
  rw [List.append_nil] at b
  refine wpAny_call (make_map (f := f) I.kIn M.makes M.init (beq_iff_eq.mp M.fn) (codeAny_mono (F.run _ X.stack _ _ ⟨Value.ref (s.heap.objs.size + 1) :: us, []⟩ (Value.ref (s.heap.objs.size + 1) :: us) _ _ (E σ) (hr.make C us [])
    (I2.env0.make C us []) b r2 hq) fun r s' hq' => ?_))
  cases r with
  | error e => exact hx pins _ _ e s' I2 hq'
  | ok fl =>
    cases fl with
    | ret u =>
      obtain ⟨v, H', I3, rv, ev, q3⟩ := I2.after hq'
      subst ev
      exact ⟨rv, ⟨V.ref (s.heap.objs.size + 1), H', I3, rfl, q3⟩⟩
    | next => exact False.elim hq'
    | brk => exact False.elim hq'
    | cont => exact False.elim hq'
theorem pe_makeX (M : Mk X.K C f) (F : FnOk X.prog X.w X.K X.mg X.base CX k f fd ps sp) (hr : Room (k + 1) X.A) (hg : Gl X x) (hm : X.mg x = some (.ref C)) (hb : Binds X.K fd ps []) (hx : ∀ σ, PassesAt CX X σ (E σ))
    (ha : PA X (e :: es) t) (hdb : (x == ("__debug__" : Str)) = false := by decide) (he : starEach (e :: es) X.env = (false, eval e X.env) :: starEach es X.env := by rfl) (hpl : (backTo pos (starEach es X.env)).any (·.1) = false := by rfl) :
    PE X (.Call (.Name x p) (e :: es) [] pos) (tMakeX C sp E t) := by
  refine ⟨fun pins s σ H Q I h => ?_⟩
  refine wpAny_Call_Name_kw (ld_glob I hg hm ?_ hdb)
  refine PySem.W.callWith_K (h₀ := X.base) I.ok.mod.kin M.kp (thn (ha.run pos pins s σ H _ I h) fun us s1 ⟨vs, H1, I1, r, q⟩ => ⟨I1.kIn, ?_⟩) he hpl
  exact run_makeX M F hr hb (hx σ) I1 r q
def tMethX (C : Addr) (m : Str) (sp : Sp) (E : L2.St → XK) (ta : TE) (t : TA) : TE := fun σ H Q => ta σ H fun x H1 => ∃ a dx fs, x = .ref a ∧ H1 a = some (.ins C dx fs) ∧ fs.lookup m = none ∧ t σ H1 fun vs H2 => sp (x :: vs) H2 Q (E σ)
theorem pe_methX {pl : Sem Bool} (he : PE X o ta) (c : Cls X.K C) (hm : Meth X.K C m f) (F : FnOk X.prog X.w X.K X.mg X.base CX k f fd ps sp) (hr : Room k X.A) (hb : Binds X.K fd ps []) (hx : ∀ σ, PassesAt CX X σ (E σ)) (ha : PA X (e :: es) t)
    (hst : starEach (e :: es) X.env = (false, eval e X.env) :: starEach es X.env := by rfl) (hpl : (backTo pos (starEach es X.env)).any (·.1) = false := by rfl)
    (ht : eval (.Call (.Attribute o m apos) (e :: es) [] pos) X.env = (do
      let ov ← eval o X.env
      standAt apos.atName
      let (f, first) ← holding [ov] (getMethod ov m pl)
      callWith pos f first (backTo pos (starEach (e :: es) X.env)) (backToKw pos (keywordEach [] X.env))) := by rfl) :
    PE X (.Call (.Attribute o m apos) (e :: es) [] pos) (tMethX C m sp E ta t) := by
  refine ⟨fun pins s σ H Q I h => ?_⟩
  refine PySem.W.methodCall_KW (pl := pl) (thn (he.run pins s σ H _ I h) fun u s1 ⟨x, H1, I1, rx, a, dx, fs, ex, ea, l, q⟩ => ?_) ht
  subst ex
  obtain rfl : u = Value.ref a := rx
  refine getmeth_ok I1 ea c hm l ?_
  refine PySem.W.callWith_K (first := [.ref a]) (h₀ := X.base) I.ok.mod.kin hm.kp (thn (ha.run pos pins s1 σ H1 _ I1 q) fun us s2 ⟨vs, H2, I2, r, q2⟩ => ⟨I2.kIn, ?_⟩) hst hpl
  exact run_fnS (us := .ref a :: us) (vs := .ref a :: vs) F hr hb (hx σ) I2 (.cons rfl r) q2
end
/-- what making promises, by what __init__ does to the new instance -/
def rMk (C : Addr) (r : FSpec) : FSpec := fun ds E Q => r (.ins .flat C [] [] :: ds) (fun c fs os => E c fs os.tail) (fun d os => d = .non ∧ ∃ e, os.head? = some (some e) ∧ Q e os.tail)
def shL : Loc → Option Loc
  | 0 :: s => some (0 :: s)
  | (h + 1) :: s => some ((h + 2) :: s)
  | [] => none
def unL (m : Nat) : Loc → Option Loc
  | 0 :: s => some (0 :: s)
  | 1 :: s => some ((m + 1) :: s)
  | (h + 2) :: s => if h < m then some ((h + 1) :: s) else none
  | [] => none
theorem make_sp {K : PySem.W.Frag} {m : Nat} {M M' : List Nat} {C : Addr} {r : FSpec} {vs : List V} {H : Hp} {Q : VK} {E : XK} (h0 : M.contains 0 = true) (hM : ∀ j, M'.contains j = M.contains (j + 1)) (h : FnD K m M' (rMk C r) vs H Q E) {x dx : Addr} (nx : H x = none) (nd : H dx = none) (ne : dx ≠ x) :
    FnD K (m + 1) M r (.ref x :: vs) (upd (upd H dx (.own x)) x (.ins C dx [])) (fun v H2 => v = .non ∧ Q (.ref x) H2) E := by
  obtain ⟨lv, w, ds, ED, QD, rfl, wf, ld, reps, hr, hQ, hE⟩ := h
  let w1 : Wd := ⟨fun a => if a = x then some [1] else (w.G a).bind shL, w.S, upd (upd w.H dx (.own x)) x (.ins C dx [])⟩
  have oth : ∀ {b : Addr} {u : HO}, w.H b = some u → w1.H b = some u := fun {b u} e => by
    show upd (upd w.H dx (.own x)) x (.ins C dx []) b = some u
    rw [upd_ne (ne_of_none e nx), upd_ne (ne_of_none e nd)]; exact e
  have tagX : w.G x = none := wf.noG nx
  have kp : ∀ (j : Nat), KeptTo w w1 [j + 1] [j + 2] := fun j a s g => by
    have hax : a ≠ x := fun z => by subst z; rw [tagX] at g; cases g
    refine ⟨?_, ?_⟩
    · show (if a = x then some [1] else (w.G a).bind shL) = _
      rw [if_neg hax, g]; rfl
    · obtain ⟨o, eo⟩ : ∃ o, w.H a = some o := by
        have := (wf.tg _ _ g).2
        cases q : w.H a with
        | none => rw [q] at this; exact this.elim
        | some o => exact ⟨o, rfl⟩
      rw [oth eo, eo]
  have wf1 : Wf w1 := by
    refine ⟨fun b u e => oth (wf.sh _ _ e), fun a ℓ g => ?_⟩
    by_cases hax : a = x
    · subst hax
      exact ⟨wf.noS nx, by show Mut (upd (upd w.H dx (.own a)) a (.ins C dx []) a); rw [upd_same]; trivial⟩
    · have g : (if a = x then some [1] else (w.G a).bind shL) = some ℓ := g
      rw [if_neg hax] at g
      cases q : w.G a with
      | none => rw [q] at g; cases g
      | some k =>
        obtain ⟨h1, h2⟩ := wf.tg _ _ q
        refine ⟨h1, ?_⟩
        cases q2 : w.H a with
        | none => rw [q2] at h2; exact h2.elim
        | some o => rw [oth q2]; rw [q2] at h2; exact h2
  have fin : ∀ {os : En} {w' : Wd}, EndF K (m + 1) M w1 (.ref x :: vs) os w' → EndF K m M' w vs os.tail (w'.ren (unL m)) := fun {os w'} eF => by
    refine ⟨eF.wf.ren _, eF.s, fun a ℓ g => ?_, fun j hj d v e1 e2 => ?_⟩
    · have hax : a ≠ x := fun z => by subst z; rw [tagX] at g; cases g
      obtain ⟨k1, k2⟩ := eF.f a ℓ (show (if a = x then some [1] else (w.G a).bind shL) = _ by rw [if_neg hax, g]; rfl)
      refine ⟨ren_at k1 rfl, k2.trans ?_⟩
      obtain ⟨o, eo⟩ : ∃ o, w.H a = some o := by
        have := (wf.tg _ _ g).2
        cases q : w.H a with
        | none => rw [q] at this; exact this.elim
        | some o => exact ⟨o, rfl⟩
      rw [oth eo, eo]
    · have hjm : j < m := by have := (List.getElem?_eq_some_iff.mp e2).1; omega
      have e1' : os[j + 1]? = some (some d) := by rw [List.getElem?_tail] at e1; exact e1
      have := eF.args (j + 1) (by rw [← hM]; exact hj) d v e1' (by simpa using e2)
      refine this.ren fun s => ?_
      show (if j < m then _ else _) = _
      rw [if_pos hjm]; rfl
  refine ⟨by simp [lv], w1, .ins .flat C [] [] :: ds, _, _, rfl, wf1, by simp [ld], fun j d v e1 e2 => ?_, hr, fun d os w' v hq eF rv => ?_, fun c fs os w' y hx eF rx => ?_⟩
  · cases j with
    | zero =>
      cases e1; cases e2
      simp only [Rep]
      exact ⟨x, [], rfl, ⟨dx, by rw [if_pos (show Ow.flat.mine = true from rfl)]; exact ⟨if_pos rfl, upd_same⟩⟩, ⟨rfl, fun _ => rfl⟩, by simp [RepL]⟩
    | succ j =>
      have e1 : ds[j]? = some d := by simpa using e1
      have e2 : vs[j]? = some v := by simpa using e2
      exact Rep.to (w := w) (w' := w1) (Same.refl _) d (kp j) (reps j d v e1 e2)
  · obtain ⟨rfl, e, he, q⟩ := hq
    refine ⟨rv, hQ e os.tail (w'.ren (unL m)) (.ref x) q (fin eF) ?_⟩
    have h1 : os[0]? = some (some e) := by rw [← List.head?_eq_getElem?]; exact he
    exact (eF.args 0 h0 e (.ref x) h1 rfl).ren fun s => rfl
  · refine hE c fs os.tail (w'.ren (unL m)) y hx (fin eF) ?_
    cases y with
    | none => cases fs <;> exact rx
    | some a =>
      cases fs with
      | none => exact rx
      | some fs =>
        obtain ⟨us, h1, h2, h3, h4⟩ := rx
        exact ⟨us, h1, h2, h3, RepL.free (w := w') (w' := w'.ren (unL m)) (Same.refl _) _ h3 h4⟩
section
variable {X : Cx} {W : WX} {k : Nat} {f C : Addr} {fd : FuncData} {ps : List Str} {M : List Nat} {r : FSpec} {x : Str} {p pos apos : Pos} {e : Expr} {es : List Expr} {ra : RA}
theorem fe_make {m : Nat} (M' : List Nat) (tk : Takes X W) (mk : Mk X.K C f) (F : FnOk X.prog X.w X.K X.mg X.base (L2.CX X.prog X.w) k f fd ps (FnD X.K (m + 1) M r)) (hr : Room (k + 1) X.A) (hm : X.mg x = some (.ref C)) (hb : Binds X.K fd ps [])
    (ha : FA X W (e :: es) ra) (h0 : M.contains 0 = true := by rfl) (hM : ∀ j, M'.contains j = M.contains (j + 1) := by intro j; simp) (hl : (e :: es).length = m := by rfl) (hg : Gl X x := by rfl) (hdb : (x == ("__debug__" : Str)) = false := by decide) (he : starEach (e :: es) X.env = (false, eval e X.env) :: starEach es X.env := by rfl) (hpl : (backTo pos (starEach es X.env)).any (·.1) = false := by rfl) :
    FE X W (.Call (.Name x p) (e :: es) [] pos) (rCall M' (rMk C r) ra) := by
  obtain ⟨t, pa, sa⟩ := ha.ex
  refine ⟨_, pe_makeX (E := WE W) mk F hr hg hm hb (fun σ => passAt tk σ) pa hdb he hpl, fun τ w σ ρ E Q Qv hn st h hq hx => ?_⟩
  refine sa τ w σ ρ E _ _ hn st h (fun ads ρ1 w1 vs h1 l1 e1 r1 => ?_) hx
  have g := call_sound (X := X) (W := W) (m := m) (by rw [e1.len]; exact hn) e1.st (l1.trans hl) r1 h1 (fun d ρ' w' v q e2 r2 => hq d ρ' w' v q (e1.trans e2 (Nat.le_refl _)) r2) (hx.then e1 (Nat.le_refl _))
  exact fun y dx ny nd ne => make_sp h0 hM g ny nd ne
/-- x.m(..), x a name at slot i -/
def rMeth (i : Nat) (C : Addr) (Fs : List Str) (M : List Nat) (r : FSpec) (ra : RA) : RE := fun ρ E Q => (∃ o ds, ρ[i]? = some (some (.ins o C Fs ds))) ∧ rCall M r (rAC (oN i) ra) ρ E Q
theorem oN_args {K : PySem.W.Frag} {W : WX} {i : Nat} {n : Nat} {t : TA} {ra : RA} (s : SA K W n t ra) {τ : Nat} {w : Wd} {σ : Sl} {ρ : En} {E : EE} {Q : List AD → En → Prop} {Qv : List V → Hp → Prop} (hn : ρ.length < τ) (st : StE K w σ ρ) (h : rAC (oN i) ra ρ E Q)
    (hq : ∀ ads ρ' w' vs, Q ads ρ' → ads.length = n + 1 → EndE K τ w σ ρ ρ' w' → ArgsAt K w' σ ads τ vs → Qv vs w'.H) (hx : SX K W τ w σ ρ E) : ∃ v, σ[i]? = some (some v) ∧ t σ w.H fun vs H2 => Qv (v :: vs) H2 := by
  obtain ⟨⟨d, e0⟩, h⟩ := oN_elim (show oN i ρ E _ from h)
  obtain ⟨v, ev, _⟩ := st.rep i d e0
  refine ⟨v, ev, s (τ + 1) w σ ρ E _ _ (by omega) st h (fun as ρ2 w2 vs h2 hl e2 r2 => ?_) (fun c fs ρ' w' y hc en xr => hx c fs ρ' w' y hc ⟨en.len, en.st, en.ext.mono (Nat.le_succ _)⟩ xr)⟩
  exact hq (.brw i :: as) ρ2 w2 (v :: vs) h2 (by rw [List.length_cons, hl]) ⟨e2.len, e2.st, e2.ext.mono (Nat.le_succ _)⟩ (.cons (a := .brw i) ev r2)
theorem fe_meth {m : Nat} {o nm : Str} {Fs : List Str} (i : Nat) (tk : Takes X W) (c : Cls X.K C) (hm : Meth X.K C nm f) (F : FnOk X.prog X.w X.K X.mg X.base (L2.CX X.prog X.w) k f fd ps (FnD X.K (m + 1) M r)) (hr : Room k X.A) (hb : Binds X.K fd ps [])
    (ha : FA X W (e :: es) ra) (hf : fIx nm Fs = none := by decide +kernel) (hl : (e :: es).length = m := by rfl) (hN : X.N[i]? = some o := by rfl) (hv : Vis X.env.scope o := by first | exact Or.inl rfl | exact Or.inr (Or.inl rfl) | exact Or.inr (Or.inr rfl)) (hd : (o == ("__debug__" : Str)) = false := by decide)
    (hcd : (o == ("__classdict__" : Str)) = false := by decide) (hst : starEach (e :: es) X.env = (false, eval e X.env) :: starEach es X.env := by rfl) (hpl : (backTo pos (starEach es X.env)).any (·.1) = false := by rfl) {pl : Sem Bool}
    (ht : eval (.Call (.Attribute (.Name o p) nm apos) (e :: es) [] pos) X.env = (do
      let ov ← eval (.Name o p) X.env
      standAt apos.atName
      let (f, first) ← holding [ov] (getMethod ov nm pl)
      callWith pos f first (backTo pos (starEach (e :: es) X.env)) (backToKw pos (keywordEach [] X.env))) := by rfl) :
    FE X W (.Call (.Attribute (.Name o p) nm apos) (e :: es) [] pos) (rMeth i C Fs M r ra) := by
  obtain ⟨t, pa, sa⟩ := ha.ex
  refine ⟨_, pe_methX (E := WE W) (pl := pl) (pe_var hN hv hd hcd) c hm F hr hb (fun σ => passAt tk σ) pa hst hpl ht, fun τ w σ ρ E Q Qv hn st h hq hx => ?_⟩
  obtain ⟨⟨oo, ds, ei⟩, h⟩ := h
  obtain ⟨v, ev, g⟩ := oN_args sa hn st h (Qv := fun vs H2 => FnD X.K (m + 1) M r vs H2 Qv (WE W σ)) (fun ads ρ1 w1 vs h1 l1 e1 r1 => call_sound (by rw [e1.len]; exact hn) e1.st (by rw [l1, hl]) r1 h1 (fun d ρ' w' v q e2 r2 => hq d ρ' w' v q (e1.trans e2 (Nat.le_refl _)) r2) (hx.then e1 (Nat.le_refl _))) hx
  obtain ⟨v', ev', r0⟩ := st.rep i _ ei
  rw [ev] at ev'; cases ev'
  obtain ⟨a, dx, vs, rfl, hh, hlv, _, _⟩ := ins_at st.wf r0
  exact ⟨_, ev, a, dx, _, rfl, hh, (fIx_none (v := .non) hf hlv).1, g⟩
end
end FL
namespace FL
open PySem PySem.Spec PyProof.Rows L2 RT
end FL
namespace FL
open PySem PySem.Spec PyProof.Rows L2 RT
/-- a method of the text -/
structure DfM (K : PySem.W.Frag) (x qual : Str) (st : Stmt) (ps : List Str) (f : Addr) (fd : FuncData) : Prop where
  fn : Fun K x qual st f fd
  b : Binds K fd ps []
end FL
namespace FL
open PySem PySem.Spec PyProof.Rows L2 RT
end FL
namespace FL
open PySem PySem.Spec PyProof.Rows L2 RT
end FL
namespace FL
open PySem PySem.Spec PyProof.Rows L2 RT
end FL
namespace FL
open PySem PySem.Spec PyProof.Rows L2 RT
/-- o[k] = e, o a place with a list -/
def rSetLP (rp : RPl) (rk re : RE) : RS := fun ρ E F => re ρ E fun d ρ1 => rp ρ1 E fun i p ρ2 => match ρ2[i]? with
  | some (some d0) => rk (ρ2.set i none) (heldE i d0 E) fun dk ρ3 => match d0.atS p with
    | some (.lst o ds) => match dk with
      | .int n => o.mine = true ∧ d.own = false ∧ natAt (ixN ds.length n) fun j => nf (ρ3.set i (some (d0.put p (.lst o (ds.set j d))))) F.nx
      | _ => False
    | _ => False
  | _ => False
section
variable {X : Cx} {W : WX} {M : List Nat} {pos pos' tpos p2 apos : Pos}
theorem fs_setLP {o k e : Expr} {rp : RPl} {rk re : RE} (he : FE X W e re) (ho : FPl X W o rp) (hk : FE X W k rk) (ha : ∀ v, assign (.Subscript o k pos') X.env v = (do
      let ov ← holding [v] (eval o X.env)
      let iv ← holding [v, ov] (eval k X.env)
      standAt pos'
      holding [v, ov, iv] (setItem ov iv v)
      release [v, ov, iv] []) := by intro _; rfl) (hs : swapsWithSole [.Subscript o k pos'] e pos.line X.env = pure false := by rfl) (hw : swappedStores [.Subscript o k pos'] e X.env = pure none := by rfl)
    (h1 : (assignEach [.Subscript o k pos'] X.env).map (·.2) = [assign (.Subscript o k pos') X.env] := by rfl) : FS X W M (.Assign [.Subscript o k pos'] e pos) (rSetLP rp rk re) := by
  obtain ⟨t, p, l⟩ := he.ex
  obtain ⟨tp, pp, lp⟩ := ho.ex
  obtain ⟨t', p', l'⟩ := hk.ex
  refine ⟨_, ps_asg p (pg_sub pp p' set_list ha) hs hw h1, fun w σ ρ E F Z st h hf => ?_⟩
  refine l _ w σ ρ E _ _ (Nat.lt_succ_self _) st h (fun d ρ1 w1 v h1 e1 r1 => ?_) hf.sx
  have hx1 : SX X.K W (ρ.length + 2) w1 σ ρ1 E := hf.sx.then e1 (Nat.le_succ _)
  refine lp (ρ.length + 2) w1 σ ρ1 E _ _ (by rw [e1.len]; omega) e1.st h1 (fun i q ρ2 w2 d0 dn v0 vd h2 e2 hi ha hv at0 => ?_) hx1
  have hn2 : ρ2.length < ρ.length + 2 := by rw [e2.len, e1.len]; omega
  have e12 := e1.trans e2 (Nat.le_succ _)
  obtain ⟨s1, back⟩ := hold e2.st hi hv at0 hn2
  have hx2 : SX X.K W (ρ.length + 2) w2 σ ρ2 E := hx1.then e2 (Nat.le_refl _)
  simp only [hi] at h2
  refine l' (ρ.length + 3) (w2.ren (moveT (i + 1) [ρ.length + 2])) σ (ρ2.set i none) _ _ _ (by rw [List.length_set]; omega) s1 h2 (fun dk ρ3 w3 vk h3 e3 r3 => ?_) (held_sx hx2 fun ρ' w' en => (back ρ' w' en).1)
  obtain ⟨b1, b2, b3⟩ := back ρ3 w3 e3
  simp only [ha] at h3
  cases dn with
  | lst oo ds =>
    cases dk with
    | int n =>
      obtain ⟨hoo, hdo, h3⟩ := h3
      obtain ⟨j, ej, h3⟩ := natAt_elim h3
      have r3 : vk = .int n := r3
      subst r3
      have hin := (List.getElem?_eq_some_iff.mp hi).1
      have hl2 : ρ2.length = ρ.length := by rw [e2.len, e1.len]
      have hl3 : ρ3.length = ρ2.length := by rw [e3.len, List.length_set]
      have hi3 : (ρ3.set i (some d0))[i]? = some (some d0) := List.getElem?_set_self (by omega)
      obtain ⟨v0', ev', r0⟩ := b1.st.rep i d0 hi3
      rw [hv] at ev'; cases ev'
      obtain ⟨a, us, rfl, ta, hh, ⟨hz, hL⟩, rl⟩ := list_at hoo r0 b2
      have r1' : Rep X.K w2 d [ρ.length + 1] v := e2.ext.rep (r := []) (by rw [e1.len]; omega) r1
      have r13 : Rep X.K w3 d [ρ.length + 1] v := e3.ext.rep (r := []) (by rw [List.length_set]; omega) (r1'.mv (by omega))
      have rd := b3 d v (ρ.length + 1) [] (by omega) r13
      refine ⟨a, us, n, j, rfl, rfl, hh, by rw [rl.length]; exact ej, ?_⟩
      have rr : RepL X.K ((w3.ren (moveT (ρ.length + 2) [i + 1])).ren (moveT (ρ.length + 1) [])) (ds.set j d) ((i + 1) :: q) 0 (us.set j v) := by
        refine RepL.set (RepL.of rl.length fun y dq vq e4 e5 => ?_) (rd.free (w := w3.ren (moveT (ρ.length + 2) [i + 1])) (w' := (w3.ren (moveT (ρ.length + 2) [i + 1])).ren (moveT (ρ.length + 1) [])) (Same.refl _) d hdo)
        obtain ⟨v3, e6, r6⟩ := rl.get e4
        rw [e5] at e6; cases e6
        exact r6.mv (by omega)
      have hL' : Lt oo (ds.set j d) := by have := hL.set (j := j) (d := d); rw [hdo] at this; cases oo <;> exact this
      have ee := list_end (i := i) (τ := ρ.length + 1) (p := q) (L := []) (o' := oo) hoo hoo b1.st hi3 hv r0 b2 (by rw [List.length_set]; omega) (Nat.le_refl _) rr (by rw [List.length_set]; exact hz) hL'
      rw [List.set_set] at ee
      exact hf.nx _ _ σ (nf_of h3) (((e12.trans b1 (Nat.le_succ _)).trans ee (Nat.le_refl _)).s (Nat.lt_succ_self _))
    | _ => exact h3.elim
  | _ => exact h3.elim
end
end FL
namespace FL
open PySem PySem.Spec PyProof.Rows L2 RT
end FL
namespace FL
open PySem PySem.Spec PyProof.Rows L2 RT
end FL
namespace FL
open PySem PySem.Spec PyProof.Rows L2 RT
end FL
namespace FL
open PySem PySem.Calls PySem.Spec PyProof.Rows L2 RT
end FL
namespace FL
open PySem PySem.Spec PyProof.Rows L2
end FL
namespace FL
open PySem PySem.Spec PyProof.Rows L2
end FL
namespace FL
open PySem PySem.Spec PyProof.Rows L2
/-- at a: an exception of the class cls, its fields at d -/
def exk (a : Addr) (cls : Value) (d : Option Addr) : HO := .ext fun h => ∃ oe vs, h.get? a = some oe ∧ Zc cls d oe ∧ oe.data = .fields vs
theorem exk_ok {P : Program} {w : World} {H : Hp} {h : Heap} {a : Addr} {cls : Value} {d : Option Addr} {oe : Obj} {vs : Array Value} (h1 : h.get? a = some oe) (h2 : Zc cls d oe) (h3 : oe.data = .fields vs) : ObjOk P w H h a (exk a cls d) :=
  ⟨⟨oe, vs, h1, h2, h3⟩, ⟨oe, h1⟩, fun g1 g2 z k => by
    obtain ⟨o, v, z1, z2, z3⟩ := z
    exact ⟨o, v, k o z1, z2, z3⟩⟩
/-- what nobody knew is taken up -/
theorem adopt {X : Cx} {pins : List (Addr × Obj)} {σ : L2.St} {H : Hp} {s : Shared} (I : Inv X pins σ H s) {a : Addr} {oe : Obj} {vs : Array Value} {cls : Value} {d : Option Addr} (h1 : s.heap.get? a = some oe) (h2 : Zc cls d oe) (h3 : oe.data = .fields vs)
    (na : H a = none) (nL : a ≠ X.env.locals) (n0 : ∀ o, X.s_0.heap.get? a = some o → a ∈ X.ex) (np : ∀ p ∈ X.pn ++ pins, p.1 ≠ a) : Inv X pins σ (upd H a (exk a cls d)) s := by
  have ne : ∀ {b : Addr} {o : HO}, H b = some o → b ≠ a := fun {b o} z e => by rw [e, na] at z; cases z
  refine ⟨I.ok, I.os, I.bare, ⟨I.base.keep, I.base.slot, fun b o z n hx => ?_, I.base.there, fun b xs z => ?_, fun b o u z => ?_, fun b ps z => ?_⟩, I.loc, I.cell, ?_, fun x c z => ?_, fun p hp => ?_, fun b o z => ?_, I.len⟩
  · have hb : b ≠ a := fun e => by subst e; exact hx (n0 o z)
    rw [upd_ne hb]
    exact I.base.free b o z n hx
  · have q := I.base.tups b xs z
    rw [upd_ne (ne q)]; exact q
  · have q := I.base.frzs b o u z
    rw [upd_ne (ne q)]; exact q
  · obtain ⟨more, q⟩ := I.base.tbls b ps z
    exact ⟨more, by rw [upd_ne (ne q)]; exact q⟩
  · rw [upd_ne nL.symm]; exact I.free
  · obtain ⟨v, q⟩ := I.cell x c z
    have hc : c ≠ a := fun e => by
      subst e
      obtain ⟨o, q1, q2⟩ := q
      rw [h1] at q1
      cases q1
      rw [h3] at q2
      cases q2
    rw [upd_ne hc]; exact I.freeC x c z
  · obtain ⟨q1, q2, q3⟩ := I.pin p hp
    exact ⟨q1, by rw [upd_ne (np p hp)]; exact q2, q3⟩
  · by_cases hb : b = a
    · subst hb
      rw [upd_same] at z
      cases z
      exact exk_ok h1 h2 h3
    · rw [upd_ne hb] at z
      exact (I.hok b o z).stay (fun c v _ q => q) (fun c q => by rw [upd_ne (ne q)]; exact q) fun c xs q => by rw [upd_ne (ne q)]; exact q
end FL
namespace FL
open PySem PySem.Spec PyProof.Rows L2
/-- slot j holds an exception of class C with these fields -/
def KpE (C : Addr) (j : Nat) (fs : List (Str × V)) (σ : L2.St) (H : Hp) : Prop := ∃ a dd : Addr, σ[j]? = some (some (.ref a)) ∧ H a = some (exk a (.ref C) (some dd)) ∧ H dd = some (.xd fs)
structure KT (X : Cx) (C : Addr) (j : Nat) (e : Expr) (b : Bool) : Prop where
  ex : ∃ t, PT X e t ∧ ∀ (fs : List (Str × V)) (σ : L2.St) (H : Hp) (Q : Bool → Hp → Prop), KpE C j fs σ H → Q b H → (∀ p o, H p = none → Q b (upd H p o)) → t σ H Q
end FL
namespace FL
open PySem PySem.Spec PyProof.Rows L2
end FL
namespace FL
open PySem PySem.Spec PyProof.Rows L2
end FL
namespace FL
open PySem PySem.Spec PyProof.Rows L2
end FL
namespace Cm
open PySem PySem.Spec PyProof.Rows L2 FL
end Cm
set_option maxHeartbeats 0
namespace Cm
open PySem PySem.Spec PyProof.Rows L2 FL
/-- fewer than n bits -/
def Bt (n : Nat) (x : Int) : Prop := x.natAbs < 2 ^ n
theorem Bt.mul {a b : Nat} {x y : Int} (h : Bt a x) (k : Bt b y) : Bt (a + b) (x * y) := wide_lt h k
theorem Bt.mono {a b : Nat} {x : Int} (h : Bt a x) (k : a ≤ b) : Bt b x := Nat.lt_of_lt_of_le h (Nat.pow_le_pow_right (by decide) k)
theorem Bt.ok {a b : Nat} {x y : Int} (h : Bt a x) (k : Bt b y) (ha : 0 < a := by decide) (hb : 0 < b := by decide) (hab : a + b ≤ 1000000 := by decide) : MulOk x y := .inr (wide_mul h k ha hb hab)
theorem Bt.add {a : Nat} {x y : Int} (h : Bt a x) (k : Bt a y) : Bt (a + 1) (x + y) := by
  unfold Bt at *
  rw [Nat.pow_succ]
  omega
theorem Bt.zero {a : Nat} : Bt a 0 := Nat.two_pow_pos a
theorem Bt.neg {a : Nat} {x : Int} (h : Bt a x) : Bt a (-x) := by unfold Bt at *; omega
theorem Bt.sub {a : Nat} {x y : Int} (h : Bt a x) (k : Bt a y) : Bt (a + 1) (x - y) := h.add k.neg
theorem Bt.sum {a : Nat} : ∀ {l : List Int}, (∀ x ∈ l, Bt a x) → l.sum.natAbs ≤ l.length * 2 ^ a
  | [], _ => by simp
  | x :: l, h => by
    have h1 : x.natAbs < 2 ^ a := h x List.mem_cons_self
    have h2 := Bt.sum fun y hy => h y (List.mem_cons_of_mem _ hy)
    rw [List.sum_cons, List.length_cons, Nat.succ_mul]
    omega
def Bts (n : Nat) (xs : List Int) : Prop := ∀ x ∈ xs, Bt n x
theorem Bts.mono {a b : Nat} {xs : List Int} (h : Bts a xs) (k : a ≤ b) : Bts b xs := fun x hx => (h x hx).mono k
theorem bt_in {n : Nat} {B x : Int} (h0 : -B ≤ x) (h1 : x ≤ B) (hB : B.natAbs < 2 ^ n := by decide) : Bt n x := by
  unfold Bt
  omega
theorem InB.bts {xs : List Int} (h : InB xs) {n : Nat} (hn : 10 ≤ n := by decide) : Bts n xs := fun x hx => (bt_in (n := 10) (B := 1000) (h x hx).1 (h x hx).2).mono hn
theorem InT.bts {xs : List Int} (h : InT xs) {n : Nat} (hn : 40 ≤ n := by decide) : Bts n xs := fun x hx => (bt_in (n := 40) (B := 10 ^ 12) (h x hx).1 (h x hx).2).mono hn
theorem getD_mem {xs : List Int} {i : Nat} (h : i < xs.length) : xs.getD i 0 ∈ xs := by
  rw [List.getD_eq_getElem?_getD, List.getElem?_eq_getElem h]; exact List.getElem_mem h
theorem Bts.getD {n : Nat} {xs : List Int} (h : Bts n xs) (i : Nat) : Bt n (xs.getD i 0) := by
  by_cases hi : i < xs.length
  · exact h _ (getD_mem hi)
  · rw [List.getD_eq_getElem?_getD, List.getElem?_eq_none (by omega)]; exact Bt.zero
/-- a product of lengths n, m, k, its numbers of few bits -/
structure Pr.fit (p : Pr) (n m k : Nat) : Prop where
  ll : p.l.length = n
  lr : p.r.length = m
  lo : p.o.length = k
  bl : Bts 10000 p.l
  br : Bts 10000 p.r
  bo : Bts 10000 p.o
theorem Pr.ok.fit {p : Pr} {n m k : Int} (h : p.ok n m k) : p.fit n.toNat m.toNat k.toNat := ⟨h.ll, h.lr, h.lo, h.bl.bts, h.br.bts, h.bo.bts⟩
theorem sum_perm {l k : List Int} (h : l.Perm k) : l.sum = k.sum := by
  induction h with
  | nil => rfl
  | cons x _ ih => rw [List.sum_cons, List.sum_cons, ih]
  | swap x y l => simp only [List.sum_cons]; omega
  | trans _ _ a b => exact a.trans b
end Cm
set_option maxHeartbeats 0
namespace Cm
open PySem PySem.Spec PyProof.Rows L2 FL
def Sg {α : Type} (l : List α) (f : α → Int) : Int := (l.map f).sum
section
variable {α β : Type}
theorem Sg_nil (f : α → Int) : Sg [] f = 0 := rfl
theorem Sg_cons (a : α) (l : List α) (f : α → Int) : Sg (a :: l) f = f a + Sg l f := by unfold Sg; rw [List.map_cons, List.sum_cons]
theorem Sg_append (l k : List α) (f : α → Int) : Sg (l ++ k) f = Sg l f + Sg k f := by unfold Sg; rw [List.map_append, List.sum_append]
theorem Sg_congr {l : List α} {f g : α → Int} (h : ∀ a ∈ l, f a = g a) : Sg l f = Sg l g := by unfold Sg; rw [List.map_congr_left h]
theorem Sg_zero (l : List α) : Sg l (fun _ => 0) = 0 := by
  induction l with
  | nil => rfl
  | cons a l ih => rw [Sg_cons, ih]; rfl
theorem Sg_zero' {l : List α} {f : α → Int} (h : ∀ a ∈ l, f a = 0) : Sg l f = 0 := (Sg_congr h).trans (Sg_zero l)
theorem Sg_add (l : List α) (f g : α → Int) : Sg l (fun a => f a + g a) = Sg l f + Sg l g := by
  induction l with
  | nil => rfl
  | cons a l ih => rw [Sg_cons, Sg_cons, Sg_cons, ih]; omega
theorem Sg_mul (c : Int) (l : List α) (f : α → Int) : c * Sg l f = Sg l fun a => c * f a := by
  induction l with
  | nil => exact Int.mul_zero c
  | cons a l ih => rw [Sg_cons, Sg_cons, Int.mul_add, ih]
theorem Sg_mulR (c : Int) (l : List α) (f : α → Int) : Sg l f * c = Sg l fun a => f a * c := by
  rw [Int.mul_comm, Sg_mul]
  exact Sg_congr fun a _ => Int.mul_comm _ _
theorem Sg_map (l : List α) (g : α → β) (f : β → Int) : Sg (l.map g) f = Sg l fun a => f (g a) := by unfold Sg; rw [List.map_map]; rfl
theorem Sg_flatMap (l : List α) (g : α → List β) (f : β → Int) : Sg (l.flatMap g) f = Sg l fun a => Sg (g a) f := by
  induction l with
  | nil => rfl
  | cons a l ih => rw [List.flatMap_cons, Sg_append, Sg_cons, ih]
theorem Sg_filter (l : List α) (p : α → Bool) (f : α → Int) : Sg (l.filter p) f = Sg l fun a => if p a then f a else 0 := by
  induction l with
  | nil => rfl
  | cons a l ih =>
    rw [List.filter_cons, Sg_cons]
    cases p a
    · rw [if_neg Bool.false_ne_true, if_neg Bool.false_ne_true, ih]; omega
    · rw [if_pos rfl, if_pos rfl, Sg_cons, ih]
theorem Sg_perm {l k : List α} (h : l.Perm k) (f : α → Int) : Sg l f = Sg k f := sum_perm (h.map f)
/-- one place of a list without doubles -/
theorem Sg_one [DecidableEq α] {l : List α} (h : l.Nodup) {b : α} (hb : b ∈ l) (f : α → Int) : Sg l (fun a => if a = b then f a else 0) = f b := by
  induction l with
  | nil => cases hb
  | cons a l ih =>
    rw [Sg_cons]
    have hn := List.nodup_cons.mp h
    by_cases e : a = b
    · subst e
      rw [if_pos rfl, Sg_zero' fun c hc => if_neg fun (z : c = a) => hn.1 (by rw [← z]; exact hc)]; omega
    · rw [if_neg e, ih hn.2 (by
        rcases List.mem_cons.mp hb with z | z
        · exact absurd z.symm e
        · exact z)]; omega
theorem Sg_none [DecidableEq α] {l : List α} {b : α} (hb : b ∉ l) (f : α → Int) : Sg l (fun a => if a = b then f a else 0) = 0 := Sg_zero' fun a ha => if_neg fun (z : a = b) => hb (by rw [← z]; exact ha)
end
theorem Sg_at {n b : Nat} (hb : b < n) (f : Nat → Int) : Sg (List.range n) (fun a => if a = b then f a else 0) = f b := Sg_one List.nodup_range (List.mem_range.mpr hb) f
end Cm
set_option maxHeartbeats 0
namespace Cm
open PySem PySem.Spec PyProof.Rows L2 FL
theorem tm_row_inj {t u : Tm} (h : t.row = u.row) : t = u := by
  cases t; cases u
  simp only [Tm.row, List.cons.injEq, and_true] at h
  obtain ⟨rfl, rfl, rfl, rfl⟩ := h
  rfl
end Cm
set_option maxHeartbeats 0
namespace Cm
open PySem PySem.Spec PyProof.Rows L2 FL
theorem Sg_pls (ts : List Tm) (f : List Int → Int) : Sg ts (fun t => t.c * f t.pl) = Sg (pls ts) fun p => tsum ts p * f p := by
  refine snoc_ind (C := fun ts => Sg ts (fun t => t.c * f t.pl) = Sg (pls ts) fun p => tsum ts p * f p) rfl (fun l t ih => ?_) ts
  rw [Sg_append, ih, Sg_cons, Sg_nil, Int.add_zero, pls_snoc]
  have e : ∀ P : List (List Int), Sg P (fun p => tsum (l ++ [t]) p * f p) = Sg P (fun p => tsum l p * f p) + Sg P fun p => if p = t.pl then t.c * f p else 0 := fun P => by
    rw [← Sg_add]
    refine Sg_congr fun p _ => ?_
    rw [tsum_snoc]
    by_cases h : p = t.pl
    · rw [if_pos h, if_pos h.symm, Int.add_mul]
    · rw [if_neg h, if_neg fun z => h z.symm, Int.add_zero, Int.add_zero]
  rw [e]
  unfold addP
  by_cases h : t.pl ∈ pls l
  · rw [if_pos h, Sg_one (pls_nodup l) h]
  · rw [if_neg h, Sg_append, Sg_append, Sg_cons, Sg_nil, Sg_cons, Sg_nil, if_pos rfl, Sg_none h, tsum_out h]
    omega
theorem Sg_canon (ts : List Tm) (f : List Int → Int) : Sg (canonT ts) (fun t => t.c * f t.pl) = Sg ts fun t => t.c * f t.pl := by
  rw [Sg_pls ts f, ← Sg_perm (List.mergeSort_perm (pls ts) leR)]
  unfold canonT
  have : ∀ P : List (List Int), (∀ p ∈ P, p.length = 3) → Sg (P.filterMap fun p => if tsum ts p ≠ 0 then some (tmOf p (tsum ts p)) else none) (fun t => t.c * f t.pl) = Sg P fun p => tsum ts p * f p := fun P hP => by
    induction P with
    | nil => rfl
    | cons p P ih =>
      rw [List.filterMap_cons, Sg_cons, ← ih fun q hq => hP q (List.mem_cons_of_mem _ hq)]
      by_cases h : tsum ts p ≠ 0
      · rw [if_pos h, Sg_cons]
        show tsum ts p * f (tmOf p (tsum ts p)).pl + _ = _
        rw [(tmOf_pl (hP p List.mem_cons_self)).1]
      · rw [if_neg h]
        have : tsum ts p = 0 := by omega
        rw [this, Int.zero_mul, Int.zero_add]
  exact this _ fun p hp => pls_three (List.mem_mergeSort.mp hp)
def Tm.neg (t : Tm) : Tm := ⟨t.k, t.i, t.j, 0 - t.c⟩
theorem canonT_len (ts : List Tm) : (canonT ts).length ≤ ts.length := by
  have := pls_len ts
  have h2 := List.length_filterMap_le (fun p => if tsum ts p ≠ 0 then some (tmOf p (tsum ts p)) else none) ((pls ts).mergeSort leR)
  rw [List.length_mergeSort] at h2
  have : (canonT ts).length ≤ (pls ts).length := h2
  omega
end Cm
namespace Cm
open PySem PySem.Spec PyProof.Rows L2 FL
end Cm
namespace Cm
open PySem PySem.Spec PyProof.Rows L2 FL
set_option maxHeartbeats 0
/-- the numbers that are not 0, with their places -/
def wp (xs : List Int) : List (Int × Nat) := xs.zipIdx.filter fun p => decide (p.1 ≠ 0)
theorem wp_mem {xs : List Int} {p : Int × Nat} (h : p ∈ wp xs) : p.1 ∈ xs ∧ p.2 < xs.length ∧ xs.getD p.2 0 = p.1 ∧ p.1 ≠ 0 := by
  obtain ⟨h1, h2⟩ := List.mem_filter.mp h
  obtain ⟨h3, h4, h5⟩ := List.mem_zipIdx h1
  simp only [Nat.sub_zero] at h5
  refine ⟨by rw [h5]; exact List.getElem_mem _, by simpa using h4, ?_, by simpa using h2⟩
  rw [h5, List.getD_eq_getElem?_getD, List.getElem?_eq_getElem (by simpa using h4)]; rfl
theorem wp_len (xs : List Int) : (wp xs).length ≤ xs.length := by
  unfold wp
  exact Nat.le_trans (List.length_filter_le _ _) (by rw [List.length_zipIdx]; exact Nat.le_refl _)
def byT3 (a b : Int × Nat) (o : List Int) : List Tm := (wp o).map fun c => ⟨c.2, a.2, b.2, a.1 * b.1 * c.1⟩
def byT2 (a : Int × Nat) (p : Pr) (r : List (Int × Nat)) : List Tm := r.flatMap fun b => byT3 a b p.o
def byT1 (p : Pr) (l : List (Int × Nat)) : List Tm := l.flatMap fun a => byT2 a p (wp p.r)
def byTs (ps : List Pr) : List Tm := ps.flatMap fun p => byT1 p (wp p.l)
theorem flat_take {α β : Type} (f : α → List β) {l : List α} {i : Nat} {a : α} (h : l[i]? = some a) : (l.take (i + 1)).flatMap f = (l.take i).flatMap f ++ f a := by
  rw [List.take_succ, h, List.flatMap_append]
  simp
structure Pr.bts (p : Pr) (n : Nat) : Prop where
  l : Bts n p.l
  r : Bts n p.r
  o : Bts n p.o
theorem Pr.fit.bts {p : Pr} {a b c : Nat} (h : p.fit a b c) : p.bts 10000 := ⟨h.bl, h.br, h.bo.mono (by decide)⟩
def sg (n : Nat) (k : Int) : List Int := (List.range n).map fun (i : Nat) => if decide ((i : Int) = k) then (1 : Int) else 0
end Cm
namespace Cm
open PySem PySem.Spec PyProof.Rows L2 FL
set_option maxHeartbeats 0
theorem tsum_Sg (ts : List Tm) (p : List Int) : tsum ts p = Sg ts fun t => if t.pl = p then t.c else 0 := by
  show Sg (ts.filter fun t => decide (t.pl = p)) (fun t => t.c) = _
  rw [Sg_filter]
  exact Sg_congr fun t _ => by simp
theorem wp_at (xs : List Int) (i : Nat) : (Sg (wp xs) fun a => if a.2 = i then a.1 else 0) = xs.getD i 0 := by
  unfold wp
  rw [Sg_filter]
  have e1 : ∀ a ∈ xs.zipIdx, (if decide (a.1 ≠ 0) = true then (if a.2 = i then a.1 else 0) else 0) = (if a.2 = i then a.1 else 0) := fun a _ => by
    by_cases h : a.1 = 0
    · rw [if_neg (by simpa using h)]
      split <;> simp [h]
    · rw [if_pos (by simpa using h)]
  rw [Sg_congr e1]
  clear e1
  have key : ∀ (xs : List Int) (k : Nat), (Sg (xs.zipIdx k) fun a => if a.2 = k + i then a.1 else 0) = xs.getD i 0 := by
    induction i with
    | zero =>
      intro xs k
      cases xs with
      | nil => rfl
      | cons x xs =>
        rw [List.zipIdx_cons, Sg_cons, Sg_zero' fun a ha => ?_]
        · simp
        · have := (List.mem_zipIdx ha).1
          rw [if_neg (by omega)]
    | succ i ih =>
      intro xs k
      cases xs with
      | nil => rfl
      | cons x xs =>
        rw [List.zipIdx_cons, Sg_cons, if_neg (by (try dsimp only); omega), Int.zero_add]
        have := ih xs (k + 1)
        rw [show k + 1 + i = k + (i + 1) by omega] at this
        rw [this]; rfl
  have := key xs 0
  rw [Nat.zero_add] at this
  exact this
theorem pl_eq (a b c k i j : Nat) : ([(a : Int), b, c] = [(k : Int), i, j]) ↔ a = k ∧ b = i ∧ c = j := by
  simp [Int.natCast_inj]
theorem tsum_by (ps : List Pr) (k i j : Nat) : tsum (byTs ps) [(k : Int), i, j] = Sg ps fun p => p.o.getD k 0 * (p.l.getD i 0 * p.r.getD j 0) := by
  rw [tsum_Sg]
  unfold byTs
  rw [Sg_flatMap]
  refine Sg_congr fun p _ => ?_
  unfold byT1
  rw [Sg_flatMap, ← wp_at p.o k, ← wp_at p.l i, ← wp_at p.r j]
  rw [Sg_mulR (Sg (wp p.r) fun a => if a.2 = j then a.1 else 0) (wp p.l), Sg_mul (Sg (wp p.o) fun a => if a.2 = k then a.1 else 0) (wp p.l)]
  refine Sg_congr fun a _ => ?_
  unfold byT2
  rw [Sg_flatMap, Sg_mul (if a.2 = i then a.1 else 0) (wp p.r), Sg_mul (Sg (wp p.o) fun a => if a.2 = k then a.1 else 0) (wp p.r)]
  refine Sg_congr fun b _ => ?_
  unfold byT3
  rw [Sg_map, Sg_mulR _ (wp p.o)]
  refine Sg_congr fun c _ => ?_
  show (if [(c.2 : Int), (a.2 : Int), (b.2 : Int)] = [(k : Int), i, j] then a.1 * b.1 * c.1 else 0) = _
  by_cases h1 : c.2 = k
  · by_cases h2 : a.2 = i
    · by_cases h3 : b.2 = j
      · rw [if_pos ((pl_eq _ _ _ _ _ _).mpr ⟨h1, h2, h3⟩), if_pos h1, if_pos h2, if_pos h3]
        rw [Int.mul_comm]
      · rw [if_neg fun h => h3 ((pl_eq _ _ _ _ _ _).mp h).2.2, if_neg h3]; simp
    · rw [if_neg fun h => h2 ((pl_eq _ _ _ _ _ _).mp h).2.1, if_neg h2]; simp
  · rw [if_neg fun h => h1 ((pl_eq _ _ _ _ _ _).mp h).1, if_neg h1]; simp
theorem by_mem {ps : List Pr} {t : Tm} (h : t ∈ byTs ps) : ∃ p ∈ ps, ∃ i j k : Nat, i < p.l.length ∧ j < p.r.length ∧ k < p.o.length ∧ t = ⟨k, i, j, p.l.getD i 0 * p.r.getD j 0 * p.o.getD k 0⟩ := by
  obtain ⟨p, hp, h⟩ := List.mem_flatMap.mp h
  obtain ⟨a, ha, h⟩ := List.mem_flatMap.mp h
  obtain ⟨b, hb, h⟩ := List.mem_flatMap.mp h
  obtain ⟨c, hc, rfl⟩ := List.mem_map.mp h
  have ma := wp_mem ha
  have mb := wp_mem hb
  have mc := wp_mem hc
  exact ⟨p, hp, a.2, b.2, c.2, ma.2.1, mb.2.1, mc.2.1, by rw [ma.2.2.1, mb.2.2.1, mc.2.2.1]⟩
end Cm
namespace Cm
open PySem PySem.Spec PyProof.Rows L2 FL
end Cm
namespace Cm
open PySem PySem.Spec PyProof.Rows L2 FL
end Cm
namespace Cm
open PySem PySem.Spec PyProof.Rows L2 FL
end Cm
namespace Cm
open PySem PySem.Spec PyProof.Rows L2 FL
set_option maxHeartbeats 0
def tsD (ts : List Tm) : D := .dct .flat true ((pls ts).map rowD) ((pls ts).map fun p => .int (tsum ts p))
def nz (ts : List Tm) : List (List Int) := (pls ts).filter fun p => decide (tsum ts p ≠ 0)
def sumD (ts : List Tm) : D := .dct .flat true ((nz ts).map rowD) ((nz ts).map fun p => .int (tsum ts p))
theorem nodup_len {α : Type} [DecidableEq α] : ∀ {l k : List α}, l.Nodup → (∀ x ∈ l, x ∈ k) → l.length ≤ k.length
  | [], _, _, _ => Nat.zero_le _
  | a :: l, k, h, s => by
    have h1 := List.nodup_cons.mp h
    have ha := s a List.mem_cons_self
    have := nodup_len (k := k.erase a) h1.2 fun x hx => (List.mem_erase_of_ne (fun z => h1.1 (by rw [← z]; exact hx))).mpr (s x (List.mem_cons_of_mem _ hx))
    rw [List.length_erase_of_mem ha] at this
    have hk := List.length_pos_of_mem ha
    rw [List.length_cons]
    omega
theorem pls_in {U : List Tm} {L : List (List Int)} (h : ∀ t ∈ U, t.pl ∈ L) : (pls U).length ≤ L.length := nodup_len (pls_nodup U) fun p hp => by
  obtain ⟨t, ht, rfl⟩ := (mem_pls _ _).mp hp
  exact h t ht
theorem flat_sub {α β : Type} (f : α → List β) (l : List α) (i : Nat) {x : β} (h : x ∈ (l.take i).flatMap f) : x ∈ l.flatMap f := by
  obtain ⟨a, ha, h⟩ := List.mem_flatMap.mp h
  exact List.mem_flatMap.mpr ⟨a, List.mem_of_mem_take ha, h⟩
/-- a dict made of rows all new -/
theorem mkS_rows (g : List Int → D) : ∀ (xs P : List (List Int)) (vs : List D), (P ++ xs).Nodup → mkS true (P.map rowD) vs (xs.map fun p => (rowD p, g p)) = ((P ++ xs).map rowD, vs ++ xs.map g)
  | [], P, vs, _ => by simp [mkS]
  | x :: xs, P, vs, h => by
    have hx : x ∉ P := fun z => by
      rw [List.nodup_append] at h
      exact h.2.2 _ z _ List.mem_cons_self rfl
    have e : kIdx true (P.map rowD) (rowD x) = none := by rw [row_kIdx]; exact idx_out hx
    have ih := mkS_rows g xs (P ++ [x]) (vs ++ [g x]) (by rw [List.append_assoc]; exact h)
    unfold mkS at ih ⊢
    rw [List.map_cons, List.foldl_cons]
    show List.foldl _ (putKs true (P.map rowD) (rowD x), putDs true (P.map rowD) (rowD x) vs (g x)) _ = _
    unfold putKs putDs
    rw [e]
    rw [List.map_append] at ih
    refine (ih.trans ?_)
    simp
theorem ts_look (U : List Tm) (p : List Int) : dLook true ((pls U).map rowD) ((pls U).map fun p => .int (tsum U p)) (rowD p) = some (.int (tsum U p)) ∨ (dLook true ((pls U).map rowD) ((pls U).map fun p => D.int (tsum U p)) (rowD p) = none ∧ (D.int 0) = .int (tsum U p)) := by
  have := look_rows (g := fun p => D.int (tsum U p)) (P := pls U) (q := p)
  by_cases h : p ∈ pls U
  · rw [if_pos h] at this; exact .inl this
  · rw [if_neg h] at this; exact .inr ⟨this, by rw [tsum_out h]⟩
theorem ts_put (U : List Tm) (t : Tm) : D.dct .flat true (putKs true ((pls U).map rowD) (rowD t.pl)) (putDs true ((pls U).map rowD) (rowD t.pl) ((pls U).map fun p => .int (tsum U p)) (.int (tsum U t.pl + t.c))) = tsD (U ++ [t]) := by
  unfold tsD
  rw [pls_snoc]
  rw [putKs_rows, putDs_rows (g' := fun p => D.int (tsum (U ++ [t]) p)) (pls_nodup _) (by rw [tsum_snoc, if_pos rfl]) (fun p hp => by rw [tsum_snoc, if_neg (Ne.symm hp), Int.add_zero])]
theorem intK_rows {g : List Int → Int} {P : List (List Int)} {q : List Int} (h : q ∈ P) : intK (P.map rowD) (P.map g) (rowD q) = some (g q) := by
  unfold intK
  rw [row_kIdx]
  obtain ⟨i, h1, h2⟩ := idx_in h
  rw [h1]
  show (P.map g)[i]? = _
  rw [List.getElem?_map, h2]; rfl
/-- == of two dicts of places that are alike -/
theorem same_dicts {P P' : List (List Int)} {g g' : List Int → Int} (n : P.Nodup) (n' : P'.Nodup) (hm : ∀ p, p ∈ P ↔ p ∈ P') (hg : ∀ p ∈ P, g p = g' p) : ((P.map rowD).length == (P'.map rowD).length && tabD (P.map rowD) (P.map g) (P'.map rowD) (P'.map g')) = true := by
  have pm : P.Perm P' := (List.perm_ext_iff_of_nodup n n').mpr hm
  rw [Bool.and_eq_true, List.length_map, List.length_map, pm.length_eq]
  refine ⟨beq_self_eq_true _, ?_⟩
  unfold tabD
  rw [List.zip_map', List.all_map, List.all_eq_true]
  intro p hp
  show decide (intK _ _ (rowD p) = some (g p)) = true
  rw [intK_rows ((hm p).mp hp), hg p hp]
  simp
theorem nz_mem (ts : List Tm) (p : List Int) : p ∈ nz ts ↔ tsum ts p ≠ 0 := by
  unfold nz
  rw [List.mem_filter, decide_eq_true_iff]
  refine ⟨fun h => h.2, fun h => ⟨?_, h⟩⟩
  exact Classical.byContradiction fun z => h (tsum_out z)
theorem nz_nodup (ts : List Tm) : (nz ts).Nodup := (pls_nodup ts).filter _
/-- dicts told by places -/
structure Dt (P : List (List Int)) (g : List Int → Int) (ts : List Tm) : Prop where
  nd : P.Nodup
  mem : ∀ p, p ∈ P ↔ tsum ts p ≠ 0
  val : ∀ p ∈ P, g p = tsum ts p
theorem Dt.sum (ts : List Tm) : Dt (nz ts) (tsum ts) ts := ⟨nz_nodup ts, nz_mem ts, fun _ _ => rfl⟩
theorem Dt.same {P P' : List (List Int)} {g g' : List Int → Int} {ts us : List Tm} (h : Dt P g ts) (h' : Dt P' g' us) (e : ∀ p, tsum ts p = tsum us p) : ((P.map rowD).length == (P'.map rowD).length && tabD (P.map rowD) (P.map g) (P'.map rowD) (P'.map g')) = true :=
  same_dicts h.nd h'.nd (fun p => by rw [h.mem, h'.mem, e]) fun p hp => by rw [h.val p hp, h'.val p ((h'.mem p).mpr (by rw [← e]; exact (h.mem p).mp hp)), e]
end Cm
namespace Cm
open PySem PySem.Spec PyProof.Rows L2 FL
def Mg (B : Int) (xs : List Int) : Prop := ∀ x ∈ xs, -B ≤ x ∧ x ≤ B
theorem Mg.mono {B C : Int} {xs : List Int} (h : Mg B xs) (k : B ≤ C) : Mg C xs := fun x hx => by have := h x hx; omega
theorem Mg.bts {B : Int} {xs : List Int} (h : Mg B xs) {n : Nat} (k : B.natAbs < 2 ^ n) : Bts n xs := fun x hx => bt_in (h x hx).1 (h x hx).2 k
structure Pr.mg (p : Pr) (B : Int) : Prop where
  l : Mg B p.l
  r : Mg B p.r
  o : Mg B p.o
theorem Pr.mg.mono {p : Pr} {B C : Int} (h : p.mg B) (k : B ≤ C) : p.mg C := ⟨h.l.mono k, h.r.mono k, h.o.mono k⟩
theorem Pr.mg.bts {p : Pr} {B : Int} (h : p.mg B) {n : Nat} (k : B.natAbs < 2 ^ n) : p.bts n := ⟨h.l.bts k, h.r.bts k, h.o.bts k⟩
/-- what a product tells at k, i, j -/
def Pr.one (p : Pr) (k i j : Nat) : Int := p.o.getD k 0 * (p.l.getD i 0 * p.r.getD j 0)
def tel (ps : List Pr) (k i j : Nat) : Int := Sg ps fun p => p.one k i j
theorem tel_by (ps : List Pr) (k i j : Nat) : tsum (byTs ps) [(k : Int), i, j] = tel ps k i j := tsum_by ps k i j
theorem tel_append (ps qs : List Pr) (k i j : Nat) : tel (ps ++ qs) k i j = tel ps k i j + tel qs k i j := Sg_append _ _ _
/-- places of natural numbers -/
def NatPl (ts : List Tm) : Prop := ∀ t ∈ ts, ∃ k i j : Nat, t.pl = [(k : Int), i, j]
theorem by_nat (ps : List Pr) : NatPl (byTs ps) := fun t ht => by
  obtain ⟨p, _, i, j, k, _, _, _, rfl⟩ := by_mem ht
  exact ⟨k, i, j, rfl⟩
theorem tsum_ext {ts us : List Tm} (h : NatPl ts) (g : NatPl us) (e : ∀ k i j : Nat, tsum ts [(k : Int), i, j] = tsum us [(k : Int), i, j]) (p : List Int) : tsum ts p = tsum us p := by
  by_cases h1 : p ∈ pls ts
  · obtain ⟨t, ht, rfl⟩ := (mem_pls _ _).mp h1
    obtain ⟨k, i, j, e1⟩ := h t ht
    rw [e1]; exact e k i j
  · by_cases h2 : p ∈ pls us
    · obtain ⟨t, ht, rfl⟩ := (mem_pls _ _).mp h2
      obtain ⟨k, i, j, e1⟩ := g t ht
      rw [e1]; exact e k i j
    · rw [tsum_out h1, tsum_out h2]
/-- terms of unlike places, none 0 -/
structure Dis (ts : List Tm) : Prop where
  nd : (ts.map Tm.pl).Nodup
  nz : ∀ t ∈ ts, t.c ≠ 0
theorem getD_neg (xs : List Int) (i : Nat) : (xs.map fun x => -x).getD i 0 = -xs.getD i 0 := by
  rw [List.getD_eq_getElem?_getD, List.getD_eq_getElem?_getD, List.getElem?_map]
  cases xs[i]? <;> rfl
theorem Mg.neg {B : Int} {xs : List Int} (h : Mg B xs) : Mg B (xs.map fun x => -x) := fun x hx => by
  obtain ⟨y, hy, rfl⟩ := List.mem_map.mp hx
  have := h y hy; omega
theorem pick_at {α : Type} {f : α → D} {xs : List α} {k : Int} {Q : D → Prop} (h0 : 0 ≤ k) (h1 : k < xs.length) (ho : ∀ a, (f a).own = false) (q : ∀ a, xs[k.toNat]? = some a → Q (f a)) : pick (atI (xs.map f) k) Q := by
  have hx : k.toNat < xs.length := by omega
  refine pick_of (d := f xs[k.toNat]) ?_ (ho _) (q _ (List.getElem?_eq_getElem hx))
  unfold atI
  rw [ixN_of h0 (by rw [List.length_map]; exact h1)]
  show (xs.map f)[k.toNat]? = _
  rw [List.getElem?_map, List.getElem?_eq_getElem hx]; rfl
end Cm
namespace Cm
open PySem PySem.Spec PyProof.Rows L2 FL
end Cm
namespace Cm
open PySem PySem.Spec PyProof.Rows L2 FL
open PySem.W (EachIs AllAlike dataLe dataLt alike alikeAll)
set_option maxHeartbeats 0
structure Pr.sz (p : Pr) (a b c : Nat) : Prop where
  l : p.l.length = a
  r : p.r.length = b
  o : p.o.length = c
theorem compR_ownA {α : Type} {f : D → En → (Option D → En → Prop) → Prop} {vs : List Nat} {Q : Ow → List D → En → Prop} {ds : List D} {ρ : En} (xs : List α) (g h hf : α → D) (e : ds = xs.map g) (ho : ∀ x, (h x).own = true) (hz : ∀ x, (h x).frz = hf x)
    (k : ∀ x ∈ xs, f (g x) ρ fun o ρ' => o = some (h x) ∧ wipeD ρ' vs = ρ) (q : ∀ kd : Ow, kd.mine = true → (D.lst kd (xs.map h)).frz = .lst .ice (xs.map hf) → Q kd (xs.map h) ρ) : compR f vs ds ρ .flat [] Q := by
  subst e
  refine compR_ownK g h ho xs .flat [] k ?_
  rw [List.nil_append]
  cases xs with
  | nil => exact q .flat rfl rfl
  | cons x xs =>
    refine q .deep rfl ?_
    show D.lst .ice (frzL _) = _
    rw [frzL_map, List.map_map]
    congr 1
    exact List.map_congr_left fun x _ => hz x
end Cm
namespace Cm
open PySem PySem.Spec PyProof.Rows L2 FL
set_option maxHeartbeats 0
/-- terms that stand within lengths a, b, c, numbers -1 to 1 -/
structure Fit1 (ts : List Tm) (a b c : Nat) : Prop where
  ds : Dis ts
  pl : ∀ t ∈ ts, ∃ k i j : Nat, (k < c ∧ i < a ∧ j < b) ∧ t.pl = [(k : Int), i, j]
  mg : ∀ t ∈ ts, -1 ≤ t.c ∧ t.c ≤ 1
theorem Fit1.mem {ts : List Tm} {a b c : Nat} (h : Fit1 ts a b c) {p : List Int} (hp : p ∈ pls ts) : (∃ k i j : Nat, (k < c ∧ i < a ∧ j < b) ∧ p = [(k : Int), i, j]) ∧ -1 ≤ tsum ts p ∧ tsum ts p ≤ 1 := by
  obtain ⟨t, ht, rfl⟩ := (mem_pls _ _).mp hp
  rw [tsum_distinct h.ds.nd ht]
  exact ⟨h.pl t ht, h.mg t ht⟩
theorem one_lo (p : Pr) (k i j : Nat) : (⟨p.l.map fun x => -x, p.r, p.o.map fun x => -x⟩ : Pr).one k i j = p.one k i j := by
  unfold Pr.one
  rw [getD_neg, getD_neg, Int.neg_mul, Int.neg_mul, Int.mul_neg, Int.neg_neg]
theorem one_lr (p : Pr) (k i j : Nat) : (⟨p.l.map fun x => -x, p.r.map fun x => -x, p.o⟩ : Pr).one k i j = p.one k i j := by
  unfold Pr.one
  rw [getD_neg, getD_neg, Int.neg_mul_neg]
structure Lk (p q : Pr) (a b c : Nat) (B : Int) : Prop where
  sz : q.sz a b c
  mg : q.mg B
  one : ∀ k i j, q.one k i j = p.one k i j
theorem sz_neg {xs : List Int} {n : Nat} (h : xs.length = n) : (xs.map fun x => -x).length = n := (List.length_map _).trans h
theorem Lk.refl {p : Pr} {a b c : Nat} {B : Int} (h : p.sz a b c) (g : p.mg B) : Lk p p a b c B := ⟨h, g, fun _ _ _ => rfl⟩
theorem Lk.lo {p q : Pr} {a b c : Nat} {B : Int} (h : Lk p q a b c B) : Lk p ⟨q.l.map fun x => -x, q.r, q.o.map fun x => -x⟩ a b c B := ⟨⟨sz_neg h.sz.l, h.sz.r, sz_neg h.sz.o⟩, ⟨h.mg.l.neg, h.mg.r, h.mg.o.neg⟩, fun k i j => (one_lo q k i j).trans (h.one k i j)⟩
theorem Lk.lr {p q : Pr} {a b c : Nat} {B : Int} (h : Lk p q a b c B) : Lk p ⟨q.l.map fun x => -x, q.r.map fun x => -x, q.o⟩ a b c B := ⟨⟨sz_neg h.sz.l, sz_neg h.sz.r, h.sz.o⟩, ⟨h.mg.l.neg, h.mg.r.neg, h.mg.o⟩, fun k i j => (one_lr q k i j).trans (h.one k i j)⟩
end Cm
namespace Cm
open PySem PySem.Spec PyProof.Rows L2 FL
end Cm
namespace Cm
open PySem PySem.Spec PyProof.Rows L2 FL
set_option maxHeartbeats 0
theorem flat_bd {α β : Type} (f : α → List β) (c : Nat) : ∀ l : List α, (∀ x ∈ l, (f x).length ≤ c) → (l.flatMap f).length ≤ l.length * c
  | [], _ => Nat.zero_le _
  | a :: l, h => by
    have h1 := h a List.mem_cons_self
    have h2 := flat_bd f c l fun x hx => h x (List.mem_cons_of_mem _ hx)
    rw [List.flatMap_cons, List.length_append, List.length_cons, Nat.succ_mul]; omega
theorem by_len {ps : List Pr} {a b c : Nat} (h : ∀ p ∈ ps, p.sz a b c) : (byTs ps).length ≤ ps.length * (a * (b * c)) := by
  refine flat_bd _ _ _ fun p hp => ?_
  obtain ⟨h1, h2, h3⟩ := h p hp
  refine Nat.le_trans (flat_bd _ (b * c) _ fun x _ => ?_) (Nat.mul_le_mul_right _ (by have := wp_len p.l; omega))
  refine Nat.le_trans (flat_bd _ c _ fun y _ => ?_) (Nat.mul_le_mul_right _ (by have := wp_len p.r; omega))
  unfold byT3
  rw [List.length_map]
  have := wp_len p.o
  omega
end Cm
namespace Cm
open PySem PySem.Spec PyProof.Rows L2 FL
set_option maxHeartbeats 0
end Cm
namespace Cm
open PySem PySem.Spec PyProof.Rows L2 FL
end Cm
namespace Cm
open PySem PySem.Spec PyProof.Rows L2 FL
def rb_law_same (r_law_same : FSpec) : RS := (rSeq (rIf (rTst (rCB dIsi2 (rAC (oV (rVar 1)) (rAC (oV (rTup (rAC (oV (rC (.ty "list"))) (rAC (oV (rC (.ty "tuple"))) rA0)))) rA0)))) (rSeq (rIf (rOr (rTst (rBin dNe (oV (rCB dIsi (rAC (oV (rVar 1)) (rAC (oV (rC (.ty "list"))) rA0)))) (oV (rCB dIsi (rAC (oV (rVar 0)) (rAC (oV (rC (.ty "list"))) rA0)))))) (rTst (rBin dNe (oV (rCB dIsi (rAC (oV (rVar 1)) (rAC (oV (rC (.ty "tuple"))) rA0)))) (oV (rCB dIsi (rAC (oV (rVar 0)) (rAC (oV (rC (.ty "tuple"))) rA0))))))) (rRet (rC (.bl false))) rNx)
  (rRet (rAndV (rBin dEq (oV (rCB dLen (rAC (oV (rVar 0)) rA0))) (oV (rCB dLen (rAC (oV (rVar 1)) rA0)))) (rCB dAll (rAC (oV (rComp (rRg1 (rAC (oV (rCB dLen (rAC (oV (rVar 1)) rA0))) rA0)) (gNm 2) rYes (rCall [] r_law_same (rAC (oV (rBin dIx (oV (rVar 0)) (oV (rVar 2)))) (rAC (oV (rBin dIx (oV (rVar 1)) (oV (rVar 2)))) rA0))) [2])) rA0))))) rNx)
  (rRet (rAndV (rCB dIsi (rAC (oV (rVar 0)) (rAC (oV (rC (.ty "int"))) rA0))) (rAndV (rNotV (rCB dIsi (rAC (oV (rVar 0)) (rAC (oV (rC (.ty "bool"))) rA0)))) (rBin dEq (oV (rVar 0)) (oV (rVar 1)))))))
abbrev RD_law_same (r : FSpec) (r_law_same : FSpec) : Prop := ∀ ds ED QD, ds.length = 2 → r ds ED QD → (rb_law_same r_law_same) (startD ["_law_found", "_law_due", "_law_k"] ds) (fun c fs ρ => ED c fs (ρ.take 2)) (finD 2 QD)
end Cm
namespace Cm
open PySem PySem.Spec PyProof.Rows L2 FL
set_option maxHeartbeats 0
/-- frozen lists and tuples of such and of ints, m deep at most -/
def okS : Nat → D → Bool
  | _, .int _ => true
  | m + 1, .tup false ds => decide (ds.length ≤ 1000000) && ds.all (okS m)
  | m + 1, .lst .ice ds => decide (ds.length ≤ 1000000) && ds.all (okS m)
  | _, _ => false
theorem okS_own {m : Nat} {d : D} (h : okS m d = true) : d.own = false := by
  cases d with
  | tup o ds => cases o <;> cases m <;> first | rfl | cases h
  | lst o ds => cases o <;> cases m <;> first | rfl | cases h
  | dct o t ks vs => cases m <;> cases h
  | ins o C fs vs => cases m <;> cases h
  | _ => rfl
def r_same (m : Nat) : FSpec := fun ds _ Q => ∃ d : D, ds = [d, d] ∧ okS m d = true ∧ ∀ os, Q (.bl true) os
theorem all_true {α : Type} (xs : List α) : (xs.map fun _ => true).all id = true := by
  induction xs with
  | nil => rfl
  | cons x xs ih => simpa using ih
theorem rd_same_int {r : FSpec} (i : Int) : ∀ (ED : EF) (QD : D → En → Prop), (∀ os, QD (.bl true) os) → (rb_law_same r) (startD ["_law_found", "_law_due", "_law_k"] [.int i, .int i]) (fun c fs ρ => ED c fs (ρ.take 2)) (finD 2 QD) := by
  intro ED QD q
  refine ⟨fun h => (nomatch h), fun _ => ⟨fun _ => ⟨fun _ => ?_, fun h => (nomatch h)⟩, fun h => (nomatch h)⟩⟩
  have : (false ^^ decide (i = i)) = true := by simp
  have qq : ∀ (b : Bool) os, b = true → QD (.bl b) os := fun b os e => e ▸ q os
  exact qq _ _ this
theorem rd_same_seq {m : Nat} (t : Bool) (xs : List D) (hz : xs.length ≤ 1000000) (ho : xs.all (okS m) = true) : ∀ (ED : EF) (QD : D → En → Prop), (∀ os, QD (.bl true) os) → (rb_law_same (r_same m)) (startD ["_law_found", "_law_due", "_law_k"] [match t with | true => .tup false xs | false => .lst .ice xs, match t with | true => .tup false xs | false => .lst .ice xs]) (fun c fs ρ => ED c fs (ρ.take 2)) (finD 2 QD) := by
  intro ED QD q
  have qq : ∀ (b : Bool) os, b = true → QD (.bl b) os := fun b os e => e ▸ q os
  cases t
  all_goals
    refine ⟨fun _ => ⟨rfl, rfl, by decide, fun h => absurd h (by decide), fun _ => ⟨rfl, rfl, by decide, fun h => absurd h (by decide), fun _ => ⟨fun _ => ?_, fun h => ?_⟩⟩⟩, fun h => (nomatch h)⟩
    · refine ⟨⟨by decide, by omega, by omega⟩, ⟨compR_allE (List.range ((xs.length : Int) - 0).toNat) _ (fun _ => .bl true) rfl (fun k hk => ⟨fun _ => ?_, fun h => (nomatch h)⟩) (fun _ => rfl) ?_⟩⟩
      · have hk : k < xs.length := by have := List.mem_range.mp hk; omega
        have ok := List.all_eq_true.mp ho _ (List.getElem_mem hk)
        have at1 : atI xs (0 + (k : Int)) = some xs[k] := by rw [Int.zero_add]; exact atI_nat (List.getElem?_eq_getElem hk)
        refine pick_of at1 (okS_own ok) (pick_of at1 (okS_own ok) ⟨xs[k], ?_, ok, fun _ => ⟨rfl, rfl⟩⟩)
        have fz := frz_id _ (okS_own ok)
        show [D.frz _, D.frz _] = _
        rw [fz]
      · refine ⟨(List.range ((xs.length : Int) - 0).toNat).map fun _ => true, by rw [List.map_map]; rfl, ?_⟩
        exact qq _ _ (all_true _)
    · simp at h
theorem rd_same (m : Nat) : RD_law_same (r_same (m + 1)) (r_same m) := by
  rintro ds ED QD - ⟨d, rfl, ok, q⟩
  cases d with
  | int i => exact rd_same_int i _ QD q
  | tup o xs =>
    cases o with
    | true => cases ok
    | false =>
      simp only [okS, Bool.and_eq_true, decide_eq_true_eq] at ok
      exact rd_same_seq true xs ok.1 ok.2 _ QD q
  | lst o xs =>
    cases o with
    | ice =>
      simp only [okS, Bool.and_eq_true, decide_eq_true_eq] at ok
      exact rd_same_seq false xs ok.1 ok.2 _ QD q
    | _ => cases ok
  | _ => cases ok
def r_law_same : FSpec := r_same 8
end Cm
namespace Cm
open PySem PySem.Spec PyProof.Rows L2 FL
set_option maxHeartbeats 0
/-- a scheme handed back -/
def schO (n m k : Int) (ps : List Pr) : D := .tup true [.int n, .int m, .int k, .lst .flat (ps.map prD)]
theorem Pr.mg.b4 {p : Pr} {B : Int} (h : p.mg B) (k : B.natAbs < 2 ^ 64 := by decide) : p.bts 10000 := by
  obtain ⟨h1, h2, h3⟩ := h.bts k
  exact ⟨h1.mono (by decide), h2.mono (by decide), h3.mono (by decide)⟩
def box3 (a b c : Nat) : List (List Int) := (List.range c).flatMap fun (k : Nat) => (List.range a).flatMap fun (i : Nat) => (List.range b).map fun (j : Nat) => [(k : Int), i, j]
theorem flatK {α β : Type} (f : α → List β) (c : Nat) (h : ∀ x, (f x).length = c) : ∀ l : List α, (l.flatMap f).length = l.length * c
  | [] => by simp
  | a :: l => by rw [List.flatMap_cons, List.length_append, flatK f c h l, h, List.length_cons, Nat.add_mul, Nat.one_mul, Nat.add_comm]
theorem box3_len (a b c : Nat) : (box3 a b c).length = c * (a * b) := by
  unfold box3
  rw [flatK _ (a * b) (fun k => by rw [flatK _ b (fun i => by rw [List.length_map, List.length_range]), List.length_range]), List.length_range]
end Cm
namespace Cm
open PySem PySem.Spec PyProof.Rows L2 FL
set_option maxHeartbeats 0
end Cm
namespace Cm
open PySem PySem.Spec PyProof.Rows L2 FL
end Cm
namespace Cm
open PySem PySem.Spec PyProof.Rows L2 FL
set_option maxHeartbeats 0
end Cm
namespace Cm
open PySem PySem.Spec PyProof.Rows L2 FL
set_option maxHeartbeats 0
end Cm
namespace Cm
open PySem PySem.Spec PyProof.Rows L2 FL
set_option maxHeartbeats 0
end Cm
namespace Cm
open PySem PySem.Spec PyProof.Rows L2 FL
set_option maxHeartbeats 0
def pairL (t : Cm.Tm) : List Int := [t.i, t.j]
def prs (ts : List Cm.Tm) : List (List Int) := ts.foldl (fun P t => addP P (pairL t)) []
end Cm
namespace Cm
open PySem PySem.Spec PyProof.Rows L2 FL
set_option maxHeartbeats 0
end Cm
namespace Cm
open PySem PySem.Spec PyProof.Rows L2 FL
set_option maxHeartbeats 0
instance : DecidableEq Cm.Tm := fun a b => decidable_of_iff (a.row = b.row) ⟨tm_row_inj, fun h => h ▸ rfl⟩
theorem tsum_canonT (ts : List Cm.Tm) (p : List Int) : tsum (canonT ts) p = tsum ts p := by
  have := Sg_canon ts fun q => if q = p then 1 else 0
  rw [tsum_Sg, tsum_Sg]
  refine Eq.trans (Sg_congr fun t _ => ?_) (this.trans (Sg_congr fun t _ => ?_))
  · by_cases h : t.pl = p <;> simp [h]
  · by_cases h : t.pl = p <;> simp [h]
end Cm
namespace Cm
open PySem PySem.Spec PyProof.Rows L2 FL
def rb_law_sums_2 : RS := (rSeq (rSet 1 (rDNew true))
  (rSeq (rFor (rItA (rBin dIx (oV (rVar 0)) (oV (rC (.int 3))))) (gTp 3 (gCs (gNm 2) (gCs (gNm 3) (gCs (gNm 4) gNl)))) (rFor (rRg1 (rAC (oV (rBin dIx (oV (rVar 0)) (oV (rC (.int 0))))) rA0)) (gNm 5) (rFor (rRg1 (rAC (oV (rBin dIx (oV (rVar 0)) (oV (rC (.int 1))))) rA0)) (gNm 6) (rFor (rRg1 (rAC (oV (rBin dIx (oV (rVar 0)) (oV (rC (.int 2))))) rA0)) (gNm 7) (rSetD 1 (oV (rTup (rAC (oV (rVar 7)) (rAC (oV (rVar 5)) (rAC (oV (rVar 6)) rA0))))) (rBin dAdd (oV (rGet2 (oN 1) (oV (rTup (rAC (oV (rVar 7)) (rAC (oV (rVar 5)) (rAC (oV (rVar 6)) rA0))))) (rC (.int 0)))) (oV (rBin dMulX (oV (rBin dMulX (oV (rBin dIx (oV (rVar 2)) (oV (rVar 5)))) (oV (rBin dIx (oV (rVar 3)) (oV (rVar 6)))))) (oV (rBin dIx (oV (rVar 4)) (oV (rVar 7))))))))))))
  (rRet (rCB (dDictP true) (rAC (oV (rCompD 1 (gNm 8) (rTst (rBin dNe (oV (rBin dIx (oN 1) (oV (rVar 8)))) (oV (rC (.int 0))))) (rTup (rAC (oV (rVar 8)) (rAC (oV (rBin dIx (oN 1) (oV (rVar 8)))) rA0))) [8])) rA0)))))
abbrev RD_law_sums_2 (r : FSpec) : Prop := ∀ ds ED QD, ds.length = 1 → r ds ED QD → rb_law_sums_2 (startD ["_law_scheme_here", "_law_found", "_law_l", "_law_r", "_law_o", "_law_i", "_law_j", "_law_k", "_law_place"] ds) (fun c fs ρ => ED c fs (ρ.take 1)) (finD 1 QD)
def rb_law_terms : RS := (rRet (rComp (rItA (rCB dSortD (rAC (oV (rVar 0)) rA0))) (gNm 1) rYes (rBin dAdd (oV (rVar 1)) (oV (rFrz (rTup (rAC (oV (rBin dIx (oV (rVar 0)) (oV (rVar 1)))) rA0))))) [1]))
abbrev RD_law_terms (r : FSpec) : Prop := ∀ ds ED QD, ds.length = 1 → r ds ED QD → rb_law_terms (startD ["_law_sums_here", "_law_place"] ds) (fun c fs ρ => ED c fs (ρ.take 1)) (finD 1 QD)
end Cm
namespace Cm
open PySem PySem.Spec PyProof.Rows L2 FL
set_option maxHeartbeats 0
def zi (xs : List Int) : List (Int × Nat) := xs.zipIdx
theorem zi_len (xs : List Int) : (zi xs).length = xs.length := by unfold zi; rw [List.length_zipIdx]
theorem zi_get {xs : List Int} {i : Nat} (h : i < xs.length) : (zi xs)[i]? = some (xs.getD i 0, i) := by
  unfold zi
  rw [List.getElem?_zipIdx, List.getElem?_eq_getElem h, List.getD_eq_getElem?_getD, List.getElem?_eq_getElem h]
  simp
theorem zi_mem {xs : List Int} {p : Int × Nat} (h : p ∈ zi xs) : p.2 < xs.length := by
  have := List.mem_zipIdx h
  omega
theorem zi_at (xs : List Int) (j : Nat) : (Sg (zi xs) fun a => if a.2 = j then a.1 else 0) = xs.getD j 0 := by
  rw [← wp_at xs j]
  unfold wp zi
  rw [Sg_filter]
  refine Sg_congr fun a _ => ?_
  by_cases h : a.1 = 0 <;> simp [h]
def fu3 (a b : Int × Nat) (o : List (Int × Nat)) : List Tm := o.map fun c => ⟨c.2, a.2, b.2, a.1 * b.1 * c.1⟩
def fu2 (a : Int × Nat) (p : Pr) (r : List (Int × Nat)) : List Tm := r.flatMap fun b => fu3 a b (zi p.o)
def fu1 (p : Pr) (l : List (Int × Nat)) : List Tm := l.flatMap fun a => fu2 a p (zi p.r)
def fuTs (ps : List Pr) : List Tm := ps.flatMap fun p => fu1 p (zi p.l)
theorem fu_mem {ps : List Pr} {t : Tm} (h : t ∈ fuTs ps) : ∃ p ∈ ps, ∃ i j k : Nat, i < p.l.length ∧ j < p.r.length ∧ k < p.o.length ∧ t.pl = [(k : Int), i, j] := by
  obtain ⟨p, hp, h⟩ := List.mem_flatMap.mp h
  obtain ⟨a, ha, h⟩ := List.mem_flatMap.mp h
  obtain ⟨b, hb, h⟩ := List.mem_flatMap.mp h
  obtain ⟨c, hc, rfl⟩ := List.mem_map.mp h
  exact ⟨p, hp, a.2, b.2, c.2, zi_mem ha, zi_mem hb, zi_mem hc, rfl⟩
theorem fu_nat (ps : List Pr) : NatPl (fuTs ps) := fun t ht => by
  obtain ⟨p, _, i, j, k, _, _, _, e⟩ := fu_mem ht
  exact ⟨k, i, j, e⟩
theorem tel_fu (ps : List Pr) (k i j : Nat) : tsum (fuTs ps) [(k : Int), i, j] = tel ps k i j := by
  rw [tsum_Sg]
  unfold fuTs tel Pr.one
  rw [Sg_flatMap]
  refine Sg_congr fun p _ => ?_
  unfold fu1
  rw [Sg_flatMap, ← zi_at p.o k, ← zi_at p.l i, ← zi_at p.r j]
  rw [Sg_mulR (Sg (zi p.r) fun a => if a.2 = j then a.1 else 0) (zi p.l), Sg_mul (Sg (zi p.o) fun a => if a.2 = k then a.1 else 0) (zi p.l)]
  refine Sg_congr fun a _ => ?_
  unfold fu2
  rw [Sg_flatMap, Sg_mul (if a.2 = i then a.1 else 0) (zi p.r), Sg_mul (Sg (zi p.o) fun a => if a.2 = k then a.1 else 0) (zi p.r)]
  refine Sg_congr fun b _ => ?_
  unfold fu3
  rw [Sg_map, Sg_mulR _ (zi p.o)]
  refine Sg_congr fun c _ => ?_
  show (if [(c.2 : Int), (a.2 : Int), (b.2 : Int)] = [(k : Int), i, j] then a.1 * b.1 * c.1 else 0) = _
  by_cases h1 : c.2 = k
  · by_cases h2 : a.2 = i
    · by_cases h3 : b.2 = j
      · rw [if_pos ((pl_eq _ _ _ _ _ _).mpr ⟨h1, h2, h3⟩), if_pos h1, if_pos h2, if_pos h3]
        rw [Int.mul_comm]
      · rw [if_neg fun h => h3 ((pl_eq _ _ _ _ _ _).mp h).2.2, if_neg h3]; simp
    · rw [if_neg fun h => h2 ((pl_eq _ _ _ _ _ _).mp h).2.1, if_neg h2]; simp
  · rw [if_neg fun h => h1 ((pl_eq _ _ _ _ _ _).mp h).1, if_neg h1]; simp
theorem fu_by (ps : List Pr) (p : List Int) : tsum (fuTs ps) p = tsum (byTs ps) p := tsum_ext (fu_nat ps) (by_nat ps) (fun k i j => by rw [tel_fu, tel_by]) p
theorem fu_box {ps : List Pr} {a b c : Nat} (h : ∀ p ∈ ps, p.sz a b c) : ∀ t ∈ fuTs ps, t.pl ∈ box3 a b c := fun t ht => by
  obtain ⟨p, hp, i, j, k, h1, h2, h3, e⟩ := fu_mem ht
  rw [e]
  obtain ⟨s1, s2, s3⟩ := h p hp
  exact List.mem_flatMap.mpr ⟨k, List.mem_range.mpr (by omega), List.mem_flatMap.mpr ⟨i, List.mem_range.mpr (by omega), List.mem_map.mpr ⟨j, List.mem_range.mpr (by omega), rfl⟩⟩⟩
theorem rg0_len (k : Nat) : (rgD 0 (k : Int)).length = k := by unfold rgD; simp
def r_law_sums_2 : FSpec := fun ds _ Q => ∃ (a b c : Nat) (ps : List Pr), ds = [schD a b c ps] ∧ (∀ p ∈ ps, p.sz a b c) ∧ (∀ p ∈ ps, p.bts 10000) ∧ c * (a * b) ≤ 1000000 ∧ (a ≤ 1000000 ∧ b ≤ 1000000 ∧ c ≤ 1000000) ∧ ∀ os, Q (sumD (fuTs ps)) os
theorem rd_law_sums_2 : RD_law_sums_2 r_law_sums_2 := by
  rintro ds ED QD - ⟨n, m, k, ps, rfl, sz, hb, hz, ⟨n1, m1, k1⟩, q⟩
  have hL := fu_box sz
  have lL : (box3 n m k).length ≤ 1000000 := by rw [box3_len]; exact hz
  generalize box3 n m k = L at hL lL
  show rb_law_sums_2 [some (schD n m k ps), none, none, none, none, none, none, none, none] _ _
  refine ⟨forR_on [1, 8] [2, 3, 4, 5, 6, 7] (fun i s => s = [some (tsD (fuTs (ps.take i))), none]) _ _ rfl ?_ ?_⟩
  · rintro i x s j hx hj rfl
    obtain ⟨e2, e3, e4, e5, e6, e7, rfl⟩ := len6 hj
    rw [List.getElem?_map] at hx
    obtain ⟨p, hp, rfl⟩ := Option.map_eq_some_iff.mp hx
    have hm := List.mem_of_getElem? hp
    have hbp := hb p hm
    obtain ⟨s1, s2, s3⟩ := sz p hm
    have t1 : fuTs (ps.take (i + 1)) = fuTs (ps.take i) ++ fu1 p (zi p.l) := flat_take (fun p => fu1 p (zi p.l)) hp
    refine ⟨rfl, ⟨by omega, by omega⟩, ⟨forR_on [1, 8] [5, 6, 7] (fun i1 s => s = [some (tsD (fuTs (ps.take i) ++ fu1 p ((zi p.l).take i1))), none]) _ _ (by rw [List.take_zero]; simp [fu1]; rfl) ?_ ?_⟩⟩
    · rintro i1 x s j hx hj rfl
      obtain ⟨e5, e6, e7, rfl⟩ := len3 hj
      obtain ⟨rfl, h1⟩ := rgD_at hx
      have h1 : i1 < p.l.length := by omega
      have ha := zi_get h1
      have t2 : fu1 p ((zi p.l).take (i1 + 1)) = fu1 p ((zi p.l).take i1) ++ fu2 (p.l.getD i1 0, i1) p (zi p.r) := flat_take (fun a => fu2 a p (zi p.r)) ha
      have pa : atI (p.l.map D.int) ((0 : Int) + i1) = some (.int (p.l.getD i1 0)) := by rw [Int.zero_add]; exact atI_nat (by rw [List.getElem?_map, List.getElem?_eq_getElem h1, List.getD_eq_getElem?_getD, List.getElem?_eq_getElem h1]; rfl)
      refine ⟨⟨by omega, by omega⟩, ⟨forR_on [1, 8] [6, 7] (fun i2 s => s = [some (tsD (fuTs (ps.take i) ++ fu1 p ((zi p.l).take i1) ++ fu2 (p.l.getD i1 0, i1) p ((zi p.r).take i2))), none]) _ _ (by rw [List.take_zero]; simp [fu2]; rfl) ?_ ?_⟩⟩
      · rintro i2 x s j hx hj rfl
        obtain ⟨e6, e7, rfl⟩ := len2 hj
        obtain ⟨rfl, h2⟩ := rgD_at hx
        have h2 : i2 < p.r.length := by omega
        have hb' := zi_get h2
        have t3 : fu2 (p.l.getD i1 0, i1) p ((zi p.r).take (i2 + 1)) = fu2 (p.l.getD i1 0, i1) p ((zi p.r).take i2) ++ fu3 (p.l.getD i1 0, i1) (p.r.getD i2 0, i2) (zi p.o) := flat_take (fun b => fu3 (p.l.getD i1 0, i1) b (zi p.o)) hb'
        have pb : atI (p.r.map D.int) ((0 : Int) + i2) = some (.int (p.r.getD i2 0)) := by rw [Int.zero_add]; exact atI_nat (by rw [List.getElem?_map, List.getElem?_eq_getElem h2, List.getD_eq_getElem?_getD, List.getElem?_eq_getElem h2]; rfl)
        refine ⟨⟨by omega, by omega⟩, ⟨forR_on [1, 8] [7] (fun i3 s => s = [some (tsD (fuTs (ps.take i) ++ fu1 p ((zi p.l).take i1) ++ fu2 (p.l.getD i1 0, i1) p ((zi p.r).take i2) ++ (fu3 (p.l.getD i1 0, i1) (p.r.getD i2 0, i2) (zi p.o)).take i3)), none]) _ _ (by rw [List.take_zero, List.append_nil]; rfl) ?_ ?_⟩⟩
        · rintro i3 x s j hx hj rfl
          obtain ⟨e7, rfl⟩ := len1 hj
          obtain ⟨rfl, h3⟩ := rgD_at hx
          have h3 : i3 < p.o.length := by omega
          have hc := zi_get h3
          have pc : atI (p.o.map D.int) ((0 : Int) + i3) = some (.int (p.o.getD i3 0)) := by rw [Int.zero_add]; exact atI_nat (by rw [List.getElem?_map, List.getElem?_eq_getElem h3, List.getD_eq_getElem?_getD, List.getElem?_eq_getElem h3]; rfl)
          have ba := hbp.l.getD i1
          have bb := hbp.r.getD i2
          have bc := hbp.o.getD i3
          rw [Int.zero_add] at pa pb pc ⊢
          rw [Int.zero_add, Int.zero_add] at ⊢
          have hm' : ∀ x ∈ fuTs (ps.take i) ++ fu1 p ((zi p.l).take i1) ++ fu2 (p.l.getD i1 0, i1) p ((zi p.r).take i2) ++ (fu3 (p.l.getD i1 0, i1) (p.r.getD i2 0, i2) (zi p.o)).take i3, x.pl ∈ L := fun x hx => hL x (by
            have u3 : ∀ x ∈ fu3 (p.l.getD i1 0, i1) (p.r.getD i2 0, i2) (zi p.o), x ∈ fu2 (p.l.getD i1 0, i1) p (zi p.r) := fun x hx => List.mem_flatMap.mpr ⟨_, List.mem_of_getElem? hb', hx⟩
            have u2 : ∀ x ∈ fu2 (p.l.getD i1 0, i1) p (zi p.r), x ∈ fu1 p (zi p.l) := fun x hx => List.mem_flatMap.mpr ⟨_, List.mem_of_getElem? ha, hx⟩
            have u1 : ∀ x ∈ fu1 p (zi p.l), x ∈ fuTs ps := fun x hx => List.mem_flatMap.mpr ⟨p, hm, hx⟩
            rcases List.mem_append.mp hx with hx | hx
            · rcases List.mem_append.mp hx with hx | hx
              · rcases List.mem_append.mp hx with hx | hx
                · exact flat_sub _ _ _ hx
                · exact u1 x (flat_sub _ _ _ hx)
              · exact u1 x (u2 x (flat_sub _ _ _ hx))
            · exact u1 x (u2 x (u3 x (List.mem_of_mem_take hx))))
          generalize fuTs (ps.take i) ++ fu1 p ((zi p.l).take i1) ++ fu2 (p.l.getD i1 0, i1) p ((zi p.r).take i2) = V at hm' ⊢
          have g3 : (fu3 (p.l.getD i1 0, i1) (p.r.getD i2 0, i2) (zi p.o))[i3]? = some ⟨i3, i1, i2, p.l.getD i1 0 * p.r.getD i2 0 * p.o.getD i3 0⟩ := by unfold fu3; rw [List.getElem?_map, hc]; rfl
          have t4 : (fu3 (p.l.getD i1 0, i1) (p.r.getD i2 0, i2) (zi p.o)).take (i3 + 1) = (fu3 (p.l.getD i1 0, i1) (p.r.getD i2 0, i2) (zi p.o)).take i3 ++ [⟨i3, i1, i2, p.l.getD i1 0 * p.r.getD i2 0 * p.o.getD i3 0⟩] := by rw [List.take_succ, g3]; rfl
          rw [t4]
          generalize (fu3 (p.l.getD i1 0, i1) (p.r.getD i2 0, i2) (zi p.o)).take i3 = Y at hm' ⊢
          have lk := ts_look (V ++ Y) [(i3 : Int), i1, i2]
          have pt := ts_put (V ++ Y) ⟨i3, i1, i2, p.l.getD i1 0 * p.r.getD i2 0 * p.o.getD i3 0⟩
          have lp := pls_in hm'
          refine ⟨rfl, row_keyOk [(i3 : Int), i1, i2], rfl, pickOr_of lk rfl (pick_of pa rfl (pick_of pb rfl ⟨ba.ok bb, pick_of pc rfl ⟨(ba.mul bb).ok bc, ?_⟩⟩))⟩
          refine ⟨row_keyOk [(i3 : Int), i1, i2], by rw [List.length_map, sizeLine_eq]; omega, rfl, ?_⟩
          rw [← List.append_assoc]
          exact congrArg (fun d => [some d, none]) pt
        · rintro s j hj rfl
          obtain ⟨e7, rfl⟩ := len1 hj
          refine ⟨rfl, ?_⟩
          rw [rg0_len, ← s3, show p.o.length = (fu3 (p.l.getD i1 0, i1) (p.r.getD i2 0, i2) (zi p.o)).length by unfold fu3; rw [List.length_map, zi_len], List.take_length, t3, ← List.append_assoc]; rfl
      · rintro s j hj rfl
        obtain ⟨e6, e7, rfl⟩ := len2 hj
        refine ⟨rfl, ?_⟩
        rw [rg0_len, ← s2, ← zi_len p.r, List.take_length, t2, ← List.append_assoc]; rfl
    · rintro s j hj rfl
      obtain ⟨e5, e6, e7, rfl⟩ := len3 hj
      refine ⟨rfl, ?_⟩
      rw [rg0_len, ← s1, ← zi_len p.l, List.take_length, t1]; rfl
  · rintro s j hj rfl
    obtain ⟨e2, e3, e4, e5, e6, e7, rfl⟩ := len6 hj
    rw [List.length_map, List.take_length]
    have hl := pls_in hL
    generalize fuTs ps = U at hl q
    refine ⟨own_map fun _ => rfl, fun k hk => ?_, by rw [List.length_map, sizeLine_eq]; omega, ⟨compR_if (pls U) rowD (fun p => decide (tsum U p ≠ 0)) (fun p => .tup false [rowD p, .int (tsum U p)]) rfl (fun p hp => ?_) (fun _ => rfl) ?_⟩⟩
    · obtain ⟨p, hp, rfl⟩ := List.mem_map.mp hk
      show (p.map D.int).length ≤ 1000
      rw [List.length_map, pls_three hp]; decide
    · have lk : dLook true ((pls U).map rowD) ((pls U).map fun p => .int (tsum U p)) (rowD p) = some (.int (tsum U p)) := by rw [look_rows, if_pos hp]
      refine ⟨row_keyOk p, pick_of lk rfl ⟨fun h => ?_, fun h => ?_⟩⟩
      · have hne : tsum U p ≠ 0 := by simpa using h
        refine ⟨row_keyOk p, pick_of lk rfl ⟨?_, rfl⟩⟩
        rw [if_pos (decide_eq_true hne)]; rfl
      · have he : tsum U p = 0 := by simpa using h
        refine ⟨?_, rfl⟩
        rw [if_neg (by simpa using he)]
    · refine ⟨rfl, (nz U).map fun p => (rowD p, D.int (tsum U p)), by rw [List.map_map]; rfl, fun p hp => ?_, ?_⟩
      · obtain ⟨x, _, rfl⟩ := List.mem_map.mp hp
        exact row_keyOk x
      · have e := mkS_rows (fun p => D.int (tsum U p)) (nz U) [] [] (by rw [List.nil_append]; exact (pls_nodup U).filter _)
        rw [List.nil_append, List.nil_append] at e
        have q := q
        unfold sumD at q
        rw [show (nz U).map rowD = (mkS true ([] : List D) ([] : List D) ((nz U).map fun p => (rowD p, D.int (tsum U p)))).1 from (congrArg Prod.fst e).symm, show ((nz U).map fun p => D.int (tsum U p)) = (mkS true ([] : List D) ([] : List D) ((nz U).map fun p => (rowD p, D.int (tsum U p)))).2 from (congrArg Prod.snd e).symm] at q
        exact q _
theorem canonT_of {P : List (List Int)} {T : List Tm} (nd : P.Nodup) (h : ∀ p, p ∈ P ↔ tsum T p ≠ 0) : (P.mergeSort leR).map (fun p => tmD (tmOf p (tsum T p))) = (canonT T).map tmD := by
  unfold canonT
  rw [fm_if, List.map_map]
  have e : P.mergeSort leR = ((pls T).mergeSort leR).filter fun p => decide (tsum T p ≠ 0) := by
    refine rows_uniq ((List.mergeSort_perm _ _).trans ((List.perm_ext_iff_of_nodup nd (((List.mergeSort_perm _ _).nodup_iff.mpr (pls_nodup T)).filter _)).mpr fun p => ?_)) (sorted_rows _) ((sorted_rows _).filter _)
    rw [h, List.mem_filter, List.mem_mergeSort]
    refine ⟨fun z => ⟨Classical.byContradiction fun y => z (tsum_out y), by simpa using z⟩, fun z => by simpa using z.2⟩
  rw [e]; rfl
theorem nz3 {T : List Tm} {p : List Int} (h : tsum T p ≠ 0) : p.length = 2 + 1 := pls_three (ts := T) (Classical.byContradiction fun y => h (tsum_out y))
theorem tm_app {p : List Int} {c : Int} (h : p.length = 2 + 1) : D.tup false (p.map D.int ++ [D.int c]) = tmD (tmOf p c) := by
  unfold tmD
  rw [(tmOf_pl h).2]
  unfold rowD
  rw [List.map_append]; rfl
def sumI (T : List Tm) : D := .dct .ice true ((nz T).map rowD) ((nz T).map fun p => .int (tsum T p))
def r_law_terms : FSpec := fun ds _ Q => ∃ T : List Tm, ds = [sumI T] ∧ (nz T).length ≤ 1000000 ∧ ∀ os, Q (.lst .flat ((canonT T).map tmD)) os
theorem rd_law_terms : RD_law_terms r_law_terms := by
  rintro ds ED QD - ⟨T, rfl, hnz, q⟩
  refine ⟨rfl, own_map fun _ => rfl, fun k hk => ?_, by rw [List.length_map, sizeLine_eq]; omega, sortOk_rows 2 (fun r hr => nz3 ((nz_mem T r).mp hr)), ?_⟩
  · obtain ⟨p, hp, rfl⟩ := List.mem_map.mp hk
    show (p.map D.int).length ≤ 1000
    rw [List.length_map, nz3 ((nz_mem T p).mp hp)]; decide
  rw [sort_rows]
  refine ⟨compR_allE ((nz T).mergeSort leR) rowD (fun p => tmD (tmOf p (tsum T p))) rfl (fun p hp => ?_) (fun _ => rfl) ?_⟩
  · have hp := List.mem_mergeSort.mp hp
    have lp := nz3 ((nz_mem T p).mp hp)
    have lk : dLook true ((nz T).map rowD) ((nz T).map fun p => D.int (tsum T p)) (rowD p) = some (.int (tsum T p)) := by
      rw [look_rows, if_pos hp]
    refine ⟨fun _ => ⟨row_keyOk p, pick_of lk rfl ⟨?_, ?_, rfl⟩⟩, fun h => (nomatch h)⟩
    · rw [List.length_map, lp]; show (3 + 1 : Nat) ≤ sizeLine; decide
    · exact congrArg some (tm_app lp)
  · rw [canonT_of (nz_nodup T) (nz_mem T)]
    exact q _
end Cm
namespace Cm
open PySem PySem.Spec PyProof.Rows L2 FL
def rb_law_number_2 (r_law_take : FSpec) : RS := (rRet (rBin dIx (oV (rLst (rAC (oV (rC (.int 0))) (rAC (oV (rC (.int 0))) (rAC (oV (rC (.int 1))) (rAC (oV (rC (.int 1))) (rAC (oV (rC (.int 1))) (rAC (oV (rC (.int (-1)))) (rAC (oV (rC (.int (-1)))) (rAC (oV (rC (.int 2))) (rAC (oV (rC (.int 0))) rA0))))))))))) (oV (rCall [0] r_law_take (rAC (oN 0) (rAC (oV (rC (.int 9))) rA0))))))
abbrev RD_law_number_2 (r : FSpec) (r_law_take : FSpec) : Prop := ∀ ds ED QD, ds.length = 1 → r ds ED QD → (rb_law_number_2 r_law_take) (startD ["_law_box_here"] ds) (fun c fs ρ => ED c fs (ρ.take 1)) (finD 1 QD)
def rb_law_part_2 (r_law_number_2 : FSpec) : RS := (rRet (rCB dTuple (rAC (oV (rComp (rRg1 (rAC (oV (rVar 1)) rA0)) (gNm 2) rYes (rCall [0] r_law_number_2 (rAC (oN 0) rA0)) [2])) rA0)))
abbrev RD_law_part_2 (r : FSpec) (r_law_number_2 : FSpec) : Prop := ∀ ds ED QD, ds.length = 2 → r ds ED QD → (rb_law_part_2 r_law_number_2) (startD ["_law_box_here", "_law_length", "_law_k"] ds) (fun c fs ρ => ED c fs (ρ.take 2)) (finD 2 QD)
def rb_law_scheme_2 (r_law_take : FSpec) (r_law_part_2 : FSpec) : RS := (rSeq (rSet 3 (rLst rA0))
  (rSeq (rFor (rRg1 (rAC (oV (rVar 2)) rA0)) (gNm 4) (rSeq (rSet 5 (rComp (rItA (rVar 1)) (gNm 8) rYes (rCall [0] r_law_part_2 (rAC (oN 0) (rAC (oV (rVar 8)) rA0))) [8]))
  (rSeq (rSetF 6 (rCall [0] r_law_take (rAC (oN 0) (rAC (oV (rC (.int 8))) rA0))))
  (rSeq (rCut (rIf (rAnd (rTst (rBin dLt (oV (rVar 6)) (oV (rC (.int 3))))) (rTst (rBin dNe (oN 3) (oV (rLst rA0))))) (rSetL 5 (oV (rVar 6)) (rBin dIx (oV (rBin dIx (oN 3) (oV (rCall [0] r_law_take (rAC (oN 0) (rAC (oV (rCB dLen (rAC (oN 3) rA0))) rA0)))))) (oV (rVar 6)))) rNx))
  (rSeq (rCut (rIf (rTst (rBin dEq (oV (rVar 6)) (oV (rC (.int 3))))) (rSeq (rSetF 7 (rCall [0] r_law_take (rAC (oN 0) (rAC (oV (rC (.int 3))) rA0))))
  (rSetL 5 (oV (rVar 7)) (rBin dMulX (oV (rTup (rAC (oV (rC (.int 0))) rA0))) (oV (rBin dIx (oV (rVar 1)) (oV (rVar 7))))))) rNx))
  (rDrop (rApp 3 (rCB dTuple (rAC (oN 5) rA0)))))))))
  (rRet (rBin dAdd (oV (rCB dTuple (rAC (oV (rVar 1)) rA0))) (oV (rFrz (rTup (rAC (oV (rIce 3)) rA0))))))))
abbrev RD_law_scheme_2 (r : FSpec) (r_law_take : FSpec) (r_law_part_2 : FSpec) : Prop := ∀ ds ED QD, ds.length = 3 → r ds ED QD → (rb_law_scheme_2 r_law_take r_law_part_2) (startD ["_law_box_here", "_law_lengths", "_law_count", "_law_products", "_law_k", "_law_product", "_law_way", "_law_side", "_law_length"] ds) (fun c fs ρ => ED c fs (ρ.take 3)) (finD 3 QD)
end Cm
namespace Cm
open PySem PySem.Spec PyProof.Rows L2 FL
set_option maxHeartbeats 0
def gdD (o : Ow) (P : List (List Int)) (g : List Int → Int) : D := .dct o true (P.map rowD) (P.map fun p => .int (g p))
def gdT (P : List (List Int)) (g : List Int → Int) : List Tm := P.map fun p => tmOf p (g p)
/-- a place of these lengths -/
structure Pt3 (a b c : Nat) (p : List Int) : Prop where
  ex : ∃ k i j : Nat, k < c ∧ i < a ∧ j < b ∧ p = [(k : Int), i, j]
structure Sdt (a b c : Nat) (B : Int) (P : List (List Int)) (g : List Int → Int) : Prop where
  nd : P.Nodup
  pt : ∀ p ∈ P, Pt3 a b c p
  nz : ∀ p ∈ P, g p ≠ 0
  bd : ∀ p ∈ P, -B ≤ g p ∧ g p ≤ B
theorem Pt3.len {a b c : Nat} {p : List Int} (h : Pt3 a b c p) : p.length = 3 := by
  obtain ⟨k, i, j, _, _, _, rfl⟩ := h.ex
  rfl
theorem Pt3.box {a b c : Nat} {p : List Int} (h : Pt3 a b c p) : p ∈ box3 a b c := by
  obtain ⟨k, i, j, h1, h2, h3, rfl⟩ := h.ex
  exact List.mem_flatMap.mpr ⟨k, List.mem_range.mpr h1, List.mem_flatMap.mpr ⟨i, List.mem_range.mpr h2, List.mem_map.mpr ⟨j, List.mem_range.mpr h3, rfl⟩⟩⟩
theorem pt3_len {a b c : Nat} {P : List (List Int)} (nd : P.Nodup) (pt : ∀ p ∈ P, Pt3 a b c p) (ha : a ≤ 7) (hb : b ≤ 7) (hc : c ≤ 7) : P.length ≤ 343 := by
  have h1 := nodup_len nd fun p hp => (pt p hp).box
  rw [box3_len] at h1
  have h2 : c * (a * b) ≤ 7 * (7 * 7) := Nat.mul_le_mul hc (Nat.mul_le_mul ha hb)
  omega
section
variable {a b c : Nat} {B : Int} {P : List (List Int)} {g : List Int → Int}
theorem gdT_pl (h : ∀ p ∈ P, p.length = 3) : (gdT P g).map Tm.pl = P := by
  unfold gdT
  rw [List.map_map]
  conv => rhs; rw [← List.map_id P]
  exact List.map_congr_left fun p hp => (tmOf_pl (h p hp)).1
theorem gdT_in (nd : P.Nodup) (h : ∀ p ∈ P, p.length = 3) {p : List Int} (hp : p ∈ P) : tsum (gdT P g) p = g p := by
  have e := (tmOf_pl (c := g p) (h p hp)).1
  have := tsum_distinct (ts := gdT P g) (by rw [gdT_pl h]; exact nd) (t := tmOf p (g p)) (List.mem_map.mpr ⟨p, hp, rfl⟩)
  rw [e] at this
  exact this
theorem gdT_out (h : ∀ p ∈ P, p.length = 3) (nd : P.Nodup) {p : List Int} (hp : p ∉ P) : tsum (gdT P g) p = 0 := tsum_out (by rw [pls_distinct (by rw [gdT_pl h]; exact nd), gdT_pl h]; exact hp)
theorem gdT_nz (nd : P.Nodup) (h : ∀ p ∈ P, p.length = 3) (z : ∀ p ∈ P, g p ≠ 0) : nz (gdT P g) = P := by
  unfold nz
  rw [pls_distinct (by rw [gdT_pl h]; exact nd), gdT_pl h]
  exact List.filter_eq_self.mpr fun p hp => by rw [gdT_in nd h hp]; exact decide_eq_true (z p hp)
theorem Sdt.sumI (h : Sdt a b c B P g) : sumI (gdT P g) = gdD .ice P g := by
  unfold Cm.sumI gdD
  rw [gdT_nz h.nd (fun p hp => (h.pt p hp).len) h.nz]
  congr 1
  exact List.map_congr_left fun p hp => by rw [gdT_in h.nd (fun p hp => (h.pt p hp).len) hp]
theorem Sdt.fits (h : Sdt a b c B P g) (hB : B < 2 ^ 64) : ∀ t ∈ canonT (gdT P g), t.fits c a b := fun t ht => by
  obtain ⟨⟨u, hu, e1⟩, e2, _⟩ := canonT_mem ht
  obtain ⟨p, hp, rfl⟩ := List.mem_map.mp hu
  have e3 := (tmOf_pl (c := g p) (h.pt p hp).len).1
  rw [e3] at e1
  obtain ⟨k, i, j, h1, h2, h3, e4⟩ := (h.pt p hp).ex
  rw [e1, gdT_in h.nd (fun p hp => (h.pt p hp).len) hp] at e2
  have hb := h.bd p hp
  rw [e4] at e1
  have e5 : t.k = k ∧ t.i = i ∧ t.j = j := by
    have : [t.k, t.i, t.j] = [(k : Int), i, j] := e1
    simpa using this
  exact ⟨by omega, by omega, by omega, by omega, by omega, by omega, by omega, by omega⟩
end
/-- a scheme of these lengths, of numbers not great, of few products -/
structure Sck (a b c : Nat) (ps : List Pr) : Prop where
  sz : ∀ p ∈ ps, p.sz a b c
  bt : ∀ p ∈ ps, p.bts 10
  ln : ps.length ≤ 7
  a1 : 1 ≤ a ∧ a ≤ 7
  b1 : 1 ≤ b ∧ b ≤ 7
  c1 : 1 ≤ c ∧ c ≤ 7
section
variable {a b c : Nat} {ps : List Pr}
theorem Sck.b4 (h : Sck a b c ps) : ∀ p ∈ ps, p.bts 10000 := fun p hp => ⟨(h.bt p hp).l.mono (by decide), (h.bt p hp).r.mono (by decide), (h.bt p hp).o.mono (by decide)⟩
theorem Sck.fit (h : Sck a b c ps) : ∀ p ∈ ps, p.fit a b c := fun p hp => ⟨(h.sz p hp).l, (h.sz p hp).r, (h.sz p hp).o, (h.b4 p hp).l, (h.b4 p hp).r, (h.b4 p hp).o⟩
theorem Sck.byl (h : Sck a b c ps) : (byTs ps).length ≤ 7 * (7 * (7 * 7)) := Nat.le_trans (by_len h.sz) (Nat.mul_le_mul h.ln (Nat.mul_le_mul h.a1.2 (Nat.mul_le_mul h.b1.2 h.c1.2)))
theorem Sck.box (h : Sck a b c ps) : c * (a * b) ≤ 7 * (7 * 7) := Nat.mul_le_mul h.c1.2 (Nat.mul_le_mul h.a1.2 h.b1.2)
theorem Sck.inb (h : Sck a b c ps) : ∀ t ∈ byTs ps, t.inB c a b (2 ^ 30) := fun t ht => by
  obtain ⟨p, hp, i, j, k, h1, h2, h3, rfl⟩ := by_mem ht
  have s := h.sz p hp
  have g := h.bt p hp
  rw [s.l] at h1
  rw [s.r] at h2
  rw [s.o] at h3
  have ab : ∀ {xs : List Int}, Bts 10 xs → ∀ i, (xs.getD i 0).natAbs ≤ 1024 := fun {xs} h i => by
    have := h.getD i
    unfold Bt at this
    omega
  have e : (p.l.getD i 0 * p.r.getD j 0 * p.o.getD k 0).natAbs ≤ 1024 * 1024 * 1024 := by
    rw [Int.natAbs_mul, Int.natAbs_mul]
    exact Nat.mul_le_mul (Nat.mul_le_mul (ab g.l i) (ab g.r j)) (ab g.o k)
  exact ⟨by show (0 : Int) ≤ k; omega, by show (k : Int) < c; omega, by show (0 : Int) ≤ i; omega, by show (i : Int) < a; omega, by show (0 : Int) ≤ j; omega, by show (j : Int) < b; omega, by show -(2 ^ 30) ≤ p.l.getD i 0 * p.r.getD j 0 * p.o.getD k 0; omega, by show p.l.getD i 0 * p.r.getD j 0 * p.o.getD k 0 ≤ 2 ^ 30; omega⟩
/-- what the scheme does, as sums -/
theorem Sck.sd (h : Sck a b c ps) : Sdt a b c (2 ^ 42) (nz (fuTs ps)) (tsum (fuTs ps)) where
  nd := nz_nodup _
  pt := fun p hp => by
    have hp : p ∈ pls (fuTs ps) := (List.mem_filter.mp hp).1
    obtain ⟨t, ht, rfl⟩ := (mem_pls _ _).mp hp
    obtain ⟨p, hp, i, j, k, h1, h2, h3, e⟩ := fu_mem ht
    have s := h.sz p hp
    rw [s.l] at h1
    rw [s.r] at h2
    rw [s.o] at h3
    exact ⟨⟨k, i, j, h3, h1, h2, e⟩⟩
  nz := fun p hp => (nz_mem _ _).mp hp
  bd := fun p hp => by
    have hz := (nz_mem _ _).mp hp
    rw [fu_by] at hz ⊢
    have hp' : p ∈ pls (byTs ps) := Classical.byContradiction fun y => hz (tsum_out y)
    have l3 := pls_three hp'
    have hm : tmOf p (tsum (byTs ps) p) ∈ canonT (byTs ps) := List.mem_filterMap.mpr ⟨p, List.mem_mergeSort.mpr hp', by rw [if_pos hz]⟩
    have := canonT_in (by decide) h.inb _ hm
    have l := h.byl
    have e : (((byTs ps).length : Int) * 2 ^ 30) ≤ 2 ^ 42 := by omega
    have c0 : -(((byTs ps).length : Int) * 2 ^ 30) ≤ tsum (byTs ps) p := this.c0
    have c1 : tsum (byTs ps) p ≤ ((byTs ps).length : Int) * 2 ^ 30 := this.c1
    omega
theorem Sck.own (h : Sck a b c ps) (p : List Int) : tsum (gdT (nz (fuTs ps)) (tsum (fuTs ps))) p = tsum (byTs ps) p := by
  have S := h.sd
  by_cases hp : p ∈ nz (fuTs ps)
  · rw [gdT_in S.nd (fun p hp => (S.pt p hp).len) hp, fu_by]
  · rw [gdT_out (fun p hp => (S.pt p hp).len) S.nd hp, ← fu_by]
    exact (Classical.byContradiction fun z => hp ((nz_mem _ _).mpr (Ne.symm z)))
end
end Cm
namespace Cm
open PySem PySem.Spec PyProof.Rows L2 FL
set_option maxHeartbeats 0
abbrev r_law_number_2 : FSpec := r_law_number
theorem rd_law_number_2 : RD_law_number_2 r_law_number_2 r_law_take := by
  rintro ds ED QD - ⟨b, rfl, q⟩
  refine ⟨b, 9, rfl, by decide, fun v b0 _ v0 v1 => ?_⟩
  refine pick_at (f := D.int) (xs := [0, 0, 1, 1, 1, -1, -1, 2, 0]) v0 v1 (fun _ => rfl) fun d hd => ?_
  have hd : -1 ≤ d ∧ d ≤ 2 := by
    have := List.mem_of_getElem? hd
    simp at this
    omega
  exact q d b0 _ (by omega) (by omega)
abbrev r_law_part_2 : FSpec := r_law_part
theorem rd_law_part_2 : RD_law_part_2 r_law_part_2 r_law_number_2 := rd_law_part
abbrev r_law_scheme_2 : FSpec := r_law_scheme
theorem rd_law_scheme_2 : RD_law_scheme_2 r_law_scheme_2 r_law_take r_law_part_2 := rd_law_scheme
theorem canonT_nd (us : List Tm) : ((canonT us).map Tm.pl).Nodup := by
  unfold canonT
  rw [fm_if, List.map_map]
  have e : (((pls us).mergeSort leR).filter (fun p => decide (tsum us p ≠ 0))).map (Tm.pl ∘ fun p => tmOf p (tsum us p)) = ((pls us).mergeSort leR).filter (fun p => decide (tsum us p ≠ 0)) := by
    conv => rhs; rw [← List.map_id (((pls us).mergeSort leR).filter (fun p => decide (tsum us p ≠ 0)))]
    refine List.map_congr_left fun p hp => ?_
    have hp := List.mem_mergeSort.mp (List.mem_filter.mp hp).1
    exact (tmOf_pl (pls_three hp)).1
  rw [e]
  exact ((List.mergeSort_perm _ _).nodup_iff.mpr (pls_nodup us)).filter _
end Cm
namespace Cm
open PySem PySem.Spec PyProof.Rows L2 FL
set_option maxHeartbeats 0
section
variable {κ β : Type} [DecidableEq κ]
def lkA : List (κ × β) → κ → Option β
  | [], _ => none
  | (a, b) :: r, k => if a = k then some b else lkA r k
def puA : List (κ × β) → κ → β → List (κ × β)
  | [], k, v => [(k, v)]
  | (a, b) :: r, k, v => if a = k then (a, v) :: r else (a, b) :: puA r k v
def erA : List (κ × β) → κ → List (κ × β)
  | [], _ => []
  | (a, b) :: r, k => if a = k then r else (a, b) :: erA r k
theorem lkA_pu (k k' : κ) (v : β) : ∀ r : List (κ × β), lkA (puA r k v) k' = if k = k' then some v else lkA r k'
  | [] => by
    show lkA [(k, v)] k' = _
    simp only [lkA]
  | (a, b) :: r => by
    have ih := lkA_pu k k' v r
    simp only [puA]
    by_cases h : a = k
    · subst h
      rw [if_pos rfl]
      simp only [lkA]
      by_cases q : a = k'
      · rw [if_pos q, if_pos q]
      · rw [if_neg q, if_neg q, if_neg q]
    · rw [if_neg h]
      simp only [lkA]
      by_cases q : a = k'
      · rw [if_pos q, if_neg (fun z => h (q.trans z.symm)), if_pos q]
      · rw [if_neg q, ih, if_neg q]
theorem erA_mem {k : κ} {p : κ × β} : ∀ {r : List (κ × β)}, p ∈ erA r k → p ∈ r
  | [], h => by cases h
  | (a, b) :: r, h => by
    simp only [erA] at h
    split at h
    · exact List.mem_cons_of_mem _ h
    · rcases List.mem_cons.mp h with h | h
      · exact h ▸ List.mem_cons_self
      · exact List.mem_cons_of_mem _ (erA_mem h)
theorem lkA_none {k : κ} : ∀ {r : List (κ × β)}, lkA r k = none ↔ k ∉ r.map (·.1)
  | [] => by simp [lkA]
  | (a, b) :: r => by
    have ih := lkA_none (k := k) (r := r)
    simp only [lkA, List.map_cons, List.mem_cons, not_or]
    by_cases h : a = k
    · rw [if_pos h]; simp [h]
    · rw [if_neg h, ih]; simp [Ne.symm h]
theorem lkA_some {k : κ} {r : List (κ × β)} : (lkA r k).isSome = true ↔ k ∈ r.map (·.1) := by
  have := lkA_none (k := k) (r := r)
  cases h : lkA r k with
  | none => simp [this.mp h]
  | some v =>
    simp only [Option.isSome_some, true_iff]
    exact Classical.byContradiction fun z => by rw [this.mpr z] at h; cases h
theorem erA_nodup (k : κ) : ∀ {r : List (κ × β)}, (r.map (·.1)).Nodup → ((erA r k).map (·.1)).Nodup
  | [], h => h
  | (a, b) :: r, h => by
    simp only [erA]
    have h' := List.nodup_cons.mp (show (a :: r.map (·.1)).Nodup from h)
    split
    · exact h'.2
    · refine List.nodup_cons.mpr ⟨fun z => h'.1 ?_, erA_nodup k h'.2⟩
      obtain ⟨p, hp, e⟩ := List.mem_map.mp z
      exact List.mem_map.mpr ⟨p, erA_mem hp, e⟩
theorem puA_keys {k : κ} {v : β} {x : κ} {r : List (κ × β)} : x ∈ (puA r k v).map (·.1) ↔ x = k ∨ x ∈ r.map (·.1) := by
  rw [← lkA_some, lkA_pu, ← lkA_some]
  by_cases h : k = x
  · rw [if_pos h]; simp [h]
  · rw [if_neg h]; simp [Ne.symm h]
theorem puA_nodup (k : κ) (v : β) : ∀ {r : List (κ × β)}, (r.map (·.1)).Nodup → ((puA r k v).map (·.1)).Nodup
  | [], _ => by simp [puA]
  | (a, b) :: r, h => by
    have h' := List.nodup_cons.mp (show (a :: r.map (·.1)).Nodup from h)
    simp only [puA]
    split
    · exact h
    · rename_i hk
      refine List.nodup_cons.mpr ⟨fun z => ?_, puA_nodup k v h'.2⟩
      rcases puA_keys.mp z with e | e
      · exact hk e
      · exact h'.1 e
variable {t : Bool} {kd : κ → D} {enc : β → D}
end
end Cm
namespace Cm
open PySem PySem.Spec PyProof.Rows L2 FL
def rb_law_places : RS := (rRet (rComp (rRg1 (rAC (oV (rCB dLen (rAC (oV (rVar 0)) rA0))) rA0)) (gNm 1) (rTst (rBin dNe (oV (rBin dIx (oV (rVar 0)) (oV (rVar 1)))) (oV (rC (.int 0))))) (rVar 1) [1]))
abbrev RD_law_places (r : FSpec) : Prop := ∀ ds ED QD, ds.length = 1 → r ds ED QD → rb_law_places (startD ["_law_part_here", "_law_place"] ds) (fun c fs ρ => ED c fs (ρ.take 1)) (finD 1 QD)
end Cm
namespace Cm
open PySem PySem.Spec PyProof.Rows L2 FL
end Cm
namespace Cm
open PySem PySem.Spec PyProof.Rows L2 FL
set_option maxHeartbeats 0
inductive Stp where
  | row (rt : Bool) (room : Int) (ps : List (Int × Int))
  | times (room a b : Int)
  | put (room n a : Int)
  | add (room n a : Int)
  | emp (room : Int)
  | tell (k room : Int)
  deriving Inhabited
def Stp.reads : Stp → List Int
  | .row _ _ _ => []
  | .times _ a b => [a, b]
  | .put _ _ a => [a]
  | .add r _ a => [r, a]
  | .emp r => [r]
  | .tell _ r => [r]
def has (ks : List Int) (k : Int) : Bool := decide (k ∈ ks)
def Stp.ok (st : Stp) (hk tk : List Int) (nl nr nt : Int) : Bool := match st with
  | .row false _ ps => ps.all fun p => decide (0 ≤ p.2) && decide (p.2 < nl)
  | .row true _ ps => ps.all fun p => decide (0 ≤ p.2) && decide (p.2 < nr)
  | .tell k r => !(has tk k) && (decide (0 ≤ k) && decide (k < nt)) && has hk r
  | st => st.reads.all (has hk)
structure RunS where
  held : List (Int × Int)
  told : List (Int × Int)
  times : Int
  sums : Int
  most : Int
def sideX (rt : Bool) (xs ys : List Int) : List Int := match rt with
  | true => ys
  | false => xs
def partsV (row : List Int) (ps : List (Int × Int)) : Int := (ps.map fun p => p.1 * row.getD p.2.toNat 0).sum
def RunS.at (s : RunS) (a : Int) : Int := (lkA s.held a).getD 0
def mx (i j : Int) : Int := if j > i then j else i
def RunS.go1 (s : RunS) (xs ys : List Int) : Stp → RunS
  | .row rt r ps => { s with held := puA s.held r (partsV (sideX rt xs ys) ps), sums := s.sums + ((ps.length : Int) - 1) }
  | .times r a b => { s with held := puA s.held r (s.at a * s.at b), times := s.times + 1 }
  | .put r n a => { s with held := puA s.held r (n * s.at a) }
  | .add r n a => { s with held := puA s.held r (s.at r + n * s.at a), sums := s.sums + 1 }
  | .emp r => { s with held := erA s.held r }
  | .tell k r => { s with held := erA s.held r, told := puA s.told k (s.at r) }
def RunS.seen (s : RunS) : RunS := { s with most := mx s.most s.held.length }
def RunS.go (s : RunS) (xs ys : List Int) (st : Stp) : RunS := (s.go1 xs ys st).seen
end Cm
namespace Cm
open PySem PySem.Spec PyProof.Rows L2 FL
end Cm
namespace Cm
open PySem PySem.Spec PyProof.Rows L2 FL
end Cm
namespace Cm
open PySem PySem.Spec PyProof.Rows L2 FL
set_option maxHeartbeats 0
def itxt (i : Int) : Str := Str.ofString (toString i)
theorem itxt_len {i : Int} (h0 : -1000 ≤ i) (h1 : i ≤ 1000) : (itxt i).length ≤ 5 := by
  have : ∀ n : Fin 2001, (itxt ((n.val : Int) - 1000)).length ≤ 5 := by decide +kernel
  have := this ⟨(i + 1000).toNat, by omega⟩
  rw [show (((i + 1000).toNat : Nat) : Int) - 1000 = i by omega] at this
  exact this
theorem join_len (a : Str) : ∀ ys : List Str, (Str.join a ys).length ≤ (ys.map (·.length)).sum + ys.length * a.length
  | [] => Nat.zero_le _
  | [x] => by show x.length ≤ x.length + 0 + 1 * a.length; omega
  | x :: z :: r => by
    have := join_len a (z :: r)
    show (x ++ a ++ Str.join a (z :: r)).length ≤ _
    rw [Str.length_append, Str.length_append]
    simp only [List.map_cons, List.sum_cons, List.length_cons, Nat.add_mul] at this ⊢
    omega
theorem sum_len {B : Nat} : ∀ ys : List Str, (∀ y ∈ ys, y.length ≤ B) → (ys.map (·.length)).sum ≤ ys.length * B
  | [], _ => Nat.zero_le _
  | y :: ys, h => by
    have h1 := h y (List.mem_cons_self ..)
    have h2 := sum_len ys fun z hz => h z (List.mem_cons_of_mem _ hz)
    rw [List.map_cons, List.sum_cons, List.length_cons, Nat.add_mul]; omega
theorem jlen {a : Str} {ys : List Str} {B : Nat} (h : ∀ y ∈ ys, y.length ≤ B) : (Txt.join a ys).length ≤ ys.length * (B + a.length) := by
  rw [show Txt.join a ys = Str.join a ys from TL.join_eq a ys]
  have := join_len a ys
  have := sum_len ys h
  rw [Nat.mul_add]; omega
def wordT (p : Int × Nat) : Str := itxt p.1 ++ (":" : Str) ++ itxt (p.2 : Nat)
def sumT (xs : List Int) : Str := if wp xs = [] then "-" else Txt.join " " ((wp xs).map wordT)
def prT (p : Pr) : Str := sumT p.l ++ (" * " : Str) ++ sumT p.r ++ (" > " : Str) ++ sumT p.o
structure Tp (xs : List Int) : Prop where
  ln : xs.length ≤ 81
  bd : InB xs
structure PrT (p : Pr) : Prop where
  l : Tp p.l
  r : Tp p.r
  o : Tp p.o
theorem word_len {xs : List Int} (h : Tp xs) {p : Int × Nat} (hp : p ∈ wp xs) : (wordT p).length ≤ 11 := by
  obtain ⟨h1, h2, _, _⟩ := wp_mem hp
  have a := itxt_len (h.bd _ h1).1 (h.bd _ h1).2
  have b := itxt_len (i := (p.2 : Nat)) (by omega) (by have := h.ln; omega)
  have c : (":" : Str).length = 1 := by decide +kernel
  unfold wordT
  rw [Str.length_append, Str.length_append]; omega
theorem sumT_len {xs : List Int} (h : Tp xs) : (sumT xs).length ≤ 972 := by
  unfold sumT
  split
  · have c : ("-" : Str).length = 1 := by decide +kernel
    omega
  · have := jlen (a := " ") (ys := (wp xs).map wordT) (B := 11) fun y hy => by
      obtain ⟨p, hp, rfl⟩ := List.mem_map.mp hy
      exact word_len h hp
    rw [List.length_map, show (" " : Str).length = 1 by decide +kernel] at this
    have := wp_len xs
    have := h.ln
    omega
theorem prT_len {p : Pr} (h : PrT p) : (prT p).length ≤ 2922 := by
  have a := sumT_len h.l
  have b := sumT_len h.r
  have c := sumT_len h.o
  have d : (" * " : Str).length = 3 := by decide +kernel
  have e : (" > " : Str).length = 3 := by decide +kernel
  unfold prT
  rw [Str.length_append, Str.length_append, Str.length_append, Str.length_append]; omega
end Cm
namespace Cm
open PySem PySem.Spec PyProof.Rows L2 FL
set_option maxHeartbeats 0
end Cm
namespace Cm
open PySem PySem.Spec PyProof.Rows L2 FL
set_option maxHeartbeats 0
section
variable {β γ : Type}
theorem pu_new {k : Int} {v : β} : ∀ {r : List (Int × β)}, k ∉ r.map (·.1) → (puA r k v).map (·.1) = r.map (·.1) ++ [k]
  | [], _ => rfl
  | (a, b) :: r, h => by
    simp only [List.map_cons, List.mem_cons, not_or] at h
    simp only [puA]
    rw [if_neg (Ne.symm h.1)]
    simp only [List.map_cons, List.cons_append]
    rw [pu_new h.2]
end
end Cm
namespace Cm
open PySem PySem.Spec PyProof.Rows L2 FL
set_option maxHeartbeats 0
theorem sub_len : ∀ {l ks : List Int}, l.Nodup → (∀ x ∈ l, x ∈ ks) → l.length ≤ ks.length
  | [], _, _, _ => Nat.zero_le _
  | a :: r, ks, h, hs => by
    have ha : a ∈ ks := hs a List.mem_cons_self
    obtain ⟨h1, h2⟩ := List.nodup_cons.mp h
    have := sub_len (l := r) (ks := ks.erase a) h2 fun x hx => (List.mem_erase_of_ne (fun e => h1 (by rw [← e]; exact hx))).mpr (hs x (List.mem_cons_of_mem _ hx))
    rw [List.length_erase_of_mem ha] at this
    have := List.length_pos_of_mem ha
    rw [List.length_cons]; omega
def upI (n : Nat) : List Int := (List.range n).map fun j : Nat => (j : Int)
theorem upI_nodup (n : Nat) : (upI n).Nodup := by
  unfold upI
  refine List.Pairwise.map _ (fun a b h => ?_) List.nodup_range
  intro e; apply h; omega
theorem up_le {ks : List Int} {n : Nat} (h : ∀ j : Nat, j < n → (j : Int) ∈ ks) : n ≤ ks.length := by
  have := sub_len (upI_nodup n) (ks := ks) fun x hx => by
    obtain ⟨j, hj, rfl⟩ := List.mem_map.mp hx
    exact h j (List.mem_range.mp hj)
  simpa [upI] using this
/-- least from n on, m tries -/
def leastG (ks : List Int) : Nat → Nat → Nat
  | 0, n => n
  | m + 1, n => if (n : Int) ∈ ks then leastG ks m (n + 1) else n
def leastE (ks : List Int) : Nat := leastG ks (ks.length + 1) 0
theorem leastG_spec {ks : List Int} : ∀ (m n : Nat), (∀ j : Nat, j < n → (j : Int) ∈ ks) → n + m = ks.length + 1 → ((leastG ks m n : Nat) : Int) ∉ ks ∧ ∀ j : Nat, j < leastG ks m n → (j : Int) ∈ ks
  | 0, n, h, e => by
    have := up_le h
    omega
  | m + 1, n, h, e => by
    unfold leastG
    split
    · rename_i hn
      refine leastG_spec m (n + 1) (fun j hj => ?_) (by omega)
      by_cases q : j = n
      · rw [q]; exact hn
      · exact h j (by omega)
    · rename_i hn
      exact ⟨hn, h⟩
theorem leastE_spec (ks : List Int) : ((leastE ks : Nat) : Int) ∉ ks ∧ ∀ j : Nat, j < leastE ks → (j : Int) ∈ ks := leastG_spec _ _ (fun j hj => absurd hj (Nat.not_lt_zero _)) (by omega)
def plcs (xs : List Int) : List Int := (wp xs).map fun p => (p.2 : Int)
def prts (xs : List Int) : List (Int × Int) := (wp xs).map fun p => (p.1, (p.2 : Int))
def toldL (ps : List Pr) : List Int := ps.flatMap fun p => plcs p.o
structure Pn where
  steps : List Stp
  held : List (Int × Unit)
  rooms : List (Int × Int)
def Pn.hk (s : Pn) : List Int := s.held.map (·.1)
def Pn.free (s : Pn) : Int := (leastE s.hk : Nat)
def Pn.take (s : Pn) : Pn := { s with held := puA s.held s.free () }
def Pn.say (s : Pn) (st : Stp) : Pn := { s with steps := s.steps ++ [st] }
def Pn.emp (s : Pn) (r : Int) : Pn := { s with held := erA s.held r }
def Pn.lay (s : Pn) (r : Int) : Pn := (s.emp r).say (.emp r)
def Pn.put (s : Pn) (k r : Int) : Pn := { s with rooms := puA s.rooms k r }
def Pn.pop (s : Pn) (k : Int) : Pn := { s with rooms := erA s.rooms k }
abbrev FPl : List Str := ["steps", "held", "rooms"]
def Pn.p1 (s : Pn) (xs : List Int) (rt : Bool) : Pn := s.take.say (.row rt s.free (prts xs))
def Pn.a1 (s : Pn) (p : Pr) : Pn := s.p1 p.l false
def Pn.a2 (s : Pn) (p : Pr) : Pn := (s.a1 p).p1 p.r true
def Pn.roomOf (s : Pn) (p : Pr) : Int := (s.a2 p).free
def Pn.a3 (s : Pn) (p : Pr) : Pn := (s.a2 p).take.say (.times (s.roomOf p) s.free (s.a1 p).free)
def Pn.prod (s : Pn) (p : Pr) : Pn := ((s.a3 p).lay s.free).lay (s.a1 p).free
def Pn.sum1 (room : Int) (s : Pn) (c : Int × Nat) : Pn := match lkA s.rooms (c.2 : Int) with
  | some r => s.say (.add r c.1 room)
  | none => (s.take.put c.2 s.free).say (.put s.free c.1 room)
def Pn.sumsTo (s : Pn) (room : Int) (cs : List (Int × Nat)) : Pn := cs.foldl (Pn.sum1 room) s
def Pn.sums (s : Pn) (p : Pr) (room : Int) : Pn := (s.sumsTo room (wp p.o)).lay room
def Pn.tell1 (later : Int → Bool) (s : Pn) (k : Int) : Pn := if later k then s else match lkA s.rooms k with
  | some r => ((s.pop k).emp r).say (.tell k r)
  | none => s
def Pn.keys (s : Pn) : List Int := (s.rooms.map (·.1)).mergeSort fun a b => decide (a ≤ b)
def Pn.tellsTo (later : Int → Bool) (s : Pn) (ks : List Int) : Pn := ks.foldl (Pn.tell1 later) s
def Pn.tells (later : Int → Bool) (s : Pn) : Pn := s.tellsTo later s.keys
theorem er_erase {β : Type} (k : Int) : ∀ r : List (Int × β), (erA r k).map (·.1) = (r.map (·.1)).erase k
  | [] => rfl
  | (a, b) :: r => by
    simp only [erA, List.map_cons]
    split
    · rename_i e; subst e
      rw [List.erase_cons_head]
    · rename_i e
      rw [List.erase_cons_tail (by simpa using e), List.map_cons, er_erase k r]
theorem pu_app {β : Type} {k : Int} {v : β} : ∀ {r : List (Int × β)}, k ∉ r.map (·.1) → puA r k v = r ++ [(k, v)]
  | [], _ => rfl
  | (a, b) :: r, h => by
    simp only [List.map_cons, List.mem_cons, not_or] at h
    simp only [puA]
    rw [if_neg (Ne.symm h.1), pu_app h.2]; rfl
theorem er_perm {β : Type} {k : Int} {v : β} : ∀ {r : List (Int × β)}, lkA r k = some v → (r.map (·.2)).Perm (v :: (erA r k).map (·.2))
  | [], h => by simp [lkA] at h
  | (a, b) :: r, h => by
    simp only [lkA] at h
    simp only [erA]
    split at h
    · rename_i e
      cases h
      rw [if_pos e]; exact .refl _
    · rename_i e
      rw [if_neg e]
      simp only [List.map_cons]
      exact ((er_perm h).cons b).trans (List.Perm.swap _ _ _)
structure Wl (s : Pn) (xs : List Int) : Prop where
  nd : s.hk.Nodup
  rn : (s.rooms.map (·.1)).Nodup
  pm : s.hk.Perm (s.rooms.map (·.2) ++ xs)
theorem free_not (s : Pn) : s.free ∉ s.hk := (leastE_spec s.hk).1
theorem take_hk (s : Pn) : s.take.hk = s.hk ++ [s.free] := by
  unfold Pn.take Pn.hk
  exact pu_new (free_not s)
theorem Wl.take {s : Pn} {xs : List Int} (h : Wl s xs) : Wl s.take (xs ++ [s.free]) := by
  refine ⟨?_, h.rn, ?_⟩
  · rw [take_hk]
    refine List.nodup_append.mpr ⟨h.nd, by simp, fun a ha b hb => ?_⟩
    have hb : b = s.free := by simpa using hb
    subst hb
    intro e; subst e; exact free_not s ha
  · rw [take_hk]
    show (s.hk ++ [s.free]).Perm (s.rooms.map (·.2) ++ (xs ++ [s.free]))
    rw [← List.append_assoc]
    exact h.pm.append_right _
theorem Wl.say {s : Pn} {xs : List Int} (h : Wl s xs) (st : Stp) : Wl (s.say st) xs := ⟨h.nd, h.rn, h.pm⟩
theorem emp_hk (s : Pn) (r : Int) : (s.emp r).hk = s.hk.erase r := er_erase r s.held
theorem Wl.mem {s : Pn} {xs : List Int} (h : Wl s xs) {a : Int} (ha : a ∈ xs) : a ∈ s.hk := h.pm.mem_iff.mpr (List.mem_append_right _ ha)
theorem Wl.off {s : Pn} {xs : List Int} (h : Wl s xs) {a : Int} (ha : a ∈ xs) : a ∉ s.rooms.map (·.2) := fun hb => by
  have := (h.pm.nodup_iff.mp h.nd)
  exact (List.nodup_append.mp this).2.2 a hb a ha rfl
theorem Wl.emp {s : Pn} {xs : List Int} (h : Wl s xs) {a : Int} (ha : a ∈ xs) : Wl (s.emp a) (xs.erase a) := by
  refine ⟨?_, h.rn, ?_⟩
  · rw [emp_hk]; exact h.nd.erase a
  · rw [emp_hk]
    have := h.pm.erase a
    rw [List.erase_append_right _ (h.off ha)] at this
    exact this
theorem Wl.lay {s : Pn} {xs : List Int} (h : Wl s xs) {a : Int} (ha : a ∈ xs) : Wl (s.lay a) (xs.erase a) := (h.emp ha).say _
theorem Wl.put {s : Pn} {xs : List Int} {k r : Int} (h : Wl s (xs ++ [r])) (hk : lkA s.rooms k = none) : Wl (s.put k r) xs := by
  have hk' : k ∉ s.rooms.map (·.1) := lkA_none.mp hk
  have e : puA s.rooms k r = s.rooms ++ [(k, r)] := pu_app hk'
  refine ⟨h.nd, ?_, ?_⟩
  · show ((puA s.rooms k r).map (·.1)).Nodup
    exact puA_nodup k r h.rn
  · show s.hk.Perm ((puA s.rooms k r).map (·.2) ++ xs)
    rw [e, List.map_append]
    refine h.pm.trans ?_
    rw [List.append_assoc]
    exact (List.perm_append_comm).append_left _
theorem Wl.tell {s : Pn} {xs : List Int} {k r : Int} (h : Wl s xs) (hk : lkA s.rooms k = some r) : Wl ((s.pop k).emp r) xs ∧ r ∈ s.hk := by
  have p1 := er_perm hk
  have hr : r ∈ s.rooms.map (·.2) := p1.mem_iff.mpr List.mem_cons_self
  refine ⟨⟨?_, erA_nodup k h.rn, ?_⟩, h.pm.mem_iff.mpr (List.mem_append_left _ hr)⟩
  · rw [emp_hk]; exact h.nd.erase r
  · rw [emp_hk]
    show (s.hk.erase r).Perm ((erA s.rooms k).map (·.2) ++ xs)
    have := (h.pm.trans (p1.append_right xs)).erase r
    rw [List.cons_append, List.erase_cons_head] at this
    exact this
def Pn.row (s : Pn) (p : Pr) (later : List Pr) : Pn := ((s.prod p).sums p (s.roomOf p)).tells (has (toldL later))
def Stp.sz (m : Nat) : Stp → Prop
  | .row _ _ ps => ps.length ≤ m
  | _ => True
def Pn.sz (m : Nat) (s : Pn) : Prop := ∀ st ∈ s.steps, st.sz m
theorem Pn.sz.say {m : Nat} {s : Pn} {st : Stp} (h : s.sz m) (k : st.sz m) : (s.say st).sz m := fun x hx => by
  rcases List.mem_append.mp hx with hx | hx
  · exact h x hx
  · cases (show x = st by simpa using hx); exact k
end Cm
namespace Cm
open PySem PySem.Spec PyProof.Rows L2 FL
set_option maxHeartbeats 0
theorem zip_range (xs : List Int) : xs.zipIdx = (List.range xs.length).map fun j => (xs.getD j 0, j) := by
  apply List.ext_getElem?
  intro i
  rw [List.getElem?_zipIdx, List.getElem?_map]
  by_cases h : i < xs.length
  · rw [List.getElem?_range h, List.getElem?_eq_getElem h]
    simp [List.getD_eq_getElem?_getD, List.getElem?_eq_getElem h]
  · rw [List.getElem?_eq_none (by omega), List.getElem?_eq_none (by simpa using h)]
    rfl
theorem plcs_range (xs : List Int) : plcs xs = ((List.range xs.length).filter fun j => decide (xs.getD j 0 ≠ 0)).map fun j : Nat => (j : Int) := by
  unfold plcs wp
  rw [zip_range, List.filter_map, List.map_map]
  rfl
theorem rgD_nat (n : Nat) : rgD 0 (n : Int) = (List.range n).map fun j : Nat => D.int (j : Nat) := by
  unfold rgD
  rw [Int.sub_zero, Int.toNat_natCast]
  exact List.map_congr_left fun j _ => by rw [Int.zero_add]
def r_law_places : FSpec := fun ds _ Q => ∃ xs : List Int, ds = [rowD xs] ∧ xs.length ≤ 1000000 ∧ ∀ os, Q (.lst .flat ((plcs xs).map D.int)) os
theorem rd_law_places : RD_law_places r_law_places := by
  rintro ds ED QD - ⟨xs, rfl, hz, q⟩
  have hb : (((xs.map D.int).length : Nat) : Int) = (xs.length : Int) := by rw [List.length_map]
  refine ⟨by rw [hb]; exact ⟨by omega, by omega, by omega⟩, ?_⟩
  rw [hb]
  refine ⟨compR_if (List.range xs.length) (fun j => D.int (j : Nat)) (fun j => decide (xs.getD j 0 ≠ 0)) (fun j => D.int (j : Nat)) (rgD_nat _) (fun j hj => ?_) (fun _ => rfl) ?_⟩
  · have hj : j < xs.length := List.mem_range.mp hj
    refine pick_at (by omega) (by omega) (fun _ => rfl) fun x hx => ?_
    have ex : xs.getD j 0 = x := by rw [List.getD_eq_getElem?_getD]; rw [show ((j : Nat) : Int).toNat = j from rfl] at hx; rw [hx]; rfl
    rw [ex]
    have ed : deq (.int x) (.int 0) = decide (x = 0) := by simp [deq, D.py, PyData.eqv, Bool.beq_eq_decide_eq]
    refine ⟨fun h => ?_, fun h => ?_⟩
    · have h : x ≠ 0 := by simpa using h
      exact ⟨by rw [if_pos (by simpa using h)], rfl⟩
    · have h : x = 0 := by simpa using h
      exact ⟨by rw [if_neg (by simpa using h)], rfl⟩
  · rw [plcs_range, List.map_map] at q
    exact q _
theorem map_er {α β : Type} (f : α → β) : ∀ (l : List α) (j : Nat), (l.map f).eraseIdx j = (l.eraseIdx j).map f
  | [], j => by simp
  | a :: r, 0 => rfl
  | a :: r, j + 1 => by
    show f a :: (r.map f).eraseIdx j = f a :: (r.eraseIdx j).map f
    rw [map_er f r j]
end Cm
namespace Cm
open PySem PySem.Spec PyProof.Rows L2 FL
def rb_less_times : RS := (rRet (rComp (rZp (rAC (oV (rVar 0)) (rAC (oV (rVar 2)) rA0))) (gTp 2 (gCs (gNm 4) (gCs (gNm 5) gNl))) rYes (rBin dMod (oV (rBin dSub (oV (rVar 4)) (oV (rBin dMulX (oV (rVar 1)) (oV (rVar 5)))))) (oV (rVar 3))) [5, 4]))
abbrev RD_less_times (r : FSpec) : Prop := ∀ ds ED QD, ds.length = 4 → r ds ED QD → rb_less_times (startD ["table", "number", "other", "p", "a", "b"] ds) (fun c fs ρ => ED c fs (ρ.take 4)) (finD 4 QD)
def rb_first_place : RS := (rSeq (rFor (rEn (rAC (oV (rVar 0)) rA0)) (gTp 2 (gCs (gNm 1) (gCs (gNm 2) gNl))) (rIf (rTst (rBin dNe (oV (rVar 2)) (oV (rC (.int 0))))) (rRet (rVar 1)) rNx))
  (rRet (rC .non)))
abbrev RD_first_place (r : FSpec) : Prop := ∀ ds ED QD, ds.length = 1 → r ds ED QD → rb_first_place (startD ["table", "place", "number"] ds) (fun c fs ρ => ED c fs (ρ.take 1)) (finD 1 QD)
def rb_what_is_left (r_less_times : FSpec) : RS := (rSeq (rFor (rItA (rVar 0)) (gTp 2 (gCs (gNm 3) (gCs (gNm 4) gNl))) (rIf (rTst (rBin dNe (oV (rBin dIx (oV (rVar 1)) (oV (rVar 3)))) (oV (rC (.int 0))))) (rSetF 1 (rCall [] r_less_times (rAC (oV (rVar 1)) (rAC (oV (rBin dIx (oV (rVar 1)) (oV (rVar 3)))) (rAC (oV (rVar 4)) (rAC (oV (rVar 2)) rA0)))))) rNx))
  (rRet (rVar 1)))
abbrev RD_what_is_left (r : FSpec) (r_less_times : FSpec) : Prop := ∀ ds ED QD, ds.length = 3 → r ds ED QD → (rb_what_is_left r_less_times) (startD ["base", "table", "p", "place", "own"] ds) (fun c fs ρ => ED c fs (ρ.take 3)) (finD 3 QD)
def rb_grown_base (r_what_is_left : FSpec) (r_first_place : FSpec) : RS := (rSeq (rSetF 3 (rCall [] r_what_is_left (rAC (oV (rVar 0)) (rAC (oV (rVar 1)) (rAC (oV (rVar 2)) rA0)))))
  (rSeq (rSetF 4 (rCall [] r_first_place (rAC (oV (rVar 3)) rA0)))
  (rSeq (rIf (rTst (rBin (dIsN0 false) (oV (rVar 4)) (oV (rC .non)))) (rRet (rVar 0)) rNx)
  (rRet (rBin dAdd (oV (rVar 0)) (oV (rFrz (rLst (rAC (oV (rTup (rAC (oV (rVar 4)) (rAC (oV (rComp (rItA (rVar 3)) (gNm 5) rYes (rBin dMod (oV (rBin dMulX (oV (rBin dIx (oV (rVar 3)) (oV (rVar 4)))) (oV (rVar 5)))) (oV (rVar 2))) [5])) rA0)))) rA0)))))))))
abbrev RD_grown_base (r : FSpec) (r_what_is_left : FSpec) (r_first_place : FSpec) : Prop := ∀ ds ED QD, ds.length = 3 → r ds ED QD → (rb_grown_base r_what_is_left r_first_place) (startD ["base", "table", "p", "left", "place", "number"] ds) (fun c fs ρ => ED c fs (ρ.take 3)) (finD 3 QD)
def rb_base_of (r_grown_base : FSpec) : RS := (rSeq (rSetF 2 (rLst rA0))
  (rSeq (rFor (rItA (rVar 0)) (gNm 3) (rSetF 2 (rCall [] r_grown_base (rAC (oV (rVar 2)) (rAC (oV (rVar 3)) (rAC (oV (rVar 1)) rA0))))))
  (rRet (rVar 2))))
abbrev RD_base_of (r : FSpec) (r_grown_base : FSpec) : Prop := ∀ ds ED QD, ds.length = 2 → r ds ED QD → (rb_base_of r_grown_base) (startD ["tables", "p", "base", "table"] ds) (fun c fs ρ => ED c fs (ρ.take 2)) (finD 2 QD)
def rb_task_tables : RS := (rSeq (rSet 2 (rComp (rRg1 (rAC (oV (rBin dIx (oV (rVar 0)) (oV (rC (.int 2))))) rA0)) (gNm 3) rYes (rBin dMulX (oV (rLst (rAC (oV (rC (.int 0))) rA0))) (oV (rBin dMulX (oV (rBin dIx (oV (rVar 0)) (oV (rC (.int 0))))) (oV (rBin dIx (oV (rVar 0)) (oV (rC (.int 1)))))))) [3]))
  (rSeq (rFor (rItA (rBin dIx (oV (rVar 0)) (oV (rC (.int 3))))) (gTp 4 (gCs (gNm 3) (gCs (gNm 4) (gCs (gNm 5) (gCs (gNm 6) gNl))))) (rSetLP (rpIx (rpN 2) (rVar 3)) (rBin dAdd (oV (rBin dMulX (oV (rVar 4)) (oV (rBin dIx (oV (rVar 0)) (oV (rC (.int 1))))))) (oV (rVar 5))) (rBin dMod (oV (rVar 6)) (oV (rVar 1)))))
  (rRet (rVar 2))))
abbrev RD_task_tables (r : FSpec) : Prop := ∀ ds ED QD, ds.length = 2 → r ds ED QD → rb_task_tables (startD ["task", "p", "found", "k", "i", "j", "c"] ds) (fun c fs ρ => ED c fs (ρ.take 2)) (finD 2 QD)
def rb_rows_over : RS := (rSeq (rSetF 2 (rLst (rAC (oV (rTup rA0)) rA0)))
  (rSeq (rFor (rRg1 (rAC (oV (rVar 0)) rA0)) (gNm 3) (rSeq (rSet 4 (rLst rA0))
  (rSeq (rFor (rItA (rVar 2)) (gNm 5) (rDrop (rExt 4 (rComp (rRg1 (rAC (oV (rVar 1)) rA0)) (gNm 6) rYes (rBin dAdd (oV (rVar 5)) (oV (rFrz (rTup (rAC (oV (rVar 6)) rA0))))) [6]))))
  (rSetF 2 (rVar 4)))))
  (rRet (rComp (rItA (rVar 2)) (gNm 5) (rTst (rBin dEq (oV (rSl (oV (rComp (rItA (rVar 5)) (gNm 6) (rTst (rBin dNe (oV (rVar 6)) (oV (rC (.int 0))))) (rVar 6) [6])) rP0 (rP1 (rC (.int 1))))) (oV (rLst (rAC (oV (rC (.int 1))) rA0))))) (rVar 5) [5]))))
abbrev RD_rows_over (r : FSpec) : Prop := ∀ ds ED QD, ds.length = 2 → r ds ED QD → rb_rows_over (startD ["length", "p", "rows", "place", "longer", "row", "number"] ds) (fun c fs ρ => ED c fs (ρ.take 2)) (finD 2 QD)
def rb_pairs_over (r_rows_over : FSpec) : RS := (rSeq (rSet 3 (rLst rA0))
  (rSeq (rFor (rItA (rCall [] r_rows_over (rAC (oV (rVar 0)) (rAC (oV (rVar 2)) rA0)))) (gNm 4) (rDrop (rExt 3 (rComp (rItA (rCall [] r_rows_over (rAC (oV (rVar 1)) (rAC (oV (rVar 2)) rA0)))) (gNm 5) rYes (rTup (rAC (oV (rVar 4)) (rAC (oV (rVar 5)) rA0))) [5]))))
  (rRet (rVar 3))))
abbrev RD_pairs_over (r : FSpec) (r_rows_over : FSpec) : Prop := ∀ ds ED QD, ds.length = 3 → r ds ED QD → (rb_pairs_over r_rows_over) (startD ["left", "right", "p", "found", "l", "r"] ds) (fun c fs ρ => ED c fs (ρ.take 3)) (finD 3 QD)
end Cm
namespace Cm
/-- v + s t over p -/
def ad (p s : Int) (v t : List Int) : List Int := List.zipWith (fun a b => (a + s * b) % p) v t
structure Vec (N : Nat) (p : Int) (v : List Int) : Prop where
  len : v.length = N
  bd : ∀ x ∈ v, 0 ≤ x ∧ x < p
theorem getD_ge {v : List Int} {k : Nat} (h : v.length ≤ k) : v.getD k 0 = 0 := by
  rw [List.getD_eq_getElem?_getD, List.getElem?_eq_none h]; rfl
theorem adp_get {p s : Int} {v t : List Int} (h : v.length = t.length) (k : Nat) : (ad p s v t).getD k 0 = (v.getD k 0 + s * t.getD k 0) % p := by
  by_cases hk : k < v.length
  · have ht : k < t.length := by omega
    rw [List.getD_eq_getElem?_getD, List.getD_eq_getElem?_getD, List.getD_eq_getElem?_getD]
    unfold ad
    rw [List.getElem?_zipWith, List.getElem?_eq_getElem hk, List.getElem?_eq_getElem ht]; rfl
  · rw [getD_ge (v := v) (by omega), getD_ge (v := t) (by omega), getD_ge (by unfold ad; rw [List.length_zipWith]; omega)]
    simp
theorem ext_getD {v u : List Int} (h : v.length = u.length) (g : ∀ k, v.getD k 0 = u.getD k 0) : v = u := by
  apply List.ext_getElem h
  intro k h1 h2
  have := g k
  rw [List.getD_eq_getElem?_getD, List.getD_eq_getElem?_getD, List.getElem?_eq_getElem h1, List.getElem?_eq_getElem h2] at this
  exact this
section
variable {N : Nat} {p : Int}
theorem Vec.at {v : List Int} (h : Vec N p v) (hp : 0 < p) (k : Nat) : 0 ≤ v.getD k 0 ∧ v.getD k 0 < p := by
  by_cases hk : k < v.length
  · rw [List.getD_eq_getElem?_getD, List.getElem?_eq_getElem hk]
    exact h.bd _ (List.getElem_mem hk)
  · rw [getD_ge (by omega)]; omega
theorem Vec.em {v : List Int} (h : Vec N p v) (hp : 0 < p) (k : Nat) : v.getD k 0 % p = v.getD k 0 := Int.emod_eq_of_lt (h.at hp k).1 (h.at hp k).2
theorem ad_vec {s : Int} {v t : List Int} (hp : 0 < p) (hv : v.length = N) (ht : t.length = N) : Vec N p (ad p s v t) := by
  refine ⟨by unfold ad; rw [List.length_zipWith]; omega, fun x hx => ?_⟩
  unfold ad at hx
  obtain ⟨k, hk, rfl⟩ := List.mem_iff_getElem.mp hx
  rw [List.getElem_zipWith]
  exact ⟨Int.emod_nonneg _ (by omega), Int.emod_lt_of_pos _ hp⟩
theorem emd (x p : Int) : ∃ q, x % p = x - p * q := ⟨x / p, Int.emod_def x p⟩
theorem emc {a b c p : Int} (h : a = b + p * c) : a % p = b % p := by rw [h, Int.add_mul_emod_self_left]
def Z (N : Nat) : List Int := List.replicate N 0
theorem Z_get (k : Nat) : (Z N).getD k 0 = 0 := by
  unfold Z
  rw [List.getD_eq_getElem?_getD, List.getElem?_replicate]
  split <;> rfl
theorem Z_vec (hp : 0 < p) : Vec N p (Z N) := ⟨by simp [Z], fun x hx => by rw [(List.mem_replicate.mp hx).2]; omega⟩
abbrev Row := Nat × List Int
def stepB (p : Int) (u : List Int) (b : Row) : List Int := ad p (-(u.getD b.1 0)) u b.2
def leftB (p : Int) (B : List Row) (u : List Int) : List Int := B.foldl (stepB p) u
def BOk (N : Nat) (p : Int) (B : List Row) : Prop := ∀ b ∈ B, b.1 < N ∧ Vec N p b.2
theorem step_lin (hp : 0 < p) {b : Row} (hb : Vec N p b.2) {s : Int} {v t : List Int} (hv : v.length = N) (ht : t.length = N) : stepB p (ad p s v t) b = ad p s (stepB p v b) (stepB p t b) := by
  have h1 := ad_vec (s := s) hp hv ht
  have h2 := ad_vec (s := -(v.getD b.1 0)) hp hv hb.len
  have h3 := ad_vec (s := -(t.getD b.1 0)) hp ht hb.len
  have h4 := ad_vec (s := s) hp h2.len h3.len
  have h5 := ad_vec (s := -((ad p s v t).getD b.1 0)) hp h1.len hb.len
  refine ext_getD (h5.len.trans h4.len.symm) fun k => ?_
  unfold stepB
  rw [adp_get (h1.len.trans hb.len.symm), adp_get (h2.len.trans h3.len.symm), adp_get (hv.trans hb.len.symm), adp_get (ht.trans hb.len.symm), adp_get (hv.trans ht.symm), adp_get (hv.trans ht.symm)]
  obtain ⟨q1, e1⟩ := emd (v.getD k 0 + s * t.getD k 0) p
  obtain ⟨q2, e2⟩ := emd (v.getD b.1 0 + s * t.getD b.1 0) p
  obtain ⟨q3, e3⟩ := emd (v.getD k 0 + -v.getD b.1 0 * b.2.getD k 0) p
  obtain ⟨q4, e4⟩ := emd (t.getD k 0 + -t.getD b.1 0 * b.2.getD k 0) p
  rw [e1, e2, e3, e4]
  refine emc (c := -q1 + q2 * b.2.getD k 0 + q3 + s * q4) ?_
  grind
theorem step_vec (hp : 0 < p) {b : Row} (hb : Vec N p b.2) {v : List Int} (hv : v.length = N) : Vec N p (stepB p v b) := ad_vec hp hv hb.len
theorem left_vec (hp : 0 < p) : ∀ {B : List Row} {v : List Int}, BOk N p B → Vec N p v → Vec N p (leftB p B v)
  | [], _, _, hv => hv
  | b :: B, v, hB, hv => left_vec hp (B := B) (fun x hx => hB x (List.mem_cons_of_mem _ hx)) (step_vec hp (hB b List.mem_cons_self).2 hv.len)
theorem left_lin (hp : 0 < p) {s : Int} : ∀ {B : List Row} {v t : List Int}, BOk N p B → Vec N p v → Vec N p t → leftB p B (ad p s v t) = ad p s (leftB p B v) (leftB p B t)
  | [], _, _, _, _, _ => rfl
  | b :: B, v, t, hB, hv, ht => by
    have hb := (hB b List.mem_cons_self).2
    show leftB p B (stepB p (ad p s v t) b) = ad p s (leftB p B (stepB p v b)) (leftB p B (stepB p t b))
    rw [step_lin hp hb hv.len ht.len]
    exact left_lin hp (fun x hx => hB x (List.mem_cons_of_mem _ hx)) (step_vec hp hb hv.len) (step_vec hp hb ht.len)
theorem left_snoc (B : List Row) (b : Row) (v : List Int) : leftB p (B ++ [b]) v = stepB p (leftB p B v) b := by
  unfold leftB
  rw [List.foldl_append]; rfl
end
def firstP : List Int → Option Nat
  | [] => none
  | a :: r => if a ≠ 0 then some 0 else (firstP r).map (· + 1)
theorem firstP_none : ∀ {L : List Int}, firstP L = none → ∀ k, L.getD k 0 = 0
  | [], _, k => by simp
  | a :: r, h, k => by
    simp only [firstP] at h
    split at h
    · cases h
    · rename_i ha
      have ha : a = 0 := by simpa using ha
      have h : firstP r = none := by simpa using h
      cases k with
      | zero => simpa using ha
      | succ k => simpa using firstP_none h k
theorem firstP_some : ∀ {L : List Int} {k : Nat}, firstP L = some k → k < L.length ∧ L.getD k 0 ≠ 0
  | [], _, h => by simp [firstP] at h
  | a :: r, k, h => by
    simp only [firstP] at h
    split at h
    · rename_i ha
      cases h
      exact ⟨by simp, by simpa using ha⟩
    · obtain ⟨j, hj, rfl⟩ := Option.map_eq_some_iff.mp h
      have := firstP_some hj
      exact ⟨by simp only [List.length_cons]; omega, by simpa using this.2⟩
section
variable {N : Nat} {p : Int}
structure Ker (N : Nat) (p : Int) (B : List Row) (v : List Int) : Prop where
  vv : Vec N p v
  z : leftB p B v = Z N
def rowP (p : Int) (L : List Int) (k : Nat) : List Int := L.map fun n => (L.getD k 0 * n) % p
theorem row_vec (hp : 0 < p) {L : List Int} (hL : L.length = N) (k : Nat) : Vec N p (rowP p L k) := ⟨by unfold rowP; rw [List.length_map]; exact hL, fun x hx => by
  obtain ⟨n, _, rfl⟩ := List.mem_map.mp hx
  exact ⟨Int.emod_nonneg _ (by omega), Int.emod_lt_of_pos _ hp⟩⟩
theorem row_get {L : List Int} (k j : Nat) : (rowP p L k).getD j 0 = (L.getD k 0 * L.getD j 0) % p := by
  unfold rowP
  by_cases hj : j < L.length
  · rw [List.getD_eq_getElem?_getD, List.getElem?_map, List.getElem?_eq_getElem hj]
    show (L.getD k 0 * L[j]) % p = _
    rw [List.getD_eq_getElem?_getD (i := j), List.getElem?_eq_getElem hj]; rfl
  · rw [getD_ge (by rw [List.length_map]; omega), getD_ge (v := L) (k := j) (by omega)]
    simp
/-- one more row: the kernel is what can be reached with the table -/
theorem ker_snoc (hp : 0 < p) {B : List Row} {t v : List Int} {k : Nat} {e : Int} (hB : BOk N p B) (ht : Vec N p t) (hc : (leftB p B t).getD k 0 * (leftB p B t).getD k 0 = 1 + p * e) :
    Ker N p (B ++ [(k, rowP p (leftB p B t) k)]) v ↔ ∃ s own, (0 ≤ s ∧ s < p) ∧ Ker N p B own ∧ v = ad p s own t := by
  have hL := left_vec hp hB ht
  constructor
  · rintro ⟨hv, hz⟩
    rw [left_snoc] at hz
    have hU := left_vec hp hB hv
    have key : ∀ j, ((leftB p B v).getD j 0 + -((leftB p B v).getD k 0) * (((leftB p B t).getD k 0 * (leftB p B t).getD j 0) % p)) % p = 0 := fun j => by
      have := congrArg (fun l : List Int => l.getD j 0) hz
      simp only [Z_get] at this
      unfold stepB at this
      rw [adp_get (hU.len.trans (row_vec hp hL.len k).len.symm), row_get] at this
      exact this
    generalize hs : ((leftB p B v).getD k 0 * (leftB p B t).getD k 0) % p = s
    have s0 : 0 ≤ s ∧ s < p := by rw [← hs]; exact ⟨Int.emod_nonneg _ (by omega), Int.emod_lt_of_pos _ hp⟩
    have ho := ad_vec (s := -s) hp hv.len ht.len
    refine ⟨s, ad p (-s) v t, s0, ⟨ho, ?_⟩, ?_⟩
    · rw [left_lin hp hB hv ht]
      refine ext_getD ((ad_vec (s := -s) hp hU.len hL.len).len.trans (Z_vec (N := N) hp).len.symm) fun j => ?_
      rw [adp_get (hU.len.trans hL.len.symm), Z_get, ← key j]
      obtain ⟨q1, e1⟩ := emd ((leftB p B v).getD k 0 * (leftB p B t).getD k 0) p
      obtain ⟨q2, e2⟩ := emd ((leftB p B t).getD k 0 * (leftB p B t).getD j 0) p
      rw [← hs, e1, e2]
      refine emc (c := q1 * (leftB p B t).getD j 0 - (leftB p B v).getD k 0 * q2) ?_
      grind
    · refine ext_getD (hv.len.trans (ad_vec (s := s) hp ho.len ht.len).len.symm) fun j => ?_
      rw [adp_get (ho.len.trans ht.len.symm), adp_get (hv.len.trans ht.len.symm)]
      obtain ⟨q1, e1⟩ := emd (v.getD j 0 + -s * t.getD j 0) p
      rw [e1]
      refine (hv.em hp j).symm.trans (emc (c := q1) ?_)
      grind
  · rintro ⟨s, own, s0, ⟨ho, hz⟩, rfl⟩
    refine ⟨ad_vec hp ho.len ht.len, ?_⟩
    have hZ := Z_vec (N := N) hp
    rw [left_snoc, left_lin hp hB ho ht, hz]
    have h1 := ad_vec (s := s) hp hZ.len hL.len
    refine ext_getD ((step_vec hp (b := (k, rowP p (leftB p B t) k)) (row_vec hp hL.len k) h1.len).len.trans hZ.len.symm) fun j => ?_
    unfold stepB
    rw [adp_get (h1.len.trans (row_vec hp hL.len k).len.symm), row_get, adp_get (hZ.len.trans hL.len.symm), adp_get (hZ.len.trans hL.len.symm), Z_get, Z_get]
    obtain ⟨q1, e1⟩ := emd (0 + s * (leftB p B t).getD j 0) p
    obtain ⟨q2, e2⟩ := emd (0 + s * (leftB p B t).getD k 0) p
    obtain ⟨q3, e3⟩ := emd ((leftB p B t).getD k 0 * (leftB p B t).getD j 0) p
    rw [e1, e2, e3]
    generalize (leftB p B t).getD k 0 = c at *
    generalize (leftB p B t).getD j 0 = l at *
    refine Eq.trans (emc (b := 0) (c := -q1 + s * c * q3 + q2 * (c * l) - p * q2 * q3 - s * l * e) ?_) (Int.zero_emod p)
    grind
end
section
variable {N : Nat} {p : Int}
theorem small_eq {a b d : Int} (ha : 0 ≤ a ∧ a < p) (hb : 0 ≤ b ∧ b < p) (h : a = b + p * d) : a = b := by
  have := emc h
  rw [Int.emod_eq_of_lt ha.1 ha.2, Int.emod_eq_of_lt hb.1 hb.2] at this
  exact this
theorem em_eq {x y : Int} (h : x % p = y % p) : ∃ d, x = y + p * d := by
  obtain ⟨q1, e1⟩ := emd x p
  obtain ⟨q2, e2⟩ := emd y p
  exact ⟨q1 - q2, by grind⟩
theorem ker_inj (hp : 0 < p) {B : List Row} {t own own' : List Int} {k : Nat} {e s s' : Int} (hB : BOk N p B) (ht : Vec N p t) (hc : (leftB p B t).getD k 0 * (leftB p B t).getD k 0 = 1 + p * e)
    (h1 : Ker N p B own) (h2 : Ker N p B own') (hs : 0 ≤ s ∧ s < p) (hs' : 0 ≤ s' ∧ s' < p) (h : ad p s own t = ad p s' own' t) : s = s' ∧ own = own' := by
  have hL := left_vec hp hB ht
  have hZ := Z_vec (N := N) hp
  have es : s = s' := by
    have := congrArg (fun l => (leftB p B l).getD k 0) h
    rw [left_lin hp hB h1.vv ht, left_lin hp hB h2.vv ht, h1.z, h2.z, adp_get (hZ.len.trans hL.len.symm), adp_get (hZ.len.trans hL.len.symm), Z_get] at this
    obtain ⟨d, hd⟩ := em_eq this
    generalize (leftB p B t).getD k 0 = c at *
    refine small_eq hs hs' (d := d * c - (s - s') * e) ?_
    grind
  subst es
  refine ⟨rfl, ext_getD (h1.vv.len.trans h2.vv.len.symm) fun j => ?_⟩
  have := congrArg (fun l : List Int => l.getD j 0) h
  rw [adp_get (h1.vv.len.trans ht.len.symm), adp_get (h2.vv.len.trans ht.len.symm)] at this
  obtain ⟨d, hd⟩ := em_eq this
  exact small_eq (h1.vv.at hp j) (h2.vv.at hp j) (d := d) (by omega)
end
def insL (l : List (List Int)) (x : List Int) : List (List Int) := if x ∈ l then l else l ++ [x]
theorem ins_all : ∀ (l acc : List (List Int)), (acc ++ l).Nodup → l.foldl insL acc = acc ++ l
  | [], acc, _ => by simp
  | x :: l, acc, h => by
    have hx : x ∉ acc := fun hm => (List.nodup_append.mp h).2.2 x hm x List.mem_cons_self rfl
    have e : insL acc x = acc ++ [x] := by unfold insL; rw [if_neg hx]
    rw [List.foldl_cons, e, ins_all l (acc ++ [x]) (by rw [List.append_assoc]; exact h), List.append_assoc]; rfl
/-- what stands over all the own of K -/
def prodL (q : Nat) (K : List (List Int)) (t : List Int) : List (List Int) := K.flatMap fun own => (List.range q).map fun s : Nat => ad (q : Int) (s : Int) own t
theorem prodL_len (q : Nat) (t : List Int) : ∀ K : List (List Int), (prodL q K t).length = K.length * q
  | [] => by simp [prodL]
  | a :: K => by
    have := prodL_len q t K
    unfold prodL at this ⊢
    rw [List.flatMap_cons, List.length_append, this, List.length_map, List.length_range, List.length_cons, Nat.succ_mul]
    omega
theorem prodL_mem {q : Nat} {t v : List Int} {K : List (List Int)} : v ∈ prodL q K t ↔ ∃ (s : Nat) (own : List Int), s < q ∧ own ∈ K ∧ v = ad (q : Int) (s : Int) own t := by
  unfold prodL
  constructor
  · intro h
    obtain ⟨own, h1, h2⟩ := List.mem_flatMap.mp h
    obtain ⟨s, h3, rfl⟩ := List.mem_map.mp h2
    exact ⟨s, own, List.mem_range.mp h3, h1, rfl⟩
  · rintro ⟨s, own, h1, h2, rfl⟩
    exact List.mem_flatMap.mpr ⟨own, h2, List.mem_map.mpr ⟨s, List.mem_range.mpr h1, rfl⟩⟩
theorem prodL_nodup {q N : Nat} (hq : 0 < q) {B : List Row} {t : List Int} {k : Nat} {e : Int} (hB : BOk N q B) (ht : Vec N q t) (hc : (leftB q B t).getD k 0 * (leftB q B t).getD k 0 = 1 + (q : Int) * e) :
    ∀ {K : List (List Int)}, K.Nodup → (∀ v ∈ K, Ker N q B v) → (prodL q K t).Nodup
  | [], _, _ => by simp [prodL]
  | a :: K, nd, hK => by
    obtain ⟨n1, n2⟩ := List.nodup_cons.mp nd
    have ih := prodL_nodup hq hB ht hc n2 fun v hv => hK v (List.mem_cons_of_mem _ hv)
    have hp : (0 : Int) < (q : Int) := by omega
    have ea : prodL q (a :: K) t = ((List.range q).map fun s : Nat => ad (q : Int) (s : Int) a t) ++ prodL q K t := by unfold prodL; rw [List.flatMap_cons]
    rw [ea]
    refine List.nodup_append.mpr ⟨?_, ih, fun x hx y hy e => ?_⟩
    · refine List.pairwise_map.mpr ?_
      refine List.Pairwise.imp_of_mem (R := fun a b => a ≠ b) ?_ List.nodup_range
      intro s s' m1 m2 hne h
      have := (ker_inj hp hB ht hc (hK a List.mem_cons_self) (hK a List.mem_cons_self) (s := (s : Int)) (s' := (s' : Int)) (by have := List.mem_range.mp m1; omega) (by have := List.mem_range.mp m2; omega) h).1
      omega
    · subst e
      obtain ⟨s, m1, rfl⟩ := List.mem_map.mp hx
      obtain ⟨s', own, m2, m3, h⟩ := prodL_mem.mp hy
      have := (ker_inj hp hB ht hc (hK a List.mem_cons_self) (hK own (List.mem_cons_of_mem _ m3)) (s := (s : Int)) (s' := (s' : Int)) (by have := List.mem_range.mp m1; omega) (by omega) h).2
      subst this
      exact n1 m3
def growB (p : Int) (B : List Row) (t : List Int) : List Row := match firstP (leftB p B t) with
  | none => B
  | some k => B ++ [(k, rowP p (leftB p B t) k)]
def baseOf (p : Int) (ts : List (List Int)) : List Row := ts.foldl (growB p) []
def withK (q : Nat) (K : List (List Int)) (t : List Int) : List (List Int) := (prodL q K t).foldl insL []
def spanS (q : Nat) (K : List (List Int)) (t : List Int) : List (List Int) := if t ∈ K then K else withK q K t
structure Sp (N q : Nat) (B : List Row) (K : List (List Int)) : Prop where
  bo : BOk N q B
  nd : K.Nodup
  mem : ∀ v, v ∈ K ↔ Ker N q B v
  len : K.length = q ^ B.length
theorem sp_step {N q : Nat} (hq : q = 2 ∨ q = 3) {B : List Row} {K : List (List Int)} {t : List Int} (h : Sp N q B K) (ht : Vec N q t) : Sp N q (growB q B t) (spanS q K t) := by
  have hq0 : 0 < q := by omega
  have hp : (0 : Int) < (q : Int) := by omega
  have hL := left_vec hp h.bo ht
  unfold growB spanS
  cases e : firstP (leftB q B t) with
  | none =>
    have hz := firstP_none e
    have ht' : t ∈ K := (h.mem t).mpr ⟨ht, ext_getD (hL.len.trans (Z_vec (N := N) hp).len.symm) fun k => by rw [hz, Z_get]⟩
    rw [if_pos ht']
    exact h
  | some k =>
    obtain ⟨hk, hne⟩ := firstP_some e
    have ht' : t ∉ K := fun hm => by
      have := ((h.mem t).mp hm).z
      rw [this, Z_get] at hne
      exact hne rfl
    rw [if_neg ht']
    have hc : ∃ e, (leftB q B t).getD k 0 * (leftB q B t).getD k 0 = 1 + (q : Int) * e := by
      have hb := hL.at hp k
      generalize (leftB (q : Int) B t).getD k 0 = c at hb hne ⊢
      rcases hq with rfl | rfl
      · have : c = 1 := by omega
        subst this; exact ⟨0, rfl⟩
      · have : c = 1 ∨ c = 2 := by omega
        rcases this with rfl | rfl
        · exact ⟨0, rfl⟩
        · exact ⟨1, rfl⟩
    obtain ⟨e', hc⟩ := hc
    have nd := prodL_nodup hq0 h.bo ht hc h.nd fun v hv => (h.mem v).mp hv
    have ew : withK q K t = prodL q K t := by unfold withK; rw [ins_all _ _ (by rw [List.nil_append]; exact nd), List.nil_append]
    refine ⟨fun b hb => ?_, by rw [ew]; exact nd, fun v => ?_, ?_⟩
    · rcases List.mem_append.mp hb with hb | hb
      · exact h.bo b hb
      · cases (show b = (k, rowP q (leftB q B t) k) by simpa using hb)
        exact ⟨by show k < N; rw [← hL.len]; exact hk, row_vec hp hL.len k⟩
    · rw [ew, prodL_mem, ker_snoc hp h.bo ht hc]
      constructor
      · rintro ⟨s, own, h1, h2, rfl⟩
        exact ⟨s, own, by omega, (h.mem own).mp h2, rfl⟩
      · rintro ⟨s, own, h1, h2, rfl⟩
        refine ⟨s.toNat, own, by omega, (h.mem own).mpr h2, ?_⟩
        rw [Int.toNat_of_nonneg h1.1]
    · rw [ew, prodL_len, h.len, List.length_append, List.length_singleton, Nat.pow_succ]
end Cm
namespace Cm
open PySem PySem.Spec PyProof.Rows L2 FL
set_option maxHeartbeats 0
def liD (l : List Int) : D := .lst .ice (l.map D.int)
def bsD (b : Row) : D := .tup false [.int (b.1 : Nat), liD b.2]
def r_less_times : FSpec := fun ds _ Q => ∃ (p n : Int) (v t : List Int), ds = [liD v, .int n, liD t, .int p] ∧ 0 < p ∧ (∀ a ∈ v, Bt 100 a) ∧ (∀ a ∈ t, Bt 100 a) ∧ Bt 100 n ∧ v.length ≤ 1000 ∧ t.length ≤ 1000 ∧ ∀ os, Q (.lst .flat ((ad p (-n) v t).map D.int)) os
theorem zp_ints (v t : List Int) : zpD (v.map D.int) (t.map D.int) = (v.zip t).map fun x => .tup false [.int x.1, .int x.2] := by
  induction v generalizing t with
  | nil => cases t <;> rfl
  | cons a v ih =>
    cases t with
    | nil => rfl
    | cons b t => simp only [List.map_cons, zpD, List.zip_cons_cons, ih]
theorem rd_less_times : RD_less_times r_less_times := by
  rintro ds ED QD - ⟨p, n, v, t, rfl, hp, hv, ht, hn, l1, l2, q⟩
  have hz := zp_ints v t
  refine ⟨compR_allE (v.zip t) (fun x => .tup false [.int x.1, .int x.2]) (fun x => .int ((x.1 - n * x.2) % p)) hz (fun x hx => ?_) (fun _ => rfl) ?_⟩
  · obtain ⟨m1, m2⟩ := List.of_mem_zip hx
    exact ⟨rfl, fun _ => ⟨hn.ok (ht _ m2), hp, rfl, rfl⟩, fun h => (nomatch h)⟩
  · have e : (v.zip t).map (fun x => D.int ((x.1 - n * x.2) % p)) = (ad p (-n) v t).map D.int := by
      unfold ad
      rw [List.zip_eq_zipWith, List.map_zipWith, List.map_zipWith]
      congr 1
      funext a b
      rw [show a + -n * b = a - n * b by grind]
    rw [e]
    exact q _
theorem firstP_at : ∀ {L : List Int} {k : Nat}, (∀ j, j < k → L.getD j 0 = 0) → L.getD k 0 ≠ 0 → firstP L = some k
  | [], k, _, h => by simp at h
  | a :: r, 0, _, h => by
    have h : a ≠ 0 := by simpa using h
    simp only [firstP]
    rw [if_pos h]
  | a :: r, k + 1, h0, h => by
    have ha : a = 0 := by simpa using h0 0 (by omega)
    simp only [firstP]
    rw [if_neg (by simpa using ha), firstP_at (L := r) (k := k) (fun j hj => by simpa using h0 (j + 1) (by omega)) (by simpa using h)]
    rfl
def r_first_place : FSpec := fun ds _ Q => ∃ v : List Int, ds = [liD v] ∧ ∀ os, Q (match firstP v with | some k => .int (k : Nat) | none => .non) os
theorem rd_first_place : RD_first_place r_first_place := by
  rintro ds ED QD - ⟨v, rfl, q⟩
  refine ⟨forR_on [] [1, 2] (fun i z => z = [] ∧ ∀ j, j < i → v.getD j 0 = 0) _ _ ⟨rfl, fun j hj => absurd hj (Nat.not_lt_zero _)⟩ ?_ ?_⟩
  · rintro i d z j hd hj ⟨rfl, h0⟩
    rw [enD_get, List.getElem?_map] at hd
    obtain ⟨dv, hdv, rfl⟩ := Option.map_eq_some_iff.mp hd
    obtain ⟨x, hx, rfl⟩ := Option.map_eq_some_iff.mp hdv
    have ex : v.getD i 0 = x := by rw [List.getD_eq_getElem?_getD, hx]; rfl
    match j, hj with
    | [a, b], _ =>
      refine ⟨rfl, fun h => ?_, fun h => ?_⟩
      · have h : x ≠ 0 := by simpa using h
        have := firstP_at h0 (by rw [ex]; exact h)
        rw [this] at q
        rw [Nat.zero_add]
        exact q _
      · have h : x = 0 := by simpa using h
        refine ⟨rfl, rfl, fun j hj => ?_⟩
        by_cases e : j = i
        · rw [e, ex, h]
        · exact h0 j (by omega)
  · rintro z j hj ⟨rfl, h0⟩
    rw [enD_len, List.length_map] at h0
    have : firstP v = none := by
      cases e : firstP v with
      | none => rfl
      | some k =>
        obtain ⟨h1, h2⟩ := firstP_some e
        exact absurd (h0 k h1) h2
    rw [this] at q
    match j, hj with
    | [a, b], _ => exact q _
def r_what_is_left : FSpec := fun ds _ Q => ∃ (N : Nat) (p : Int) (B : List Row) (v : List Int), ds = [.lst .ice (B.map bsD), liD v, .int p] ∧ (p = 2 ∨ p = 3) ∧ N ≤ 1000 ∧ BOk N p B ∧ Vec N p v ∧ ∀ os, Q (liD (leftB p B v)) os
theorem vec_bt {N : Nat} {p : Int} (hp : p = 2 ∨ p = 3) {v : List Int} (h : Vec N p v) : ∀ a ∈ v, Bt 100 a := fun a ha => by
  have := h.bd a ha
  exact bt_in (n := 100) (B := 3) (by omega) (by omega) (by decide)
theorem get_bt {N : Nat} {p : Int} (hp : p = 2 ∨ p = 3) {v : List Int} (h : Vec N p v) (k : Nat) : Bt 100 (v.getD k 0) := by
  have := h.at (by omega) k
  exact bt_in (n := 100) (B := 3) (by omega) (by omega) (by decide)
theorem ad_zero {N : Nat} {p : Int} (hp : 0 < p) {v t : List Int} (hv : Vec N p v) (ht : t.length = N) : ad p (-0) v t = v := by
  refine ext_getD ((ad_vec hp hv.len ht).len.trans hv.len.symm) fun k => ?_
  rw [adp_get (hv.len.trans ht.symm)]
  rw [show v.getD k 0 + -0 * t.getD k 0 = v.getD k 0 by grind]
  exact hv.em hp k
theorem left_take {p : Int} {B : List Row} {v : List Int} {i : Nat} {b : Row} (h : B[i]? = some b) : leftB p (B.take (i + 1)) v = stepB p (leftB p (B.take i) v) b := by
  rw [List.take_succ, h]
  exact left_snoc _ _ _
theorem rd_what_is_left : RD_what_is_left r_what_is_left r_less_times := by
  rintro ds ED QD - ⟨N, p, B, v, rfl, hp, hN, hB, hv, q⟩
  have hp0 : 0 < p := by omega
  refine ⟨forR_on [1] [3, 4] (fun i z => z = [some (liD (leftB p (B.take i) v))]) _ _ rfl ?_ ?_⟩
  · rintro i d z j hd hj rfl
    rw [List.getElem?_map] at hd
    obtain ⟨b, hb, rfl⟩ := Option.map_eq_some_iff.mp hd
    obtain ⟨h1, h2⟩ := hB b (List.mem_of_getElem? hb)
    have hU := left_vec hp0 (B := B.take i) (fun x hx => hB x (List.mem_of_mem_take hx)) hv
    rw [left_take hb]
    generalize leftB p (B.take i) v = U at *
    have hl := hU.len
    match j, hj with
    | [a, c], _ =>
      refine ⟨rfl, ?_⟩
      refine pick_at (by omega) (by omega) (fun _ => rfl) fun x hx => ?_
      have ex : U.getD b.1 0 = x := by rw [List.getD_eq_getElem?_getD, show b.1 = ((b.1 : Nat) : Int).toNat from rfl, hx]; rfl
      refine ⟨fun h => ?_, fun h => ?_⟩
      · refine pick_at (by omega) (by omega) (fun _ => rfl) fun y hy => ?_
        rw [hx] at hy; cases hy
        refine ⟨p, x, U, b.2, rfl, hp0, vec_bt hp hU, vec_bt hp h2, by rw [← ex]; exact get_bt hp hU _, by omega, by rw [h2.len]; omega, fun _ => ⟨rfl, ?_⟩⟩
        unfold stepB
        rw [ex]; rfl
      · have h : x = 0 := by simpa using h
        refine ⟨rfl, ?_⟩
        unfold stepB
        rw [ex, h, ad_zero hp0 hU h2.len]; rfl
  · rintro z j hj rfl
    rw [List.length_map, List.take_length]
    match j, hj with
    | [a, c], _ => exact q _
def r_grown_base : FSpec := fun ds _ Q => ∃ (N : Nat) (p : Int) (B : List Row) (v : List Int), ds = [.lst .ice (B.map bsD), liD v, .int p] ∧ (p = 2 ∨ p = 3) ∧ N ≤ 1000 ∧ B.length ≤ 1000 ∧ BOk N p B ∧ Vec N p v ∧ ∀ o os, Q (.lst o ((growB p B v).map bsD)) os
theorem rd_grown_base : RD_grown_base r_grown_base r_what_is_left r_first_place := by
  rintro ds ED QD - ⟨N, p, B, v, rfl, hp, hN, hBl, hB, hv, q⟩
  have hp0 : 0 < p := by omega
  have hU := left_vec hp0 hB hv
  refine ⟨N, p, B, v, rfl, hp, hN, hB, hv, fun _ => ⟨leftB p B v, rfl, fun _ => ?_⟩⟩
  unfold growB at q
  generalize leftB p B v = U at *
  have hl := hU.len
  cases e : firstP U with
  | none =>
    rw [e] at q
    exact ⟨fun _ => q _ _, fun h => (nomatch h)⟩
  | some k =>
    rw [e] at q
    obtain ⟨hk, hne⟩ := firstP_some e
    refine ⟨fun h => (nomatch h), fun _ => ?_⟩
    refine ⟨compR_allE U D.int (fun n => .int ((U.getD k 0 * n) % p)) rfl (fun n hn => ⟨fun _ => ?_, fun h => (nomatch h)⟩) (fun _ => rfl) ?_⟩
    · refine pick_at (by omega) (by omega) (fun _ => rfl) fun x hx => ?_
      have ex : U.getD k 0 = x := by rw [List.getD_eq_getElem?_getD, show k = ((k : Nat) : Int).toNat from rfl, hx]; rfl
      refine ⟨by rw [← ex]; exact (get_bt hp hU _).ok (vec_bt hp hU n hn), hp0, by rw [ex], rfl⟩
    · refine ⟨by rw [List.length_map, sizeLine_eq]; show B.length + 1 ≤ _; omega, ?_⟩
      have e2 : (U.map fun n => D.int (U.getD k 0 * n % p)) = (rowP p U k).map D.int := by unfold rowP; rw [List.map_map]; rfl
      rw [e2]
      have := q .flat
      rw [List.map_append] at this
      exact this _
theorem frz_rowsL (B : List Row) : frzL (B.map bsD) = B.map bsD := by
  induction B with
  | nil => rfl
  | cons b B ih => show (bsD b).frz :: frzL (B.map bsD) = _; rw [ih]; rfl
def r_base_of : FSpec := fun ds _ Q => ∃ (N : Nat) (p : Int) (ts : List (List Int)), ds = [.lst .ice (ts.map liD), .int p] ∧ (p = 2 ∨ p = 3) ∧ N ≤ 1000 ∧ ts.length ≤ 1000 ∧ (∀ t ∈ ts, Vec N p t) ∧ ∀ os, Q (.lst .ice ((baseOf p ts).map bsD)) os
theorem grow_ok {N : Nat} {p : Int} (hp : 0 < p) {B : List Row} {t : List Int} (hB : BOk N p B) (ht : Vec N p t) : BOk N p (growB p B t) ∧ (growB p B t).length ≤ B.length + 1 := by
  unfold growB
  have hL := left_vec hp hB ht
  cases e : firstP (leftB p B t) with
  | none => exact ⟨hB, by show B.length ≤ _; omega⟩
  | some k =>
    obtain ⟨hk, _⟩ := firstP_some e
    refine ⟨fun b hb => ?_, by simp⟩
    rcases List.mem_append.mp hb with hb | hb
    · exact hB b hb
    · cases (show b = (k, rowP p (leftB p B t) k) by simpa using hb)
      exact ⟨by show k < N; rw [← hL.len]; exact hk, row_vec hp hL.len k⟩
theorem base_ok {N : Nat} {p : Int} (hp : 0 < p) : ∀ (ts : List (List Int)) (B : List Row), BOk N p B → (∀ t ∈ ts, Vec N p t) → BOk N p (ts.foldl (growB p) B) ∧ (ts.foldl (growB p) B).length ≤ B.length + ts.length
  | [], B, hB, _ => ⟨hB, Nat.le_refl _⟩
  | t :: ts, B, hB, ht => by
    obtain ⟨h1, h2⟩ := grow_ok hp hB (ht t List.mem_cons_self)
    obtain ⟨h3, h4⟩ := base_ok hp ts _ h1 fun x hx => ht x (List.mem_cons_of_mem _ hx)
    exact ⟨h3, by rw [List.length_cons]; show ((ts.foldl (growB p) (growB p B t))).length ≤ _; omega⟩
theorem rd_base_of : RD_base_of r_base_of r_grown_base := by
  rintro ds ED QD - ⟨N, p, ts, rfl, hp, hN, hl, ht, q⟩
  have hp0 : 0 < p := by omega
  refine ⟨forR_on [2] [3] (fun i z => z = [some (.lst .ice ((baseOf p (ts.take i)).map bsD))]) _ _ rfl ?_ ?_⟩
  · rintro i d z j hd hj rfl
    rw [List.getElem?_map] at hd
    obtain ⟨t, hb, rfl⟩ := Option.map_eq_some_iff.mp hd
    obtain ⟨h1, h2⟩ := base_ok hp0 (ts.take i) [] (fun b hb => by cases hb) fun x hx => ht x (List.mem_of_mem_take hx)
    rw [List.length_take] at h2
    have e2 : baseOf p (ts.take (i + 1)) = growB p (baseOf p (ts.take i)) t := by unfold baseOf; rw [List.take_succ, hb, List.foldl_append]; rfl
    rw [e2]
    match j, hj with
    | [a], _ =>
      refine ⟨N, p, baseOf p (ts.take i), t, rfl, hp, hN, ?_, h1, ht t (List.mem_of_getElem? hb), fun o _ => ?_⟩
      · have : (baseOf p (ts.take i)).length ≤ 0 + min i ts.length := h2
        omega
      · have ef : (D.lst o ((growB p (baseOf p (ts.take i)) t).map bsD)).frz = .lst .ice ((growB p (baseOf p (ts.take i)) t).map bsD) := by
          cases o <;> first | rfl | (show D.lst .ice (frzL _) = _; rw [frz_rowsL])
        refine ⟨rfl, ?_⟩
        show [some (D.lst o ((growB p (baseOf p (ts.take i)) t).map bsD)).frz] = _
        rw [ef]
  · rintro z j hj rfl
    rw [List.length_map, List.take_length]
    match j, hj with
    | [a], _ => exact q _
/-- a term stands in a task of these sizes -/
structure FTm (t : Cm.Tm) (m a b : Nat) : Prop where
  k0 : 0 ≤ t.k
  k1 : t.k < m
  i0 : 0 ≤ t.i
  i1 : t.i < a
  j0 : 0 ≤ t.j
  j1 : t.j < b
theorem ft_of {t : Cm.Tm} {m a b : Nat} (h : t.fits m a b) : FTm t m a b := ⟨h.k0, h.k1, h.i0, h.i1, h.j0, h.j1⟩
def setT (b : Nat) (p : Int) (T : List (List Int)) (t : Cm.Tm) : List (List Int) := T.set t.k.toNat ((T.getD t.k.toNat []).set (t.i * b + t.j).toNat (t.c % p))
def tabs (a b m : Nat) (p : Int) (ts : List Cm.Tm) : List (List Int) := ts.foldl (setT b p) (List.replicate m (Z (a * b)))
def TOk (N m : Nat) (p : Int) (T : List (List Int)) : Prop := T.length = m ∧ ∀ r ∈ T, Vec N p r
theorem set_vec {N : Nat} {p x : Int} (hp : 0 < p) {r : List Int} (h : Vec N p r) (j : Nat) : Vec N p (r.set j (x % p)) := ⟨by rw [List.length_set]; exact h.len, fun y hy => by
  rcases List.mem_or_eq_of_mem_set hy with hy | rfl
  · exact h.bd y hy
  · exact ⟨Int.emod_nonneg _ (by omega), Int.emod_lt_of_pos _ hp⟩⟩
theorem setT_ok {N m b : Nat} {p : Int} (hp : 0 < p) {T : List (List Int)} {t : Cm.Tm} (h : TOk N m p T) (hk : 0 ≤ t.k ∧ t.k < m) : TOk N m p (setT b p T t) := by
  have hl : t.k.toNat < T.length := by rw [h.1]; omega
  have hr : T.getD t.k.toNat [] ∈ T := by rw [List.getD_eq_getElem?_getD, List.getElem?_eq_getElem hl]; exact List.getElem_mem hl
  refine ⟨by unfold setT; rw [List.length_set]; exact h.1, fun r hr' => ?_⟩
  rcases List.mem_or_eq_of_mem_set hr' with hm | rfl
  · exact h.2 r hm
  · exact set_vec hp (h.2 _ hr) _
theorem tabs_ok {a b m : Nat} {p : Int} (hp : 0 < p) {ts : List Cm.Tm} (h : ∀ t ∈ ts, FTm t m a b) : ∀ i, TOk (a * b) m p (tabs a b m p (ts.take i)) := fun i => by
  have key : ∀ (ts : List Cm.Tm) (T : List (List Int)), TOk (a * b) m p T → (∀ t ∈ ts, FTm t m a b) → TOk (a * b) m p (ts.foldl (setT b p) T) := fun ts => by
    induction ts with
    | nil => exact fun T h _ => h
    | cons t ts ih => exact fun T h ht => ih _ (setT_ok hp h ⟨(ht t List.mem_cons_self).k0, (ht t List.mem_cons_self).k1⟩) fun x hx => ht x (List.mem_cons_of_mem _ hx)
  exact key _ _ ⟨List.length_replicate .., fun r hr => by rw [(List.mem_replicate.mp hr).2]; exact Z_vec hp⟩ fun t ht => h t (List.mem_of_mem_take ht)
def ofD (l : List Int) : D := .lst .flat (l.map D.int)
def tskD (a b m : Nat) (ts : List Cm.Tm) : D := .tup false [.int a, .int b, .int m, .lst .ice (ts.map tmD)]
def r_task_tables : FSpec := fun ds _ Q => ∃ (a b m : Nat) (p : Int) (ts : List Cm.Tm), ds = [tskD a b m ts, .int p] ∧ (p = 2 ∨ p = 3) ∧ (1 ≤ m ∧ m ≤ 100) ∧ a ≤ 100 ∧ b ≤ 100 ∧ (∀ t ∈ ts, FTm t m a b) ∧ ∀ os, Q (.lst .deep ((tabs a b m p ts).map ofD)) os
theorem tables_loop {a b m : Nat} {p : Int} {ts : List Cm.Tm} {y7 : List (Option D)} {E : EE} {F : FL.Fin} (hp : p = 2 ∨ p = 3) (ha : a ≤ 100) (hb : b ≤ 100) (ht : ∀ t ∈ ts, FTm t m a b) {i : Nat} {t : Cm.Tm} (hi : ts[i]? = some t) {d1 : D}
    (q : F.nx ([some d1, some (.int p), some (.lst .deep ((tabs a b m p (ts.take (i + 1))).map ofD)), some (.int t.k), some (.int t.i), some (.int t.j), some (.int t.c)] ++ y7)) (hd : d1 = tskD a b m ts) :
    rSetLP (rpIx (rpN 2) (rVar 3)) (rBin dAdd (oV (rBin dMulX (oV (rVar 4)) (oV (rBin dIx (oV (rVar 0)) (oV (rC (.int 1))))))) (oV (rVar 5))) (rBin dMod (oV (rVar 6)) (oV (rVar 1)))
      ([some d1, some (.int p), some (.lst .deep ((tabs a b m p (ts.take i)).map ofD)), some (.int t.k), some (.int t.i), some (.int t.j), some (.int t.c)] ++ y7) E F := by
  subst hd
  have hp0 : 0 < p := by omega
  obtain ⟨k0, k1, i0, i1, j0, j1⟩ := ht t (List.mem_of_getElem? hi)
  have ok := tabs_ok hp0 ht i
  have e2 : tabs a b m p (ts.take (i + 1)) = setT b p (tabs a b m p (ts.take i)) t := by unfold tabs; rw [List.take_succ, hi, List.foldl_append]; rfl
  rw [e2] at q
  generalize tabs a b m p (ts.take i) = T at *
  have hx : ixN (T.map ofD).length t.k = some t.k.toNat := by rw [List.length_map, ok.1]; exact ixN_of k0 k1
  have hkT : t.k.toNat < T.length := by rw [ok.1]; omega
  have hr : T[t.k.toNat]? = some T[t.k.toNat] := List.getElem?_eq_getElem hkT
  have hv := ok.2 _ (List.getElem_mem hkT)
  have hgd : T.getD t.k.toNat [] = T[t.k.toNat] := by rw [List.getD_eq_getElem?_getD, hr]; rfl
  generalize T[t.k.toNat] = r at *
  have hat : (D.lst .deep (T.map ofD)).atS [t.k.toNat] = some (ofD r) := by
    show (match (T.map ofD)[t.k.toNat]? with | some e => e.atS [] | none => none) = _
    rw [List.getElem?_map, hr]; rfl
  have hin0 : 0 ≤ t.i * (b : Int) + t.j := by have := Int.mul_nonneg i0 (by omega : (0 : Int) ≤ (b : Int)); omega
  have hin1 : t.i * (b : Int) + t.j < (r.length : Int) := by
    rw [hv.len]
    have h1 : (t.i + 1) * (b : Int) ≤ (a : Int) * (b : Int) := Int.mul_le_mul_of_nonneg_right (by omega) (by omega)
    rw [Int.natCast_mul]
    have h2 : (t.i + 1) * (b : Int) = t.i * b + b := by grind
    omega
  refine ⟨hp0, ?_⟩
  show (match ixN (T.map ofD).length t.k with | some j => _ | none => False)
  rw [hx]
  dsimp only
  rw [nf_eq]
  refine ⟨?_, ?_⟩
  · exact (bt_in (n := 100) (B := 100) (by omega) (by omega) (by decide)).ok (bt_in (n := 100) (B := 100) (by omega) (by omega) (by decide))
  · show (match (D.lst .deep (T.map ofD)).atS [t.k.toNat] with | some (D.lst o ds) => _ | x => _)
    rw [hat]
    refine ⟨rfl, rfl, natAt_of (j := (t.i * (b : Int) + t.j).toNat) (by rw [List.length_map]; exact ixN_of hin0 hin1) ?_⟩
    rw [nf_eq]
    have hput : (D.lst .deep (T.map ofD)).put ([] ++ [t.k.toNat]) (D.lst .flat ((r.map D.int).set (t.i * (b : Int) + t.j).toNat (D.int (t.c % p)))) = .lst .deep ((setT b p T t).map ofD) := by
      show (match (T.map ofD)[t.k.toNat]? with | some c => (D.lst .deep (T.map ofD)).withKids ((T.map ofD).set t.k.toNat (c.put [] _)) | none => _) = _
      rw [List.getElem?_map, hr]
      show D.lst .deep ((T.map ofD).set t.k.toNat (D.lst .flat ((r.map D.int).set (t.i * (b : Int) + t.j).toNat (D.int (t.c % p))))) = _
      unfold setT
      rw [hgd, List.map_set]
      unfold ofD
      rw [List.map_set]
    rw [hput]
    exact q
theorem flat_one {α : Type} (n : Nat) (x : α) : (List.replicate n [x]).flatten = List.replicate n x := by
  induction n with
  | zero => rfl
  | succ n ih => rw [List.replicate_succ, List.flatten_cons, ih, List.replicate_succ]; rfl
theorem rd_task_tables : RD_task_tables r_task_tables := by
  rintro ds ED QD - ⟨a, b, m, p, ts, rfl, hp, hm, ha, hb, ht, q⟩
  have hp0 : 0 < p := by omega
  refine ⟨⟨by omega, by omega, by omega⟩, ⟨compR_own (List.range m) (fun j => .int (j : Nat)) (fun _ => ofD (Z (a * b))) (rgD_nat m) (by intro e; have := congrArg List.length e; simp at this; omega) (fun j hj => ⟨fun _ => ?_, fun h => (nomatch h)⟩) (fun _ => rfl) ?_⟩⟩
  · refine ⟨(bt_in (n := 100) (B := 100) (by omega) (by omega) (by decide)).ok (bt_in (n := 100) (B := 100) (by omega) (by omega) (by decide)), ?_⟩
    have eab : ((a : Int) * (b : Int)) = ((a * b : Nat) : Int) := by rw [Int.natCast_mul]
    have hab : a * b ≤ 100 * 100 := Nat.mul_le_mul ha hb
    have etn : ((a : Int) * (b : Int)).toNat = a * b := by rw [eab]; rfl
    refine ⟨by rw [eab]; omega, by rw [eab]; omega, by rw [etn, sizeLine_eq]; show 1 * (a * b) ≤ _; omega, ?_, rfl⟩
    rw [etn]
    show some (D.lst .flat (List.replicate (a * b) [D.int 0]).flatten) = some (.lst .flat ((List.replicate (a * b) (0 : Int)).map D.int))
    rw [List.map_replicate, flat_one]
  · have e0 : (List.range m).map (fun _ => ofD (Z (a * b))) = (tabs a b m p (ts.take 0)).map ofD := by
      show _ = (List.replicate m (Z (a * b))).map ofD
      rw [List.map_replicate, List.map_const', List.length_range]
    rw [e0]
    refine ⟨forR_on [2] [3, 4, 5, 6] (fun i z => z = [some (.lst .deep ((tabs a b m p (ts.take i)).map ofD))]) _ _ rfl ?_ ?_⟩
    · rintro i d z j hd hj rfl
      rw [List.getElem?_map] at hd
      obtain ⟨t, hi, rfl⟩ := Option.map_eq_some_iff.mp hd
      match j, hj with
      | [x3, x4, x5, x6], _ =>
        refine ⟨rfl, tables_loop (y7 := []) hp ha hb ht hi ?_ rfl⟩
        exact ⟨rfl, rfl⟩
    · rintro z j hj rfl
      rw [List.length_map, List.take_length]
      match j, hj with
      | [x3, x4, x5, x6], _ => exact q _
theorem frz_tabs (T : List (List Int)) : frzL (T.map ofD) = T.map liD := by
  induction T with
  | nil => rfl
  | cons b B ih => show (ofD b).frz :: frzL (B.map ofD) = _; rw [ih]; rfl
theorem tabs_all {a b m : Nat} {p : Int} (hp : 0 < p) {ts : List Cm.Tm} (h : ∀ t ∈ ts, FTm t m a b) : TOk (a * b) m p (tabs a b m p ts) := by
  have := tabs_ok hp h ts.length
  rw [List.take_length] at this
  exact this
def extR (q : Nat) (r : List Int) : List (List Int) := (List.range q).map fun j : Nat => r ++ [(j : Int)]
def rowsAll (q : Nat) : Nat → List (List Int)
  | 0 => [[]]
  | n + 1 => (rowsAll q n).flatMap (extR q)
def oneB (r : List Int) : Bool := deq (.lst .flat (cutL ((r.filter fun x => decide (x ≠ 0)).map D.int) none (some 1))) (.lst (Ow.of (ownL [D.int 1])) [.int 1])
def rowsO (q n : Nat) : List (List Int) := (rowsAll q n).filter oneB
theorem extR_len (q : Nat) (r : List Int) : (extR q r).length = q := by unfold extR; rw [List.length_map, List.length_range]
theorem flat_q {q : Nat} : ∀ l : List (List Int), (l.flatMap (extR q)).length = l.length * q
  | [] => by simp
  | a :: l => by rw [List.flatMap_cons, List.length_append, flat_q l, extR_len, List.length_cons, Nat.succ_mul]; omega
theorem rowsAll_len (q : Nat) : ∀ n, (rowsAll q n).length = q ^ n
  | 0 => rfl
  | n + 1 => by
    show ((rowsAll q n).flatMap (extR q)).length = _
    rw [flat_q, rowsAll_len q n, Nat.pow_succ]
theorem rowsAll_row {q : Nat} : ∀ (n : Nat) (r : List Int), r ∈ rowsAll q n → r.length = n
  | 0, r, h => by cases (show r = [] by simpa [rowsAll] using h); rfl
  | n + 1, r, h => by
    obtain ⟨a, h1, h2⟩ := List.mem_flatMap.mp h
    obtain ⟨j, _, rfl⟩ := List.mem_map.mp h2
    rw [List.length_append, rowsAll_row n a h1]; rfl
def r_rows_over : FSpec := fun ds _ Q => ∃ (n q : Nat), ds = [.int n, .int q] ∧ n ≤ 6 ∧ (q = 2 ∨ q = 3) ∧ ∀ os, Q (.lst .flat ((rowsO q n).map rowD)) os
theorem rd_rows_over : RD_rows_over r_rows_over := by
  rintro ds ED QD - ⟨n, q, rfl, hn, hq, qq⟩
  have hq3 : q ≤ 3 := by omega
  have hb : ∀ i, i ≤ 6 → (rowsAll q i).length ≤ 729 := fun i hi => by
    rw [rowsAll_len]
    exact Nat.le_trans (Nat.pow_le_pow_left hq3 i) (Nat.le_trans (Nat.pow_le_pow_right (by decide) hi) (by decide))
  refine ⟨⟨by omega, by omega, by omega⟩, ⟨forR_on [2] [3, 4, 5] (fun i z => z = [some (.lst .ice ((rowsAll q i).map rowD))]) _ _ rfl ?_ ?_⟩⟩
  · rintro i d z j hd hj rfl
    obtain ⟨rfl, hlt⟩ := rgD_at hd
    have hi : i < n := by omega
    match j, hj with
    | [x3, x4, x5], _ =>
      refine ⟨forR_on [4] [5] (fun i1 z => z = [some (.lst .flat ((((rowsAll q i).take i1).flatMap (extR q)).map rowD))]) _ _ rfl ?_ ?_⟩
      · rintro i1 d z j hd hj rfl
        rw [List.getElem?_map] at hd
        obtain ⟨r, hr, rfl⟩ := Option.map_eq_some_iff.mp hd
        have e2 : ((rowsAll q i).take (i1 + 1)).flatMap (extR q) = ((rowsAll q i).take i1).flatMap (extR q) ++ extR q r := flat_take (extR q) hr
        have hrl := rowsAll_row i r (List.mem_of_getElem? hr)
        rw [e2]
        match j, hj with
        | [x5], _ =>
          refine ⟨⟨by omega, by omega, by omega⟩, ⟨compR_allE (List.range q) (fun j => D.int (j : Nat)) (fun j : Nat => rowD (r ++ [(j : Int)])) (rgD_nat q) (fun j hj => ⟨fun _ => ?_, fun h => (nomatch h)⟩) (fun _ => rfl) ?_⟩⟩
          · refine ⟨by rw [List.length_map, sizeLine_eq]; show r.length + 1 ≤ _; omega, ?_, rfl⟩
            show some (D.tup false (r.map D.int ++ [D.int (j : Nat)])) = some (.tup false ((r ++ [(j : Int)]).map D.int))
            rw [List.map_append]; rfl
          · have hl1 : (((rowsAll q i).take i1).flatMap (extR q)).length ≤ 729 * 3 := by
              rw [flat_q, List.length_take]
              exact Nat.mul_le_mul (by have := hb i (by omega); omega) hq3
            refine ⟨rfl, by rw [List.length_map, List.length_map, List.length_range, sizeLine_eq]; omega, ?_⟩
            refine ⟨rfl, ?_⟩
            show [some (D.lst .flat ((((rowsAll q i).take i1).flatMap (extR q)).map rowD ++ (List.range q).map fun j : Nat => rowD (r ++ [(j : Int)])))] = _
            rw [List.map_append]
            unfold extR
            rw [List.map_map]; rfl
      · rintro z j hj rfl
        rw [List.length_map, List.take_length]
        match j, hj with
        | [x5], _ => exact ⟨rfl, rfl⟩
  · rintro z j hj rfl
    have er : (rgD 0 (n : Int)).length = n := by rw [rgD_len]; omega
    rw [er]
    match j, hj with
    | [x3, x4, x5], _ =>
      rw [nf_eq]
      refine ⟨compR_if (rowsAll q n) rowD oneB rowD rfl (fun r hr => ?_) (fun _ => rfl) ?_⟩
      · refine ⟨compR_if r D.int (fun x => decide (x ≠ 0)) D.int rfl (fun x hx => ?_) (fun _ => rfl) ?_⟩
        · refine ⟨fun h => ?_, fun h => ?_⟩
          · have h : x ≠ 0 := by simpa using h
            exact ⟨by rw [if_pos (by simpa using h)], rfl⟩
          · have h : x = 0 := by simpa using h
            exact ⟨by rw [if_neg (by simpa using h)], rfl⟩
        · refine ⟨datL_all.mpr fun d hd => ?_, rfl, Nat.le_trans (Nat.min_le_right _ _) (by decide), fun h => ?_, fun h => ?_⟩
          · have hd := List.mem_of_mem_drop (List.mem_of_mem_take hd)
            obtain ⟨y, _, rfl⟩ := List.mem_map.mp hd; rfl
          · rw [Bool.false_xor] at h
            have h : oneB r = true := h
            exact ⟨by rw [if_pos h], rfl⟩
          · rw [Bool.false_xor] at h
            have h : oneB r = false := h
            exact ⟨by rw [if_neg (by rw [h]; decide)], rfl⟩
      · exact qq _
def pairD (x : List Int × List Int) : D := .tup false [rowD x.1, rowD x.2]
def pairsO (q a b : Nat) : List (List Int × List Int) := (rowsO q a).flatMap fun l => (rowsO q b).map fun r => (l, r)
theorem rowsO_len {q n : Nat} (hn : n ≤ 6) (hq : q = 2 ∨ q = 3) : (rowsO q n).length ≤ 729 := by
  unfold rowsO
  refine Nat.le_trans (List.length_filter_le _ _) ?_
  rw [rowsAll_len]
  exact Nat.le_trans (Nat.pow_le_pow_left (by omega : q ≤ 3) n) (Nat.le_trans (Nat.pow_le_pow_right (by decide) hn) (by decide))
theorem pairs_len (R : List (List Int)) : ∀ L : List (List Int), (L.flatMap fun l => R.map fun r => (l, r)).length = L.length * R.length
  | [] => by simp
  | a :: L => by rw [List.flatMap_cons, List.length_append, pairs_len R L, List.length_map, List.length_cons, Nat.succ_mul]; omega
def r_pairs_over : FSpec := fun ds _ Q => ∃ (a b q : Nat), ds = [.int a, .int b, .int q] ∧ a ≤ 6 ∧ b ≤ 6 ∧ (q = 2 ∨ q = 3) ∧ ∀ os, Q (.lst .flat ((pairsO q a b).map pairD)) os
theorem rd_pairs_over : RD_pairs_over r_pairs_over r_rows_over := by
  rintro ds ED QD - ⟨a, b, q, rfl, ha, hb, hq, qq⟩
  have l1 := rowsO_len ha hq
  have l2 := rowsO_len hb hq
  refine ⟨a, q, rfl, ha, hq, fun _ => ⟨forR_on [3] [4] (fun i z => z = [some (.lst .flat ((((rowsO q a).take i).flatMap fun l => (rowsO q b).map fun r => (l, r)).map pairD))]) _ _ rfl ?_ ?_⟩⟩
  · rintro i d z j hd hj rfl
    rw [List.getElem?_map] at hd
    obtain ⟨l, hl, rfl⟩ := Option.map_eq_some_iff.mp hd
    have e2 : ((rowsO q a).take (i + 1)).flatMap (fun l => (rowsO q b).map fun r => (l, r)) = ((rowsO q a).take i).flatMap (fun l => (rowsO q b).map fun r => (l, r)) ++ (rowsO q b).map fun r => (l, r) := flat_take (fun l => (rowsO q b).map fun r => (l, r)) hl
    rw [e2]
    match j, hj with
    | [x4], _ =>
      refine ⟨b, q, rfl, hb, hq, fun _ => ⟨compR_allE (rowsO q b) rowD (fun r => pairD (l, r)) rfl (fun r hr => ⟨fun _ => ⟨rfl, rfl⟩, fun h => (nomatch h)⟩) (fun _ => rfl) ?_⟩⟩
      have hl1 : (((rowsO q a).take i).flatMap fun l => (rowsO q b).map fun r => (l, r)).length ≤ 729 * 729 := by
        rw [pairs_len, List.length_take]
        exact Nat.mul_le_mul (by omega) l2
      refine ⟨rfl, by rw [List.length_map, List.length_map, sizeLine_eq]; omega, ?_⟩
      refine ⟨rfl, ?_⟩
      show [some (D.lst .flat ((((rowsO q a).take i).flatMap fun l => (rowsO q b).map fun r => (l, r)).map pairD ++ (rowsO q b).map fun r => pairD (l, r)))] = _
      rw [List.map_append, List.map_map]; rfl
  · rintro z j hj rfl
    rw [List.length_map, List.take_length]
    match j, hj with
    | [x4], _ => exact qq _
end Cm
namespace Cm
open PySem PySem.Spec PyProof.Rows L2 FL
def rb_pair_table : RS := (rSeq (rSet 2 (rLst rA0))
  (rSeq (rFor (rItA (rBin dIx (oV (rVar 0)) (oV (rC (.int 0))))) (gNm 3) (rDrop (rExt 2 (rComp (rItA (rBin dIx (oV (rVar 0)) (oV (rC (.int 1))))) (gNm 4) rYes (rBin dMod (oV (rBin dMulX (oV (rVar 3)) (oV (rVar 4)))) (oV (rVar 1))) [4]))))
  (rRet (rVar 2))))
abbrev RD_pair_table (r : FSpec) : Prop := ∀ ds ED QD, ds.length = 2 → r ds ED QD → rb_pair_table (startD ["pair", "p", "found", "a", "b"] ds) (fun c fs ρ => ED c fs (ρ.take 2)) (finD 2 QD)
def rb_lies_in (r_first_place : FSpec) (r_what_is_left : FSpec) : RS := (rRet (rIsN false (oV (rCall [] r_first_place (rAC (oV (rCall [] r_what_is_left (rAC (oV (rVar 0)) (rAC (oV (rVar 1)) (rAC (oV (rVar 2)) rA0))))) rA0)))))
abbrev RD_lies_in (r : FSpec) (r_first_place : FSpec) (r_what_is_left : FSpec) : Prop := ∀ ds ED QD, ds.length = 3 → r ds ED QD → (rb_lies_in r_first_place r_what_is_left) (startD ["base", "table", "p"] ds) (fun c fs ρ => ED c fs (ρ.take 3)) (finD 3 QD)
def rb_many_sets : RS := (rSeq (rSetF 2 (rC (.int 1)))
  (rSeq (rFor (rRg1 (rAC (oV (rVar 1)) rA0)) (gNm 3) (rSetF 2 (rBin dFdiv (oV (rBin dMulX (oV (rVar 2)) (oV (rBin dSub (oV (rVar 0)) (oV (rVar 3)))))) (oV (rIc (fun i => i + 1) (oV (rVar 3)))))))
  (rRet (rVar 2))))
abbrev RD_many_sets (r : FSpec) : Prop := ∀ ds ED QD, ds.length = 2 → r ds ED QD → rb_many_sets (startD ["many", "size", "found", "k"] ds) (fun c fs ρ => ED c fs (ρ.take 2)) (finD 2 QD)
def rb_all_sets : RS := (rSeq (rSetF 2 (rLst (rAC (oV (rTup rA0)) rA0)))
  (rSeq (rFor (rRg1 (rAC (oV (rVar 1)) rA0)) (gNm 3) (rSeq (rSet 4 (rLst rA0))
  (rSeq (rFor (rItA (rVar 2)) (gNm 5) (rSeq (rSetF 6 (rIfE (rTst (rBin dGt (oV (rCB dLen (rAC (oV (rVar 5)) rA0))) (oV (rC (.int 0))))) (rIc (fun i => i + 1) (oV (rBin dIx (oV (rVar 5)) (oV (rC (.int (-1))))))) (rC (.int 0))))
  (rDrop (rExt 4 (rComp (rRg2 (rAC (oV (rVar 6)) (rAC (oV (rIc (fun i => i + 1) (oV (rBin dAdd (oV (rBin dSub (oV (rVar 0)) (oV (rVar 1)))) (oV (rVar 3)))))) rA0))) (gNm 7) rYes (rBin dAdd (oV (rVar 5)) (oV (rFrz (rTup (rAC (oV (rVar 7)) rA0))))) [7])))))
  (rSetF 2 (rVar 4)))))
  (rRet (rVar 2))))
abbrev RD_all_sets (r : FSpec) : Prop := ∀ ds ED QD, ds.length = 2 → r ds ED QD → rb_all_sets (startD ["many", "size", "rows", "k", "longer", "row", "first", "number"] ds) (fun c fs ρ => ED c fs (ρ.take 2)) (finD 2 QD)
def rb_Tables_init (r_base_of : FSpec) (r_pairs_over : FSpec) (r_task_tables : FSpec) (r_pair_table : FSpec) (cv_Tables : Addr) : RS := (rSeq (rNewF 0 cv_Tables [] "task" (rVar 1))
  (rSeq (rNewF 0 cv_Tables ["task"] "p" (rVar 2))
  (rSeq (rNewF 0 cv_Tables ["task", "p"] "base" (rCall [] r_base_of (rAC (oV (rCall [] r_task_tables (rAC (oV (rVar 1)) (rAC (oV (rVar 2)) rA0)))) (rAC (oV (rVar 2)) rA0))))
  (rSeq (rNewF 0 cv_Tables ["task", "p", "base"] "pairs" (rCall [] r_pairs_over (rAC (oV (rBin dIx (oV (rVar 1)) (oV (rC (.int 0))))) (rAC (oV (rBin dIx (oV (rVar 1)) (oV (rC (.int 1))))) (rAC (oV (rVar 2)) rA0)))))
  (rNewF 0 cv_Tables ["task", "p", "base", "pairs"] "tables" (rThaw 0 (rComp (rItA (rUn (dFld cv_Tables ["task", "p", "base", "pairs"] 3) (oV (rVar 0)))) (gNm 3) rYes (rCall [] r_pair_table (rAC (oV (rVar 3)) (rAC (oV (rVar 2)) rA0))) [3])))))))
abbrev RD_Tables_init (r : FSpec) (r_base_of : FSpec) (r_pairs_over : FSpec) (r_task_tables : FSpec) (r_pair_table : FSpec) (cv_Tables : Addr) : Prop := ∀ ds ED QD, ds.length = 3 → r ds ED QD → (rb_Tables_init r_base_of r_pairs_over r_task_tables r_pair_table cv_Tables) (startD ["self", "task", "p", "pair"] ds) (fun c fs ρ => ED c fs (ρ.take 3)) (finD 3 QD)
def rb_Tables_with_set (r_grown_base : FSpec) (cv_Tables : Addr) : RS := (rSeq (rSetF 2 (rUn (dFld cv_Tables ["task", "p", "base", "pairs", "tables"] 2) (oV (rVar 0))))
  (rSeq (rFor (rItA (rVar 1)) (gNm 3) (rSetF 2 (rCall [] r_grown_base (rAC (oV (rVar 2)) (rAC (oV (rBin dIx (oV (rUn (dFld cv_Tables ["task", "p", "base", "pairs", "tables"] 4) (oV (rVar 0)))) (oV (rVar 3)))) (rAC (oV (rUn (dFld cv_Tables ["task", "p", "base", "pairs", "tables"] 1) (oV (rVar 0)))) rA0))))))
  (rRet (rVar 2))))
abbrev RD_Tables_with_set (r : FSpec) (r_grown_base : FSpec) (cv_Tables : Addr) : Prop := ∀ ds ED QD, ds.length = 2 → r ds ED QD → (rb_Tables_with_set r_grown_base cv_Tables) (startD ["self", "numbers", "base", "number"] ds) (fun c fs ρ => ED c fs (ρ.take 2)) (finD 2 QD)
def rb_Tables_pairs_in (r_lies_in : FSpec) (r_grown_base : FSpec) (cv_Tables : Addr) : RS := (rSeq (rSetF 2 (rLst rA0))
  (rSeq (rSet 3 (rLst rA0))
  (rSeq (rFor (rEn (rAC (oV (rUn (dFld cv_Tables ["task", "p", "base", "pairs", "tables"] 4) (oV (rVar 0)))) rA0)) (gTp 2 (gCs (gNm 4) (gCs (gNm 5) gNl))) (rIf (rAnd (rTst (rBin dLt (oV (rCB dLen (rAC (oV (rVar 2)) rA0))) (oV (rCB dLen (rAC (oV (rVar 1)) rA0))))) (rTst (rCall [] r_lies_in (rAC (oV (rVar 1)) (rAC (oV (rVar 5)) (rAC (oV (rUn (dFld cv_Tables ["task", "p", "base", "pairs", "tables"] 1) (oV (rVar 0)))) rA0)))))) (rSeq (rSetF 6 (rCall [] r_grown_base (rAC (oV (rVar 2)) (rAC (oV (rVar 5)) (rAC (oV (rUn (dFld cv_Tables ["task", "p", "base", "pairs", "tables"] 1) (oV (rVar 0)))) rA0)))))
  (rSeq (rCut (rIf (rTst (rBin dGt (oV (rCB dLen (rAC (oV (rVar 6)) rA0))) (oV (rCB dLen (rAC (oV (rVar 2)) rA0))))) (rDrop (rApp 3 (rVar 4))) rNx))
  (rSetF 2 (rVar 6)))) rNx))
  (rRet (rTup (rAC (oV (rVar 3)) (rAC (oV (rVar 2)) rA0)))))))
abbrev RD_Tables_pairs_in (r : FSpec) (r_lies_in : FSpec) (r_grown_base : FSpec) (cv_Tables : Addr) : Prop := ∀ ds ED QD, ds.length = 2 → r ds ED QD → (rb_Tables_pairs_in r_lies_in r_grown_base cv_Tables) (startD ["self", "base", "own", "found", "number", "table", "more"] ds) (fun c fs ρ => ED c fs (ρ.take 2)) (finD 2 QD)
def rb_with_single : RS := (rRet (rBin dAdd (oV (rVar 0)) (oV (rComp (rRg1 (rAC (oV (rVar 2)) rA0)) (gNm 3) rYes (rCB dInt (rAC (oV (rBin dEq (oV (rVar 3)) (oV (rVar 1)))) rA0)) [3]))))
abbrev RD_with_single (r : FSpec) : Prop := ∀ ds ED QD, ds.length = 3 → r ds ED QD → rb_with_single (startD ["table", "place", "size", "here"] ds) (fun c fs ρ => ED c fs (ρ.take 3)) (finD 3 QD)
def rb_scheme_by (r_base_of : FSpec) (r_task_tables : FSpec) (r_with_single : FSpec) (r_what_is_left : FSpec) (cv_Tables : Addr) : RS := (rSeq (rSetF 2 (rCB dLen (rAC (oV (rVar 1)) rA0)))
  (rSeq (rSetF 3 (rComp (rEn (rAC (oV (rVar 1)) rA0)) (gTp 2 (gCs (gNm 9) (gCs (gNm 10) gNl))) rYes (rCall [] r_with_single (rAC (oV (rBin dIx (oV (rUn (dFld cv_Tables ["task", "p", "base", "pairs", "tables"] 4) (oV (rVar 0)))) (oV (rVar 10)))) (rAC (oV (rVar 9)) (rAC (oV (rVar 2)) rA0)))) [10, 9]))
  (rSeq (rSetF 4 (rCall [] r_base_of (rAC (oV (rVar 3)) (rAC (oV (rUn (dFld cv_Tables ["task", "p", "base", "pairs", "tables"] 1) (oV (rVar 0)))) rA0))))
  (rSeq (rSet 5 (rLst rA0))
  (rSeq (rFor (rItA (rFrz (rCall [] r_task_tables (rAC (oV (rUn (dFld cv_Tables ["task", "p", "base", "pairs", "tables"] 0) (oV (rVar 0)))) (rAC (oV (rUn (dFld cv_Tables ["task", "p", "base", "pairs", "tables"] 1) (oV (rVar 0)))) rA0))))) (gNm 6) (rSeq (rSetF 8 (rCall [] r_what_is_left (rAC (oV (rVar 4)) (rAC (oV (rCall [] r_with_single (rAC (oV (rVar 6)) (rAC (oV (rVar 2)) (rAC (oV (rVar 2)) rA0))))) (rAC (oV (rUn (dFld cv_Tables ["task", "p", "base", "pairs", "tables"] 1) (oV (rVar 0)))) rA0)))))
  (rDrop (rApp 5 (rComp (rItA (rSl (oV (rVar 8)) (rP1 (rCB dLen (rAC (oV (rVar 6)) rA0))) rP0)) (gNm 10) rYes (rBin dMod (oV (rIc (fun i => -i) (oV (rVar 10)))) (oV (rUn (dFld cv_Tables ["task", "p", "base", "pairs", "tables"] 1) (oV (rVar 0))))) [10])))))
  (rSeq (rSet 7 (rLst rA0))
  (rSeq (rFor (rEn (rAC (oV (rVar 1)) rA0)) (gTp 2 (gCs (gNm 9) (gCs (gNm 10) gNl))) (rSeq (rAsg (gTp 2 (gCs (gNm 11) (gCs (gNm 12) gNl))) (rBin dIx (oV (rUn (dFld cv_Tables ["task", "p", "base", "pairs", "tables"] 3) (oV (rVar 0)))) (oV (rVar 10))))
  (rDrop (rApp 7 (rTup (rAC (oV (rVar 11)) (rAC (oV (rVar 12)) (rAC (oV (rCB dTuple (rAC (oV (rComp (rItA (rIce 5)) (gNm 13) rYes (rBin dIx (oV (rVar 13)) (oV (rVar 9))) [13])) rA0))) rA0))))))))
  (rRet (rCatT (rSl (oV (rUn (dFld cv_Tables ["task", "p", "base", "pairs", "tables"] 0) (oV (rVar 0)))) rP0 (rP1 (rC (.int 3)))) (rTup (rAC (oV (rVar 7)) rA0)))))))))))
abbrev RD_scheme_by (r : FSpec) (r_base_of : FSpec) (r_task_tables : FSpec) (r_with_single : FSpec) (r_what_is_left : FSpec) (cv_Tables : Addr) : Prop := ∀ ds ED QD, ds.length = 2 → r ds ED QD → (rb_scheme_by r_base_of r_task_tables r_with_single r_what_is_left cv_Tables) (startD ["known", "numbers", "size", "rows", "base", "outs", "table", "products", "left", "at", "number", "l", "r", "out"] ds) (fun c fs ρ => ED c fs (ρ.take 2)) (finD 2 QD)
def rb_least_over (r_Tables_init : FSpec) (r_all_sets : FSpec) (r_many_sets : FSpec) (r_Tables_with_set : FSpec) (r_Tables_pairs_in : FSpec) (r_scheme_by : FSpec) (cv_Tables : Addr) : RS := (rSeq (rSetF 2 (rCall [] (rMk cv_Tables r_Tables_init) (rAC (oV (rVar 0)) (rAC (oV (rVar 1)) rA0))))
  (rSeq (rSetF 3 (rCB dLen (rAC (oV (rUn (dFld cv_Tables ["task", "p", "base", "pairs", "tables"] 3) (oV (rVar 2)))) rA0)))
  (rSeq (rFor (rRg1 (rAC (oV (rIc (fun i => i + 1) (oV (rVar 3)))) rA0)) (gNm 4) (rSeq (rIf (rTst (rBin dGt (oV (rCall [] r_many_sets (rAC (oV (rVar 3)) (rAC (oV (rVar 4)) rA0)))) (oV (rC (.int 3000))))) (rRet (rTup (rAC (oV (rC (.str "open"))) (rAC (oV (rBin dAdd (oV (rCB dLen (rAC (oV (rUn (dFld cv_Tables ["task", "p", "base", "pairs", "tables"] 2) (oV (rVar 2)))) rA0))) (oV (rVar 4)))) rA0)))) rNx)
  (rFor (rItA (rCall [] r_all_sets (rAC (oV (rVar 3)) (rAC (oV (rVar 4)) rA0)))) (gNm 5) (rSeq (rSetF 6 (rMeth 2 cv_Tables ["task", "p", "base", "pairs", "tables"] [] r_Tables_with_set (rAC (oV (rVar 5)) rA0)))
  (rSeq (rSetF 7 (rBin dIx (oV (rFrz (rMeth 2 cv_Tables ["task", "p", "base", "pairs", "tables"] [] r_Tables_pairs_in (rAC (oV (rVar 6)) rA0)))) (oV (rC (.int 0)))))
  (rIf (rTst (rBin dEq (oV (rCB dLen (rAC (oV (rVar 7)) rA0))) (oV (rCB dLen (rAC (oV (rVar 6)) rA0))))) (rRet (rTup (rAC (oV (rC (.str "least"))) (rAC (oV (rBin dAdd (oV (rCB dLen (rAC (oV (rUn (dFld cv_Tables ["task", "p", "base", "pairs", "tables"] 2) (oV (rVar 2)))) rA0))) (oV (rVar 4)))) (rAC (oV (rCall [] r_scheme_by (rAC (oV (rVar 2)) (rAC (oV (rVar 7)) rA0)))) rA0))))) rNx))))))
  (rRet (rTup (rAC (oV (rC (.str "open"))) (rAC (oV (rBin dAdd (oV (rCB dLen (rAC (oV (rUn (dFld cv_Tables ["task", "p", "base", "pairs", "tables"] 2) (oV (rVar 2)))) rA0))) (oV (rVar 3)))) rA0)))))))
abbrev RD_least_over (r : FSpec) (r_Tables_init : FSpec) (r_all_sets : FSpec) (r_many_sets : FSpec) (r_Tables_with_set : FSpec) (r_Tables_pairs_in : FSpec) (r_scheme_by : FSpec) (cv_Tables : Addr) : Prop := ∀ ds ED QD, ds.length = 2 → r ds ED QD → (rb_least_over r_Tables_init r_all_sets r_many_sets r_Tables_with_set r_Tables_pairs_in r_scheme_by cv_Tables) (startD ["task", "p", "known", "many", "size", "numbers", "base", "found"] ds) (fun c fs ρ => ED c fs (ρ.take 2)) (finD 2 QD)
end Cm
namespace Cm
def ch : Nat → Nat → Nat
  | _, 0 => 1
  | 0, _ + 1 => 0
  | n + 1, k + 1 => ch n k + ch n (k + 1)
theorem ch_zero : ∀ {n k : Nat}, n < k → ch n k = 0
  | 0, k + 1, _ => rfl
  | n + 1, k + 1, h => by
    show ch n k + ch n (k + 1) = 0
    rw [ch_zero (by omega : n < k), ch_zero (by omega : n < k + 1)]
theorem ch_pos : ∀ {n k : Nat}, k ≤ n → 1 ≤ ch n k
  | _, 0, _ => by simp [ch]
  | 0, k + 1, h => by omega
  | n + 1, k + 1, h => by
    show 1 ≤ ch n k + ch n (k + 1)
    have := ch_pos (n := n) (k := k) (by omega)
    omega
theorem ch_step : ∀ (n k : Nat), k ≤ n → (k + 1) * ch n (k + 1) = ch n k * (n - k)
  | 0, k, h => by
    obtain rfl : k = 0 := by omega
    rfl
  | n + 1, 0, _ => by
    have ih := ch_step n 0 (by omega)
    have e0 : ch n 0 = 1 := by cases n <;> rfl
    have e1 : ch (n + 1) 0 = 1 := rfl
    show (0 + 1) * (ch n 0 + ch n (0 + 1)) = ch (n + 1) 0 * (n + 1 - 0)
    rw [e0] at ih ⊢
    rw [e1]
    omega
  | n + 1, k + 1, h => by
    show (k + 1 + 1) * (ch n (k + 1) + ch n (k + 1 + 1)) = (ch n k + ch n (k + 1)) * (n + 1 - (k + 1))
    have i1 := ch_step n k (by omega)
    rw [Nat.add_sub_add_right]
    by_cases hk : k + 1 ≤ n
    · have i2 := ch_step n (k + 1) hk
      rw [Nat.mul_add, i2, Nat.add_mul (ch n k), ← i1]
      have e : n - k = n - (k + 1) + 1 := by omega
      rw [e]
      generalize n - (k + 1) = d
      generalize ch n (k + 1) = x
      grind
    · obtain rfl : k = n := by omega
      rw [ch_zero (by omega : k < k + 1), ch_zero (by omega : k < k + 1 + 1)]
      simp
/-- as the program reckons it -/
def msF (n : Int) : Nat → Int
  | 0 => 1
  | k + 1 => msF n k * (n - k) / ((k : Int) + 1)
theorem ms_ch (n : Nat) : ∀ k : Nat, k ≤ n → msF n k = (ch n k : Nat)
  | 0, _ => by cases n <;> rfl
  | k + 1, h => by
    have ih := ms_ch n k (by omega)
    have st := ch_step n k (by omega)
    show msF n k * ((n : Int) - k) / ((k : Int) + 1) = _
    rw [ih, show ((n : Int) - (k : Int)) = ((n - k : Nat) : Int) by omega, ← Int.natCast_mul, ← st, Int.natCast_mul, show ((k + 1 : Nat) : Int) = (k : Int) + 1 by omega, Int.mul_ediv_cancel_left _ (by omega)]
def fstS (row : List Nat) : Nat := match row.getLast? with
  | some x => x + 1
  | none => 0
def nextS (n s k : Nat) (row : List Nat) : List (List Nat) := (List.range (n + k + 1 - s - fstS row)).map fun j => row ++ [fstS row + j]
def setsAt (n s : Nat) : Nat → List (List Nat)
  | 0 => [[]]
  | k + 1 => (setsAt n s k).flatMap (nextS n s k)
theorem fst_snoc (r : List Nat) (x : Nat) : fstS (r ++ [x]) = x + 1 := by
  unfold fstS
  rw [List.getLast?_concat]
/-- rising, below n -/
structure Ris (n : Nat) (r : List Nat) : Prop where
  up : r.Pairwise (· < ·)
  lt : ∀ x ∈ r, x < n
theorem fst_gt : ∀ {r : List Nat}, r.Pairwise (· < ·) → ∀ x ∈ r, x < fstS r := fun {r} h x hx => by
  unfold fstS
  cases e : r.getLast? with
  | none => rw [List.getLast?_eq_none_iff.mp e] at hx; cases hx
  | some y =>
    obtain ⟨i, rfl⟩ := List.getLast?_eq_some_iff.mp e
    show x < y + 1
    rw [List.mem_append, List.mem_singleton] at hx
    rcases hx with hx | rfl
    · have := (List.pairwise_append.mp h).2.2 x hx y (by simp)
      omega
    · omega
theorem sets_ok {n s : Nat} (hs : s ≤ n) : ∀ {k : Nat}, k ≤ s → ∀ r ∈ setsAt n s k, r.length = k ∧ Ris n r ∧ fstS r ≤ n + k - s
  | 0, _, r, h => by
    have : r = [] := by simpa [setsAt] using h
    subst this
    exact ⟨rfl, ⟨.nil, fun x hx => by cases hx⟩, Nat.zero_le _⟩
  | k + 1, hk, r, h => by
    obtain ⟨r0, h0, h⟩ := List.mem_flatMap.mp h
    obtain ⟨h1, h2, h3⟩ := sets_ok hs (by omega) r0 h0
    obtain ⟨j, hj, rfl⟩ := List.mem_map.mp h
    have hj := List.mem_range.mp hj
    refine ⟨by simp [h1], ⟨?_, fun x hx => ?_⟩, ?_⟩
    · refine List.pairwise_append.mpr ⟨h2.up, List.pairwise_singleton _ _, fun a ha b hb => ?_⟩
      rw [List.mem_singleton] at hb
      subst hb
      have := fst_gt h2.up a ha
      omega
    · rw [List.mem_append, List.mem_singleton] at hx
      rcases hx with hx | rfl
      · exact h2.lt x hx
      · omega
    · rw [fst_snoc]; omega
theorem stick : ∀ (M t : Nat), t ≤ M → ((List.range (M + 1 - (t + 1))).map fun j => ch (M - 1 - j) t).sum = ch M (t + 1)
  | 0, t, h => by
    obtain rfl : t = 0 := by omega
    rfl
  | M + 1, t, h => by
    by_cases ht : t ≤ M
    · have ih := stick M t ht
      have e : M + 1 + 1 - (t + 1) = (M + 1 - (t + 1)) + 1 := by omega
      rw [e, List.range_succ_eq_map, List.map_cons, List.sum_cons, List.map_map]
      have e2 : ((fun j => ch (M + 1 - 1 - j) t) ∘ Nat.succ) = fun j => ch (M - 1 - j) t := by
        funext j
        show ch (M + 1 - 1 - (j + 1)) t = _
        rw [show M + 1 - 1 - (j + 1) = M - 1 - j by omega]
      rw [e2, ih]
      rfl
    · obtain rfl : t = M + 1 := by omega
      rw [Nat.sub_self, ch_zero (by omega)]
      rfl
theorem sum_flatMap {α β : Type} (g : α → List β) (f : β → Nat) : ∀ l : List α, ((l.flatMap g).map f).sum = (l.map fun x => ((g x).map f).sum).sum
  | [] => rfl
  | a :: l => by rw [List.flatMap_cons, List.map_append, List.sum_append, sum_flatMap g f l, List.map_cons, List.sum_cons]
theorem sets_sum {n s : Nat} (hs : s ≤ n) : ∀ k, k ≤ s → ((setsAt n s k).map fun r => ch (n - fstS r) (s - k)).sum = ch n s
  | 0, _ => by simp [setsAt, fstS]
  | k + 1, hk => by
    rw [setsAt, sum_flatMap, ← sets_sum hs k (by omega)]
    congr 1
    refine List.map_congr_left fun r hr => ?_
    obtain ⟨_, _, h3⟩ := sets_ok hs (by omega) r hr
    unfold nextS
    rw [List.map_map]
    have e := stick (n - fstS r) (s - k - 1) (by omega)
    rw [show s - k - 1 + 1 = s - k by omega] at e
    rw [← e, show n - fstS r + 1 - (s - k) = n + k + 1 - s - fstS r by omega]
    congr 1
    refine List.map_congr_left fun j hj => ?_
    show ch (n - fstS (r ++ [fstS r + j])) (s - (k + 1)) = ch (n - fstS r - 1 - j) (s - k - 1)
    rw [fst_snoc, show n - (fstS r + j + 1) = n - fstS r - 1 - j by omega, show s - (k + 1) = s - k - 1 by omega]
theorem len_le_sum {α : Type} (f : α → Nat) : ∀ l : List α, (∀ x ∈ l, 1 ≤ f x) → l.length ≤ (l.map f).sum
  | [], _ => Nat.le_refl _
  | a :: l, h => by
    have := h a (List.mem_cons_self ..)
    have := len_le_sum f l fun x hx => h x (List.mem_cons_of_mem _ hx)
    rw [List.length_cons, List.map_cons, List.sum_cons]; omega
theorem sets_len {n s k : Nat} (hs : s ≤ n) (hk : k ≤ s) : (setsAt n s k).length ≤ ch n s := by
  rw [← sets_sum hs k hk]
  exact len_le_sum _ _ fun r hr => by
    obtain ⟨_, _, h3⟩ := sets_ok hs hk r hr
    exact ch_pos (by omega)
/-- every rising row is there -/
theorem ris_mem {n s : Nat} (hs : s ≤ n) : ∀ (r : List Nat) , r.length ≤ s → Ris n r → fstS r ≤ n + r.length - s → r ∈ setsAt n s r.length := by
  intro r
  generalize hk : r.length = k
  induction k generalizing r with
  | zero =>
    intro _ _ _
    rw [List.length_eq_zero_iff.mp hk]
    simp [setsAt]
  | succ k ih =>
    intro h1 h2 h3
    have hne : r ≠ [] := fun e => by rw [e] at hk; cases hk
    obtain ⟨i, x, rfl⟩ : ∃ i x, r = i ++ [x] := ⟨r.dropLast, r.getLast hne, (List.dropLast_concat_getLast hne).symm⟩
    have hk : i.length = k := by simpa using hk
    rw [fst_snoc] at h3
    have hup := List.pairwise_append.mp h2.up
    have hfx : fstS i ≤ x := by
      unfold fstS
      cases e : i.getLast? with
      | none => exact Nat.zero_le _
      | some y =>
        have := hup.2.2 y (List.mem_of_getLast? e) x (by simp)
        exact this
    have ri : Ris n i := ⟨hup.1, fun y hy => h2.lt y (by simp [hy])⟩
    have := ih i hk (by omega) ri (by omega)
    refine List.mem_flatMap.mpr ⟨i, this, List.mem_map.mpr ⟨x - fstS i, List.mem_range.mpr (by omega), ?_⟩⟩
    rw [show fstS i + (x - fstS i) = x by omega]
theorem ris_all {n : Nat} {r : List Nat} (h : Ris n r) : r.length ≤ n ∧ r ∈ setsAt n r.length r.length := by
  have hl : ∀ r : List Nat, Ris n r → r.length ≤ fstS r ∧ fstS r ≤ n := by
    intro r
    generalize hk : r.length = k
    induction k generalizing r with
    | zero =>
      intro h
      rw [List.length_eq_zero_iff.mp hk]
      exact ⟨Nat.zero_le _, Nat.zero_le _⟩
    | succ k ih =>
      intro h
      have hne : r ≠ [] := fun e => by rw [e] at hk; cases hk
      obtain ⟨i, x, rfl⟩ : ∃ i x, r = i ++ [x] := ⟨r.dropLast, r.getLast hne, (List.dropLast_concat_getLast hne).symm⟩
      have hk : i.length = k := by simpa using hk
      have hup := List.pairwise_append.mp h.up
      have := ih i hk ⟨hup.1, fun y hy => h.lt y (by simp [hy])⟩
      have hx := h.lt x (by simp)
      have hfx : fstS i ≤ x := by
        unfold fstS
        cases e : i.getLast? with
        | none => exact Nat.zero_le _
        | some y => exact hup.2.2 y (List.mem_of_getLast? e) x (by simp)
      rw [fst_snoc]
      omega
  have h1 := hl r h
  exact ⟨by omega, ris_mem (by omega) r (Nat.le_refl _) h (by omega)⟩
end Cm
namespace Cm
structure Sub (N : Nat) (q : Int) (M : List Int → Prop) : Prop where
  vv : ∀ v, M v → Vec N q v
  z : M (Z N)
  ad : ∀ s v t, M v → M t → M (ad q s v t)
def Gd (N q : Nat) (B : List Row) : Prop := ∃ K, Sp N q B K
theorem len_sub {α : Type} [BEq α] [LawfulBEq α] : ∀ {l ks : List α}, l.Nodup → (∀ x ∈ l, x ∈ ks) → l.length ≤ ks.length
  | [], _, _, _ => Nat.zero_le _
  | a :: r, ks, h, hs => by
    have ha : a ∈ ks := hs a List.mem_cons_self
    obtain ⟨h1, h2⟩ := List.nodup_cons.mp h
    have := len_sub (l := r) (ks := ks.erase a) h2 fun x hx => (List.mem_erase_of_ne (fun e => h1 (by rw [← e]; exact hx))).mpr (hs x (List.mem_cons_of_mem _ hx))
    rw [List.length_erase_of_mem ha] at this
    have := List.length_pos_of_mem ha
    rw [List.length_cons]; omega
theorem len_eqv {l ks : List (List Int)} (h : l.Nodup) (hs : ∀ x ∈ l, x ∈ ks) (hk : ks.length ≤ l.length) : ∀ x ∈ ks, x ∈ l := fun x hx => by
  apply Classical.byContradiction
  intro hn
  have := len_sub (l := x :: l) (ks := ks) (List.nodup_cons.mpr ⟨hn, h⟩) fun y hy => by
    rcases List.mem_cons.mp hy with rfl | hy
    · exact hx
    · exact hs y hy
  rw [List.length_cons] at this
  omega
section
variable {N q : Nat}
theorem adv0 {p : Int} (hp : 0 < p) {v t : List Int} (hv : Vec N p v) (ht : t.length = N) : ad p 0 v t = v := by
  refine ext_getD ((ad_vec hp hv.len ht).len.trans hv.len.symm) fun k => ?_
  rw [adp_get (hv.len.trans ht.symm), Int.zero_mul, Int.add_zero, hv.em hp]
theorem adz1 {p : Int} (hp : 0 < p) {t : List Int} (ht : Vec N p t) : ad p 1 (Z N) t = t := by
  refine ext_getD ((ad_vec hp (Z_vec (N := N) hp).len ht.len).len.trans ht.len.symm) fun k => ?_
  rw [adp_get ((Z_vec (N := N) hp).len.trans ht.len.symm), Z_get, Int.one_mul, Int.zero_add, ht.em hp]
theorem adzz {p s : Int} (hp : 0 < p) : ad p s (Z N) (Z N) = Z N := by
  refine ext_getD ((ad_vec hp (Z_vec (N := N) hp).len (Z_vec (N := N) hp).len).len.trans (Z_vec (N := N) hp).len.symm) fun k => ?_
  rw [adp_get rfl, Z_get]; simp
theorem inv_ex (hq : q = 2 ∨ q = 3) {c : Int} (hb : 0 ≤ c ∧ c < (q : Int)) (hne : c ≠ 0) : ∃ e, c * c = 1 + (q : Int) * e := by
  rcases hq with rfl | rfl
  · have : c = 1 := by omega
    subst this; exact ⟨0, rfl⟩
  · have : c = 1 ∨ c = 2 := by omega
    rcases this with rfl | rfl
    · exact ⟨0, rfl⟩
    · exact ⟨1, rfl⟩
theorem left_Z {p : Int} (hp : 0 < p) : ∀ {B : List Row}, BOk N p B → leftB p B (Z N) = Z N
  | [], _ => rfl
  | b :: B, hB => by
    have hb := (hB b List.mem_cons_self).2
    show leftB p B (stepB p (Z N) b) = Z N
    have e : stepB p (Z N) b = Z N := by
      unfold stepB
      rw [Z_get]
      exact adv0 hp (Z_vec hp) hb.len
    rw [e]
    exact left_Z hp fun x hx => hB x (List.mem_cons_of_mem _ hx)
theorem ker_sub {p : Int} (hp : 0 < p) {B : List Row} (hB : BOk N p B) : Sub N p (Ker N p B) :=
  ⟨fun _ h => h.vv, ⟨Z_vec hp, left_Z hp hB⟩, fun s v t hv ht => ⟨ad_vec hp hv.vv.len ht.vv.len, by rw [left_lin hp hB hv.vv ht.vv, hv.z, ht.z, adzz hp]⟩⟩
theorem gd_nil (hq : 0 < q) : Gd N q [] := ⟨[Z N], ⟨fun b hb => (by cases hb), (by simp), fun v => ⟨fun h => by
  cases (show v = Z N by simpa using h)
  exact ⟨Z_vec (by omega), rfl⟩, fun ⟨_, hz⟩ => by
  have hz : v = Z N := hz
  rw [hz]; simp⟩, rfl⟩⟩
theorem gd_grow (hq : q = 2 ∨ q = 3) {B : List Row} {t : List Int} (h : Gd N q B) (ht : Vec N q t) : Gd N q (growB q B t) := by
  obtain ⟨K, h⟩ := h
  exact ⟨_, sp_step hq h ht⟩
theorem Gd.bo {B : List Row} (h : Gd N q B) : BOk N q B := by obtain ⟨K, h⟩ := h; exact h.bo
theorem dim_le (hq : q = 2 ∨ q = 3) {B B' : List Row} (h : Gd N q B) (h' : Gd N q B') (hs : ∀ v, Ker N q B v → Ker N q B' v) : B.length ≤ B'.length ∧ (B.length = B'.length → ∀ v, Ker N q B' v → Ker N q B v) := by
  obtain ⟨K, h⟩ := h
  obtain ⟨K', h'⟩ := h'
  have sub : ∀ x ∈ K, x ∈ K' := fun x hx => (h'.mem x).mpr (hs x ((h.mem x).mp hx))
  have := len_sub h.nd sub
  rw [h.len, h'.len] at this
  refine ⟨?_, fun e v hv => ?_⟩
  · apply Classical.byContradiction
    intro hn
    have := Nat.pow_lt_pow_right (a := q) (by omega) (show B'.length < B.length by omega)
    omega
  · exact (h.mem v).mp (len_eqv h.nd sub (by rw [h.len, h'.len, e]; exact Nat.le_refl _) v ((h'.mem v).mpr hv))
theorem left_in {p : Int} (hp : 0 < p) {B : List Row} {t : List Int} (hB : BOk N p B) (ht : Vec N p t) : firstP (leftB p B t) = none ↔ Ker N p B t := by
  constructor
  · intro e
    have hz := firstP_none e
    exact ⟨ht, ext_getD ((left_vec hp hB ht).len.trans (Z_vec (N := N) hp).len.symm) fun k => by rw [hz, Z_get]⟩
  · intro h
    cases e : firstP (leftB p B t) with
    | none => rfl
    | some k =>
      have := (firstP_some e).2
      rw [h.z, Z_get] at this
      exact absurd rfl this
theorem grow_in (hq : q = 2 ∨ q = 3) {B : List Row} {t : List Int} (hB : Gd N q B) (h : Ker N q B t) : growB q B t = B := by
  unfold growB
  rw [(left_in (by omega) hB.bo h.vv).mpr h]
theorem grow_out (hq : q = 2 ∨ q = 3) {B : List Row} {t : List Int} (hB : Gd N q B) (ht : Vec N q t) (h : ¬ Ker N q B t) : (growB q B t).length = B.length + 1 := by
  unfold growB
  cases e : firstP (leftB q B t) with
  | none => exact absurd ((left_in (by omega) hB.bo ht).mp e) h
  | some k => simp
structure GrowOk (N q : Nat) (B : List Row) (t : List Int) : Prop where
  gd : Gd N q (growB q B t)
  up : ∀ v, Ker N q B v → Ker N q (growB q B t) v
  it : Ker N q (growB q B t) t
  mn : ∀ M, Sub N q M → (∀ v, Ker N q B v → M v) → M t → ∀ v, Ker N q (growB q B t) v → M v
  le : B.length ≤ (growB q B t).length ∧ (growB q B t).length ≤ B.length + 1
theorem grow_all (hq : q = 2 ∨ q = 3) {B : List Row} {t : List Int} (h : Gd N q B) (ht : Vec N q t) : GrowOk N q B t := by
  have hp : (0 : Int) < (q : Int) := by omega
  have hg := gd_grow hq h ht
  by_cases hk : Ker N q B t
  · rw [show GrowOk N q B t ↔ GrowOk N q B t from Iff.rfl]
    have e := grow_in hq h hk
    exact ⟨hg, by rw [e]; exact fun _ h => h, by rw [e]; exact hk, by rw [e]; exact fun M _ h1 _ v hv => h1 v hv, by rw [e]; omega⟩
  · cases e : firstP (leftB q B t) with
    | none => exact absurd ((left_in hp h.bo ht).mp e) hk
    | some k =>
      have eg : growB q B t = B ++ [(k, rowP q (leftB q B t) k)] := by unfold growB; rw [e]
      obtain ⟨e', hc⟩ := inv_ex hq ((left_vec hp h.bo ht).at hp k) (firstP_some e).2
      have hs := fun v => ker_snoc (v := v) hp h.bo ht hc
      have hz := (ker_sub hp h.bo).z
      refine ⟨hg, ?_, ?_, ?_, by rw [eg]; simp⟩
      · intro v hv
        rw [eg, hs]
        exact ⟨0, v, by omega, hv, (adv0 hp hv.vv ht.len).symm⟩
      · rw [eg, hs]
        exact ⟨1, Z N, by omega, hz, (adz1 hp ht).symm⟩
      · intro M hM h1 h2 v hv
        rw [eg, hs] at hv
        obtain ⟨s, own, _, ho, rfl⟩ := hv
        exact hM.ad _ _ _ (h1 _ ho) h2
def spB (q : Int) (B : List Row) (l : List (List Int)) : List Row := l.foldl (growB q) B
structure SpOk (N q : Nat) (B : List Row) (l : List (List Int)) : Prop where
  gd : Gd N q (spB q B l)
  up : ∀ v, Ker N q B v → Ker N q (spB q B l) v
  it : ∀ t ∈ l, Ker N q (spB q B l) t
  mn : ∀ M, Sub N q M → (∀ v, Ker N q B v → M v) → (∀ t ∈ l, M t) → ∀ v, Ker N q (spB q B l) v → M v
  le : B.length ≤ (spB q B l).length ∧ (spB q B l).length ≤ B.length + l.length
theorem sp_ok (hq : q = 2 ∨ q = 3) : ∀ {l : List (List Int)} {B : List Row}, Gd N q B → (∀ t ∈ l, Vec N q t) → SpOk N q B l
  | [], B, h, _ => ⟨h, fun _ h => h, fun _ h => (by cases h), fun M _ h1 _ v hv => h1 v hv, by simp [spB]⟩
  | t :: l, B, h, ht => by
    have g := grow_all hq h (ht t List.mem_cons_self)
    have s := sp_ok hq (l := l) g.gd fun x hx => ht x (List.mem_cons_of_mem _ hx)
    refine ⟨s.gd, fun v hv => s.up v (g.up v hv), fun x hx => ?_, fun M hM h1 h2 => ?_, ?_⟩
    · rcases List.mem_cons.mp hx with rfl | hx
      · exact s.up _ g.it
      · exact s.it x hx
    · exact s.mn M hM (g.mn M hM h1 (h2 t List.mem_cons_self)) fun x hx => h2 x (List.mem_cons_of_mem _ hx)
    · have h1 := s.le
      have h2 := g.le
      show B.length ≤ (spB q (growB q B t) l).length ∧ (spB q (growB q B t) l).length ≤ B.length + (l.length + 1)
      omega
def inB (q : Int) (B : List Row) (v : List Int) : Bool := (firstP (leftB q B v)).isNone
theorem inB_iff {p : Int} (hp : 0 < p) {B : List Row} {t : List Int} (hB : BOk N p B) (ht : Vec N p t) : inB p B t = true ↔ Ker N p B t := by
  rw [← left_in hp hB ht]
  unfold inB
  cases firstP (leftB p B t) <;> simp
def pinS (q : Int) (base : List Row) (s : List Row × List Nat) (n : Nat) (t : List Int) : List Row × List Nat :=
  if s.1.length < base.length ∧ inB q base t = true then (growB q s.1 t, if s.1.length < (growB q s.1 t).length then s.2 ++ [n] else s.2) else s
def pinN (q : Int) (base : List Row) (T : List (List Int)) : Nat → List Row × List Nat
  | 0 => ([], [])
  | k + 1 => pinS q base (pinN q base T k) k (T.getD k [])
def tsOf (T : List (List Int)) (S : List Nat) : List (List Int) := S.map fun n => T.getD n []
structure PinOk (N q : Nat) (base : List Row) (T : List (List Int)) (k : Nat) (s : List Row × List Nat) : Prop where
  gd : Gd N q s.1
  eq : s.1 = spB q [] (tsOf T s.2)
  ln : s.2.length = s.1.length
  ris : Ris k s.2
  inn : ∀ v, Ker N q s.1 v → Ker N q base v
  full : s.1.length = base.length ∨ ∀ j, j < k → Ker N q base (T.getD j []) → Ker N q s.1 (T.getD j [])
theorem ris_mono {n m : Nat} (h : n ≤ m) {r : List Nat} (hr : Ris n r) : Ris m r := ⟨hr.up, fun x hx => Nat.lt_of_lt_of_le (hr.lt x hx) h⟩
theorem ris_snoc {n : Nat} {r : List Nat} (hr : Ris n r) : Ris (n + 1) (r ++ [n]) := ⟨List.pairwise_append.mpr ⟨hr.up, List.pairwise_singleton _ _, fun a ha b hb => by
  rw [List.mem_singleton] at hb
  subst hb
  exact hr.lt a ha⟩, fun x hx => by
  rw [List.mem_append, List.mem_singleton] at hx
  rcases hx with hx | rfl
  · exact Nat.lt_succ_of_lt (hr.lt x hx)
  · exact Nat.lt_succ_self _⟩
theorem getD_vec {T : List (List Int)} {p : Int} (hT : ∀ t ∈ T, Vec N p t) {k : Nat} (hk : k < T.length) : Vec N p (T.getD k []) := by
  rw [List.getD_eq_getElem?_getD, List.getElem?_eq_getElem hk]
  exact hT _ (List.getElem_mem hk)
theorem pin_ok (hq : q = 2 ∨ q = 3) {base : List Row} {T : List (List Int)} (hb : Gd N q base) (hT : ∀ t ∈ T, Vec N q t) : ∀ {k : Nat}, k ≤ T.length → PinOk N q base T k (pinN q base T k)
  | 0, _ => by
    have hp : (0 : Int) < (q : Int) := by omega
    exact ⟨gd_nil (by omega), rfl, rfl, ⟨.nil, fun x hx => (by cases hx)⟩, fun v hv => by
      have : v = Z N := hv.z
      rw [this]; exact (ker_sub hp hb.bo).z, .inr fun j hj => absurd hj (Nat.not_lt_zero _)⟩
  | k + 1, hk => by
    have hp : (0 : Int) < (q : Int) := by omega
    have ih := pin_ok hq hb hT (k := k) (by omega)
    have ht := getD_vec hT (show k < T.length by omega)
    show PinOk N q base T (k + 1) (pinS q base (pinN q base T k) k (T.getD k []))
    generalize pinN q base T k = s at ih ⊢
    generalize et : T.getD k [] = t at ht ⊢
    unfold pinS
    by_cases h : s.1.length < base.length ∧ inB q base t = true
    · rw [if_pos h]
      have hkb := (inB_iff hp hb.bo ht).mp h.2
      have g := grow_all hq ih.gd ht
      have inn : ∀ v, Ker N q (growB q s.1 t) v → Ker N q base v := g.mn _ (ker_sub hp hb.bo) ih.inn hkb
      have hall : ∀ j, j < k + 1 → Ker N q base (T.getD j []) → Ker N q (growB q s.1 t) (T.getD j []) := fun j hj hv => by
        rcases ih.full with hf | hf
        · omega
        · by_cases e : j = k
          · rw [e, et]; exact g.it
          · exact g.up _ (hf j (by omega) hv)
      by_cases hkk : Ker N q s.1 t
      · have e := grow_in hq ih.gd hkk
        rw [e] at hall inn ⊢
        rw [if_neg (Nat.lt_irrefl _)]
        exact ⟨ih.gd, ih.eq, ih.ln, ris_mono (Nat.le_succ _) ih.ris, inn, .inr hall⟩
      · have e := grow_out hq ih.gd ht hkk
        rw [if_pos (by omega)]
        refine ⟨g.gd, ?_, ?_, ris_snoc ih.ris, inn, .inr hall⟩
        · show growB q s.1 t = spB q [] (tsOf T (s.2 ++ [k]))
          unfold tsOf spB
          rw [List.map_append, List.foldl_append]
          show _ = growB q (spB q [] (tsOf T s.2)) (T.getD k [])
          rw [← ih.eq, et]
        · show (s.2 ++ [k]).length = (growB q s.1 t).length
          rw [e, List.length_append, ih.ln]; rfl
    · rw [if_neg h]
      refine ⟨ih.gd, ih.eq, ih.ln, ris_mono (Nat.le_succ _) ih.ris, ih.inn, ?_⟩
      rcases ih.full with hf | hf
      · exact .inl hf
      · have hle := (dim_le hq ih.gd hb ih.inn).1
        by_cases hl : s.1.length = base.length
        · exact .inl hl
        · right
          intro j hj hv
          by_cases e : j = k
          · subst e
            rw [et] at hv
            exact absurd ⟨by omega, (inB_iff hp hb.bo ht).mpr hv⟩ h
          · exact hf j (by omega) hv
/-- the tables among a base's sums tell all of them -/
def Tol (N : Nat) (q : Int) (T : List (List Int)) (base : List Row) : Prop := ∀ M, Sub N q M → (∀ t ∈ T, Ker N q base t → M t) → ∀ v, Ker N q base v → M v
theorem mem_getD {T : List (List Int)} {k : Nat} (hk : k < T.length) : T.getD k [] ∈ T := by
  rw [List.getD_eq_getElem?_getD, List.getElem?_eq_getElem hk]
  exact List.getElem_mem hk
theorem getD_of_mem {T : List (List Int)} {t : List Int} (h : t ∈ T) : ∃ j, j < T.length ∧ T.getD j [] = t := by
  obtain ⟨j, hj, rfl⟩ := List.mem_iff_getElem.mp h
  exact ⟨j, hj, by rw [List.getD_eq_getElem?_getD, List.getElem?_eq_getElem hj]; rfl⟩
def pin (q : Int) (base : List Row) (T : List (List Int)) : List Row × List Nat := pinN q base T T.length
theorem pin_tol (hq : q = 2 ∨ q = 3) {base : List Row} {T : List (List Int)} (hb : Gd N q base) (hT : ∀ t ∈ T, Vec N q t) : (pin q base T).1.length = base.length ↔ Tol N q T base := by
  have hp : (0 : Int) < (q : Int) := by omega
  have P := pin_ok hq hb hT (Nat.le_refl _)
  show (pinN q base T T.length).1.length = base.length ↔ _
  constructor
  · intro e M hM h v hv
    have hv := (dim_le hq P.gd hb P.inn).2 e v hv
    rw [P.eq] at hv
    have vs : ∀ t ∈ tsOf T (pinN q base T T.length).2, t ∈ T ∧ Ker N q base t := fun t ht => by
      obtain ⟨n, hn, rfl⟩ := List.mem_map.mp ht
      refine ⟨mem_getD (P.ris.lt n hn), P.inn _ ?_⟩
      rw [P.eq]
      refine (sp_ok hq (gd_nil (by omega)) fun t ht => ?_).it _ ht
      obtain ⟨n, hn, rfl⟩ := List.mem_map.mp ht
      exact getD_vec hT (P.ris.lt n hn)
    refine (sp_ok hq (gd_nil (by omega)) fun t ht => hT t (vs t ht).1).mn M hM (fun v hv => ?_) (fun t ht => h t (vs t ht).1 (vs t ht).2) v hv
    have : v = Z N := hv.z
    rw [this]; exact hM.z
  · intro h
    rcases P.full with hf | hf
    · exact hf
    · refine Nat.le_antisymm (dim_le hq P.gd hb P.inn).1 (dim_le hq hb P.gd ?_).1
      refine h _ (ker_sub hp P.gd.bo) fun t ht hk => ?_
      obtain ⟨j, hj, rfl⟩ := getD_of_mem ht
      exact hf j hj hk
end
end Cm
namespace Cm
section
variable {N q : Nat}
def baseS (q : Int) (B0 : List Row) (T : List (List Int)) (S : List Nat) : List Row := spB q B0 (tsOf T S)
def okQ (q : Int) (B0 : List Row) (T : List (List Int)) (S : List Nat) : Bool := decide ((pin q (baseS q B0 T S) T).2.length = (baseS q B0 T S).length)
structure Cxt (N q : Nat) (B0 : List Row) (T : List (List Int)) : Prop where
  hq : q = 2 ∨ q = 3
  hB : Gd N q B0
  hT : ∀ t ∈ T, Vec N q t
variable {B0 : List Row} {T : List (List Int)}
theorem Cxt.pos (c : Cxt N q B0 T) : (0 : Int) < (q : Int) := by have := c.hq; omega
theorem Cxt.tsv (c : Cxt N q B0 T) {S : List Nat} (h : ∀ n ∈ S, n < T.length) : ∀ t ∈ tsOf T S, Vec N q t := fun t ht => by
  obtain ⟨n, hn, rfl⟩ := List.mem_map.mp ht
  exact getD_vec c.hT (h n hn)
theorem Cxt.sp (c : Cxt N q B0 T) {S : List Nat} (h : ∀ n ∈ S, n < T.length) : SpOk N q B0 (tsOf T S) := sp_ok c.hq c.hB (c.tsv h)
theorem Cxt.sp0 (c : Cxt N q B0 T) {S : List Nat} (h : ∀ n ∈ S, n < T.length) : SpOk N q [] (tsOf T S) := sp_ok c.hq (gd_nil (by have := c.hq; omega)) (c.tsv h)
theorem ker_nil {M : List Int → Prop} {p : Int} (hM : Sub N p M) : ∀ v, Ker N p [] v → M v := fun v hv => by
  have : v = Z N := hv.z
  rw [this]; exact hM.z
theorem mem_ts {S : List Nat} {n : Nat} (h : n ∈ S) : T.getD n [] ∈ tsOf T S := List.mem_map.mpr ⟨n, h, rfl⟩
theorem okQ_iff (c : Cxt N q B0 T) {S : List Nat} (h : ∀ n ∈ S, n < T.length) : okQ q B0 T S = true ↔ Tol N q T (baseS q B0 T S) := by
  have g : Gd N q (baseS q B0 T S) := (c.sp h).gd
  rw [← pin_tol c.hq g c.hT]
  unfold okQ
  rw [decide_eq_true_iff]
  have P := (pin_ok c.hq g c.hT (Nat.le_refl T.length)).ln
  show (pinN _ _ _ _).2.length = _ ↔ (pinN _ _ _ _).1.length = _
  have P : (pinN q (baseS q B0 T S) T T.length).2.length = (pinN q (baseS q B0 T S) T T.length).1.length := P
  rw [P]
def chN (q : Int) (B0 : List Row) (T : List (List Int)) (P : List Nat) : Nat → List Nat
  | 0 => []
  | k + 1 => if k ∈ P ∧ inB q (baseS q B0 T (chN q B0 T P k)) (T.getD k []) = false then chN q B0 T P k ++ [k] else chN q B0 T P k
structure ChOk (N q : Nat) (B0 : List Row) (T : List (List Int)) (P : List Nat) (k : Nat) (S : List Nat) : Prop where
  ris : Ris k S
  sub : ∀ n ∈ S, n ∈ P
  len : (baseS q B0 T S).length = B0.length + S.length
  all : ∀ j, j < k → j ∈ P → Ker N q (baseS q B0 T S) (T.getD j [])
theorem base_snoc (q : Int) (S : List Nat) (n : Nat) : baseS q B0 T (S ++ [n]) = growB q (baseS q B0 T S) (T.getD n []) := by
  unfold baseS spB tsOf
  rw [List.map_append, List.foldl_append]; rfl
theorem ch_ok (c : Cxt N q B0 T) {P : List Nat} (hP : ∀ n ∈ P, n < T.length) : ∀ {k : Nat}, k ≤ T.length → ChOk N q B0 T P k (chN q B0 T P k)
  | 0, _ => ⟨⟨.nil, fun x hx => by cases hx⟩, fun _ h => (by cases h), by show B0.length = B0.length + 0; omega, fun j hj => absurd hj (Nat.not_lt_zero _)⟩
  | k + 1, hk => by
    have ih := ch_ok c hP (k := k) (by omega)
    have ht := getD_vec c.hT (show k < T.length by omega)
    have sp := c.sp fun n hn => hP n (ih.sub n hn)
    unfold chN
    generalize chN q B0 T P k = S at ih sp ⊢
    have sp : SpOk N q B0 (tsOf T S) := sp
    have hgd : Gd N q (baseS q B0 T S) := sp.gd
    by_cases h : k ∈ P ∧ inB q (baseS q B0 T S) (T.getD k []) = false
    · rw [if_pos h]
      have hk' : ¬ Ker N q (baseS q B0 T S) (T.getD k []) := fun hh => by
        rw [(inB_iff c.pos hgd.bo ht).mpr hh] at h
        exact absurd h.2 (by decide)
      have g := grow_all c.hq hgd ht
      have go := grow_out c.hq hgd ht hk'
      have il := ih.len
      refine ⟨ris_snoc ih.ris, fun n hn => ?_, ?_, fun j hj hjP => ?_⟩
      · rw [List.mem_append, List.mem_singleton] at hn
        rcases hn with hn | rfl
        · exact ih.sub n hn
        · exact h.1
      · rw [base_snoc, go, il, List.length_append]; rfl
      · rw [base_snoc]
        by_cases e : j = k
        · rw [e]; exact g.it
        · exact g.up _ (ih.all j (by omega) hjP)
    · rw [if_neg h]
      refine ⟨ris_mono (Nat.le_succ _) ih.ris, ih.sub, ih.len, fun j hj hjP => ?_⟩
      by_cases e : j = k
      · subst e
        apply Classical.byContradiction
        intro hn
        refine h ⟨hjP, ?_⟩
        cases e : inB q (baseS q B0 T S) (T.getD j []) with
        | false => rfl
        | true => exact absurd ((inB_iff c.pos hgd.bo ht).mp e) hn
      · exact ih.all j (by omega) hjP
/-- P's tables tell the base: a rising set of few tells all -/
theorem choose (c : Cxt N q B0 T) {P : List Nat} (hP : ∀ n ∈ P, n < T.length) (h0 : ∀ v, Ker N q B0 v → Ker N q (spB q [] (tsOf T P)) v) :
    ∃ S, Ris T.length S ∧ S.length + B0.length ≤ (spB q [] (tsOf T P)).length ∧ Tol N q T (baseS q B0 T S) := by
  have C := ch_ok c hP (Nat.le_refl _)
  have sp := c.sp fun n hn => hP n (C.sub n hn)
  have s0 := c.sp0 hP
  refine ⟨chN q B0 T P T.length, C.ris, ?_, fun M hM h v hv => ?_⟩
  · have := (dim_le c.hq sp.gd s0.gd (sp.mn _ (ker_sub c.pos s0.gd.bo) h0 fun t ht => by
      obtain ⟨n, hn, rfl⟩ := List.mem_map.mp ht
      exact s0.it _ (mem_ts (C.sub n hn)))).1
    have := C.len
    unfold baseS at this
    omega
  · have hv := sp.mn _ (ker_sub c.pos s0.gd.bo) h0 (fun t ht => by
      obtain ⟨n, hn, rfl⟩ := List.mem_map.mp ht
      exact s0.it _ (mem_ts (C.sub n hn))) v hv
    refine s0.mn M hM (ker_nil hM) (fun t ht => ?_) v hv
    obtain ⟨n, hn, rfl⟩ := List.mem_map.mp ht
    exact h _ (mem_getD (hP n hn)) (C.all n (hP n hn) hn)
/-- what tells all is told by as many pairs as its base has rows -/
theorem tol_pairs (c : Cxt N q B0 T) {S : List Nat} (hS : ∀ n ∈ S, n < T.length) (h : Tol N q T (baseS q B0 T S)) :
    ∃ P, P = (pin q (baseS q B0 T S) T).2 ∧ Ris T.length P ∧ P.length = (baseS q B0 T S).length ∧ (spB q [] (tsOf T P)).length = P.length ∧ (∀ v, Ker N q (spB q [] (tsOf T P)) v ↔ Ker N q (baseS q B0 T S) v) := by
  have g := (c.sp hS).gd
  have g : Gd N q (baseS q B0 T S) := g
  have P := pin_ok c.hq g c.hT (Nat.le_refl T.length)
  have e := (pin_tol c.hq g c.hT).mpr h
  have e : (pinN q (baseS q B0 T S) T T.length).1.length = (baseS q B0 T S).length := e
  refine ⟨_, rfl, P.ris, P.ln.trans e, ?_, fun v => ?_⟩
  · show (spB q [] (tsOf T (pinN q (baseS q B0 T S) T T.length).2)).length = (pinN q (baseS q B0 T S) T T.length).2.length
    rw [← P.eq, P.ln]
  · show Ker N q (spB q [] (tsOf T (pinN q (baseS q B0 T S) T T.length).2)) v ↔ _
    rw [← P.eq]
    exact ⟨P.inn v, (dim_le c.hq P.gd g P.inn).2 e v⟩
def OkN (q : Int) (B0 : List Row) (T : List (List Int)) (e : Nat) : Prop := ∃ S, Ris T.length S ∧ S.length = e ∧ okQ q B0 T S = true
def Lst (N q : Nat) (T D : List (List Int)) (r : Nat) : Prop := ∃ P : List Nat, (∀ n ∈ P, n < T.length) ∧ P.length ≤ r ∧ ∀ t ∈ D, Ker N q (spB q [] (tsOf T P)) t
structure CxD (N q : Nat) (D T : List (List Int)) : Prop where
  hq : q = 2 ∨ q = 3
  hD : ∀ t ∈ D, Vec N q t
  hT : ∀ t ∈ T, Vec N q t
theorem CxD.c {D : List (List Int)} (d : CxD N q D T) : Cxt N q (spB q [] D) T := ⟨d.hq, (sp_ok d.hq (gd_nil (by have := d.hq; omega)) d.hD).gd, d.hT⟩
theorem lst_ok {D : List (List Int)} (d : CxD N q D T) {r : Nat} (h : Lst N q T D r) : ∃ S, Ris T.length S ∧ S.length + (spB q [] D).length ≤ r ∧ okQ q (spB q [] D) T S = true := by
  obtain ⟨P, h1, h2, h3⟩ := h
  have s0 := d.c.sp0 h1
  have sD := sp_ok d.hq (gd_nil (N := N) (q := q) (by have := d.hq; omega)) d.hD
  have hM := ker_sub d.c.pos s0.gd.bo
  obtain ⟨S, hS, hl, ht⟩ := choose d.c h1 (sD.mn _ hM (ker_nil hM) h3)
  refine ⟨S, hS, ?_, (okQ_iff d.c hS.lt).mpr ht⟩
  have := s0.le.2
  unfold tsOf at this hl
  rw [List.length_map] at this
  simp only [List.length_nil] at this
  omega
theorem ok_lst {D : List (List Int)} (d : CxD N q D T) {S : List Nat} (hS : Ris T.length S) (h : okQ q (spB q [] D) T S = true) : Lst N q T D (baseS q (spB q [] D) T S).length := by
  obtain ⟨P, _, hP, hl, _, hk⟩ := tol_pairs d.c hS.lt ((okQ_iff d.c hS.lt).mp h)
  have sD := sp_ok d.hq (gd_nil (N := N) (q := q) (by have := d.hq; omega)) d.hD
  exact ⟨P, hP.lt, by omega, fun t ht => (hk t).mpr ((d.c.sp hS.lt).up t (sD.it t ht))⟩
theorem ok_lst' {D : List (List Int)} (d : CxD N q D T) {e : Nat} (h : OkN q (spB q [] D) T e) : Lst N q T D ((spB q [] D).length + e) := by
  obtain ⟨S, hS, hl, ho⟩ := h
  obtain ⟨P, h1, h2, h3⟩ := ok_lst d hS ho
  refine ⟨P, h1, Nat.le_trans h2 ?_, h3⟩
  have := (d.c.sp hS.lt).le.2
  unfold tsOf at this
  rw [List.length_map] at this
  unfold baseS tsOf
  omega
theorem lst_le {D : List (List Int)} (d : CxD N q D T) {r : Nat} (h : Lst N q T D r) : ∃ e, OkN q (spB q [] D) T e ∧ (spB q [] D).length + e ≤ r := by
  obtain ⟨S, h1, h2, h3⟩ := lst_ok d h
  exact ⟨S.length, ⟨S, h1, rfl, h3⟩, by omega⟩
end
end Cm
namespace Cm
/-- row by row -/
structure RelB (N : Nat) (E B : List Row) : Prop where
  len : E.length = B.length
  row : ∀ (i : Nat) (e b : Row), E[i]? = some e → B[i]? = some b → e.1 = b.1 ∧ b.1 < N ∧ e.2.take N = b.2
theorem take_getD {u : List Int} {N k : Nat} (hk : k < N) : (u.take N).getD k 0 = u.getD k 0 := by
  rw [List.getD_eq_getElem?_getD, List.getD_eq_getElem?_getD, List.getElem?_take_of_lt hk]
theorem ad_take (p s : Int) (u r : List Int) (N : Nat) : (ad p s u r).take N = ad p s (u.take N) (r.take N) := by
  unfold ad
  rw [List.take_zipWith]
theorem left_take_rel {N : Nat} {p : Int} : ∀ {E B : List Row} {u : List Int}, RelB N E B → (leftB p E u).take N = leftB p B (u.take N)
  | [], [], _, _ => rfl
  | [], b :: B, _, h => by have := h.len; simp at this
  | e :: E, [], _, h => by have := h.len; simp at this
  | e :: E, b :: B, u, h => by
    obtain ⟨h1, h2, h3⟩ := h.row 0 e b rfl rfl
    show (leftB p E (stepB p u e)).take N = leftB p B (stepB p (u.take N) b)
    rw [left_take_rel (E := E) (B := B) ⟨by have := h.len; simpa using this, fun i e b he hb => h.row (i + 1) e b he hb⟩]
    congr 1
    unfold stepB
    rw [ad_take, h3, h1, take_getD h2]
theorem firstP_take : ∀ {L : List Int} {N k : Nat}, firstP (L.take N) = some k → firstP L = some k
  | [], N, k, h => by simp [firstP] at h
  | a :: L, 0, k, h => by simp [firstP] at h
  | a :: L, N + 1, k, h => by
    rw [List.take_succ_cons] at h
    simp only [firstP] at h ⊢
    split
    · rename_i ha
      rw [if_pos ha] at h; exact h
    · rename_i ha
      rw [if_neg ha] at h
      obtain ⟨j, hj, rfl⟩ := Option.map_eq_some_iff.mp h
      rw [firstP_take hj]; rfl
theorem row_take {p : Int} {L : List Int} {N k : Nat} (hk : k < N) : (rowP p L k).take N = rowP p (L.take N) k := by
  unfold rowP
  rw [← List.map_take, take_getD hk]
theorem grow_rel {N : Nat} {p : Int} {E B : List Row} {x : List Int} (h : RelB N E B) (hl : (growB p B (x.take N)).length = B.length + 1) : RelB N (growB p E x) (growB p B (x.take N)) := by
  have e := left_take_rel (p := p) (u := x) h
  cases ek : firstP (leftB p B (x.take N)) with
  | none =>
    unfold growB at hl
    rw [ek] at hl
    simp only at hl
    omega
  | some k =>
    have ek' := ek
    rw [← e] at ek'
    have ek2 := firstP_take ek'
    have hk : k < N := by
      have := (firstP_some ek').1
      rw [List.length_take] at this
      omega
    unfold growB
    rw [ek, ek2]
    refine ⟨by simp [h.len], fun i e' b' he hb => ?_⟩
    by_cases hi : i < B.length
    · have hi' : i < E.length := by rw [h.len]; exact hi
      have he : (E ++ [(k, rowP p (leftB p E x) k)])[i]? = some e' := he
      have hb : (B ++ [(k, rowP p (leftB p B (x.take N)) k)])[i]? = some b' := hb
      rw [List.getElem?_append_left hi'] at he
      rw [List.getElem?_append_left hi] at hb
      exact h.row i e' b' he hb
    · have hlt : i < (B ++ [(k, rowP p (leftB p B (x.take N)) k)]).length := (List.getElem?_eq_some_iff.mp hb).1
      rw [List.length_append, List.length_singleton] at hlt
      obtain rfl : i = B.length := by omega
      have hb : (B ++ [(k, rowP p (leftB p B (x.take N)) k)])[B.length]? = some b' := hb
      have he : (E ++ [(k, rowP p (leftB p E x) k)])[B.length]? = some e' := he
      rw [← h.len, List.getElem?_concat_length] at he
      rw [List.getElem?_concat_length] at hb
      cases hb; cases he
      exact ⟨rfl, hk, by rw [row_take hk, e]⟩
theorem sp_rel {N : Nat} {q : Nat} (hq : q = 2 ∨ q = 3) : ∀ {xs : List (List Int)} {E B : List Row}, Gd N q B → (∀ x ∈ xs, Vec N q (x.take N)) → RelB N E B → (spB q B (xs.map fun x => x.take N)).length = B.length + xs.length → RelB N (spB q E xs) (spB q B (xs.map fun x => x.take N))
  | [], E, B, _, _, h, _ => h
  | x :: xs, E, B, hB, hx, h, hl => by
    have hx' := fun y hy => hx y (List.mem_cons_of_mem _ hy)
    have g := grow_all hq hB (hx x List.mem_cons_self)
    have s := (sp_ok hq (l := xs.map fun x => x.take N) g.gd fun t ht => by
      obtain ⟨y, hy, rfl⟩ := List.mem_map.mp ht
      exact hx' y hy).le
    have hl : (spB q (growB q B (x.take N)) (xs.map fun x => x.take N)).length = B.length + (xs.length + 1) := hl
    have g2 := g.le
    rw [List.length_map] at s
    have e : (growB q B (x.take N)).length = B.length + 1 := by omega
    show RelB N (spB q (growB q E x) xs) (spB q (growB q B (x.take N)) (xs.map fun x => x.take N))
    exact sp_rel hq g.gd hx' (grow_rel h e) (by rw [hl, e]; omega)
def combI (N : Nat) (Ts : List (List Int)) (v : List Int) (i : Nat) : Int := ((List.range Ts.length).map fun a => v.getD (N + a) 0 * (Ts.getD a []).getD i 0).sum
/-- what v's head has beyond its multiples of the tables is c -/
structure Cg (N : Nat) (p : Int) (Ts : List (List Int)) (c : List Int) (v : List Int) : Prop where
  len : v.length = N + Ts.length
  eq : ∀ i, i < N → ∃ d, v.getD i 0 = combI N Ts v i + c.getD i 0 + p * d
theorem sum_lin (s p : Int) (f g h : Nat → Int) : ∀ (l : List Nat), (∀ a ∈ l, ∃ d, h a = f a + s * g a + p * d) → ∃ d, (l.map h).sum = (l.map f).sum + s * (l.map g).sum + p * d
  | [], _ => ⟨0, by simp⟩
  | a :: l, hh => by
    obtain ⟨d1, e1⟩ := hh a List.mem_cons_self
    obtain ⟨d2, e2⟩ := sum_lin s p f g h l fun x hx => hh x (List.mem_cons_of_mem _ hx)
    refine ⟨d1 + d2, ?_⟩
    rw [List.map_cons, List.map_cons, List.map_cons, List.sum_cons, List.sum_cons, List.sum_cons, e1, e2]
    grind
theorem comb_ad {N : Nat} {p s : Int} {Ts : List (List Int)} {u r : List Int} (hl : u.length = r.length) (i : Nat) : ∃ d, combI N Ts (ad p s u r) i = combI N Ts u i + s * combI N Ts r i + p * d := by
  unfold combI
  refine sum_lin s p _ _ _ _ fun a _ => ?_
  obtain ⟨d, e⟩ := emd (u.getD (N + a) 0 + s * r.getD (N + a) 0) p
  refine ⟨-d * (Ts.getD a []).getD i 0, ?_⟩
  rw [adp_get hl, e]
  grind
theorem cg_ad {N : Nat} {p s : Int} {Ts : List (List Int)} {c u r : List Int} (hu : Cg N p Ts c u) (hr : Cg N p Ts [] r) : Cg N p Ts c (ad p s u r) := by
  have hl := hu.len.trans hr.len.symm
  refine ⟨by unfold ad; rw [List.length_zipWith, hu.len, hr.len]; omega, fun i hi => ?_⟩
  obtain ⟨d1, e1⟩ := hu.eq i hi
  obtain ⟨d2, e2⟩ := hr.eq i hi
  obtain ⟨d3, e3⟩ := comb_ad (N := N) (p := p) (s := s) (Ts := Ts) hl i
  obtain ⟨d4, e4⟩ := emd (u.getD i 0 + s * r.getD i 0) p
  have e0 : ([] : List Int).getD i 0 = 0 := by simp
  rw [e0] at e2
  refine ⟨d1 + s * d2 - d3 - d4, ?_⟩
  rw [adp_get hl, e4, e1, e2, e3]
  grind
theorem cg_left {N : Nat} {p : Int} {Ts : List (List Int)} {c : List Int} : ∀ {E : List Row} {u : List Int}, (∀ b ∈ E, Cg N p Ts [] b.2) → Cg N p Ts c u → Cg N p Ts c (leftB p E u)
  | [], _, _, h => h
  | b :: E, u, hE, h => cg_left (E := E) (u := stepB p u b) (fun x hx => hE x (List.mem_cons_of_mem _ hx)) (cg_ad h (hE b List.mem_cons_self))
theorem cg_zero {N : Nat} {p : Int} {Ts : List (List Int)} : Cg N p Ts [] (Z (N + Ts.length)) := by
  refine ⟨by simp [Z], fun i hi => ⟨0, ?_⟩⟩
  have e : combI N Ts (Z (N + Ts.length)) i = 0 := by
    unfold combI
    rw [List.map_congr_left (g := fun _ => (0 : Int)) fun a _ => by rw [Z_get, Int.zero_mul]]
    generalize List.range Ts.length = l
    induction l with
    | nil => rfl
    | cons a l ih => rw [List.map_cons, List.sum_cons, ih]; rfl
  rw [Z_get, e]; simp
theorem row_ad {p : Int} (L : List Int) (k : Nat) : rowP p L k = ad p (L.getD k 0) (Z L.length) L := by
  have hl : (Z L.length).length = L.length := by simp [Z]
  refine ext_getD (by unfold ad rowP; rw [List.length_map, List.length_zipWith, hl]; omega) fun j => ?_
  rw [row_get, adp_get hl, Z_get, Int.zero_add]
theorem cg_row {N : Nat} {p : Int} {Ts : List (List Int)} {L : List Int} (h : Cg N p Ts [] L) (k : Nat) : Cg N p Ts [] (rowP p L k) := by
  rw [row_ad, h.len]
  exact cg_ad cg_zero h
theorem cg_grow {N : Nat} {p : Int} {Ts : List (List Int)} {E : List Row} {x : List Int} (hE : ∀ b ∈ E, Cg N p Ts [] b.2) (hx : Cg N p Ts [] x) : ∀ b ∈ growB p E x, Cg N p Ts [] b.2 := by
  unfold growB
  cases firstP (leftB p E x) with
  | none => exact hE
  | some k =>
    intro b hb
    rcases List.mem_append.mp hb with hb | hb
    · exact hE b hb
    · cases (show b = (k, rowP p (leftB p E x) k) by simpa using hb)
      exact cg_row (cg_left hE hx) k
theorem cg_sp {N : Nat} {p : Int} {Ts : List (List Int)} : ∀ {xs : List (List Int)} {E : List Row}, (∀ b ∈ E, Cg N p Ts [] b.2) → (∀ x ∈ xs, Cg N p Ts [] x) → ∀ b ∈ spB p E xs, Cg N p Ts [] b.2
  | [], _, hE, _ => hE
  | x :: xs, E, hE, hx => cg_sp (xs := xs) (E := growB p E x) (cg_grow hE (hx x List.mem_cons_self)) fun y hy => hx y (List.mem_cons_of_mem _ hy)
def sgV (a n : Nat) : List Int := (List.range n).map fun h => if h = a then 1 else 0
theorem sgV_len (a n : Nat) : (sgV a n).length = n := by simp [sgV]
theorem sgV_get {a n k : Nat} : (sgV a n).getD k 0 = if k = a ∧ k < n then 1 else 0 := by
  unfold sgV
  rw [List.getD_eq_getElem?_getD, List.getElem?_map]
  by_cases hk : k < n
  · rw [List.getElem?_range hk]
    by_cases e : k = a <;> simp [e, hk]
    subst e; simp [hk]
  · rw [List.getElem?_eq_none (by simpa using hk)]
    simp [hk]
def extT (Ts : List (List Int)) : List (List Int) := (List.range Ts.length).map fun a => Ts.getD a [] ++ sgV a Ts.length
theorem app_get_l {u v : List Int} {i : Nat} (h : i < u.length) : (u ++ v).getD i 0 = u.getD i 0 := by
  rw [List.getD_eq_getElem?_getD, List.getD_eq_getElem?_getD, List.getElem?_append_left h]
theorem app_get_r {u v : List Int} {i : Nat} : (u ++ v).getD (u.length + i) 0 = v.getD i 0 := by
  rw [List.getD_eq_getElem?_getD, List.getD_eq_getElem?_getD, List.getElem?_append_right (Nat.le_add_right _ _), Nat.add_sub_cancel_left]
theorem sum_one (f : Nat → Int) (a : Nat) : ∀ n, ((List.range n).map fun k => (if k = a then (1 : Int) else 0) * f k).sum = if a < n then f a else 0
  | 0 => by simp
  | n + 1 => by
    rw [List.range_succ, List.map_append, List.sum_append, sum_one f a n]
    simp only [List.map_cons, List.map_nil, List.sum_cons, List.sum_nil]
    by_cases h1 : a < n
    · rw [if_pos h1, if_neg (by omega), if_pos (by omega)]; simp
    · by_cases h2 : n = a
      · subst h2; simp
      · rw [if_neg h1, if_neg h2, if_neg (by omega)]; simp
theorem cg_ext {N : Nat} {p : Int} {Ts : List (List Int)} (hl : ∀ t ∈ Ts, t.length = N) : ∀ x ∈ extT Ts, Cg N p Ts [] x := fun x hx => by
  obtain ⟨a, ha, rfl⟩ := List.mem_map.mp hx
  have ha := List.mem_range.mp ha
  have hla : (Ts.getD a []).length = N := hl _ (mem_getD ha)
  refine ⟨by rw [List.length_append, sgV_len, hla], fun i hi => ⟨0, ?_⟩⟩
  rw [app_get_l (by omega)]
  have : combI N Ts (Ts.getD a [] ++ sgV a Ts.length) i = (Ts.getD a []).getD i 0 := by
    unfold combI
    have e : ∀ k ∈ List.range Ts.length, (Ts.getD a [] ++ sgV a Ts.length).getD (N + k) 0 * (Ts.getD k []).getD i 0 = (if k = a then (1 : Int) else 0) * (Ts.getD k []).getD i 0 := fun k hk => by
      have hk := List.mem_range.mp hk
      have : (Ts.getD a [] ++ sgV a Ts.length).getD (N + k) 0 = (sgV a Ts.length).getD k 0 := by rw [← hla]; exact app_get_r
      rw [this, sgV_get]
      by_cases e : k = a <;> simp [e, hk, ha]
    rw [List.map_congr_left e, sum_one, if_pos ha]
  rw [this]
  simp
/-- the multiples -/
theorem solve {N q : Nat} (hq : q = 2 ∨ q = 3) {Ts : List (List Int)} {t : List Int} (hT : ∀ x ∈ Ts, Vec N q x) (hl : (spB q [] Ts).length = Ts.length) (ht : Ker N q (spB q [] Ts) t) {w : List Int}
    (hw : w = leftB q (spB q [] (extT Ts)) (t ++ Z Ts.length)) : w.length = N + Ts.length ∧ ∀ i, i < N → t.getD i 0 = (((List.range Ts.length).map fun a => ((-w.getD (N + a) 0) % (q : Int)) * (Ts.getD a []).getD i 0).sum) % (q : Int) := by
  have hlT : ∀ t ∈ Ts, t.length = N := fun t h => (hT t h).len
  have htk : ∀ a, a < Ts.length → (Ts.getD a [] ++ sgV a Ts.length).take N = Ts.getD a [] := fun a ha => by
    have := hlT _ (mem_getD ha)
    rw [← this, List.take_left']; rfl
  have e0 : (extT Ts).map (fun x => x.take N) = Ts := by
    unfold extT
    rw [List.map_map]
    refine List.ext_getElem (by simp) fun i h1 h2 => ?_
    simp only [List.getElem_map, List.getElem_range, Function.comp_apply]
    rw [htk i h2, List.getD_eq_getElem?_getD, List.getElem?_eq_getElem h2]; rfl
  have hx : ∀ x ∈ extT Ts, Vec N q (x.take N) := fun x hx => by
    obtain ⟨a, ha, rfl⟩ := List.mem_map.mp hx
    have ha := List.mem_range.mp ha
    rw [htk a ha]
    exact hT _ (mem_getD ha)
  have R := sp_rel hq (xs := extT Ts) (E := []) (B := []) (gd_nil (by omega)) hx ⟨rfl, fun i e b he => by cases he⟩ (by rw [e0, hl]; simp [extT])
  rw [e0] at R
  have c0 : Cg N q Ts t (t ++ Z Ts.length) := by
    refine ⟨by rw [List.length_append, ht.vv.len]; simp [Z], fun i hi => ⟨0, ?_⟩⟩
    have : combI N Ts (t ++ Z Ts.length) i = 0 := by
      unfold combI
      rw [List.map_congr_left (g := fun _ => (0 : Int)) fun a _ => by
        have : (t ++ Z Ts.length).getD (N + a) 0 = (Z Ts.length).getD a 0 := by rw [← ht.vv.len]; exact app_get_r
        rw [this, Z_get, Int.zero_mul]]
      generalize List.range Ts.length = l
      induction l with
      | nil => rfl
      | cons a l ih => rw [List.map_cons, List.sum_cons, ih]; rfl
    rw [this, app_get_l (by rw [ht.vv.len]; exact hi)]
    simp
  have C := cg_left (c := t) (cg_sp (xs := extT Ts) (E := []) (fun b hb => by cases hb) (cg_ext hlT)) c0
  have tk := left_take_rel (p := q) (u := t ++ Z Ts.length) R
  have t1 : (t ++ Z Ts.length).take N = t := by rw [← ht.vv.len, List.take_left']; rfl
  rw [t1, ht.z] at tk
  rw [← hw] at C tk
  refine ⟨C.len, fun i hi => ?_⟩
  obtain ⟨d, e⟩ := C.eq i hi
  have w0 : w.getD i 0 = 0 := by rw [← take_getD hi, tk, Z_get]
  rw [w0] at e
  rw [← ht.vv.em (by omega) i]
  unfold combI at e
  obtain ⟨d2, e2⟩ := sum_lin (-1) q (fun _ => 0) (fun a => w.getD (N + a) 0 * (Ts.getD a []).getD i 0) (fun a => ((-w.getD (N + a) 0) % (q : Int)) * (Ts.getD a []).getD i 0) (List.range Ts.length) fun a _ => by
    obtain ⟨z, ez⟩ := emd (-w.getD (N + a) 0) q
    exact ⟨-z * (Ts.getD a []).getD i 0, by rw [ez]; grind⟩
  have z0 : ((List.range Ts.length).map fun _ => (0 : Int)).sum = 0 := by
    generalize List.range Ts.length = l
    induction l with
    | nil => rfl
    | cons a l ih => rw [List.map_cons, List.sum_cons, ih]; rfl
  rw [e2, z0]
  refine emc (c := -d - d2) ?_
  generalize ((List.range Ts.length).map fun a => w.getD (N + a) 0 * (Ts.getD a []).getD i 0).sum = S at *
  grind
end Cm
namespace Cm
open PySem PySem.Spec PyProof.Rows L2 FL
set_option maxHeartbeats 0
def tabP (q : Int) (x : List Int × List Int) : List Int := x.1.flatMap fun a => x.2.map fun b => a * b % q
def PrB (x : List Int × List Int) : Prop := (∀ a ∈ x.1, Bt 30 a) ∧ (∀ a ∈ x.2, Bt 30 a) ∧ x.1.length ≤ 100 ∧ x.2.length ≤ 100
theorem tabP_fl (q : Int) (r : List Int) : ∀ l : List Int, (l.flatMap fun a => r.map fun b => a * b % q).length = l.length * r.length
  | [] => by simp
  | a :: l => by rw [List.flatMap_cons, List.length_append, tabP_fl q r l, List.length_map, List.length_cons, Nat.add_mul]; omega
theorem flatm_snoc {α β : Type} (f : α → List β) {l : List α} {i : Nat} {a : α} (h : l[i]? = some a) : (l.take (i + 1)).flatMap f = (l.take i).flatMap f ++ f a := by
  rw [List.take_add_one, h, List.flatMap_append]
  simp
def r_pair_table : FSpec := fun ds _ Q => ∃ (x : List Int × List Int) (q : Nat), ds = [pairD x, .int q] ∧ 0 < q ∧ PrB x ∧ ∀ os, Q (ofD (tabP q x)) os
theorem rd_pair_table : RD_pair_table r_pair_table := by
  rintro ds ED QD - ⟨⟨l, r⟩, q, rfl, hq, ⟨bl, br, ll, lr⟩, qq⟩
  have ll : l.length ≤ 100 := ll
  have lr : r.length ≤ 100 := lr
  refine ⟨forR_on [2] [3, 4] (fun k s => s = [some (ofD ((l.take k).flatMap fun a => r.map fun b => a * b % (q : Int)))]) _ _ rfl ?_ ?_⟩
  · rintro i d s j hd hj rfl
    obtain ⟨g3, g4, rfl⟩ := len2 hj
    rw [List.getElem?_map] at hd
    obtain ⟨a, ha, rfl⟩ := Option.map_eq_some_iff.mp hd
    rw [flatm_snoc _ ha]
    refine ⟨compR_allE r D.int (fun b => .int (a * b % (q : Int))) rfl (fun b hb => ⟨fun _ => ⟨(bl a (List.mem_of_getElem? ha)).ok (br b hb), by show (0 : Int) < q; omega, rfl, rfl⟩, fun h => nomatch h⟩) (fun _ => rfl) ?_⟩
    refine ⟨rfl, ?_, rfl, ?_⟩
    · rw [List.length_map, List.length_map, tabP_fl, List.length_take, sizeLine_eq]
      have := Nat.mul_le_mul (show min i l.length ≤ 100 by omega) lr
      omega
    · show [some (D.lst .flat (_ ++ _))] = [some (ofD _)]
      unfold ofD
      rw [List.map_append, List.map_map]
      rfl
  · rintro s j hj rfl
    obtain ⟨g3, g4, rfl⟩ := len2 hj
    rw [List.length_map, List.take_length]
    exact qq _
def r_lies_in : FSpec := fun ds _ Q => ∃ (N : Nat) (p : Int) (B : List Row) (v : List Int), ds = [.lst .ice (B.map bsD), liD v, .int p] ∧ (p = 2 ∨ p = 3) ∧ N ≤ 1000 ∧ BOk N p B ∧ Vec N p v ∧ ∀ os, Q (.bl (inB p B v)) os
theorem rd_lies_in : RD_lies_in r_lies_in r_first_place r_what_is_left := by
  rintro ds ED QD - ⟨N, p, B, v, rfl, hp, hN, hB, hv, q⟩
  have hq := q [some (.lst .ice (B.map bsD)), some (liD v), some (.int p)]
  unfold inB at hq
  refine ⟨N, p, B, v, rfl, hp, hN, hB, hv, fun _ => ⟨leftB p B v, rfl, fun _ => ?_⟩⟩
  cases e : firstP (leftB p B v) with
  | none => rw [e] at hq; exact hq
  | some k => rw [e] at hq; exact hq
def r_many_sets : FSpec := fun ds _ Q => ∃ (n s : Nat), ds = [.int n, .int s] ∧ n ≤ 100000 ∧ s ≤ 100000 ∧ ∀ os, Q (.int (msF n s)) os
theorem rd_many_sets : RD_many_sets r_many_sets := by
  rintro ds ED QD - ⟨n, s, rfl, hn, hs, q⟩
  refine ⟨⟨by omega, by omega, by omega⟩, ⟨forR_on [2] [3] (fun k z => z = [some (.int (msF n k))]) _ _ rfl ?_ ?_⟩⟩
  · rintro i d z j hd hj rfl
    obtain ⟨g3, rfl⟩ := len1 hj
    obtain ⟨rfl, hi⟩ := rgD_at hd
    refine ⟨mulR (by omega) (by omega), ⟨by show (0 : Int) < 0 + (i : Int) + 1; omega, ?_⟩, rfl, ?_⟩
    · show ((0 : Int) + (i : Int) + 1).natAbs.log2 < 9000
      have := (Nat.log2_lt (n := ((0 : Int) + (i : Int) + 1).natAbs) (k := 20) (by omega)).mpr (by omega)
      omega
    · show [some (D.int (msF n i * ((n : Int) - (0 + (i : Int))) / (0 + (i : Int) + 1)))] = [some (.int (msF n (i + 1)))]
      rw [show (0 : Int) + (i : Int) = (i : Int) by omega]
      rfl
  · rintro z j hj rfl
    obtain ⟨g3, rfl⟩ := len1 hj
    rw [rgD_len, show ((s : Int) - 0).toNat = s by omega]
    exact q _
def nsD (r : List Nat) : D := .tup false (r.map fun n : Nat => D.int n)
theorem last_at (r : List Nat) (h : r ≠ []) : ∃ x, r.getLast? = some x ∧ atI (r.map fun n : Nat => D.int n) (-1) = some (.int (x : Nat)) := by
  obtain ⟨i, x, rfl⟩ : ∃ i x, r = i ++ [x] := ⟨r.dropLast, r.getLast h, (List.dropLast_concat_getLast h).symm⟩
  refine ⟨x, by simp, ?_⟩
  unfold atI ixN
  simp
  rw [if_pos (by omega)]
  rw [show (-1 + ((i.length : Int) + 1)).toNat = (List.map (fun n : Nat => D.int (n : Int)) i).length by rw [List.length_map]; omega]
  simp
theorem rg2 (f : Nat) (h : Int) : rgD f h = (List.range (h - f).toNat).map fun j : Nat => D.int ((f + j : Nat) : Int) := by
  unfold rgD
  refine List.map_congr_left fun j _ => ?_
  rw [Int.natCast_add]
structure SetB (n s : Nat) : Prop where
  sn : s ≤ n
  nb : n ≤ 100000
  cb : ch n s ≤ 1000000
def r_all_sets : FSpec := fun ds _ Q => ∃ (n s : Nat), ds = [.int n, .int s] ∧ SetB n s ∧ ∀ os, Q (.lst .ice ((setsAt n s s).map nsD)) os
theorem rd_all_sets : RD_all_sets r_all_sets := by
  rintro ds ED QD - ⟨n, s, rfl, hb, q⟩
  have b1 := hb.sn
  have b2 := hb.nb
  have b3 := hb.cb
  refine ⟨⟨by omega, by omega, by omega⟩, ⟨forR_on [2] [3, 4, 5, 6, 7] (fun k z => z = [some (.lst .ice ((setsAt n s k).map nsD))]) _ _ rfl ?_ ?_⟩⟩
  · rintro k d z j hd hj rfl
    obtain ⟨g3, g4, g5, g6, g7, rfl⟩ := len5 hj
    obtain ⟨rfl, hk⟩ := rgD_at hd
    have hk : k < s := by omega
    refine ⟨forR_on [4] [5, 6, 7] (fun i z => z = [some (.lst .flat (((setsAt n s k).take i).flatMap (nextS n s k) |>.map nsD))]) _ _ rfl ?_ ?_⟩
    · rintro i d z j hd hj rfl
      obtain ⟨h5, h6, h7, rfl⟩ := len3 hj
      rw [List.getElem?_map] at hd
      obtain ⟨r, hr, rfl⟩ := Option.map_eq_some_iff.mp hd
      rw [flatm_snoc _ hr]
      have ok := sets_ok b1 (by omega) r (List.mem_of_getElem? hr)
      have hf : fstS r ≤ n + k - s := ok.2.2
      have hT : ((nextS n s k r).map nsD) = (List.range (n + k + 1 - s - fstS r)).map fun j : Nat => nsD (r ++ [fstS r + j]) := by
        unfold nextS
        rw [List.map_map]; rfl
      have src : ∀ f : Int, f = (fstS r : Nat) → rgD f ((n : Int) - s + (0 + (k : Int)) + 1) = (List.range (n + k + 1 - s - fstS r)).map fun j : Nat => D.int ((fstS r + j : Nat) : Int) := fun f hf => by
        subst hf
        rw [rg2]
        congr 2
        omega
      have hlen : ((setsAt n s k).take i).flatMap (nextS n s k) |>.length |> (· ≤ 1000000) := by
        have h1 := sets_len (k := k + 1) b1 (by omega)
        have h2 : ((setsAt n s k).take i).flatMap (nextS n s k) |>.Sublist (setsAt n s (k + 1)) := by
          show List.Sublist _ ((setsAt n s k).flatMap (nextS n s k))
          conv => rhs; rw [← List.take_append_drop i (setsAt n s k), List.flatMap_append]
          exact List.sublist_append_left _ _
        have := h2.length_le
        show _ ≤ _
        omega
      have hl2 : (n + k + 1 - s - fstS r) ≤ 100001 := by omega
      have hb1 : -1000000 ≤ (n : Int) - s + (0 + (k : Int)) + 1 := by omega
      have hb2 : (n : Int) - s + (0 + (k : Int)) + 1 ≤ 1000000 := by omega
      have hfb : (fstS r : Int) ≤ 1000000 := by omega
      by_cases hr0 : r = []
      · subst hr0
        refine ⟨(fun h => nomatch h), fun _ => ⟨⟨by omega, hb1, hb2⟩, ⟨compR_allE (List.range (n + k + 1 - s - fstS [])) (fun j : Nat => .int ((fstS [] + j : Nat) : Int)) (fun j : Nat => nsD ([] ++ [fstS [] + j])) (src 0 rfl) (fun j _ => ⟨fun _ => ⟨by show 0 + 1 ≤ sizeLine; decide, rfl, rfl⟩, fun h => nomatch h⟩) (fun _ => rfl) ?_⟩⟩⟩
        refine ⟨rfl, ?_, rfl, ?_⟩
        · rw [List.length_map, List.length_map, List.length_range, sizeLine_eq]; omega
        · rw [List.map_append, hT]
          rfl
      · obtain ⟨x, hx, hat⟩ := last_at r hr0
        have hfx : fstS r = x + 1 := by unfold fstS; rw [hx]
        refine ⟨fun _ => pick_of hat rfl ⟨⟨?_, hb1, hb2⟩, ⟨compR_allE (List.range (n + k + 1 - s - fstS r)) (fun j : Nat => .int ((fstS r + j : Nat) : Int)) (fun j : Nat => nsD (r ++ [fstS r + j])) (src _ ?_) (fun j _ => ⟨fun _ => ⟨?_, ?_, rfl⟩, fun h => nomatch h⟩) (fun _ => rfl) ?_⟩⟩, fun h => ?_⟩
        · show -1000000 ≤ (x : Int) + 1 ∧ (x : Int) + 1 ≤ 1000000
          omega
        · show (x : Int) + 1 = _
          omega
        · show (r.map fun n : Nat => D.int n).length + 1 ≤ sizeLine
          rw [List.length_map, sizeLine_eq, ok.1]; omega
        · show some (D.tup false (r.map (fun n : Nat => D.int n) ++ [D.int ((fstS r + j : Nat) : Int)])) = some (nsD (r ++ [fstS r + j]))
          unfold nsD
          rw [List.map_append]; rfl
        · refine ⟨rfl, ?_, rfl, ?_⟩
          · rw [List.length_map, List.length_map, List.length_range, sizeLine_eq]; omega
          · rw [List.map_append, hT]
            rfl
        · have : 0 < r.length := List.length_pos_iff.mpr hr0
          have h : ¬ ((0 : Int) < ((r.map fun n : Nat => D.int n).length : Nat)) := by simpa using h
          rw [List.length_map] at h
          omega
    · rintro z j hj rfl
      obtain ⟨h5, h6, h7, rfl⟩ := len3 hj
      rw [List.length_map, List.take_length]
      exact ⟨rfl, rfl⟩
  · rintro z j hj rfl
    obtain ⟨g3, g4, g5, g6, g7, rfl⟩ := len5 hj
    rw [rgD_len, show ((s : Int) - 0).toNat = s by omega]
    exact q _
end Cm
namespace Cm
open PySem PySem.Spec PyProof.Rows L2 FL
set_option maxHeartbeats 0
abbrev FTb : List Str := ["task", "p", "base", "pairs", "tables"]
structure TkB (a b m q : Nat) (ts : List Cm.Tm) : Prop where
  hq : q = 2 ∨ q = 3
  ha : 1 ≤ a ∧ a ≤ 6
  hb : 1 ≤ b ∧ b ≤ 6
  hm : 1 ≤ m ∧ m ≤ 100
  ft : ∀ t ∈ ts, FTm t m a b
  hn : (pairsO q a b).length ≤ 100000
/-- the pairs' tables -/
def Ptb (q a b : Nat) : List (List Int) := (pairsO q a b).map (tabP q)
def B0 (a b m q : Nat) (ts : List Cm.Tm) : List Row := baseOf q (tabs a b m q ts)
def tbD (cv : Addr) (a b m q : Nat) (ts : List Cm.Tm) : D := .ins .ice cv FTb [tskD a b m ts, .int q, .lst .ice ((B0 a b m q ts).map bsD), .lst .ice ((pairsO q a b).map pairD), .lst .ice ((Ptb q a b).map liD)]
theorem rowsO_bd {q n : Nat} (hq : q = 2 ∨ q = 3) : ∀ r ∈ rowsO q n, Vec n q r := fun r hr => by
  have h := (List.mem_filter.mp hr).1
  clear hr
  induction n generalizing r with
  | zero =>
    cases (show r = [] by simpa [rowsAll] using h)
    exact ⟨rfl, fun x hx => by cases hx⟩
  | succ n ih =>
    obtain ⟨a, h1, h2⟩ := List.mem_flatMap.mp h
    obtain ⟨j, hj, rfl⟩ := List.mem_map.mp h2
    have hj := List.mem_range.mp hj
    have va := ih a h1
    refine ⟨by rw [List.length_append, va.len]; rfl, fun x hx => ?_⟩
    rw [List.mem_append, List.mem_singleton] at hx
    rcases hx with hx | rfl
    · exact va.bd x hx
    · omega
theorem pairs_bd {q a b : Nat} (hq : q = 2 ∨ q = 3) : ∀ x ∈ pairsO q a b, Vec a q x.1 ∧ Vec b q x.2 := fun x hx => by
  obtain ⟨l, hl, hx⟩ := List.mem_flatMap.mp hx
  obtain ⟨r, hr, rfl⟩ := List.mem_map.mp hx
  exact ⟨rowsO_bd hq l hl, rowsO_bd hq r hr⟩
theorem tabP_vec {q a b : Nat} (hq : q = 2 ∨ q = 3) {x : List Int × List Int} (h : Vec a q x.1 ∧ Vec b q x.2) : Vec (a * b) q (tabP q x) := by
  refine ⟨by unfold tabP; rw [tabP_fl, h.1.len, h.2.len], fun y hy => ?_⟩
  obtain ⟨u, hu, hy⟩ := List.mem_flatMap.mp hy
  obtain ⟨v, hv, rfl⟩ := List.mem_map.mp hy
  exact ⟨Int.emod_nonneg _ (by omega), Int.emod_lt_of_pos _ (by omega)⟩
theorem vec_prb {q a b : Nat} (hq : q = 2 ∨ q = 3) (ha : a ≤ 100) (hb : b ≤ 100) {x : List Int × List Int} (h : Vec a q x.1 ∧ Vec b q x.2) : PrB x := by
  have bt : ∀ {n : Nat} {v : List Int}, Vec n q v → ∀ a ∈ v, Bt 30 a := fun hv a ha => by
    have := hv.bd a ha
    exact bt_in (B := 10) (by omega) (by omega) (by decide)
  exact ⟨bt h.1, bt h.2, by rw [h.1.len]; exact ha, by rw [h.2.len]; exact hb⟩
theorem Ptb_vec {q a b : Nat} (hq : q = 2 ∨ q = 3) : ∀ t ∈ Ptb q a b, Vec (a * b) q t := fun t ht => by
  obtain ⟨x, hx, rfl⟩ := List.mem_map.mp ht
  exact tabP_vec hq (pairs_bd hq x hx)
section
variable {a b m q n : Nat} {ts : List Cm.Tm} {cv : Addr}
theorem TkB.pI (h : TkB a b m q ts) : ((q : Nat) : Int) = 2 ∨ ((q : Nat) : Int) = 3 := by have := h.hq; omega
theorem TkB.ab (h : TkB a b m q ts) : a * b ≤ 36 := Nat.mul_le_mul h.ha.2 h.hb.2
theorem TkB.tv (h : TkB a b m q ts) : TOk (a * b) m q (tabs a b m q ts) := tabs_all (by have := h.hq; omega) h.ft
theorem TkB.cd (h : TkB a b m q ts) : CxD (a * b) q (tabs a b m q ts) (Ptb q a b) := ⟨h.hq, h.tv.2, Ptb_vec h.hq⟩
theorem TkB.c (h : TkB a b m q ts) : Cxt (a * b) q (B0 a b m q ts) (Ptb q a b) := h.cd.c
theorem TkB.b0 (h : TkB a b m q ts) : (B0 a b m q ts).length ≤ m := by
  have := (sp_ok h.hq (gd_nil (N := a * b) (q := q) (by have := h.hq; omega)) h.tv.2).le.2
  rw [h.tv.1] at this
  simpa [spB, B0, baseOf] using this
def r_Tables_init (cv : Addr) : FSpec := fun ds _ Q => ∃ (a b m q : Nat) (ts : List Cm.Tm), ds = [.ins .flat cv [] [], tskD a b m ts, .int q] ∧ TkB a b m q ts ∧ ∀ d tl, d.frz = tbD cv a b m q ts → Q .non (some d :: tl)
theorem rd_Tables_init : RD_Tables_init (r_Tables_init cv) r_base_of r_pairs_over r_task_tables r_pair_table cv := by
  rintro ds ED QD - ⟨a, b, m, q, ts, rfl, ok, qq⟩
  have ha := ok.ha
  have hb := ok.hb
  have tv := ok.tv
  refine ⟨rfl, rfl, rfl, ?_⟩
  refine ⟨rfl, rfl, rfl, ?_⟩
  refine ⟨a, b, m, q, ts, rfl, ok.pI, ok.hm, by omega, by omega, ok.ft, fun _ => ?_⟩
  refine ⟨a * b, q, tabs a b m q ts, ?_, ok.pI, by have := ok.ab; omega, by rw [tv.1]; have := ok.hm; omega, tv.2, fun _ => ?_⟩
  · show [D.lst .ice (frzL ((tabs a b m q ts).map ofD)), D.int q] = _
    rw [frz_tabs]
  refine ⟨rfl, rfl, rfl, ?_⟩
  refine ⟨a, b, q, rfl, by omega, by omega, ok.hq, fun _ => ?_⟩
  refine ⟨rfl, rfl, rfl, ?_⟩
  refine ⟨rfl, rfl, ⟨compR_ownA (pairsO q a b) pairD (fun x => ofD (tabP q x)) (fun x => liD (tabP q x)) rfl (fun _ => rfl) (fun _ => rfl) (fun x hx => ?_) fun kd hk hf => ?_⟩⟩
  · refine ⟨fun _ => ⟨x, q, rfl, by have := ok.hq; omega, vec_prb ok.hq (by omega) (by omega) (pairs_bd ok.hq x hx), fun _ => ⟨rfl, rfl⟩⟩, fun h => nomatch h⟩
  · have hc : (D.lst kd (List.map (fun x => ofD (tabP q x)) (pairsO q a b))).clean = true := by
      have : cleanL (List.map (fun x => ofD (tabP q x)) (pairsO q a b)) = true := cleanL_all.mpr fun d hd => by
        obtain ⟨x, _, rfl⟩ := List.mem_map.mp hd
        exact cleanL_all.mpr fun y hy => by
          obtain ⟨z, _, rfl⟩ := List.mem_map.mp hy; rfl
      cases kd with
      | ice => cases hk
      | flat => exact this
      | deep => exact this
    refine ⟨⟨.inr ⟨frz_own _, rfl⟩, .inr ⟨rfl, rfl⟩, .inr ⟨rfl, rfl⟩, True.intro, True.intro⟩, hc, rfl, rfl, rfl, qq _ _ ?_⟩
    have e : (Ptb q a b).map liD = (pairsO q a b).map fun x => liD (tabP q x) := by unfold Ptb; rw [List.map_map]; rfl
    unfold tbD
    rw [e, ← hf]
    cases kd with
    | ice => cases hk
    | flat => rfl
    | deep => rfl
def r_Tables_with_set (cv : Addr) : FSpec := fun ds _ Q => ∃ (a b m q : Nat) (ts : List Cm.Tm) (S : List Nat), ds = [tbD cv a b m q ts, nsD S] ∧ TkB a b m q ts ∧ (∀ n ∈ S, n < (Ptb q a b).length) ∧ S.length ≤ 500 ∧ ∀ os, Q (.lst .ice ((baseS q (B0 a b m q ts) (Ptb q a b) S).map bsD)) os
theorem base_bo (ok : TkB a b m q ts) {S : List Nat} (hS : ∀ n ∈ S, n < (Ptb q a b).length) (hl : S.length ≤ 500) : BOk (a * b) q (baseS q (B0 a b m q ts) (Ptb q a b) S) ∧ (baseS q (B0 a b m q ts) (Ptb q a b) S).length ≤ 600 := by
  have s := ok.c.sp hS
  have := s.le.2
  unfold tsOf at this
  rw [List.length_map] at this
  have h0 := ok.b0
  have hm := ok.hm
  exact ⟨s.gd.bo, by unfold baseS tsOf; omega⟩
theorem frz_any (o : Ow) (B : List Row) : (D.lst o (B.map bsD)).frz = .lst .ice (B.map bsD) := by
  cases o <;> first | rfl | (show D.lst .ice (frzL _) = _; rw [frz_rowsL])
theorem at_nat {α : Type} {xs : List α} {k : Nat} {x : α} (h : xs[k]? = some x) : atI xs ((k : Nat) : Int) = some x := by
  have hk : k < xs.length := (List.getElem?_eq_some_iff.mp h).1
  refine atI_ixN (ixN_of (by omega) (by omega)) ?_
  rw [Int.toNat_natCast]; exact h
theorem pt_at (h : n < (Ptb q a b).length) : atI ((Ptb q a b).map liD) (n : Nat) = some (liD ((Ptb q a b).getD n [])) := by
  refine at_nat ?_
  rw [List.getElem?_map, List.getElem?_eq_getElem h, List.getD_eq_getElem?_getD, List.getElem?_eq_getElem h]; rfl
theorem rd_Tables_with_set : RD_Tables_with_set (r_Tables_with_set cv) r_grown_base cv := by
  rintro ds ED QD - ⟨a, b, m, q, ts, S, rfl, ok, hS, hl, qq⟩
  refine ⟨rfl, rfl, ?_⟩
  refine ⟨forR_on [2] [3] (fun i z => z = [some (.lst .ice ((baseS q (B0 a b m q ts) (Ptb q a b) (S.take i)).map bsD))]) _ _ rfl ?_ ?_⟩
  · rintro i d z j hd hj rfl
    obtain ⟨g3, rfl⟩ := len1 hj
    rw [List.getElem?_map] at hd
    obtain ⟨n, hn, rfl⟩ := Option.map_eq_some_iff.mp hd
    have hnl := hS n (List.mem_of_getElem? hn)
    obtain ⟨h1, h2⟩ := base_bo ok (S := S.take i) (fun x hx => hS x (List.mem_of_mem_take hx)) (by rw [List.length_take]; omega)
    have e2 : S.take (i + 1) = S.take i ++ [n] := by rw [List.take_add_one, hn]; rfl
    rw [e2, base_snoc]
    refine ⟨rfl, rfl, pick_of (d := .lst .ice ((Ptb q a b).map liD)) rfl rfl (pick_of (pt_at hnl) rfl ?_)⟩
    refine ⟨rfl, rfl, a * b, q, _, _, rfl, ok.pI, by have := ok.ab; omega, by omega, h1, getD_vec (Ptb_vec ok.hq) hnl, fun o _ => ?_⟩
    refine ⟨rfl, ?_⟩
    rw [frz_any]
    rfl
  · rintro z j hj rfl
    obtain ⟨g3, rfl⟩ := len1 hj
    rw [List.length_map, List.take_length]
    exact qq _
def r_Tables_pairs_in (cv : Addr) : FSpec := fun ds _ Q => ∃ (a b m q : Nat) (ts : List Cm.Tm) (base : List Row), ds = [tbD cv a b m q ts, .lst .ice (base.map bsD)] ∧ TkB a b m q ts ∧ Gd (a * b) q base ∧ base.length ≤ 600 ∧ ∀ os, Q (.tup true [.lst .flat ((pin q base (Ptb q a b)).2.map fun n : Nat => D.int n), .lst .ice ((pin q base (Ptb q a b)).1.map bsD)]) os
theorem rd_Tables_pairs_in : RD_Tables_pairs_in (r_Tables_pairs_in cv) r_lies_in r_grown_base cv := by
  rintro ds ED QD - ⟨a, b, m, q, ts, base, rfl, ok, hg, hl, qq⟩
  have hN : a * b ≤ 1000 := by have := ok.ab; omega
  refine ⟨rfl, rfl, ?_⟩
  refine ⟨forR_on [2, 3] [4, 5, 6] (fun k z => z = [some (.lst .ice ((pinN q base (Ptb q a b) k).1.map bsD)), some (.lst .flat ((pinN q base (Ptb q a b) k).2.map fun n : Nat => D.int n))]) _ _ rfl ?_ ?_⟩
  · rintro i d z j hd hj rfl
    obtain ⟨g4, g5, g6, rfl⟩ := len3 hj
    rw [enD_get, List.getElem?_map] at hd
    obtain ⟨dt, hdt, rfl⟩ := Option.map_eq_some_iff.mp hd
    obtain ⟨t, ht, rfl⟩ := Option.map_eq_some_iff.mp hdt
    have hil : i < (Ptb q a b).length := (List.getElem?_eq_some_iff.mp ht).1
    have et : (Ptb q a b).getD i [] = t := by rw [List.getD_eq_getElem?_getD, ht]; rfl
    have P := pin_ok ok.hq hg (Ptb_vec ok.hq) (Nat.le_of_lt hil)
    have tv := Ptb_vec (a := a) (b := b) ok.hq t (List.mem_of_getElem? ht)
    have es : pinN q base (Ptb q a b) (i + 1) = pinS q base (pinN q base (Ptb q a b) i) i t := by rw [← et]; rfl
    rw [es, Nat.zero_add]
    have hle := (dim_le ok.hq P.gd hg P.inn).1
    have hln := P.ln
    have hgd := P.gd
    clear P es
    generalize pinN q base (Ptb q a b) i = s at *
    obtain ⟨own, found⟩ := s
    have hn := ok.hn
    have hPl : (Ptb q a b).length ≤ 100000 := by unfold Ptb; rw [List.length_map]; exact hn
    dsimp only at hle hln hgd ⊢
    refine ⟨rfl, fun h1 => ?_, fun h1 => ?_⟩
    · have h1 : own.length < base.length := by simpa using h1
      refine ⟨rfl, rfl, a * b, q, base, t, rfl, ok.pI, hN, hg.bo, tv, fun _ => ⟨fun h2 => ?_, fun h2 => ?_⟩⟩
      · have e1 : pinS q base (own, found) i t = (growB q own t, if own.length < (growB q own t).length then found ++ [i] else found) := by
          unfold pinS
          rw [if_pos ⟨h1, h2⟩]
        rw [e1]
        refine ⟨rfl, rfl, a * b, q, own, t, rfl, ok.pI, hN, by omega, hgd.bo, tv, fun o _ => ?_⟩
        conv => whnf
        rw [frz_any]
        refine cut_on [3] [] (fun z => z = [some (.lst .flat ((if own.length < (growB q own t).length then found ++ [i] else found).map fun n : Nat => D.int n))]) ⟨fun h => ?_, fun h => ?_⟩ ?_
        · have h : own.length < (growB q own t).length := by simpa using h
          rw [if_pos h]
          refine ⟨by rw [List.length_map, sizeLine_eq]; omega, rfl, ?_⟩
          show [some (D.lst .flat (found.map (fun n : Nat => D.int n) ++ [D.int (i : Nat)]))] = _
          rw [List.map_append]; rfl
        · have h : ¬ own.length < (growB q own t).length := by simpa using h
          rw [if_neg h]
          exact ⟨rfl, rfl⟩
        · rintro z j hj rfl
          cases len0 hj
          exact ⟨rfl, rfl⟩
      · have e1 : pinS q base (own, found) i t = (own, found) := by
          unfold pinS
          rw [if_neg (fun h => by rw [h.2] at h2; cases h2)]
        rw [e1]
        exact ⟨rfl, rfl⟩
    · have h1 : ¬ own.length < base.length := by simpa using h1
      have e1 : pinS q base (own, found) i t = (own, found) := by
        unfold pinS
        rw [if_neg (fun h => h1 h.1)]
      rw [e1]
      exact ⟨(fun h => nomatch h), fun _ => ⟨rfl, rfl⟩⟩
  · rintro z j hj rfl
    obtain ⟨g4, g5, g6, rfl⟩ := len3 hj
    rw [enD_len, List.length_map]
    exact qq _
def r_with_single : FSpec := fun ds _ Q => ∃ (v : List Int) (k n : Nat), ds = [liD v, .int k, .int n] ∧ v.length ≤ 1000 ∧ n ≤ 1000 ∧ ∀ os, Q (ofD (v ++ sgV k n)) os
theorem rd_with_single : RD_with_single r_with_single := by
  rintro ds ED QD - ⟨v, k, n, rfl, hv, hn, qq⟩
  refine ⟨⟨by omega, by omega, by omega⟩, ⟨compR_allE (List.range n) (fun j : Nat => D.int (j : Nat)) (fun j : Nat => .int (if j = k then 1 else 0)) (rgD_nat n) (fun j _ => ⟨fun _ => ⟨?_, rfl⟩, fun h => nomatch h⟩) (fun _ => rfl) ?_⟩⟩
  · by_cases e : j = k
    · subst e
      rw [if_pos rfl, if_pos (by simp)]
    · rw [if_neg e, if_neg (by simpa using fun h => e (by omega))]
  · refine ⟨by rw [List.length_map, List.length_map, List.length_range, sizeLine_eq]; omega, ?_⟩
    have := qq
    unfold ofD sgV at this
    rw [List.map_append, List.map_map] at this
    exact this _
end
end Cm
namespace Cm
open PySem PySem.Spec PyProof.Rows L2 FL
set_option maxHeartbeats 0
/-- what is left of a told table behind the rows with singles -/
def lfS (q N : Nat) (Ts : List (List Int)) (t : List Int) : List Int := leftB q (spB q [] (extT Ts)) (t ++ sgV Ts.length Ts.length)
def outS (q N : Nat) (Ts : List (List Int)) (t : List Int) : List Int := ((lfS q N Ts t).drop N).map fun n => (-n) % (q : Int)
/-- the scheme by the pairs S -/
def solP (q a b m : Nat) (ts : List Cm.Tm) (S : List Nat) : List Pr :=
  (List.range S.length).map fun k => ⟨((pairsO q a b).getD (S.getD k 0) ([], [])).1, ((pairsO q a b).getD (S.getD k 0) ([], [])).2, (tabs a b m q ts).map fun t => (outS q (a * b) (tsOf (Ptb q a b) S) t).getD k 0⟩
theorem sg_Z (n : Nat) : sgV n n = Z n := by
  refine ext_getD (by rw [sgV_len]; simp [Z]) fun k => ?_
  rw [sgV_get, Z_get, if_neg (by omega)]
section
variable {a b m q n : Nat} {ts : List Cm.Tm} {cv : Addr}
structure SbOk (a b m q : Nat) (ts : List Cm.Tm) (S : List Nat) : Prop where
  ok : TkB a b m q ts
  lt : ∀ n ∈ S, n < (Ptb q a b).length
  sz : S.length ≤ 600
theorem ext_vec {N q : Nat} (hq : q = 2 ∨ q = 3) {Ts : List (List Int)} (h : ∀ t ∈ Ts, Vec N q t) : ∀ t ∈ extT Ts, Vec (N + Ts.length) q t := fun t ht => by
  obtain ⟨k, hk, rfl⟩ := List.mem_map.mp ht
  have hk := List.mem_range.mp hk
  have hv := h _ (mem_getD hk)
  refine ⟨by rw [List.length_append, hv.len, sgV_len], fun x hx => ?_⟩
  rcases List.mem_append.mp hx with hx | hx
  · exact hv.bd x hx
  · obtain ⟨j, _, rfl⟩ := List.mem_map.mp hx
    have : (if j = k then (1 : Int) else 0) = 1 ∨ (if j = k then (1 : Int) else 0) = 0 := by split <;> simp
    omega
theorem app_Z {N q n : Nat} (hq : q = 2 ∨ q = 3) {t : List Int} (h : Vec N q t) : Vec (N + n) q (t ++ sgV n n) := by
  rw [sg_Z]
  refine ⟨by rw [List.length_append, h.len]; simp [Z], fun x hx => ?_⟩
  rcases List.mem_append.mp hx with hx | hx
  · exact h.bd x hx
  · rw [(List.mem_replicate.mp hx).2]; omega
theorem en_nat (S : List Nat) : enD 0 (S.map fun n : Nat => D.int n) = (List.range S.length).map fun k : Nat => D.tup false [.int (k : Nat), .int ((S.getD k 0 : Nat) : Int)] := by
  refine List.ext_getElem? fun k => ?_
  rw [enD_get, List.getElem?_map, List.getElem?_map]
  by_cases h : k < S.length
  · have e : S.getD k 0 = S[k] := by rw [List.getD_eq_getElem?_getD, List.getElem?_eq_getElem h]; rfl
    rw [List.getElem?_eq_getElem h, List.getElem?_range h, Nat.zero_add]
    show some (D.tup false [.int (k : Nat), .int ((S[k] : Nat) : Int)]) = some (D.tup false [.int (k : Nat), .int ((S.getD k 0 : Nat) : Int)])
    rw [e]
  · rw [List.getElem?_eq_none (by omega), List.getElem?_eq_none (by rw [List.length_range]; omega)]; rfl
def kOf : Nat → Ow
  | 0 => .flat
  | _ + 1 => .deep
theorem pr_at (h : n < (pairsO q a b).length) : atI ((pairsO q a b).map pairD) (n : Nat) = some (pairD ((pairsO q a b).getD n ([], []))) := by
  refine at_nat ?_
  rw [List.getElem?_map, List.getElem?_eq_getElem h, List.getD_eq_getElem?_getD, List.getElem?_eq_getElem h]; rfl
theorem frz_outs (f : List Int → List Int) : ∀ T : List (List Int), frzL (T.map fun t => ofD (f t)) = T.map fun t => liD (f t)
  | [] => rfl
  | b :: B => by show (ofD (f b)).frz :: frzL (B.map fun t => ofD (f t)) = _; rw [frz_outs f B]; rfl
def r_scheme_by (cv : Addr) : FSpec := fun ds _ Q => ∃ (a b m q : Nat) (ts : List Cm.Tm) (S : List Nat), ds = [tbD cv a b m q ts, .lst .ice (S.map fun n : Nat => D.int n)] ∧ SbOk a b m q ts S ∧ ∀ os, Q (schO a b m (solP q a b m ts S)) os
theorem rd_scheme_by : RD_scheme_by (r_scheme_by cv) r_base_of r_task_tables r_with_single r_what_is_left cv := by
  rintro ds ED QD - ⟨a, b, m, q, ts, S, rfl, ⟨ok, hlt, hsz⟩, qq⟩
  have hq := ok.hq
  have hab := ok.ab
  have tv := ok.tv
  have hm := ok.hm
  have ha := ok.ha
  have hb := ok.hb
  have hTs : ∀ t ∈ tsOf (Ptb q a b) S, Vec (a * b) q t := ok.c.tsv hlt
  have hlen : (tsOf (Ptb q a b) S).length = S.length := List.length_map _
  have hx := ext_vec hq hTs
  have pos : (0 : Int) < (q : Int) := by omega
  have hxl : (extT (tsOf (Ptb q a b) S)).length = S.length := by unfold extT; rw [List.length_map, List.length_range, hlen]
  have spx := sp_ok hq (gd_nil (N := a * b + (tsOf (Ptb q a b) S).length) (q := q) (by omega)) hx
  have eS : (S.map fun n : Nat => D.int n).length = S.length := List.length_map _
  have hPl : (Ptb q a b).length = (pairsO q a b).length := List.length_map _
  unfold solP outS lfS at qq
  rw [hlen] at qq
  have hgk : ∀ k, k < S.length → S.getD k 0 < (Ptb q a b).length := fun k hk => by
    rw [List.getD_eq_getElem?_getD, List.getElem?_eq_getElem hk]
    exact hlt _ (List.getElem_mem hk)
  have hTk : ∀ k, k < S.length → (tsOf (Ptb q a b) S).getD k [] = (Ptb q a b).getD (S.getD k 0) [] := fun k hk => by
    unfold tsOf
    rw [List.getD_eq_getElem?_getD, List.getElem?_map, List.getD_eq_getElem?_getD (l := S), List.getElem?_eq_getElem hk]; rfl
  refine ⟨compR_ownA (List.range S.length) (fun k : Nat => .tup false [.int (k : Nat), .int ((S.getD k 0 : Nat) : Int)]) (fun k => ofD ((tsOf (Ptb q a b) S).getD k [] ++ sgV k S.length)) (fun k => liD ((tsOf (Ptb q a b) S).getD k [] ++ sgV k S.length)) (en_nat S) (fun _ => rfl) (fun _ => rfl) (fun k hk => ?_) fun kd hkd hf => ?_⟩
  · have hk := List.mem_range.mp hk
    rw [hTk k hk]
    refine ⟨rfl, fun _ => ⟨rfl, rfl, pick_of (d := .lst .ice ((Ptb q a b).map liD)) rfl rfl (pick_of (pt_at (hgk k hk)) rfl ⟨_, k, S.length, ?_, ?_, by omega, fun _ => ⟨rfl, rfl⟩⟩)⟩, fun h => nomatch h⟩
    · show [_, _, D.int ((S.map fun n : Nat => D.int n).length : Nat)] = _
      rw [eS]; rfl
    · rw [(getD_vec (Ptb_vec hq) (hgk k hk)).len]; omega
  · conv => whnf
    rw [hf]
    have he : ((List.range S.length).map fun k => liD ((tsOf (Ptb q a b) S).getD k [] ++ sgV k S.length)) = (extT (tsOf (Ptb q a b) S)).map liD := by
      unfold extT
      rw [List.map_map, hlen]; rfl
    rw [he]
    refine ⟨rfl, rfl, a * b + (tsOf (Ptb q a b) S).length, q, extT (tsOf (Ptb q a b) S), rfl, ok.pI, by omega, by omega, hx, fun _ => ?_⟩
    refine ⟨rfl, rfl, rfl, rfl, a, b, m, q, ts, rfl, ok.pI, hm, by omega, by omega, ok.ft, fun _ => ?_⟩
    refine ⟨forR_on [5] [6, 8] (fun i z => z = [some (.lst (kOf i) (((tabs a b m q ts).take i).map fun t => ofD ((((leftB q (spB q [] (extT (tsOf (Ptb q a b) S))) (t ++ sgV S.length S.length)).drop (a * b)).map fun n => (-n) % (q : Int)))))]) _ _ rfl ?_ ?_⟩
    · rintro i d z j hd hj rfl
      obtain ⟨g6, g8, rfl⟩ := len2 hj
      rw [frz_tabs, List.getElem?_map] at hd
      obtain ⟨t, ht, rfl⟩ := Option.map_eq_some_iff.mp hd
      have htv := tv.2 t (List.mem_of_getElem? ht)
      have hi : i < m := by rw [← tv.1]; exact (List.getElem?_eq_some_iff.mp ht).1
      have wv : Vec (a * b + (tsOf (Ptb q a b) S).length) q (t ++ sgV S.length S.length) := by rw [← hlen]; exact app_Z hq htv
      have lv := left_vec pos spx.gd.bo wv
      refine ⟨t, (S.map fun n : Nat => D.int n).length, (S.map fun n : Nat => D.int n).length, rfl, by rw [htv.len]; omega, by omega, fun _ => ?_⟩
      rw [eS]
      refine ⟨rfl, rfl, a * b + (tsOf (Ptb q a b) S).length, q, spB q [] (extT (tsOf (Ptb q a b) S)), t ++ sgV S.length S.length, rfl, ok.pI, by omega, spx.gd.bo, wv, fun _ => ?_⟩
      generalize hwe : leftB q (spB q [] (extT (tsOf (Ptb q a b) S))) (t ++ sgV S.length S.length) = w at lv
      have hw := lv.len
      have ec : cutL (w.map D.int) (some (((t.map D.int).length : Nat) : Int)) none = (w.drop (a * b)).map D.int := by
        rw [List.length_map, htv.len, cut_from (by rw [List.length_map]; omega), List.map_drop]
      have et : (tabs a b m q ts).take (i + 1) = (tabs a b m q ts).take i ++ [t] := by rw [List.take_add_one, ht]; rfl
      rw [et, List.map_append]
      rcases i with _ | i
      all_goals
        refine ⟨compR_allE (w.drop (a * b)) D.int (fun n => .int ((-n) % (q : Int))) ec (fun n hn => ⟨fun _ => ⟨rfl, rfl, pos, rfl, rfl⟩, fun h => nomatch h⟩) (fun _ => rfl) ?_⟩
        refine ⟨?_, rfl, ?_⟩
        · rw [List.length_map, List.length_take, sizeLine_eq]; omega
        · have eL : (D.lst .flat ((w.drop (a * b)).map fun n => D.int (-n % (q : Int)))) = ofD (((leftB q (spB q [] (extT (tsOf (Ptb q a b) S))) (t ++ sgV S.length S.length)).drop (a * b)).map fun n => (-n) % (q : Int)) := by
            rw [hwe]; unfold ofD; rw [List.map_map]; rfl
          show [some (D.lst .deep (_ ++ [D.lst .flat ((w.drop (a * b)).map fun n => D.int (-n % (q : Int)))]))] = _
          rw [eL]
          rfl
    · rintro z j hj rfl
      obtain ⟨g6, g8, rfl⟩ := len2 hj
      have hkm : kOf m = .deep := by
        cases m with
        | zero => omega
        | succ m => rfl
      conv => whnf
      have el : (List.map liD (tabs a b m q ts)).length = m := by rw [List.length_map, tv.1]
      rw [frz_tabs, el, hkm, List.take_of_length_le (show (tabs a b m q ts).length ≤ m by rw [tv.1]; exact Nat.le_refl _)]
      have out_len : ∀ t ∈ tabs a b m q ts, (((leftB q (spB q [] (extT (tsOf (Ptb q a b) S))) (t ++ sgV S.length S.length)).drop (a * b)).map fun n => (-n) % (q : Int)).length = S.length := fun t ht => by
        have wv : Vec (a * b + (tsOf (Ptb q a b) S).length) q (t ++ sgV S.length S.length) := by rw [← hlen]; exact app_Z hq (tv.2 t ht)
        rw [List.length_map, List.length_drop, (left_vec pos spx.gd.bo wv).len, hlen]; omega
      generalize hO : (fun t : List Int => ((leftB q (spB q [] (extT (tsOf (Ptb q a b) S))) (t ++ sgV S.length S.length)).drop (a * b)).map fun n => (-n) % (q : Int)) = O at *
      have hO' : ∀ t : List Int, ((leftB q (spB q [] (extT (tsOf (Ptb q a b) S))) (t ++ sgV S.length S.length)).drop (a * b)).map (fun n => (-n) % (q : Int)) = O t := fun t => by rw [← hO]
      simp only [hO'] at qq out_len ⊢
      clear hO hO'
      generalize hF : (fun k : Nat => Pr.mk ((pairsO q a b).getD (S.getD k 0) ([], [])).1 ((pairsO q a b).getD (S.getD k 0) ([], [])).2 ((tabs a b m q ts).map fun t => (O t).getD k 0)) = F at qq
      refine ⟨forR_on [5, 7] [9, 10, 11, 12] (fun k z => ∃ x5, x5.frz = .lst .ice ((tabs a b m q ts).map fun t => liD (O t)) ∧ z = [some x5, some (.lst .flat (((List.range k).map F).map prD))]) _ _ ⟨_, ?_, rfl⟩ ?_ ?_⟩
      · show D.lst .ice (frzL _) = _
        rw [frz_outs]
      · rintro k d z j hd hj ⟨x5, h5, rfl⟩
        obtain ⟨g9, g10, g11, g12, rfl⟩ := len4 hj
        rw [en_nat, List.getElem?_map] at hd
        obtain ⟨k', hk', rfl⟩ := Option.map_eq_some_iff.mp hd
        have hk : k < S.length := by have := (List.getElem?_eq_some_iff.mp hk').1; rwa [List.length_range] at this
        rw [List.getElem?_range hk] at hk'
        cases hk'
        have hkp := hgk k hk
        rw [hPl] at hkp
        refine ⟨rfl, rfl, rfl, pick_of (d := .lst .ice ((pairsO q a b).map pairD)) rfl rfl (pick_of (pr_at hkp) rfl ?_)⟩
        refine ⟨rfl, ?_⟩
        conv => whnf
        rw [h5]
        refine ⟨compR_allE (tabs a b m q ts) (fun t => liD (O t)) (fun t => .int ((O t).getD k 0)) rfl (fun t ht => ⟨fun _ => pick_at (by omega) (by rw [out_len t ht]; omega) (fun _ => rfl) fun x hx => ⟨?_, rfl⟩, fun h => nomatch h⟩) (fun _ => rfl) ?_⟩
        · rw [List.getD_eq_getElem?_getD, show (O t)[k]? = some x from hx]; rfl
        · refine ⟨by rw [List.length_map, List.length_map, List.length_range, sizeLine_eq]; omega, rfl, .lst .ice ((tabs a b m q ts).map fun t => liD (O t)), rfl, ?_⟩
          rw [List.range_succ, List.map_append, List.map_append]
          show [_, some (D.lst .flat (_ ++ [D.tup false [_, _, D.tup false ((tabs a b m q ts).map fun t => D.int ((O t).getD k 0))]]))] = _
          have : (D.tup false ((tabs a b m q ts).map fun t => D.int ((O t).getD k 0))) = rowD ((tabs a b m q ts).map fun t => (O t).getD k 0) := by unfold rowD; rw [List.map_map]; rfl
          rw [this, ← hF]
          rfl
      · rintro z j hj ⟨x5, h5, rfl⟩
        obtain ⟨g9, g10, g11, g12, rfl⟩ := len4 hj
        rw [enD_len, eS]
        refine ⟨rfl, rfl, ?_⟩
        have hc : cutL [D.int (a : Nat), .int (b : Nat), .int (m : Nat), .lst .ice (ts.map tmD)] none (some 3) = [D.int (a : Nat), .int (b : Nat), .int (m : Nat)] := cut_to (b := 3) (by simp)
        refine ⟨by show (cutL [D.int (a : Nat), .int (b : Nat), .int (m : Nat), .lst .ice (ts.map tmD)] none (some 3)).length + 1 ≤ sizeLine; rw [hc]; show 3 + 1 ≤ sizeLine; decide, rfl, ?_⟩
        have := qq
        unfold schO at this
        exact this _
def tryF (q : Nat) (B : List Row) (T : List (List Int)) (s : Nat) : Option (Nat × Option (List Nat)) :=
  if msF T.length s > 3000 then some (s, none) else ((setsAt T.length s s).find? (okQ q B T)).map fun S => (s, some S)
def leF (q : Nat) (B : List Row) (T : List (List Int)) : Option (Nat × Option (List Nat)) := (List.range (T.length + 1)).findSome? (tryF q B T)
def leO (a b m q : Nat) (ts : List Cm.Tm) : D := match leF q (B0 a b m q ts) (Ptb q a b) with
  | some (s, some S) => .tup true [.str "least", .int (((B0 a b m q ts).length + s : Nat) : Int), schO a b m (solP q a b m ts (pin q (baseS q (B0 a b m q ts) (Ptb q a b) S) (Ptb q a b)).2)]
  | some (s, none) => .tup false [.str "open", .int (((B0 a b m q ts).length + s : Nat) : Int)]
  | none => .tup false [.str "open", .int (((B0 a b m q ts).length + (Ptb q a b).length : Nat) : Int)]
theorem findS_snoc {α β : Type} (f : α → Option β) : ∀ {l : List α} {x : α}, l.findSome? f = none → (l ++ [x]).findSome? f = f x
  | [], x, _ => by simp [List.findSome?_cons]; cases f x <;> rfl
  | a :: l, x, h => by
    rw [List.findSome?_cons] at h
    rw [List.cons_append, List.findSome?_cons]
    cases e : f a with
    | none => rw [e] at h; exact findS_snoc f h
    | some y => rw [e] at h; cases h
theorem findS_app {α β : Type} (f : α → Option β) {l k : List α} {y : β} (h : l.findSome? f = some y) : (l ++ k).findSome? f = some y := by
  rw [List.findSome?_append, h]; rfl
theorem leF_at {q : Nat} {B : List Row} {T : List (List Int)} {k : Nat} {y : Nat × Option (List Nat)} (h0 : (List.range k).findSome? (tryF q B T) = none) (hk : k ≤ T.length) (h : tryF q B T k = some y) : leF q B T = some y := by
  unfold leF
  have e : List.range (T.length + 1) = List.range (k + 1) ++ (List.range (T.length - k)).map fun i => k + 1 + i := by
    have := List.range_add (n := k + 1) (m := T.length - k)
    rw [← this]; congr 1; omega
  rw [e]
  refine findS_app _ ?_
  rw [List.range_succ, findS_snoc _ h0, h]
theorem find_at {α : Type} (p : α → Bool) : ∀ {l : List α} {i : Nat} {x : α}, l[i]? = some x → (∀ y ∈ l.take i, p y = false) → p x = true → l.find? p = some x
  | [], i, x, h, _, _ => by simp at h
  | a :: l, 0, x, h, _, hp => by
    cases (show a = x by simpa using h)
    rw [List.find?_cons, hp]
  | a :: l, i + 1, x, h, h0, hp => by
    rw [List.find?_cons, h0 a (by simp)]
    exact find_at p (l := l) (i := i) (by simpa using h) (fun y hy => h0 y (by simp [hy])) hp
theorem try_le {q : Nat} {B : List Row} {T : List (List Int)} {k : Nat} (h0 : (List.range k).findSome? (tryF q B T) = none) (hk : k ≤ T.length) : k ≤ 500 := by
  apply Classical.byContradiction
  intro hn
  have h2 := List.findSome?_eq_none_iff.mp h0 2 (List.mem_range.mpr (by omega))
  unfold tryF at h2
  have e : msF T.length 2 = 1 * ((T.length : Int) - 0) / 1 * ((T.length : Int) - 1) / 2 := rfl
  have : ¬ 3000 < msF T.length 2 := fun h => by rw [if_pos h] at h2; cases h2
  apply this
  rw [e]
  have hb : (100 : Int) ≤ (T.length : Int) := by omega
  generalize (T.length : Int) = x at hb
  have : (100 : Int) * 99 ≤ x * (x - 1) := Int.mul_le_mul hb (by omega) (by decide) (by omega)
  rw [Int.one_mul, Int.sub_zero, Int.ediv_one]
  omega
def r_least_over (cv : Addr) : FSpec := fun ds _ Q => ∃ (a b m q : Nat) (ts : List Cm.Tm), ds = [tskD a b m ts, .int q] ∧ TkB a b m q ts ∧ ∀ os, Q (leO a b m q ts) os
theorem rd_least_over : RD_least_over (r_least_over cv) (r_Tables_init cv) r_all_sets r_many_sets (r_Tables_with_set cv) (r_Tables_pairs_in cv) (r_scheme_by cv) cv := by
  rintro ds ED QD - ⟨a, b, m, q, ts, rfl, ok, qq⟩
  have hPl : (Ptb q a b).length = (pairsO q a b).length := List.length_map _
  have eP : ((pairsO q a b).map pairD).length = (Ptb q a b).length := by rw [List.length_map, hPl]
  have hn := ok.hn
  rw [← hPl] at hn
  refine ⟨a, b, m, q, ts, rfl, ok, fun d tl hd => ⟨rfl, d, rfl, ?_⟩⟩
  conv => whnf
  rw [hd]
  refine ⟨rfl, rfl, ⟨by omega, by show -1000000 ≤ ((((pairsO q a b).map pairD).length : Nat) : Int) + 1; omega, by show ((((pairsO q a b).map pairD).length : Nat) : Int) + 1 ≤ 1000000; omega⟩, ⟨forR_on [] [4, 5, 6, 7] (fun k z => z = [] ∧ (List.range k).findSome? (tryF q (B0 a b m q ts) (Ptb q a b)) = none) _ _ ⟨rfl, rfl⟩ ?_ ?_⟩⟩
  · rintro k d z j hd hj ⟨rfl, h0⟩
    obtain ⟨g4, g5, g6, g7, rfl⟩ := len4 hj
    obtain ⟨rfl, hk⟩ := rgD_at hd
    have hk : (0 : Int) + (k : Int) < ((((pairsO q a b).map pairD).length : Nat) : Int) + 1 := hk
    have hk : k ≤ (Ptb q a b).length := by omega
    have hk5 := try_le h0 hk
    have e3 : ((((B0 a b m q ts).length + k : Nat) : Nat) : Int) = ((((B0 a b m q ts).map bsD).length : Nat) : Int) + (k : Int) := by rw [List.length_map]; omega
    rw [Int.zero_add]
    refine ⟨(Ptb q a b).length, k, by show [D.int (((pairsO q a b).map pairD).length : Nat), D.int (k : Nat)] = _; rw [eP], by omega, by omega, fun _ => ⟨fun h => ?_, fun h => ?_⟩⟩
    · have h : 3000 < msF (Ptb q a b).length k := by simpa using h
      have e : tryF q (B0 a b m q ts) (Ptb q a b) k = some (k, none) := by unfold tryF; rw [if_pos h]
      have e2 := leF_at h0 hk e
      have := qq
      unfold leO at this
      rw [e2] at this
      dsimp only at this
      rw [e3] at this
      exact ⟨rfl, rfl, this _⟩
    · have h : ¬ 3000 < msF (Ptb q a b).length k := by simpa using h
      refine ⟨(Ptb q a b).length, k, by show [D.int (((pairsO q a b).map pairD).length : Nat), D.int (k : Nat)] = _; rw [eP], ⟨hk, hn, by have := ms_ch _ _ hk; omega⟩, fun _ => ⟨forR_on [] [5, 6, 7] (fun i z => z = [] ∧ ∀ S ∈ (setsAt (Ptb q a b).length k k).take i, okQ q (B0 a b m q ts) (Ptb q a b) S = false) _ _ ⟨rfl, fun S h => by simp at h⟩ ?_ ?_⟩⟩
      · rintro i d z j hd hj ⟨rfl, h1⟩
        obtain ⟨g5, g6, g7, rfl⟩ := len3 hj
        rw [List.getElem?_map] at hd
        obtain ⟨S, hS, rfl⟩ := Option.map_eq_some_iff.mp hd
        obtain ⟨sl, sr, _⟩ := sets_ok hk (Nat.le_refl _) S (List.mem_of_getElem? hS)
        have bo := base_bo ok sr.lt (by omega)
        have gd : Gd (a * b) q (baseS q (B0 a b m q ts) (Ptb q a b) S) := (ok.c.sp sr.lt).gd
        have P := pin_ok ok.hq gd ok.c.hT (Nat.le_refl (Ptb q a b).length)
        have P : PinOk (a * b) q (baseS q (B0 a b m q ts) (Ptb q a b) S) (Ptb q a b) (Ptb q a b).length (pin q (baseS q (B0 a b m q ts) (Ptb q a b) S) (Ptb q a b)) := P
        have hle := (dim_le ok.hq P.gd gd P.inn).1
        have hln := P.ln
        refine ⟨⟨_, _, rfl⟩, a, b, m, q, ts, S, rfl, ok, sr.lt, by omega, fun _ => ?_⟩
        refine ⟨⟨_, _, rfl⟩, a, b, m, q, ts, baseS q (B0 a b m q ts) (Ptb q a b) S, rfl, ok, gd, bo.2, fun _ => ⟨fun h2 => ?_, fun h2 => ?_⟩⟩
        · have h2 : (pin q (baseS q (B0 a b m q ts) (Ptb q a b) S) (Ptb q a b)).2.length = (baseS q (B0 a b m q ts) (Ptb q a b) S).length := by simp at h2; omega
          have oks : okQ q (B0 a b m q ts) (Ptb q a b) S = true := decide_eq_true h2
          have e : tryF q (B0 a b m q ts) (Ptb q a b) k = some (k, some S) := by
            unfold tryF
            rw [if_neg h, find_at _ hS h1 oks]; rfl
          have e2 := leF_at h0 hk e
          have := qq
          unfold leO at this
          rw [e2] at this
          dsimp only at this
          rw [e3] at this
          exact ⟨rfl, rfl, a, b, m, q, ts, _, rfl, ⟨ok, P.ris.lt, by omega⟩, fun _ => this _⟩
        · have h2 : ¬ (pin q (baseS q (B0 a b m q ts) (Ptb q a b) S) (Ptb q a b)).2.length = (baseS q (B0 a b m q ts) (Ptb q a b) S).length := by simp at h2; omega
          refine ⟨rfl, rfl, fun S' hS' => ?_⟩
          rw [List.take_add_one, hS, List.mem_append] at hS'
          rcases hS' with hS' | hS'
          · exact h1 S' hS'
          · cases (show S' = S by simpa using hS')
            exact decide_eq_false h2
      · rintro z j hj ⟨rfl, h1⟩
        obtain ⟨g5, g6, g7, rfl⟩ := len3 hj
        rw [List.length_map, List.take_length] at h1
        have e : tryF q (B0 a b m q ts) (Ptb q a b) k = none := by
          unfold tryF
          rw [if_neg h, List.find?_eq_none.mpr fun S hS => by rw [h1 S hS]; decide]; rfl
        exact ⟨rfl, rfl, by rw [List.range_succ, findS_snoc _ h0, e]⟩
  · rintro z j hj ⟨rfl, h0⟩
    obtain ⟨g4, g5, g6, g7, rfl⟩ := len4 hj
    have el : (rgD 0 (((((pairsO q a b).map pairD).length : Nat) : Int) + 1)).length = (Ptb q a b).length + 1 := by rw [rgD_len]; omega
    rw [el] at h0
    have e2 : leF q (B0 a b m q ts) (Ptb q a b) = none := h0
    have e3 : ((((B0 a b m q ts).length + (Ptb q a b).length : Nat) : Nat) : Int) = ((((B0 a b m q ts).map bsD).length : Nat) : Int) + ((((pairsO q a b).map pairD).length : Nat) : Int) := by rw [List.length_map, eP]; omega
    have := qq
    unfold leO at this
    rw [e2] at this
    dsimp only at this
    rw [e3] at this
    exact ⟨rfl, rfl, this _⟩
end
end Cm
namespace K46
open PySem PySem.Spec PyProof.Rows L2 FL Cm
def topS (i : Nat) : Stmt := PySem.Challenge.pw_fewtimes_k46_least_counts_kept.main.body.getD i (.Pass ⟨0, 0, 0, 0⟩)
section
variable {P : Program} {w : World} {K : PySem.W.Frag} {mg : Str → Option Value} {base : Heap}
abbrev s_rows_over : Stmt := topS 2
abbrev s_pairs_over : Stmt := topS 3
abbrev s_pair_table : Stmt := topS 4
abbrev s_task_tables : Stmt := topS 5
abbrev s_less_times : Stmt := topS 6
abbrev s_first_place : Stmt := topS 7
abbrev s_what_is_left : Stmt := topS 8
abbrev s_grown_base : Stmt := topS 9
abbrev s_base_of : Stmt := topS 10
abbrev s_lies_in : Stmt := topS 11
abbrev s_many_sets : Stmt := topS 14
abbrev s_all_sets : Stmt := topS 15
abbrev s_Tables_init : Stmt := inClass (topS 16) 0
abbrev s_Tables_with_set : Stmt := inClass (topS 16) 1
abbrev s_Tables_pairs_in : Stmt := inClass (topS 16) 3
abbrev s_with_single : Stmt := topS 17
abbrev s_scheme_by : Stmt := topS 18
abbrev s_least_over : Stmt := topS 19
abbrev s_law_cell_at : Stmt := topS 21
abbrev s_law_mixed : Stmt := topS 22
abbrev s_law_box : Stmt := topS 23
abbrev s_law_take : Stmt := topS 24
abbrev s_law_part_2 : Stmt := topS 25
abbrev s_law_scheme_2 : Stmt := topS 26
abbrev s_law_sums_2 : Stmt := topS 27
abbrev s_law_terms : Stmt := topS 28
abbrev s_law_number_2 : Stmt := topS 29
abbrev s_law_places : Stmt := topS 30
abbrev s_law_put : Stmt := topS 31
abbrev s_law_others : Stmt := topS 32
abbrev s_law : Stmt := topS 33
theorem sc_rows_over : FnScope ["length", "p", "rows", "place", "longer", "row", "number"] ["length", "p"] (defScope s_rows_over) := ⟨rfl, rfl, rfl, by decide +kernel, rfl, by decide +kernel, by decide +kernel⟩
theorem ok_rows_over {f_rows_over : Addr} {fd_rows_over : FuncData} {k : Nat} (D_rows_over : Df K mg "rows_over" s_rows_over ["length", "p"] f_rows_over fd_rows_over) (z_range : mg "range" = none) {r : FSpec} (hrd : RD_rows_over r) :
    FnOk P w K mg base (L2.CX P w) (k + 1) f_rows_over fd_rows_over ["length", "p"] (FnD K 2 [] r) := by
  refine fl_fn D_rows_over.fn sc_rows_over (by rfl) (fun cdv A outer s H E hr => ?_) hrd
  have tk := takes_of (X := cxOf (L2.CX P w) P w K mg base ["length", "p", "rows", "place", "longer", "row", "number"] "rows_over" (defScope s_rows_over) f_rows_over cdv A outer s H E) rfl rfl rfl rfl
  exact (fss_cons (fs_setF 2 (fe_lst (fa_cons (fo_val (fe_tup fa_nil)) fa_nil)) sc_rows_over.nd) (fss_cons (fs_for [3] PassesOwn.leaving (fi_range1 (fa_cons (fo_val (fe_var (i := 0))) fa_nil) z_range) (fg_name 3 sc_rows_over.nd) (fss_cons (fs_set 4 (fe_lst fa_nil) sc_rows_over.nd) (fss_cons (fs_for [5] PassesOwn.leaving (fi_row (fe_var (i := 2))) (fg_name 5 sc_rows_over.nd) (fss_one (fs_expr (fe_ext 4 (fe_lc [6] (own := [("number", 6)]) sc_rows_over.nd (fi_range1 (fa_cons (fo_val (fe_var (i := 1))) fa_nil) z_range) (blkOk_by (own := [("number", 6)]) (N := ["length", "p", "rows", "place", "longer", "row", "number"]) (sc := defScope s_rows_over) (by decide +kernel)) (fun _ => (fg_name 6 sc_rows_over.nd)) (fun _ => fts_nil) (fun _ => (fe_op fop_add (fo_val (fe_var (i := 5))) (fo_val (fe_frz (fe_tup (fa_cons (fo_val (fe_var (i := 6))) fa_nil))))))))))) (fss_one (fs_setF 2 (fe_var (i := 4)) sc_rows_over.nd))))) (fss_one (fs_ret (fe_lc [5] (own := [("row", 5)]) sc_rows_over.nd (fi_row (fe_var (i := 2))) (blkOk_by (own := [("row", 5)]) (N := ["length", "p", "rows", "place", "longer", "row", "number"]) (sc := defScope s_rows_over) (by decide +kernel)) (fun _ => (fg_name 5 sc_rows_over.nd)) (fun _ => (fts_one (ft_cmp (fop_eq hr.units) (fo_val (fe_sl (fo_val (fe_lc [6] (own := [("number", 6)]) sc_rows_over.nd (fi_row (fe_var (i := 5))) (blk_ok (N := ["length", "p", "rows", "place", "longer", "row", "number"]) rfl (blkOk_by (own := [("number", 6)]) (by decide +kernel))) (fun _ => (fg_name 6 sc_rows_over.nd)) (fun _ => (fts_one (ft_cmp (fop_ne hr.units) (fo_val (fe_var (i := 6))) (fo_val fe_int)))) (fun _ => (fe_var (i := 6))))) fp_none (fp_some fe_int))) (fo_val (fe_lst (fa_cons (fo_val fe_int) fa_nil)))))) (fun _ => (fe_var (i := 5))))))))
theorem sc_pairs_over : FnScope ["left", "right", "p", "found", "l", "r"] ["left", "right", "p"] (defScope s_pairs_over) := ⟨rfl, rfl, rfl, by decide +kernel, rfl, by decide +kernel, by decide +kernel⟩
theorem ok_pairs_over {f_pairs_over : Addr} {fd_pairs_over : FuncData} {f_rows_over : Addr} {fd_rows_over : FuncData} {k : Nat} (D_pairs_over : Df K mg "pairs_over" s_pairs_over ["left", "right", "p"] f_pairs_over fd_pairs_over) (D_rows_over : Df K mg "rows_over" s_rows_over ["length", "p"] f_rows_over fd_rows_over) {r_rows_over : FSpec} (F_rows_over : FnOk P w K mg base (L2.CX P w) k f_rows_over fd_rows_over ["length", "p"] (FnD K 2 [] r_rows_over)) {r : FSpec} (hrd : RD_pairs_over r r_rows_over) :
    FnOk P w K mg base (L2.CX P w) (k + 1) f_pairs_over fd_pairs_over ["left", "right", "p"] (FnD K 3 [] r) := by
  refine fl_fn D_pairs_over.fn sc_pairs_over (by rfl) (fun cdv A outer s H E hr => ?_) hrd
  have tk := takes_of (X := cxOf (L2.CX P w) P w K mg base ["left", "right", "p", "found", "l", "r"] "pairs_over" (defScope s_pairs_over) f_pairs_over cdv A outer s H E) rfl rfl rfl rfl
  exact (fss_cons (fs_set 3 (fe_lst fa_nil) sc_pairs_over.nd) (fss_cons (fs_for [4] PassesOwn.leaving (fi_row (fe_call tk F_rows_over hr D_rows_over.mg D_rows_over.fn.kp D_rows_over.b (fa_cons (fo_val (fe_var (i := 0))) (fa_cons (fo_val (fe_var (i := 2))) fa_nil)))) (fg_name 4 sc_pairs_over.nd) (fss_one (fs_expr (fe_ext 3 (fe_lc [5] (own := [("r", 5)]) sc_pairs_over.nd (fi_row (fe_call tk F_rows_over hr D_rows_over.mg D_rows_over.fn.kp D_rows_over.b (fa_cons (fo_val (fe_var (i := 1))) (fa_cons (fo_val (fe_var (i := 2))) fa_nil)))) (blkOk_by (own := [("r", 5)]) (N := ["left", "right", "p", "found", "l", "r"]) (sc := defScope s_pairs_over) (by decide +kernel)) (fun _ => (fg_name 5 sc_pairs_over.nd)) (fun _ => fts_nil) (fun _ => (fe_tup (fa_cons (fo_val (fe_var (i := 4))) (fa_cons (fo_val (fe_var (i := 5))) fa_nil))))))))) (fss_one (fs_ret (fe_var (i := 3))))))
theorem sc_pair_table : FnScope ["pair", "p", "found", "a", "b"] ["pair", "p"] (defScope s_pair_table) := ⟨rfl, rfl, rfl, by decide +kernel, rfl, by decide +kernel, by decide +kernel⟩
theorem ok_pair_table {f_pair_table : Addr} {fd_pair_table : FuncData} {k : Nat} (D_pair_table : Df K mg "pair_table" s_pair_table ["pair", "p"] f_pair_table fd_pair_table) {r : FSpec} (hrd : RD_pair_table r) :
    FnOk P w K mg base (L2.CX P w) (k + 1) f_pair_table fd_pair_table ["pair", "p"] (FnD K 2 [] r) := by
  refine fl_fn D_pair_table.fn sc_pair_table (by rfl) (fun cdv A outer s H E hr => ?_) hrd
  have tk := takes_of (X := cxOf (L2.CX P w) P w K mg base ["pair", "p", "found", "a", "b"] "pair_table" (defScope s_pair_table) f_pair_table cdv A outer s H E) rfl rfl rfl rfl
  exact (fss_cons (fs_set 2 (fe_lst fa_nil) sc_pair_table.nd) (fss_cons (fs_for [3] PassesOwn.leaving (fi_row (fe_ix (hu_of hr) (fo_val (fe_var (i := 0))) (fo_val fe_int))) (fg_name 3 sc_pair_table.nd) (fss_one (fs_expr (fe_ext 2 (fe_lc [4] (own := [("b", 4)]) sc_pair_table.nd (fi_row (fe_ix (hu_of hr) (fo_val (fe_var (i := 0))) (fo_val fe_int))) (blkOk_by (own := [("b", 4)]) (N := ["pair", "p", "found", "a", "b"]) (sc := defScope s_pair_table) (by decide +kernel)) (fun _ => (fg_name 4 sc_pair_table.nd)) (fun _ => fts_nil) (fun _ => (fe_op fop_mod (fo_val (fe_op fop_mulX (fo_val (fe_var (i := 3))) (fo_val (fe_var (i := 4))))) (fo_val (fe_var (i := 1)))))))))) (fss_one (fs_ret (fe_var (i := 2))))))
theorem sc_task_tables : FnScope ["task", "p", "found", "k", "i", "j", "c"] ["task", "p"] (defScope s_task_tables) := ⟨rfl, rfl, rfl, by decide +kernel, rfl, by decide +kernel, by decide +kernel⟩
theorem ok_task_tables {f_task_tables : Addr} {fd_task_tables : FuncData} {k : Nat} (D_task_tables : Df K mg "task_tables" s_task_tables ["task", "p"] f_task_tables fd_task_tables) (z_range : mg "range" = none) {r : FSpec} (hrd : RD_task_tables r) :
    FnOk P w K mg base (L2.CX P w) (k + 1) f_task_tables fd_task_tables ["task", "p"] (FnD K 2 [] r) := by
  refine fl_fn D_task_tables.fn sc_task_tables (by rfl) (fun cdv A outer s H E hr => ?_) hrd
  have tk := takes_of (X := cxOf (L2.CX P w) P w K mg base ["task", "p", "found", "k", "i", "j", "c"] "task_tables" (defScope s_task_tables) f_task_tables cdv A outer s H E) rfl rfl rfl rfl
  exact (fss_cons (fs_setLc 2 [3] (own := [("k", 3)]) sc_task_tables.nd (fi_range1 (fa_cons (fo_val (fe_ix (hu_of hr) (fo_val (fe_var (i := 0))) (fo_val fe_int))) fa_nil) z_range) (blkOk_by (own := [("k", 3)]) (N := ["task", "p", "found", "k", "i", "j", "c"]) (sc := defScope s_task_tables) (by decide +kernel)) (fun _ => (fg_name 3 sc_task_tables.nd)) (fun _ => fts_nil) (fun _ => (fe_op fop_mulX (fo_val (fe_lst (fa_cons (fo_val fe_int) fa_nil))) (fo_val (fe_op fop_mulX (fo_val (fe_ix (hu_of hr) (fo_val (fe_var (i := 0))) (fo_val fe_int))) (fo_val (fe_ix (hu_of hr) (fo_val (fe_var (i := 0))) (fo_val fe_int)))))))) (fss_cons (fs_for [6, 5, 4, 3] PassesOwn.leaving (fi_row (fe_ix (hu_of hr) (fo_val (fe_var (i := 0))) (fo_val fe_int))) (fg_tup (fgs_cons (fg_name 3 sc_task_tables.nd) (fgs_cons (fg_name 4 sc_task_tables.nd) (fgs_cons (fg_name 5 sc_task_tables.nd) (fgs_cons (fg_name 6 sc_task_tables.nd) fgs_nil))))) (fss_one (fs_setLP (fe_op fop_mod (fo_val (fe_var (i := 6))) (fo_val (fe_var (i := 1)))) (fp_ix (fp_name 2) (fe_var (i := 3))) (fe_op fop_add (fo_val (fe_op fop_mulX (fo_val (fe_var (i := 4))) (fo_val (fe_ix (hu_of hr) (fo_val (fe_var (i := 0))) (fo_val fe_int))))) (fo_val (fe_var (i := 5))))))) (fss_one (fs_ret (fe_var (i := 2))))))
theorem sc_less_times : FnScope ["table", "number", "other", "p", "a", "b"] ["table", "number", "other", "p"] (defScope s_less_times) := ⟨rfl, rfl, rfl, by decide +kernel, rfl, by decide +kernel, by decide +kernel⟩
theorem ok_less_times {f_less_times : Addr} {fd_less_times : FuncData} {k : Nat} (D_less_times : Df K mg "less_times" s_less_times ["table", "number", "other", "p"] f_less_times fd_less_times) (z_zip : mg "zip" = none) {r : FSpec} (hrd : RD_less_times r) :
    FnOk P w K mg base (L2.CX P w) (k + 1) f_less_times fd_less_times ["table", "number", "other", "p"] (FnD K 4 [] r) := by
  refine fl_fn D_less_times.fn sc_less_times (by rfl) (fun cdv A outer s H E hr => ?_) hrd
  have tk := takes_of (X := cxOf (L2.CX P w) P w K mg base ["table", "number", "other", "p", "a", "b"] "less_times" (defScope s_less_times) f_less_times cdv A outer s H E) rfl rfl rfl rfl
  exact (fss_one (fs_ret (fe_lc [5, 4] (own := [("b", 5), ("a", 4)]) sc_less_times.nd (fi_zip (fa_cons (fo_val (fe_var (i := 0))) (fa_cons (fo_val (fe_var (i := 2))) fa_nil)) z_zip) (blkOk_by (own := [("b", 5), ("a", 4)]) (N := ["table", "number", "other", "p", "a", "b"]) (sc := defScope s_less_times) (by decide +kernel)) (fun _ => (fg_tup (fgs_cons (fg_name 4 sc_less_times.nd) (fgs_cons (fg_name 5 sc_less_times.nd) fgs_nil)))) (fun _ => fts_nil) (fun _ => (fe_op fop_mod (fo_val (fe_op fop_sub (fo_val (fe_var (i := 4))) (fo_val (fe_op fop_mulX (fo_val (fe_var (i := 1))) (fo_val (fe_var (i := 5))))))) (fo_val (fe_var (i := 3))))))))
theorem sc_first_place : FnScope ["table", "place", "number"] ["table"] (defScope s_first_place) := ⟨rfl, rfl, rfl, by decide +kernel, rfl, by decide +kernel, by decide +kernel⟩
theorem ok_first_place {f_first_place : Addr} {fd_first_place : FuncData} {k : Nat} (D_first_place : Df K mg "first_place" s_first_place ["table"] f_first_place fd_first_place) (z_enumerate : mg "enumerate" = none) {r : FSpec} (hrd : RD_first_place r) :
    FnOk P w K mg base (L2.CX P w) (k + 1) f_first_place fd_first_place ["table"] (FnD K 1 [] r) := by
  refine fl_fn D_first_place.fn sc_first_place (by rfl) (fun cdv A outer s H E hr => ?_) hrd
  have tk := takes_of (X := cxOf (L2.CX P w) P w K mg base ["table", "place", "number"] "first_place" (defScope s_first_place) f_first_place cdv A outer s H E) rfl rfl rfl rfl
  exact (fss_cons (fs_for [2, 1] PassesOwn.leaving (fi_enum (fa_cons (fo_val (fe_var (i := 0))) fa_nil) z_enumerate) (fg_tup (fgs_cons (fg_name 1 sc_first_place.nd) (fgs_cons (fg_name 2 sc_first_place.nd) fgs_nil))) (fss_one (fs_if (ft_cmp (fop_ne hr.units) (fo_val (fe_var (i := 2))) (fo_val fe_int)) (fss_one (fs_ret (fe_var (i := 1)))) fss_nil))) (fss_one (fs_ret fe_non)))
theorem sc_what_is_left : FnScope ["base", "table", "p", "place", "own"] ["base", "table", "p"] (defScope s_what_is_left) := ⟨rfl, rfl, rfl, by decide +kernel, rfl, by decide +kernel, by decide +kernel⟩
theorem ok_what_is_left {f_what_is_left : Addr} {fd_what_is_left : FuncData} {f_less_times : Addr} {fd_less_times : FuncData} {k : Nat} (D_what_is_left : Df K mg "what_is_left" s_what_is_left ["base", "table", "p"] f_what_is_left fd_what_is_left) (D_less_times : Df K mg "less_times" s_less_times ["table", "number", "other", "p"] f_less_times fd_less_times) {r_less_times : FSpec} (F_less_times : FnOk P w K mg base (L2.CX P w) k f_less_times fd_less_times ["table", "number", "other", "p"] (FnD K 4 [] r_less_times)) {r : FSpec} (hrd : RD_what_is_left r r_less_times) :
    FnOk P w K mg base (L2.CX P w) (k + 1) f_what_is_left fd_what_is_left ["base", "table", "p"] (FnD K 3 [] r) := by
  refine fl_fn D_what_is_left.fn sc_what_is_left (by rfl) (fun cdv A outer s H E hr => ?_) hrd
  have tk := takes_of (X := cxOf (L2.CX P w) P w K mg base ["base", "table", "p", "place", "own"] "what_is_left" (defScope s_what_is_left) f_what_is_left cdv A outer s H E) rfl rfl rfl rfl
  exact (fss_cons (fs_for [4, 3] PassesOwn.leaving (fi_row (fe_var (i := 0))) (fg_tup (fgs_cons (fg_name 3 sc_what_is_left.nd) (fgs_cons (fg_name 4 sc_what_is_left.nd) fgs_nil))) (fss_one (fs_if (ft_cmp (fop_ne hr.units) (fo_val (fe_ix (hu_of hr) (fo_val (fe_var (i := 1))) (fo_val (fe_var (i := 3))))) (fo_val fe_int)) (fss_one (fs_setF 1 (fe_call tk F_less_times hr D_less_times.mg D_less_times.fn.kp D_less_times.b (fa_cons (fo_val (fe_var (i := 1))) (fa_cons (fo_val (fe_ix (hu_of hr) (fo_val (fe_var (i := 1))) (fo_val (fe_var (i := 3))))) (fa_cons (fo_val (fe_var (i := 4))) (fa_cons (fo_val (fe_var (i := 2))) fa_nil))))) sc_what_is_left.nd)) fss_nil))) (fss_one (fs_ret (fe_var (i := 1)))))
theorem sc_grown_base : FnScope ["base", "table", "p", "left", "place", "number"] ["base", "table", "p"] (defScope s_grown_base) := ⟨rfl, rfl, rfl, by decide +kernel, rfl, by decide +kernel, by decide +kernel⟩
theorem ok_grown_base {f_grown_base : Addr} {fd_grown_base : FuncData} {f_what_is_left : Addr} {fd_what_is_left : FuncData} {f_first_place : Addr} {fd_first_place : FuncData} {k : Nat} (D_grown_base : Df K mg "grown_base" s_grown_base ["base", "table", "p"] f_grown_base fd_grown_base) (D_what_is_left : Df K mg "what_is_left" s_what_is_left ["base", "table", "p"] f_what_is_left fd_what_is_left) (D_first_place : Df K mg "first_place" s_first_place ["table"] f_first_place fd_first_place) {r_what_is_left : FSpec} (F_what_is_left : FnOk P w K mg base (L2.CX P w) k f_what_is_left fd_what_is_left ["base", "table", "p"] (FnD K 3 [] r_what_is_left)) {r_first_place : FSpec} (F_first_place : FnOk P w K mg base (L2.CX P w) k f_first_place fd_first_place ["table"] (FnD K 1 [] r_first_place)) {r : FSpec} (hrd : RD_grown_base r r_what_is_left r_first_place) :
    FnOk P w K mg base (L2.CX P w) (k + 1) f_grown_base fd_grown_base ["base", "table", "p"] (FnD K 3 [] r) := by
  refine fl_fn D_grown_base.fn sc_grown_base (by rfl) (fun cdv A outer s H E hr => ?_) hrd
  have tk := takes_of (X := cxOf (L2.CX P w) P w K mg base ["base", "table", "p", "left", "place", "number"] "grown_base" (defScope s_grown_base) f_grown_base cdv A outer s H E) rfl rfl rfl rfl
  exact (fss_cons (fs_setF 3 (fe_call tk F_what_is_left hr D_what_is_left.mg D_what_is_left.fn.kp D_what_is_left.b (fa_cons (fo_val (fe_var (i := 0))) (fa_cons (fo_val (fe_var (i := 1))) (fa_cons (fo_val (fe_var (i := 2))) fa_nil)))) sc_grown_base.nd) (fss_cons (fs_setF 4 (fe_call tk F_first_place hr D_first_place.mg D_first_place.fn.kp D_first_place.b (fa_cons (fo_val (fe_var (i := 3))) fa_nil)) sc_grown_base.nd) (fss_cons (fs_if (ft_cmp fop_isN0 (fo_val (fe_var (i := 4))) (fo_val fe_non)) (fss_one (fs_ret (fe_var (i := 0)))) fss_nil) (fss_one (fs_ret (fe_op fop_add (fo_val (fe_var (i := 0))) (fo_val (fe_frz (fe_lst (fa_cons (fo_val (fe_tup (fa_cons (fo_val (fe_var (i := 4))) (fa_cons (fo_val (fe_lc [5] (own := [("number", 5)]) sc_grown_base.nd (fi_row (fe_var (i := 3))) (blkOk_by (own := [("number", 5)]) (N := ["base", "table", "p", "left", "place", "number"]) (sc := defScope s_grown_base) (by decide +kernel)) (fun _ => (fg_name 5 sc_grown_base.nd)) (fun _ => fts_nil) (fun _ => (fe_op fop_mod (fo_val (fe_op fop_mulX (fo_val (fe_ix (hu_of hr) (fo_val (fe_var (i := 3))) (fo_val (fe_var (i := 4))))) (fo_val (fe_var (i := 5))))) (fo_val (fe_var (i := 2))))))) fa_nil)))) fa_nil))))))))))
theorem sc_base_of : FnScope ["tables", "p", "base", "table"] ["tables", "p"] (defScope s_base_of) := ⟨rfl, rfl, rfl, by decide +kernel, rfl, by decide +kernel, by decide +kernel⟩
theorem ok_base_of {f_base_of : Addr} {fd_base_of : FuncData} {f_grown_base : Addr} {fd_grown_base : FuncData} {k : Nat} (D_base_of : Df K mg "base_of" s_base_of ["tables", "p"] f_base_of fd_base_of) (D_grown_base : Df K mg "grown_base" s_grown_base ["base", "table", "p"] f_grown_base fd_grown_base) {r_grown_base : FSpec} (F_grown_base : FnOk P w K mg base (L2.CX P w) k f_grown_base fd_grown_base ["base", "table", "p"] (FnD K 3 [] r_grown_base)) {r : FSpec} (hrd : RD_base_of r r_grown_base) :
    FnOk P w K mg base (L2.CX P w) (k + 1) f_base_of fd_base_of ["tables", "p"] (FnD K 2 [] r) := by
  refine fl_fn D_base_of.fn sc_base_of (by rfl) (fun cdv A outer s H E hr => ?_) hrd
  have tk := takes_of (X := cxOf (L2.CX P w) P w K mg base ["tables", "p", "base", "table"] "base_of" (defScope s_base_of) f_base_of cdv A outer s H E) rfl rfl rfl rfl
  exact (fss_cons (fs_setF 2 (fe_lst fa_nil) sc_base_of.nd) (fss_cons (fs_for [3] PassesOwn.leaving (fi_row (fe_var (i := 0))) (fg_name 3 sc_base_of.nd) (fss_one (fs_setF 2 (fe_call tk F_grown_base hr D_grown_base.mg D_grown_base.fn.kp D_grown_base.b (fa_cons (fo_val (fe_var (i := 2))) (fa_cons (fo_val (fe_var (i := 3))) (fa_cons (fo_val (fe_var (i := 1))) fa_nil)))) sc_base_of.nd))) (fss_one (fs_ret (fe_var (i := 2))))))
theorem sc_lies_in : FnScope ["base", "table", "p"] ["base", "table", "p"] (defScope s_lies_in) := ⟨rfl, rfl, rfl, by decide +kernel, rfl, by decide +kernel, by decide +kernel⟩
theorem ok_lies_in {f_lies_in : Addr} {fd_lies_in : FuncData} {f_first_place : Addr} {fd_first_place : FuncData} {f_what_is_left : Addr} {fd_what_is_left : FuncData} {k : Nat} (D_lies_in : Df K mg "lies_in" s_lies_in ["base", "table", "p"] f_lies_in fd_lies_in) (D_first_place : Df K mg "first_place" s_first_place ["table"] f_first_place fd_first_place) (D_what_is_left : Df K mg "what_is_left" s_what_is_left ["base", "table", "p"] f_what_is_left fd_what_is_left) {r_first_place : FSpec} (F_first_place : FnOk P w K mg base (L2.CX P w) k f_first_place fd_first_place ["table"] (FnD K 1 [] r_first_place)) {r_what_is_left : FSpec} (F_what_is_left : FnOk P w K mg base (L2.CX P w) k f_what_is_left fd_what_is_left ["base", "table", "p"] (FnD K 3 [] r_what_is_left)) {r : FSpec} (hrd : RD_lies_in r r_first_place r_what_is_left) :
    FnOk P w K mg base (L2.CX P w) (k + 1) f_lies_in fd_lies_in ["base", "table", "p"] (FnD K 3 [] r) := by
  refine fl_fn D_lies_in.fn sc_lies_in (by rfl) (fun cdv A outer s H E hr => ?_) hrd
  have tk := takes_of (X := cxOf (L2.CX P w) P w K mg base ["base", "table", "p"] "lies_in" (defScope s_lies_in) f_lies_in cdv A outer s H E) rfl rfl rfl rfl
  exact (fss_one (fs_ret (fe_isN (fo_val (fe_call tk F_first_place hr D_first_place.mg D_first_place.fn.kp D_first_place.b (fa_cons (fo_val (fe_call tk F_what_is_left hr D_what_is_left.mg D_what_is_left.fn.kp D_what_is_left.b (fa_cons (fo_val (fe_var (i := 0))) (fa_cons (fo_val (fe_var (i := 1))) (fa_cons (fo_val (fe_var (i := 2))) fa_nil))))) fa_nil))))))
theorem sc_many_sets : FnScope ["many", "size", "found", "k"] ["many", "size"] (defScope s_many_sets) := ⟨rfl, rfl, rfl, by decide +kernel, rfl, by decide +kernel, by decide +kernel⟩
theorem ok_many_sets {f_many_sets : Addr} {fd_many_sets : FuncData} {k : Nat} (D_many_sets : Df K mg "many_sets" s_many_sets ["many", "size"] f_many_sets fd_many_sets) (z_range : mg "range" = none) {r : FSpec} (hrd : RD_many_sets r) :
    FnOk P w K mg base (L2.CX P w) (k + 1) f_many_sets fd_many_sets ["many", "size"] (FnD K 2 [] r) := by
  refine fl_fn D_many_sets.fn sc_many_sets (by rfl) (fun cdv A outer s H E hr => ?_) hrd
  have tk := takes_of (X := cxOf (L2.CX P w) P w K mg base ["many", "size", "found", "k"] "many_sets" (defScope s_many_sets) f_many_sets cdv A outer s H E) rfl rfl rfl rfl
  exact (fss_cons (fs_setF 2 fe_int sc_many_sets.nd) (fss_cons (fs_for [3] PassesOwn.leaving (fi_range1 (fa_cons (fo_val (fe_var (i := 1))) fa_nil) z_range) (fg_name 3 sc_many_sets.nd) (fss_one (fs_setF 2 (fe_op fop_fdiv (fo_val (fe_op fop_mulX (fo_val (fe_var (i := 2))) (fo_val (fe_op fop_sub (fo_val (fe_var (i := 0))) (fo_val (fe_var (i := 3))))))) (fo_val (fe_addC (fo_val (fe_var (i := 3)))))) sc_many_sets.nd))) (fss_one (fs_ret (fe_var (i := 2))))))
theorem sc_all_sets : FnScope ["many", "size", "rows", "k", "longer", "row", "first", "number"] ["many", "size"] (defScope s_all_sets) := ⟨rfl, rfl, rfl, by decide +kernel, rfl, by decide +kernel, by decide +kernel⟩
theorem ok_all_sets {f_all_sets : Addr} {fd_all_sets : FuncData} {k : Nat} (D_all_sets : Df K mg "all_sets" s_all_sets ["many", "size"] f_all_sets fd_all_sets) (z_len : mg "len" = none) (z_range : mg "range" = none) {r : FSpec} (hrd : RD_all_sets r) :
    FnOk P w K mg base (L2.CX P w) (k + 1) f_all_sets fd_all_sets ["many", "size"] (FnD K 2 [] r) := by
  refine fl_fn D_all_sets.fn sc_all_sets (by rfl) (fun cdv A outer s H E hr => ?_) hrd
  have tk := takes_of (X := cxOf (L2.CX P w) P w K mg base ["many", "size", "rows", "k", "longer", "row", "first", "number"] "all_sets" (defScope s_all_sets) f_all_sets cdv A outer s H E) rfl rfl rfl rfl
  exact (fss_cons (fs_setF 2 (fe_lst (fa_cons (fo_val (fe_tup fa_nil)) fa_nil)) sc_all_sets.nd) (fss_cons (fs_for [3] PassesOwn.leaving (fi_range1 (fa_cons (fo_val (fe_var (i := 1))) fa_nil) z_range) (fg_name 3 sc_all_sets.nd) (fss_cons (fs_set 4 (fe_lst fa_nil) sc_all_sets.nd) (fss_cons (fs_for [5] PassesOwn.leaving (fi_row (fe_var (i := 2))) (fg_name 5 sc_all_sets.nd) (fss_cons (fs_setF 6 (fe_ifE (ft_cmp fop_gt (fo_val (fe_callB fc_len z_len (by decide +kernel) (fa_cons (fo_val (fe_var (i := 5))) fa_nil))) (fo_val fe_int)) (fe_addC (fo_val (fe_ix (hu_of hr) (fo_val (fe_var (i := 5))) (fo_val fe_negC)))) fe_int) sc_all_sets.nd) (fss_one (fs_expr (fe_ext 4 (fe_lc [7] (own := [("number", 7)]) sc_all_sets.nd (fi_range2 (fa_cons (fo_val (fe_var (i := 6))) (fa_cons (fo_val (fe_addC (fo_val (fe_op fop_add (fo_val (fe_op fop_sub (fo_val (fe_var (i := 0))) (fo_val (fe_var (i := 1))))) (fo_val (fe_var (i := 3))))))) fa_nil)) z_range) (blkOk_by (own := [("number", 7)]) (N := ["many", "size", "rows", "k", "longer", "row", "first", "number"]) (sc := defScope s_all_sets) (by decide +kernel)) (fun _ => (fg_name 7 sc_all_sets.nd)) (fun _ => fts_nil) (fun _ => (fe_op fop_add (fo_val (fe_var (i := 5))) (fo_val (fe_frz (fe_tup (fa_cons (fo_val (fe_var (i := 7))) fa_nil)))))))))))) (fss_one (fs_setF 2 (fe_var (i := 4)) sc_all_sets.nd))))) (fss_one (fs_ret (fe_var (i := 2))))))
theorem sc_Tables_init : FnScope ["self", "task", "p", "pair"] ["self", "task", "p"] (defScope s_Tables_init) := ⟨rfl, rfl, rfl, by decide +kernel, rfl, by decide +kernel, by decide +kernel⟩
theorem ok_Tables_init {f_Tables_init : Addr} {fd_Tables_init : FuncData} {f_base_of : Addr} {fd_base_of : FuncData} {f_pairs_over : Addr} {fd_pairs_over : FuncData} {f_task_tables : Addr} {fd_task_tables : FuncData} {f_pair_table : Addr} {fd_pair_table : FuncData} {cv_Tables : Addr} {k : Nat} (D_Tables_init : DfM K "__init__" "Tables.__init__" s_Tables_init ["self", "task", "p"] f_Tables_init fd_Tables_init) (D_base_of : Df K mg "base_of" s_base_of ["tables", "p"] f_base_of fd_base_of) (D_pairs_over : Df K mg "pairs_over" s_pairs_over ["left", "right", "p"] f_pairs_over fd_pairs_over) (D_task_tables : Df K mg "task_tables" s_task_tables ["task", "p"] f_task_tables fd_task_tables) (D_pair_table : Df K mg "pair_table" s_pair_table ["pair", "p"] f_pair_table fd_pair_table) {r_base_of : FSpec} (F_base_of : FnOk P w K mg base (L2.CX P w) k f_base_of fd_base_of ["tables", "p"] (FnD K 2 [] r_base_of)) {r_pairs_over : FSpec} (F_pairs_over : FnOk P w K mg base (L2.CX P w) k f_pairs_over fd_pairs_over ["left", "right", "p"] (FnD K 3 [] r_pairs_over)) {r_task_tables : FSpec} (F_task_tables : FnOk P w K mg base (L2.CX P w) k f_task_tables fd_task_tables ["task", "p"] (FnD K 2 [] r_task_tables)) {r_pair_table : FSpec} (F_pair_table : FnOk P w K mg base (L2.CX P w) k f_pair_table fd_pair_table ["pair", "p"] (FnD K 2 [] r_pair_table)) (cl_Tables : Cls K cv_Tables) (na_Tables_base : NoAttr K cv_Tables "base") (na_Tables_p : NoAttr K cv_Tables "p") (na_Tables_pairs : NoAttr K cv_Tables "pairs") (na_Tables_tables : NoAttr K cv_Tables "tables") (na_Tables_task : NoAttr K cv_Tables "task") {r : FSpec} (hrd : RD_Tables_init r r_base_of r_pairs_over r_task_tables r_pair_table cv_Tables) :
    FnOk P w K mg base (L2.CX P w) (k + 1) f_Tables_init fd_Tables_init ["self", "task", "p"] (FnD K 3 [0] r) := by
  refine fl_fn D_Tables_init.fn sc_Tables_init (by rfl) (fun cdv A outer s H E hr => ?_) hrd
  have tk := takes_of (X := cxOf (L2.CX P w) P w K mg base ["self", "task", "p", "pair"] "Tables.__init__" (defScope s_Tables_init) f_Tables_init cdv A outer s H E) rfl rfl rfl rfl
  exact (fss_cons (fs_newF (fs0 := []) 0 cl_Tables na_Tables_task (fe_var (i := 1))) (fss_cons (fs_newF (fs0 := ["task"]) 0 cl_Tables na_Tables_p (fe_var (i := 2))) (fss_cons (fs_newF (fs0 := ["task", "p"]) 0 cl_Tables na_Tables_base (fe_call tk F_base_of hr D_base_of.mg D_base_of.fn.kp D_base_of.b (fa_cons (fo_val (fe_call tk F_task_tables hr D_task_tables.mg D_task_tables.fn.kp D_task_tables.b (fa_cons (fo_val (fe_var (i := 1))) (fa_cons (fo_val (fe_var (i := 2))) fa_nil)))) (fa_cons (fo_val (fe_var (i := 2))) fa_nil)))) (fss_cons (fs_newF (fs0 := ["task", "p", "base"]) 0 cl_Tables na_Tables_pairs (fe_call tk F_pairs_over hr D_pairs_over.mg D_pairs_over.fn.kp D_pairs_over.b (fa_cons (fo_val (fe_ix (hu_of hr) (fo_val (fe_var (i := 1))) (fo_val fe_int))) (fa_cons (fo_val (fe_ix (hu_of hr) (fo_val (fe_var (i := 1))) (fo_val fe_int))) (fa_cons (fo_val (fe_var (i := 2))) fa_nil))))) (fss_one (fs_newF (fs0 := ["task", "p", "base", "pairs"]) 0 cl_Tables na_Tables_tables (fe_thaw 0 (fe_lc [3] (own := [("pair", 3)]) sc_Tables_init.nd (fi_row (fe_fld 3 cl_Tables na_Tables_pairs (fo_val (fe_var (i := 0))))) (blkOk_by (own := [("pair", 3)]) (N := ["self", "task", "p", "pair"]) (sc := defScope s_Tables_init) (by decide +kernel)) (fun _ => (fg_name 3 sc_Tables_init.nd)) (fun _ => fts_nil) (fun _ => (fe_call takes0 F_pair_table hr D_pair_table.mg D_pair_table.fn.kp D_pair_table.b (fa_cons (fo_val (fe_var (i := 3))) (fa_cons (fo_val (fe_var (i := 2))) fa_nil))))))))))))
theorem sc_Tables_with_set : FnScope ["self", "numbers", "base", "number"] ["self", "numbers"] (defScope s_Tables_with_set) := ⟨rfl, rfl, rfl, by decide +kernel, rfl, by decide +kernel, by decide +kernel⟩
theorem ok_Tables_with_set {f_Tables_with_set : Addr} {fd_Tables_with_set : FuncData} {f_grown_base : Addr} {fd_grown_base : FuncData} {cv_Tables : Addr} {k : Nat} (D_Tables_with_set : DfM K "with_set" "Tables.with_set" s_Tables_with_set ["self", "numbers"] f_Tables_with_set fd_Tables_with_set) (D_grown_base : Df K mg "grown_base" s_grown_base ["base", "table", "p"] f_grown_base fd_grown_base) {r_grown_base : FSpec} (F_grown_base : FnOk P w K mg base (L2.CX P w) k f_grown_base fd_grown_base ["base", "table", "p"] (FnD K 3 [] r_grown_base)) (cl_Tables : Cls K cv_Tables) (na_Tables_base : NoAttr K cv_Tables "base") (na_Tables_p : NoAttr K cv_Tables "p") (na_Tables_tables : NoAttr K cv_Tables "tables") {r : FSpec} (hrd : RD_Tables_with_set r r_grown_base cv_Tables) :
    FnOk P w K mg base (L2.CX P w) (k + 1) f_Tables_with_set fd_Tables_with_set ["self", "numbers"] (FnD K 2 [] r) := by
  refine fl_fn D_Tables_with_set.fn sc_Tables_with_set (by rfl) (fun cdv A outer s H E hr => ?_) hrd
  have tk := takes_of (X := cxOf (L2.CX P w) P w K mg base ["self", "numbers", "base", "number"] "Tables.with_set" (defScope s_Tables_with_set) f_Tables_with_set cdv A outer s H E) rfl rfl rfl rfl
  exact (fss_cons (fs_setF 2 (fe_fld 2 cl_Tables na_Tables_base (fo_val (fe_var (i := 0)))) sc_Tables_with_set.nd) (fss_cons (fs_for [3] PassesOwn.leaving (fi_row (fe_var (i := 1))) (fg_name 3 sc_Tables_with_set.nd) (fss_one (fs_setF 2 (fe_call tk F_grown_base hr D_grown_base.mg D_grown_base.fn.kp D_grown_base.b (fa_cons (fo_val (fe_var (i := 2))) (fa_cons (fo_val (fe_ix (hu_of hr) (fo_val (fe_fld 4 cl_Tables na_Tables_tables (fo_val (fe_var (i := 0))))) (fo_val (fe_var (i := 3))))) (fa_cons (fo_val (fe_fld 1 cl_Tables na_Tables_p (fo_val (fe_var (i := 0))))) fa_nil)))) sc_Tables_with_set.nd))) (fss_one (fs_ret (fe_var (i := 2))))))
theorem sc_Tables_pairs_in : FnScope ["self", "base", "own", "found", "number", "table", "more"] ["self", "base"] (defScope s_Tables_pairs_in) := ⟨rfl, rfl, rfl, by decide +kernel, rfl, by decide +kernel, by decide +kernel⟩
theorem ok_Tables_pairs_in {f_Tables_pairs_in : Addr} {fd_Tables_pairs_in : FuncData} {f_lies_in : Addr} {fd_lies_in : FuncData} {f_grown_base : Addr} {fd_grown_base : FuncData} {cv_Tables : Addr} {k : Nat} (D_Tables_pairs_in : DfM K "pairs_in" "Tables.pairs_in" s_Tables_pairs_in ["self", "base"] f_Tables_pairs_in fd_Tables_pairs_in) (D_lies_in : Df K mg "lies_in" s_lies_in ["base", "table", "p"] f_lies_in fd_lies_in) (D_grown_base : Df K mg "grown_base" s_grown_base ["base", "table", "p"] f_grown_base fd_grown_base) {r_lies_in : FSpec} (F_lies_in : FnOk P w K mg base (L2.CX P w) k f_lies_in fd_lies_in ["base", "table", "p"] (FnD K 3 [] r_lies_in)) {r_grown_base : FSpec} (F_grown_base : FnOk P w K mg base (L2.CX P w) k f_grown_base fd_grown_base ["base", "table", "p"] (FnD K 3 [] r_grown_base)) (z_enumerate : mg "enumerate" = none) (z_len : mg "len" = none) (cl_Tables : Cls K cv_Tables) (na_Tables_p : NoAttr K cv_Tables "p") (na_Tables_tables : NoAttr K cv_Tables "tables") {r : FSpec} (hrd : RD_Tables_pairs_in r r_lies_in r_grown_base cv_Tables) :
    FnOk P w K mg base (L2.CX P w) (k + 1) f_Tables_pairs_in fd_Tables_pairs_in ["self", "base"] (FnD K 2 [] r) := by
  refine fl_fn D_Tables_pairs_in.fn sc_Tables_pairs_in (by rfl) (fun cdv A outer s H E hr => ?_) hrd
  have tk := takes_of (X := cxOf (L2.CX P w) P w K mg base ["self", "base", "own", "found", "number", "table", "more"] "Tables.pairs_in" (defScope s_Tables_pairs_in) f_Tables_pairs_in cdv A outer s H E) rfl rfl rfl rfl
  exact (fss_cons (fs_setF 2 (fe_lst fa_nil) sc_Tables_pairs_in.nd) (fss_cons (fs_set 3 (fe_lst fa_nil) sc_Tables_pairs_in.nd) (fss_cons (fs_for [5, 4] PassesOwn.leaving (fi_enum (fa_cons (fo_val (fe_fld 4 cl_Tables na_Tables_tables (fo_val (fe_var (i := 0))))) fa_nil) z_enumerate) (fg_tup (fgs_cons (fg_name 4 sc_Tables_pairs_in.nd) (fgs_cons (fg_name 5 sc_Tables_pairs_in.nd) fgs_nil))) (fss_one (fs_if (FW.ft (fw_and (ft_cmp fop_lt (fo_val (fe_callB fc_len z_len (by decide +kernel) (fa_cons (fo_val (fe_var (i := 2))) fa_nil))) (fo_val (fe_callB fc_len z_len (by decide +kernel) (fa_cons (fo_val (fe_var (i := 1))) fa_nil)))) (fw_and1 (ft_val (fe_call tk F_lies_in hr D_lies_in.mg D_lies_in.fn.kp D_lies_in.b (fa_cons (fo_val (fe_var (i := 1))) (fa_cons (fo_val (fe_var (i := 5))) (fa_cons (fo_val (fe_fld 1 cl_Tables na_Tables_p (fo_val (fe_var (i := 0))))) fa_nil)))))))) (fss_cons (fs_setF 6 (fe_call tk F_grown_base hr D_grown_base.mg D_grown_base.fn.kp D_grown_base.b (fa_cons (fo_val (fe_var (i := 2))) (fa_cons (fo_val (fe_var (i := 5))) (fa_cons (fo_val (fe_fld 1 cl_Tables na_Tables_p (fo_val (fe_var (i := 0))))) fa_nil)))) sc_Tables_pairs_in.nd) (fss_cons (fs_cut (fs_if (ft_cmp fop_gt (fo_val (fe_callB fc_len z_len (by decide +kernel) (fa_cons (fo_val (fe_var (i := 6))) fa_nil))) (fo_val (fe_callB fc_len z_len (by decide +kernel) (fa_cons (fo_val (fe_var (i := 2))) fa_nil)))) (fss_one (fs_expr (fe_app 3 (fe_var (i := 4))))) fss_nil)) (fss_one (fs_setF 2 (fe_var (i := 6)) sc_Tables_pairs_in.nd)))) fss_nil))) (fss_one (fs_ret (fe_tup (fa_cons (fo_val (fe_var (i := 3))) (fa_cons (fo_val (fe_var (i := 2))) fa_nil))))))))
theorem sc_with_single : FnScope ["table", "place", "size", "here"] ["table", "place", "size"] (defScope s_with_single) := ⟨rfl, rfl, rfl, by decide +kernel, rfl, by decide +kernel, by decide +kernel⟩
theorem ok_with_single {f_with_single : Addr} {fd_with_single : FuncData} {k : Nat} (D_with_single : Df K mg "with_single" s_with_single ["table", "place", "size"] f_with_single fd_with_single) (z_int : mg "int" = none) (z_range : mg "range" = none) {r : FSpec} (hrd : RD_with_single r) :
    FnOk P w K mg base (L2.CX P w) (k + 1) f_with_single fd_with_single ["table", "place", "size"] (FnD K 3 [] r) := by
  refine fl_fn D_with_single.fn sc_with_single (by rfl) (fun cdv A outer s H E hr => ?_) hrd
  have tk := takes_of (X := cxOf (L2.CX P w) P w K mg base ["table", "place", "size", "here"] "with_single" (defScope s_with_single) f_with_single cdv A outer s H E) rfl rfl rfl rfl
  exact (fss_one (fs_ret (fe_op fop_add (fo_val (fe_var (i := 0))) (fo_val (fe_lc [3] (own := [("here", 3)]) sc_with_single.nd (fi_range1 (fa_cons (fo_val (fe_var (i := 2))) fa_nil) z_range) (blkOk_by (own := [("here", 3)]) (N := ["table", "place", "size", "here"]) (sc := defScope s_with_single) (by decide +kernel)) (fun _ => (fg_name 3 sc_with_single.nd)) (fun _ => fts_nil) (fun _ => (fe_callTy fc_int z_int (by decide +kernel) (fa_cons (fo_val (fe_cmp (fop_eq hr.units) (fo_val (fe_var (i := 3))) (fo_val (fe_var (i := 1))))) fa_nil))))))))
theorem sc_scheme_by : FnScope ["known", "numbers", "size", "rows", "base", "outs", "table", "products", "left", "at", "number", "l", "r", "out"] ["known", "numbers"] (defScope s_scheme_by) := ⟨rfl, rfl, rfl, by decide +kernel, rfl, by decide +kernel, by decide +kernel⟩
theorem ok_scheme_by {f_scheme_by : Addr} {fd_scheme_by : FuncData} {f_base_of : Addr} {fd_base_of : FuncData} {f_task_tables : Addr} {fd_task_tables : FuncData} {f_with_single : Addr} {fd_with_single : FuncData} {f_what_is_left : Addr} {fd_what_is_left : FuncData} {cv_Tables : Addr} {k : Nat} (D_scheme_by : Df K mg "scheme_by" s_scheme_by ["known", "numbers"] f_scheme_by fd_scheme_by) (D_base_of : Df K mg "base_of" s_base_of ["tables", "p"] f_base_of fd_base_of) (D_task_tables : Df K mg "task_tables" s_task_tables ["task", "p"] f_task_tables fd_task_tables) (D_with_single : Df K mg "with_single" s_with_single ["table", "place", "size"] f_with_single fd_with_single) (D_what_is_left : Df K mg "what_is_left" s_what_is_left ["base", "table", "p"] f_what_is_left fd_what_is_left) {r_base_of : FSpec} (F_base_of : FnOk P w K mg base (L2.CX P w) k f_base_of fd_base_of ["tables", "p"] (FnD K 2 [] r_base_of)) {r_task_tables : FSpec} (F_task_tables : FnOk P w K mg base (L2.CX P w) k f_task_tables fd_task_tables ["task", "p"] (FnD K 2 [] r_task_tables)) {r_with_single : FSpec} (F_with_single : FnOk P w K mg base (L2.CX P w) k f_with_single fd_with_single ["table", "place", "size"] (FnD K 3 [] r_with_single)) {r_what_is_left : FSpec} (F_what_is_left : FnOk P w K mg base (L2.CX P w) k f_what_is_left fd_what_is_left ["base", "table", "p"] (FnD K 3 [] r_what_is_left)) (z_enumerate : mg "enumerate" = none) (z_len : mg "len" = none) (z_tuple : mg "tuple" = none) (cl_Tables : Cls K cv_Tables) (na_Tables_p : NoAttr K cv_Tables "p") (na_Tables_pairs : NoAttr K cv_Tables "pairs") (na_Tables_tables : NoAttr K cv_Tables "tables") (na_Tables_task : NoAttr K cv_Tables "task") {r : FSpec} (hrd : RD_scheme_by r r_base_of r_task_tables r_with_single r_what_is_left cv_Tables) :
    FnOk P w K mg base (L2.CX P w) (k + 1) f_scheme_by fd_scheme_by ["known", "numbers"] (FnD K 2 [] r) := by
  refine fl_fn D_scheme_by.fn sc_scheme_by (by rfl) (fun cdv A outer s H E hr => ?_) hrd
  have tk := takes_of (X := cxOf (L2.CX P w) P w K mg base ["known", "numbers", "size", "rows", "base", "outs", "table", "products", "left", "at", "number", "l", "r", "out"] "scheme_by" (defScope s_scheme_by) f_scheme_by cdv A outer s H E) rfl rfl rfl rfl
  exact (fss_cons (fs_setF 2 (fe_callB fc_len z_len (by decide +kernel) (fa_cons (fo_val (fe_var (i := 1))) fa_nil)) sc_scheme_by.nd) (fss_cons (fs_setLcF 3 [10, 9] (own := [("number", 10), ("at", 9)]) sc_scheme_by.nd (fi_enum (fa_cons (fo_val (fe_var (i := 1))) fa_nil) z_enumerate) (blkOk_by (own := [("number", 10), ("at", 9)]) (N := ["known", "numbers", "size", "rows", "base", "outs", "table", "products", "left", "at", "number", "l", "r", "out"]) (sc := defScope s_scheme_by) (by decide +kernel)) (fun _ => (fg_tup (fgs_cons (fg_name 9 sc_scheme_by.nd) (fgs_cons (fg_name 10 sc_scheme_by.nd) fgs_nil)))) (fun _ => fts_nil) (fun _ => (fe_call takes0 F_with_single hr D_with_single.mg D_with_single.fn.kp D_with_single.b (fa_cons (fo_val (fe_ix (hu_of hr) (fo_val (fe_fld 4 cl_Tables na_Tables_tables (fo_val (fe_var (i := 0))))) (fo_val (fe_var (i := 10))))) (fa_cons (fo_val (fe_var (i := 9))) (fa_cons (fo_val (fe_var (i := 2))) fa_nil)))))) (fss_cons (fs_setF 4 (fe_call tk F_base_of hr D_base_of.mg D_base_of.fn.kp D_base_of.b (fa_cons (fo_val (fe_var (i := 3))) (fa_cons (fo_val (fe_fld 1 cl_Tables na_Tables_p (fo_val (fe_var (i := 0))))) fa_nil))) sc_scheme_by.nd) (fss_cons (fs_set 5 (fe_lst fa_nil) sc_scheme_by.nd) (fss_cons (fs_for [6] PassesOwn.leaving (fi_row (fe_frz (fe_call tk F_task_tables hr D_task_tables.mg D_task_tables.fn.kp D_task_tables.b (fa_cons (fo_val (fe_fld 0 cl_Tables na_Tables_task (fo_val (fe_var (i := 0))))) (fa_cons (fo_val (fe_fld 1 cl_Tables na_Tables_p (fo_val (fe_var (i := 0))))) fa_nil))))) (fg_name 6 sc_scheme_by.nd) (fss_cons (fs_setF 8 (fe_call tk F_what_is_left hr D_what_is_left.mg D_what_is_left.fn.kp D_what_is_left.b (fa_cons (fo_val (fe_var (i := 4))) (fa_cons (fo_val (fe_call tk F_with_single hr D_with_single.mg D_with_single.fn.kp D_with_single.b (fa_cons (fo_val (fe_var (i := 6))) (fa_cons (fo_val (fe_var (i := 2))) (fa_cons (fo_val (fe_var (i := 2))) fa_nil))))) (fa_cons (fo_val (fe_fld 1 cl_Tables na_Tables_p (fo_val (fe_var (i := 0))))) fa_nil)))) sc_scheme_by.nd) (fss_one (fs_expr (fe_app 5 (fe_lc [10] (own := [("number", 10)]) sc_scheme_by.nd (fi_row (fe_sl (fo_val (fe_var (i := 8))) (fp_some (fe_callB fc_len z_len (by decide +kernel) (fa_cons (fo_val (fe_var (i := 6))) fa_nil))) fp_none)) (blkOk_by (own := [("number", 10)]) (N := ["known", "numbers", "size", "rows", "base", "outs", "table", "products", "left", "at", "number", "l", "r", "out"]) (sc := defScope s_scheme_by) (by decide +kernel)) (fun _ => (fg_name 10 sc_scheme_by.nd)) (fun _ => fts_nil) (fun _ => (fe_op fop_mod (fo_val (fe_neg (fo_val (fe_var (i := 10))))) (fo_val (fe_fld 1 cl_Tables na_Tables_p (fo_val (fe_var (i := 0))))))))))))) (fss_cons (fs_set 7 (fe_lst fa_nil) sc_scheme_by.nd) (fss_cons (fs_for [10, 9] PassesOwn.leaving (fi_enum (fa_cons (fo_val (fe_var (i := 1))) fa_nil) z_enumerate) (fg_tup (fgs_cons (fg_name 9 sc_scheme_by.nd) (fgs_cons (fg_name 10 sc_scheme_by.nd) fgs_nil))) (fss_cons (fs_asg [12, 11] (fe_ix (hu_of hr) (fo_val (fe_fld 3 cl_Tables na_Tables_pairs (fo_val (fe_var (i := 0))))) (fo_val (fe_var (i := 10)))) (fg_tup (fgs_cons (fg_name 11 sc_scheme_by.nd) (fgs_cons (fg_name 12 sc_scheme_by.nd) fgs_nil)))) (fss_one (fs_expr (fe_app 7 (fe_tup (fa_cons (fo_val (fe_var (i := 11))) (fa_cons (fo_val (fe_var (i := 12))) (fa_cons (fo_val (fe_callTy fc_tuple z_tuple (by decide +kernel) (fa_cons (fo_val (fe_lc [13] (own := [("out", 13)]) sc_scheme_by.nd (fi_row (fe_ice (i := 5))) (blkOk_by (own := [("out", 13)]) (N := ["known", "numbers", "size", "rows", "base", "outs", "table", "products", "left", "at", "number", "l", "r", "out"]) (sc := defScope s_scheme_by) (by decide +kernel)) (fun _ => (fg_name 13 sc_scheme_by.nd)) (fun _ => fts_nil) (fun _ => (fe_ix (hu_of hr) (fo_val (fe_var (i := 13))) (fo_val (fe_var (i := 9))))))) fa_nil))) fa_nil))))))))) (fss_one (fs_ret (fe_catT (fe_sl (fo_val (fe_fld 0 cl_Tables na_Tables_task (fo_val (fe_var (i := 0))))) fp_none (fp_some fe_int)) (fe_tup (fa_cons (fo_val (fe_var (i := 7))) fa_nil))))))))))))
theorem sc_least_over : FnScope ["task", "p", "known", "many", "size", "numbers", "base", "found"] ["task", "p"] (defScope s_least_over) := ⟨rfl, rfl, rfl, by decide +kernel, rfl, by decide +kernel, by decide +kernel⟩
theorem ok_least_over {f_least_over : Addr} {fd_least_over : FuncData} {f_Tables_init : Addr} {fd_Tables_init : FuncData} {f_all_sets : Addr} {fd_all_sets : FuncData} {f_many_sets : Addr} {fd_many_sets : FuncData} {f_Tables_with_set : Addr} {fd_Tables_with_set : FuncData} {f_Tables_pairs_in : Addr} {fd_Tables_pairs_in : FuncData} {f_scheme_by : Addr} {fd_scheme_by : FuncData} {cv_Tables : Addr} {k : Nat} (D_least_over : Df K mg "least_over" s_least_over ["task", "p"] f_least_over fd_least_over) (D_Tables_init : DfM K "__init__" "Tables.__init__" s_Tables_init ["self", "task", "p"] f_Tables_init fd_Tables_init) (D_all_sets : Df K mg "all_sets" s_all_sets ["many", "size"] f_all_sets fd_all_sets) (D_many_sets : Df K mg "many_sets" s_many_sets ["many", "size"] f_many_sets fd_many_sets) (D_Tables_with_set : DfM K "with_set" "Tables.with_set" s_Tables_with_set ["self", "numbers"] f_Tables_with_set fd_Tables_with_set) (D_Tables_pairs_in : DfM K "pairs_in" "Tables.pairs_in" s_Tables_pairs_in ["self", "base"] f_Tables_pairs_in fd_Tables_pairs_in) (D_scheme_by : Df K mg "scheme_by" s_scheme_by ["known", "numbers"] f_scheme_by fd_scheme_by) {r_Tables_init : FSpec} {k_Tables_init : Nat} (F_Tables_init : FnOk P w K mg base (L2.CX P w) k_Tables_init f_Tables_init fd_Tables_init ["self", "task", "p"] (FnD K 3 [0] r_Tables_init)) (hk_Tables_init : k_Tables_init + 1 ≤ k) {r_all_sets : FSpec} (F_all_sets : FnOk P w K mg base (L2.CX P w) k f_all_sets fd_all_sets ["many", "size"] (FnD K 2 [] r_all_sets)) {r_many_sets : FSpec} (F_many_sets : FnOk P w K mg base (L2.CX P w) k f_many_sets fd_many_sets ["many", "size"] (FnD K 2 [] r_many_sets)) {r_Tables_with_set : FSpec} (F_Tables_with_set : FnOk P w K mg base (L2.CX P w) k f_Tables_with_set fd_Tables_with_set ["self", "numbers"] (FnD K 2 [] r_Tables_with_set)) {r_Tables_pairs_in : FSpec} (F_Tables_pairs_in : FnOk P w K mg base (L2.CX P w) k f_Tables_pairs_in fd_Tables_pairs_in ["self", "base"] (FnD K 2 [] r_Tables_pairs_in)) {r_scheme_by : FSpec} (F_scheme_by : FnOk P w K mg base (L2.CX P w) k f_scheme_by fd_scheme_by ["known", "numbers"] (FnD K 2 [] r_scheme_by)) (z_len : mg "len" = none) (z_range : mg "range" = none) {t_MOST_SETS : Tok} (g_MOST_SETS : mg "MOST_SETS" = some (.int 3000 t_MOST_SETS)) (cl_Tables : Cls K cv_Tables) (na_Tables_base : NoAttr K cv_Tables "base") (na_Tables_pairs : NoAttr K cv_Tables "pairs") (me_Tables_pairs_in : Meth K cv_Tables "pairs_in" f_Tables_pairs_in) (me_Tables_with_set : Meth K cv_Tables "with_set" f_Tables_with_set) (mk_Tables : Mk K cv_Tables f_Tables_init) (gc_Tables : mg "Tables" = some (.ref cv_Tables)) {r : FSpec} (hrd : RD_least_over r r_Tables_init r_all_sets r_many_sets r_Tables_with_set r_Tables_pairs_in r_scheme_by cv_Tables) :
    FnOk P w K mg base (L2.CX P w) (k + 1) f_least_over fd_least_over ["task", "p"] (FnD K 2 [] r) := by
  refine fl_fn D_least_over.fn sc_least_over (by rfl) (fun cdv A outer s H E hr => ?_) hrd
  have tk := takes_of (X := cxOf (L2.CX P w) P w K mg base ["task", "p", "known", "many", "size", "numbers", "base", "found"] "least_over" (defScope s_least_over) f_least_over cdv A outer s H E) rfl rfl rfl rfl
  exact (fss_cons (fs_setF 2 (fe_make [] tk mk_Tables F_Tables_init (hr.mono hk_Tables_init) gc_Tables D_Tables_init.b (fa_cons (fo_val (fe_var (i := 0))) (fa_cons (fo_val (fe_var (i := 1))) fa_nil))) sc_least_over.nd) (fss_cons (fs_setF 3 (fe_callB fc_len z_len (by decide +kernel) (fa_cons (fo_val (fe_fld 3 cl_Tables na_Tables_pairs (fo_val (fe_var (i := 2))))) fa_nil)) sc_least_over.nd) (fss_cons (fs_for [4] PassesOwn.leaving (fi_range1 (fa_cons (fo_val (fe_addC (fo_val (fe_var (i := 3))))) fa_nil) z_range) (fg_name 4 sc_least_over.nd) (fss_cons (fs_if (ft_cmp fop_gt (fo_val (fe_call tk F_many_sets hr D_many_sets.mg D_many_sets.fn.kp D_many_sets.b (fa_cons (fo_val (fe_var (i := 3))) (fa_cons (fo_val (fe_var (i := 4))) fa_nil)))) (fo_val (fe_glob (v := V.int 3000) rfl g_MOST_SETS ⟨_, rfl⟩ (fun _ _ => rfl)))) (fss_one (fs_ret (fe_tup (fa_cons (fo_val fe_str) (fa_cons (fo_val (fe_op fop_add (fo_val (fe_callB fc_len z_len (by decide +kernel) (fa_cons (fo_val (fe_fld 2 cl_Tables na_Tables_base (fo_val (fe_var (i := 2))))) fa_nil))) (fo_val (fe_var (i := 4))))) fa_nil))))) fss_nil) (fss_one (fs_for [5] PassesOwn.leaving (fi_row (fe_call tk F_all_sets hr D_all_sets.mg D_all_sets.fn.kp D_all_sets.b (fa_cons (fo_val (fe_var (i := 3))) (fa_cons (fo_val (fe_var (i := 4))) fa_nil)))) (fg_name 5 sc_least_over.nd) (fss_cons (fs_setF 6 (fe_meth (Fs := ["task", "p", "base", "pairs", "tables"]) 2 tk cl_Tables me_Tables_with_set F_Tables_with_set hr D_Tables_with_set.b (fa_cons (fo_val (fe_var (i := 5))) fa_nil)) sc_least_over.nd) (fss_cons (fs_setF 7 (fe_ix (hu_of hr) (fo_val (fe_frz (fe_meth (Fs := ["task", "p", "base", "pairs", "tables"]) 2 tk cl_Tables me_Tables_pairs_in F_Tables_pairs_in hr D_Tables_pairs_in.b (fa_cons (fo_val (fe_var (i := 6))) fa_nil)))) (fo_val fe_int)) sc_least_over.nd) (fss_one (fs_if (ft_cmp (fop_eq hr.units) (fo_val (fe_callB fc_len z_len (by decide +kernel) (fa_cons (fo_val (fe_var (i := 7))) fa_nil))) (fo_val (fe_callB fc_len z_len (by decide +kernel) (fa_cons (fo_val (fe_var (i := 6))) fa_nil)))) (fss_one (fs_ret (fe_tup (fa_cons (fo_val fe_str) (fa_cons (fo_val (fe_op fop_add (fo_val (fe_callB fc_len z_len (by decide +kernel) (fa_cons (fo_val (fe_fld 2 cl_Tables na_Tables_base (fo_val (fe_var (i := 2))))) fa_nil))) (fo_val (fe_var (i := 4))))) (fa_cons (fo_val (fe_call tk F_scheme_by hr D_scheme_by.mg D_scheme_by.fn.kp D_scheme_by.b (fa_cons (fo_val (fe_var (i := 2))) (fa_cons (fo_val (fe_var (i := 7))) fa_nil)))) fa_nil)))))) fss_nil)))))))) (fss_one (fs_ret (fe_tup (fa_cons (fo_val fe_str) (fa_cons (fo_val (fe_op fop_add (fo_val (fe_callB fc_len z_len (by decide +kernel) (fa_cons (fo_val (fe_fld 2 cl_Tables na_Tables_base (fo_val (fe_var (i := 2))))) fa_nil))) (fo_val (fe_var (i := 3))))) fa_nil))))))))
theorem sc_law_cell_at : FnScope ["_law_script", "_law_k"] ["_law_script", "_law_k"] (defScope s_law_cell_at) := ⟨rfl, rfl, rfl, by decide +kernel, rfl, by decide +kernel, by decide +kernel⟩
theorem ok_law_cell_at {f_law_cell_at : Addr} {fd_law_cell_at : FuncData} {k : Nat} (D_law_cell_at : Df K mg "_law_cell_at" s_law_cell_at ["_law_script", "_law_k"] f_law_cell_at fd_law_cell_at) (z_len : mg "len" = none) {r : FSpec} (hrd : RD_law_cell_at r) :
    FnOk P w K mg base (L2.CX P w) (k + 1) f_law_cell_at fd_law_cell_at ["_law_script", "_law_k"] (FnD K 2 [] r) := by
  refine fl_fn D_law_cell_at.fn sc_law_cell_at (by rfl) (fun cdv A outer s H E hr => ?_) hrd
  have tk := takes_of (X := cxOf (L2.CX P w) P w K mg base ["_law_script", "_law_k"] "_law_cell_at" (defScope s_law_cell_at) f_law_cell_at cdv A outer s H E) rfl rfl rfl rfl
  exact (fss_cons (fs_if (ft_cmp fop_lt (fo_val (fe_var (i := 1))) (fo_val (fe_callB fc_len z_len (by decide +kernel) (fa_cons (fo_val (fe_var (i := 0))) fa_nil)))) (fss_one (fs_ret (fe_ix (hu_of hr) (fo_val (fe_var (i := 0))) (fo_val (fe_var (i := 1)))))) fss_nil) (fss_one (fs_ret fe_int)))
theorem sc_law_mixed : FnScope ["_law_number_here", "_law_k", "_law_once", "_law_twice"] ["_law_number_here", "_law_k"] (defScope s_law_mixed) := ⟨rfl, rfl, rfl, by decide +kernel, rfl, by decide +kernel, by decide +kernel⟩
theorem ok_law_mixed {f_law_mixed : Addr} {fd_law_mixed : FuncData} {k : Nat} (D_law_mixed : Df K mg "_law_mixed" s_law_mixed ["_law_number_here", "_law_k"] f_law_mixed fd_law_mixed) {r : FSpec} (hrd : RD_law_mixed r) :
    FnOk P w K mg base (L2.CX P w) (k + 1) f_law_mixed fd_law_mixed ["_law_number_here", "_law_k"] (FnD K 2 [] r) := by
  refine fl_fn D_law_mixed.fn sc_law_mixed (by rfl) (fun cdv A outer s H E hr => ?_) hrd
  have tk := takes_of (X := cxOf (L2.CX P w) P w K mg base ["_law_number_here", "_law_k", "_law_once", "_law_twice"] "_law_mixed" (defScope s_law_mixed) f_law_mixed cdv A outer s H E) rfl rfl rfl rfl
  exact (fss_cons (fs_setF 2 (fe_modC (fo_val (fe_mulC (fo_val (fe_addC (fo_val (fe_op fop_add (fo_val (fe_modC (fo_val (fe_var (i := 0))))) (fo_val (fe_mulCl (fo_val (fe_var (i := 1)))))))))))) sc_law_mixed.nd) (fss_cons (fs_setF 3 (fe_modC (fo_val (fe_op fop_mulX (fo_val (fe_var (i := 2))) (fo_val (fe_addC (fo_val (fe_op fop_add (fo_val (fe_modC (fo_val (fe_var (i := 2))))) (fo_val (fe_var (i := 1)))))))))) sc_law_mixed.nd) (fss_one (fs_ret (fe_fdivC (fo_val (fe_modC (fo_val (fe_op fop_add (fo_val (fe_mulC (fo_val (fe_var (i := 3))))) (fo_val (fe_var (i := 2))))))))))))
theorem sc_law_box : FnScope ["_law_script", "_law_k", "_law_cell"] ["_law_script", "_law_k"] (defScope s_law_box) := ⟨rfl, rfl, rfl, by decide +kernel, rfl, by decide +kernel, by decide +kernel⟩
theorem ok_law_box {f_law_box : Addr} {fd_law_box : FuncData} {f_law_cell_at : Addr} {fd_law_cell_at : FuncData} {f_law_mixed : Addr} {fd_law_mixed : FuncData} {k : Nat} (D_law_box : Df K mg "_law_box" s_law_box ["_law_script", "_law_k"] f_law_box fd_law_box) (D_law_cell_at : Df K mg "_law_cell_at" s_law_cell_at ["_law_script", "_law_k"] f_law_cell_at fd_law_cell_at) (D_law_mixed : Df K mg "_law_mixed" s_law_mixed ["_law_number_here", "_law_k"] f_law_mixed fd_law_mixed) {r_law_cell_at : FSpec} (F_law_cell_at : FnOk P w K mg base (L2.CX P w) k f_law_cell_at fd_law_cell_at ["_law_script", "_law_k"] (FnD K 2 [] r_law_cell_at)) {r_law_mixed : FSpec} (F_law_mixed : FnOk P w K mg base (L2.CX P w) k f_law_mixed fd_law_mixed ["_law_number_here", "_law_k"] (FnD K 2 [] r_law_mixed)) (z_abs : mg "abs" = none) (z_int : mg "int" = none) {r : FSpec} (hrd : RD_law_box r r_law_cell_at r_law_mixed) :
    FnOk P w K mg base (L2.CX P w) (k + 1) f_law_box fd_law_box ["_law_script", "_law_k"] (FnD K 2 [] r) := by
  refine fl_fn D_law_box.fn sc_law_box (by rfl) (fun cdv A outer s H E hr => ?_) hrd
  have tk := takes_of (X := cxOf (L2.CX P w) P w K mg base ["_law_script", "_law_k", "_law_cell"] "_law_box" (defScope s_law_box) f_law_box cdv A outer s H E) rfl rfl rfl rfl
  exact (fss_cons (fs_setF 2 (fe_call tk F_law_cell_at hr D_law_cell_at.mg D_law_cell_at.fn.kp D_law_cell_at.b (fa_cons (fo_val (fe_var (i := 0))) (fa_cons (fo_val (fe_var (i := 1))) fa_nil))) sc_law_box.nd) (fss_one (fs_ret (fe_lst (fa_cons (fo_val (fe_op fop_mulX (fo_val (fe_callB fc_abs z_abs (by decide +kernel) (fa_cons (fo_val (fe_var (i := 2))) fa_nil))) (fo_val (fe_callTy fc_int z_int (by decide +kernel) (fa_cons (fo_val (fe_cmp fop_ge (fo_val (fe_callB fc_abs z_abs (by decide +kernel) (fa_cons (fo_val (fe_var (i := 2))) fa_nil))) (fo_val fe_powC))) fa_nil))))) (fa_cons (fo_val (fe_call tk F_law_mixed hr D_law_mixed.mg D_law_mixed.fn.kp D_law_mixed.b (fa_cons (fo_val (fe_var (i := 2))) (fa_cons (fo_val (fe_addCl (fo_val (fe_var (i := 1))))) fa_nil)))) (fa_cons (fo_val fe_int) fa_nil)))))))
theorem sc_law_take : FnScope ["_law_box_here", "_law_many", "_law_found", "_law_reach"] ["_law_box_here", "_law_many"] (defScope s_law_take) := ⟨rfl, rfl, rfl, by decide +kernel, rfl, by decide +kernel, by decide +kernel⟩
theorem ok_law_take {f_law_take : Addr} {fd_law_take : FuncData} {f_law_mixed : Addr} {fd_law_mixed : FuncData} {k : Nat} (D_law_take : Df K mg "_law_take" s_law_take ["_law_box_here", "_law_many"] f_law_take fd_law_take) (D_law_mixed : Df K mg "_law_mixed" s_law_mixed ["_law_number_here", "_law_k"] f_law_mixed fd_law_mixed) {r_law_mixed : FSpec} (F_law_mixed : FnOk P w K mg base (L2.CX P w) k f_law_mixed fd_law_mixed ["_law_number_here", "_law_k"] (FnD K 2 [] r_law_mixed)) {r : FSpec} (hrd : RD_law_take r r_law_mixed) :
    FnOk P w K mg base (L2.CX P w) (k + 1) f_law_take fd_law_take ["_law_box_here", "_law_many"] (FnD K 2 [0] r) := by
  refine fl_fn D_law_take.fn sc_law_take (by rfl) (fun cdv A outer s H E hr => ?_) hrd
  have tk := takes_of (X := cxOf (L2.CX P w) P w K mg base ["_law_box_here", "_law_many", "_law_found", "_law_reach"] "_law_take" (defScope s_law_take) f_law_take cdv A outer s H E) rfl rfl rfl rfl
  exact (fss_cons (fs_if (ft_cmp fop_gt (fo_val (fe_ix (hu_of hr) (fo_brw (i := 0)) (fo_val fe_int))) (fo_val fe_int)) (fss_cons (fs_setF 2 (fe_op fop_mod (fo_val (fe_ix (hu_of hr) (fo_brw (i := 0)) (fo_val fe_int))) (fo_val (fe_var (i := 1)))) sc_law_take.nd) (fss_cons (fs_setL 0 (fe_op fop_fdiv (fo_val (fe_ix (hu_of hr) (fo_brw (i := 0)) (fo_val fe_int))) (fo_val (fe_var (i := 1)))) (fo_val fe_int)) (fss_one (fs_ret (fe_var (i := 2)))))) fss_nil) (fss_cons (fs_asg [3, 2] (fe_tup (fa_cons (fo_val fe_int) (fa_cons (fo_val fe_int) fa_nil))) (fg_tup (fgs_cons (fg_name 2 sc_law_take.nd) (fgs_cons (fg_name 3 sc_law_take.nd) fgs_nil)))) (fss_cons (fs_while PassesOwn.leaving (ft_cmp fop_lt (fo_val (fe_var (i := 3))) (fo_val (fe_var (i := 1)))) (fss_cons (fs_setL 0 (fe_addC (fo_val (fe_ix (hu_of hr) (fo_brw (i := 0)) (fo_val fe_int)))) (fo_val fe_int)) (fss_cons (fs_setF 2 (fe_op fop_add (fo_val (fe_mulC (fo_val (fe_var (i := 2))))) (fo_val (fe_call tk F_law_mixed hr D_law_mixed.mg D_law_mixed.fn.kp D_law_mixed.b (fa_cons (fo_val (fe_ix (hu_of hr) (fo_brw (i := 0)) (fo_val fe_int))) (fa_cons (fo_val (fe_ix (hu_of hr) (fo_brw (i := 0)) (fo_val fe_int))) fa_nil))))) sc_law_take.nd) (fss_one (fs_setF 3 (fe_mulC (fo_val (fe_var (i := 3)))) sc_law_take.nd))))) (fss_one (fs_ret (fe_op fop_mod (fo_val (fe_var (i := 2))) (fo_val (fe_var (i := 1)))))))))
theorem sc_law_part_2 : FnScope ["_law_box_here", "_law_length", "_law_k"] ["_law_box_here", "_law_length"] (defScope s_law_part_2) := ⟨rfl, rfl, rfl, by decide +kernel, rfl, by decide +kernel, by decide +kernel⟩
theorem ok_law_part_2 {f_law_part_2 : Addr} {fd_law_part_2 : FuncData} {f_law_number_2 : Addr} {fd_law_number_2 : FuncData} {k : Nat} (D_law_part_2 : Df K mg "_law_part" s_law_part_2 ["_law_box_here", "_law_length"] f_law_part_2 fd_law_part_2) (D_law_number_2 : Df K mg "_law_number" s_law_number_2 ["_law_box_here"] f_law_number_2 fd_law_number_2) {r_law_number_2 : FSpec} (F_law_number_2 : FnOk P w K mg base (L2.CX P w) k f_law_number_2 fd_law_number_2 ["_law_box_here"] (FnD K 1 [0] r_law_number_2)) (z_range : mg "range" = none) (z_tuple : mg "tuple" = none) {r : FSpec} (hrd : RD_law_part_2 r r_law_number_2) :
    FnOk P w K mg base (L2.CX P w) (k + 1) f_law_part_2 fd_law_part_2 ["_law_box_here", "_law_length"] (FnD K 2 [0] r) := by
  refine fl_fn D_law_part_2.fn sc_law_part_2 (by rfl) (fun cdv A outer s H E hr => ?_) hrd
  have tk := takes_of (X := cxOf (L2.CX P w) P w K mg base ["_law_box_here", "_law_length", "_law_k"] "_law_part" (defScope s_law_part_2) f_law_part_2 cdv A outer s H E) rfl rfl rfl rfl
  exact (fss_one (fs_ret (fe_callTy fc_tuple z_tuple (by decide +kernel) (fa_cons (fo_val (fe_lc [2] (own := [("_law_k", 2)]) sc_law_part_2.nd (fi_range1 (fa_cons (fo_val (fe_var (i := 1))) fa_nil) z_range) (blkOk_by (own := [("_law_k", 2)]) (N := ["_law_box_here", "_law_length", "_law_k"]) (sc := defScope s_law_part_2) (by decide +kernel)) (fun _ => (fg_name 2 sc_law_part_2.nd)) (fun _ => fts_nil) (fun _ => (fe_call takes0 F_law_number_2 hr D_law_number_2.mg D_law_number_2.fn.kp D_law_number_2.b (fa_cons (fo_brw (i := 0)) fa_nil))))) fa_nil))))
theorem sc_law_scheme_2 : FnScope ["_law_box_here", "_law_lengths", "_law_count", "_law_products", "_law_k", "_law_product", "_law_way", "_law_side", "_law_length"] ["_law_box_here", "_law_lengths", "_law_count"] (defScope s_law_scheme_2) := ⟨rfl, rfl, rfl, by decide +kernel, rfl, by decide +kernel, by decide +kernel⟩
theorem ok_law_scheme_2 {f_law_scheme_2 : Addr} {fd_law_scheme_2 : FuncData} {f_law_take : Addr} {fd_law_take : FuncData} {f_law_part_2 : Addr} {fd_law_part_2 : FuncData} {k : Nat} (D_law_scheme_2 : Df K mg "_law_scheme" s_law_scheme_2 ["_law_box_here", "_law_lengths", "_law_count"] f_law_scheme_2 fd_law_scheme_2) (D_law_take : Df K mg "_law_take" s_law_take ["_law_box_here", "_law_many"] f_law_take fd_law_take) (D_law_part_2 : Df K mg "_law_part" s_law_part_2 ["_law_box_here", "_law_length"] f_law_part_2 fd_law_part_2) {r_law_take : FSpec} (F_law_take : FnOk P w K mg base (L2.CX P w) k f_law_take fd_law_take ["_law_box_here", "_law_many"] (FnD K 2 [0] r_law_take)) {r_law_part_2 : FSpec} (F_law_part_2 : FnOk P w K mg base (L2.CX P w) k f_law_part_2 fd_law_part_2 ["_law_box_here", "_law_length"] (FnD K 2 [0] r_law_part_2)) (z_len : mg "len" = none) (z_range : mg "range" = none) (z_tuple : mg "tuple" = none) {r : FSpec} (hrd : RD_law_scheme_2 r r_law_take r_law_part_2) :
    FnOk P w K mg base (L2.CX P w) (k + 1) f_law_scheme_2 fd_law_scheme_2 ["_law_box_here", "_law_lengths", "_law_count"] (FnD K 3 [0] r) := by
  refine fl_fn D_law_scheme_2.fn sc_law_scheme_2 (by rfl) (fun cdv A outer s H E hr => ?_) hrd
  have tk := takes_of (X := cxOf (L2.CX P w) P w K mg base ["_law_box_here", "_law_lengths", "_law_count", "_law_products", "_law_k", "_law_product", "_law_way", "_law_side", "_law_length"] "_law_scheme" (defScope s_law_scheme_2) f_law_scheme_2 cdv A outer s H E) rfl rfl rfl rfl
  exact (fss_cons (fs_set 3 (fe_lst fa_nil) sc_law_scheme_2.nd) (fss_cons (fs_for [4] PassesOwn.leaving (fi_range1 (fa_cons (fo_val (fe_var (i := 2))) fa_nil) z_range) (fg_name 4 sc_law_scheme_2.nd) (fss_cons (fs_setLc 5 [8] (own := [("_law_length", 8)]) sc_law_scheme_2.nd (fi_row (fe_var (i := 1))) (blkOk_by (own := [("_law_length", 8)]) (N := ["_law_box_here", "_law_lengths", "_law_count", "_law_products", "_law_k", "_law_product", "_law_way", "_law_side", "_law_length"]) (sc := defScope s_law_scheme_2) (by decide +kernel)) (fun _ => (fg_name 8 sc_law_scheme_2.nd)) (fun _ => fts_nil) (fun _ => (fe_call takes0 F_law_part_2 hr D_law_part_2.mg D_law_part_2.fn.kp D_law_part_2.b (fa_cons (fo_brw (i := 0)) (fa_cons (fo_val (fe_var (i := 8))) fa_nil))))) (fss_cons (fs_setF 6 (fe_call tk F_law_take hr D_law_take.mg D_law_take.fn.kp D_law_take.b (fa_cons (fo_brw (i := 0)) (fa_cons (fo_val fe_int) fa_nil))) sc_law_scheme_2.nd) (fss_cons (fs_cut (fs_if (FW.ft (fw_and (ft_cmp fop_lt (fo_val (fe_var (i := 6))) (fo_val fe_int)) (fw_and1 (ft_cmp (fop_ne hr.units) (fo_brw (i := 3)) (fo_val (fe_lst fa_nil)))))) (fss_one (fs_setL 5 (fe_ix (hu_of hr) (fo_val (fe_ix (hu_of hr) (fo_brw (i := 3)) (fo_val (fe_call tk F_law_take hr D_law_take.mg D_law_take.fn.kp D_law_take.b (fa_cons (fo_brw (i := 0)) (fa_cons (fo_val (fe_callB fc_len z_len (by decide +kernel) (fa_cons (fo_brw (i := 3)) fa_nil))) fa_nil)))))) (fo_val (fe_var (i := 6)))) (fo_val (fe_var (i := 6))))) fss_nil)) (fss_cons (fs_cut (fs_if (ft_cmp (fop_eq hr.units) (fo_val (fe_var (i := 6))) (fo_val fe_int)) (fss_cons (fs_setF 7 (fe_call tk F_law_take hr D_law_take.mg D_law_take.fn.kp D_law_take.b (fa_cons (fo_brw (i := 0)) (fa_cons (fo_val fe_int) fa_nil))) sc_law_scheme_2.nd) (fss_one (fs_setL 5 (fe_op fop_mulX (fo_val (fe_tup (fa_cons (fo_val fe_int) fa_nil))) (fo_val (fe_ix (hu_of hr) (fo_val (fe_var (i := 1))) (fo_val (fe_var (i := 7)))))) (fo_val (fe_var (i := 7)))))) fss_nil)) (fss_one (fs_expr (fe_app 3 (fe_callTy fc_tuple z_tuple (by decide +kernel) (fa_cons (fo_brw (i := 5)) fa_nil)))))))))) (fss_one (fs_ret (fe_op fop_add (fo_val (fe_callTy fc_tuple z_tuple (by decide +kernel) (fa_cons (fo_val (fe_var (i := 1))) fa_nil))) (fo_val (fe_frz (fe_tup (fa_cons (fo_val (fe_ice (i := 3))) fa_nil)))))))))
theorem sc_law_sums_2 : FnScope ["_law_scheme_here", "_law_found", "_law_l", "_law_r", "_law_o", "_law_i", "_law_j", "_law_k", "_law_place"] ["_law_scheme_here"] (defScope s_law_sums_2) := ⟨rfl, rfl, rfl, by decide +kernel, rfl, by decide +kernel, by decide +kernel⟩
theorem ok_law_sums_2 {f_law_sums_2 : Addr} {fd_law_sums_2 : FuncData} {k : Nat} (D_law_sums_2 : Df K mg "_law_sums" s_law_sums_2 ["_law_scheme_here"] f_law_sums_2 fd_law_sums_2) (z_dict : mg "dict" = none) (z_range : mg "range" = none) {r : FSpec} (hrd : RD_law_sums_2 r) :
    FnOk P w K mg base (L2.CX P w) (k + 1) f_law_sums_2 fd_law_sums_2 ["_law_scheme_here"] (FnD K 1 [] r) := by
  refine fl_fn D_law_sums_2.fn sc_law_sums_2 (by rfl) (fun cdv A outer s H E hr => ?_) hrd
  have tk := takes_of (X := cxOf (L2.CX P w) P w K mg base ["_law_scheme_here", "_law_found", "_law_l", "_law_r", "_law_o", "_law_i", "_law_j", "_law_k", "_law_place"] "_law_sums" (defScope s_law_sums_2) f_law_sums_2 cdv A outer s H E) rfl rfl rfl rfl
  exact (fss_cons (fs_set 1 (fe_dnew true) sc_law_sums_2.nd) (fss_cons (fs_for [4, 3, 2] PassesOwn.leaving (fi_row (fe_ix (hu_of hr) (fo_val (fe_var (i := 0))) (fo_val fe_int))) (fg_tup (fgs_cons (fg_name 2 sc_law_sums_2.nd) (fgs_cons (fg_name 3 sc_law_sums_2.nd) (fgs_cons (fg_name 4 sc_law_sums_2.nd) fgs_nil)))) (fss_one (fs_for [5] PassesOwn.leaving (fi_range1 (fa_cons (fo_val (fe_ix (hu_of hr) (fo_val (fe_var (i := 0))) (fo_val fe_int))) fa_nil) z_range) (fg_name 5 sc_law_sums_2.nd) (fss_one (fs_for [6] PassesOwn.leaving (fi_range1 (fa_cons (fo_val (fe_ix (hu_of hr) (fo_val (fe_var (i := 0))) (fo_val fe_int))) fa_nil) z_range) (fg_name 6 sc_law_sums_2.nd) (fss_one (fs_for [7] PassesOwn.leaving (fi_range1 (fa_cons (fo_val (fe_ix (hu_of hr) (fo_val (fe_var (i := 0))) (fo_val fe_int))) fa_nil) z_range) (fg_name 7 sc_law_sums_2.nd) (fss_one (fs_setD 1 (fe_op fop_add (fo_val (fe_get2 (fo_brw (i := 1)) (fo_val (fe_tup (fa_cons (fo_val (fe_var (i := 7))) (fa_cons (fo_val (fe_var (i := 5))) (fa_cons (fo_val (fe_var (i := 6))) fa_nil))))) fe_int (hu_of hr))) (fo_val (fe_op fop_mulX (fo_val (fe_op fop_mulX (fo_val (fe_ix (hu_of hr) (fo_val (fe_var (i := 2))) (fo_val (fe_var (i := 5))))) (fo_val (fe_ix (hu_of hr) (fo_val (fe_var (i := 3))) (fo_val (fe_var (i := 6))))))) (fo_val (fe_ix (hu_of hr) (fo_val (fe_var (i := 4))) (fo_val (fe_var (i := 7)))))))) (fo_val (fe_tup (fa_cons (fo_val (fe_var (i := 7))) (fa_cons (fo_val (fe_var (i := 5))) (fa_cons (fo_val (fe_var (i := 6))) fa_nil))))) (hu_of hr)))))))))) (fss_one (fs_ret (fe_callTy (fc_dictPT (hu2 hr.units)) z_dict (by decide +kernel) (fa_cons (fo_val (fe_lcD 1 [8] (own := [("_law_place", 8)]) sc_law_sums_2.nd (blkOk_by (own := [("_law_place", 8)]) (N := ["_law_scheme_here", "_law_found", "_law_l", "_law_r", "_law_o", "_law_i", "_law_j", "_law_k", "_law_place"]) (sc := defScope s_law_sums_2) (by decide +kernel)) (fun _ => (fg_name 8 sc_law_sums_2.nd)) (fun _ => (fts_one (ft_cmp (fop_ne hr.units) (fo_val (fe_ix (hu_of hr) (fo_brw (i := 1)) (fo_val (fe_var (i := 8))))) (fo_val fe_int)))) (fun _ => (fe_tup (fa_cons (fo_val (fe_var (i := 8))) (fa_cons (fo_val (fe_ix (hu_of hr) (fo_brw (i := 1)) (fo_val (fe_var (i := 8))))) fa_nil)))))) fa_nil))))))
theorem sc_law_terms : FnScope ["_law_sums_here", "_law_place"] ["_law_sums_here"] (defScope s_law_terms) := ⟨rfl, rfl, rfl, by decide +kernel, rfl, by decide +kernel, by decide +kernel⟩
theorem ok_law_terms {f_law_terms : Addr} {fd_law_terms : FuncData} {k : Nat} (D_law_terms : Df K mg "_law_terms" s_law_terms ["_law_sums_here"] f_law_terms fd_law_terms) (z_sorted : mg "sorted" = none) {r : FSpec} (hrd : RD_law_terms r) :
    FnOk P w K mg base (L2.CX P w) (k + 1) f_law_terms fd_law_terms ["_law_sums_here"] (FnD K 1 [] r) := by
  refine fl_fn D_law_terms.fn sc_law_terms (by rfl) (fun cdv A outer s H E hr => ?_) hrd
  have tk := takes_of (X := cxOf (L2.CX P w) P w K mg base ["_law_sums_here", "_law_place"] "_law_terms" (defScope s_law_terms) f_law_terms cdv A outer s H E) rfl rfl rfl rfl
  exact (fss_one (fs_ret (fe_lc [1] (own := [("_law_place", 1)]) sc_law_terms.nd (fi_row (fe_callB (fc_sortD hr.units) z_sorted (by decide +kernel) (fa_cons (fo_val (fe_var (i := 0))) fa_nil))) (blkOk_by (own := [("_law_place", 1)]) (N := ["_law_sums_here", "_law_place"]) (sc := defScope s_law_terms) (by decide +kernel)) (fun _ => (fg_name 1 sc_law_terms.nd)) (fun _ => fts_nil) (fun _ => (fe_op fop_add (fo_val (fe_var (i := 1))) (fo_val (fe_frz (fe_tup (fa_cons (fo_val (fe_ix (hu_of hr) (fo_val (fe_var (i := 0))) (fo_val (fe_var (i := 1))))) fa_nil)))))))))
theorem sc_law_number_2 : FnScope ["_law_box_here"] ["_law_box_here"] (defScope s_law_number_2) := ⟨rfl, rfl, rfl, by decide +kernel, rfl, by decide +kernel, by decide +kernel⟩
theorem ok_law_number_2 {f_law_number_2 : Addr} {fd_law_number_2 : FuncData} {f_law_take : Addr} {fd_law_take : FuncData} {k : Nat} (D_law_number_2 : Df K mg "_law_number" s_law_number_2 ["_law_box_here"] f_law_number_2 fd_law_number_2) (D_law_take : Df K mg "_law_take" s_law_take ["_law_box_here", "_law_many"] f_law_take fd_law_take) {r_law_take : FSpec} (F_law_take : FnOk P w K mg base (L2.CX P w) k f_law_take fd_law_take ["_law_box_here", "_law_many"] (FnD K 2 [0] r_law_take)) {r : FSpec} (hrd : RD_law_number_2 r r_law_take) :
    FnOk P w K mg base (L2.CX P w) (k + 1) f_law_number_2 fd_law_number_2 ["_law_box_here"] (FnD K 1 [0] r) := by
  refine fl_fn D_law_number_2.fn sc_law_number_2 (by rfl) (fun cdv A outer s H E hr => ?_) hrd
  have tk := takes_of (X := cxOf (L2.CX P w) P w K mg base ["_law_box_here"] "_law_number" (defScope s_law_number_2) f_law_number_2 cdv A outer s H E) rfl rfl rfl rfl
  exact (fss_one (fs_ret (fe_ix (hu_of hr) (fo_val (fe_lst (fa_cons (fo_val fe_int) (fa_cons (fo_val fe_int) (fa_cons (fo_val fe_int) (fa_cons (fo_val fe_int) (fa_cons (fo_val fe_int) (fa_cons (fo_val fe_negC) (fa_cons (fo_val fe_negC) (fa_cons (fo_val fe_int) (fa_cons (fo_val fe_int) fa_nil))))))))))) (fo_val (fe_call tk F_law_take hr D_law_take.mg D_law_take.fn.kp D_law_take.b (fa_cons (fo_brw (i := 0)) (fa_cons (fo_val fe_int) fa_nil)))))))
theorem sc_law_places : FnScope ["_law_box_here", "_law_many", "_law_left", "_law_k"] ["_law_box_here", "_law_many"] (defScope s_law_places) := ⟨rfl, rfl, rfl, by decide +kernel, rfl, by decide +kernel, by decide +kernel⟩
def rb_law_places (r_law_take : FSpec) : RS := (rSeq (rSet 2 (rLstRg1 (oV (rVar 1))))
  (rRet (rComp (rRg1 (rAC (oV (rVar 1)) rA0)) (gNm 3) rYes (rPopAt 2 (rCall [0] r_law_take (rAC (oN 0) (rAC (oV (rCB dLen (rAC (oN 2) rA0))) rA0)))) [3])))
abbrev RD_law_places (r : FSpec) (r_law_take : FSpec) : Prop := ∀ ds ED QD, ds.length = 2 → r ds ED QD → (rb_law_places r_law_take) (startD ["_law_box_here", "_law_many", "_law_left", "_law_k"] ds) (fun c fs ρ => ED c fs (ρ.take 2)) (finD 2 QD)
theorem ok_law_places {f_law_places : Addr} {fd_law_places : FuncData} {f_law_take : Addr} {fd_law_take : FuncData} {k : Nat} (D_law_places : Df K mg "_law_places" s_law_places ["_law_box_here", "_law_many"] f_law_places fd_law_places) (D_law_take : Df K mg "_law_take" s_law_take ["_law_box_here", "_law_many"] f_law_take fd_law_take) {r_law_take : FSpec} (F_law_take : FnOk P w K mg base (L2.CX P w) k f_law_take fd_law_take ["_law_box_here", "_law_many"] (FnD K 2 [0] r_law_take)) (z_len : mg "len" = none) (z_list : mg "list" = none) (z_range : mg "range" = none) {r : FSpec} (hrd : RD_law_places r r_law_take) :
    FnOk P w K mg base (L2.CX P w) (k + 1) f_law_places fd_law_places ["_law_box_here", "_law_many"] (FnD K 2 [0] r) := by
  refine fl_fn D_law_places.fn sc_law_places (by rfl) (fun cdv A outer s H E hr => ?_) hrd
  have tk := takes_of (X := cxOf (L2.CX P w) P w K mg base ["_law_box_here", "_law_many", "_law_left", "_law_k"] "_law_places" (defScope s_law_places) f_law_places cdv A outer s H E) rfl rfl rfl rfl
  exact (fss_cons (fs_set 2 (fe_lstRg1 (fo_val (fe_var (i := 1))) z_list z_range) sc_law_places.nd) (fss_one (fs_ret (fe_lc [3] (own := [("_law_k", 3)]) sc_law_places.nd (fi_range1 (fa_cons (fo_val (fe_var (i := 1))) fa_nil) z_range) (blkOk_by (own := [("_law_k", 3)]) (N := ["_law_box_here", "_law_many", "_law_left", "_law_k"]) (sc := defScope s_law_places) (by decide +kernel)) (fun _ => (fg_name 3 sc_law_places.nd)) (fun _ => fts_nil) (fun _ => (fe_popAt 2 (fe_call takes0 F_law_take hr D_law_take.mg D_law_take.fn.kp D_law_take.b (fa_cons (fo_brw (i := 0)) (fa_cons (fo_val (fe_callB fc_len z_len (by decide +kernel) (fa_cons (fo_brw (i := 2)) fa_nil))) fa_nil)))))))))
theorem sc_law_put : FnScope ["_law_lengths", "_law_terms_here", "_law_sums_here", "_law_rising", "_law_k", "_law_i", "_law_j", "_law_c", "_law_place"] ["_law_lengths", "_law_terms_here"] (defScope s_law_put) := ⟨rfl, rfl, rfl, by decide +kernel, rfl, by decide +kernel, by decide +kernel⟩
def rb_law_put : RS := (rSeq (rSet 2 (rDNew true))
  (rSeq (rFor (rItA (rVar 1)) (gTp 4 (gCs (gNm 4) (gCs (gNm 5) (gCs (gNm 6) (gCs (gNm 7) gNl))))) (rSetD 2 (oV (rTup (rAC (oV (rVar 4)) (rAC (oV (rVar 5)) (rAC (oV (rVar 6)) rA0))))) (rBin dAdd (oV (rGet2 (oN 2) (oV (rTup (rAC (oV (rVar 4)) (rAC (oV (rVar 5)) (rAC (oV (rVar 6)) rA0))))) (rC (.int 0)))) (oV (rVar 7)))))
  (rSeq (rSetF 3 (rComp (rItA (rCB dSortD (rAC (oN 2) rA0))) (gNm 8) (rTst (rBin dNe (oV (rBin dIx (oN 2) (oV (rVar 8)))) (oV (rC (.int 0))))) (rVar 8) [8]))
  (rRet (rBin dAdd (oV (rCB dTuple (rAC (oV (rVar 0)) rA0))) (oV (rFrz (rTup (rAC (oV (rComp (rItA (rVar 3)) (gNm 8) rYes (rBin dAdd (oV (rVar 8)) (oV (rFrz (rTup (rAC (oV (rBin dIx (oN 2) (oV (rVar 8)))) rA0))))) [8])) rA0)))))))))
abbrev RD_law_put (r : FSpec) : Prop := ∀ ds ED QD, ds.length = 2 → r ds ED QD → rb_law_put (startD ["_law_lengths", "_law_terms_here", "_law_sums_here", "_law_rising", "_law_k", "_law_i", "_law_j", "_law_c", "_law_place"] ds) (fun c fs ρ => ED c fs (ρ.take 2)) (finD 2 QD)
theorem ok_law_put {f_law_put : Addr} {fd_law_put : FuncData} {k : Nat} (D_law_put : Df K mg "_law_put" s_law_put ["_law_lengths", "_law_terms_here"] f_law_put fd_law_put) (z_sorted : mg "sorted" = none) (z_tuple : mg "tuple" = none) {r : FSpec} (hrd : RD_law_put r) :
    FnOk P w K mg base (L2.CX P w) (k + 1) f_law_put fd_law_put ["_law_lengths", "_law_terms_here"] (FnD K 2 [] r) := by
  refine fl_fn D_law_put.fn sc_law_put (by rfl) (fun cdv A outer s H E hr => ?_) hrd
  have tk := takes_of (X := cxOf (L2.CX P w) P w K mg base ["_law_lengths", "_law_terms_here", "_law_sums_here", "_law_rising", "_law_k", "_law_i", "_law_j", "_law_c", "_law_place"] "_law_put" (defScope s_law_put) f_law_put cdv A outer s H E) rfl rfl rfl rfl
  exact (fss_cons (fs_set 2 (fe_dnew true) sc_law_put.nd) (fss_cons (fs_for [7, 6, 5, 4] PassesOwn.leaving (fi_row (fe_var (i := 1))) (fg_tup (fgs_cons (fg_name 4 sc_law_put.nd) (fgs_cons (fg_name 5 sc_law_put.nd) (fgs_cons (fg_name 6 sc_law_put.nd) (fgs_cons (fg_name 7 sc_law_put.nd) fgs_nil))))) (fss_one (fs_setD 2 (fe_op fop_add (fo_val (fe_get2 (fo_brw (i := 2)) (fo_val (fe_tup (fa_cons (fo_val (fe_var (i := 4))) (fa_cons (fo_val (fe_var (i := 5))) (fa_cons (fo_val (fe_var (i := 6))) fa_nil))))) fe_int (hu_of hr))) (fo_val (fe_var (i := 7)))) (fo_val (fe_tup (fa_cons (fo_val (fe_var (i := 4))) (fa_cons (fo_val (fe_var (i := 5))) (fa_cons (fo_val (fe_var (i := 6))) fa_nil))))) (hu_of hr)))) (fss_cons (fs_setLcF 3 [8] (own := [("_law_place", 8)]) sc_law_put.nd (fi_row (fe_callB (fc_sortD hr.units) z_sorted (by decide +kernel) (fa_cons (fo_brw (i := 2)) fa_nil))) (blkOk_by (own := [("_law_place", 8)]) (N := ["_law_lengths", "_law_terms_here", "_law_sums_here", "_law_rising", "_law_k", "_law_i", "_law_j", "_law_c", "_law_place"]) (sc := defScope s_law_put) (by decide +kernel)) (fun _ => (fg_name 8 sc_law_put.nd)) (fun _ => (fts_one (ft_cmp (fop_ne hr.units) (fo_val (fe_ix (hu_of hr) (fo_brw (i := 2)) (fo_val (fe_var (i := 8))))) (fo_val fe_int)))) (fun _ => (fe_var (i := 8)))) (fss_one (fs_ret (fe_op fop_add (fo_val (fe_callTy fc_tuple z_tuple (by decide +kernel) (fa_cons (fo_val (fe_var (i := 0))) fa_nil))) (fo_val (fe_frz (fe_tup (fa_cons (fo_val (fe_lc [8] (own := [("_law_place", 8)]) sc_law_put.nd (fi_row (fe_var (i := 3))) (blkOk_by (own := [("_law_place", 8)]) (N := ["_law_lengths", "_law_terms_here", "_law_sums_here", "_law_rising", "_law_k", "_law_i", "_law_j", "_law_c", "_law_place"]) (sc := defScope s_law_put) (by decide +kernel)) (fun _ => (fg_name 8 sc_law_put.nd)) (fun _ => fts_nil) (fun _ => (fe_op fop_add (fo_val (fe_var (i := 8))) (fo_val (fe_frz (fe_tup (fa_cons (fo_val (fe_ix (hu_of hr) (fo_brw (i := 2)) (fo_val (fe_var (i := 8))))) fa_nil)))))))) fa_nil))))))))))
theorem sc_law_others : FnScope ["_law_box_here", "_law_task", "_law_p", "_law_one", "_law_two", "_law_three", "_law_moved", "_law_some", "_law_again", "_law_twice", "_law_sign", "_law_turn", "_law_left", "_law_right", "_law_many", "_law_terms_here", "_law_k", "_law_here", "_law_there", "_law_i", "_law_j", "_law_c"] ["_law_box_here", "_law_task", "_law_p"] (defScope s_law_others) := ⟨rfl, rfl, rfl, by decide +kernel, rfl, by decide +kernel, by decide +kernel⟩
def rb_law_others (r_law_places : FSpec) (r_law_take : FSpec) (r_law_put : FSpec) : RS := (rSeq (rAsg (gTp 4 (gCs (gNm 12) (gCs (gNm 13) (gCs (gNm 14) (gCs (gNm 15) gNl))))) (rVar 1))
  (rSeq (rSetF 3 (rCall [0] r_law_places (rAC (oN 0) (rAC (oV (rVar 12)) rA0))))
  (rSeq (rSetF 4 (rCall [0] r_law_places (rAC (oN 0) (rAC (oV (rVar 13)) rA0))))
  (rSeq (rSetF 5 (rCall [0] r_law_places (rAC (oN 0) (rAC (oV (rVar 14)) rA0))))
  (rSeq (rSet 6 (rComp (rItA (rVar 15)) (gTp 4 (gCs (gNm 16) (gCs (gNm 19) (gCs (gNm 20) (gCs (gNm 21) gNl))))) rYes (rTup (rAC (oV (rBin dIx (oV (rVar 5)) (oV (rVar 16)))) (rAC (oV (rBin dIx (oV (rVar 3)) (oV (rVar 19)))) (rAC (oV (rBin dIx (oV (rVar 4)) (oV (rVar 20)))) (rAC (oV (rVar 21)) rA0))))) [21, 20, 19, 16]))
  (rSeq (rSet 7 (rLst (rAC (oV (rCall [] r_law_put (rAC (oV (rTup (rAC (oV (rVar 12)) (rAC (oV (rVar 13)) (rAC (oV (rVar 14)) rA0))))) (rAC (oN 6) rA0)))) rA0)))
  (rSeq (rSet 6 (rComp (rItA (rVar 15)) (gTp 4 (gCs (gNm 16) (gCs (gNm 19) (gCs (gNm 20) (gCs (gNm 21) gNl))))) rYes (rTup (rAC (oV (rVar 16)) (rAC (oV (rVar 20)) (rAC (oV (rVar 19)) (rAC (oV (rVar 21)) rA0))))) [21, 20, 19, 16]))
  (rSeq (rDrop (rApp 7 (rCall [] r_law_put (rAC (oV (rTup (rAC (oV (rVar 13)) (rAC (oV (rVar 12)) (rAC (oV (rVar 14)) rA0))))) (rAC (oN 6) rA0)))))
  (rSeq (rSet 6 (rComp (rItA (rVar 15)) (gTp 4 (gCs (gNm 16) (gCs (gNm 19) (gCs (gNm 20) (gCs (gNm 21) gNl))))) rYes (rTup (rAC (oV (rVar 19)) (rAC (oV (rVar 20)) (rAC (oV (rVar 16)) (rAC (oV (rVar 21)) rA0))))) [21, 20, 19, 16]))
  (rSeq (rDrop (rApp 7 (rCall [] r_law_put (rAC (oV (rTup (rAC (oV (rVar 13)) (rAC (oV (rVar 14)) (rAC (oV (rVar 12)) rA0))))) (rAC (oN 6) rA0)))))
  (rSeq (rSetF 8 (rCall [0] r_law_take (rAC (oN 0) (rAC (oV (rVar 14)) rA0))))
  (rSeq (rSetF 9 (rComp (rItA (rVar 15)) (gTp 4 (gCs (gNm 16) (gCs (gNm 19) (gCs (gNm 20) (gCs (gNm 21) gNl))))) (rTst (rBin dEq (oV (rVar 16)) (oV (rVar 8)))) (rTup (rAC (oV (rVar 14)) (rAC (oV (rVar 19)) (rAC (oV (rVar 20)) (rAC (oV (rVar 21)) rA0))))) [21, 20, 19, 16]))
  (rSeq (rDrop (rApp 7 (rCall [] r_law_put (rAC (oV (rTup (rAC (oV (rVar 12)) (rAC (oV (rVar 13)) (rAC (oV (rIc (fun i => i + 1) (oV (rVar 14)))) rA0))))) (rAC (oV (rBin dAdd (oV (rVar 15)) (oV (rVar 9)))) rA0)))))
  (rSeq (rSetF 10 (rBin dIx (oV (rLst (rAC (oV (rC (.int 1))) (rAC (oV (rC (.int (-1)))) rA0)))) (oV (rCall [0] r_law_take (rAC (oN 0) (rAC (oV (rC (.int 2))) rA0))))))
  (rSeq (rSet 6 (rComp (rItA (rVar 15)) (gTp 4 (gCs (gNm 16) (gCs (gNm 19) (gCs (gNm 20) (gCs (gNm 21) gNl))))) rYes (rTup (rAC (oV (rVar 16)) (rAC (oV (rVar 19)) (rAC (oV (rVar 20)) (rAC (oV (rBin dMulX (oV (rVar 21)) (oV (rVar 10)))) rA0))))) [21, 20, 19, 16]))
  (rSeq (rFor (rRg1 (rAC (oV (rC (.int 3))) rA0)) (gNm 11) (rSeq (rSetF 16 (rCall [0] r_law_take (rAC (oN 0) (rAC (oV (rVar 14)) rA0))))
  (rDrop (rApp 6 (rTup (rAC (oV (rVar 16)) (rAC (oV (rCall [0] r_law_take (rAC (oN 0) (rAC (oV (rVar 12)) rA0)))) (rAC (oV (rCall [0] r_law_take (rAC (oN 0) (rAC (oV (rVar 13)) rA0)))) (rAC (oV (rVar 2)) rA0)))))))))
  (rSeq (rDrop (rApp 7 (rCall [] r_law_put (rAC (oV (rTup (rAC (oV (rVar 12)) (rAC (oV (rVar 13)) (rAC (oV (rVar 14)) rA0))))) (rAC (oN 6) rA0)))))
  (rSeq (rAsg (gTp 2 (gCs (gNm 17) (gCs (gNm 18) gNl))) (rTup (rAC (oV (rCall [0] r_law_take (rAC (oN 0) (rAC (oV (rVar 12)) rA0)))) (rAC (oV (rCall [0] r_law_take (rAC (oN 0) (rAC (oV (rVar 12)) rA0)))) rA0))))
  (rSeq (rSet 6 (rCB dList (rAC (oV (rVar 15)) rA0)))
  (rSeq (rCut (rIf (rTst (rBin dNe (oV (rVar 17)) (oV (rVar 18)))) (rDrop (rExt 6 (rComp (rItA (rVar 15)) (gTp 4 (gCs (gNm 16) (gCs (gNm 19) (gCs (gNm 20) (gCs (gNm 21) gNl))))) (rTst (rBin dEq (oV (rVar 19)) (oV (rVar 17)))) (rTup (rAC (oV (rVar 16)) (rAC (oV (rVar 18)) (rAC (oV (rVar 20)) (rAC (oV (rVar 21)) rA0))))) [21, 20, 19, 16]))) rNx))
  (rSeq (rDrop (rApp 7 (rCall [] r_law_put (rAC (oV (rTup (rAC (oV (rVar 12)) (rAC (oV (rVar 13)) (rAC (oV (rVar 14)) rA0))))) (rAC (oN 6) rA0)))))
  (rRet (rVar 7)))))))))))))))))))))))
abbrev RD_law_others (r : FSpec) (r_law_places : FSpec) (r_law_take : FSpec) (r_law_put : FSpec) : Prop := ∀ ds ED QD, ds.length = 3 → r ds ED QD → (rb_law_others r_law_places r_law_take r_law_put) (startD ["_law_box_here", "_law_task", "_law_p", "_law_one", "_law_two", "_law_three", "_law_moved", "_law_some", "_law_again", "_law_twice", "_law_sign", "_law_turn", "_law_left", "_law_right", "_law_many", "_law_terms_here", "_law_k", "_law_here", "_law_there", "_law_i", "_law_j", "_law_c"] ds) (fun c fs ρ => ED c fs (ρ.take 3)) (finD 3 QD)
theorem ok_law_others {f_law_others : Addr} {fd_law_others : FuncData} {f_law_places : Addr} {fd_law_places : FuncData} {f_law_take : Addr} {fd_law_take : FuncData} {f_law_put : Addr} {fd_law_put : FuncData} {k : Nat} (D_law_others : Df K mg "_law_others" s_law_others ["_law_box_here", "_law_task", "_law_p"] f_law_others fd_law_others) (D_law_places : Df K mg "_law_places" s_law_places ["_law_box_here", "_law_many"] f_law_places fd_law_places) (D_law_take : Df K mg "_law_take" s_law_take ["_law_box_here", "_law_many"] f_law_take fd_law_take) (D_law_put : Df K mg "_law_put" s_law_put ["_law_lengths", "_law_terms_here"] f_law_put fd_law_put) {r_law_places : FSpec} (F_law_places : FnOk P w K mg base (L2.CX P w) k f_law_places fd_law_places ["_law_box_here", "_law_many"] (FnD K 2 [0] r_law_places)) {r_law_take : FSpec} (F_law_take : FnOk P w K mg base (L2.CX P w) k f_law_take fd_law_take ["_law_box_here", "_law_many"] (FnD K 2 [0] r_law_take)) {r_law_put : FSpec} (F_law_put : FnOk P w K mg base (L2.CX P w) k f_law_put fd_law_put ["_law_lengths", "_law_terms_here"] (FnD K 2 [] r_law_put)) (z_list : mg "list" = none) (z_range : mg "range" = none) {r : FSpec} (hrd : RD_law_others r r_law_places r_law_take r_law_put) :
    FnOk P w K mg base (L2.CX P w) (k + 1) f_law_others fd_law_others ["_law_box_here", "_law_task", "_law_p"] (FnD K 3 [0] r) := by
  refine fl_fn D_law_others.fn sc_law_others (by rfl) (fun cdv A outer s H E hr => ?_) hrd
  have tk := takes_of (X := cxOf (L2.CX P w) P w K mg base ["_law_box_here", "_law_task", "_law_p", "_law_one", "_law_two", "_law_three", "_law_moved", "_law_some", "_law_again", "_law_twice", "_law_sign", "_law_turn", "_law_left", "_law_right", "_law_many", "_law_terms_here", "_law_k", "_law_here", "_law_there", "_law_i", "_law_j", "_law_c"] "_law_others" (defScope s_law_others) f_law_others cdv A outer s H E) rfl rfl rfl rfl
  exact (fss_cons (fs_asg [15, 14, 13, 12] (fe_var (i := 1)) (fg_tup (fgs_cons (fg_name 12 sc_law_others.nd) (fgs_cons (fg_name 13 sc_law_others.nd) (fgs_cons (fg_name 14 sc_law_others.nd) (fgs_cons (fg_name 15 sc_law_others.nd) fgs_nil)))))) (fss_cons (fs_setF 3 (fe_call tk F_law_places hr D_law_places.mg D_law_places.fn.kp D_law_places.b (fa_cons (fo_brw (i := 0)) (fa_cons (fo_val (fe_var (i := 12))) fa_nil))) sc_law_others.nd) (fss_cons (fs_setF 4 (fe_call tk F_law_places hr D_law_places.mg D_law_places.fn.kp D_law_places.b (fa_cons (fo_brw (i := 0)) (fa_cons (fo_val (fe_var (i := 13))) fa_nil))) sc_law_others.nd) (fss_cons (fs_setF 5 (fe_call tk F_law_places hr D_law_places.mg D_law_places.fn.kp D_law_places.b (fa_cons (fo_brw (i := 0)) (fa_cons (fo_val (fe_var (i := 14))) fa_nil))) sc_law_others.nd) (fss_cons (fs_setLc 6 [21, 20, 19, 16] (own := [("_law_c", 21), ("_law_j", 20), ("_law_i", 19), ("_law_k", 16)]) sc_law_others.nd (fi_row (fe_var (i := 15))) (blkOk_by (own := [("_law_c", 21), ("_law_j", 20), ("_law_i", 19), ("_law_k", 16)]) (N := ["_law_box_here", "_law_task", "_law_p", "_law_one", "_law_two", "_law_three", "_law_moved", "_law_some", "_law_again", "_law_twice", "_law_sign", "_law_turn", "_law_left", "_law_right", "_law_many", "_law_terms_here", "_law_k", "_law_here", "_law_there", "_law_i", "_law_j", "_law_c"]) (sc := defScope s_law_others) (by decide +kernel)) (fun _ => (fg_tup (fgs_cons (fg_name 16 sc_law_others.nd) (fgs_cons (fg_name 19 sc_law_others.nd) (fgs_cons (fg_name 20 sc_law_others.nd) (fgs_cons (fg_name 21 sc_law_others.nd) fgs_nil)))))) (fun _ => fts_nil) (fun _ => (fe_tup (fa_cons (fo_val (fe_ix (hu_of hr) (fo_val (fe_var (i := 5))) (fo_val (fe_var (i := 16))))) (fa_cons (fo_val (fe_ix (hu_of hr) (fo_val (fe_var (i := 3))) (fo_val (fe_var (i := 19))))) (fa_cons (fo_val (fe_ix (hu_of hr) (fo_val (fe_var (i := 4))) (fo_val (fe_var (i := 20))))) (fa_cons (fo_val (fe_var (i := 21))) fa_nil))))))) (fss_cons (fs_set 7 (fe_lst (fa_cons (fo_val (fe_call tk F_law_put hr D_law_put.mg D_law_put.fn.kp D_law_put.b (fa_cons (fo_val (fe_tup (fa_cons (fo_val (fe_var (i := 12))) (fa_cons (fo_val (fe_var (i := 13))) (fa_cons (fo_val (fe_var (i := 14))) fa_nil))))) (fa_cons (fo_brw (i := 6)) fa_nil)))) fa_nil)) sc_law_others.nd) (fss_cons (fs_setLc 6 [21, 20, 19, 16] (own := [("_law_c", 21), ("_law_j", 20), ("_law_i", 19), ("_law_k", 16)]) sc_law_others.nd (fi_row (fe_var (i := 15))) (blkOk_by (own := [("_law_c", 21), ("_law_j", 20), ("_law_i", 19), ("_law_k", 16)]) (N := ["_law_box_here", "_law_task", "_law_p", "_law_one", "_law_two", "_law_three", "_law_moved", "_law_some", "_law_again", "_law_twice", "_law_sign", "_law_turn", "_law_left", "_law_right", "_law_many", "_law_terms_here", "_law_k", "_law_here", "_law_there", "_law_i", "_law_j", "_law_c"]) (sc := defScope s_law_others) (by decide +kernel)) (fun _ => (fg_tup (fgs_cons (fg_name 16 sc_law_others.nd) (fgs_cons (fg_name 19 sc_law_others.nd) (fgs_cons (fg_name 20 sc_law_others.nd) (fgs_cons (fg_name 21 sc_law_others.nd) fgs_nil)))))) (fun _ => fts_nil) (fun _ => (fe_tup (fa_cons (fo_val (fe_var (i := 16))) (fa_cons (fo_val (fe_var (i := 20))) (fa_cons (fo_val (fe_var (i := 19))) (fa_cons (fo_val (fe_var (i := 21))) fa_nil))))))) (fss_cons (fs_expr (fe_app 7 (fe_call tk F_law_put hr D_law_put.mg D_law_put.fn.kp D_law_put.b (fa_cons (fo_val (fe_tup (fa_cons (fo_val (fe_var (i := 13))) (fa_cons (fo_val (fe_var (i := 12))) (fa_cons (fo_val (fe_var (i := 14))) fa_nil))))) (fa_cons (fo_brw (i := 6)) fa_nil))))) (fss_cons (fs_setLc 6 [21, 20, 19, 16] (own := [("_law_c", 21), ("_law_j", 20), ("_law_i", 19), ("_law_k", 16)]) sc_law_others.nd (fi_row (fe_var (i := 15))) (blkOk_by (own := [("_law_c", 21), ("_law_j", 20), ("_law_i", 19), ("_law_k", 16)]) (N := ["_law_box_here", "_law_task", "_law_p", "_law_one", "_law_two", "_law_three", "_law_moved", "_law_some", "_law_again", "_law_twice", "_law_sign", "_law_turn", "_law_left", "_law_right", "_law_many", "_law_terms_here", "_law_k", "_law_here", "_law_there", "_law_i", "_law_j", "_law_c"]) (sc := defScope s_law_others) (by decide +kernel)) (fun _ => (fg_tup (fgs_cons (fg_name 16 sc_law_others.nd) (fgs_cons (fg_name 19 sc_law_others.nd) (fgs_cons (fg_name 20 sc_law_others.nd) (fgs_cons (fg_name 21 sc_law_others.nd) fgs_nil)))))) (fun _ => fts_nil) (fun _ => (fe_tup (fa_cons (fo_val (fe_var (i := 19))) (fa_cons (fo_val (fe_var (i := 20))) (fa_cons (fo_val (fe_var (i := 16))) (fa_cons (fo_val (fe_var (i := 21))) fa_nil))))))) (fss_cons (fs_expr (fe_app 7 (fe_call tk F_law_put hr D_law_put.mg D_law_put.fn.kp D_law_put.b (fa_cons (fo_val (fe_tup (fa_cons (fo_val (fe_var (i := 13))) (fa_cons (fo_val (fe_var (i := 14))) (fa_cons (fo_val (fe_var (i := 12))) fa_nil))))) (fa_cons (fo_brw (i := 6)) fa_nil))))) (fss_cons (fs_setF 8 (fe_call tk F_law_take hr D_law_take.mg D_law_take.fn.kp D_law_take.b (fa_cons (fo_brw (i := 0)) (fa_cons (fo_val (fe_var (i := 14))) fa_nil))) sc_law_others.nd) (fss_cons (fs_setLcF 9 [21, 20, 19, 16] (own := [("_law_c", 21), ("_law_j", 20), ("_law_i", 19), ("_law_k", 16)]) sc_law_others.nd (fi_row (fe_var (i := 15))) (blkOk_by (own := [("_law_c", 21), ("_law_j", 20), ("_law_i", 19), ("_law_k", 16)]) (N := ["_law_box_here", "_law_task", "_law_p", "_law_one", "_law_two", "_law_three", "_law_moved", "_law_some", "_law_again", "_law_twice", "_law_sign", "_law_turn", "_law_left", "_law_right", "_law_many", "_law_terms_here", "_law_k", "_law_here", "_law_there", "_law_i", "_law_j", "_law_c"]) (sc := defScope s_law_others) (by decide +kernel)) (fun _ => (fg_tup (fgs_cons (fg_name 16 sc_law_others.nd) (fgs_cons (fg_name 19 sc_law_others.nd) (fgs_cons (fg_name 20 sc_law_others.nd) (fgs_cons (fg_name 21 sc_law_others.nd) fgs_nil)))))) (fun _ => (fts_one (ft_cmp (fop_eq hr.units) (fo_val (fe_var (i := 16))) (fo_val (fe_var (i := 8)))))) (fun _ => (fe_tup (fa_cons (fo_val (fe_var (i := 14))) (fa_cons (fo_val (fe_var (i := 19))) (fa_cons (fo_val (fe_var (i := 20))) (fa_cons (fo_val (fe_var (i := 21))) fa_nil))))))) (fss_cons (fs_expr (fe_app 7 (fe_call tk F_law_put hr D_law_put.mg D_law_put.fn.kp D_law_put.b (fa_cons (fo_val (fe_tup (fa_cons (fo_val (fe_var (i := 12))) (fa_cons (fo_val (fe_var (i := 13))) (fa_cons (fo_val (fe_addC (fo_val (fe_var (i := 14))))) fa_nil))))) (fa_cons (fo_val (fe_op fop_add (fo_val (fe_var (i := 15))) (fo_val (fe_var (i := 9))))) fa_nil))))) (fss_cons (fs_setF 10 (fe_ix (hu_of hr) (fo_val (fe_lst (fa_cons (fo_val fe_int) (fa_cons (fo_val fe_negC) fa_nil)))) (fo_val (fe_call tk F_law_take hr D_law_take.mg D_law_take.fn.kp D_law_take.b (fa_cons (fo_brw (i := 0)) (fa_cons (fo_val fe_int) fa_nil))))) sc_law_others.nd) (fss_cons (fs_setLc 6 [21, 20, 19, 16] (own := [("_law_c", 21), ("_law_j", 20), ("_law_i", 19), ("_law_k", 16)]) sc_law_others.nd (fi_row (fe_var (i := 15))) (blkOk_by (own := [("_law_c", 21), ("_law_j", 20), ("_law_i", 19), ("_law_k", 16)]) (N := ["_law_box_here", "_law_task", "_law_p", "_law_one", "_law_two", "_law_three", "_law_moved", "_law_some", "_law_again", "_law_twice", "_law_sign", "_law_turn", "_law_left", "_law_right", "_law_many", "_law_terms_here", "_law_k", "_law_here", "_law_there", "_law_i", "_law_j", "_law_c"]) (sc := defScope s_law_others) (by decide +kernel)) (fun _ => (fg_tup (fgs_cons (fg_name 16 sc_law_others.nd) (fgs_cons (fg_name 19 sc_law_others.nd) (fgs_cons (fg_name 20 sc_law_others.nd) (fgs_cons (fg_name 21 sc_law_others.nd) fgs_nil)))))) (fun _ => fts_nil) (fun _ => (fe_tup (fa_cons (fo_val (fe_var (i := 16))) (fa_cons (fo_val (fe_var (i := 19))) (fa_cons (fo_val (fe_var (i := 20))) (fa_cons (fo_val (fe_op fop_mulX (fo_val (fe_var (i := 21))) (fo_val (fe_var (i := 10))))) fa_nil))))))) (fss_cons (fs_for [11] PassesOwn.leaving (fi_range1 (fa_cons (fo_val fe_int) fa_nil) z_range) (fg_name 11 sc_law_others.nd) (fss_cons (fs_setF 16 (fe_call tk F_law_take hr D_law_take.mg D_law_take.fn.kp D_law_take.b (fa_cons (fo_brw (i := 0)) (fa_cons (fo_val (fe_var (i := 14))) fa_nil))) sc_law_others.nd) (fss_one (fs_expr (fe_app 6 (fe_tup (fa_cons (fo_val (fe_var (i := 16))) (fa_cons (fo_val (fe_call tk F_law_take hr D_law_take.mg D_law_take.fn.kp D_law_take.b (fa_cons (fo_brw (i := 0)) (fa_cons (fo_val (fe_var (i := 12))) fa_nil)))) (fa_cons (fo_val (fe_call tk F_law_take hr D_law_take.mg D_law_take.fn.kp D_law_take.b (fa_cons (fo_brw (i := 0)) (fa_cons (fo_val (fe_var (i := 13))) fa_nil)))) (fa_cons (fo_val (fe_var (i := 2))) fa_nil)))))))))) (fss_cons (fs_expr (fe_app 7 (fe_call tk F_law_put hr D_law_put.mg D_law_put.fn.kp D_law_put.b (fa_cons (fo_val (fe_tup (fa_cons (fo_val (fe_var (i := 12))) (fa_cons (fo_val (fe_var (i := 13))) (fa_cons (fo_val (fe_var (i := 14))) fa_nil))))) (fa_cons (fo_brw (i := 6)) fa_nil))))) (fss_cons (fs_asg [18, 17] (fe_tup (fa_cons (fo_val (fe_call tk F_law_take hr D_law_take.mg D_law_take.fn.kp D_law_take.b (fa_cons (fo_brw (i := 0)) (fa_cons (fo_val (fe_var (i := 12))) fa_nil)))) (fa_cons (fo_val (fe_call tk F_law_take hr D_law_take.mg D_law_take.fn.kp D_law_take.b (fa_cons (fo_brw (i := 0)) (fa_cons (fo_val (fe_var (i := 12))) fa_nil)))) fa_nil))) (fg_tup (fgs_cons (fg_name 17 sc_law_others.nd) (fgs_cons (fg_name 18 sc_law_others.nd) fgs_nil)))) (fss_cons (fs_set 6 (fe_callTy fc_list z_list (by decide +kernel) (fa_cons (fo_val (fe_var (i := 15))) fa_nil)) sc_law_others.nd) (fss_cons (fs_cut (fs_if (ft_cmp (fop_ne hr.units) (fo_val (fe_var (i := 17))) (fo_val (fe_var (i := 18)))) (fss_one (fs_expr (fe_ext 6 (fe_lc [21, 20, 19, 16] (own := [("_law_c", 21), ("_law_j", 20), ("_law_i", 19), ("_law_k", 16)]) sc_law_others.nd (fi_row (fe_var (i := 15))) (blkOk_by (own := [("_law_c", 21), ("_law_j", 20), ("_law_i", 19), ("_law_k", 16)]) (N := ["_law_box_here", "_law_task", "_law_p", "_law_one", "_law_two", "_law_three", "_law_moved", "_law_some", "_law_again", "_law_twice", "_law_sign", "_law_turn", "_law_left", "_law_right", "_law_many", "_law_terms_here", "_law_k", "_law_here", "_law_there", "_law_i", "_law_j", "_law_c"]) (sc := defScope s_law_others) (by decide +kernel)) (fun _ => (fg_tup (fgs_cons (fg_name 16 sc_law_others.nd) (fgs_cons (fg_name 19 sc_law_others.nd) (fgs_cons (fg_name 20 sc_law_others.nd) (fgs_cons (fg_name 21 sc_law_others.nd) fgs_nil)))))) (fun _ => (fts_one (ft_cmp (fop_eq hr.units) (fo_val (fe_var (i := 19))) (fo_val (fe_var (i := 17)))))) (fun _ => (fe_tup (fa_cons (fo_val (fe_var (i := 16))) (fa_cons (fo_val (fe_var (i := 18))) (fa_cons (fo_val (fe_var (i := 20))) (fa_cons (fo_val (fe_var (i := 21))) fa_nil)))))))))) fss_nil)) (fss_cons (fs_expr (fe_app 7 (fe_call tk F_law_put hr D_law_put.mg D_law_put.fn.kp D_law_put.b (fa_cons (fo_val (fe_tup (fa_cons (fo_val (fe_var (i := 12))) (fa_cons (fo_val (fe_var (i := 13))) (fa_cons (fo_val (fe_var (i := 14))) fa_nil))))) (fa_cons (fo_brw (i := 6)) fa_nil))))) (fss_one (fs_ret (fe_var (i := 7)))))))))))))))))))))))))
theorem sc_law : FnScope ["_law_script", "_law_k", "_law_box_here", "_law_p", "_law_some", "_law_many", "_law_scheme_here", "_law_task", "_law_due", "_law_other", "_law_place", "_law_terms_here", "_law_i", "_law_more", "_law_left", "_law_right", "_law_l", "_law_r", "_law_j"] ["_law_script"] (defScope s_law) := ⟨rfl, rfl, rfl, by decide +kernel, rfl, by decide +kernel, by decide +kernel⟩
def rb_law_l1 (r_law_box : FSpec) (r_law_scheme_2 : FSpec) (r_law_others : FSpec) (r_law_take : FSpec) (r_law_terms : FSpec) (r_least_over : FSpec) (r_law_part_2 : FSpec) (r_law_sums_2 : FSpec) (r_law_put : FSpec) : RS := (rIf (rTst (rBin dNe (oV (rSl (oV (rFrz (rCall [] r_least_over (rAC (oV (rVar 9)) (rAC (oV (rVar 3)) rA0))))) rP0 (rP1 (rC (.int 2))))) (oV (rVar 8)))) (rRet (rC (.bl false))) rNx)
def rb_law_l2 (r_law_box : FSpec) (r_law_scheme_2 : FSpec) (r_law_others : FSpec) (r_law_take : FSpec) (r_law_terms : FSpec) (r_least_over : FSpec) (r_law_part_2 : FSpec) (r_law_sums_2 : FSpec) (r_law_put : FSpec) : RS := (rDrop (rExt 11 (rComp (rRg1 (rAC (oV (rVar 15)) rA0)) (gNm 18) rYes (rTup (rAC (oV (rVar 10)) (rAC (oV (rVar 12)) (rAC (oV (rVar 18)) (rAC (oV (rBin dMulX (oV (rBin dIx (oV (rVar 16)) (oV (rVar 12)))) (oV (rBin dIx (oV (rVar 17)) (oV (rVar 18)))))) rA0))))) [18])))
def rb_law_l3 (r_law_box : FSpec) (r_law_scheme_2 : FSpec) (r_law_others : FSpec) (r_law_take : FSpec) (r_law_terms : FSpec) (r_least_over : FSpec) (r_law_part_2 : FSpec) (r_law_sums_2 : FSpec) (r_law_put : FSpec) : RS := (rSeq (rSet 2 (rCall [] r_law_box (rAC (oV (rVar 0)) (rAC (oV (rVar 1)) rA0))))
  (rSeq (rSetF 3 (rIc (fun i => 2 + i) (oV (rCall [0] r_law_take (rAC (oN 2) (rAC (oV (rC (.int 2))) rA0))))))
  (rSeq (rSetF 4 (rBin dIx (oV (rFrz (rLst (rAC (oV (rLst (rAC (oV (rTup (rAC (oV (rC (.int 2))) (rAC (oV (rC (.int 2))) rA0)))) (rAC (oV (rTup (rAC (oV (rC (.int 2))) (rAC (oV (rC (.int 3))) rA0)))) (rAC (oV (rTup (rAC (oV (rC (.int 1))) (rAC (oV (rC (.int 3))) rA0)))) (rAC (oV (rTup (rAC (oV (rC (.int 3))) (rAC (oV (rC (.int 2))) rA0)))) (rAC (oV (rTup (rAC (oV (rC (.int 3))) (rAC (oV (rC (.int 1))) rA0)))) rA0))))))) (rAC (oV (rLst (rAC (oV (rTup (rAC (oV (rC (.int 2))) (rAC (oV (rC (.int 2))) rA0)))) (rAC (oV (rTup (rAC (oV (rC (.int 1))) (rAC (oV (rC (.int 3))) rA0)))) (rAC (oV (rTup (rAC (oV (rC (.int 2))) (rAC (oV (rC (.int 1))) rA0)))) (rAC (oV (rTup (rAC (oV (rC (.int 2))) (rAC (oV (rC (.int 2))) rA0)))) (rAC (oV (rTup (rAC (oV (rC (.int 1))) (rAC (oV (rC (.int 2))) rA0)))) rA0))))))) rA0))))) (oV (rIc (fun i => i - 2) (oV (rVar 3))))))
  (rSeq (rAsg (gTp 2 (gCs (gNm 14) (gCs (gNm 15) gNl))) (rBin dIx (oV (rVar 4)) (oV (rCall [0] r_law_take (rAC (oN 2) (rAC (oV (rC (.int 5))) rA0))))))
  (rSeq (rSetF 5 (rIc (fun i => 1 + i) (oV (rCall [0] r_law_take (rAC (oN 2) (rAC (oV (rBin dAdd (oV (rBin dIx (oV (rLst (rAC (oV (rC (.int 2))) (rAC (oV (rC (.int 1))) rA0)))) (oV (rCB dInt (rAC (oV (rBin dEq (oV (rBin dAdd (oV (rVar 14)) (oV (rVar 15)))) (oV (rC (.int 5))))) rA0))))) (oV (rCB dInt (rAC (oV (rBin dEq (oV (rBin dMulX (oV (rVar 14)) (oV (rVar 15)))) (oV (rC (.int 4))))) rA0))))) rA0))))))
  (rSeq (rSetF 6 (rCall [0] r_law_scheme_2 (rAC (oN 2) (rAC (oV (rLst (rAC (oV (rVar 14)) (rAC (oV (rVar 15)) (rAC (oV (rVar 5)) rA0))))) (rAC (oV (rCall [0] r_law_take (rAC (oN 2) (rAC (oV (rC (.int 4))) rA0)))) rA0)))))
  (rSeq (rSetF 7 (rTup (rAC (oV (rVar 14)) (rAC (oV (rVar 15)) (rAC (oV (rVar 5)) (rAC (oV (rCall [] r_law_terms (rAC (oV (rCall [] r_law_sums_2 (rAC (oV (rVar 6)) rA0))) rA0))) rA0))))))
  (rSeq (rSetF 8 (rSl (oV (rFrz (rCall [] r_least_over (rAC (oV (rVar 7)) (rAC (oV (rVar 3)) rA0))))) rP0 (rP1 (rC (.int 2)))))
  (rSeq (rFor (rItA (rCall [0] r_law_others (rAC (oN 2) (rAC (oV (rVar 7)) (rAC (oV (rVar 3)) rA0))))) (gNm 9) (rb_law_l1 r_law_box r_law_scheme_2 r_law_others r_law_take r_law_terms r_least_over r_law_part_2 r_law_sums_2 r_law_put))
  (rSeq (rIf (rTst (rBin dNe (oV (rSl (oV (rFrz (rCall [] r_least_over (rAC (oV (rTup (rAC (oV (rVar 14)) (rAC (oV (rVar 15)) (rAC (oV (rVar 5)) (rAC (oV (rLst rA0)) rA0)))))) (rAC (oV (rVar 3)) rA0))))) rP0 (rP1 (rC (.int 2))))) (oV (rTup (rAC (oV (rC (.str "least"))) (rAC (oV (rC (.int 0))) rA0)))))) (rRet (rC (.bl false))) rNx)
  (rSeq (rAsg (gTp 2 (gCs (gNm 16) (gCs (gNm 17) gNl))) (rTup (rAC (oV (rCall [0] r_law_part_2 (rAC (oN 2) (rAC (oV (rVar 14)) rA0)))) (rAC (oV (rCall [0] r_law_part_2 (rAC (oN 2) (rAC (oV (rVar 15)) rA0)))) rA0))))
  (rSeq (rSetF 10 (rCall [0] r_law_take (rAC (oN 2) (rAC (oV (rVar 5)) rA0))))
  (rSeq (rSet 11 (rLst rA0))
  (rSeq (rFor (rRg1 (rAC (oV (rVar 14)) rA0)) (gNm 12) (rb_law_l2 r_law_box r_law_scheme_2 r_law_others r_law_take r_law_terms r_least_over r_law_part_2 r_law_sums_2 r_law_put))
  (rSeq (rSetF 13 (rSl (oV (rFrz (rCall [] r_least_over (rAC (oV (rCall [] r_law_put (rAC (oV (rTup (rAC (oV (rVar 14)) (rAC (oV (rVar 15)) (rAC (oV (rVar 5)) rA0))))) (rAC (oV (rBin dAdd (oV (rBin dIx (oV (rVar 7)) (oV (rC (.int 3))))) (oN 11))) rA0)))) (rAC (oV (rVar 3)) rA0))))) rP0 (rP1 (rC (.int 2)))))
  (rIf (rAnd (rTst (rBin dEq (oV (rBin dIx (oV (rVar 13)) (oV (rC (.int 0))))) (oV (rC (.str "least"))))) (rAnd (rTst (rBin dEq (oV (rBin dIx (oV (rVar 8)) (oV (rC (.int 0))))) (oV (rC (.str "least"))))) (rTst (rBin dGt (oV (rCB dAbs (rAC (oV (rBin dSub (oV (rBin dIx (oV (rVar 13)) (oV (rC (.int 1))))) (oV (rBin dIx (oV (rVar 8)) (oV (rC (.int 1))))))) rA0))) (oV (rC (.int 1))))))) (rRet (rC (.bl false))) rNx))))))))))))))))
def rb_law (r_law_box : FSpec) (r_law_scheme_2 : FSpec) (r_law_others : FSpec) (r_law_take : FSpec) (r_law_terms : FSpec) (r_least_over : FSpec) (r_law_part_2 : FSpec) (r_law_sums_2 : FSpec) (r_law_put : FSpec) : RS := (rSeq (rFor (rRg1 (rAC (oV (rCB dMax2 (rAC (oV (rC (.int 1))) (rAC (oV (rCB dMin2 (rAC (oV (rCB dLen (rAC (oV (rVar 0)) rA0))) (rAC (oV (rC (.int 2))) rA0)))) rA0)))) rA0)) (gNm 1) (rb_law_l3 r_law_box r_law_scheme_2 r_law_others r_law_take r_law_terms r_least_over r_law_part_2 r_law_sums_2 r_law_put))
  (rRet (rC (.bl true))))
abbrev RD_law (r : FSpec) (r_law_box : FSpec) (r_law_scheme_2 : FSpec) (r_law_others : FSpec) (r_law_take : FSpec) (r_law_terms : FSpec) (r_least_over : FSpec) (r_law_part_2 : FSpec) (r_law_sums_2 : FSpec) (r_law_put : FSpec) : Prop := ∀ ds ED QD, ds.length = 1 → r ds ED QD → (rb_law r_law_box r_law_scheme_2 r_law_others r_law_take r_law_terms r_least_over r_law_part_2 r_law_sums_2 r_law_put) (startD ["_law_script", "_law_k", "_law_box_here", "_law_p", "_law_some", "_law_many", "_law_scheme_here", "_law_task", "_law_due", "_law_other", "_law_place", "_law_terms_here", "_law_i", "_law_more", "_law_left", "_law_right", "_law_l", "_law_r", "_law_j"] ds) (fun c fs ρ => ED c fs (ρ.take 1)) (finD 1 QD)
theorem ok_law {f_law : Addr} {fd_law : FuncData} {f_law_box : Addr} {fd_law_box : FuncData} {f_law_scheme_2 : Addr} {fd_law_scheme_2 : FuncData} {f_law_others : Addr} {fd_law_others : FuncData} {f_law_take : Addr} {fd_law_take : FuncData} {f_law_terms : Addr} {fd_law_terms : FuncData} {f_least_over : Addr} {fd_least_over : FuncData} {f_law_part_2 : Addr} {fd_law_part_2 : FuncData} {f_law_sums_2 : Addr} {fd_law_sums_2 : FuncData} {f_law_put : Addr} {fd_law_put : FuncData} {k : Nat} (D_law : Df K mg "law" s_law ["_law_script"] f_law fd_law) (D_law_box : Df K mg "_law_box" s_law_box ["_law_script", "_law_k"] f_law_box fd_law_box) (D_law_scheme_2 : Df K mg "_law_scheme" s_law_scheme_2 ["_law_box_here", "_law_lengths", "_law_count"] f_law_scheme_2 fd_law_scheme_2) (D_law_others : Df K mg "_law_others" s_law_others ["_law_box_here", "_law_task", "_law_p"] f_law_others fd_law_others) (D_law_take : Df K mg "_law_take" s_law_take ["_law_box_here", "_law_many"] f_law_take fd_law_take) (D_law_terms : Df K mg "_law_terms" s_law_terms ["_law_sums_here"] f_law_terms fd_law_terms) (D_least_over : Df K mg "least_over" s_least_over ["task", "p"] f_least_over fd_least_over) (D_law_part_2 : Df K mg "_law_part" s_law_part_2 ["_law_box_here", "_law_length"] f_law_part_2 fd_law_part_2) (D_law_sums_2 : Df K mg "_law_sums" s_law_sums_2 ["_law_scheme_here"] f_law_sums_2 fd_law_sums_2) (D_law_put : Df K mg "_law_put" s_law_put ["_law_lengths", "_law_terms_here"] f_law_put fd_law_put) {r_law_box : FSpec} (F_law_box : FnOk P w K mg base (L2.CX P w) k f_law_box fd_law_box ["_law_script", "_law_k"] (FnD K 2 [] r_law_box)) {r_law_scheme_2 : FSpec} (F_law_scheme_2 : FnOk P w K mg base (L2.CX P w) k f_law_scheme_2 fd_law_scheme_2 ["_law_box_here", "_law_lengths", "_law_count"] (FnD K 3 [0] r_law_scheme_2)) {r_law_others : FSpec} (F_law_others : FnOk P w K mg base (L2.CX P w) k f_law_others fd_law_others ["_law_box_here", "_law_task", "_law_p"] (FnD K 3 [0] r_law_others)) {r_law_take : FSpec} (F_law_take : FnOk P w K mg base (L2.CX P w) k f_law_take fd_law_take ["_law_box_here", "_law_many"] (FnD K 2 [0] r_law_take)) {r_law_terms : FSpec} (F_law_terms : FnOk P w K mg base (L2.CX P w) k f_law_terms fd_law_terms ["_law_sums_here"] (FnD K 1 [] r_law_terms)) {r_least_over : FSpec} (F_least_over : FnOk P w K mg base (L2.CX P w) k f_least_over fd_least_over ["task", "p"] (FnD K 2 [] r_least_over)) {r_law_part_2 : FSpec} (F_law_part_2 : FnOk P w K mg base (L2.CX P w) k f_law_part_2 fd_law_part_2 ["_law_box_here", "_law_length"] (FnD K 2 [0] r_law_part_2)) {r_law_sums_2 : FSpec} (F_law_sums_2 : FnOk P w K mg base (L2.CX P w) k f_law_sums_2 fd_law_sums_2 ["_law_scheme_here"] (FnD K 1 [] r_law_sums_2)) {r_law_put : FSpec} (F_law_put : FnOk P w K mg base (L2.CX P w) k f_law_put fd_law_put ["_law_lengths", "_law_terms_here"] (FnD K 2 [] r_law_put)) (z_abs : mg "abs" = none) (z_int : mg "int" = none) (z_len : mg "len" = none) (z_max : mg "max" = none) (z_min : mg "min" = none) (z_range : mg "range" = none) {r : FSpec} (hrd : RD_law r r_law_box r_law_scheme_2 r_law_others r_law_take r_law_terms r_least_over r_law_part_2 r_law_sums_2 r_law_put) :
    FnOk P w K mg base (L2.CX P w) (k + 1) f_law fd_law ["_law_script"] (FnD K 1 [] r) := by
  refine fl_fn D_law.fn sc_law (by rfl) (fun cdv A outer s H E hr => ?_) hrd
  have tk := takes_of (X := cxOf (L2.CX P w) P w K mg base ["_law_script", "_law_k", "_law_box_here", "_law_p", "_law_some", "_law_many", "_law_scheme_here", "_law_task", "_law_due", "_law_other", "_law_place", "_law_terms_here", "_law_i", "_law_more", "_law_left", "_law_right", "_law_l", "_law_r", "_law_j"] "law" (defScope s_law) f_law cdv A outer s H E) rfl rfl rfl rfl
  exact (fss_cons (fs_for [1] PassesOwn.leaving (fi_range1 (fa_cons (fo_val (fe_callB fc_max2 z_max (by decide +kernel) (fa_cons (fo_val fe_int) (fa_cons (fo_val (fe_callB fc_min2 z_min (by decide +kernel) (fa_cons (fo_val (fe_callB fc_len z_len (by decide +kernel) (fa_cons (fo_val (fe_var (i := 0))) fa_nil))) (fa_cons (fo_val fe_int) fa_nil)))) fa_nil)))) fa_nil) z_range) (fg_name 1 sc_law.nd) (fss_cons (fs_set 2 (fe_call tk F_law_box hr D_law_box.mg D_law_box.fn.kp D_law_box.b (fa_cons (fo_val (fe_var (i := 0))) (fa_cons (fo_val (fe_var (i := 1))) fa_nil))) sc_law.nd) (fss_cons (fs_setF 3 (fe_addCl (fo_val (fe_call tk F_law_take hr D_law_take.mg D_law_take.fn.kp D_law_take.b (fa_cons (fo_brw (i := 2)) (fa_cons (fo_val fe_int) fa_nil))))) sc_law.nd) (fss_cons (fs_setF 4 (fe_ix (hu_of hr) (fo_val (fe_frz (fe_lst (fa_cons (fo_val (fe_lst (fa_cons (fo_val (fe_tup (fa_cons (fo_val fe_int) (fa_cons (fo_val fe_int) fa_nil)))) (fa_cons (fo_val (fe_tup (fa_cons (fo_val fe_int) (fa_cons (fo_val fe_int) fa_nil)))) (fa_cons (fo_val (fe_tup (fa_cons (fo_val fe_int) (fa_cons (fo_val fe_int) fa_nil)))) (fa_cons (fo_val (fe_tup (fa_cons (fo_val fe_int) (fa_cons (fo_val fe_int) fa_nil)))) (fa_cons (fo_val (fe_tup (fa_cons (fo_val fe_int) (fa_cons (fo_val fe_int) fa_nil)))) fa_nil))))))) (fa_cons (fo_val (fe_lst (fa_cons (fo_val (fe_tup (fa_cons (fo_val fe_int) (fa_cons (fo_val fe_int) fa_nil)))) (fa_cons (fo_val (fe_tup (fa_cons (fo_val fe_int) (fa_cons (fo_val fe_int) fa_nil)))) (fa_cons (fo_val (fe_tup (fa_cons (fo_val fe_int) (fa_cons (fo_val fe_int) fa_nil)))) (fa_cons (fo_val (fe_tup (fa_cons (fo_val fe_int) (fa_cons (fo_val fe_int) fa_nil)))) (fa_cons (fo_val (fe_tup (fa_cons (fo_val fe_int) (fa_cons (fo_val fe_int) fa_nil)))) fa_nil))))))) fa_nil))))) (fo_val (fe_subC (fo_val (fe_var (i := 3)))))) sc_law.nd) (fss_cons (fs_asg [15, 14] (fe_ix (hu_of hr) (fo_val (fe_var (i := 4))) (fo_val (fe_call tk F_law_take hr D_law_take.mg D_law_take.fn.kp D_law_take.b (fa_cons (fo_brw (i := 2)) (fa_cons (fo_val fe_int) fa_nil))))) (fg_tup (fgs_cons (fg_name 14 sc_law.nd) (fgs_cons (fg_name 15 sc_law.nd) fgs_nil)))) (fss_cons (fs_setF 5 (fe_addCl (fo_val (fe_call tk F_law_take hr D_law_take.mg D_law_take.fn.kp D_law_take.b (fa_cons (fo_brw (i := 2)) (fa_cons (fo_val (fe_op fop_add (fo_val (fe_ix (hu_of hr) (fo_val (fe_lst (fa_cons (fo_val fe_int) (fa_cons (fo_val fe_int) fa_nil)))) (fo_val (fe_callTy fc_int z_int (by decide +kernel) (fa_cons (fo_val (fe_cmp (fop_eq hr.units) (fo_val (fe_op fop_add (fo_val (fe_var (i := 14))) (fo_val (fe_var (i := 15))))) (fo_val fe_int))) fa_nil))))) (fo_val (fe_callTy fc_int z_int (by decide +kernel) (fa_cons (fo_val (fe_cmp (fop_eq hr.units) (fo_val (fe_op fop_mulX (fo_val (fe_var (i := 14))) (fo_val (fe_var (i := 15))))) (fo_val fe_int))) fa_nil))))) fa_nil))))) sc_law.nd) (fss_cons (fs_setF 6 (fe_call tk F_law_scheme_2 hr D_law_scheme_2.mg D_law_scheme_2.fn.kp D_law_scheme_2.b (fa_cons (fo_brw (i := 2)) (fa_cons (fo_val (fe_lst (fa_cons (fo_val (fe_var (i := 14))) (fa_cons (fo_val (fe_var (i := 15))) (fa_cons (fo_val (fe_var (i := 5))) fa_nil))))) (fa_cons (fo_val (fe_call tk F_law_take hr D_law_take.mg D_law_take.fn.kp D_law_take.b (fa_cons (fo_brw (i := 2)) (fa_cons (fo_val fe_int) fa_nil)))) fa_nil)))) sc_law.nd) (fss_cons (fs_setF 7 (fe_tup (fa_cons (fo_val (fe_var (i := 14))) (fa_cons (fo_val (fe_var (i := 15))) (fa_cons (fo_val (fe_var (i := 5))) (fa_cons (fo_val (fe_call tk F_law_terms hr D_law_terms.mg D_law_terms.fn.kp D_law_terms.b (fa_cons (fo_val (fe_call tk F_law_sums_2 hr D_law_sums_2.mg D_law_sums_2.fn.kp D_law_sums_2.b (fa_cons (fo_val (fe_var (i := 6))) fa_nil))) fa_nil))) fa_nil))))) sc_law.nd) (fss_cons (fs_setF 8 (fe_sl (fo_val (fe_frz (fe_call tk F_least_over hr D_least_over.mg D_least_over.fn.kp D_least_over.b (fa_cons (fo_val (fe_var (i := 7))) (fa_cons (fo_val (fe_var (i := 3))) fa_nil))))) fp_none (fp_some fe_int)) sc_law.nd) (fss_cons (fs_for [9] PassesOwn.leaving (fi_row (fe_call tk F_law_others hr D_law_others.mg D_law_others.fn.kp D_law_others.b (fa_cons (fo_brw (i := 2)) (fa_cons (fo_val (fe_var (i := 7))) (fa_cons (fo_val (fe_var (i := 3))) fa_nil))))) (fg_name 9 sc_law.nd) (fss_one (fs_if (ft_cmp (fop_ne hr.units) (fo_val (fe_sl (fo_val (fe_frz (fe_call tk F_least_over hr D_least_over.mg D_least_over.fn.kp D_least_over.b (fa_cons (fo_val (fe_var (i := 9))) (fa_cons (fo_val (fe_var (i := 3))) fa_nil))))) fp_none (fp_some fe_int))) (fo_val (fe_var (i := 8)))) (fss_one (fs_ret fe_bl)) fss_nil))) (fss_cons (fs_if (ft_cmp (fop_ne hr.units) (fo_val (fe_sl (fo_val (fe_frz (fe_call tk F_least_over hr D_least_over.mg D_least_over.fn.kp D_least_over.b (fa_cons (fo_val (fe_tup (fa_cons (fo_val (fe_var (i := 14))) (fa_cons (fo_val (fe_var (i := 15))) (fa_cons (fo_val (fe_var (i := 5))) (fa_cons (fo_val (fe_lst fa_nil)) fa_nil)))))) (fa_cons (fo_val (fe_var (i := 3))) fa_nil))))) fp_none (fp_some fe_int))) (fo_val (fe_tup (fa_cons (fo_val fe_str) (fa_cons (fo_val fe_int) fa_nil))))) (fss_one (fs_ret fe_bl)) fss_nil) (fss_cons (fs_asg [17, 16] (fe_tup (fa_cons (fo_val (fe_call tk F_law_part_2 hr D_law_part_2.mg D_law_part_2.fn.kp D_law_part_2.b (fa_cons (fo_brw (i := 2)) (fa_cons (fo_val (fe_var (i := 14))) fa_nil)))) (fa_cons (fo_val (fe_call tk F_law_part_2 hr D_law_part_2.mg D_law_part_2.fn.kp D_law_part_2.b (fa_cons (fo_brw (i := 2)) (fa_cons (fo_val (fe_var (i := 15))) fa_nil)))) fa_nil))) (fg_tup (fgs_cons (fg_name 16 sc_law.nd) (fgs_cons (fg_name 17 sc_law.nd) fgs_nil)))) (fss_cons (fs_setF 10 (fe_call tk F_law_take hr D_law_take.mg D_law_take.fn.kp D_law_take.b (fa_cons (fo_brw (i := 2)) (fa_cons (fo_val (fe_var (i := 5))) fa_nil))) sc_law.nd) (fss_cons (fs_set 11 (fe_lst fa_nil) sc_law.nd) (fss_cons (fs_for [12] PassesOwn.leaving (fi_range1 (fa_cons (fo_val (fe_var (i := 14))) fa_nil) z_range) (fg_name 12 sc_law.nd) (fss_one (fs_expr (fe_ext 11 (fe_lc [18] (own := [("_law_j", 18)]) sc_law.nd (fi_range1 (fa_cons (fo_val (fe_var (i := 15))) fa_nil) z_range) (blkOk_by (own := [("_law_j", 18)]) (N := ["_law_script", "_law_k", "_law_box_here", "_law_p", "_law_some", "_law_many", "_law_scheme_here", "_law_task", "_law_due", "_law_other", "_law_place", "_law_terms_here", "_law_i", "_law_more", "_law_left", "_law_right", "_law_l", "_law_r", "_law_j"]) (sc := defScope s_law) (by decide +kernel)) (fun _ => (fg_name 18 sc_law.nd)) (fun _ => fts_nil) (fun _ => (fe_tup (fa_cons (fo_val (fe_var (i := 10))) (fa_cons (fo_val (fe_var (i := 12))) (fa_cons (fo_val (fe_var (i := 18))) (fa_cons (fo_val (fe_op fop_mulX (fo_val (fe_ix (hu_of hr) (fo_val (fe_var (i := 16))) (fo_val (fe_var (i := 12))))) (fo_val (fe_ix (hu_of hr) (fo_val (fe_var (i := 17))) (fo_val (fe_var (i := 18))))))) fa_nil))))))))))) (fss_cons (fs_setF 13 (fe_sl (fo_val (fe_frz (fe_call tk F_least_over hr D_least_over.mg D_least_over.fn.kp D_least_over.b (fa_cons (fo_val (fe_call tk F_law_put hr D_law_put.mg D_law_put.fn.kp D_law_put.b (fa_cons (fo_val (fe_tup (fa_cons (fo_val (fe_var (i := 14))) (fa_cons (fo_val (fe_var (i := 15))) (fa_cons (fo_val (fe_var (i := 5))) fa_nil))))) (fa_cons (fo_val (fe_op fop_add (fo_val (fe_ix (hu_of hr) (fo_val (fe_var (i := 7))) (fo_val fe_int))) (fo_brw (i := 11)))) fa_nil)))) (fa_cons (fo_val (fe_var (i := 3))) fa_nil))))) fp_none (fp_some fe_int)) sc_law.nd) (fss_one (fs_if (FW.ft (fw_and (ft_cmp (fop_eq hr.units) (fo_val (fe_ix (hu_of hr) (fo_val (fe_var (i := 13))) (fo_val fe_int))) (fo_val fe_str)) (fw_and (ft_cmp (fop_eq hr.units) (fo_val (fe_ix (hu_of hr) (fo_val (fe_var (i := 8))) (fo_val fe_int))) (fo_val fe_str)) (fw_and1 (ft_cmp fop_gt (fo_val (fe_callB fc_abs z_abs (by decide +kernel) (fa_cons (fo_val (fe_op fop_sub (fo_val (fe_ix (hu_of hr) (fo_val (fe_var (i := 13))) (fo_val fe_int))) (fo_val (fe_ix (hu_of hr) (fo_val (fe_var (i := 8))) (fo_val fe_int))))) fa_nil))) (fo_val fe_int)))))) (fss_one (fs_ret fe_bl)) fss_nil)))))))))))))))))) (fss_one (fs_ret fe_bl)))
structure Ad where
  f_rows_over : Addr
  fd_rows_over : FuncData
  f_pairs_over : Addr
  fd_pairs_over : FuncData
  f_pair_table : Addr
  fd_pair_table : FuncData
  f_task_tables : Addr
  fd_task_tables : FuncData
  f_less_times : Addr
  fd_less_times : FuncData
  f_first_place : Addr
  fd_first_place : FuncData
  f_what_is_left : Addr
  fd_what_is_left : FuncData
  f_grown_base : Addr
  fd_grown_base : FuncData
  f_base_of : Addr
  fd_base_of : FuncData
  f_lies_in : Addr
  fd_lies_in : FuncData
  f_many_sets : Addr
  fd_many_sets : FuncData
  f_all_sets : Addr
  fd_all_sets : FuncData
  f_Tables_init : Addr
  fd_Tables_init : FuncData
  f_Tables_with_set : Addr
  fd_Tables_with_set : FuncData
  f_Tables_pairs_in : Addr
  fd_Tables_pairs_in : FuncData
  f_with_single : Addr
  fd_with_single : FuncData
  f_scheme_by : Addr
  fd_scheme_by : FuncData
  f_least_over : Addr
  fd_least_over : FuncData
  f_law_cell_at : Addr
  fd_law_cell_at : FuncData
  f_law_mixed : Addr
  fd_law_mixed : FuncData
  f_law_box : Addr
  fd_law_box : FuncData
  f_law_take : Addr
  fd_law_take : FuncData
  f_law_part_2 : Addr
  fd_law_part_2 : FuncData
  f_law_scheme_2 : Addr
  fd_law_scheme_2 : FuncData
  f_law_sums_2 : Addr
  fd_law_sums_2 : FuncData
  f_law_terms : Addr
  fd_law_terms : FuncData
  f_law_number_2 : Addr
  fd_law_number_2 : FuncData
  f_law_places : Addr
  fd_law_places : FuncData
  f_law_put : Addr
  fd_law_put : FuncData
  f_law_others : Addr
  fd_law_others : FuncData
  f_law : Addr
  fd_law : FuncData
  t_MOST_SETS : Tok
  cv_Tables : Addr
structure Tb (K : PySem.W.Frag) (mg : Str → Option Value) (A : Ad) : Prop where
  D_rows_over : Df K mg "rows_over" s_rows_over ["length", "p"] A.f_rows_over A.fd_rows_over
  D_pairs_over : Df K mg "pairs_over" s_pairs_over ["left", "right", "p"] A.f_pairs_over A.fd_pairs_over
  D_pair_table : Df K mg "pair_table" s_pair_table ["pair", "p"] A.f_pair_table A.fd_pair_table
  D_task_tables : Df K mg "task_tables" s_task_tables ["task", "p"] A.f_task_tables A.fd_task_tables
  D_less_times : Df K mg "less_times" s_less_times ["table", "number", "other", "p"] A.f_less_times A.fd_less_times
  D_first_place : Df K mg "first_place" s_first_place ["table"] A.f_first_place A.fd_first_place
  D_what_is_left : Df K mg "what_is_left" s_what_is_left ["base", "table", "p"] A.f_what_is_left A.fd_what_is_left
  D_grown_base : Df K mg "grown_base" s_grown_base ["base", "table", "p"] A.f_grown_base A.fd_grown_base
  D_base_of : Df K mg "base_of" s_base_of ["tables", "p"] A.f_base_of A.fd_base_of
  D_lies_in : Df K mg "lies_in" s_lies_in ["base", "table", "p"] A.f_lies_in A.fd_lies_in
  D_many_sets : Df K mg "many_sets" s_many_sets ["many", "size"] A.f_many_sets A.fd_many_sets
  D_all_sets : Df K mg "all_sets" s_all_sets ["many", "size"] A.f_all_sets A.fd_all_sets
  D_Tables_init : DfM K "__init__" "Tables.__init__" s_Tables_init ["self", "task", "p"] A.f_Tables_init A.fd_Tables_init
  D_Tables_with_set : DfM K "with_set" "Tables.with_set" s_Tables_with_set ["self", "numbers"] A.f_Tables_with_set A.fd_Tables_with_set
  D_Tables_pairs_in : DfM K "pairs_in" "Tables.pairs_in" s_Tables_pairs_in ["self", "base"] A.f_Tables_pairs_in A.fd_Tables_pairs_in
  D_with_single : Df K mg "with_single" s_with_single ["table", "place", "size"] A.f_with_single A.fd_with_single
  D_scheme_by : Df K mg "scheme_by" s_scheme_by ["known", "numbers"] A.f_scheme_by A.fd_scheme_by
  D_least_over : Df K mg "least_over" s_least_over ["task", "p"] A.f_least_over A.fd_least_over
  D_law_cell_at : Df K mg "_law_cell_at" s_law_cell_at ["_law_script", "_law_k"] A.f_law_cell_at A.fd_law_cell_at
  D_law_mixed : Df K mg "_law_mixed" s_law_mixed ["_law_number_here", "_law_k"] A.f_law_mixed A.fd_law_mixed
  D_law_box : Df K mg "_law_box" s_law_box ["_law_script", "_law_k"] A.f_law_box A.fd_law_box
  D_law_take : Df K mg "_law_take" s_law_take ["_law_box_here", "_law_many"] A.f_law_take A.fd_law_take
  D_law_part_2 : Df K mg "_law_part" s_law_part_2 ["_law_box_here", "_law_length"] A.f_law_part_2 A.fd_law_part_2
  D_law_scheme_2 : Df K mg "_law_scheme" s_law_scheme_2 ["_law_box_here", "_law_lengths", "_law_count"] A.f_law_scheme_2 A.fd_law_scheme_2
  D_law_sums_2 : Df K mg "_law_sums" s_law_sums_2 ["_law_scheme_here"] A.f_law_sums_2 A.fd_law_sums_2
  D_law_terms : Df K mg "_law_terms" s_law_terms ["_law_sums_here"] A.f_law_terms A.fd_law_terms
  D_law_number_2 : Df K mg "_law_number" s_law_number_2 ["_law_box_here"] A.f_law_number_2 A.fd_law_number_2
  D_law_places : Df K mg "_law_places" s_law_places ["_law_box_here", "_law_many"] A.f_law_places A.fd_law_places
  D_law_put : Df K mg "_law_put" s_law_put ["_law_lengths", "_law_terms_here"] A.f_law_put A.fd_law_put
  D_law_others : Df K mg "_law_others" s_law_others ["_law_box_here", "_law_task", "_law_p"] A.f_law_others A.fd_law_others
  D_law : Df K mg "law" s_law ["_law_script"] A.f_law A.fd_law
  cl_Tables : Cls K A.cv_Tables
  na_Tables_base : NoAttr K A.cv_Tables "base"
  na_Tables_p : NoAttr K A.cv_Tables "p"
  na_Tables_pairs : NoAttr K A.cv_Tables "pairs"
  na_Tables_tables : NoAttr K A.cv_Tables "tables"
  na_Tables_task : NoAttr K A.cv_Tables "task"
  me_Tables_pairs_in : Meth K A.cv_Tables "pairs_in" A.f_Tables_pairs_in
  me_Tables_with_set : Meth K A.cv_Tables "with_set" A.f_Tables_with_set
  mk_Tables : Mk K A.cv_Tables A.f_Tables_init
  z_abs : mg "abs" = none
  z_dict : mg "dict" = none
  z_enumerate : mg "enumerate" = none
  z_int : mg "int" = none
  z_len : mg "len" = none
  z_list : mg "list" = none
  z_max : mg "max" = none
  z_min : mg "min" = none
  z_range : mg "range" = none
  z_sorted : mg "sorted" = none
  z_tuple : mg "tuple" = none
  z_zip : mg "zip" = none
  g_MOST_SETS : mg "MOST_SETS" = some (.int 3000 A.t_MOST_SETS)
  gc_Tables : mg "Tables" = some (.ref A.cv_Tables)
end
end K46
namespace Cm
open PySem PySem.Spec PyProof.Rows L2 FL
section
variable {N q : Nat}
theorem full_in {M : List Int → Prop} {p : Int} (hp : 0 < p) (hM : Sub N p M) (hu : ∀ i, i < N → M (sgV i N)) : ∀ v, Vec N p v → M v := by
  intro v hv
  have key : ∀ k, k ≤ N → M ((List.range N).map fun i => if i < k then v.getD i 0 else 0) := by
    intro k
    induction k with
    | zero =>
      intro _
      have e : ((List.range N).map fun i => if i < 0 then v.getD i 0 else 0) = Z N := by
        refine List.ext_getElem (by simp [Z]) fun i h1 h2 => ?_
        simp [Z]
      rw [e]; exact hM.z
    | succ k ih =>
      intro hk
      have := hM.ad (v.getD k 0) _ _ (ih (by omega)) (hu k (by omega))
      have e : ((List.range N).map fun i => if i < k + 1 then v.getD i 0 else 0) = ad p (v.getD k 0) ((List.range N).map fun i => if i < k then v.getD i 0 else 0) (sgV k N) := by
        refine ext_getD (by unfold ad; rw [List.length_zipWith, sgV_len]; simp) fun i => ?_
        rw [adp_get (by rw [sgV_len]; simp), sgV_get]
        by_cases hi : i < N
        · rw [List.getD_eq_getElem?_getD, List.getD_eq_getElem?_getD, List.getElem?_map, List.getElem?_map, List.getElem?_range hi]
          show (if i < k + 1 then v.getD i 0 else 0) = ((if i < k then v.getD i 0 else 0) + v.getD k 0 * (if i = k ∧ i < N then 1 else 0)) % p
          by_cases h1 : i < k
          · rw [if_pos (by omega), if_pos h1, if_neg (by omega), Int.mul_zero, Int.add_zero, hv.em hp]
          · by_cases h2 : i = k
            · subst h2
              rw [if_pos (by omega), if_neg h1, if_pos ⟨rfl, hi⟩, Int.mul_one, Int.zero_add, hv.em hp]
            · rw [if_neg (by omega), if_neg h1, if_neg (by omega)]; simp
        · rw [getD_ge (by simp; omega), getD_ge (by simp; omega), if_neg (by omega)]; simp
      rw [e]; exact this
  have := key N (Nat.le_refl _)
  have e : ((List.range N).map fun i => if i < N then v.getD i 0 else 0) = v := by
    refine ext_getD (by simp [hv.len]) fun i => ?_
    by_cases hi : i < N
    · rw [List.getD_eq_getElem?_getD, List.getElem?_map, List.getElem?_range hi]
      show (if i < N then v.getD i 0 else 0) = _
      rw [if_pos hi]
    · rw [getD_ge (by simp; omega), getD_ge (by rw [hv.len]; omega)]
  rw [e] at this; exact this
theorem sg_vec (hq : q = 2 ∨ q = 3) (i : Nat) : Vec N q (sgV i N) := ⟨sgV_len i N, fun x hx => by
  obtain ⟨j, _, rfl⟩ := List.mem_map.mp hx
  have : (if j = i then (1 : Int) else 0) = 1 ∨ (if j = i then (1 : Int) else 0) = 0 := by split <;> simp
  omega⟩
theorem rowsAll_mem : ∀ (n : Nat) {v : List Int}, Vec n q v → v ∈ rowsAll q n
  | 0, v, h => by rw [List.length_eq_zero_iff.mp h.len]; simp [rowsAll]
  | n + 1, v, h => by
    have hl := h.len
    have e : v = v.take n ++ [v.getD n 0] := by
      conv => lhs; rw [← List.take_append_drop n v]
      congr 1
      rw [List.getD_eq_getElem?_getD, List.getElem?_eq_getElem (by omega : n < v.length), List.drop_eq_getElem_cons (by omega : n < v.length), List.drop_eq_nil_of_le (by omega)]; rfl
    have hb : 0 ≤ v.getD n 0 ∧ v.getD n 0 < q := by
      rw [List.getD_eq_getElem?_getD, List.getElem?_eq_getElem (by omega : n < v.length)]
      exact h.bd _ (List.getElem_mem _)
    rw [e]
    refine List.mem_flatMap.mpr ⟨v.take n, rowsAll_mem n ⟨by rw [List.length_take]; omega, fun x hx => h.bd x (List.mem_of_mem_take hx)⟩, List.mem_map.mpr ⟨(v.getD n 0).toNat, List.mem_range.mpr (by omega), ?_⟩⟩
    rw [Int.toNat_of_nonneg hb.1]
theorem oneB_iff (r : List Int) : oneB r = true ↔ (r.filter fun x => decide (x ≠ 0)).head? = some 1 := by
  unfold oneB
  cases r.filter fun x => decide (x ≠ 0) with
  | nil => exact ⟨fun h => (by cases h), fun h => by cases h⟩
  | cons x l =>
    have e : cutL ((x :: l).map D.int) none (some 1) = [D.int x] := by
      rw [show (some (1 : Int)) = some ((1 : Nat) : Int) from rfl, cut_to (by simp)]; rfl
    rw [e]
    show _ ↔ some x = some 1
    by_cases hx : x = 1
    · subst hx; exact ⟨fun _ => rfl, fun _ => rfl⟩
    · refine ⟨fun h => ?_, fun h => absurd (Option.some.inj h) hx⟩
      exfalso; apply hx
      have h : (decide (x = 1) && true) = true := h
      simpa using h
theorem sg_head {i n : Nat} (h : i < n) : ((sgV i n).filter fun x => decide (x ≠ 0)).head? = some 1 := by
  unfold sgV
  rw [List.filter_map]
  have : ∀ x ∈ (List.range n).filter ((fun x : Int => decide (x ≠ 0)) ∘ fun h : Nat => if h = i then (1 : Int) else 0), x = i := fun x hx => by
    have := (List.mem_filter.mp hx).2
    simp at this; exact this
  cases e : (List.range n).filter ((fun x : Int => decide (x ≠ 0)) ∘ fun h : Nat => if h = i then (1 : Int) else 0) with
  | nil =>
    have : i ∈ (List.range n).filter ((fun x : Int => decide (x ≠ 0)) ∘ fun h : Nat => if h = i then (1 : Int) else 0) := List.mem_filter.mpr ⟨List.mem_range.mpr h, by simp⟩
    rw [e] at this; cases this
  | cons x l =>
    rw [e] at this
    have := this x List.mem_cons_self
    subst this
    simp
theorem sg_rows (hq : q = 2 ∨ q = 3) {i n : Nat} (h : i < n) : sgV i n ∈ rowsO q n := List.mem_filter.mpr ⟨rowsAll_mem n (sg_vec hq i), (oneB_iff _).mpr (sg_head h)⟩
theorem tabP_get {p : Int} {l r : List Int} {i j : Nat} (hi : i < l.length) (hj : j < r.length) : (tabP p (l, r)).getD (i * r.length + j) 0 = (l.getD i 0 * r.getD j 0) % p := by
  unfold tabP
  show (l.flatMap fun a => r.map fun b => a * b % p).getD (i * r.length + j) 0 = _
  induction l generalizing i with
  | nil => exact absurd hi (Nat.not_lt_zero _)
  | cons a l ih =>
    rw [List.flatMap_cons]
    cases i with
    | zero =>
      rw [Nat.zero_mul, Nat.zero_add, app_get_l (by rw [List.length_map]; exact hj), List.getD_eq_getElem?_getD, List.getElem?_map, List.getElem?_eq_getElem hj, List.getD_eq_getElem?_getD (l := r), List.getElem?_eq_getElem hj]; rfl
    | succ i =>
      have e : (i + 1) * r.length + j = (r.map fun b => a * b % p).length + (i * r.length + j) := by rw [List.length_map, Nat.succ_mul]; omega
      rw [e, app_get_r, ih (by simpa using hi)]; simp
theorem tabP_sg (hq : q = 2 ∨ q = 3) {a b i j : Nat} (hi : i < a) (hj : j < b) : tabP q (sgV i a, sgV j b) = sgV (i * b + j) (a * b) := by
  have hl := (tabP_vec hq (x := (sgV i a, sgV j b)) ⟨sg_vec hq i, sg_vec hq j⟩).len
  refine ext_getD (by rw [hl, sgV_len]) fun k => ?_
  by_cases hk : k < a * b
  · have hb : 0 < b := by omega
    have e : k = k / b * b + k % b := by rw [Nat.mul_comm]; exact (Nat.div_add_mod k b).symm
    have h1 : k / b < a := (Nat.div_lt_iff_lt_mul hb).mpr hk
    have h2 := Nat.mod_lt k hb
    have g := tabP_get (p := q) (l := sgV i a) (r := sgV j b) (i := k / b) (j := k % b) (by rw [sgV_len]; exact h1) (by rw [sgV_len]; exact h2)
    rw [sgV_len, ← e] at g
    rw [g, sgV_get, sgV_get, sgV_get]
    by_cases c1 : k / b = i
    · by_cases c2 : k % b = j
      · rw [if_pos ⟨c1, h1⟩, if_pos ⟨c2, h2⟩, if_pos ⟨by rw [e, c1, c2], hk⟩]
        rcases hq with rfl | rfl <;> rfl
      · rw [if_neg (fun h => c2 h.1 : ¬ (k % b = j ∧ k % b < b)), if_neg (fun h => c2 (by rw [h.1, Nat.mul_comm, Nat.mul_add_mod]; exact Nat.mod_eq_of_lt hj) : ¬ (k = i * b + j ∧ k < a * b))]; simp
    · rw [if_neg (fun h => c1 h.1 : ¬ (k / b = i ∧ k / b < a)), if_neg (fun h => c1 (by rw [h.1, Nat.mul_comm, Nat.mul_add_div hb, Nat.div_eq_of_lt hj]; rfl) : ¬ (k = i * b + j ∧ k < a * b))]; simp
  · rw [getD_ge (by rw [hl]; omega), getD_ge (by rw [sgV_len]; omega)]
theorem Ptb_sg (hq : q = 2 ∨ q = 3) {a b k : Nat} (hk : k < a * b) : sgV k (a * b) ∈ Ptb q a b := by
  have hb : 0 < b := by
    rcases Nat.eq_zero_or_pos b with rfl | h
    · rw [Nat.mul_zero] at hk; omega
    · exact h
  have e : k = k / b * b + k % b := by rw [Nat.mul_comm]; exact (Nat.div_add_mod k b).symm
  have h1 : k / b < a := (Nat.div_lt_iff_lt_mul hb).mpr hk
  have h2 := Nat.mod_lt k hb
  refine List.mem_map.mpr ⟨(sgV (k / b) a, sgV (k % b) b), List.mem_flatMap.mpr ⟨_, sg_rows hq h1, List.mem_map.mpr ⟨_, sg_rows hq h2, rfl⟩⟩, ?_⟩
  rw [tabP_sg hq h1 h2, ← e]
/-- the numbers of the pairs of single ones -/
theorem unit_nums (hq : q = 2 ∨ q = 3) (a b : Nat) : ∃ P : List Nat, (∀ n ∈ P, n < (Ptb q a b).length) ∧ P.length = a * b ∧ P.Nodup ∧ ∀ k, k < a * b → sgV k (a * b) ∈ tsOf (Ptb q a b) P := by
  have : ∀ k : Nat, ∃ n : Nat, k < a * b → n < (Ptb q a b).length ∧ (Ptb q a b).getD n [] = sgV k (a * b) := fun k => by
    by_cases hk : k < a * b
    · obtain ⟨n, h1, h2⟩ := getD_of_mem (Ptb_sg hq hk)
      exact ⟨n, fun _ => ⟨h1, h2⟩⟩
    · exact ⟨0, fun h => absurd h hk⟩
  obtain ⟨f, hf⟩ := Classical.axiomOfChoice this
  refine ⟨(List.range (a * b)).map f, fun n hn => ?_, by simp, ?_, fun k hk => ?_⟩
  · obtain ⟨k, hk, rfl⟩ := List.mem_map.mp hn
    exact (hf k (List.mem_range.mp hk)).1
  · refine List.pairwise_map.mpr ?_
    refine List.Pairwise.imp_of_mem (R := fun a b => a ≠ b) ?_ List.nodup_range
    intro k k' m1 m2 hne e
    have h1 := (hf k (List.mem_range.mp m1)).2
    have h2 := (hf k' (List.mem_range.mp m2)).2
    have e : f k = f k' := e
    rw [e, h2] at h1
    have := congrArg (fun l : List Int => l.getD k 0) h1
    simp only [sgV_get] at this
    rw [if_neg (fun h => hne h.1), if_pos ⟨trivial, List.mem_range.mp m1⟩] at this
    cases this
  · rw [← (hf k hk).2]
    exact mem_ts (List.mem_map.mpr ⟨k, List.mem_range.mpr hk, rfl⟩)
theorem many_ge (hq : q = 2 ∨ q = 3) (a b : Nat) : a * b ≤ (Ptb q a b).length := by
  obtain ⟨P, h1, h2, h3, _⟩ := unit_nums hq a b
  have := len_sub (ks := List.range (Ptb q a b).length) h3 fun n hn => List.mem_range.mpr (h1 n hn)
  rw [List.length_range] at this
  omega
theorem lst_N {a b : Nat} {D : List (List Int)} (d : CxD (a * b) q D (Ptb q a b)) : Lst (a * b) q (Ptb q a b) D (a * b) := by
  obtain ⟨P, h1, h2, h3, h4⟩ := unit_nums d.hq a b
  have s := d.c.sp0 h1
  exact ⟨P, h1, by omega, fun t ht => full_in d.c.pos (ker_sub d.c.pos s.gd.bo) (fun i hi => s.it _ (h4 i hi)) t (d.hD t ht)⟩
end
section
variable {a b m q n : Nat} {ts : List Cm.Tm}
theorem sets_in {S : List Nat} {n : Nat} (h : Ris n S) : S ∈ setsAt n S.length S.length := (ris_all h).2
theorem try_ok {B : List Row} {T : List (List Int)} {s : Nat} (h : OkN q B T s) : tryF q B T s ≠ none := by
  obtain ⟨S, h1, rfl, h3⟩ := h
  unfold tryF
  split
  · simp
  · intro e
    have e : (setsAt T.length S.length S.length).find? (okQ q B T) = none := by simpa using e
    have := List.find?_eq_none.mp e S (sets_in h1)
    rw [h3] at this
    exact this rfl
theorem leF_some (ok : TkB a b m q ts) : ∃ s y, (B0 a b m q ts).length + s ≤ a * b ∧ leF q (B0 a b m q ts) (Ptb q a b) = some (s, y) ∧ tryF q (B0 a b m q ts) (Ptb q a b) s = some (s, y) ∧ ∀ s', s' < s → tryF q (B0 a b m q ts) (Ptb q a b) s' = none := by
  obtain ⟨e, h1, h2⟩ := lst_le ok.cd (lst_N ok.cd)
  have h2 : (B0 a b m q ts).length + e ≤ a * b := h2
  have hM := many_ge ok.hq a b
  have key : ∀ k, k ≤ e + 1 → (∀ s', s' < k → tryF q (B0 a b m q ts) (Ptb q a b) s' = none) ∨ ∃ s y, s ≤ e ∧ tryF q (B0 a b m q ts) (Ptb q a b) s = some y ∧ ∀ s', s' < s → tryF q (B0 a b m q ts) (Ptb q a b) s' = none := by
    intro k
    induction k with
    | zero => exact fun _ => .inl fun s' h => absurd h (Nat.not_lt_zero _)
    | succ k ih =>
      intro hk
      rcases ih (by omega) with ih | ih
      · cases ek : tryF q (B0 a b m q ts) (Ptb q a b) k with
        | none =>
          left
          intro s' hs
          by_cases e' : s' = k
          · rw [e']; exact ek
          · exact ih s' (by omega)
        | some y => exact .inr ⟨k, y, by omega, ek, ih⟩
      · exact .inr ih
  rcases key (e + 1) (Nat.le_refl _) with h | ⟨s, y, hs, hy, h0⟩
  · exact absurd (h e (by omega)) (try_ok h1)
  · have ey : y.1 = s := by
      unfold tryF at hy
      split at hy
      · cases hy; rfl
      · obtain ⟨S, _, rfl⟩ := Option.map_eq_some_iff.mp hy; rfl
    obtain ⟨y1, y2⟩ := y
    cases ey
    exact ⟨y1, y2, by omega, leF_at (List.findSome?_eq_none_iff.mpr fun x hx => h0 x (List.mem_range.mp hx)) (by omega) hy, hy, h0⟩
end
end Cm
namespace Cm
open PySem PySem.Spec PyProof.Rows L2 FL
set_option maxHeartbeats 0
theorem Sp.vv {N q : Nat} {B : List Row} {K : List (List Int)} (h : Sp N q B K) : ∀ v ∈ K, Vec N q v := fun v hv => ((h.mem v).mp hv).vv
end Cm
namespace Cm
open PySem PySem.Spec PyProof.Rows L2 FL
theorem ij_eq {b i j i' j' : Nat} (hj : j < b) (hj' : j' < b) (h : i * b + j = i' * b + j') : i = i' ∧ j = j' := by
  have hb : 0 < b := by omega
  have e1 := congrArg (fun x => x / b) h
  have e2 := congrArg (fun x => x % b) h
  simp only [Nat.mul_comm _ b, Nat.mul_add_div hb, Nat.mul_add_mod, Nat.mod_eq_of_lt hj, Nat.mod_eq_of_lt hj', Nat.div_eq_of_lt hj, Nat.div_eq_of_lt hj', Nat.add_zero] at e1 e2
  exact ⟨e1, e2⟩
theorem tabs_snoc (a b m : Nat) (p : Int) (ts : List Cm.Tm) (t : Cm.Tm) : tabs a b m p (ts ++ [t]) = setT b p (tabs a b m p ts) t := by
  unfold tabs
  rw [List.foldl_append]; rfl
theorem set_get {l : List Int} {i k : Nat} {x : Int} (hi : i < l.length) : (l.set i x).getD k 0 = if k = i then x else l.getD k 0 := by
  rw [List.getD_eq_getElem?_getD, List.getElem?_set, List.getD_eq_getElem?_getD]
  by_cases h : i = k
  · subst h; rw [if_pos rfl, if_pos hi, if_pos rfl]; rfl
  · rw [if_neg h, if_neg (fun e => h e.symm)]
theorem setL_get {T : List (List Int)} {i k : Nat} {x : List Int} (hi : i < T.length) : (T.set i x).getD k [] = if k = i then x else T.getD k [] := by
  rw [List.getD_eq_getElem?_getD, List.getElem?_set, List.getD_eq_getElem?_getD]
  by_cases h : i = k
  · subst h; rw [if_pos rfl, if_pos hi, if_pos rfl]; rfl
  · rw [if_neg h, if_neg (fun e => h e.symm)]
theorem tabs_at {a b m : Nat} {p : Int} (hp : 0 < p) {k i j : Nat} (hk : k < m) (hi : i < a) (hj : j < b) : ∀ ts : List Cm.Tm, (∀ t ∈ ts, FTm t m a b) → (ts.map Cm.Tm.pl).Nodup → ((tabs a b m p ts).getD k []).getD (i * b + j) 0 = tsum ts [(k : Int), i, j] % p := by
  intro ts
  refine snoc_ind (C := fun ts => (∀ t ∈ ts, FTm t m a b) → (ts.map Cm.Tm.pl).Nodup → ((tabs a b m p ts).getD k []).getD (i * b + j) 0 = tsum ts [(k : Int), i, j] % p) (fun _ _ => ?_) (fun l t ih hf hn => ?_) ts
  · show ((List.replicate m (Z (a * b))).getD k []).getD (i * b + j) 0 = 0 % p
    rw [List.getD_eq_getElem?_getD (l := List.replicate m (Z (a * b))), List.getElem?_replicate, if_pos hk]
    show (Z (a * b)).getD (i * b + j) 0 = _
    rw [Z_get, Int.zero_emod]
  · rw [List.map_append, List.nodup_append] at hn
    have ih := ih (fun t h => hf t (List.mem_append_left _ h)) hn.1
    have f := hf t (by simp)
    have k0 := f.k0
    have i0 := f.i0
    have j0 := f.j0
    have k1 := f.k1
    have i1 := f.i1
    have j1 := f.j1
    have ok : TOk (a * b) m p (tabs a b m p l) := tabs_all hp fun t h => hf t (List.mem_append_left _ h)
    obtain ⟨K, hK⟩ : ∃ K : Nat, t.k = K := ⟨t.k.toNat, by omega⟩
    obtain ⟨I, hI⟩ : ∃ I : Nat, t.i = I := ⟨t.i.toNat, by omega⟩
    obtain ⟨J, hJ⟩ : ∃ J : Nat, t.j = J := ⟨t.j.toNat, by omega⟩
    have hIJ : I * b + J < a * b := by
      have : (I + 1) * b ≤ a * b := Nat.mul_le_mul_right _ (by omega)
      rw [Nat.add_mul] at this; omega
    have eIJ : (t.i * (b : Int) + t.j).toNat = I * b + J := by rw [hI, hJ, ← Int.natCast_mul, ← Int.natCast_add]; rfl
    have hKm : K < m := by omega
    rw [tabs_snoc, tsum_snoc]
    unfold setT
    rw [eIJ, hK, Int.toNat_natCast, setL_get (by rw [ok.1]; exact hKm)]
    by_cases e1 : k = K
    · subst e1
      rw [if_pos rfl, set_get (by rw [(ok.2 _ (mem_getD (by rw [ok.1]; exact hk))).len]; exact hIJ)]
      by_cases e2 : i * b + j = I * b + J
      · obtain ⟨rfl, rfl⟩ := ij_eq hj (by omega) e2
        have ep : t.pl = [(k : Int), i, j] := by show [t.k, t.i, t.j] = _; rw [hK, hI, hJ]
        rw [if_pos rfl, if_pos ep, tsum_out, Int.zero_add]
        rw [pls_distinct hn.1]
        exact fun hm => hn.2.2 _ hm _ (by simp) ep.symm
      · rw [if_neg e2, ih, if_neg (fun h => e2 ?_), Int.add_zero]
        have h : [t.k, t.i, t.j] = [(k : Int), i, j] := h
        simp only [List.cons.injEq, and_true] at h
        have : i = I := by omega
        have : j = J := by omega
        subst_vars; rfl
    · rw [if_neg e1, ih, if_neg (fun h => e1 ?_), Int.add_zero]
      have h : [t.k, t.i, t.j] = [(k : Int), i, j] := h
      simp only [List.cons.injEq, and_true] at h
      omega
section
variable {a b m q : Nat} {ts : List Cm.Tm}
/-- a scheme over q that does the tables -/
structure SolvB (a b m q : Nat) (ts : List Cm.Tm) (ps : List Pr) : Prop where
  sz : ∀ p ∈ ps, p.sz a b m
  bd : ∀ p ∈ ps, (∀ x ∈ p.l, 0 ≤ x ∧ x < (q : Int)) ∧ (∀ x ∈ p.r, 0 ≤ x ∧ x < (q : Int)) ∧ (∀ x ∈ p.o, 0 ≤ x ∧ x < (q : Int))
  eq : ∀ k i j, k < m → i < a → j < b → ((tabs a b m q ts).getD k []).getD (i * b + j) 0 = tel ps k i j % (q : Int)
theorem Sg_mod {α : Type} (p : Int) (f g : α → Int) : ∀ (l : List α), (∀ a ∈ l, f a % p = g a % p) → Sg l f % p = Sg l g % p
  | [], _ => rfl
  | a :: l, h => by
    rw [Sg_cons, Sg_cons, Int.add_emod, h a List.mem_cons_self, Sg_mod p f g l fun x hx => h x (List.mem_cons_of_mem _ hx), ← Int.add_emod]
theorem sol_ok (ok : TkB a b m q ts) {P : List Nat} (hP : ∀ n ∈ P, n < (Ptb q a b).length) (hl : (spB q [] (tsOf (Ptb q a b) P)).length = P.length) (hk : ∀ t ∈ tabs a b m q ts, Ker (a * b) q (spB q [] (tsOf (Ptb q a b) P)) t) :
    SolvB a b m q ts (solP q a b m ts P) := by
  have hq := ok.hq
  have pos : (0 : Int) < (q : Int) := by omega
  have tv := ok.tv
  have hTs := ok.c.tsv hP
  have lts : (tsOf (Ptb q a b) P).length = P.length := List.length_map _
  have hpl : (Ptb q a b).length = (pairsO q a b).length := List.length_map _
  have hpk : ∀ κ, κ < P.length → P.getD κ 0 < (pairsO q a b).length := fun κ h => by
    rw [← hpl, List.getD_eq_getElem?_getD, List.getElem?_eq_getElem h]
    exact hP _ (List.getElem_mem h)
  have hpm : ∀ κ, κ < P.length → (pairsO q a b).getD (P.getD κ 0) ([], []) ∈ pairsO q a b := fun κ h => by
    rw [List.getD_eq_getElem?_getD, List.getElem?_eq_getElem (hpk κ h)]
    exact List.getElem_mem _
  have hw : ∀ t ∈ tabs a b m q ts, (lfS q (a * b) (tsOf (Ptb q a b) P) t).length = a * b + P.length ∧ ∀ x, x < a * b → t.getD x 0 = (((List.range P.length).map fun κ => ((-(lfS q (a * b) (tsOf (Ptb q a b) P) t).getD (a * b + κ) 0) % (q : Int)) * ((tsOf (Ptb q a b) P).getD κ []).getD x 0).sum) % (q : Int) := fun t ht => by
    have := solve hq hTs (by rw [hl, lts]) (hk t ht) (w := lfS q (a * b) (tsOf (Ptb q a b) P) t) (by unfold lfS; rw [sg_Z])
    rw [lts] at this
    exact this
  have ho : ∀ t ∈ tabs a b m q ts, ∀ κ, κ < P.length → (outS q (a * b) (tsOf (Ptb q a b) P) t).getD κ 0 = (-(lfS q (a * b) (tsOf (Ptb q a b) P) t).getD (a * b + κ) 0) % (q : Int) := fun t ht κ hκ => by
    have hlen := (hw t ht).1
    unfold outS
    rw [List.getD_eq_getElem?_getD, List.getElem?_map, List.getElem?_drop, List.getD_eq_getElem?_getD, List.getElem?_eq_getElem (by omega)]; rfl
  refine ⟨fun p hp => ?_, fun p hp => ?_, fun k i j hk' hi hj => ?_⟩
  · obtain ⟨κ, hκ, rfl⟩ := List.mem_map.mp hp
    have hb := pairs_bd hq _ (hpm κ (List.mem_range.mp hκ))
    exact ⟨hb.1.len, hb.2.len, by show ((tabs a b m q ts).map _).length = m; rw [List.length_map, tv.1]⟩
  · obtain ⟨κ, hκ, rfl⟩ := List.mem_map.mp hp
    have hκ := List.mem_range.mp hκ
    have hb := pairs_bd hq _ (hpm κ hκ)
    refine ⟨hb.1.bd, hb.2.bd, fun x hx => ?_⟩
    obtain ⟨t, ht, rfl⟩ := List.mem_map.mp hx
    rw [ho t ht κ hκ]
    exact ⟨Int.emod_nonneg _ (by omega), Int.emod_lt_of_pos _ pos⟩
  · have hx : i * b + j < a * b := by
      have : (i + 1) * b ≤ a * b := Nat.mul_le_mul_right _ (by omega)
      rw [Nat.add_mul] at this; omega
    have htm : (tabs a b m q ts).getD k [] ∈ tabs a b m q ts := mem_getD (by rw [tv.1]; exact hk')
    rw [(hw _ htm).2 _ hx]
    unfold tel solP
    rw [Sg_map]
    show Sg (List.range P.length) _ % (q : Int) = _
    refine Sg_mod _ _ _ _ fun κ hκ => ?_
    have hκ := List.mem_range.mp hκ
    have hb := pairs_bd hq _ (hpm κ hκ)
    have e1 : (tsOf (Ptb q a b) P).getD κ [] = tabP q ((pairsO q a b).getD (P.getD κ 0) ([], [])) := by
      unfold tsOf Ptb
      rw [List.getD_eq_getElem?_getD, List.getElem?_map, List.getElem?_eq_getElem hκ]
      show ((pairsO q a b).map (tabP q)).getD P[κ] [] = _
      have e2 : P.getD κ 0 = P[κ] := by rw [List.getD_eq_getElem?_getD, List.getElem?_eq_getElem hκ]; rfl
      have h2 := hpk κ hκ
      rw [e2] at h2 ⊢
      rw [List.getD_eq_getElem?_getD, List.getElem?_map, List.getD_eq_getElem?_getD, List.getElem?_eq_getElem h2]; rfl
    have e3 : ((tabs a b m q ts).map fun t => (outS q (a * b) (tsOf (Ptb q a b) P) t).getD κ 0).getD k 0 = (outS q (a * b) (tsOf (Ptb q a b) P) ((tabs a b m q ts).getD k [])).getD κ 0 := by
      rw [List.getD_eq_getElem?_getD, List.getElem?_map, List.getD_eq_getElem?_getD (l := tabs a b m q ts), List.getElem?_eq_getElem (by rw [tv.1]; exact hk')]; rfl
    rw [← ho _ htm κ hκ, e1]
    generalize (pairsO q a b).getD (P.getD κ 0) ([], []) = x at hb ⊢
    have e4 := tabP_get (p := q) (l := x.1) (r := x.2) (i := i) (j := j) (by rw [hb.1.len]; exact hi) (by rw [hb.2.len]; exact hj)
    rw [hb.2.len] at e4
    rw [show tabP (q : Int) x = tabP q (x.1, x.2) from rfl, e4]
    unfold Pr.one
    dsimp only
    rw [e3]
    obtain ⟨z, ez⟩ := emd (x.1.getD i 0 * x.2.getD j 0) q
    rw [ez]
    refine emc (c := -z * (outS q (a * b) (tsOf (Ptb q a b) P) ((tabs a b m q ts).getD k [])).getD κ 0) ?_
    grind
theorem try_some {B : List Row} {T : List (List Int)} {s : Nat} {S : List Nat} (hs : s ≤ T.length) (h : tryF q B T s = some (s, some S)) : Ris T.length S ∧ S.length = s ∧ okQ q B T S = true := by
  unfold tryF at h
  split at h
  · cases h
  · obtain ⟨S', h1, h2⟩ := Option.map_eq_some_iff.mp h
    cases h2
    obtain ⟨h3, h4, _⟩ := sets_ok hs (Nat.le_refl _) S (List.mem_of_find?_eq_some h1)
    exact ⟨h4, h3, List.find?_some h1⟩
end
end Cm
namespace Cm
open PySem PySem.Spec PyProof.Rows L2 FL
section
variable {N q : Nat}
theorem filter_scl (hq : q = 2 ∨ q = 3) {c : Int} (hc : 0 ≤ c ∧ c < (q : Int)) (h0 : c ≠ 0) : ∀ {v : List Int}, (∀ x ∈ v, 0 ≤ x ∧ x < (q : Int)) → (v.map fun x => (c * x) % (q : Int)).filter (fun x => decide (x ≠ 0)) = (v.filter fun x => decide (x ≠ 0)).map fun x => (c * x) % (q : Int)
  | [], _ => rfl
  | x :: v, h => by
    have ih := filter_scl hq hc h0 (v := v) fun y hy => h y (List.mem_cons_of_mem _ hy)
    have hx := h x List.mem_cons_self
    rw [List.map_cons, List.filter_cons, List.filter_cons, ih]
    by_cases e : x = 0
    · subst e; simp
    · have : (c * x) % (q : Int) ≠ 0 := by
        rcases hq with rfl | rfl
        · have : c = 1 := by omega
          have : x = 1 := by omega
          subst_vars; decide
        · have : c = 1 ∨ c = 2 := by omega
          have : x = 1 ∨ x = 2 := by omega
          rcases ‹c = 1 ∨ c = 2› with rfl | rfl <;> rcases ‹x = 1 ∨ x = 2› with rfl | rfl <;> decide
      rw [if_pos (by simpa using this), if_pos (by simpa using e), List.map_cons]
/-- a row that isn't noughts is a multiple of one that begins with 1 -/
theorem norm_row (hq : q = 2 ∨ q = 3) {n : Nat} {v : List Int} (h : Vec n q v) : v = Z n ∨ ∃ (c : Int) (r : List Int), r ∈ rowsO q n ∧ c * c % (q : Int) = 1 ∧ v = r.map (fun x => (c * x) % (q : Int)) ∧ r = v.map fun x => (c * x) % (q : Int) := by
  have pos : (0 : Int) < (q : Int) := by omega
  cases e : v.filter fun x => decide (x ≠ 0) with
  | nil =>
    left
    refine List.ext_getElem (by simp [Z, h.len]) fun i h1 h2 => ?_
    have := List.filter_eq_nil_iff.mp e v[i] (List.getElem_mem h1)
    simp [Z]; simpa using this
  | cons c l =>
    right
    have hm : c ∈ v.filter fun x => decide (x ≠ 0) := by rw [e]; exact List.mem_cons_self
    obtain ⟨h1, h2⟩ := List.mem_filter.mp hm
    have h2 : c ≠ 0 := by simpa using h2
    have hc := h.bd c h1
    have cc : c * c % (q : Int) = 1 := by
      obtain ⟨d, hd⟩ := inv_ex hq hc h2
      rw [hd, Int.add_mul_emod_self_left]
      rcases hq with rfl | rfl <;> rfl
    refine ⟨c, v.map fun x => (c * x) % (q : Int), List.mem_filter.mpr ⟨rowsAll_mem n ⟨by rw [List.length_map, h.len], fun x hx => ?_⟩, (oneB_iff _).mpr ?_⟩, cc, ?_, rfl⟩
    · obtain ⟨y, _, rfl⟩ := List.mem_map.mp hx
      exact ⟨Int.emod_nonneg _ (by omega), Int.emod_lt_of_pos _ pos⟩
    · rw [filter_scl hq hc h2 h.bd, e]
      show some (c * c % (q : Int)) = some 1
      rw [cc]
    · rw [List.map_map]
      refine (List.map_id v).symm.trans (List.map_congr_left fun x hx => ?_)
      show x = (c * (c * x % (q : Int))) % (q : Int)
      have hx := h.bd x hx
      obtain ⟨d, hd⟩ := inv_ex hq hc h2
      obtain ⟨z, hz⟩ := emd (c * x) q
      rw [hz]
      refine (Int.emod_eq_of_lt hx.1 hx.2).symm.trans (emc (c := -d * x + c * z) ?_)
      have : c * (c * x - (q : Int) * z) = (c * c) * x - (q : Int) * (c * z) := by grind
      rw [this, hd]; grind
theorem tabP_Zl {p : Int} {a : Nat} {r : List Int} : tabP p (Z a, r) = Z (a * r.length) := by
  refine List.ext_getElem (by unfold tabP; rw [tabP_fl]; simp [Z]) fun i h1 h2 => ?_
  have : (tabP p (Z a, r))[i] ∈ tabP p (Z a, r) := List.getElem_mem h1
  generalize (tabP p (Z a, r))[i] = x at this
  obtain ⟨u, hu, hx⟩ := List.mem_flatMap.mp this
  obtain ⟨v, _, rfl⟩ := List.mem_map.mp hx
  rw [(List.mem_replicate.mp hu).2]; simp [Z]
theorem tabP_Zr {p : Int} {b : Nat} {l : List Int} : tabP p (l, Z b) = Z (l.length * b) := by
  refine List.ext_getElem (by unfold tabP; rw [tabP_fl]; simp [Z]) fun i h1 h2 => ?_
  have : (tabP p (l, Z b))[i] ∈ tabP p (l, Z b) := List.getElem_mem h1
  generalize (tabP p (l, Z b))[i] = x at this
  obtain ⟨u, hu, hx⟩ := List.mem_flatMap.mp this
  obtain ⟨v, hv, rfl⟩ := List.mem_map.mp hx
  have hv : v ∈ Z b := hv
  rw [(List.mem_replicate.mp hv).2]; simp [Z]
theorem map_get {f : Int → Int} (h0 : f 0 = 0) (v : List Int) (k : Nat) : (v.map f).getD k 0 = f (v.getD k 0) := by
  rw [List.getD_eq_getElem?_getD, List.getElem?_map, List.getD_eq_getElem?_getD]
  cases v[k]? with
  | none => exact h0.symm
  | some x => rfl
/-- the table of two rows is a multiple of a pair's -/
theorem tab_norm (hq : q = 2 ∨ q = 3) {a b : Nat} {l r : List Int} (hl : Vec a q l) (hr : Vec b q r) :
    tabP q (l, r) = Z (a * b) ∨ ∃ n c, n < (Ptb q a b).length ∧ tabP q (l, r) = ad q c (Z (a * b)) ((Ptb q a b).getD n []) ∧ (Ptb q a b).getD n [] = ad q c (Z (a * b)) (tabP q (l, r)) := by
  have pos : (0 : Int) < (q : Int) := by omega
  rcases norm_row hq hl with rfl | ⟨c, l', hl', cc, e1, e1'⟩
  · left; rw [tabP_Zl, hr.len]
  rcases norm_row hq hr with rfl | ⟨d, r', hr', dd, e2, e2'⟩
  · left; rw [tabP_Zr, hl.len]
  right
  have hm : tabP q (l', r') ∈ Ptb q a b := List.mem_map.mpr ⟨(l', r'), List.mem_flatMap.mpr ⟨l', hl', List.mem_map.mpr ⟨r', hr', rfl⟩⟩, rfl⟩
  obtain ⟨n, hn, en⟩ := getD_of_mem hm
  have vl' := rowsO_bd hq l' hl'
  have vr' := rowsO_bd hq r' hr'
  have key : ∀ (x x' y y' : List Int), Vec a q x → Vec a q x' → Vec b q y → Vec b q y' → x = x'.map (fun t => (c * t) % (q : Int)) → y = y'.map (fun t => (d * t) % (q : Int)) → tabP q (x, y) = ad q (c * d) (Z (a * b)) (tabP q (x', y')) := by
    intro x x' y y' vx vx' vy vy' ex ey
    have v1 := tabP_vec hq (x := (x, y)) ⟨vx, vy⟩
    have v2 := tabP_vec hq (x := (x', y')) ⟨vx', vy'⟩
    refine ext_getD (by rw [v1.len]; unfold ad; rw [List.length_zipWith, v2.len]; simp [Z]) fun k => ?_
    rw [adp_get (by rw [v2.len]; simp [Z]), Z_get, Int.zero_add]
    by_cases hk : k < a * b
    · have hb : 0 < b := by
        rcases Nat.eq_zero_or_pos b with rfl | h
        · rw [Nat.mul_zero] at hk; omega
        · exact h
      have e : k = k / b * b + k % b := by rw [Nat.mul_comm]; exact (Nat.div_add_mod k b).symm
      have h1 : k / b < a := (Nat.div_lt_iff_lt_mul hb).mpr hk
      have h2 := Nat.mod_lt k hb
      have g1 := tabP_get (p := q) (l := x) (r := y) (i := k / b) (j := k % b) (by rw [vx.len]; exact h1) (by rw [vy.len]; exact h2)
      have g2 := tabP_get (p := q) (l := x') (r := y') (i := k / b) (j := k % b) (by rw [vx'.len]; exact h1) (by rw [vy'.len]; exact h2)
      rw [vy.len, ← e] at g1
      rw [vy'.len, ← e] at g2
      rw [g1, g2, ex, ey, map_get (by simp), map_get (by simp)]
      generalize x'.getD (k / b) 0 = u
      generalize y'.getD (k % b) 0 = w
      obtain ⟨z1, hz1⟩ := emd (c * u) q
      obtain ⟨z2, hz2⟩ := emd (d * w) q
      obtain ⟨z3, hz3⟩ := emd (u * w) q
      rw [hz1, hz2, hz3]
      refine emc (c := -z1 * (d * w) - c * u * z2 + q * z1 * z2 + c * d * z3) ?_
      grind
    · rw [getD_ge (by rw [v1.len]; omega), getD_ge (v := tabP q (x', y')) (by rw [v2.len]; omega)]; simp
  refine ⟨n, c * d, hn, ?_, ?_⟩
  · rw [en]; exact key l l' r r' hl vl' hr vr' e1 e2
  · rw [en]; exact key l' l r' r vl' hl vr' hr e1' e2'
/-- pairs of rows, with numbers -/
abbrev LR := Int × (List Int × List Int)
structure LrB (a b q : Nat) (L : List LR) : Prop where
  l : ∀ x ∈ L, Vec a q x.2.1
  r : ∀ x ∈ L, Vec b q x.2.2
def cmbL (q : Int) (N : Nat) (L : List LR) : List Int := L.foldl (fun v x => ad q x.1 v (tabP q x.2)) (Z N)
theorem cmb_in {M : List Int → Prop} {p : Int} (hM : Sub N p M) : ∀ {L : List LR}, (∀ x ∈ L, M (tabP p x.2)) → M (cmbL p N L) := by
  intro L
  unfold cmbL
  have : ∀ (L : List LR) (v : List Int), M v → (∀ x ∈ L, M (tabP p x.2)) → M (L.foldl (fun v x => ad p x.1 v (tabP p x.2)) v) := by
    intro L
    induction L with
    | nil => exact fun v h _ => h
    | cons x L ih => exact fun v h hx => ih _ (hM.ad _ _ _ h (hx x List.mem_cons_self)) fun y hy => hx y (List.mem_cons_of_mem _ hy)
  exact this L _ hM.z
theorem cmb_snoc (p : Int) (L : List LR) (x : LR) : cmbL p N (L ++ [x]) = ad p x.1 (cmbL p N L) (tabP p x.2) := by
  unfold cmbL; rw [List.foldl_append]; rfl
theorem cmb_get (hq : q = 2 ∨ q = 3) {a b : Nat} {i j : Nat} (hi : i < a) (hj : j < b) (L : List LR) (h : LrB a b q L) : (cmbL q (a * b) L).length = a * b ∧ (cmbL q (a * b) L).getD (i * b + j) 0 = (Sg L fun x => x.1 * (x.2.1.getD i 0 * x.2.2.getD j 0)) % (q : Int) := by
  refine snoc_ind (C := fun L => LrB a b q L → (cmbL q (a * b) L).length = a * b ∧ (cmbL q (a * b) L).getD (i * b + j) 0 = (Sg L fun x => x.1 * (x.2.1.getD i 0 * x.2.2.getD j 0)) % (q : Int)) (fun _ => ⟨by simp [cmbL, Z], by show (Z (a * b)).getD _ 0 = _; rw [Z_get, Sg_nil]; simp⟩) (fun L x ih h => ?_) L h
  have ih := ih ⟨fun y hy => h.l y (List.mem_append_left _ hy), fun y hy => h.r y (List.mem_append_left _ hy)⟩
  have hl := h.l x (by simp)
  have hr := h.r x (by simp)
  have tv := tabP_vec hq (x := x.2) ⟨hl, hr⟩
  rw [cmb_snoc]
  refine ⟨by unfold ad; rw [List.length_zipWith, ih.1, tv.len]; omega, ?_⟩
  rw [adp_get (ih.1.trans tv.len.symm), ih.2, Sg_append, Sg_cons, Sg_nil]
  have g := tabP_get (p := q) (l := x.2.1) (r := x.2.2) (i := i) (j := j) (by rw [hl.len]; exact hi) (by rw [hr.len]; exact hj)
  rw [hr.len] at g
  rw [show tabP (q : Int) x.2 = tabP q (x.2.1, x.2.2) from rfl, g]
  generalize Sg L (fun x => x.1 * (x.2.1.getD i 0 * x.2.2.getD j 0)) = S
  generalize x.2.1.getD i 0 * x.2.2.getD j 0 = u
  obtain ⟨z1, hz1⟩ := emd S q
  obtain ⟨z2, hz2⟩ := emd u q
  rw [hz1, hz2]
  refine emc (c := -z1 - x.1 * z2) ?_
  grind
/-- numbers of pairs that tell the tables of such rows -/
theorem nums_of (hq : q = 2 ∨ q = 3) {a b : Nat} : ∀ (L : List LR), LrB a b q L → ∃ P : List Nat, (∀ n ∈ P, n < (Ptb q a b).length) ∧ P.length ≤ L.length ∧ ∀ M, Sub (a * b) q M → (∀ n ∈ P, M ((Ptb q a b).getD n [])) → ∀ x ∈ L, M (tabP q x.2)
  | [], _ => ⟨[], fun _ h => (by cases h), Nat.le_refl _, fun _ _ _ _ h => by cases h⟩
  | x :: L, h => by
    obtain ⟨P, h1, h2, h3⟩ := nums_of hq L ⟨fun y hy => h.l y (List.mem_cons_of_mem _ hy), fun y hy => h.r y (List.mem_cons_of_mem _ hy)⟩
    rcases tab_norm hq (h.l x List.mem_cons_self) (h.r x List.mem_cons_self) with e | ⟨n, c, hn, e, _⟩
    · refine ⟨P, h1, by rw [List.length_cons]; omega, fun M hM hP y hy => ?_⟩
      rcases List.mem_cons.mp hy with rfl | hy
      · rw [show tabP (q : Int) y.2 = tabP q (y.2.1, y.2.2) from rfl, e]; exact hM.z
      · exact h3 M hM hP y hy
    · refine ⟨n :: P, fun k hk => ?_, by rw [List.length_cons, List.length_cons]; omega, fun M hM hP y hy => ?_⟩
      · rcases List.mem_cons.mp hk with rfl | hk
        · exact hn
        · exact h1 k hk
      · rcases List.mem_cons.mp hy with rfl | hy
        · rw [show tabP (q : Int) y.2 = tabP q (y.2.1, y.2.2) from rfl, e]
          exact hM.ad _ _ _ hM.z (hP n List.mem_cons_self)
        · exact h3 M hM (fun k hk => hP k (List.mem_cons_of_mem _ hk)) y hy
/-- the rows of a base tell what it tells -/
theorem ker_rows {B : List Row} {M : List Int → Prop} {p : Int} (hp : 0 < p) (hM : Sub N p M) (hB : BOk N p B) (h : ∀ b ∈ B, M b.2) : ∀ v, Ker N p B v → M v := by
  intro v hv
  have : ∀ (B : List Row) (v : List Int), BOk N p B → (∀ b ∈ B, M b.2) → Vec N p v → M (leftB p B v) → M v := by
    intro B
    induction B with
    | nil => exact fun v _ _ _ h => h
    | cons b B ih =>
      intro v hB h hv hl
      have hb := (hB b List.mem_cons_self).2
      have sv := step_vec hp hb hv.len
      have := hM.ad (v.getD b.1 0) _ _ (ih (stepB p v b) (fun x hx => hB x (List.mem_cons_of_mem _ hx)) (fun x hx => h x (List.mem_cons_of_mem _ hx)) sv hl) (h b List.mem_cons_self)
      have e : ad p (v.getD b.1 0) (stepB p v b) b.2 = v := by
        refine ext_getD ((ad_vec hp sv.len hb.len).len.trans hv.len.symm) fun k => ?_
        rw [adp_get (sv.len.trans hb.len.symm)]
        unfold stepB
        rw [adp_get (hv.len.trans hb.len.symm)]
        obtain ⟨z, hz⟩ := emd (v.getD k 0 + -v.getD b.1 0 * b.2.getD k 0) p
        rw [hz]
        refine (emc (b := v.getD k 0) (c := -z) (by grind)).trans (hv.em hp k)
      rw [e] at this; exact this
  exact this B v hB h hv.vv (by rw [hv.z]; exact hM.z)
end
end Cm
namespace Cm
open PySem PySem.Spec PyProof.Rows L2 FL
section
variable {a b m q : Nat} {D : List (List Int)}
/-- products that do these tables but for multiples of q -/
structure DoM (a b m q : Nat) (D : List (List Int)) (ps : List Pr) : Prop where
  sz : ∀ p ∈ ps, p.sz a b m
  eq : ∀ k i j, k < m → i < a → j < b → (D.getD k []).getD (i * b + j) 0 = tel ps k i j % (q : Int)
theorem lst_lr (d : CxD (a * b) q D (Ptb q a b)) (L : List LR) (hL : LrB a b q L) (h : ∀ t ∈ D, ∀ M, Sub (a * b) q M → (∀ x ∈ L, M (tabP q x.2)) → M t) : Lst (a * b) q (Ptb q a b) D L.length := by
  obtain ⟨P, h1, h2, h3⟩ := nums_of d.hq L hL
  have s := d.c.sp0 h1
  exact ⟨P, h1, h2, fun t ht => h t ht _ (ker_sub d.c.pos s.gd.bo) (h3 _ (ker_sub d.c.pos s.gd.bo) fun n hn => s.it _ (mem_ts hn))⟩
def emV (q : Nat) (v : List Int) : List Int := v.map fun x => x % (q : Int)
theorem emV_vec {n : Nat} (hq : q = 2 ∨ q = 3) {v : List Int} (h : v.length = n) : Vec n q (emV q v) := ⟨by unfold emV; rw [List.length_map, h], fun x hx => by
  obtain ⟨y, _, rfl⟩ := List.mem_map.mp hx
  exact ⟨Int.emod_nonneg _ (by omega), Int.emod_lt_of_pos _ (by omega)⟩⟩
theorem does_lst (d : CxD (a * b) q D (Ptb q a b)) (hm : D.length = m) {ps : List Pr} (h : DoM a b m q D ps) : Lst (a * b) q (Ptb q a b) D ps.length := by
  have hq := d.hq
  have hL : ∀ k : Nat, LrB a b q (ps.map fun p => (p.o.getD k 0, (emV q p.l, emV q p.r))) := fun k => ⟨fun x hx => by
    obtain ⟨p, hp, rfl⟩ := List.mem_map.mp hx
    exact emV_vec hq (h.sz p hp).l, fun x hx => by
    obtain ⟨p, hp, rfl⟩ := List.mem_map.mp hx
    exact emV_vec hq (h.sz p hp).r⟩
  have hl : ps.length = (ps.map fun p : Pr => (p.o.getD 0 0, (emV q p.l, emV q p.r))).length := by rw [List.length_map]
  rw [hl]
  refine lst_lr d _ (hL 0) fun t ht M hM hx => ?_
  obtain ⟨k, hk, rfl⟩ := getD_of_mem ht
  have hk' : k < m := by omega
  have hin : M (cmbL q (a * b) (ps.map fun p => (p.o.getD k 0, (emV q p.l, emV q p.r)))) := cmb_in hM fun x hx' => by
    obtain ⟨p, hp, rfl⟩ := List.mem_map.mp hx'
    exact hx (p.o.getD 0 0, (emV q p.l, emV q p.r)) (List.mem_map.mpr ⟨p, hp, rfl⟩)
  have e : D.getD k [] = cmbL q (a * b) (ps.map fun p => (p.o.getD k 0, (emV q p.l, emV q p.r))) := by
    have lD := (d.hD _ (mem_getD hk)).len
    have lc := (hM.vv _ hin).len
    refine ext_getD (lD.trans lc.symm) fun x => ?_
    by_cases hx : x < a * b
    · have hb : 0 < b := by
        rcases Nat.eq_zero_or_pos b with rfl | h
        · rw [Nat.mul_zero] at hx; omega
        · exact h
      have e : x = x / b * b + x % b := by rw [Nat.mul_comm]; exact (Nat.div_add_mod x b).symm
      have h1 : x / b < a := (Nat.div_lt_iff_lt_mul hb).mpr hx
      have h2 := Nat.mod_lt x hb
      rw [e, h.eq k _ _ hk' h1 h2, (cmb_get hq h1 h2 _ (hL k)).2, Sg_map]
      refine Sg_mod _ _ _ _ fun p hp => ?_
      unfold Pr.one emV
      dsimp only
      rw [map_get (by simp), map_get (by simp)]
      generalize p.l.getD (x / b) 0 = u
      generalize p.r.getD (x % b) 0 = w
      obtain ⟨z1, hz1⟩ := emd u q
      obtain ⟨z2, hz2⟩ := emd w q
      rw [hz1, hz2]
      refine emc (c := p.o.getD k 0 * (z1 * w + u * z2 - q * z1 * z2)) ?_
      grind
    · rw [getD_ge (by omega), getD_ge (by omega)]
  rw [e]; exact hin
/-- by rows -/
def rowV (b : Nat) (v : List Int) (i : Nat) : List Int := (List.range b).map fun j => v.getD (i * b + j) 0
def colV (a b : Nat) (v : List Int) (j : Nat) : List Int := (List.range a).map fun i => v.getD (i * b + j) 0
theorem rg_get {n k : Nat} {f : Nat → Int} (h : k < n) : ((List.range n).map f).getD k 0 = f k := by
  rw [List.getD_eq_getElem?_getD, List.getElem?_map, List.getElem?_range h]; rfl
theorem rowV_vec (hq : q = 2 ∨ q = 3) {v : List Int} (hv : Vec (a * b) q v) (i : Nat) : Vec b q (rowV b v i) := ⟨by simp [rowV], fun x hx => by
  obtain ⟨j, _, rfl⟩ := List.mem_map.mp hx
  exact hv.at (by omega) _⟩
theorem colV_vec (hq : q = 2 ∨ q = 3) {v : List Int} (hv : Vec (a * b) q v) (j : Nat) : Vec a q (colV a b v j) := ⟨by simp [colV], fun x hx => by
  obtain ⟨i, _, rfl⟩ := List.mem_map.mp hx
  exact hv.at (by omega) _⟩
def byRows (a b : Nat) (v : List Int) : List LR := (List.range a).map fun i => (1, (sgV i a, rowV b v i))
def byCols (a b : Nat) (v : List Int) : List LR := (List.range b).map fun j => (1, (colV a b v j, sgV j b))
theorem byRows_ok (hq : q = 2 ∨ q = 3) {v : List Int} (hv : Vec (a * b) q v) : LrB a b q (byRows a b v) ∧ ∀ M, Sub (a * b) q M → (∀ x ∈ byRows a b v, M (tabP q x.2)) → M v := by
  have hL : LrB a b q (byRows a b v) := ⟨fun x hx => by
    obtain ⟨i, _, rfl⟩ := List.mem_map.mp hx
    exact sg_vec hq i, fun x hx => by
    obtain ⟨i, _, rfl⟩ := List.mem_map.mp hx
    exact rowV_vec hq hv i⟩
  refine ⟨hL, fun M hM hx => ?_⟩
  have hin := cmb_in hM hx
  have e : v = cmbL q (a * b) (byRows a b v) := by
    refine ext_getD (hv.len.trans (hM.vv _ hin).len.symm) fun x => ?_
    by_cases hx : x < a * b
    · have hb : 0 < b := by
        rcases Nat.eq_zero_or_pos b with rfl | h
        · rw [Nat.mul_zero] at hx; omega
        · exact h
      have e : x = x / b * b + x % b := by rw [Nat.mul_comm]; exact (Nat.div_add_mod x b).symm
      have h1 : x / b < a := (Nat.div_lt_iff_lt_mul hb).mpr hx
      have h2 := Nat.mod_lt x hb
      have := (cmb_get hq h1 h2 _ hL).2
      rw [← e] at this
      rw [this]
      unfold byRows
      rw [Sg_map]
      have e3 : (Sg (List.range a) fun i => (1 : Int) * ((sgV i a).getD (x / b) 0 * (rowV b v i).getD (x % b) 0)) = v.getD x 0 := by
        rw [Sg_congr (g := fun i => if i = x / b then v.getD x 0 else 0) fun i hi => ?_, Sg_at h1]
        rw [sgV_get]
        by_cases c : x / b = i
        · subst c
          rw [if_pos ⟨rfl, h1⟩, if_pos rfl]
          unfold rowV
          rw [rg_get h2, ← e]; omega
        · rw [if_neg (fun h => c h.1), if_neg (fun h => c h.symm)]; omega
      rw [e3, hv.em (by omega)]
    · rw [getD_ge (by rw [hv.len]; omega), getD_ge (by rw [(hM.vv _ hin).len]; omega)]
  rw [e]; exact hin
theorem byCols_ok (hq : q = 2 ∨ q = 3) {v : List Int} (hv : Vec (a * b) q v) : LrB a b q (byCols a b v) ∧ ∀ M, Sub (a * b) q M → (∀ x ∈ byCols a b v, M (tabP q x.2)) → M v := by
  have hL : LrB a b q (byCols a b v) := ⟨fun x hx => by
    obtain ⟨i, _, rfl⟩ := List.mem_map.mp hx
    exact colV_vec hq hv i, fun x hx => by
    obtain ⟨i, _, rfl⟩ := List.mem_map.mp hx
    exact sg_vec hq i⟩
  refine ⟨hL, fun M hM hx => ?_⟩
  have hin := cmb_in hM hx
  have e : v = cmbL q (a * b) (byCols a b v) := by
    refine ext_getD (hv.len.trans (hM.vv _ hin).len.symm) fun x => ?_
    by_cases hx : x < a * b
    · have hb : 0 < b := by
        rcases Nat.eq_zero_or_pos b with rfl | h
        · rw [Nat.mul_zero] at hx; omega
        · exact h
      have e : x = x / b * b + x % b := by rw [Nat.mul_comm]; exact (Nat.div_add_mod x b).symm
      have h1 : x / b < a := (Nat.div_lt_iff_lt_mul hb).mpr hx
      have h2 := Nat.mod_lt x hb
      have := (cmb_get hq h1 h2 _ hL).2
      rw [← e] at this
      rw [this]
      unfold byCols
      rw [Sg_map]
      have e3 : (Sg (List.range b) fun j => (1 : Int) * ((colV a b v j).getD (x / b) 0 * (sgV j b).getD (x % b) 0)) = v.getD x 0 := by
        rw [Sg_congr (g := fun i => if i = x % b then v.getD x 0 else 0) fun i hi => ?_, Sg_at h2]
        rw [sgV_get]
        by_cases c : x % b = i
        · subst c
          rw [if_pos ⟨rfl, h2⟩, if_pos rfl]
          unfold colV
          rw [rg_get h1, ← e]; omega
        · rw [if_neg (fun h => c h.1), if_neg (fun h => c h.symm)]; omega
      rw [e3, hv.em (by omega)]
    · rw [getD_ge (by rw [hv.len]; omega), getD_ge (by rw [(hM.vv _ hin).len]; omega)]
  rw [e]; exact hin
theorem lst_by {n : Nat} (d : CxD (a * b) q D (Ptb q a b)) (f : List Int → List LR) (hn : ∀ v, (f v).length = n) (hf : ∀ v, Vec (a * b) q v → LrB a b q (f v) ∧ ∀ M, Sub (a * b) q M → (∀ x ∈ f v, M (tabP q x.2)) → M v) : Lst (a * b) q (Ptb q a b) D ((spB q [] D).length * n) := by
  have sD := sp_ok d.hq (gd_nil (N := a * b) (q := q) (by have := d.hq; omega)) d.hD
  have bo := sD.gd.bo
  have hl : ((spB q [] D).flatMap fun b => f b.2).length = (spB q [] D).length * n := by
    induction spB q [] D with
    | nil => simp
    | cons x l ih => rw [List.flatMap_cons, List.length_append, ih, hn, List.length_cons, Nat.succ_mul]; omega
  rw [← hl]
  refine lst_lr d _ ⟨fun x hx => ?_, fun x hx => ?_⟩ fun t ht M hM hx => ?_
  · obtain ⟨y, hy, hx⟩ := List.mem_flatMap.mp hx
    exact (hf _ (bo y hy).2).1.l x hx
  · obtain ⟨y, hy, hx⟩ := List.mem_flatMap.mp hx
    exact (hf _ (bo y hy).2).1.r x hx
  · refine ker_rows d.c.pos hM bo (fun y hy => ?_) t (sD.it t ht)
    exact (hf _ (bo y hy).2).2 M hM fun x hxx => hx x (List.mem_flatMap.mpr ⟨y, hy, hxx⟩)
theorem lst_rows (d : CxD (a * b) q D (Ptb q a b)) : Lst (a * b) q (Ptb q a b) D ((spB q [] D).length * a) := lst_by d (byRows a b) (fun v => by simp [byRows]) fun v hv => byRows_ok d.hq hv
theorem lst_cols (d : CxD (a * b) q D (Ptb q a b)) : Lst (a * b) q (Ptb q a b) D ((spB q [] D).length * b) := lst_by d (byCols a b) (fun v => by simp [byCols]) fun v hv => byCols_ok d.hq hv
end
end Cm
namespace Cm
open PySem PySem.Spec PyProof.Rows L2 FL
end Cm
namespace Cm
open PySem PySem.Spec PyProof.Rows L2 FL
end Cm
set_option maxHeartbeats 0
namespace Cm
open PySem PySem.Spec PyProof.Rows L2 FL
end Cm
namespace Cm
open PySem PySem.Spec PyProof.Rows L2 FL
set_option maxHeartbeats 0
end Cm
namespace Cm
open PySem PySem.Spec PyProof.Rows L2 FL
section
variable {a b m q : Nat} {ts : List Cm.Tm}
theorem lst_min (ok : TkB a b m q ts) {s : Nat} (h0 : ∀ s', s' < s → tryF q (B0 a b m q ts) (Ptb q a b) s' = none) {r : Nat} (h : Lst (a * b) q (Ptb q a b) (tabs a b m q ts) r) : (B0 a b m q ts).length + s ≤ r := by
  obtain ⟨e, h1, h2⟩ := lst_le ok.cd h
  have h2 : (B0 a b m q ts).length + e ≤ r := h2
  have h1 : OkN q (B0 a b m q ts) (Ptb q a b) e := h1
  by_cases hs : e < s
  · exact absurd (h0 e hs) (try_ok h1)
  · omega
theorem lst_some (ok : TkB a b m q ts) {s : Nat} {S : List Nat} (hs : s ≤ (Ptb q a b).length) (h : tryF q (B0 a b m q ts) (Ptb q a b) s = some (s, some S)) : Lst (a * b) q (Ptb q a b) (tabs a b m q ts) ((B0 a b m q ts).length + s) := by
  obtain ⟨h1, h2, h3⟩ := try_some hs h
  exact ok_lst' ok.cd ⟨S, h1, h2, h3⟩
/-- how many more at most -/
theorem more_le (ok : TkB a b m q ts) {s : Nat} (h0 : ∀ s', s' < s → tryF q (B0 a b m q ts) (Ptb q a b) s' = none) : (B0 a b m q ts).length + s ≤ (B0 a b m q ts).length * a ∧ (B0 a b m q ts).length + s ≤ (B0 a b m q ts).length * b ∧ (B0 a b m q ts).length + s ≤ a * b :=
  ⟨lst_min ok h0 (lst_rows ok.cd), lst_min ok h0 (lst_cols ok.cd), lst_min ok h0 (lst_N ok.cd)⟩
/-- never open, where few more do -/
theorem never_open (ok : TkB a b m q ts) {s : Nat} {y : Option (List Nat)} (hty : tryF q (B0 a b m q ts) (Ptb q a b) s = some (s, y)) (hms : msF (Ptb q a b).length s ≤ 3000) : ∃ S, y = some S := by
  unfold tryF at hty
  rw [if_neg (by omega)] at hty
  obtain ⟨S, _, h⟩ := Option.map_eq_some_iff.mp hty
  cases h
  exact ⟨S, rfl⟩
end
theorem rowsO_len1 : (rowsO 2 1).length = 1 ∧ (rowsO 2 2).length = 3 ∧ (rowsO 2 3).length = 7 ∧ (rowsO 2 4).length = 15 ∧ (rowsO 3 1).length = 1 ∧ (rowsO 3 2).length = 4 ∧ (rowsO 3 3).length = 13 := by decide +kernel
theorem ptb_len (q a b : Nat) : (Ptb q a b).length = (rowsO q a).length * (rowsO q b).length := by
  unfold Ptb pairsO
  rw [List.length_map, Cm.pairs_len]
end Cm
namespace Cm
open PySem PySem.Spec PyProof.Rows L2 FL
/-- so many products do f but for multiples of q -/
def RkF (a b m q : Nat) (f : List Int → Int) (r : Nat) : Prop := ∃ ps : List Pr, ps.length ≤ r ∧ (∀ p ∈ ps, p.sz a b m) ∧ ∀ k i j : Nat, k < m → i < a → j < b → f [(k : Int), i, j] % (q : Int) = tel ps k i j % (q : Int)
section
variable {a b m q r : Nat} {ts : List Cm.Tm} {f g : List Int → Int}
theorem rk_lst (ok : TkB a b m q ts) (nd : (ts.map Cm.Tm.pl).Nodup) : Lst (a * b) q (Ptb q a b) (tabs a b m q ts) r ↔ RkF a b m q (tsum ts) r := by
  have pos : (0 : Int) < (q : Int) := by have := ok.hq; omega
  have at' : ∀ k i j, k < m → i < a → j < b → ((tabs a b m q ts).getD k []).getD (i * b + j) 0 = tsum ts [(k : Int), i, j] % (q : Int) := fun k i j hk hi hj => tabs_at pos hk hi hj ts ok.ft nd
  constructor
  · intro h
    obtain ⟨S, h1, h2, h3⟩ := lst_ok ok.cd h
    obtain ⟨P, _, h4, h5, h6, h7⟩ := tol_pairs ok.c h1.lt ((okQ_iff ok.c h1.lt).mp h3)
    have sv := sol_ok ok h4.lt h6 fun t ht => (h7 t).mpr ((ok.c.sp h1.lt).up t ((sp_ok ok.hq (gd_nil (by have := ok.hq; omega)) ok.tv.2).it t ht))
    have hle := (ok.c.sp h1.lt).le.2
    unfold tsOf at hle
    rw [List.length_map] at hle
    have hle : (baseS q (B0 a b m q ts) (Ptb q a b) S).length ≤ (B0 a b m q ts).length + S.length := hle
    have h2 : S.length + (B0 a b m q ts).length ≤ r := h2
    refine ⟨solP q a b m ts P, by unfold solP; rw [List.length_map, List.length_range]; omega, sv.sz, fun k i j hk hi hj => ?_⟩
    rw [← at' k i j hk hi hj, sv.eq k i j hk hi hj]
  · rintro ⟨ps, h1, h2, h3⟩
    obtain ⟨P, p1, p2, p3⟩ := does_lst (m := m) ok.cd ok.tv.1 (ps := ps) ⟨h2, fun k i j hk hi hj => by rw [at' k i j hk hi hj, h3 k i j hk hi hj]⟩
    exact ⟨P, p1, by omega, p3⟩
theorem rk_congr (h : ∀ k i j : Nat, k < m → i < a → j < b → f [(k : Int), i, j] % (q : Int) = g [(k : Int), i, j] % (q : Int)) (hr : RkF a b m q f r) : RkF a b m q g r := by
  obtain ⟨ps, h1, h2, h3⟩ := hr
  exact ⟨ps, h1, h2, fun k i j hk hi hj => by rw [← h k i j hk hi hj]; exact h3 k i j hk hi hj⟩
theorem tel_map (ps : List Pr) (F : Pr → Pr) (k i j k' i' j' : Nat) (s : Int) (h : ∀ p ∈ ps, (F p).one k i j = s * p.one k' i' j') : tel (ps.map F) k i j = s * tel ps k' i' j' := by
  unfold tel
  rw [Sg_map, Sg_mul]
  exact Sg_congr h
/-- places taken elsewhere -/
theorem rk_pull {a' b' m' : Nat} {γ α β : Nat → Nat} (hγ : ∀ k, k < m' → γ k < m) (hα : ∀ i, i < a' → α i < a) (hβ : ∀ j, j < b' → β j < b)
    (h : ∀ k i j : Nat, k < m' → i < a' → j < b' → g [(k : Int), i, j] % (q : Int) = f [(γ k : Int), α i, β j] % (q : Int)) (hr : RkF a b m q f r) : RkF a' b' m' q g r := by
  obtain ⟨ps, h1, h2, h3⟩ := hr
  refine ⟨ps.map fun p => ⟨(List.range a').map fun i => p.l.getD (α i) 0, (List.range b').map fun j => p.r.getD (β j) 0, (List.range m').map fun k => p.o.getD (γ k) 0⟩, by rw [List.length_map]; exact h1, fun p hp => ?_, fun k i j hk hi hj => ?_⟩
  · obtain ⟨p, _, rfl⟩ := List.mem_map.mp hp
    exact ⟨by simp, by simp, by simp⟩
  · rw [h k i j hk hi hj, h3 _ _ _ (hγ k hk) (hα i hi) (hβ j hj), tel_map ps _ k i j (γ k) (α i) (β j) 1 fun p _ => ?_, Int.one_mul]
    unfold Pr.one
    dsimp only
    rw [rg_get hk, rg_get hi, rg_get hj, Int.one_mul]
/-- left and right exchanged -/
theorem rk_exch (h : ∀ k i j : Nat, k < m → i < b → j < a → g [(k : Int), i, j] % (q : Int) = f [(k : Int), j, i] % (q : Int)) (hr : RkF a b m q f r) : RkF b a m q g r := by
  obtain ⟨ps, h1, h2, h3⟩ := hr
  refine ⟨ps.map fun p => ⟨p.r, p.l, p.o⟩, by rw [List.length_map]; exact h1, fun p hp => ?_, fun k i j hk hi hj => ?_⟩
  · obtain ⟨w, hw, e⟩ := List.mem_map.mp hp
    rw [← e]
    exact ⟨(h2 w hw).r, (h2 w hw).l, (h2 w hw).o⟩
  · rw [h k i j hk hi hj, h3 k j i hk hj hi, tel_map ps _ k i j k j i 1 fun p _ => ?_, Int.one_mul]
    unfold Pr.one
    dsimp only
    grind
/-- turned: left becomes told, right left, told right -/
theorem rk_turn (h : ∀ k i j : Nat, k < a → i < b → j < m → g [(k : Int), i, j] % (q : Int) = f [(j : Int), k, i] % (q : Int)) (hr : RkF a b m q f r) : RkF b m a q g r := by
  obtain ⟨ps, h1, h2, h3⟩ := hr
  refine ⟨ps.map fun p => ⟨p.r, p.o, p.l⟩, by rw [List.length_map]; exact h1, fun p hp => ?_, fun k i j hk hi hj => ?_⟩
  · obtain ⟨w, hw, e⟩ := List.mem_map.mp hp
    rw [← e]
    exact ⟨(h2 w hw).r, (h2 w hw).o, (h2 w hw).l⟩
  · rw [h k i j hk hi hj, h3 j k i hj hk hi, tel_map ps _ k i j j k i 1 fun p _ => ?_, Int.one_mul]
    unfold Pr.one
    dsimp only
    grind
theorem rk_back (h : ∀ k i j : Nat, k < m → i < a → j < b → f [(k : Int), i, j] % (q : Int) = g [(i : Int), j, k] % (q : Int)) (hr : RkF b m a q g r) : RkF a b m q f r := by
  obtain ⟨ps, h1, h2, h3⟩ := hr
  refine ⟨ps.map fun p => ⟨p.o, p.l, p.r⟩, by rw [List.length_map]; exact h1, fun p hp => ?_, fun k i j hk hi hj => ?_⟩
  · obtain ⟨w, hw, e⟩ := List.mem_map.mp hp
    rw [← e]
    exact ⟨(h2 w hw).o, (h2 w hw).l, (h2 w hw).r⟩
  · rw [h k i j hk hi hj, h3 i j k hi hj hk, tel_map ps _ k i j i j k 1 fun p _ => ?_, Int.one_mul]
    unfold Pr.one
    dsimp only
    grind
/-- times a number -/
theorem rk_times {s : Int} (h : ∀ k i j : Nat, k < m → i < a → j < b → g [(k : Int), i, j] % (q : Int) = (s * f [(k : Int), i, j]) % (q : Int)) (hr : RkF a b m q f r) : RkF a b m q g r := by
  obtain ⟨ps, h1, h2, h3⟩ := hr
  refine ⟨ps.map fun p => ⟨p.l, p.r, p.o.map fun x => s * x⟩, by rw [List.length_map]; exact h1, fun p hp => ?_, fun k i j hk hi hj => ?_⟩
  · obtain ⟨w, hw, e⟩ := List.mem_map.mp hp
    rw [← e]
    exact ⟨(h2 w hw).l, (h2 w hw).r, by rw [List.length_map]; exact (h2 w hw).o⟩
  · rw [h k i j hk hi hj, tel_map ps _ k i j k i j s fun p _ => ?_, Int.mul_emod, h3 k i j hk hi hj, ← Int.mul_emod]
    unfold Pr.one
    dsimp only
    rw [map_get (by simp)]
    grind
/-- a left number's sums with another one in its place -/
theorem rk_with {s : Int} {x y : Nat} (hy : y < a) (h : ∀ k i j : Nat, k < m → i < a → j < b → g [(k : Int), i, j] % (q : Int) = (f [(k : Int), i, j] + (if i = x then s * f [(k : Int), y, j] else 0)) % (q : Int)) (hr : RkF a b m q f r) : RkF a b m q g r := by
  obtain ⟨ps, h1, h2, h3⟩ := hr
  refine ⟨ps.map fun p => ⟨(List.range a).map fun i => p.l.getD i 0 + (if i = x then s * p.l.getD y 0 else 0), p.r, p.o⟩, by rw [List.length_map]; exact h1, fun p hp => ?_, fun k i j hk hi hj => ?_⟩
  · obtain ⟨w, hw, e⟩ := List.mem_map.mp hp
    rw [← e]
    exact ⟨by simp, (h2 w hw).r, (h2 w hw).o⟩
  · rw [h k i j hk hi hj]
    have e : tel (ps.map fun p => (⟨(List.range a).map fun i => p.l.getD i 0 + (if i = x then s * p.l.getD y 0 else 0), p.r, p.o⟩ : Pr)) k i j = tel ps k i j + (if i = x then s * tel ps k y j else 0) := by
      unfold tel
      rw [Sg_map]
      by_cases e : i = x
      · rw [if_pos e, Sg_mul, ← Sg_add]
        refine Sg_congr fun p _ => ?_
        unfold Pr.one
        dsimp only
        rw [rg_get hi, if_pos e]
        grind
      · rw [if_neg e, Int.add_zero]
        refine Sg_congr fun p _ => ?_
        unfold Pr.one
        dsimp only
        rw [rg_get hi, if_neg e, Int.add_zero]
    rw [e]
    by_cases ex : i = x
    · rw [if_pos ex, if_pos ex, Int.add_emod, h3 k i j hk hi hj, Int.mul_emod, h3 k y j hk hy hj, ← Int.mul_emod, ← Int.add_emod]
    · rw [if_neg ex, if_neg ex, Int.add_zero, Int.add_zero]; exact h3 k i j hk hi hj
/-- one product more -/
theorem rk_more {p : Pr} (sp : p.sz a b m) {s : Int} (h : ∀ k i j : Nat, k < m → i < a → j < b → g [(k : Int), i, j] % (q : Int) = (f [(k : Int), i, j] + s * p.one k i j) % (q : Int)) (hr : RkF a b m q f r) : RkF a b m q g (r + 1) := by
  obtain ⟨ps, h1, h2, h3⟩ := hr
  refine ⟨ps ++ [⟨p.l, p.r, p.o.map fun x => s * x⟩], by rw [List.length_append, List.length_singleton]; omega, fun w hw => ?_, fun k i j hk hi hj => ?_⟩
  · rcases List.mem_append.mp hw with hw | hw
    · exact h2 w hw
    · cases (show w = _ by simpa using hw)
      exact ⟨sp.l, sp.r, by rw [List.length_map]; exact sp.o⟩
  · rw [h k i j hk hi hj, tel_append]
    have e : tel [(⟨p.l, p.r, p.o.map fun x => s * x⟩ : Pr)] k i j = s * p.one k i j := by
      unfold tel
      rw [Sg_cons, Sg_nil]
      unfold Pr.one
      dsimp only
      rw [map_get (by simp)]
      grind
    rw [e, Int.add_emod, h3 k i j hk hi hj, ← Int.add_emod]
theorem tsum_Sgl (ts : List Cm.Tm) (p : List Int) : tsum ts p = Sg ts fun t => if t.pl = p then t.c else 0 := by
  unfold tsum
  show Sg (ts.filter fun t => decide (t.pl = p)) (fun t => t.c) = _
  rw [Sg_filter]
  exact Sg_congr fun t _ => by simp
theorem tsum_map {G : Cm.Tm → Cm.Tm} {p p' : List Int} {s : Int} (h : ∀ t ∈ ts, ((G t).pl = p' ↔ t.pl = p) ∧ (G t).c = s * t.c) : tsum (ts.map G) p' = s * tsum ts p := by
  rw [tsum_Sgl, tsum_Sgl, Sg_map, Sg_mul]
  refine Sg_congr fun t ht => ?_
  obtain ⟨h1, h2⟩ := h t ht
  by_cases e : t.pl = p
  · rw [if_pos e, if_pos (h1.mpr e), h2]
  · rw [if_neg e, if_neg (fun hh => e (h1.mp hh)), Int.mul_zero]
theorem tsum_app (us vs : List Cm.Tm) (p : List Int) : tsum (us ++ vs) p = tsum us p + tsum vs p := by
  rw [tsum_Sgl, tsum_Sgl, tsum_Sgl, Sg_append]
theorem tsum_none {p : List Int} (h : ∀ t ∈ ts, t.pl ≠ p) : tsum ts p = 0 := by
  rw [tsum_Sgl]
  exact Sg_zero' fun t ht => if_neg (h t ht)
theorem tsum_fmap {P : Cm.Tm → Bool} {G : Cm.Tm → Cm.Tm} {p p' : List Int} (h : ∀ t ∈ ts, (P t = true ∧ (G t).pl = p' ↔ t.pl = p) ∧ (G t).c = t.c) : tsum ((ts.filter P).map G) p' = tsum ts p := by
  rw [tsum_Sgl, tsum_Sgl, Sg_map, Sg_filter]
  refine Sg_congr fun t ht => ?_
  obtain ⟨h1, h2⟩ := h t ht
  by_cases e : t.pl = p
  · obtain ⟨e1, e2⟩ := h1.mpr e
    rw [if_pos e, if_pos e1, if_pos e2, h2]
  · rw [if_neg e]
    by_cases e1 : P t = true
    · rw [if_pos e1, if_neg (fun hh => e (h1.mp ⟨e1, hh⟩))]
    · rw [if_neg e1]
end
end Cm
namespace K46
open PySem PySem.Spec PyProof.Rows L2 FL Cm
set_option maxHeartbeats 0
def naD (l : List Nat) : List D := l.map fun j => D.int (j : Nat)
theorem er_perm {α : Type} : ∀ {l : List α} {i : Nat} (h : i < l.length), (l[i] :: l.eraseIdx i).Perm l
  | a :: l, 0, _ => List.Perm.refl _
  | a :: l, i + 1, h => by
    have := er_perm (l := l) (i := i) (by simpa using h)
    exact (List.Perm.swap _ _ _).trans (this.cons a)
def r_law_places : FSpec := fun ds _ Q => ∃ (b : Bx) (m : Nat), ds = [bxD b, .int m] ∧ m ≤ 1000 ∧ ∀ (P : List Nat) (b' : Bx) (tl : List (Option D)), P.Perm (List.range m) → Q (.lst .flat (naD P)) (some (bxD b') :: tl)
theorem rd_law_places : RD_law_places r_law_places r_law_take := by
  rintro ds ED QD - ⟨b, m, rfl, hm, q⟩
  refine ⟨⟨by omega, by omega⟩, ⟨by omega, by omega, by omega⟩, ?_⟩
  refine ⟨compR_on [0, 2] (fun k acc z => ∃ (b : Bx) (ls os : List Nat), z = [some (bxD b), some (.lst .flat (naD ls))] ∧ acc = naD os ∧ (ls ++ os).Perm (List.range m) ∧ ls.length + k = m) _ _ ⟨b, List.range m, [], by unfold naD; rw [← rgD_nat]; rfl, rfl, by rw [List.append_nil], by simp⟩ ?_ ?_⟩
  · rintro i d acc z hd ⟨b, ls, os, rfl, rfl, hp, hl⟩
    obtain ⟨rfl, hi⟩ := rgD_at hd
    have hlen : 0 < ls.length := by omega
    have hb : (((naD ls).length : Nat) : Int) = (ls.length : Int) := by unfold naD; rw [List.length_map]
    refine ⟨fun _ => ?_, fun h => nomatch h⟩
    refine ⟨b, ls.length, (by show [bxD b, D.int (((naD ls).length : Nat) : Int)] = _; rw [hb]), by omega, fun x b' tl x0 x1 => ?_⟩
    have hx : x.toNat < ls.length := by omega
    refine natAt_of (j := x.toNat) (by rw [ixN_of x0 (by rw [hb]; exact x1)]) ⟨⟨by omega, by omega⟩, ?_⟩
    refine pick_of (d := .int (ls[x.toNat] : Nat)) (by unfold naD; rw [List.getElem?_map, List.getElem?_eq_getElem hx]; rfl) rfl ?_
    rw [nf_eq]
    refine ⟨fun y hy => (by cases hy; rfl), rfl, b', ls.eraseIdx x.toNat, os ++ [ls[x.toNat]], ?_, ?_, ?_, ?_⟩
    · show [some (bxD b'), some (D.lst .flat ((naD ls).eraseIdx x.toNat))] = _
      unfold naD
      rw [map_er]
    · show naD os ++ [D.int (ls[x.toNat] : Nat)] = _
      unfold naD
      rw [List.map_append]; rfl
    · refine List.Perm.trans ?_ hp
      have h1 := er_perm hx
      have h2 : (ls.eraseIdx x.toNat ++ (os ++ [ls[x.toNat]])).Perm ((ls[x.toNat] :: ls.eraseIdx x.toNat) ++ os) := by
        rw [← List.append_assoc]
        exact List.perm_append_singleton _ _
      exact h2.trans (h1.append_right os)
    · rw [List.length_eraseIdx, if_pos hx]; omega
  · rintro acc z ⟨b, ls, os, rfl, rfl, hp, hl⟩
    have er : (rgD 0 (m : Int)).length = m := by rw [rgD_len]; omega
    rw [er] at hl
    have : ls = [] := List.length_eq_zero_iff.mp (by omega)
    subst this
    rw [nf_eq]
    exact q os b _ hp
def r_law_put : FSpec := fun ds _ Q => ∃ (a b m : Int) (us : List Cm.Tm), ds = [.tup false [.int a, .int b, .int m], .lst .ice (us.map tmD)] ∧ us.length ≤ 100000 ∧ ∀ os, Q (.tup false [.int a, .int b, .int m, .lst .ice ((canonT us).map tmD)]) os
theorem rd_law_put : RD_law_put r_law_put := by
  rintro ds ED QD - ⟨a, b, m, ts, rfl, hz, q⟩
  refine ⟨forR_on [2] [4, 5, 6, 7] (fun k z => z = [some (.dct .flat true ((pls (ts.take k)).map rowD) ((pls (ts.take k)).map fun p => .int (tsum (ts.take k) p)))]) _ _ rfl ?_ ?_⟩
  · rintro i x z j hx hj rfl
    obtain ⟨g4, g5, g6, g7, rfl⟩ := len4 hj
    rw [List.getElem?_map] at hx
    obtain ⟨t, ht, rfl⟩ := Option.map_eq_some_iff.mp hx
    have hi := (List.getElem?_eq_some_iff.mp ht).1
    have et : ts.take (i + 1) = ts.take i ++ [t] := by rw [List.take_succ, ht]; rfl
    refine ⟨rfl, rfl, row_keyOk t.pl, rfl, ?_⟩
    refine pickOr_of (y := .int (tsum (ts.take i) t.pl)) ?_ rfl ?_
    · have := look_rows (g := fun p => .int (tsum (ts.take i) p)) (P := pls (ts.take i)) (q := t.pl)
      by_cases h : t.pl ∈ pls (ts.take i)
      · rw [if_pos h] at this; exact .inl this
      · rw [if_neg h] at this; exact .inr ⟨this, by rw [tsum_out h]⟩
    have hl : (pls (ts.take i)).length < sizeLine := by
      have := pls_len (ts.take i)
      rw [List.length_take] at this
      rw [sizeLine_eq]; omega
    refine ⟨row_keyOk t.pl, by rw [List.length_map]; exact hl, rfl, ?_⟩
    rw [et, pls_snoc]
    have e1 := putKs_rows (P := pls (ts.take i)) (q := t.pl)
    have e2 := putDs_rows (g := fun p => D.int (tsum (ts.take i) p)) (g' := fun p => D.int (tsum (ts.take i ++ [t]) p)) (P := pls (ts.take i)) (q := t.pl) (d := .int (tsum (ts.take i) t.pl + t.c)) (pls_nodup _) (by rw [tsum_snoc, if_pos rfl]) (fun p hp => by rw [tsum_snoc, if_neg (Ne.symm hp), Int.add_zero])
    rw [← e1, ← e2]; rfl
  · rintro z j hj rfl
    obtain ⟨g4, g5, g6, g7, rfl⟩ := len4 hj
    rw [List.length_map, List.take_length]
    have hl := pls_len ts
    have h3 : ∀ p ∈ pls ts, p.length = 2 + 1 := fun p hp => pls_three hp
    refine ⟨rfl, own_map fun _ => rfl, fun k hk => ?_, by rw [List.length_map, sizeLine_eq]; omega, sortOk_rows 2 h3, ?_⟩
    · obtain ⟨p, hp, rfl⟩ := List.mem_map.mp hk
      show (p.map D.int).length ≤ 1000
      rw [List.length_map, h3 p hp]; decide
    rw [sort_rows]
    have lk : ∀ p ∈ (pls ts).mergeSort leR, dLook true ((pls ts).map rowD) ((pls ts).map fun p => .int (tsum ts p)) (rowD p) = some (.int (tsum ts p)) := fun p hp => by rw [look_rows, if_pos (List.mem_mergeSort.mp hp)]
    refine ⟨compR_if ((pls ts).mergeSort leR) rowD (fun p => decide (tsum ts p ≠ 0)) rowD rfl (fun p hp => ?_) (fun _ => rfl) ?_⟩
    · refine ⟨row_keyOk p, pick_of (lk p hp) rfl ⟨fun h => ?_, fun h => ?_⟩⟩
      · have hne : tsum ts p ≠ 0 := by simpa using h
        exact ⟨by rw [if_pos (decide_eq_true hne)], rfl⟩
      · have he : tsum ts p = 0 := by simpa using h
        exact ⟨by rw [if_neg (by simpa using he)], rfl⟩
    · refine ⟨compR_allE (((pls ts).mergeSort leR).filter fun p => decide (tsum ts p ≠ 0)) rowD (fun p => tmD (tmOf p (tsum ts p))) rfl (fun p hp => ⟨fun _ => ⟨row_keyOk p, pick_of (lk p (List.mem_filter.mp hp).1) rfl ⟨?_, ?_, rfl⟩⟩, fun h => nomatch h⟩) (fun _ => rfl) ?_⟩
      · rw [List.length_map, h3 p (List.mem_mergeSort.mp (List.mem_filter.mp hp).1)]
        show (2 + 1 + 1 : Nat) ≤ sizeLine; decide
      · exact congrArg some (tm_app (h3 p (List.mem_mergeSort.mp (List.mem_filter.mp hp).1)))
      · refine ⟨by show 3 + 1 ≤ sizeLine; decide, ?_⟩
        have := q
        unfold canonT at this
        rw [fm_if, List.map_map] at this
        exact this _
end K46
namespace K46
open PySem PySem.Spec PyProof.Rows L2 FL Cm
/-- a task told otherwise, of as many products -/
def Vr (a b m q : Nat) (ts : List Cm.Tm) (d : D) : Prop := ∃ (a' b' m' : Nat) (us : List Cm.Tm), d = tskD a' b' m' us ∧ ((a' = a ∧ b' = b ∧ m' = m) ∨ (a' = b ∧ b' = a ∧ m' = m) ∨ (a' = b ∧ b' = m ∧ m' = a) ∨ (a' = a ∧ b' = b ∧ m' = m + 1)) ∧ (∀ t ∈ us, FTm t m' a' b') ∧ (us.map Cm.Tm.pl).Nodup ∧ ∀ r, RkF a' b' m' q (tsum us) r ↔ RkF a b m q (tsum ts) r
section
variable {a b m q : Nat} {ts : List Cm.Tm}
theorem canon_ft {us : List Cm.Tm} (h : ∀ t ∈ us, FTm t m a b) : ∀ t ∈ canonT us, FTm t m a b := fun t ht => by
  obtain ⟨⟨u, hu, e⟩, _, _⟩ := canonT_mem ht
  have f := h u hu
  have e : [t.k, t.i, t.j] = [u.k, u.i, u.j] := e
  simp only [List.cons.injEq, and_true] at e
  obtain ⟨e1, e2, e3⟩ := e
  exact ⟨by rw [e1]; exact f.k0, by rw [e1]; exact f.k1, by rw [e2]; exact f.i0, by rw [e2]; exact f.i1, by rw [e3]; exact f.j0, by rw [e3]; exact f.j1⟩
theorem vr_of {a' b' m' : Nat} {us : List Cm.Tm} (hs : (a' = a ∧ b' = b ∧ m' = m) ∨ (a' = b ∧ b' = a ∧ m' = m) ∨ (a' = b ∧ b' = m ∧ m' = a) ∨ (a' = a ∧ b' = b ∧ m' = m + 1)) (hf : ∀ t ∈ us, FTm t m' a' b') (h : ∀ r, RkF a' b' m' q (tsum us) r ↔ RkF a b m q (tsum ts) r) : Vr a b m q ts (tskD a' b' m' (canonT us)) := by
  refine ⟨a', b', m', canonT us, rfl, hs, canon_ft hf, canonT_nd us, fun r => ?_⟩
  rw [← h]
  exact ⟨rk_congr fun k i j _ _ _ => by rw [tsum_canonT], rk_congr fun k i j _ _ _ => by rw [tsum_canonT]⟩
/-- a term's places -/
theorem ft_nat {t : Cm.Tm} (f : FTm t m a b) : ∃ K I J : Nat, K < m ∧ I < a ∧ J < b ∧ t.k = K ∧ t.i = I ∧ t.j = J := by
  have k0 := f.k0
  have k1 := f.k1
  have i0 := f.i0
  have i1 := f.i1
  have j0 := f.j0
  have j1 := f.j1
  exact ⟨t.k.toNat, t.i.toNat, t.j.toNat, by omega, by omega, by omega, by omega, by omega, by omega⟩
theorem pl_eq {k i j k' i' j' : Nat} : ([(k : Int), i, j] = [(k' : Int), i', j']) ↔ k = k' ∧ i = i' ∧ j = j' := by
  simp only [List.cons.injEq, and_true]
  omega
theorem perm_ix {P : List Nat} {n : Nat} (h : P.Perm (List.range n)) : P.length = n ∧ (∀ i, i < n → P.getD i 0 < n ∧ P.idxOf (P.getD i 0) = i) ∧ ∀ x, x < n → P.idxOf x < n ∧ P.getD (P.idxOf x) 0 = x := by
  have hl : P.length = n := by rw [h.length_eq, List.length_range]
  have nd : P.Nodup := h.nodup_iff.mpr List.nodup_range
  refine ⟨hl, fun i hi => ?_, fun x hx => ?_⟩
  · have e : P.getD i 0 = P[i]'(by omega) := by rw [List.getD_eq_getElem?_getD, List.getElem?_eq_getElem (by omega)]; rfl
    rw [e]
    exact ⟨List.mem_range.mp (h.mem_iff.mp (List.getElem_mem _)), nd.idxOf_getElem i (by omega)⟩
  · have hm : x ∈ P := h.mem_iff.mpr (List.mem_range.mpr hx)
    have hlt := List.idxOf_lt_length_of_mem hm
    refine ⟨by omega, ?_⟩
    rw [List.getD_eq_getElem?_getD, List.getElem?_eq_getElem hlt]
    exact List.getElem_idxOf hlt
def mv1 (P1 P2 P3 : List Nat) (t : Cm.Tm) : Cm.Tm := ⟨(P3.getD t.k.toNat 0 : Nat), (P1.getD t.i.toNat 0 : Nat), (P2.getD t.j.toNat 0 : Nat), t.c⟩
theorem v1 {P1 P2 P3 : List Nat} (h1 : P1.Perm (List.range a)) (h2 : P2.Perm (List.range b)) (h3 : P3.Perm (List.range m)) (hf : ∀ t ∈ ts, FTm t m a b) : Vr a b m q ts (tskD a b m (canonT (ts.map (mv1 P1 P2 P3)))) := by
  obtain ⟨l1, a1, b1⟩ := perm_ix h1
  obtain ⟨l2, a2, b2⟩ := perm_ix h2
  obtain ⟨l3, a3, b3⟩ := perm_ix h3
  have key : ∀ k i j : Nat, k < m → i < a → j < b → tsum (ts.map (mv1 P1 P2 P3)) [(k : Int), i, j] = tsum ts [((P3.idxOf k : Nat) : Int), ((P1.idxOf i : Nat) : Int), ((P2.idxOf j : Nat) : Int)] := fun k i j hk hi hj => by
    rw [tsum_map (G := mv1 P1 P2 P3) (s := 1) (p := [((P3.idxOf k : Nat) : Int), ((P1.idxOf i : Nat) : Int), ((P2.idxOf j : Nat) : Int)]) fun t ht => ⟨?_, by rw [Int.one_mul]; rfl⟩, Int.one_mul]
    obtain ⟨K, I, J, hK, hI, hJ, eK, eI, eJ⟩ := ft_nat (hf t ht)
    unfold mv1 Cm.Tm.pl
    dsimp only
    rw [eK, eI, eJ, Int.toNat_natCast, Int.toNat_natCast, Int.toNat_natCast, pl_eq, pl_eq]
    constructor
    · rintro ⟨rfl, rfl, rfl⟩
      exact ⟨(a3 K hK).2.symm, (a1 I hI).2.symm, (a2 J hJ).2.symm⟩
    · rintro ⟨rfl, rfl, rfl⟩
      exact ⟨(b3 k hk).2, (b1 i hi).2, (b2 j hj).2⟩
  refine vr_of (.inl ⟨rfl, rfl, rfl⟩) (fun t ht => ?_) fun r => ⟨fun h => ?_, fun h => ?_⟩
  · obtain ⟨u, hu, eu⟩ := List.mem_map.mp ht
    rw [← eu]
    obtain ⟨K, I, J, hK, hI, hJ, eK, eI, eJ⟩ := ft_nat (hf u hu)
    have x1 := (a1 I hI).1
    have x2 := (a2 J hJ).1
    have x3 := (a3 K hK).1
    unfold mv1
    rw [eK, eI, eJ, Int.toNat_natCast, Int.toNat_natCast, Int.toNat_natCast]
    exact ⟨by show (0 : Int) ≤ ((P3.getD K 0 : Nat) : Int); omega, by show ((P3.getD K 0 : Nat) : Int) < m; omega, by show (0 : Int) ≤ ((P1.getD I 0 : Nat) : Int); omega, by show ((P1.getD I 0 : Nat) : Int) < a; omega, by show (0 : Int) ≤ ((P2.getD J 0 : Nat) : Int); omega, by show ((P2.getD J 0 : Nat) : Int) < b; omega⟩
  · refine rk_pull (γ := fun k => P3.getD k 0) (α := fun i => P1.getD i 0) (β := fun j => P2.getD j 0) (fun k hk => (a3 k hk).1) (fun i hi => (a1 i hi).1) (fun j hj => (a2 j hj).1) (fun k i j hk hi hj => ?_) h
    rw [key _ _ _ (a3 k hk).1 (a1 i hi).1 (a2 j hj).1, (a3 k hk).2, (a1 i hi).2, (a2 j hj).2]
  · refine rk_pull (γ := fun k => P3.idxOf k) (α := fun i => P1.idxOf i) (β := fun j => P2.idxOf j) (fun k hk => (b3 k hk).1) (fun i hi => (b1 i hi).1) (fun j hj => (b2 j hj).1) (fun k i j hk hi hj => ?_) h
    rw [key k i j hk hi hj]
def mv2 (t : Cm.Tm) : Cm.Tm := ⟨t.k, t.j, t.i, t.c⟩
theorem v2 (hf : ∀ t ∈ ts, FTm t m a b) : Vr a b m q ts (tskD b a m (canonT (ts.map mv2))) := by
  have key : ∀ k i j : Nat, tsum (ts.map mv2) [(k : Int), i, j] = tsum ts [(k : Int), j, i] := fun k i j => by
    rw [tsum_map (G := mv2) (s := 1) (p := [(k : Int), j, i]) fun t ht => ⟨?_, by rw [Int.one_mul]; rfl⟩, Int.one_mul]
    unfold mv2 Cm.Tm.pl
    dsimp only
    simp only [List.cons.injEq, and_true]
    exact ⟨fun ⟨x, y, z⟩ => ⟨x, z, y⟩, fun ⟨x, y, z⟩ => ⟨x, z, y⟩⟩
  refine vr_of (.inr (.inl ⟨rfl, rfl, rfl⟩)) (fun t ht => ?_) fun r => ⟨fun h => ?_, fun h => ?_⟩
  · obtain ⟨u, hu, eu⟩ := List.mem_map.mp ht
    rw [← eu]
    have f := hf u hu
    exact ⟨f.k0, f.k1, f.j0, f.j1, f.i0, f.i1⟩
  · exact rk_exch (fun k i j _ _ _ => by rw [key]) h
  · exact rk_exch (fun k i j _ _ _ => by rw [key]) h
def mv3 (t : Cm.Tm) : Cm.Tm := ⟨t.i, t.j, t.k, t.c⟩
theorem v3 (hf : ∀ t ∈ ts, FTm t m a b) : Vr a b m q ts (tskD b m a (canonT (ts.map mv3))) := by
  have key : ∀ k i j : Nat, tsum (ts.map mv3) [(k : Int), i, j] = tsum ts [(j : Int), k, i] := fun k i j => by
    rw [tsum_map (G := mv3) (s := 1) (p := [(j : Int), k, i]) fun t ht => ⟨?_, by rw [Int.one_mul]; rfl⟩, Int.one_mul]
    unfold mv3 Cm.Tm.pl
    dsimp only
    simp only [List.cons.injEq, and_true]
    exact ⟨fun ⟨x, y, z⟩ => ⟨z, x, y⟩, fun ⟨x, y, z⟩ => ⟨y, z, x⟩⟩
  refine vr_of (.inr (.inr (.inl ⟨rfl, rfl, rfl⟩))) (fun t ht => ?_) fun r => ⟨fun h => ?_, fun h => ?_⟩
  · obtain ⟨u, hu, eu⟩ := List.mem_map.mp ht
    rw [← eu]
    have f := hf u hu
    exact ⟨f.i0, f.i1, f.j0, f.j1, f.k0, f.k1⟩
  · exact rk_back (fun k i j _ _ _ => by rw [key]) h
  · exact rk_turn (fun k i j _ _ _ => by rw [key]) h
def mv4 (m : Nat) (t : Cm.Tm) : Cm.Tm := ⟨(m : Nat), t.i, t.j, t.c⟩
theorem v4 (hf : ∀ t ∈ ts, FTm t m a b) {w : Nat} (hw : w < m) : Vr a b m q ts (tskD a b (m + 1) (canonT (ts ++ (ts.filter fun t => decide (t.k = (w : Int))).map (mv4 m)))) := by
  have key : ∀ k i j : Nat, k < m + 1 → tsum (ts ++ (ts.filter fun t => decide (t.k = (w : Int))).map (mv4 m)) [(k : Int), i, j] = tsum ts [((if k < m then k else w : Nat) : Int), i, j] := fun k i j hk => by
    rw [tsum_app]
    by_cases h : k < m
    · rw [if_pos h, tsum_none (p := [(k : Int), i, j]) (ts := (ts.filter fun t => decide (t.k = (w : Int))).map (mv4 m)) fun t ht => ?_, Int.add_zero]
      obtain ⟨t, _, rfl⟩ := List.mem_map.mp ht
      intro e
      have e : [((m : Nat) : Int), t.i, t.j] = [(k : Int), i, j] := e
      simp only [List.cons.injEq] at e
      omega
    · rw [if_neg h, tsum_none (ts := ts) fun t ht => ?_, Int.zero_add, tsum_fmap (G := mv4 m) (p := [((w : Nat) : Int), i, j]) fun t ht => ⟨?_, rfl⟩]
      · unfold mv4 Cm.Tm.pl
        dsimp only
        simp only [List.cons.injEq, and_true, decide_eq_true_iff]
        have : k = m := by omega
        subst this
        exact ⟨fun ⟨x, _, y, z⟩ => ⟨x, y, z⟩, fun ⟨x, y, z⟩ => ⟨x, rfl, y, z⟩⟩
      · intro e
        have e : [t.k, t.i, t.j] = [(k : Int), i, j] := e
        simp only [List.cons.injEq] at e
        have := (hf t ht).k1
        omega
  refine vr_of (.inr (.inr (.inr ⟨rfl, rfl, rfl⟩))) (fun t ht => ?_) fun r => ⟨fun h => ?_, fun h => ?_⟩
  · rcases List.mem_append.mp ht with ht | ht
    · have f := hf t ht
      have k1 := f.k1
      exact ⟨f.k0, by omega, f.i0, f.i1, f.j0, f.j1⟩
    · obtain ⟨u, hu, eu⟩ := List.mem_map.mp ht
      rw [← eu]
      have f := hf u (List.mem_filter.mp hu).1
      exact ⟨by show (0 : Int) ≤ (m : Nat); omega, by show ((m : Nat) : Int) < ((m + 1 : Nat) : Int); omega, f.i0, f.i1, f.j0, f.j1⟩
  · refine rk_pull (γ := fun k => k) (α := fun i => i) (β := fun j => j) (fun k hk => by omega) (fun i hi => hi) (fun j hj => hj) (fun k i j hk hi hj => ?_) h
    rw [key k i j (by omega), if_pos hk]
  · refine rk_pull (γ := fun k => if k < m then k else w) (α := fun i => i) (β := fun j => j) (fun k hk => by show (if k < m then k else w) < m; split <;> omega) (fun i hi => hi) (fun j hj => hj) (fun k i j hk hi hj => ?_) h
    rw [key k i j hk]
def mv5 (s : Int) (t : Cm.Tm) : Cm.Tm := ⟨t.k, t.i, t.j, t.c * s⟩
theorem v5 (hf : ∀ t ∈ ts, FTm t m a b) {s : Int} (hs : s = 1 ∨ s = -1) {vs : List Cm.Tm} (hv : ∀ t ∈ vs, FTm t m a b ∧ t.c = (q : Int)) : Vr a b m q ts (tskD a b m (canonT (ts.map (mv5 s) ++ vs))) := by
  have key : ∀ p, ∃ z, tsum (ts.map (mv5 s) ++ vs) p = s * tsum ts p + (q : Int) * z := fun p => by
    rw [tsum_app, tsum_map (G := mv5 s) (s := s) (p := p) fun t ht => ⟨Iff.rfl, by show t.c * s = s * t.c; exact Int.mul_comm _ _⟩]
    have : ∃ z, tsum vs p = (q : Int) * z := by
      rw [tsum_Sgl]
      clear hf
      induction vs with
      | nil => exact ⟨0, by rw [Sg_nil]; simp⟩
      | cons v vs ih =>
        obtain ⟨z, hz⟩ := ih fun t ht => hv t (List.mem_cons_of_mem _ ht)
        rw [Sg_cons, hz, (hv v List.mem_cons_self).2]
        by_cases e : v.pl = p
        · exact ⟨1 + z, by rw [if_pos e]; grind⟩
        · exact ⟨z, by rw [if_neg e]; grind⟩
    obtain ⟨z, hz⟩ := this
    exact ⟨z, by rw [hz]⟩
  refine vr_of (.inl ⟨rfl, rfl, rfl⟩) (fun t ht => ?_) fun r => ⟨fun h => ?_, fun h => ?_⟩
  · rcases List.mem_append.mp ht with ht | ht
    · obtain ⟨u, hu, eu⟩ := List.mem_map.mp ht
      rw [← eu]
      have f := hf u hu
      exact ⟨f.k0, f.k1, f.i0, f.i1, f.j0, f.j1⟩
    · exact (hv t ht).1
  · refine rk_times (s := s) (fun k i j _ _ _ => ?_) h
    obtain ⟨z, hz⟩ := key [(k : Int), i, j]
    rw [hz]
    refine emc (c := -(s * z)) ?_
    rcases hs with rfl | rfl <;> grind
  · refine rk_times (s := s) (fun k i j _ _ _ => ?_) h
    obtain ⟨z, hz⟩ := key [(k : Int), i, j]
    rw [hz]
    exact emc (c := z) rfl
def mv6 (y : Nat) (t : Cm.Tm) : Cm.Tm := ⟨t.k, (y : Nat), t.j, t.c⟩
theorem v6 (hf : ∀ t ∈ ts, FTm t m a b) {x y : Nat} (hx : x < a) (hy : y < a) (hxy : x ≠ y) : Vr a b m q ts (tskD a b m (canonT (ts ++ (ts.filter fun t => decide (t.i = (x : Int))).map (mv6 y)))) := by
  have key : ∀ k i j : Nat, tsum (ts ++ (ts.filter fun t => decide (t.i = (x : Int))).map (mv6 y)) [(k : Int), i, j] = tsum ts [(k : Int), i, j] + (if i = y then tsum ts [(k : Int), x, j] else 0) := fun k i j => by
    rw [tsum_app]
    congr 1
    by_cases h : i = y
    · rw [h, if_pos rfl, tsum_fmap (G := mv6 y) (p := [(k : Int), x, j]) fun t ht => ⟨?_, rfl⟩]
      unfold mv6 Cm.Tm.pl
      dsimp only
      simp only [List.cons.injEq, and_true, decide_eq_true_iff]
      exact ⟨fun ⟨x, y, _, z⟩ => ⟨y, x, z⟩, fun ⟨x, y, z⟩ => ⟨y, x, trivial, z⟩⟩
    · rw [if_neg h, tsum_none fun t ht => ?_]
      obtain ⟨t, _, rfl⟩ := List.mem_map.mp ht
      intro e
      have e : [t.k, ((y : Nat) : Int), t.j] = [(k : Int), i, j] := e
      simp only [List.cons.injEq] at e
      omega
  refine vr_of (.inl ⟨rfl, rfl, rfl⟩) (fun t ht => ?_) fun r => ⟨fun h => ?_, fun h => ?_⟩
  · rcases List.mem_append.mp ht with ht | ht
    · exact hf t ht
    · obtain ⟨u, hu, eu⟩ := List.mem_map.mp ht
      rw [← eu]
      have f := hf u (List.mem_filter.mp hu).1
      exact ⟨f.k0, f.k1, by show (0 : Int) ≤ (y : Nat); omega, by show ((y : Nat) : Int) < a; omega, f.j0, f.j1⟩
  · refine rk_with (s := -1) (x := y) hx (fun k i j _ _ _ => ?_) h
    rw [key, key]
    by_cases e : i = y
    · rw [if_pos e, if_pos e, if_neg hxy]; congr 1; omega
    · rw [if_neg e, if_neg e]; simp
  · refine rk_with (s := 1) (x := y) hx (fun k i j _ _ _ => ?_) h
    rw [key, Int.one_mul]
theorem v7 (hf : ∀ t ∈ ts, FTm t m a b) : Vr a b m q ts (tskD a b m (canonT ts)) := vr_of (.inl ⟨rfl, rfl, rfl⟩) hf fun r => Iff.rfl
end
end K46
namespace K46
open PySem PySem.Spec PyProof.Rows L2 FL Cm
set_option maxHeartbeats 0
theorem na_at {P : List Nat} {t : Int} {K : Nat} (hK : K < P.length) (e : t = (K : Int)) : atI (naD P) t = some (.int (P.getD t.toNat 0 : Nat)) := by
  subst e
  rw [Int.toNat_natCast]
  refine at_nat ?_
  unfold naD
  rw [List.getElem?_map, List.getElem?_eq_getElem hK, List.getD_eq_getElem?_getD, List.getElem?_eq_getElem hK]; rfl
structure OtB (a b m q : Nat) (ts : List Cm.Tm) : Prop where
  hq : q = 2 ∨ q = 3
  ha : 1 ≤ a ∧ a ≤ 6
  hb : 1 ≤ b ∧ b ≤ 6
  hm : 1 ≤ m ∧ m ≤ 6
  ft : ∀ t ∈ ts, FTm t m a b
  bt : ∀ t ∈ ts, Bt 100 t.c
  ln : ts.length ≤ 1000
def r_law_others : FSpec := fun ds _ Q => ∃ (x : Bx) (a b m q : Nat) (ts : List Cm.Tm), ds = [bxD x, tskD a b m ts, .int q] ∧ OtB a b m q ts ∧ ∀ (L : List D) (x' : Bx) tl, (∀ d ∈ L, Vr a b m q ts d) → Q (.lst .flat L) (some (bxD x') :: tl)
theorem rd_law_others : RD_law_others r_law_others r_law_places r_law_take r_law_put := by
  rintro ds ED QD - ⟨x, a, b, m, q, ts, rfl, ok, qq⟩
  have ha := ok.ha
  have hb := ok.hb
  have hm := ok.hm
  have ln := ok.ln
  refine ⟨rfl, ?_⟩
  refine ⟨x, a, rfl, by omega, fun P1 x _ hp1 => ?_⟩
  refine ⟨x, b, rfl, by omega, fun P2 x _ hp2 => ?_⟩
  refine ⟨x, m, rfl, by omega, fun P3 x _ hp3 => ?_⟩
  obtain ⟨l1, _, _⟩ := perm_ix hp1
  obtain ⟨l2, _, _⟩ := perm_ix hp2
  obtain ⟨l3, _, _⟩ := perm_ix hp3
  refine ⟨compR_allE ts tmD (fun t => tmD (mv1 P1 P2 P3 t)) rfl (fun t ht => ⟨rfl, fun _ => ?_, fun h => nomatch h⟩) (fun _ => rfl) ?_⟩
  · obtain ⟨K, I, J, hK, hI, hJ, eK, eI, eJ⟩ := ft_nat (ok.ft t ht)
    exact pick_of (na_at (P := P3) (by omega) eK) rfl (pick_of (na_at (P := P1) (by omega) eI) rfl (pick_of (na_at (P := P2) (by omega) eJ) rfl ⟨rfl, rfl⟩))
  refine ⟨a, b, m, ts.map (mv1 P1 P2 P3), by rw [List.map_map]; rfl, by rw [List.length_map]; omega, fun _ => ?_⟩
  dsimp only [List.getElem?_cons_succ, List.getElem?_cons_zero, oGet]
  refine ⟨compR_allE ts tmD (fun t => tmD (mv2 t)) rfl (fun t ht => ⟨rfl, fun _ => ⟨rfl, rfl⟩, fun h => nomatch h⟩) (fun _ => rfl) ?_⟩
  dsimp only [List.getElem?_cons_succ, List.getElem?_cons_zero, oGet]
  refine ⟨b, a, m, ts.map mv2, by rw [List.map_map]; rfl, by rw [List.length_map]; omega, fun _ => ⟨by show 1 < sizeLine; decide, ?_⟩⟩
  dsimp only [List.getElem?_cons_succ, List.getElem?_cons_zero, oGet]
  refine ⟨compR_allE ts tmD (fun t => tmD (mv3 t)) rfl (fun t ht => ⟨rfl, fun _ => ⟨rfl, rfl⟩, fun h => nomatch h⟩) (fun _ => rfl) ?_⟩
  dsimp only [List.getElem?_cons_succ, List.getElem?_cons_zero, oGet]
  refine ⟨b, m, a, ts.map mv3, by rw [List.map_map]; rfl, by rw [List.length_map]; omega, fun _ => ⟨by show 2 < sizeLine; decide, ?_⟩⟩
  dsimp only [List.getElem?_cons_succ, List.getElem?_cons_zero, oGet]
  refine ⟨x, m, rfl, by omega, fun w x _ w0 w1 => ?_⟩
  obtain ⟨W, rfl⟩ : ∃ W : Nat, w = (W : Int) := ⟨w.toNat, by omega⟩
  refine ⟨compR_if ts tmD (fun t => decide (t.k = (W : Int))) (fun t => tmD (mv4 m t)) rfl (fun t ht => ⟨rfl, fun h => ?_, fun h => ?_⟩) (fun _ => rfl) ?_⟩
  · have h : t.k = (W : Int) := by simpa using h
    exact ⟨by rw [if_pos (decide_eq_true h)]; rfl, rfl⟩
  · have h : ¬ t.k = (W : Int) := by simpa using h
    exact ⟨by rw [if_neg (by simpa using h)], rfl⟩
  dsimp only [List.getElem?_cons_succ, List.getElem?_cons_zero, oGet]
  have lf := List.length_filter_le (fun t : Cm.Tm => decide (t.k = (W : Int))) ts
  refine ⟨?_, a, b, m + 1, ts ++ (ts.filter fun t => decide (t.k = (W : Int))).map (mv4 m), ?_, by rw [List.length_append, List.length_map]; omega, fun _ => ⟨by show 3 < sizeLine; decide, ?_⟩⟩
  · rw [List.length_map, List.length_map, sizeLine_eq]; omega
  · show [_, D.lst .ice (ts.map tmD ++ (ts.filter fun t => decide (t.k = (W : Int))).map fun t => tmD (mv4 m t))] = _
    rw [List.map_append, List.map_map]; rfl
  dsimp only [List.getElem?_cons_succ, List.getElem?_cons_zero, oGet]
  refine ⟨x, 2, rfl, by decide, fun v x _ v0 v1 => ?_⟩
  obtain ⟨s, hs, es⟩ : ∃ s : Int, (s = 1 ∨ s = -1) ∧ atI [D.int 1, .int (-1)] v = some (.int s) := by
    have : v = 0 ∨ v = 1 := by omega
    rcases this with rfl | rfl
    · exact ⟨1, .inl rfl, rfl⟩
    · exact ⟨-1, .inr rfl, rfl⟩
  refine pick_of es rfl ?_
  refine ⟨compR_allE ts tmD (fun t => tmD (mv5 s t)) rfl (fun t ht => ⟨rfl, fun _ => ⟨?_, rfl, rfl⟩, fun h => nomatch h⟩) (fun _ => rfl) ?_⟩
  · exact (ok.bt t ht).ok (bt_in (n := 100) (B := 100) (by omega) (by omega) (by decide))
  dsimp only [List.getElem?_cons_succ, List.getElem?_cons_zero, oGet]
  have eL : ts.map (fun t => tmD (mv5 s t)) = (ts.map (mv5 s) ++ []).map tmD := by rw [List.append_nil, List.map_map]; rfl
  rw [eL]
  refine ⟨⟨by decide, by decide, by decide⟩, ⟨forR_on [0, 6] [11, 16] (fun k z => ∃ (x : Bx) (vs : List Cm.Tm), z = [some (bxD x), some (.lst .flat ((ts.map (mv5 s) ++ vs).map tmD))] ∧ (∀ t ∈ vs, FTm t m a b ∧ t.c = (q : Int)) ∧ vs.length = k) _ _ ⟨x, [], rfl, fun t h => (nomatch h), rfl⟩ ?_ ?_⟩⟩
  · rintro k d z j hd hj ⟨x, vs, rfl, hv, hl⟩
    obtain ⟨g11, g16, rfl⟩ := len2 hj
    obtain ⟨rfl, hk⟩ := rgD_at hd
    refine ⟨x, m, rfl, by omega, fun k' x _ k0 k1 => ?_⟩
    refine ⟨x, a, rfl, by omega, fun i' x _ i0 i1 => ?_⟩
    refine ⟨x, b, rfl, by omega, fun j' x _ j0 j1 => ?_⟩
    refine ⟨?_, rfl, x, vs ++ [⟨k', i', j', (q : Int)⟩], ?_, fun t ht => ?_, by rw [List.length_append, hl]; rfl⟩
    · rw [List.length_map, List.length_append, List.length_map, sizeLine_eq]; omega
    · show [some (bxD x), some (D.lst .flat ((ts.map (mv5 s) ++ vs).map tmD ++ [D.tup false [.int k', .int i', .int j', .int (q : Nat)]]))] = _
      rw [← List.append_assoc, List.map_append (l₂ := [_])]; rfl
    · rcases List.mem_append.mp ht with ht | ht
      · exact hv t ht
      · cases (show t = _ by simpa using ht)
        exact ⟨⟨k0, k1, i0, i1, j0, j1⟩, rfl⟩
  · rintro z j hj ⟨x, vs, rfl, hv, hl⟩
    obtain ⟨g11, g16, rfl⟩ := len2 hj
    have hl : vs.length = 3 := hl
    refine ⟨a, b, m, ts.map (mv5 s) ++ vs, rfl, by rw [List.length_append, List.length_map]; omega, fun _ => ⟨by show 4 < sizeLine; decide, ?_⟩⟩
    dsimp only [List.getElem?_cons_succ, List.getElem?_cons_zero, oGet]
    refine ⟨x, a, rfl, by omega, fun hx x _ hx0 hx1 => ?_⟩
    refine ⟨x, a, rfl, by omega, fun hy x _ hy0 hy1 => ⟨rfl, ?_⟩⟩
    obtain ⟨X, rfl⟩ : ∃ X : Nat, hx = (X : Int) := ⟨hx.toNat, by omega⟩
    obtain ⟨Y, rfl⟩ : ∃ Y : Nat, hy = (Y : Int) := ⟨hy.toNat, by omega⟩
    dsimp only [List.getElem?_cons_succ, List.getElem?_cons_zero, oGet]
    refine cut_on [6] [16] (fun z => ∃ us : List Cm.Tm, z = [some (.lst .flat (us.map tmD))] ∧ us.length ≤ 2000 ∧ Vr a b m q ts (tskD a b m (canonT us))) ⟨fun h => ?_, fun h => ?_⟩ ?_
    · have h : ¬ (X : Int) = (Y : Int) := by simpa using h
      refine ⟨compR_if ts tmD (fun t => decide (t.i = (X : Int))) (fun t => tmD (mv6 Y t)) rfl (fun t ht => ⟨rfl, fun h => ?_, fun h => ?_⟩) (fun _ => rfl) ?_⟩
      · have h : t.i = (X : Int) := by simpa using h
        exact ⟨by rw [if_pos (decide_eq_true h)]; rfl, rfl⟩
      · have h : ¬ t.i = (X : Int) := by simpa using h
        exact ⟨by rw [if_neg (by simpa using h)], rfl⟩
      · have lf2 := List.length_filter_le (fun t : Cm.Tm => decide (t.i = (X : Int))) ts
        refine ⟨rfl, ?_, rfl, ts ++ (ts.filter fun t => decide (t.i = (X : Int))).map (mv6 Y), ?_, ?_, v6 ok.ft (by omega) (by omega) (by omega)⟩
        · rw [List.length_map, List.length_map, sizeLine_eq]; omega
        · show [some (D.lst .flat (ts.map tmD ++ (ts.filter fun t => decide (t.i = (X : Int))).map fun t => tmD (mv6 Y t)))] = _
          rw [List.map_append, List.map_map]; rfl
        · rw [List.length_append, List.length_map]; omega
    · exact ⟨rfl, ts, rfl, by omega, v7 ok.ft⟩
    · rintro z j hj ⟨us, rfl, hul, hvr⟩
      obtain ⟨y16, rfl⟩ := len1 hj
      conv => whnf
      refine ⟨a, b, m, us, rfl, by omega, fun _ => ⟨by show 5 < sizeLine; decide, ?_⟩⟩
      refine qq _ x _ fun d hd => ?_
      simp only [List.mem_append, List.mem_singleton] at hd
      rcases hd with ((((rfl | rfl) | rfl) | rfl) | rfl) | rfl
      · exact K46.v1 hp1 hp2 hp3 ok.ft
      · exact v2 ok.ft
      · exact v3 ok.ft
      · exact v4 ok.ft (by omega)
      · exact v5 ok.ft hs hv
      · exact hvr
end K46
namespace K46
open PySem PySem.Spec PyProof.Rows L2 FL Cm
set_option maxHeartbeats 0
theorem rowsO_pow (q n : Nat) : (rowsO q n).length ≤ q ^ n := by
  rw [← rowsAll_len]
  exact List.length_filter_le _ _
structure OkT (q a b m : Nat) (us : List Cm.Tm) : Prop where
  hq : q = 2 ∨ q = 3
  ha : 1 ≤ a ∧ a ≤ 3
  hb : 1 ≤ b ∧ b ≤ 3
  hab : a * b ≤ 6
  h3 : q = 3 → a * b = 6 → m ≤ 2
  hm : 1 ≤ m ∧ m ≤ 6
  ft : ∀ t ∈ us, FTm t m a b
  nd : (us.map Cm.Tm.pl).Nodup
theorem OkT.tk {q a b m : Nat} {us : List Cm.Tm} (h : OkT q a b m us) : TkB a b m q us := by
  have ha := h.ha
  have hb := h.hb
  have hm := h.hm
  have hq := h.hq
  refine ⟨h.hq, by omega, by omega, by omega, h.ft, ?_⟩
  unfold pairsO
  rw [Cm.pairs_len]
  refine Nat.le_trans (Nat.mul_le_mul (rowsO_pow q a) (rowsO_pow q b)) ?_
  rw [← Nat.pow_add]
  exact Nat.le_trans (Nat.pow_le_pow_left (by omega : q ≤ 3) _) (Nat.le_trans (Nat.pow_le_pow_right (by decide) (by omega : a + b ≤ 6)) (by decide))
theorem ms3 {q a b m d s : Nat} (hq : q = 2 ∨ q = 3) (ha : 1 ≤ a ∧ a ≤ 3) (hb : 1 ≤ b ∧ b ≤ 3) (hab : a * b ≤ 6) (h3 : q = 3 → a * b = 6 → m ≤ 2) (hd : d ≤ m) (h1 : d + s ≤ d * a) (h2 : d + s ≤ d * b) (h3' : d + s ≤ a * b) : msF (Ptb q a b).length s ≤ 3000 := by
  obtain ⟨r1, r2, r3, r4, r5, r6, r7⟩ := rowsO_len1
  rw [ptb_len]
  have z : ∀ n : Int, msF n 0 ≤ 3000 := fun n => by show (1 : Int) ≤ 3000; decide
  have ca : a = 1 ∨ a = 2 ∨ a = 3 := by omega
  have cb : b = 1 ∨ b = 2 ∨ b = 3 := by omega
  rcases ca with rfl | rfl | rfl
  · obtain rfl : s = 0 := by omega
    exact z _
  · rcases cb with rfl | rfl | rfl
    · obtain rfl : s = 0 := by omega
      exact z _
    · have : s = 0 ∨ s = 1 ∨ s = 2 := by omega
      rcases hq with rfl | rfl
      · rw [r2]; rcases this with rfl | rfl | rfl <;> decide
      · rw [r6]; rcases this with rfl | rfl | rfl <;> decide
    · rcases hq with rfl | rfl
      · have : s = 0 ∨ s = 1 ∨ s = 2 ∨ s = 3 := by omega
        rw [r2, r3]; rcases this with rfl | rfl | rfl | rfl <;> decide
      · have := h3 rfl rfl
        have : s = 0 ∨ s = 1 ∨ s = 2 := by omega
        rw [r6, r7]; rcases this with rfl | rfl | rfl <;> decide
  · rcases cb with rfl | rfl | rfl
    · obtain rfl : s = 0 := by omega
      exact z _
    · rcases hq with rfl | rfl
      · have : s = 0 ∨ s = 1 ∨ s = 2 ∨ s = 3 := by omega
        rw [r2, r3]; rcases this with rfl | rfl | rfl | rfl <;> decide
      · have := h3 rfl rfl
        have : s = 0 ∨ s = 1 ∨ s = 2 := by omega
        rw [r6, r7]; rcases this with rfl | rfl | rfl <;> decide
    · omega
/-- the least count of these -/
theorem okT_least {q a b m : Nat} {us : List Cm.Tm} (h : OkT q a b m us) : ∃ (r : Nat) (ps : List Pr), leO a b m q us = .tup true [.str "least", .int (r : Nat), schO a b m ps] ∧ RkF a b m q (tsum us) r ∧ ∀ r', RkF a b m q (tsum us) r' → r ≤ r' := by
  have ok := h.tk
  have hmany := many_ge h.hq a b
  obtain ⟨s, y, hs, hle, hty, hmin⟩ := leF_some ok
  obtain ⟨l1, l2, l3⟩ := more_le ok hmin
  obtain ⟨S, rfl⟩ := never_open ok hty (ms3 h.hq h.ha h.hb h.hab h.h3 ok.b0 l1 l2 l3)
  refine ⟨(B0 a b m q us).length + s, _, by unfold leO; rw [hle], (rk_lst ok h.nd).mp (lst_some ok (by omega) hty), fun r' hr' => lst_min ok hmin ((rk_lst ok h.nd).mpr hr')⟩
/-- as they are drawn -/
structure Ln (q a b m : Nat) : Prop where
  hq : q = 2 ∨ q = 3
  h : (a = 2 ∧ b = 2 ∧ 1 ≤ m ∧ m ≤ 3) ∨ (a = 1 ∧ 1 ≤ b ∧ b ≤ 3 ∧ 1 ≤ m ∧ m ≤ 2) ∨ (b = 1 ∧ 1 ≤ a ∧ a ≤ 3 ∧ 1 ≤ m ∧ m ≤ 2) ∨ (q = 2 ∧ ((a = 2 ∧ b = 3) ∨ (a = 3 ∧ b = 2)) ∧ m = 1)
theorem Ln.self {q a b m : Nat} {us : List Cm.Tm} (h : Ln q a b m) (ft : ∀ t ∈ us, FTm t m a b) (nd : (us.map Cm.Tm.pl).Nodup) : OkT q a b m us := by
  have := h.h
  refine ⟨h.hq, by omega, by omega, ?_, fun hq h6 => ?_, by omega, ft, nd⟩
  · rcases this with ⟨rfl, rfl, _⟩ | ⟨rfl, _⟩ | ⟨rfl, _⟩ | ⟨_, ⟨rfl, rfl⟩ | ⟨rfl, rfl⟩, _⟩ <;> omega
  · rcases this with ⟨rfl, rfl, _⟩ | ⟨rfl, _⟩ | ⟨rfl, _⟩ | ⟨_, ⟨rfl, rfl⟩ | ⟨rfl, rfl⟩, _⟩ <;> omega
theorem Ln.vr {q a b m : Nat} {ts : List Cm.Tm} (h : Ln q a b m) {d : D} (hv : Vr a b m q ts d) : ∃ (a' b' m' : Nat) (us : List Cm.Tm), d = tskD a' b' m' us ∧ OkT q a' b' m' us ∧ ∀ r, RkF a' b' m' q (tsum us) r ↔ RkF a b m q (tsum ts) r := by
  obtain ⟨a', b', m', us, rfl, hs, hf, nd, hr⟩ := hv
  have := h.h
  have hq := h.hq
  refine ⟨a', b', m', us, rfl, ⟨h.hq, by omega, by omega, ?_, fun hq3 h6 => ?_, by omega, hf, nd⟩, hr⟩
  · rcases hs with ⟨rfl, rfl, rfl⟩ | ⟨rfl, rfl, rfl⟩ | ⟨rfl, rfl, rfl⟩ | ⟨rfl, rfl, rfl⟩
    all_goals
      rcases this with ⟨e1, e2, _⟩ | ⟨e1, _⟩ | ⟨e1, _⟩ | ⟨_, ⟨e1, e2⟩ | ⟨e1, e2⟩, e3⟩
      all_goals first
        | (subst e1; subst e2; subst e3; decide)
        | (subst e1; subst e2; omega)
        | (subst e1; omega)
        | (subst e1; exact Nat.le_trans (Nat.mul_le_mul (by omega : _ ≤ 3) (by omega : _ ≤ 2)) (by decide))
        | (subst e1; exact Nat.le_trans (Nat.mul_le_mul (by omega : _ ≤ 2) (by omega : _ ≤ 3)) (by decide))
  · rcases hs with ⟨rfl, rfl, rfl⟩ | ⟨rfl, rfl, rfl⟩ | ⟨rfl, rfl, rfl⟩ | ⟨rfl, rfl, rfl⟩
    all_goals
      rcases this with ⟨e1, e2, _⟩ | ⟨e1, _⟩ | ⟨e1, _⟩ | ⟨_, ⟨e1, e2⟩ | ⟨e1, e2⟩, e3⟩
      all_goals first
        | omega
        | (subst e1; omega)
        | (subst e1; subst e2; omega)
def prT (P : Nat) (l r : List Int) (b i : Nat) : List Cm.Tm := (List.range i).flatMap fun (i : Nat) => (List.range b).map fun (j : Nat) => ⟨(P : Nat), (i : Nat), (j : Nat), l.getD i 0 * r.getD j 0⟩
theorem prT_succ (P : Nat) (l r : List Int) (b i : Nat) : prT P l r b (i + 1) = prT P l r b i ++ (List.range b).map fun (j : Nat) => ⟨(P : Nat), (i : Nat), (j : Nat), l.getD i 0 * r.getD j 0⟩ := by
  unfold prT
  rw [List.range_succ, List.flatMap_append]; simp
theorem prT_len (P : Nat) (l r : List Int) (b i : Nat) : (prT P l r b i).length = i * b := by
  induction i with
  | zero => simp [prT]
  | succ i ih => rw [prT_succ, List.length_append, ih, List.length_map, List.length_range, Nat.succ_mul]
theorem prT_ft {P m a b : Nat} {l r : List Int} (hP : P < m) : ∀ t ∈ prT P l r b a, FTm t m a b := fun t ht => by
  obtain ⟨i, hi, ht⟩ := List.mem_flatMap.mp ht
  obtain ⟨j, hj, e⟩ := List.mem_map.mp ht
  rw [← e]
  have hi := List.mem_range.mp hi
  have hj := List.mem_range.mp hj
  exact ⟨by show (0 : Int) ≤ (P : Nat); omega, by show ((P : Nat) : Int) < m; omega, by show (0 : Int) ≤ (i : Nat); omega, by show ((i : Nat) : Int) < a; omega, by show (0 : Int) ≤ (j : Nat); omega, by show ((j : Nat) : Int) < b; omega⟩
theorem prT_sum {P m a b : Nat} {l r : List Int} {k i j : Nat} (hk : k < m) (hi : i < a) (hj : j < b) : tsum (prT P l r b a) [(k : Int), i, j] = (⟨l, r, sgV P m⟩ : Pr).one k i j := by
  rw [tsum_Sgl]
  unfold prT Pr.one
  rw [Sg_flatMap]
  dsimp only
  rw [sgV_get]
  have e : ∀ i' ∈ List.range a, (Sg ((List.range b).map fun (j : Nat) => (⟨(P : Nat), (i' : Nat), (j : Nat), l.getD i' 0 * r.getD j 0⟩ : Cm.Tm)) fun t => if t.pl = [(k : Int), i, j] then t.c else 0) = if i' = i then (if k = P then l.getD i 0 * r.getD j 0 else 0) else 0 := fun i' _ => by
    rw [Sg_map]
    by_cases h1 : i' = i
    · subst h1
      rw [if_pos rfl, Sg_congr (g := fun j' => if j' = j then (if k = P then l.getD i' 0 * r.getD j 0 else 0) else 0) fun j' _ => ?_, Sg_at hj]
      show (if [((P : Nat) : Int), (i' : Int), (j' : Int)] = [(k : Int), i', j] then l.getD i' 0 * r.getD j' 0 else 0) = _
      by_cases h2 : j' = j
      · subst h2
        rw [if_pos rfl]
        by_cases h3 : k = P
        · subst h3; rw [if_pos rfl, if_pos rfl]
        · rw [if_neg (fun e => h3 (pl_eq.mp e).1.symm), if_neg h3]
      · rw [if_neg (fun e => h2 (pl_eq.mp e).2.2), if_neg h2]
    · rw [if_neg h1]
      refine Sg_zero' fun j' _ => ?_
      show (if [((P : Nat) : Int), (i' : Int), (j' : Int)] = [(k : Int), i, j] then l.getD i' 0 * r.getD j' 0 else 0) = _
      rw [if_neg (fun e => h1 (pl_eq.mp e).2.1)]
  rw [Sg_congr e, Sg_at hi]
  by_cases h3 : k = P
  · rw [if_pos h3, if_pos ⟨h3, hk⟩, Int.one_mul]
  · rw [if_neg h3, if_neg (fun h => h3 h.1), Int.zero_mul]
end K46
namespace K46
open PySem PySem.Spec PyProof.Rows L2 FL Cm
set_option maxHeartbeats 0
theorem of_dec {p : Prop} [Decidable p] {b : Bool} (h : decide p = b) : (p ↔ b = true) := by
  rw [← h, decide_eq_true_iff]
theorem ln_of {q a b : Nat} {b5 b4 : Bool} {v w : Int} (hq : q = 2 ∨ q = 3) (h : (a = 2 ∧ b = 2) ∨ (a = 1 ∧ 1 ≤ b ∧ b ≤ 3) ∨ (b = 1 ∧ 1 ≤ a ∧ a ≤ 3) ∨ (q = 2 ∧ ((a = 2 ∧ b = 3) ∨ (a = 3 ∧ b = 2)))) (h5 : (a : Int) + (b : Int) = 5 ↔ b5 = true) (h4 : (a : Int) * (b : Int) = 4 ↔ b4 = true) (v0 : 0 ≤ v) (v1 : v < w) (hw : w = (if b5 = true then 1 else 2) + (if b4 = true then 1 else 0)) : ∃ m : Nat, (m : Int) = 1 + v ∧ Ln q a b m := by
  refine ⟨(1 + v).toNat, by omega, hq, ?_⟩
  rcases h with ⟨rfl, rfl⟩ | ⟨rfl, hb⟩ | ⟨rfl, ha⟩ | ⟨rfl, ⟨rfl, rfl⟩ | ⟨rfl, rfl⟩⟩
  · have e5 : b5 = false := by cases b5 <;> simp at h5 ⊢
    have e4 : b4 = true := h4.mp rfl
    subst e5; subst e4
    simp at hw
    omega
  · have e5 : b5 = false := by
      cases b5 with
      | false => rfl
      | true => have := h5.mpr rfl; omega
    have e4 : b4 = false := by
      cases b4 with
      | false => rfl
      | true => have := h4.mpr rfl; omega
    subst e5; subst e4
    simp at hw
    omega
  · have e5 : b5 = false := by
      cases b5 with
      | false => rfl
      | true => have := h5.mpr rfl; omega
    have e4 : b4 = false := by
      cases b4 with
      | false => rfl
      | true => have := h4.mpr rfl; omega
    subst e5; subst e4
    simp at hw
    omega
  · have e5 : b5 = true := h5.mp rfl
    have e4 : b4 = false := by cases b4 <;> simp at h4 ⊢
    subst e5; subst e4
    simp at hw
    omega
  · have e5 : b5 = true := h5.mp rfl
    have e4 : b4 = false := by cases b4 <;> simp at h4 ⊢
    subst e5; subst e4
    simp at hw
    omega
abbrev Rs (f : FSpec → FSpec → FSpec → FSpec → FSpec → FSpec → FSpec → FSpec → FSpec → RS) (cv : Addr) : RS := f r_law_box r_law_scheme_2 r_law_others r_law_take r_law_terms (r_least_over cv) r_law_part_2 r_law_sums_2 r_law_put
theorem l3_ok {cv : Addr} {ns : List Int} {i : Nat} {s2 s3 s4 s5 s6 s7 s8 s9 s10 s11 s12 s13 s14 s15 s16 s17 : Option D} {E : EE} {F : FL.Fin}
    (h : ∀ y2 y3 y4 y5 y6 y7 y8 y9 y10 y11 y12 y13 y14 y15 y16 y17, F.nx [some (.ro false (ns.map D.int)), some (.int (0 + i)), y2, y3, y4, y5, y6, y7, y8, y9, y10, y11, y12, y13, y14, y15, y16, y17, none]) :
    Rs rb_law_l3 cv [some (.ro false (ns.map D.int)), some (.int (0 + i)), s2, s3, s4, s5, s6, s7, s8, s9, s10, s11, s12, s13, s14, s15, s16, s17, none] E F := by
  refine ⟨ns, _, rfl, by omega, fun x _ => ?_⟩
  refine ⟨x, 2, rfl, by decide, fun v x _ v0 v1 => ?_⟩
  obtain ⟨q, hqv⟩ : ∃ q : Nat, (q : Int) = 2 + v := ⟨(2 + v).toNat, by omega⟩
  have hq : q = 2 ∨ q = 3 := by omega
  have ev : (D.int ((fun i => 2 + i) v)).frz = D.int (q : Int) := by show D.int (2 + v) = _; rw [hqv]
  conv => whnf
  rw [ev]
  have key : ∃ L : List D, atI [D.lst .ice [.tup false [.int 2, .int 2], .tup false [.int 2, .int 3], .tup false [.int 1, .int 3], .tup false [.int 3, .int 2], .tup false [.int 3, .int 1]], D.lst .ice [.tup false [.int 2, .int 2], .tup false [.int 1, .int 3], .tup false [.int 2, .int 1], .tup false [.int 2, .int 2], .tup false [.int 1, .int 2]]] (2 + v - 2) = some (.lst .ice L) ∧ ∀ w : Int, 0 ≤ w → w < 5 → ∃ a b : Nat, atI L w = some (.tup false [.int a, .int b]) ∧ ((a = 2 ∧ b = 2) ∨ (a = 1 ∧ 1 ≤ b ∧ b ≤ 3) ∨ (b = 1 ∧ 1 ≤ a ∧ a ≤ 3) ∨ (q = 2 ∧ ((a = 2 ∧ b = 3) ∨ (a = 3 ∧ b = 2)))) := by
    rw [← hqv]
    clear hqv ev
    rcases hq with rfl | rfl
    · refine ⟨_, rfl, fun w h0 h1 => ?_⟩
      have : w = 0 ∨ w = 1 ∨ w = 2 ∨ w = 3 ∨ w = 4 := by omega
      rcases this with rfl | rfl | rfl | rfl | rfl
      · exact ⟨2, 2, rfl, by omega⟩
      · exact ⟨2, 3, rfl, by omega⟩
      · exact ⟨1, 3, rfl, by omega⟩
      · exact ⟨3, 2, rfl, by omega⟩
      · exact ⟨3, 1, rfl, by omega⟩
    · refine ⟨_, rfl, fun w h0 h1 => ?_⟩
      have : w = 0 ∨ w = 1 ∨ w = 2 ∨ w = 3 ∨ w = 4 := by omega
      rcases this with rfl | rfl | rfl | rfl | rfl
      · exact ⟨2, 2, rfl, by omega⟩
      · exact ⟨1, 3, rfl, by omega⟩
      · exact ⟨2, 1, rfl, by omega⟩
      · exact ⟨2, 2, rfl, by omega⟩
      · exact ⟨1, 2, rfl, by omega⟩
  obtain ⟨L, hL, hw⟩ := key
  refine pick_of hL rfl ?_
  refine ⟨x, 5, rfl, by decide, fun w x _ w0 w1 => ?_⟩
  obtain ⟨a, b, eL, hLen⟩ := hw w w0 w1
  refine pick_of eL rfl ⟨rfl, ?_⟩
  have ma : MulOk (a : Int) (b : Int) := (bt_in (n := 10) (B := 100) (by omega) (by omega) (by decide)).ok (bt_in (n := 10) (B := 100) (by omega) (by omega) (by decide))
  conv => whnf
  generalize h5 : decide ((a : Int) + (b : Int) = 5) = b5
  cases b5
  all_goals
    refine ⟨ma, ?_⟩
    conv => whnf
    generalize h4 : decide ((a : Int) * (b : Int) = 4) = b4
    cases b4
  all_goals
    refine ⟨x, _, rfl, by decide, fun v x _ v0 v1 => ?_⟩
    obtain ⟨m, hm, hLn⟩ := ln_of hq hLen (of_dec h5) (of_dec h4) v0 v1 (by decide)
    have ev : (D.int ((fun i => 1 + i) v)).frz = D.int (m : Int) := by show D.int (1 + v) = _; rw [hm]
    conv => whnf
    rw [ev]
    have bd := hLn.h
    have hm6 : 1 ≤ m ∧ m ≤ 3 := by omega
    have ha3 : 1 ≤ a ∧ a ≤ 3 := by omega
    have hb3 : 1 ≤ b ∧ b ≤ 3 := by omega
    clear bd
    refine ⟨x, 4, rfl, by decide, fun cnt x _ c0 c1 => ?_⟩
    refine ⟨x, a, b, m, cnt, rfl, by omega, by omega, by omega, by omega, fun ps x _ hl hok => ?_⟩
    have C : Sck a b m ps := ⟨fun p hp => ⟨(hok p hp).ll, (hok p hp).lr, (hok p hp).lo⟩, fun p hp => ⟨fun x hx => bt_in ((hok p hp).bl x hx).1 ((hok p hp).bl x hx).2, fun x hx => bt_in ((hok p hp).br x hx).1 ((hok p hp).br x hx).2, fun x hx => bt_in ((hok p hp).bo x hx).1 ((hok p hp).bo x hx).2⟩, by omega, by omega, by omega, by omega⟩
    have So := C.sd
    have lO := pt3_len So.nd So.pt (by omega) (by omega) (by omega)
    have bx := C.box
    refine ⟨a, b, m, ps, rfl, C.sz, C.b4, by omega, by omega, fun _ => ?_⟩
    refine ⟨gdT (nz (fuTs ps)) (tsum (fuTs ps)), ?_, ?_, fun _ => ?_⟩
    · rw [So.sumI]; rfl
    · have e := So.sumI
      simp only [sumI, gdD] at e
      injection e with _ _ e1 _
      have := congrArg List.length e1
      rw [List.length_map, List.length_map] at this
      omega
    have fts := So.fits (by decide)
    have ndt := canonT_nd (gdT (nz (fuTs ps)) (tsum (fuTs ps)))
    have lnt : (canonT (gdT (nz (fuTs ps)) (tsum (fuTs ps)))).length ≤ 1000 := by
      have h1 := canonT_len (gdT (nz (fuTs ps)) (tsum (fuTs ps)))
      have h2 : (gdT (nz (fuTs ps)) (tsum (fuTs ps))).length = (nz (fuTs ps)).length := List.length_map _
      omega
    generalize canonT (gdT (nz (fuTs ps)) (tsum (fuTs ps))) = ts at *
    have ft : ∀ t ∈ ts, FTm t m a b := fun t h => ft_of (fts t h)
    have ok := hLn.self ft ndt
    obtain ⟨r, sc, hlo, hr1, hr2⟩ := okT_least ok
    refine ⟨a, b, m, q, ts, rfl, ok.tk, fun _ => ?_⟩
    conv => whnf
    rw [hlo]
    have otb : OtB a b m q ts := ⟨hq, by omega, by omega, by omega, ft, fun t h => bt_in (n := 100) (B := 2 ^ 64) (by have := (fts t h).c0; omega) (by have := (fts t h).c1; omega) (by decide), lnt⟩
    refine ⟨x, a, b, m, q, ts, rfl, otb, fun L x _ hL => ?_⟩
    refine ⟨forR_on [] [9] (fun _ z => z = []) _ _ rfl ?_ ?_⟩
    · rintro k d z j hd hj rfl
      obtain ⟨g9, rfl⟩ := len1 hj
      obtain ⟨a', b', m', us, rfl, ok', hsame⟩ := hLn.vr (hL d (List.mem_of_getElem? hd))
      obtain ⟨r', sc', hlo', hr1', hr2'⟩ := okT_least ok'
      have er : r' = r := Nat.le_antisymm (hr2' _ ((hsame r).mpr hr1)) (hr2 _ ((hsame r').mp hr1'))
      subst er
      refine ⟨a', b', m', q, us, rfl, ok'.tk, fun _ => ?_⟩
      conv => whnf
      rw [hlo']
      refine ⟨rfl, rfl, Nat.le_trans (Nat.min_le_right _ _) (Nat.le_of_ble_eq_true rfl), fun h => (ne_no h rfl rfl).elim, fun _ => ⟨rfl, rfl⟩⟩
    · rintro z j hj rfl
      obtain ⟨g9, rfl⟩ := len1 hj
      have okE := hLn.self (us := []) (fun t h => (by cases h)) .nil
      obtain ⟨rE, scE, hloE, _, hrE⟩ := okT_least okE
      have zE : rE = 0 := Nat.le_zero.mp (hrE 0 ⟨[], Nat.le_refl _, fun p hp => (by cases hp), fun k i j _ _ _ => rfl⟩)
      subst zE
      refine ⟨a, b, m, q, [], rfl, okE.tk, fun _ => ?_⟩
      conv => whnf
      rw [hloE]
      refine ⟨rfl, rfl, Nat.le_trans (Nat.min_le_right _ _) (Nat.le_of_ble_eq_true rfl), fun h => (ne_no h rfl rfl).elim, fun _ => ?_⟩
      refine ⟨x, a, rfl, by omega, fun l x _ ll lb => ?_⟩
      refine ⟨x, b, rfl, by omega, fun rr x _ rl rb => ⟨rfl, ?_⟩⟩
      refine ⟨x, m, rfl, by omega, fun P x _ p0 p1 => ?_⟩
      obtain ⟨P, rfl⟩ : ∃ P' : Nat, P = (P' : Int) := ⟨P.toNat, by omega⟩
      refine ⟨⟨by omega, by omega, by omega⟩, ⟨forR_on [11] [12] (fun k z => z = [some (.lst .flat ((prT P l rr b k).map tmD))]) _ _ rfl ?_ ?_⟩⟩
      · rintro k d z j hd hj rfl
        obtain ⟨g12, rfl⟩ := len1 hj
        obtain ⟨rfl, hk⟩ := rgD_at hd
        have hk : k < a := by omega
        have hka : k < l.length := by omega
        rw [show (0 : Int) + (k : Int) = (k : Int) from Int.zero_add _]
        refine ⟨⟨by omega, by omega, by omega⟩, ⟨compR_allE (List.range b) (fun j : Nat => D.int (j : Nat)) (fun j : Nat => tmD ⟨(P : Nat), (k : Nat), (j : Nat), l.getD k 0 * rr.getD j 0⟩) (rgD_nat b) (fun j hj => ⟨fun _ => ?_, fun h => nomatch h⟩) (fun _ => rfl) ?_⟩⟩
        · have hj := List.mem_range.mp hj
          have e1 : atI (l.map D.int) ((k : Nat) : Int) = some (.int (l.getD k 0)) := at_nat (by rw [List.getElem?_map, List.getElem?_eq_getElem hka, List.getD_eq_getElem?_getD, List.getElem?_eq_getElem hka]; rfl)
          have hjr : j < rr.length := by omega
          have e2 : atI (rr.map D.int) ((j : Nat) : Int) = some (.int (rr.getD j 0)) := at_nat (by rw [List.getElem?_map, List.getElem?_eq_getElem hjr, List.getD_eq_getElem?_getD, List.getElem?_eq_getElem hjr]; rfl)
          have m1 := lb _ (Cm.getD_mem hka)
          have m2 := rb _ (Cm.getD_mem hjr)
          refine pick_of e1 rfl (pick_of e2 rfl ⟨?_, rfl, rfl⟩)
          exact (bt_in (n := 100) (B := 1000) (by omega) (by omega) (by decide)).ok (bt_in (n := 100) (B := 1000) (by omega) (by omega) (by decide))
        · have hkb : k * b ≤ 3 * 3 := Nat.mul_le_mul (by omega) (by omega)
          refine ⟨rfl, ?_, rfl, ?_⟩
          · rw [List.length_map, List.length_map, prT_len, List.length_range, sizeLine_eq]; omega
          · rw [prT_succ, List.map_append, List.map_map]; rfl
      · rintro z j hj rfl
        obtain ⟨g12, rfl⟩ := len1 hj
        have er : (rgD 0 (a : Int)).length = a := by rw [rgD_len]; omega
        rw [er]
        have hab9 : a * b ≤ 3 * 3 := Nat.mul_le_mul (by omega) (by omega)
        have ft2 : ∀ t ∈ canonT (ts ++ prT P l rr b a), FTm t m a b := canon_ft fun t ht => by
          rcases List.mem_append.mp ht with ht | ht
          · exact ft t ht
          · exact prT_ft (by omega) t ht
        have ok2 := hLn.self ft2 (canonT_nd _)
        obtain ⟨r2, sc2, hlo2, h21, h22⟩ := okT_least ok2
        have sp : (⟨l, rr, sgV P m⟩ : Pr).sz a b m := ⟨by show l.length = a; omega, by show rr.length = b; omega, sgV_len _ _⟩
        have b1 : r2 ≤ r + 1 := h22 _ (rk_more sp (s := 1) (fun k i j hk hi hj => by rw [tsum_canonT, tsum_app, prT_sum hk hi hj, Int.one_mul]) hr1)
        have b2 : r ≤ r2 + 1 := hr2 _ (rk_more sp (s := -1) (fun k i j hk hi hj => by rw [tsum_canonT, tsum_app, prT_sum hk hi hj]; congr 1; omega) h21)
        refine ⟨?_, a, b, m, ts ++ prT P l rr b a, ?_, by rw [List.length_append, prT_len]; omega, fun _ => ?_⟩
        · rw [List.length_map, List.length_map, prT_len, sizeLine_eq]; omega
        · rw [List.map_append]; rfl
        · refine ⟨a, b, m, q, canonT (ts ++ prT P l rr b a), rfl, ok2.tk, fun _ => ?_⟩
          conv => whnf
          rw [hlo2]
          refine ⟨fun _ => ⟨fun _ => ⟨fun h9 => ?_, fun _ => h _ _ _ _ _ _ _ _ _ _ _ _ _ _ _ _⟩, fun h9 => absurd h9 (by decide)⟩, fun h9 => absurd h9 (by decide)⟩
          exfalso
          have h9 : (1 : Int) < (if ((r2 : Int) - (r : Int)) < 0 then -((r2 : Int) - (r : Int)) else ((r2 : Int) - (r : Int))) := by simpa using h9
          split at h9 <;> omega
theorem forR_mid {body : D → RS} {E : EE} {F : FL.Fin} (pre post : En) (m : Nat) (ds : List D) (js0 : En) (h0 : js0.length = m)
    (step : ∀ (i : Nat) (d : D) (js : En), ds[i]? = some d → js.length = m → nf (pre ++ (js ++ post)) fun ρ => body d ρ E (F.lp fun ρ' => ∃ js : En, ρ' = pre ++ (js ++ post) ∧ js.length = m))
    (fin : ∀ js : En, js.length = m → nf (pre ++ (js ++ post)) F.nx) : forR body ds (pre ++ (js0 ++ post)) E F := by
  refine forR_inv (fun k ρ' => ∃ js : En, ρ' = pre ++ (js ++ post) ∧ js.length = m) ds 0 _ ⟨js0, rfl, h0⟩ (fun i d ρ hd h => ?_) fun ρ h => ?_
  · obtain ⟨js, rfl, hj⟩ := h
    exact nf_of (step i d js hd hj)
  · obtain ⟨js, rfl, hj⟩ := h
    exact nf_of (fin js hj)
theorem len17 {α : Type} {l : List α} (h : l.length = 17) : ∃ a1 a2 a3 a4 a5 a6 a7 a8 a9 b1 b2 b3 b4 b5 b6 b7 b8, l = [a1, a2, a3, a4, a5, a6, a7, a8, a9, b1, b2, b3, b4, b5, b6, b7, b8] := by
  match l, h with
  | [a1, a2, a3, a4, a5, a6, a7, a8, a9, b1, b2, b3, b4, b5, b6, b7, b8], _ => exact ⟨_, _, _, _, _, _, _, _, _, _, _, _, _, _, _, _, _, rfl⟩
def r_law : FSpec := fun ds _ Q => ∃ ns : List Int, ds = [.ro false (ns.map D.int)] ∧ ∀ os, Q (.bl true) os
theorem rd_law {cv : Addr} : RD_law r_law r_law_box r_law_scheme_2 r_law_others r_law_take r_law_terms (r_least_over cv) r_law_part_2 r_law_sums_2 r_law_put := by
  rintro ds ED QD - ⟨ns, rfl, qq⟩
  show Rs rb_law cv [some (.ro false (ns.map D.int)), none, none, none, none, none, none, none, none, none, none, none, none, none, none, none, none, none, none] _ _
  refine ⟨?_, ⟨forR_mid [some (.ro false (ns.map D.int))] [none] 17 _ [none, none, none, none, none, none, none, none, none, none, none, none, none, none, none, none, none] rfl ?_ ?_⟩⟩
  · refine ⟨by decide, ?_, ?_⟩
    · (repeat' split) <;> omega
    · (repeat' split) <;> omega
  · intro i x js hx hj
    obtain ⟨e1, e2, e3, e4, e5, e6, e7, e8, e9, e10, e11, e12, e13, e14, e15, e16, e17, rfl⟩ := len17 hj
    obtain ⟨rfl, _⟩ := rgD_at hx
    exact l3_ok fun _ _ _ _ _ _ _ _ _ _ _ _ _ _ _ _ => ⟨[_, _, _, _, _, _, _, _, _, _, _, _, _, _, _, _, _], rfl, rfl⟩
  · intro js hj
    obtain ⟨e1, e2, e3, e4, e5, e6, e7, e8, e9, e10, e11, e12, e13, e14, e15, e16, e17, rfl⟩ := len17 hj
    exact qq _
end K46
namespace K46
open PySem PySem.Spec PyProof.Rows L2 FL Cm
set_option maxHeartbeats 0
section
variable {P : Program} {w : World} {K : PySem.W.Frag} {mg : Str → Option Value} {base : Heap} {A : Ad}
theorem A_law_cell_at (t : Tb K mg A) : FnOk P w K mg base (L2.CX P w) 1 A.f_law_cell_at A.fd_law_cell_at ["_law_script", "_law_k"] (FnD K 2 [] r_law_cell_at) := ok_law_cell_at (k := 0) t.D_law_cell_at t.z_len rd_law_cell_at
theorem A_law_mixed (t : Tb K mg A) : FnOk P w K mg base (L2.CX P w) 1 A.f_law_mixed A.fd_law_mixed ["_law_number_here", "_law_k"] (FnD K 2 [] r_law_mixed) := ok_law_mixed (k := 0) t.D_law_mixed rd_law_mixed
theorem A_law_box (t : Tb K mg A) : FnOk P w K mg base (L2.CX P w) 2 A.f_law_box A.fd_law_box ["_law_script", "_law_k"] (FnD K 2 [] r_law_box) := ok_law_box (k := 1) t.D_law_box t.D_law_cell_at t.D_law_mixed ((A_law_cell_at t).mono (by decide)) ((A_law_mixed t).mono (by decide)) t.z_abs t.z_int rd_law_box
theorem A_law_take (t : Tb K mg A) : FnOk P w K mg base (L2.CX P w) 2 A.f_law_take A.fd_law_take ["_law_box_here", "_law_many"] (FnD K 2 [0] r_law_take) := ok_law_take (k := 1) t.D_law_take t.D_law_mixed ((A_law_mixed t).mono (by decide)) rd_law_take
theorem A_law_number_2 (t : Tb K mg A) : FnOk P w K mg base (L2.CX P w) 3 A.f_law_number_2 A.fd_law_number_2 ["_law_box_here"] (FnD K 1 [0] r_law_number_2) := ok_law_number_2 (k := 2) t.D_law_number_2 t.D_law_take ((A_law_take t).mono (by decide)) rd_law_number_2
theorem A_law_part_2 (t : Tb K mg A) : FnOk P w K mg base (L2.CX P w) 4 A.f_law_part_2 A.fd_law_part_2 ["_law_box_here", "_law_length"] (FnD K 2 [0] r_law_part_2) := ok_law_part_2 (k := 3) t.D_law_part_2 t.D_law_number_2 ((A_law_number_2 t).mono (by decide)) t.z_range t.z_tuple rd_law_part_2
theorem A_law_scheme_2 (t : Tb K mg A) : FnOk P w K mg base (L2.CX P w) 5 A.f_law_scheme_2 A.fd_law_scheme_2 ["_law_box_here", "_law_lengths", "_law_count"] (FnD K 3 [0] r_law_scheme_2) := ok_law_scheme_2 (k := 4) t.D_law_scheme_2 t.D_law_take t.D_law_part_2 ((A_law_take t).mono (by decide)) ((A_law_part_2 t).mono (by decide)) t.z_len t.z_range t.z_tuple rd_law_scheme_2
theorem A_law_places (t : Tb K mg A) : FnOk P w K mg base (L2.CX P w) 3 A.f_law_places A.fd_law_places ["_law_box_here", "_law_many"] (FnD K 2 [0] r_law_places) := ok_law_places (k := 2) t.D_law_places t.D_law_take ((A_law_take t).mono (by decide)) t.z_len t.z_list t.z_range rd_law_places
theorem A_law_put (t : Tb K mg A) : FnOk P w K mg base (L2.CX P w) 1 A.f_law_put A.fd_law_put ["_law_lengths", "_law_terms_here"] (FnD K 2 [] r_law_put) := ok_law_put (k := 0) t.D_law_put t.z_sorted t.z_tuple rd_law_put
theorem A_law_others (t : Tb K mg A) : FnOk P w K mg base (L2.CX P w) 4 A.f_law_others A.fd_law_others ["_law_box_here", "_law_task", "_law_p"] (FnD K 3 [0] r_law_others) := ok_law_others (k := 3) t.D_law_others t.D_law_places t.D_law_take t.D_law_put ((A_law_places t).mono (by decide)) ((A_law_take t).mono (by decide)) ((A_law_put t).mono (by decide)) t.z_list t.z_range rd_law_others
theorem A_law_terms (t : Tb K mg A) : FnOk P w K mg base (L2.CX P w) 1 A.f_law_terms A.fd_law_terms ["_law_sums_here"] (FnD K 1 [] r_law_terms) := ok_law_terms (k := 0) t.D_law_terms t.z_sorted rd_law_terms
theorem A_less_times (t : Tb K mg A) : FnOk P w K mg base (L2.CX P w) 1 A.f_less_times A.fd_less_times ["table", "number", "other", "p"] (FnD K 4 [] r_less_times) := ok_less_times (k := 0) t.D_less_times t.z_zip rd_less_times
theorem A_what_is_left (t : Tb K mg A) : FnOk P w K mg base (L2.CX P w) 2 A.f_what_is_left A.fd_what_is_left ["base", "table", "p"] (FnD K 3 [] r_what_is_left) := ok_what_is_left (k := 1) t.D_what_is_left t.D_less_times ((A_less_times t).mono (by decide)) rd_what_is_left
theorem A_first_place (t : Tb K mg A) : FnOk P w K mg base (L2.CX P w) 1 A.f_first_place A.fd_first_place ["table"] (FnD K 1 [] r_first_place) := ok_first_place (k := 0) t.D_first_place t.z_enumerate rd_first_place
theorem A_grown_base (t : Tb K mg A) : FnOk P w K mg base (L2.CX P w) 3 A.f_grown_base A.fd_grown_base ["base", "table", "p"] (FnD K 3 [] r_grown_base) := ok_grown_base (k := 2) t.D_grown_base t.D_what_is_left t.D_first_place ((A_what_is_left t).mono (by decide)) ((A_first_place t).mono (by decide)) rd_grown_base
theorem A_base_of (t : Tb K mg A) : FnOk P w K mg base (L2.CX P w) 4 A.f_base_of A.fd_base_of ["tables", "p"] (FnD K 2 [] r_base_of) := ok_base_of (k := 3) t.D_base_of t.D_grown_base ((A_grown_base t).mono (by decide)) rd_base_of
theorem A_rows_over (t : Tb K mg A) : FnOk P w K mg base (L2.CX P w) 1 A.f_rows_over A.fd_rows_over ["length", "p"] (FnD K 2 [] r_rows_over) := ok_rows_over (k := 0) t.D_rows_over t.z_range rd_rows_over
theorem A_pairs_over (t : Tb K mg A) : FnOk P w K mg base (L2.CX P w) 2 A.f_pairs_over A.fd_pairs_over ["left", "right", "p"] (FnD K 3 [] r_pairs_over) := ok_pairs_over (k := 1) t.D_pairs_over t.D_rows_over ((A_rows_over t).mono (by decide)) rd_pairs_over
theorem A_task_tables (t : Tb K mg A) : FnOk P w K mg base (L2.CX P w) 1 A.f_task_tables A.fd_task_tables ["task", "p"] (FnD K 2 [] r_task_tables) := ok_task_tables (k := 0) t.D_task_tables t.z_range rd_task_tables
theorem A_pair_table (t : Tb K mg A) : FnOk P w K mg base (L2.CX P w) 1 A.f_pair_table A.fd_pair_table ["pair", "p"] (FnD K 2 [] r_pair_table) := ok_pair_table (k := 0) t.D_pair_table rd_pair_table
theorem A_Tables_init (t : Tb K mg A) : FnOk P w K mg base (L2.CX P w) 5 A.f_Tables_init A.fd_Tables_init ["self", "task", "p"] (FnD K 3 [0] (r_Tables_init A.cv_Tables)) := ok_Tables_init (k := 4) t.D_Tables_init t.D_base_of t.D_pairs_over t.D_task_tables t.D_pair_table ((A_base_of t).mono (by decide)) ((A_pairs_over t).mono (by decide)) ((A_task_tables t).mono (by decide)) ((A_pair_table t).mono (by decide)) t.cl_Tables t.na_Tables_base t.na_Tables_p t.na_Tables_pairs t.na_Tables_tables t.na_Tables_task rd_Tables_init
theorem A_all_sets (t : Tb K mg A) : FnOk P w K mg base (L2.CX P w) 1 A.f_all_sets A.fd_all_sets ["many", "size"] (FnD K 2 [] r_all_sets) := ok_all_sets (k := 0) t.D_all_sets t.z_len t.z_range rd_all_sets
theorem A_many_sets (t : Tb K mg A) : FnOk P w K mg base (L2.CX P w) 1 A.f_many_sets A.fd_many_sets ["many", "size"] (FnD K 2 [] r_many_sets) := ok_many_sets (k := 0) t.D_many_sets t.z_range rd_many_sets
theorem A_Tables_with_set (t : Tb K mg A) : FnOk P w K mg base (L2.CX P w) 4 A.f_Tables_with_set A.fd_Tables_with_set ["self", "numbers"] (FnD K 2 [] (r_Tables_with_set A.cv_Tables)) := ok_Tables_with_set (k := 3) t.D_Tables_with_set t.D_grown_base ((A_grown_base t).mono (by decide)) t.cl_Tables t.na_Tables_base t.na_Tables_p t.na_Tables_tables rd_Tables_with_set
theorem A_lies_in (t : Tb K mg A) : FnOk P w K mg base (L2.CX P w) 3 A.f_lies_in A.fd_lies_in ["base", "table", "p"] (FnD K 3 [] r_lies_in) := ok_lies_in (k := 2) t.D_lies_in t.D_first_place t.D_what_is_left ((A_first_place t).mono (by decide)) ((A_what_is_left t).mono (by decide)) rd_lies_in
theorem A_Tables_pairs_in (t : Tb K mg A) : FnOk P w K mg base (L2.CX P w) 4 A.f_Tables_pairs_in A.fd_Tables_pairs_in ["self", "base"] (FnD K 2 [] (r_Tables_pairs_in A.cv_Tables)) := ok_Tables_pairs_in (k := 3) t.D_Tables_pairs_in t.D_lies_in t.D_grown_base ((A_lies_in t).mono (by decide)) ((A_grown_base t).mono (by decide)) t.z_enumerate t.z_len t.cl_Tables t.na_Tables_p t.na_Tables_tables rd_Tables_pairs_in
theorem A_with_single (t : Tb K mg A) : FnOk P w K mg base (L2.CX P w) 1 A.f_with_single A.fd_with_single ["table", "place", "size"] (FnD K 3 [] r_with_single) := ok_with_single (k := 0) t.D_with_single t.z_int t.z_range rd_with_single
theorem A_scheme_by (t : Tb K mg A) : FnOk P w K mg base (L2.CX P w) 5 A.f_scheme_by A.fd_scheme_by ["known", "numbers"] (FnD K 2 [] (r_scheme_by A.cv_Tables)) := ok_scheme_by (k := 4) t.D_scheme_by t.D_base_of t.D_task_tables t.D_with_single t.D_what_is_left ((A_base_of t).mono (by decide)) ((A_task_tables t).mono (by decide)) ((A_with_single t).mono (by decide)) ((A_what_is_left t).mono (by decide)) t.z_enumerate t.z_len t.z_tuple t.cl_Tables t.na_Tables_p t.na_Tables_pairs t.na_Tables_tables t.na_Tables_task rd_scheme_by
theorem A_least_over (t : Tb K mg A) : FnOk P w K mg base (L2.CX P w) 7 A.f_least_over A.fd_least_over ["task", "p"] (FnD K 2 [] (r_least_over A.cv_Tables)) := ok_least_over (k := 6) t.D_least_over t.D_Tables_init t.D_all_sets t.D_many_sets t.D_Tables_with_set t.D_Tables_pairs_in t.D_scheme_by (A_Tables_init t) (by decide) ((A_all_sets t).mono (by decide)) ((A_many_sets t).mono (by decide)) ((A_Tables_with_set t).mono (by decide)) ((A_Tables_pairs_in t).mono (by decide)) ((A_scheme_by t).mono (by decide)) t.z_len t.z_range t.g_MOST_SETS t.cl_Tables t.na_Tables_base t.na_Tables_pairs t.me_Tables_pairs_in t.me_Tables_with_set t.mk_Tables t.gc_Tables rd_least_over
theorem A_law_sums_2 (t : Tb K mg A) : FnOk P w K mg base (L2.CX P w) 1 A.f_law_sums_2 A.fd_law_sums_2 ["_law_scheme_here"] (FnD K 1 [] r_law_sums_2) := ok_law_sums_2 (k := 0) t.D_law_sums_2 t.z_dict t.z_range rd_law_sums_2
theorem A_law (t : Tb K mg A) : FnOk P w K mg base (L2.CX P w) 8 A.f_law A.fd_law ["_law_script"] (FnD K 1 [] r_law) := ok_law (k := 7) t.D_law t.D_law_box t.D_law_scheme_2 t.D_law_others t.D_law_take t.D_law_terms t.D_least_over t.D_law_part_2 t.D_law_sums_2 t.D_law_put ((A_law_box t).mono (by decide)) ((A_law_scheme_2 t).mono (by decide)) ((A_law_others t).mono (by decide)) ((A_law_take t).mono (by decide)) ((A_law_terms t).mono (by decide)) ((A_least_over t).mono (by decide)) ((A_law_part_2 t).mono (by decide)) ((A_law_sums_2 t).mono (by decide)) ((A_law_put t).mono (by decide)) t.z_abs t.z_int t.z_len t.z_max t.z_min t.z_range rd_law
theorem all_mk {l : PySem.W.OpenLaw} {h : Heap} {fa : Addr} (X : K.In h) (G : h.Ns mainGlobals mg) (hfa : mg "law" = some (.ref fa))
    {cv_Tables : Addr}
    (gc_Tables : PySem.W.nsIn K mainGlobals "Tables" = some (some (.ref cv_Tables))) (pg_Tables : PySem.W.plainGet K cv_Tables Str.empty = true) (hd_Tables : PySem.W.hasDictIn K cv_Tables = true) (po_Tables : PySem.W.plainOver K cv_Tables = true) (sa_Tables : PySem.W.findIn K (.ref cv_Tables) "__setattr__" = some (some (.builtin "object.__setattr__"))) (mkc_Tables : PySem.W.makesIn K cv_Tables = true) (kc_Tables : PySem.W.keepIn K (.ref cv_Tables) = true)
    (na_Tables_base : PySem.W.findIn K (.ref cv_Tables) "base" = some none)
    (na_Tables_p : PySem.W.findIn K (.ref cv_Tables) "p" = some none)
    (na_Tables_pairs : PySem.W.findIn K (.ref cv_Tables) "pairs" = some none)
    (na_Tables_tables : PySem.W.findIn K (.ref cv_Tables) "tables" = some none)
    (na_Tables_task : PySem.W.findIn K (.ref cv_Tables) "task" = some none)
    {f0 : Addr} {od0 an0 : Option Addr} {sl0 : Array (Option Value)} {oc0 kV0 dc0 pm0 cd0 ct0 : Value}
    (a0 : PySem.W.nsIn K mainGlobals "rows_over" = some (some (.ref f0))) (l0 : K.lookup f0 = some ⟨oc0, od0, .func (PySem.W.fnOf "rows_over" "rows_over" (defArgs s_rows_over) (defBody s_rows_over) (defScope s_rows_over) .none kV0 dc0 pm0 an0 cd0 ct0), sl0⟩) (c0 : PySem.W.codeIn K cd0 "rows_over" = true) (k0 : PySem.W.keepIn K (.ref f0) = true)
    {f1 : Addr} {od1 an1 : Option Addr} {sl1 : Array (Option Value)} {oc1 kV1 dc1 pm1 cd1 ct1 : Value}
    (a1 : PySem.W.nsIn K mainGlobals "pairs_over" = some (some (.ref f1))) (l1 : K.lookup f1 = some ⟨oc1, od1, .func (PySem.W.fnOf "pairs_over" "pairs_over" (defArgs s_pairs_over) (defBody s_pairs_over) (defScope s_pairs_over) .none kV1 dc1 pm1 an1 cd1 ct1), sl1⟩) (c1 : PySem.W.codeIn K cd1 "pairs_over" = true) (k1 : PySem.W.keepIn K (.ref f1) = true)
    {f2 : Addr} {od2 an2 : Option Addr} {sl2 : Array (Option Value)} {oc2 kV2 dc2 pm2 cd2 ct2 : Value}
    (a2 : PySem.W.nsIn K mainGlobals "pair_table" = some (some (.ref f2))) (l2 : K.lookup f2 = some ⟨oc2, od2, .func (PySem.W.fnOf "pair_table" "pair_table" (defArgs s_pair_table) (defBody s_pair_table) (defScope s_pair_table) .none kV2 dc2 pm2 an2 cd2 ct2), sl2⟩) (c2 : PySem.W.codeIn K cd2 "pair_table" = true) (k2 : PySem.W.keepIn K (.ref f2) = true)
    {f3 : Addr} {od3 an3 : Option Addr} {sl3 : Array (Option Value)} {oc3 kV3 dc3 pm3 cd3 ct3 : Value}
    (a3 : PySem.W.nsIn K mainGlobals "task_tables" = some (some (.ref f3))) (l3 : K.lookup f3 = some ⟨oc3, od3, .func (PySem.W.fnOf "task_tables" "task_tables" (defArgs s_task_tables) (defBody s_task_tables) (defScope s_task_tables) .none kV3 dc3 pm3 an3 cd3 ct3), sl3⟩) (c3 : PySem.W.codeIn K cd3 "task_tables" = true) (k3 : PySem.W.keepIn K (.ref f3) = true)
    {f4 : Addr} {od4 an4 : Option Addr} {sl4 : Array (Option Value)} {oc4 kV4 dc4 pm4 cd4 ct4 : Value}
    (a4 : PySem.W.nsIn K mainGlobals "less_times" = some (some (.ref f4))) (l4 : K.lookup f4 = some ⟨oc4, od4, .func (PySem.W.fnOf "less_times" "less_times" (defArgs s_less_times) (defBody s_less_times) (defScope s_less_times) .none kV4 dc4 pm4 an4 cd4 ct4), sl4⟩) (c4 : PySem.W.codeIn K cd4 "less_times" = true) (k4 : PySem.W.keepIn K (.ref f4) = true)
    {f5 : Addr} {od5 an5 : Option Addr} {sl5 : Array (Option Value)} {oc5 kV5 dc5 pm5 cd5 ct5 : Value}
    (a5 : PySem.W.nsIn K mainGlobals "first_place" = some (some (.ref f5))) (l5 : K.lookup f5 = some ⟨oc5, od5, .func (PySem.W.fnOf "first_place" "first_place" (defArgs s_first_place) (defBody s_first_place) (defScope s_first_place) .none kV5 dc5 pm5 an5 cd5 ct5), sl5⟩) (c5 : PySem.W.codeIn K cd5 "first_place" = true) (k5 : PySem.W.keepIn K (.ref f5) = true)
    {f6 : Addr} {od6 an6 : Option Addr} {sl6 : Array (Option Value)} {oc6 kV6 dc6 pm6 cd6 ct6 : Value}
    (a6 : PySem.W.nsIn K mainGlobals "what_is_left" = some (some (.ref f6))) (l6 : K.lookup f6 = some ⟨oc6, od6, .func (PySem.W.fnOf "what_is_left" "what_is_left" (defArgs s_what_is_left) (defBody s_what_is_left) (defScope s_what_is_left) .none kV6 dc6 pm6 an6 cd6 ct6), sl6⟩) (c6 : PySem.W.codeIn K cd6 "what_is_left" = true) (k6 : PySem.W.keepIn K (.ref f6) = true)
    {f7 : Addr} {od7 an7 : Option Addr} {sl7 : Array (Option Value)} {oc7 kV7 dc7 pm7 cd7 ct7 : Value}
    (a7 : PySem.W.nsIn K mainGlobals "grown_base" = some (some (.ref f7))) (l7 : K.lookup f7 = some ⟨oc7, od7, .func (PySem.W.fnOf "grown_base" "grown_base" (defArgs s_grown_base) (defBody s_grown_base) (defScope s_grown_base) .none kV7 dc7 pm7 an7 cd7 ct7), sl7⟩) (c7 : PySem.W.codeIn K cd7 "grown_base" = true) (k7 : PySem.W.keepIn K (.ref f7) = true)
    {f8 : Addr} {od8 an8 : Option Addr} {sl8 : Array (Option Value)} {oc8 kV8 dc8 pm8 cd8 ct8 : Value}
    (a8 : PySem.W.nsIn K mainGlobals "base_of" = some (some (.ref f8))) (l8 : K.lookup f8 = some ⟨oc8, od8, .func (PySem.W.fnOf "base_of" "base_of" (defArgs s_base_of) (defBody s_base_of) (defScope s_base_of) .none kV8 dc8 pm8 an8 cd8 ct8), sl8⟩) (c8 : PySem.W.codeIn K cd8 "base_of" = true) (k8 : PySem.W.keepIn K (.ref f8) = true)
    {f9 : Addr} {od9 an9 : Option Addr} {sl9 : Array (Option Value)} {oc9 kV9 dc9 pm9 cd9 ct9 : Value}
    (a9 : PySem.W.nsIn K mainGlobals "lies_in" = some (some (.ref f9))) (l9 : K.lookup f9 = some ⟨oc9, od9, .func (PySem.W.fnOf "lies_in" "lies_in" (defArgs s_lies_in) (defBody s_lies_in) (defScope s_lies_in) .none kV9 dc9 pm9 an9 cd9 ct9), sl9⟩) (c9 : PySem.W.codeIn K cd9 "lies_in" = true) (k9 : PySem.W.keepIn K (.ref f9) = true)
    {f10 : Addr} {od10 an10 : Option Addr} {sl10 : Array (Option Value)} {oc10 kV10 dc10 pm10 cd10 ct10 : Value}
    (a10 : PySem.W.nsIn K mainGlobals "many_sets" = some (some (.ref f10))) (l10 : K.lookup f10 = some ⟨oc10, od10, .func (PySem.W.fnOf "many_sets" "many_sets" (defArgs s_many_sets) (defBody s_many_sets) (defScope s_many_sets) .none kV10 dc10 pm10 an10 cd10 ct10), sl10⟩) (c10 : PySem.W.codeIn K cd10 "many_sets" = true) (k10 : PySem.W.keepIn K (.ref f10) = true)
    {f11 : Addr} {od11 an11 : Option Addr} {sl11 : Array (Option Value)} {oc11 kV11 dc11 pm11 cd11 ct11 : Value}
    (a11 : PySem.W.nsIn K mainGlobals "all_sets" = some (some (.ref f11))) (l11 : K.lookup f11 = some ⟨oc11, od11, .func (PySem.W.fnOf "all_sets" "all_sets" (defArgs s_all_sets) (defBody s_all_sets) (defScope s_all_sets) .none kV11 dc11 pm11 an11 cd11 ct11), sl11⟩) (c11 : PySem.W.codeIn K cd11 "all_sets" = true) (k11 : PySem.W.keepIn K (.ref f11) = true)
    {f12 : Addr} {od12 an12 : Option Addr} {sl12 : Array (Option Value)} {oc12 kV12 dc12 pm12 cd12 ct12 : Value}
    (a12 : PySem.W.findIn K (.ref cv_Tables) "__init__" = some (some (.ref f12))) (i12 : PySem.W.isFn K (.ref f12) = true) (l12 : K.lookup f12 = some ⟨oc12, od12, .func (PySem.W.fnOf "__init__" "Tables.__init__" (defArgs s_Tables_init) (defBody s_Tables_init) (defScope s_Tables_init) .none kV12 dc12 pm12 an12 cd12 ct12), sl12⟩) (c12 : PySem.W.codeIn K cd12 "Tables.__init__" = true) (k12 : PySem.W.keepIn K (.ref f12) = true)
    {f13 : Addr} {od13 an13 : Option Addr} {sl13 : Array (Option Value)} {oc13 kV13 dc13 pm13 cd13 ct13 : Value}
    (a13 : PySem.W.findIn K (.ref cv_Tables) "with_set" = some (some (.ref f13))) (i13 : PySem.W.isFn K (.ref f13) = true) (l13 : K.lookup f13 = some ⟨oc13, od13, .func (PySem.W.fnOf "with_set" "Tables.with_set" (defArgs s_Tables_with_set) (defBody s_Tables_with_set) (defScope s_Tables_with_set) .none kV13 dc13 pm13 an13 cd13 ct13), sl13⟩) (c13 : PySem.W.codeIn K cd13 "Tables.with_set" = true) (k13 : PySem.W.keepIn K (.ref f13) = true)
    {f14 : Addr} {od14 an14 : Option Addr} {sl14 : Array (Option Value)} {oc14 kV14 dc14 pm14 cd14 ct14 : Value}
    (a14 : PySem.W.findIn K (.ref cv_Tables) "pairs_in" = some (some (.ref f14))) (i14 : PySem.W.isFn K (.ref f14) = true) (l14 : K.lookup f14 = some ⟨oc14, od14, .func (PySem.W.fnOf "pairs_in" "Tables.pairs_in" (defArgs s_Tables_pairs_in) (defBody s_Tables_pairs_in) (defScope s_Tables_pairs_in) .none kV14 dc14 pm14 an14 cd14 ct14), sl14⟩) (c14 : PySem.W.codeIn K cd14 "Tables.pairs_in" = true) (k14 : PySem.W.keepIn K (.ref f14) = true)
    {f15 : Addr} {od15 an15 : Option Addr} {sl15 : Array (Option Value)} {oc15 kV15 dc15 pm15 cd15 ct15 : Value}
    (a15 : PySem.W.nsIn K mainGlobals "with_single" = some (some (.ref f15))) (l15 : K.lookup f15 = some ⟨oc15, od15, .func (PySem.W.fnOf "with_single" "with_single" (defArgs s_with_single) (defBody s_with_single) (defScope s_with_single) .none kV15 dc15 pm15 an15 cd15 ct15), sl15⟩) (c15 : PySem.W.codeIn K cd15 "with_single" = true) (k15 : PySem.W.keepIn K (.ref f15) = true)
    {f16 : Addr} {od16 an16 : Option Addr} {sl16 : Array (Option Value)} {oc16 kV16 dc16 pm16 cd16 ct16 : Value}
    (a16 : PySem.W.nsIn K mainGlobals "scheme_by" = some (some (.ref f16))) (l16 : K.lookup f16 = some ⟨oc16, od16, .func (PySem.W.fnOf "scheme_by" "scheme_by" (defArgs s_scheme_by) (defBody s_scheme_by) (defScope s_scheme_by) .none kV16 dc16 pm16 an16 cd16 ct16), sl16⟩) (c16 : PySem.W.codeIn K cd16 "scheme_by" = true) (k16 : PySem.W.keepIn K (.ref f16) = true)
    {f17 : Addr} {od17 an17 : Option Addr} {sl17 : Array (Option Value)} {oc17 kV17 dc17 pm17 cd17 ct17 : Value}
    (a17 : PySem.W.nsIn K mainGlobals "least_over" = some (some (.ref f17))) (l17 : K.lookup f17 = some ⟨oc17, od17, .func (PySem.W.fnOf "least_over" "least_over" (defArgs s_least_over) (defBody s_least_over) (defScope s_least_over) .none kV17 dc17 pm17 an17 cd17 ct17), sl17⟩) (c17 : PySem.W.codeIn K cd17 "least_over" = true) (k17 : PySem.W.keepIn K (.ref f17) = true)
    {f18 : Addr} {od18 an18 : Option Addr} {sl18 : Array (Option Value)} {oc18 kV18 dc18 pm18 cd18 ct18 : Value}
    (a18 : PySem.W.nsIn K mainGlobals "_law_cell_at" = some (some (.ref f18))) (l18 : K.lookup f18 = some ⟨oc18, od18, .func (PySem.W.fnOf "_law_cell_at" "_law_cell_at" (defArgs s_law_cell_at) (defBody s_law_cell_at) (defScope s_law_cell_at) .none kV18 dc18 pm18 an18 cd18 ct18), sl18⟩) (c18 : PySem.W.codeIn K cd18 "_law_cell_at" = true) (k18 : PySem.W.keepIn K (.ref f18) = true)
    {f19 : Addr} {od19 an19 : Option Addr} {sl19 : Array (Option Value)} {oc19 kV19 dc19 pm19 cd19 ct19 : Value}
    (a19 : PySem.W.nsIn K mainGlobals "_law_mixed" = some (some (.ref f19))) (l19 : K.lookup f19 = some ⟨oc19, od19, .func (PySem.W.fnOf "_law_mixed" "_law_mixed" (defArgs s_law_mixed) (defBody s_law_mixed) (defScope s_law_mixed) .none kV19 dc19 pm19 an19 cd19 ct19), sl19⟩) (c19 : PySem.W.codeIn K cd19 "_law_mixed" = true) (k19 : PySem.W.keepIn K (.ref f19) = true)
    {f20 : Addr} {od20 an20 : Option Addr} {sl20 : Array (Option Value)} {oc20 kV20 dc20 pm20 cd20 ct20 : Value}
    (a20 : PySem.W.nsIn K mainGlobals "_law_box" = some (some (.ref f20))) (l20 : K.lookup f20 = some ⟨oc20, od20, .func (PySem.W.fnOf "_law_box" "_law_box" (defArgs s_law_box) (defBody s_law_box) (defScope s_law_box) .none kV20 dc20 pm20 an20 cd20 ct20), sl20⟩) (c20 : PySem.W.codeIn K cd20 "_law_box" = true) (k20 : PySem.W.keepIn K (.ref f20) = true)
    {f21 : Addr} {od21 an21 : Option Addr} {sl21 : Array (Option Value)} {oc21 kV21 dc21 pm21 cd21 ct21 : Value}
    (a21 : PySem.W.nsIn K mainGlobals "_law_take" = some (some (.ref f21))) (l21 : K.lookup f21 = some ⟨oc21, od21, .func (PySem.W.fnOf "_law_take" "_law_take" (defArgs s_law_take) (defBody s_law_take) (defScope s_law_take) .none kV21 dc21 pm21 an21 cd21 ct21), sl21⟩) (c21 : PySem.W.codeIn K cd21 "_law_take" = true) (k21 : PySem.W.keepIn K (.ref f21) = true)
    {f22 : Addr} {od22 an22 : Option Addr} {sl22 : Array (Option Value)} {oc22 kV22 dc22 pm22 cd22 ct22 : Value}
    (a22 : PySem.W.nsIn K mainGlobals "_law_part" = some (some (.ref f22))) (l22 : K.lookup f22 = some ⟨oc22, od22, .func (PySem.W.fnOf "_law_part" "_law_part" (defArgs s_law_part_2) (defBody s_law_part_2) (defScope s_law_part_2) .none kV22 dc22 pm22 an22 cd22 ct22), sl22⟩) (c22 : PySem.W.codeIn K cd22 "_law_part" = true) (k22 : PySem.W.keepIn K (.ref f22) = true)
    {f23 : Addr} {od23 an23 : Option Addr} {sl23 : Array (Option Value)} {oc23 kV23 dc23 pm23 cd23 ct23 : Value}
    (a23 : PySem.W.nsIn K mainGlobals "_law_scheme" = some (some (.ref f23))) (l23 : K.lookup f23 = some ⟨oc23, od23, .func (PySem.W.fnOf "_law_scheme" "_law_scheme" (defArgs s_law_scheme_2) (defBody s_law_scheme_2) (defScope s_law_scheme_2) .none kV23 dc23 pm23 an23 cd23 ct23), sl23⟩) (c23 : PySem.W.codeIn K cd23 "_law_scheme" = true) (k23 : PySem.W.keepIn K (.ref f23) = true)
    {f24 : Addr} {od24 an24 : Option Addr} {sl24 : Array (Option Value)} {oc24 kV24 dc24 pm24 cd24 ct24 : Value}
    (a24 : PySem.W.nsIn K mainGlobals "_law_sums" = some (some (.ref f24))) (l24 : K.lookup f24 = some ⟨oc24, od24, .func (PySem.W.fnOf "_law_sums" "_law_sums" (defArgs s_law_sums_2) (defBody s_law_sums_2) (defScope s_law_sums_2) .none kV24 dc24 pm24 an24 cd24 ct24), sl24⟩) (c24 : PySem.W.codeIn K cd24 "_law_sums" = true) (k24 : PySem.W.keepIn K (.ref f24) = true)
    {f25 : Addr} {od25 an25 : Option Addr} {sl25 : Array (Option Value)} {oc25 kV25 dc25 pm25 cd25 ct25 : Value}
    (a25 : PySem.W.nsIn K mainGlobals "_law_terms" = some (some (.ref f25))) (l25 : K.lookup f25 = some ⟨oc25, od25, .func (PySem.W.fnOf "_law_terms" "_law_terms" (defArgs s_law_terms) (defBody s_law_terms) (defScope s_law_terms) .none kV25 dc25 pm25 an25 cd25 ct25), sl25⟩) (c25 : PySem.W.codeIn K cd25 "_law_terms" = true) (k25 : PySem.W.keepIn K (.ref f25) = true)
    {f26 : Addr} {od26 an26 : Option Addr} {sl26 : Array (Option Value)} {oc26 kV26 dc26 pm26 cd26 ct26 : Value}
    (a26 : PySem.W.nsIn K mainGlobals "_law_number" = some (some (.ref f26))) (l26 : K.lookup f26 = some ⟨oc26, od26, .func (PySem.W.fnOf "_law_number" "_law_number" (defArgs s_law_number_2) (defBody s_law_number_2) (defScope s_law_number_2) .none kV26 dc26 pm26 an26 cd26 ct26), sl26⟩) (c26 : PySem.W.codeIn K cd26 "_law_number" = true) (k26 : PySem.W.keepIn K (.ref f26) = true)
    {f27 : Addr} {od27 an27 : Option Addr} {sl27 : Array (Option Value)} {oc27 kV27 dc27 pm27 cd27 ct27 : Value}
    (a27 : PySem.W.nsIn K mainGlobals "_law_places" = some (some (.ref f27))) (l27 : K.lookup f27 = some ⟨oc27, od27, .func (PySem.W.fnOf "_law_places" "_law_places" (defArgs s_law_places) (defBody s_law_places) (defScope s_law_places) .none kV27 dc27 pm27 an27 cd27 ct27), sl27⟩) (c27 : PySem.W.codeIn K cd27 "_law_places" = true) (k27 : PySem.W.keepIn K (.ref f27) = true)
    {f28 : Addr} {od28 an28 : Option Addr} {sl28 : Array (Option Value)} {oc28 kV28 dc28 pm28 cd28 ct28 : Value}
    (a28 : PySem.W.nsIn K mainGlobals "_law_put" = some (some (.ref f28))) (l28 : K.lookup f28 = some ⟨oc28, od28, .func (PySem.W.fnOf "_law_put" "_law_put" (defArgs s_law_put) (defBody s_law_put) (defScope s_law_put) .none kV28 dc28 pm28 an28 cd28 ct28), sl28⟩) (c28 : PySem.W.codeIn K cd28 "_law_put" = true) (k28 : PySem.W.keepIn K (.ref f28) = true)
    {f29 : Addr} {od29 an29 : Option Addr} {sl29 : Array (Option Value)} {oc29 kV29 dc29 pm29 cd29 ct29 : Value}
    (a29 : PySem.W.nsIn K mainGlobals "_law_others" = some (some (.ref f29))) (l29 : K.lookup f29 = some ⟨oc29, od29, .func (PySem.W.fnOf "_law_others" "_law_others" (defArgs s_law_others) (defBody s_law_others) (defScope s_law_others) .none kV29 dc29 pm29 an29 cd29 ct29), sl29⟩) (c29 : PySem.W.codeIn K cd29 "_law_others" = true) (k29 : PySem.W.keepIn K (.ref f29) = true)
    {f30 : Addr} {od30 an30 : Option Addr} {sl30 : Array (Option Value)} {oc30 kV30 dc30 pm30 cd30 ct30 : Value}
    (a30 : PySem.W.nsIn K mainGlobals "law" = some (some (.ref f30))) (l30 : K.lookup f30 = some ⟨oc30, od30, .func (PySem.W.fnOf "law" "law" (defArgs s_law) (defBody s_law) (defScope s_law) .none kV30 dc30 pm30 an30 cd30 ct30), sl30⟩) (c30 : PySem.W.codeIn K cd30 "law" = true) (k30 : PySem.W.keepIn K (.ref f30) = true)
    (z_abs : PySem.W.nsIn K mainGlobals "abs" = some none)
    (z_dict : PySem.W.nsIn K mainGlobals "dict" = some none)
    (z_enumerate : PySem.W.nsIn K mainGlobals "enumerate" = some none)
    (z_int : PySem.W.nsIn K mainGlobals "int" = some none)
    (z_len : PySem.W.nsIn K mainGlobals "len" = some none)
    (z_list : PySem.W.nsIn K mainGlobals "list" = some none)
    (z_max : PySem.W.nsIn K mainGlobals "max" = some none)
    (z_min : PySem.W.nsIn K mainGlobals "min" = some none)
    (z_range : PySem.W.nsIn K mainGlobals "range" = some none)
    (z_sorted : PySem.W.nsIn K mainGlobals "sorted" = some none)
    (z_tuple : PySem.W.nsIn K mainGlobals "tuple" = some none)
    (z_zip : PySem.W.nsIn K mainGlobals "zip" = some none)
    {t_MOST_SETS : Tok} (g_MOST_SETS : PySem.W.nsIn K mainGlobals "MOST_SETS" = some (some (.int 3000 t_MOST_SETS)))
    : ∃ fd : FuncData, (∀ (s : Shared) (v : Value), BindsTo s fd ⟨[v], []⟩ [("_law_script", v)]) ∧ ∀ base : Heap, K.In base → base.Ns mainGlobals mg → FnOk l.prog w K mg base (L2.CX l.prog w) 8 fa fd ["_law_script"] (FnD K 1 [] r_law) := by
  have e := hfa.symm.trans (PySem.W.mg_of X G a30)
  cases e
  have F0 := fun_mk (st := s_rows_over) l0 c0 k0
  have B0 := F0.binds (ps := ["length", "p"]) fun _ _ _ _ _ _ us hl => match us, hl with | [_, _], _ => rfl
  have F1 := fun_mk (st := s_pairs_over) l1 c1 k1
  have B1 := F1.binds (ps := ["left", "right", "p"]) fun _ _ _ _ _ _ us hl => match us, hl with | [_, _, _], _ => rfl
  have F2 := fun_mk (st := s_pair_table) l2 c2 k2
  have B2 := F2.binds (ps := ["pair", "p"]) fun _ _ _ _ _ _ us hl => match us, hl with | [_, _], _ => rfl
  have F3 := fun_mk (st := s_task_tables) l3 c3 k3
  have B3 := F3.binds (ps := ["task", "p"]) fun _ _ _ _ _ _ us hl => match us, hl with | [_, _], _ => rfl
  have F4 := fun_mk (st := s_less_times) l4 c4 k4
  have B4 := F4.binds (ps := ["table", "number", "other", "p"]) fun _ _ _ _ _ _ us hl => match us, hl with | [_, _, _, _], _ => rfl
  have F5 := fun_mk (st := s_first_place) l5 c5 k5
  have B5 := F5.binds (ps := ["table"]) fun _ _ _ _ _ _ us hl => match us, hl with | [_], _ => rfl
  have F6 := fun_mk (st := s_what_is_left) l6 c6 k6
  have B6 := F6.binds (ps := ["base", "table", "p"]) fun _ _ _ _ _ _ us hl => match us, hl with | [_, _, _], _ => rfl
  have F7 := fun_mk (st := s_grown_base) l7 c7 k7
  have B7 := F7.binds (ps := ["base", "table", "p"]) fun _ _ _ _ _ _ us hl => match us, hl with | [_, _, _], _ => rfl
  have F8 := fun_mk (st := s_base_of) l8 c8 k8
  have B8 := F8.binds (ps := ["tables", "p"]) fun _ _ _ _ _ _ us hl => match us, hl with | [_, _], _ => rfl
  have F9 := fun_mk (st := s_lies_in) l9 c9 k9
  have B9 := F9.binds (ps := ["base", "table", "p"]) fun _ _ _ _ _ _ us hl => match us, hl with | [_, _, _], _ => rfl
  have F10 := fun_mk (st := s_many_sets) l10 c10 k10
  have B10 := F10.binds (ps := ["many", "size"]) fun _ _ _ _ _ _ us hl => match us, hl with | [_, _], _ => rfl
  have F11 := fun_mk (st := s_all_sets) l11 c11 k11
  have B11 := F11.binds (ps := ["many", "size"]) fun _ _ _ _ _ _ us hl => match us, hl with | [_, _], _ => rfl
  have F12 := fun_mk (st := s_Tables_init) l12 c12 k12
  have B12 := F12.binds (ps := ["self", "task", "p"]) fun _ _ _ _ _ _ us hl => match us, hl with | [_, _, _], _ => rfl
  have F13 := fun_mk (st := s_Tables_with_set) l13 c13 k13
  have B13 := F13.binds (ps := ["self", "numbers"]) fun _ _ _ _ _ _ us hl => match us, hl with | [_, _], _ => rfl
  have F14 := fun_mk (st := s_Tables_pairs_in) l14 c14 k14
  have B14 := F14.binds (ps := ["self", "base"]) fun _ _ _ _ _ _ us hl => match us, hl with | [_, _], _ => rfl
  have F15 := fun_mk (st := s_with_single) l15 c15 k15
  have B15 := F15.binds (ps := ["table", "place", "size"]) fun _ _ _ _ _ _ us hl => match us, hl with | [_, _, _], _ => rfl
  have F16 := fun_mk (st := s_scheme_by) l16 c16 k16
  have B16 := F16.binds (ps := ["known", "numbers"]) fun _ _ _ _ _ _ us hl => match us, hl with | [_, _], _ => rfl
  have F17 := fun_mk (st := s_least_over) l17 c17 k17
  have B17 := F17.binds (ps := ["task", "p"]) fun _ _ _ _ _ _ us hl => match us, hl with | [_, _], _ => rfl
  have F18 := fun_mk (st := s_law_cell_at) l18 c18 k18
  have B18 := F18.binds (ps := ["_law_script", "_law_k"]) fun _ _ _ _ _ _ us hl => match us, hl with | [_, _], _ => rfl
  have F19 := fun_mk (st := s_law_mixed) l19 c19 k19
  have B19 := F19.binds (ps := ["_law_number_here", "_law_k"]) fun _ _ _ _ _ _ us hl => match us, hl with | [_, _], _ => rfl
  have F20 := fun_mk (st := s_law_box) l20 c20 k20
  have B20 := F20.binds (ps := ["_law_script", "_law_k"]) fun _ _ _ _ _ _ us hl => match us, hl with | [_, _], _ => rfl
  have F21 := fun_mk (st := s_law_take) l21 c21 k21
  have B21 := F21.binds (ps := ["_law_box_here", "_law_many"]) fun _ _ _ _ _ _ us hl => match us, hl with | [_, _], _ => rfl
  have F22 := fun_mk (st := s_law_part_2) l22 c22 k22
  have B22 := F22.binds (ps := ["_law_box_here", "_law_length"]) fun _ _ _ _ _ _ us hl => match us, hl with | [_, _], _ => rfl
  have F23 := fun_mk (st := s_law_scheme_2) l23 c23 k23
  have B23 := F23.binds (ps := ["_law_box_here", "_law_lengths", "_law_count"]) fun _ _ _ _ _ _ us hl => match us, hl with | [_, _, _], _ => rfl
  have F24 := fun_mk (st := s_law_sums_2) l24 c24 k24
  have B24 := F24.binds (ps := ["_law_scheme_here"]) fun _ _ _ _ _ _ us hl => match us, hl with | [_], _ => rfl
  have F25 := fun_mk (st := s_law_terms) l25 c25 k25
  have B25 := F25.binds (ps := ["_law_sums_here"]) fun _ _ _ _ _ _ us hl => match us, hl with | [_], _ => rfl
  have F26 := fun_mk (st := s_law_number_2) l26 c26 k26
  have B26 := F26.binds (ps := ["_law_box_here"]) fun _ _ _ _ _ _ us hl => match us, hl with | [_], _ => rfl
  have F27 := fun_mk (st := s_law_places) l27 c27 k27
  have B27 := F27.binds (ps := ["_law_box_here", "_law_many"]) fun _ _ _ _ _ _ us hl => match us, hl with | [_, _], _ => rfl
  have F28 := fun_mk (st := s_law_put) l28 c28 k28
  have B28 := F28.binds (ps := ["_law_lengths", "_law_terms_here"]) fun _ _ _ _ _ _ us hl => match us, hl with | [_, _], _ => rfl
  have F29 := fun_mk (st := s_law_others) l29 c29 k29
  have B29 := F29.binds (ps := ["_law_box_here", "_law_task", "_law_p"]) fun _ _ _ _ _ _ us hl => match us, hl with | [_, _, _], _ => rfl
  have F30 := fun_mk (st := s_law) l30 c30 k30
  have B30 := F30.binds (ps := ["_law_script"]) fun _ _ _ _ _ _ us hl => match us, hl with | [_], _ => rfl
  exact ⟨_, fun s v => .of_eq rfl, fun base _ _ => A_law (A := ⟨_, _, _, _, _, _, _, _, _, _, _, _, _, _, _, _, _, _, _, _, _, _, _, _, _, _, _, _, _, _, _, _, _, _, _, _, _, _, _, _, _, _, _, _, _, _, _, _, _, _, _, _, _, _, _, _, _, _, _, _, _, _, t_MOST_SETS, cv_Tables⟩) ⟨⟨F0, PySem.W.mg_of X G a0, B0⟩, ⟨F1, PySem.W.mg_of X G a1, B1⟩, ⟨F2, PySem.W.mg_of X G a2, B2⟩, ⟨F3, PySem.W.mg_of X G a3, B3⟩, ⟨F4, PySem.W.mg_of X G a4, B4⟩, ⟨F5, PySem.W.mg_of X G a5, B5⟩, ⟨F6, PySem.W.mg_of X G a6, B6⟩, ⟨F7, PySem.W.mg_of X G a7, B7⟩, ⟨F8, PySem.W.mg_of X G a8, B8⟩, ⟨F9, PySem.W.mg_of X G a9, B9⟩, ⟨F10, PySem.W.mg_of X G a10, B10⟩, ⟨F11, PySem.W.mg_of X G a11, B11⟩, ⟨F12, B12⟩, ⟨F13, B13⟩, ⟨F14, B14⟩, ⟨F15, PySem.W.mg_of X G a15, B15⟩, ⟨F16, PySem.W.mg_of X G a16, B16⟩, ⟨F17, PySem.W.mg_of X G a17, B17⟩, ⟨F18, PySem.W.mg_of X G a18, B18⟩, ⟨F19, PySem.W.mg_of X G a19, B19⟩, ⟨F20, PySem.W.mg_of X G a20, B20⟩, ⟨F21, PySem.W.mg_of X G a21, B21⟩, ⟨F22, PySem.W.mg_of X G a22, B22⟩, ⟨F23, PySem.W.mg_of X G a23, B23⟩, ⟨F24, PySem.W.mg_of X G a24, B24⟩, ⟨F25, PySem.W.mg_of X G a25, B25⟩, ⟨F26, PySem.W.mg_of X G a26, B26⟩, ⟨F27, PySem.W.mg_of X G a27, B27⟩, ⟨F28, PySem.W.mg_of X G a28, B28⟩, ⟨F29, PySem.W.mg_of X G a29, B29⟩, ⟨F30, PySem.W.mg_of X G a30, B30⟩, ⟨pg_Tables, hd_Tables, po_Tables, sa_Tables⟩, na_Tables_base, na_Tables_p, na_Tables_pairs, na_Tables_tables, na_Tables_task, ⟨a14, i14, k14⟩, ⟨a13, i13, k13⟩, ⟨mkc_Tables, a12, i12, kc_Tables⟩, PySem.W.mg_none_of X G z_abs, PySem.W.mg_none_of X G z_dict, PySem.W.mg_none_of X G z_enumerate, PySem.W.mg_none_of X G z_int, PySem.W.mg_none_of X G z_len, PySem.W.mg_none_of X G z_list, PySem.W.mg_none_of X G z_max, PySem.W.mg_none_of X G z_min, PySem.W.mg_none_of X G z_range, PySem.W.mg_none_of X G z_sorted, PySem.W.mg_none_of X G z_tuple, PySem.W.mg_none_of X G z_zip, PySem.W.mg_of X G g_MOST_SETS, PySem.W.mg_of X G gc_Tables⟩⟩
end
end K46
open PySem PySem.W PyProof.Rows
set_option maxHeartbeats 0 in
theorem PySem.Challenge.cw_fewtimes_k46_least_counts_kept_holds : PySem.Challenge.rw_fewtimes_k46_least_counts_kept.Holds := by
  w_on; o_law; k_head; (case hw => w_witness2)
  k_fill
  refine L2.walk_of (l := PySem.Challenge.rw_fewtimes_k46_least_counts_kept) (n := 63) (k := 8) (x := "_law_script") (CX := fun w => L2.CX PySem.Challenge.rw_fewtimes_k46_least_counts_kept.prog w) (sp := fun w => FL.FnD _ 1 [] K46.r_law) rfl (by decide) rfl ⟨rfl, by decide, by decide⟩ (fun w h Y => PySem.W.kIn_of Y) ?F (fun _ _ a ns hl _ hS => FL.law_end hl hS ⟨ns, rfl, fun _ => rfl⟩) (fun _ _ _ _ _ h => FL.cx_none h)
  case F =>
    intro w mg fa h KX G hmg
    refine' K46.all_mk KX G hmg ?gc_Tables ?pg_Tables ?hd_Tables ?po_Tables ?sa_Tables ?mkc_Tables ?kc_Tables ?na_Tables_base ?na_Tables_p ?na_Tables_pairs ?na_Tables_tables ?na_Tables_task ?a0 ?l0 ?c0 ?k0 ?a1 ?l1 ?c1 ?k1 ?a2 ?l2 ?c2 ?k2 ?a3 ?l3 ?c3 ?k3 ?a4 ?l4 ?c4 ?k4 ?a5 ?l5 ?c5 ?k5 ?a6 ?l6 ?c6 ?k6 ?a7 ?l7 ?c7 ?k7 ?a8 ?l8 ?c8 ?k8 ?a9 ?l9 ?c9 ?k9 ?a10 ?l10 ?c10 ?k10 ?a11 ?l11 ?c11 ?k11 ?a12 ?i12 ?l12 ?c12 ?k12 ?a13 ?i13 ?l13 ?c13 ?k13 ?a14 ?i14 ?l14 ?c14 ?k14 ?a15 ?l15 ?c15 ?k15 ?a16 ?l16 ?c16 ?k16 ?a17 ?l17 ?c17 ?k17 ?a18 ?l18 ?c18 ?k18 ?a19 ?l19 ?c19 ?k19 ?a20 ?l20 ?c20 ?k20 ?a21 ?l21 ?c21 ?k21 ?a22 ?l22 ?c22 ?k22 ?a23 ?l23 ?c23 ?k23 ?a24 ?l24 ?c24 ?k24 ?a25 ?l25 ?c25 ?k25 ?a26 ?l26 ?c26 ?k26 ?a27 ?l27 ?c27 ?k27 ?a28 ?l28 ?c28 ?k28 ?a29 ?l29 ?c29 ?k29 ?a30 ?l30 ?c30 ?k30 ?z_abs ?z_dict ?z_enumerate ?z_int ?z_len ?z_list ?z_max ?z_min ?z_range ?z_sorted ?z_tuple ?z_zip ?g_MOST_SETS
    (case gc_Tables => k_is); (case pg_Tables => k_is); (case hd_Tables => k_is); (case po_Tables => k_is); (case sa_Tables => k_is); (case mkc_Tables => k_is); (case kc_Tables => k_is); (case na_Tables_base => k_is); (case na_Tables_p => k_is); (case na_Tables_pairs => k_is); (case na_Tables_tables => k_is); (case na_Tables_task => k_is); (case a0 => k_is); (case l0 => k_is); (case c0 => k_is); (case k0 => k_is); (case a1 => k_is); (case l1 => k_is); (case c1 => k_is); (case k1 => k_is); (case a2 => k_is); (case l2 => k_is); (case c2 => k_is); (case k2 => k_is); (case a3 => k_is); (case l3 => k_is); (case c3 => k_is); (case k3 => k_is); (case a4 => k_is); (case l4 => k_is); (case c4 => k_is); (case k4 => k_is); (case a5 => k_is); (case l5 => k_is); (case c5 => k_is); (case k5 => k_is); (case a6 => k_is); (case l6 => k_is); (case c6 => k_is); (case k6 => k_is); (case a7 => k_is); (case l7 => k_is); (case c7 => k_is); (case k7 => k_is); (case a8 => k_is); (case l8 => k_is); (case c8 => k_is); (case k8 => k_is); (case a9 => k_is); (case l9 => k_is); (case c9 => k_is); (case k9 => k_is); (case a10 => k_is); (case l10 => k_is); (case c10 => k_is); (case k10 => k_is); (case a11 => k_is); (case l11 => k_is); (case c11 => k_is); (case k11 => k_is); (case a12 => k_is); (case i12 => k_is); (case l12 => k_is); (case c12 => k_is); (case k12 => k_is); (case a13 => k_is); (case i13 => k_is); (case l13 => k_is); (case c13 => k_is); (case k13 => k_is); (case a14 => k_is); (case i14 => k_is); (case l14 => k_is); (case c14 => k_is); (case k14 => k_is); (case a15 => k_is); (case l15 => k_is); (case c15 => k_is); (case k15 => k_is); (case a16 => k_is); (case l16 => k_is); (case c16 => k_is); (case k16 => k_is); (case a17 => k_is); (case l17 => k_is); (case c17 => k_is); (case k17 => k_is); (case a18 => k_is); (case l18 => k_is); (case c18 => k_is); (case k18 => k_is); (case a19 => k_is); (case l19 => k_is); (case c19 => k_is); (case k19 => k_is); (case a20 => k_is); (case l20 => k_is); (case c20 => k_is); (case k20 => k_is); (case a21 => k_is); (case l21 => k_is); (case c21 => k_is); (case k21 => k_is); (case a22 => k_is); (case l22 => k_is); (case c22 => k_is); (case k22 => k_is); (case a23 => k_is); (case l23 => k_is); (case c23 => k_is); (case k23 => k_is); (case a24 => k_is); (case l24 => k_is); (case c24 => k_is); (case k24 => k_is); (case a25 => k_is); (case l25 => k_is); (case c25 => k_is); (case k25 => k_is); (case a26 => k_is); (case l26 => k_is); (case c26 => k_is); (case k26 => k_is); (case a27 => k_is); (case l27 => k_is); (case c27 => k_is); (case k27 => k_is); (case a28 => k_is); (case l28 => k_is); (case c28 => k_is); (case k28 => k_is); (case a29 => k_is); (case l29 => k_is); (case c29 => k_is); (case k29 => k_is); (case a30 => k_is); (case l30 => k_is); (case c30 => k_is); (case k30 => k_is); (case z_abs => k_is); (case z_dict => k_is); (case z_enumerate => k_is); (case z_int => k_is); (case z_len => k_is); (case z_list => k_is); (case z_max => k_is); (case z_min => k_is); (case z_range => k_is); (case z_sorted => k_is); (case z_tuple => k_is); (case z_zip => k_is); (case g_MOST_SETS => k_is)
