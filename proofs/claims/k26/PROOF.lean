import PyProof.Rows.All
import Wide.All
import OpenK.AllK
import Wide.FinOn
import HandS.ForMost
import HandS.ForExc
import HandS.Wide
import HandS.IsInst
import KE.DataEq
import HandS.TupAny
import HandS.TupMul
import HandS.NoneIn
import HandS.Ends
import HandS.EndBits
import HandS.Zip
import HandS.Rev
import HandS.SortInts
import KE.GoesEnum
import KE.GoesMore
import KE.GoesZip
import HandS.Dict
import KE.SortData
import HandS.Conv
import HandS.More
import HandS.Style
import HandS.RevTup
import KE.KDictPairs
import HandS.DictEq
import PyProof.DictMoreH
import HandS.SetKeys
import HandS.DictComp
import HandS.TupSets
import HandS.Flow
import HandS.Flt
import KE.DataMinMax
import KE.KDictCopyH
import HandS.DictTup
import HandS.ExcIs
import HandS.ExcOwn
import PyProof.ExcBaseAll.ValueError
import HandS.Text
import HandS.WordsDict
import KE.KDictWalk
import HandS.SetFor
import KE.KDictDisplayH
import HandS.TupLen
import HandS.ListItems
import HandS.ExcInit
import HandS.ExcField
import KE.KExcIs
import PySem.Challenge.RW_fewtimes_k26_steps_that_can_not_be_done
set_option Elab.async false
set_option linter.all false
set_option maxRecDepth 100000
set_option autoImplicit false
namespace FL
open PySem PySem.Spec PyProof.Rows L2
/-- an owned node's kind: frozen; owned, its parts frozen; owned, with owned parts -/
inductive Ow where
  | ice | flat | deep
  deriving Inhabited, DecidableEq
def Ow.mine : Ow → Bool
  | .ice => false
  | _ => true
def Ow.light : Ow → Bool
  | .deep => false
  | _ => true
/-- flat, or deep where a part is owned -/
def Ow.of : Bool → Ow
  | true => .deep
  | false => .flat
/-- one more part -/
def Ow.more : Ow → Bool → Ow
  | o, false => o
  | _, true => .deep
/-- data: lists, dicts, instances frozen or owned, tuples (true: with owned parts), what is only read -/
inductive D where
  | any | non | bl (b : Bool) | int (i : Int) | str (s : Str) | obj (a : Addr) | ty (n : String)
  | tup (o : Bool) (xs : List D)
  | lst (o : Ow) (xs : List D)
  | ro (t : Bool) (xs : List D)
  | dct (o : Ow) (t : Bool) (ks vs : List D)
  | ins (o : Ow) (C : Addr) (fs : List Str) (vs : List D)
  deriving Inhabited
abbrev Loc := List Nat
abbrev Tag := Addr → Option Loc
/-- a world: the tags (who owns an address), the shared heap, the whole heap -/
structure Wd where
  G : Tag
  S : Hp
  H : Hp
def skey : D → Key
  | .int i => .inl i
  | .str s => .inr s
  | _ => .inl 0
def isSKey : D → Bool
  | .int _ => true
  | .str _ => true
  | _ => false
def tkey : D → List Key
  | .tup _ ds => ds.map skey
  | _ => []
def isTKey : D → Bool
  | .tup _ ds => ds.all isSKey
  | _ => false
def keyOk (t : Bool) (k : D) : Bool := if t then isTKey k else isSKey k
/-- keys of one kind, no two alike -/
def keysOk (t : Bool) (ks : List D) : Bool := ks.all (keyOk t) && (if t then decide (ks.map tkey).Nodup else decide (ks.map skey).Nodup)
def dHO (t : Bool) (ks : List D) (vs : List V) : HO :=
  if t then .dT ((ks.map tkey).zip vs) else .dK ((ks.map skey).zip vs)
/-- it is owned, or holds what is -/
def D.own : D → Bool
  | .tup o _ => o
  | .lst o _ => o.mine
  | .dct o _ _ _ => o.mine
  | .ins o _ _ _ => o.mine
  | _ => false
def ownL : List D → Bool
  | [] => false
  | d :: ds => d.own || ownL ds
/-- a node of this kind with these parts -/
def Lt (o : Ow) (ds : List D) : Prop := o.light = true → ownL ds = false
mutual
def Rep (K : PySem.W.Frag) (w : Wd) : D → Loc → V → Prop
  | .any, _, _ => True
  | .non, _, v => v = .non
  | .bl b, _, v => v = .bl b
  | .int i, _, v => v = .int i
  | .str s, _, v => v = .str s
  | .obj a, _, v => v = .ref a
  | .ty n, _, v => v = .ty n
  | .tup o ds, ℓ, v => ∃ a vs, v = .ref a ∧ w.S a = some (.tup vs) ∧ (ds.length ≤ sizeLine ∧ (o = false → ownL ds = false)) ∧ RepL K w ds ℓ 0 vs
  | .lst o ds, ℓ, v => ∃ a vs, v = .ref a ∧ (if o.mine then w.G a = some ℓ ∧ w.H a = some (.lst vs) else w.S a = some (.lst vs)) ∧ (ds.length ≤ sizeLine ∧ Lt o ds) ∧ RepL K w ds ℓ 0 vs
  | .ro t ds, ℓ, v => ∃ a vs, v = .ref a ∧ (if t then SqT K w.S a vs else SqL K w.S a vs) ∧ (ds.length ≤ sizeLine ∧ ownL ds = false) ∧ RepL K w ds ℓ 0 vs
  | .dct o t ks ds, ℓ, v => ∃ a vs, v = .ref a ∧ (if o.mine then w.G a = some ℓ ∧ w.H a = some (dHO t ks vs) else Rd w.S a (dHO t ks vs)) ∧ (ks.length = vs.length ∧ keysOk t ks = true ∧ Lt o ds) ∧ RepL K w ds ℓ 0 vs
  | .ins o C fs ds, ℓ, v => ∃ a vs, v = .ref a ∧ (∃ dx, if o.mine then w.G a = some ℓ ∧ w.H a = some (.ins C dx (fs.zip vs)) else w.S a = some (.ins C dx (fs.zip vs))) ∧ (fs.length = vs.length ∧ Lt o ds) ∧ RepL K w ds ℓ 0 vs
def RepL (K : PySem.W.Frag) (w : Wd) : List D → Loc → Nat → List V → Prop
  | [], _, _, vs => vs = []
  | d :: ds, ℓ, j, vs => ∃ v r, vs = v :: r ∧ Rep K w d (ℓ ++ [j]) v ∧ RepL K w ds ℓ (j + 1) r
end
/-- an inner node of the data d at ℓ: the object at a, of the parts vs -/
def Nd (K : PySem.W.Frag) (w : Wd) : D → Loc → Addr → List V → Prop
  | .tup _ _, _, a, vs => w.S a = some (.tup vs)
  | .lst o _, ℓ, a, vs => if o.mine then w.G a = some ℓ ∧ w.H a = some (.lst vs) else w.S a = some (.lst vs)
  | .ro t _, _, a, vs => if t then SqT K w.S a vs else SqL K w.S a vs
  | .dct o t ks _, ℓ, a, vs => if o.mine then w.G a = some ℓ ∧ w.H a = some (dHO t ks vs) else Rd w.S a (dHO t ks vs)
  | .ins o C fs _, ℓ, a, vs => ∃ dx, if o.mine then w.G a = some ℓ ∧ w.H a = some (.ins C dx (fs.zip vs)) else w.S a = some (.ins C dx (fs.zip vs))
  | _, _, _, _ => False
/-- what is asked of an inner node's parts (n of them in the object) -/
def Sz : D → List D → Nat → Prop
  | .tup o _, ds, _ => ds.length ≤ sizeLine ∧ (o = false → ownL ds = false)
  | .lst o _, ds, _ => ds.length ≤ sizeLine ∧ Lt o ds
  | .ro _ _, ds, _ => ds.length ≤ sizeLine ∧ ownL ds = false
  | .dct o t ks _, ds, n => ks.length = n ∧ keysOk t ks = true ∧ Lt o ds
  | .ins o _ fs _, ds, n => fs.length = n ∧ Lt o ds
  | _, _, _ => False
def D.kids : D → List D
  | .tup _ ds => ds
  | .lst _ ds => ds
  | .ro _ ds => ds
  | .dct _ _ _ ds => ds
  | .ins _ _ _ ds => ds
  | _ => []
def D.withKids : D → List D → D
  | .tup o _, es => .tup o es
  | .lst o _, es => .lst o es
  | .ro t _, es => .ro t es
  | .dct o t ks _, es => .dct o t ks es
  | .ins o C fs _, es => .ins o C fs es
  | d, _ => d
def D.inner : D → Bool
  | .tup _ _ => true
  | .lst _ _ => true
  | .ro _ _ => true
  | .dct _ _ _ _ => true
  | .ins _ _ _ _ => true
  | _ => false
mutual
/-- all frozen -/
def D.frz : D → D
  | .tup o ds => match o with
    | false => .tup false ds
    | true => .tup false (frzL ds)
  | .lst o ds => match o with
    | .deep => .lst .ice (frzL ds)
    | _ => .lst .ice ds
  | .ro t ds => .ro t ds
  | .dct o t ks ds => match o with
    | .deep => .dct .ice t ks (frzL ds)
    | _ => .dct .ice t ks ds
  | .ins o C fs ds => match o with
    | .deep => .ins .ice C fs (frzL ds)
    | _ => .ins .ice C fs ds
  | .any => .any
  | .non => .non
  | .bl b => .bl b
  | .int i => .int i
  | .str s => .str s
  | .obj a => .obj a
  | .ty n => .ty n
def frzL : List D → List D
  | [] => []
  | d :: ds => d.frz :: frzL ds
end
theorem ownL_iff {ds : List D} : ownL ds = false ↔ ∀ d ∈ ds, d.own = false := by
  induction ds with
  | nil => simp [ownL]
  | cons d r ih => simp [ownL, ih]
theorem frzL_map {ds : List D} : frzL ds = ds.map D.frz := by
  induction ds with
  | nil => rfl
  | cons d r ih => simp [frzL, ih]
theorem ownL_append {a b : List D} : ownL (a ++ b) = (ownL a || ownL b) := by
  induction a with
  | nil => simp [ownL]
  | cons d r ih => simp [ownL, ih, Bool.or_assoc]
theorem frz_own (d : D) : d.frz.own = false := by
  cases d with
  | tup o ds => cases o <;> rfl
  | lst o ds => cases o <;> rfl
  | dct o t ks ds => cases o <;> rfl
  | ins o C fs ds => cases o <;> rfl
  | _ => rfl
theorem frzL_own : ∀ ds : List D, ownL (frzL ds) = false
  | [] => rfl
  | d :: ds => by simp only [frzL, ownL, frz_own d, frzL_own ds, Bool.or_self]
theorem frz_id (d : D) (h : d.own = false) : d.frz = d := by
  cases d with
  | tup o ds => cases o with
    | true => cases h
    | false => rfl
  | lst o ds => cases o <;> first | rfl | cases h
  | dct o t ks ds => cases o <;> first | rfl | cases h
  | ins o C fs ds => cases o <;> first | rfl | cases h
  | _ => rfl
theorem same_rdT {K : PySem.W.Frag} {H H' : Hp} {a : Addr} {xs : List V} (e : Same H H') (h : SqT K H a xs) : SqT K H' a xs := by
  rcases h with (h | ⟨o, h⟩) | h
  · exact .inl (.inl (e _ _ h))
  · exact .inl (.inr ⟨o, e _ _ h⟩)
  · exact .inr h
theorem ro_same {K : PySem.W.Frag} {H H' : Hp} {a : Addr} {xs : List V} {t : Bool} (e : Same H H') (h : if t then SqT K H a xs else SqL K H a xs) : if t then SqT K H' a xs else SqL K H' a xs := by
  cases t with
  | true => exact same_rdT e h
  | false => exact e.seq h
theorem rd_same {H H' : Hp} {a : Addr} {u : HO} (e : Same H H') (h : Rd H a u) : Rd H' a u := by
  rcases h with h | ⟨o, h⟩
  · exact .inl (e _ _ h)
  · exact .inr ⟨o, e _ _ h⟩
/-- what is kept for a location: its addresses' tags (moved to ℓ') and objects -/
def KeptTo (w w' : Wd) (ℓ ℓ' : Loc) : Prop := ∀ a s, w.G a = some (ℓ ++ s) → w'.G a = some (ℓ' ++ s) ∧ w'.H a = w.H a
theorem KeptTo.sub {w w' : Wd} {ℓ ℓ' : Loc} (k : KeptTo w w' ℓ ℓ') (t : Loc) : KeptTo w w' (ℓ ++ t) (ℓ' ++ t) := fun a s h => by
  rw [List.append_assoc] at h ⊢
  exact k a (t ++ s) h
/-- the addresses of a location are shared from now on -/
def FrzTo (w w' : Wd) (ℓ : Loc) : Prop := ∀ a s o, w.G a = some (ℓ ++ s) → w.H a = some o → w'.S a = some o
theorem FrzTo.sub {w w' : Wd} {ℓ : Loc} (k : FrzTo w w' ℓ) (t : Loc) : FrzTo w w' (ℓ ++ t) := fun a s o h => by
  rw [List.append_assoc] at h
  exact k a (t ++ s) o h
section
variable {K : PySem.W.Frag} {w w' : Wd}
/-- an inner node and its parts -/
theorem rep_inner {d : D} (hd : d.inner = true) {ℓ : Loc} {v : V} : Rep K w d ℓ v ↔ ∃ a vs, v = .ref a ∧ Nd K w d ℓ a vs ∧ Sz d d.kids vs.length ∧ RepL K w d.kids ℓ 0 vs := by
  cases d <;> first
    | (simp [D.inner] at hd; done)
    | (simp only [Rep, Nd, Sz, D.kids])
theorem Nd.later {d : D} {ℓ : Loc} {a : Addr} {vs : List V} {ℓ' : Loc} (h : Nd K w d ℓ a vs) (hs : Same w.S w'.S) (hk : w.G a = some ℓ → w'.G a = some ℓ' ∧ w'.H a = w.H a) : Nd K w' d ℓ' a vs := by
  have own : ∀ (o : Ow) (u : HO), (if o.mine then w.G a = some ℓ ∧ w.H a = some u else w.S a = some u) → if o.mine then w'.G a = some ℓ' ∧ w'.H a = some u else w'.S a = some u := fun o u h => by
    cases e : o.mine with
    | true =>
      rw [e] at h
      obtain ⟨k1, k2⟩ := hk h.1
      exact ⟨k1, k2.trans h.2⟩
    | false =>
      rw [e] at h
      exact hs _ _ h
  cases d with
  | tup o ds => exact hs _ _ h
  | lst o ds => exact own o _ h
  | ro t ds => exact ro_same hs h
  | dct o t ks ds =>
    simp only [Nd] at h ⊢
    cases e : o.mine with
    | true =>
      rw [e] at h
      obtain ⟨k1, k2⟩ := hk h.1
      exact ⟨k1, k2.trans h.2⟩
    | false =>
      rw [e] at h
      exact rd_same hs h
  | ins o C fs ds => obtain ⟨dx, h⟩ := h; exact ⟨dx, own o _ h⟩
  | _ => exact h.elim
/-- not owned: the node does not hang on tags -/
theorem Nd.free {d : D} {ℓ ℓ' : Loc} {a : Addr} {vs : List V} (h : Nd K w d ℓ a vs) (hs : Same w.S w'.S) (ho : d.own = false) : Nd K w' d ℓ' a vs := by
  cases d with
  | tup o ds => exact hs _ _ h
  | lst o ds => have ho : o.mine = false := ho; simp only [Nd, ho] at h ⊢; exact hs _ _ h
  | ro t ds => exact ro_same hs h
  | dct o t ks ds => have ho : o.mine = false := ho; simp only [Nd, ho] at h ⊢; exact rd_same hs h
  | ins o C fs ds => have ho : o.mine = false := ho; simp only [Nd, ho] at h ⊢; obtain ⟨dx, h⟩ := h; exact ⟨dx, hs _ _ h⟩
  | _ => exact h.elim
theorem Sz.lone {d : D} {n : Nat} (h : Sz d d.kids n) (ho : d.own = false) : ownL d.kids = false := by
  cases d with
  | tup o ds => exact h.2 ho
  | lst o ds => have ho : o.mine = false := ho; exact h.2 (by cases o <;> first | rfl | cases ho)
  | ro t ds => exact h.2
  | dct o t ks ds => have ho : o.mine = false := ho; exact h.2.2 (by cases o <;> first | rfl | cases ho)
  | ins o C fs ds => have ho : o.mine = false := ho; exact h.2 (by cases o <;> first | rfl | cases ho)
  | _ => exact h.elim
theorem leaf_rep {d : D} (hd : d.inner = false) {ℓ ℓ' : Loc} {v : V} (h : Rep K w d ℓ v) : Rep K w' d ℓ' v := by
  cases d <;> first
    | (simp [D.inner] at hd; done)
    | (simp only [Rep] at h ⊢; try exact h)
mutual
theorem Rep.to (hs : Same w.S w'.S) : ∀ (d : D) {ℓ ℓ' : Loc} {v : V}, KeptTo w w' ℓ ℓ' → Rep K w d ℓ v → Rep K w' d ℓ' v
  | .any, _, _, _, _, h => leaf_rep rfl h
  | .non, _, _, _, _, h => leaf_rep rfl h
  | .bl _, _, _, _, _, h => leaf_rep rfl h
  | .int _, _, _, _, _, h => leaf_rep rfl h
  | .str _, _, _, _, _, h => leaf_rep rfl h
  | .obj _, _, _, _, _, h => leaf_rep rfl h
  | .ty _, _, _, _, _, h => leaf_rep rfl h
  | .tup o ds, ℓ, ℓ', v, k, h => by
    rw [rep_inner rfl] at h ⊢
    obtain ⟨a, vs, e, h1, hz, h2⟩ := h
    exact ⟨a, vs, e, h1.later hs (fun z => by simpa using k a [] (by simpa using z)), hz, RepL.to hs ds k h2⟩
  | .lst o ds, ℓ, ℓ', v, k, h => by
    rw [rep_inner rfl] at h ⊢
    obtain ⟨a, vs, e, h1, hz, h2⟩ := h
    exact ⟨a, vs, e, h1.later hs (fun z => by simpa using k a [] (by simpa using z)), hz, RepL.to hs ds k h2⟩
  | .ro t ds, ℓ, ℓ', v, k, h => by
    rw [rep_inner rfl] at h ⊢
    obtain ⟨a, vs, e, h1, hz, h2⟩ := h
    exact ⟨a, vs, e, h1.later hs (fun z => by simpa using k a [] (by simpa using z)), hz, RepL.to hs ds k h2⟩
  | .dct o t ks ds, ℓ, ℓ', v, k, h => by
    rw [rep_inner rfl] at h ⊢
    obtain ⟨a, vs, e, h1, hz, h2⟩ := h
    exact ⟨a, vs, e, h1.later hs (fun z => by simpa using k a [] (by simpa using z)), hz, RepL.to hs ds k h2⟩
  | .ins o C fs ds, ℓ, ℓ', v, k, h => by
    rw [rep_inner rfl] at h ⊢
    obtain ⟨a, vs, e, h1, hz, h2⟩ := h
    exact ⟨a, vs, e, h1.later hs (fun z => by simpa using k a [] (by simpa using z)), hz, RepL.to hs ds k h2⟩
theorem RepL.to (hs : Same w.S w'.S) : ∀ (ds : List D) {ℓ ℓ' : Loc} {j : Nat} {vs : List V}, KeptTo w w' ℓ ℓ' → RepL K w ds ℓ j vs → RepL K w' ds ℓ' j vs
  | [], _, _, _, _, _, h => by simpa [RepL] using h
  | d :: ds, ℓ, ℓ', j, vs, k, h => by
    simp only [RepL] at h ⊢
    obtain ⟨v, r, e, h1, h2⟩ := h
    exact ⟨v, r, e, Rep.to hs d (k.sub [j]) h1, RepL.to hs ds k h2⟩
end
mutual
/-- without owned nodes: wherever it stands -/
theorem Rep.free (hs : Same w.S w'.S) : ∀ (d : D) {ℓ ℓ' : Loc} {v : V}, d.own = false → Rep K w d ℓ v → Rep K w' d ℓ' v
  | .any, _, _, _, _, h => leaf_rep rfl h
  | .non, _, _, _, _, h => leaf_rep rfl h
  | .bl _, _, _, _, _, h => leaf_rep rfl h
  | .int _, _, _, _, _, h => leaf_rep rfl h
  | .str _, _, _, _, _, h => leaf_rep rfl h
  | .obj _, _, _, _, _, h => leaf_rep rfl h
  | .ty _, _, _, _, _, h => leaf_rep rfl h
  | .tup o ds, ℓ, ℓ', v, k, h => by
    rw [rep_inner rfl] at h ⊢
    obtain ⟨a, vs, e, h1, hz, h2⟩ := h
    exact ⟨a, vs, e, h1.free hs k, hz, RepL.free hs ds (hz.lone k) h2⟩
  | .lst o ds, ℓ, ℓ', v, k, h => by
    rw [rep_inner rfl] at h ⊢
    obtain ⟨a, vs, e, h1, hz, h2⟩ := h
    exact ⟨a, vs, e, h1.free hs k, hz, RepL.free hs ds (hz.lone k) h2⟩
  | .ro t ds, ℓ, ℓ', v, k, h => by
    rw [rep_inner rfl] at h ⊢
    obtain ⟨a, vs, e, h1, hz, h2⟩ := h
    exact ⟨a, vs, e, h1.free hs k, hz, RepL.free hs ds (hz.lone k) h2⟩
  | .dct o t ks ds, ℓ, ℓ', v, k, h => by
    rw [rep_inner rfl] at h ⊢
    obtain ⟨a, vs, e, h1, hz, h2⟩ := h
    exact ⟨a, vs, e, h1.free hs k, hz, RepL.free hs ds (hz.lone k) h2⟩
  | .ins o C fs ds, ℓ, ℓ', v, k, h => by
    rw [rep_inner rfl] at h ⊢
    obtain ⟨a, vs, e, h1, hz, h2⟩ := h
    exact ⟨a, vs, e, h1.free hs k, hz, RepL.free hs ds (hz.lone k) h2⟩
theorem RepL.free (hs : Same w.S w'.S) : ∀ (ds : List D) {ℓ ℓ' : Loc} {j j' : Nat} {vs : List V}, ownL ds = false → RepL K w ds ℓ j vs → RepL K w' ds ℓ' j' vs
  | [], _, _, _, _, _, _, h => by simpa [RepL] using h
  | d :: ds, ℓ, ℓ', j, j', vs, k, h => by
    simp only [RepL] at h ⊢
    obtain ⟨v, r, e, h1, h2⟩ := h
    simp only [ownL, Bool.or_eq_false_iff] at k
    exact ⟨v, r, e, Rep.free hs d k.1 h1, RepL.free hs ds k.2 h2⟩
end
theorem frz_if {o : Ow} {a : Addr} {ℓ : Loc} {u : HO} (hs : Same w.S w'.S) (k : FrzTo w w' ℓ) (h : if o.mine then w.G a = some ℓ ∧ w.H a = some u else w.S a = some u) : w'.S a = some u := by
  cases e : o.mine with
  | true => rw [e] at h; exact k a [] u (by simpa using h.1) h.2
  | false => rw [e] at h; exact hs _ _ h
theorem frz_ifR {o : Ow} {a : Addr} {ℓ : Loc} {u : HO} (hs : Same w.S w'.S) (k : FrzTo w w' ℓ) (h : if o.mine then w.G a = some ℓ ∧ w.H a = some u else Rd w.S a u) : Rd w'.S a u := by
  cases e : o.mine with
  | true => rw [e] at h; exact .inl (k a [] u (by simpa using h.1) h.2)
  | false => rw [e] at h; exact rd_same hs h
mutual
theorem Rep.frz (hs : Same w.S w'.S) : ∀ (d : D) {ℓ ℓ' : Loc} {v : V}, FrzTo w w' ℓ → Rep K w d ℓ v → Rep K w' d.frz ℓ' v
  | .any, _, _, _, _, h => leaf_rep rfl h
  | .non, _, _, _, _, h => leaf_rep rfl h
  | .bl _, _, _, _, _, h => leaf_rep rfl h
  | .int _, _, _, _, _, h => leaf_rep rfl h
  | .str _, _, _, _, _, h => leaf_rep rfl h
  | .obj _, _, _, _, _, h => leaf_rep rfl h
  | .ty _, _, _, _, _, h => leaf_rep rfl h
  | .tup o ds, ℓ, ℓ', v, k, h => by
    simp only [Rep] at h
    obtain ⟨a, vs, e, h1, hz, h2⟩ := h
    cases o with
    | false => simp only [D.frz, Rep]; exact ⟨a, vs, e, hs _ _ h1, ⟨hz.1, fun _ => hz.2 rfl⟩, RepL.free hs ds (hz.2 rfl) h2⟩
    | true => simp only [D.frz, Rep]; exact ⟨a, vs, e, hs _ _ h1, ⟨by rw [frzL_map, List.length_map]; exact hz.1, fun _ => frzL_own ds⟩, RepL.frz hs ds k h2⟩
  | .lst o ds, ℓ, ℓ', v, k, h => by
    simp only [Rep] at h
    obtain ⟨a, vs, e, h1, hz, h2⟩ := h
    have h3 := frz_if hs k h1
    cases o with
    | deep => simp only [D.frz, Rep]; exact ⟨a, vs, e, h3, ⟨by rw [frzL_map, List.length_map]; exact hz.1, fun _ => frzL_own ds⟩, RepL.frz hs ds k h2⟩
    | flat => simp only [D.frz, Rep]; exact ⟨a, vs, e, h3, ⟨hz.1, fun _ => hz.2 rfl⟩, RepL.free hs ds (hz.2 rfl) h2⟩
    | ice => simp only [D.frz, Rep]; exact ⟨a, vs, e, h3, ⟨hz.1, fun _ => hz.2 rfl⟩, RepL.free hs ds (hz.2 rfl) h2⟩
  | .ro t ds, ℓ, ℓ', v, k, h => Rep.free hs (.ro t ds) rfl h
  | .dct o t ks ds, ℓ, ℓ', v, k, h => by
    simp only [Rep] at h
    obtain ⟨a, vs, e, h1, hz, h2⟩ := h
    have h3 := frz_ifR hs k h1
    cases o with
    | deep => simp only [D.frz, Rep]; exact ⟨a, vs, e, h3, ⟨hz.1, hz.2.1, fun _ => frzL_own ds⟩, RepL.frz hs ds k h2⟩
    | flat => simp only [D.frz, Rep]; exact ⟨a, vs, e, h3, ⟨hz.1, hz.2.1, fun _ => hz.2.2 rfl⟩, RepL.free hs ds (hz.2.2 rfl) h2⟩
    | ice => simp only [D.frz, Rep]; exact ⟨a, vs, e, h3, ⟨hz.1, hz.2.1, fun _ => hz.2.2 rfl⟩, RepL.free hs ds (hz.2.2 rfl) h2⟩
  | .ins o C fs ds, ℓ, ℓ', v, k, h => by
    simp only [Rep] at h
    obtain ⟨a, vs, e, ⟨dx, h1⟩, hz, h2⟩ := h
    have h3 := frz_if hs k h1
    cases o with
    | deep => simp only [D.frz, Rep]; exact ⟨a, vs, e, ⟨dx, h3⟩, ⟨hz.1, fun _ => frzL_own ds⟩, RepL.frz hs ds k h2⟩
    | flat => simp only [D.frz, Rep]; exact ⟨a, vs, e, ⟨dx, h3⟩, ⟨hz.1, fun _ => hz.2 rfl⟩, RepL.free hs ds (hz.2 rfl) h2⟩
    | ice => simp only [D.frz, Rep]; exact ⟨a, vs, e, ⟨dx, h3⟩, ⟨hz.1, fun _ => hz.2 rfl⟩, RepL.free hs ds (hz.2 rfl) h2⟩
theorem RepL.frz (hs : Same w.S w'.S) : ∀ (ds : List D) {ℓ ℓ' : Loc} {j j' : Nat} {vs : List V}, FrzTo w w' ℓ → RepL K w ds ℓ j vs → RepL K w' (frzL ds) ℓ' j' vs
  | [], _, _, _, _, _, _, h => by simpa [RepL, frzL] using h
  | d :: ds, ℓ, ℓ', j, j', vs, k, h => by
    simp only [RepL, frzL] at h ⊢
    obtain ⟨v, r, e, h1, h2⟩ := h
    exact ⟨v, r, e, Rep.frz hs d (k.sub [j]) h1, RepL.frz hs ds k h2⟩
end
theorem RepL.length : ∀ {ds : List D} {ℓ : Loc} {j : Nat} {vs : List V}, RepL K w ds ℓ j vs → vs.length = ds.length
  | [], _, _, _, h => by simp only [RepL] at h; rw [h]; rfl
  | d :: ds, _, _, _, h => by
    simp only [RepL] at h
    obtain ⟨v, r, e, _, h2⟩ := h
    rw [e, List.length_cons, List.length_cons, RepL.length h2]
theorem RepL.get : ∀ {ds : List D} {ℓ : Loc} {j : Nat} {vs : List V} {i : Nat} {d : D}, RepL K w ds ℓ j vs → ds[i]? = some d → ∃ v, vs[i]? = some v ∧ Rep K w d (ℓ ++ [j + i]) v
  | [], _, _, _, _, _, _, e => by simp at e
  | d :: ds, ℓ, j, vs, 0, d', h, e => by
    simp only [RepL] at h
    obtain ⟨v, r, e1, h1, h2⟩ := h
    obtain rfl : d = d' := by simpa using e
    exact ⟨v, by rw [e1]; rfl, by simpa using h1⟩
  | d :: ds, ℓ, j, vs, i + 1, d', h, e => by
    simp only [RepL] at h
    obtain ⟨v, r, e1, h1, h2⟩ := h
    obtain ⟨v', e2, h3⟩ := RepL.get (i := i) (d := d') h2 (by simpa using e)
    refine ⟨v', by rw [e1]; simpa using e2, ?_⟩
    rw [show j + (i + 1) = j + 1 + i by omega]
    exact h3
/-- lists by their places -/
theorem RepL.of : ∀ {ds : List D} {ℓ : Loc} {j : Nat} {vs : List V}, vs.length = ds.length → (∀ i d v, ds[i]? = some d → vs[i]? = some v → Rep K w d (ℓ ++ [j + i]) v) → RepL K w ds ℓ j vs
  | [], _, _, vs, hl, _ => by simp only [RepL]; exact List.length_eq_zero_iff.mp (by simpa using hl)
  | d :: ds, ℓ, j, [], hl, _ => by simp at hl
  | d :: ds, ℓ, j, v :: vs, hl, h => by
    simp only [RepL]
    refine ⟨v, vs, rfl, by simpa using h 0 d v rfl rfl, RepL.of (by simpa using hl) fun i d' v' e1 e2 => ?_⟩
    rw [show j + 1 + i = j + (i + 1) by omega]
    exact h (i + 1) d' v' (by simpa using e1) (by simpa using e2)
theorem RepL.app {ds es : List D} {ℓ : Loc} {j : Nat} {vs us : List V} (h : RepL K w ds ℓ j vs) (g : RepL K w es ℓ (j + ds.length) us) : RepL K w (ds ++ es) ℓ j (vs ++ us) := by
  induction ds generalizing j vs with
  | nil => simp only [RepL] at h; subst h; simpa using g
  | cons d ds ih =>
    simp only [RepL] at h
    obtain ⟨v, r, rfl, h1, h2⟩ := h
    simp only [List.cons_append, RepL]
    refine ⟨v, r ++ us, rfl, h1, ih h2 ?_⟩
    rw [List.length_cons, show j + (ds.length + 1) = j + 1 + ds.length by omega] at g
    exact g
theorem RepL.one {d : D} {ℓ : Loc} {j : Nat} {v : V} (h : Rep K w d (ℓ ++ [j]) v) : RepL K w [d] ℓ j [v] := by
  simp only [RepL]
  exact ⟨v, [], rfl, h, rfl⟩
theorem RepL.set {ds : List D} {ℓ : Loc} {j : Nat} {vs : List V} {i : Nat} {d : D} {v : V} (h : RepL K w ds ℓ j vs) (g : Rep K w d (ℓ ++ [j + i]) v) : RepL K w (ds.set i d) ℓ j (vs.set i v) := by
  refine RepL.of (by rw [List.length_set, List.length_set, h.length]) fun i' d' v' e1 e2 => ?_
  by_cases hi : i' = i
  · subst hi
    have h1 : i' < ds.length := by
      have := (List.getElem?_eq_some_iff.mp e1).1
      simpa using this
    rw [List.getElem?_set_self h1] at e1
    rw [List.getElem?_set_self (by rw [h.length]; exact h1)] at e2
    cases e1; cases e2
    exact g
  · rw [List.getElem?_set_ne (Ne.symm hi)] at e1 e2
    obtain ⟨v2, e3, r⟩ := h.get e1
    rw [e2] at e3; cases e3
    exact r
end
end FL
namespace FL
open PySem PySem.Spec PyProof.Rows L2
abbrev Sl := L2.St
/-- an environment: what each name holds -/
abbrev En := List (Option D)
/-- what is wished of an exception: class, fields, environment -/
abbrev EE := Value → Option (List (Str × D)) → En → Prop
abbrev RE := En → EE → (D → En → Prop) → Prop
abbrev RT := En → EE → (Bool → En → Prop) → Prop
/-- an argument: a value, or a name lent -/
inductive AD where
  | val (d : D) | brw (i : Nat)
abbrev RA := En → EE → (List AD → En → Prop) → Prop
structure Fin where
  nx : En → Prop
  rt : D → En → Prop
  bk : En → Prop := fun _ => False
  ct : En → Prop := fun _ => False
abbrev RS := En → EE → Fin → Prop
/-- the names laid out one by one -/
def nf : En → (En → Prop) → Prop
  | [], k => k []
  | a :: r, k => nf r fun r' => k (a :: r')
theorem nf_eq : ∀ (ρ : En) (k : En → Prop), nf ρ k = k ρ
  | [], _ => rfl
  | a :: r, k => nf_eq r _
theorem nf_of {ρ : En} {k : En → Prop} (h : nf ρ k) : k ρ := by rw [nf_eq] at h; exact h
def Fin.wn (F : Fin) (k : En → Prop) : Fin := ⟨k, F.rt, F.bk, F.ct⟩
/-- the ends of a loop's body -/
def Fin.lp (F : Fin) (k : En → Prop) : Fin := ⟨k, F.rt, F.nx, k⟩
/-- a fixed location: a caller's (0), or an elder temporary's -/
def Fixed (n τ : Nat) (ℓ : Loc) : Prop := ∃ h r, ℓ = h :: r ∧ (h = 0 ∨ (n < h ∧ h < τ))
structure Ext (n τ : Nat) (w w' : Wd) : Prop where
  s : Same w.S w'.S
  f : ∀ a ℓ, w.G a = some ℓ → Fixed n τ ℓ → w'.G a = some ℓ ∧ w'.H a = w.H a
theorem Fixed.mono {n τ τ' : Nat} {ℓ : Loc} (h : Fixed n τ ℓ) (k : τ ≤ τ') : Fixed n τ' ℓ := by
  obtain ⟨a, r, e, q⟩ := h
  exact ⟨a, r, e, by omega⟩
theorem Ext.refl {n τ : Nat} {w : Wd} : Ext n τ w w := ⟨Same.refl _, fun _ _ h _ => ⟨h, rfl⟩⟩
theorem Ext.trans {n τ : Nat} {w w1 w2 : Wd} (a : Ext n τ w w1) (b : Ext n τ w1 w2) : Ext n τ w w2 :=
  ⟨a.s.trans b.s, fun x ℓ h k => by
    obtain ⟨h1, e1⟩ := a.f x ℓ h k
    obtain ⟨h2, e2⟩ := b.f x ℓ h1 k
    exact ⟨h2, e2.trans e1⟩⟩
theorem Ext.mono {n τ τ' : Nat} {w w' : Wd} (a : Ext n τ' w w') (k : τ ≤ τ') : Ext n τ w w' := ⟨a.s, fun x ℓ h f => a.f x ℓ h (f.mono k)⟩
theorem Ext.rep {n τ : Nat} {K : PySem.W.Frag} {w w' : Wd} (a : Ext n τ w w') {d : D} {h : Nat} {r : Loc} {v : V} (k : n < h ∧ h < τ) (q : Rep K w d (h :: r) v) : Rep K w' d (h :: r) v :=
  q.to a.s d fun x s e => a.f x _ e ⟨h, r ++ s, by simp, .inr k⟩
/-- a sound world -/
structure Wf (w : Wd) : Prop where
  sh : Same w.S w.H
  tg : ∀ a ℓ, w.G a = some ℓ → w.S a = none ∧ Mut (w.H a)
structure StE (K : PySem.W.Frag) (w : Wd) (σ : Sl) (ρ : En) : Prop where
  wf : Wf w
  len : σ.length = ρ.length
  rep : ∀ i d, ρ[i]? = some (some d) → ∃ v, σ[i]? = some (some v) ∧ Rep K w d [i + 1] v
def XRepr (K : PySem.W.Frag) (w : Wd) : Option Addr → Option (List (Str × D)) → Prop
  | none, none => True
  | some a, some fs => ∃ vs, w.S a = some (.xd ((fs.map (·.1)).zip vs)) ∧ fs.length = vs.length ∧ ownL (fs.map (·.2)) = false ∧ RepL K w (fs.map (·.2)) [] 0 vs
  | _, _ => False
/-- the world in an expression's end -/
structure EndE (K : PySem.W.Frag) (τ : Nat) (w : Wd) (σ : Sl) (ρ ρ' : En) (w' : Wd) : Prop where
  len : ρ'.length = ρ.length
  st : StE K w' σ ρ'
  ext : Ext ρ.length τ w w'
theorem EndE.trans {K : PySem.W.Frag} {τ τ' : Nat} {w w1 w2 : Wd} {σ : Sl} {ρ ρ1 ρ2 : En} (a : EndE K τ w σ ρ ρ1 w1) (b : EndE K τ' w1 σ ρ1 ρ2 w2) (k : τ ≤ τ') : EndE K τ w σ ρ ρ2 w2 :=
  ⟨b.len.trans a.len, b.st, a.ext.trans (by have := b.ext.mono k; rw [a.len] at this; exact this)⟩
def SX (K : PySem.W.Frag) (W : WX) (τ : Nat) (w : Wd) (σ : Sl) (ρ : En) (E : EE) : Prop :=
  ∀ c fs ρ' w' x, E c fs ρ' → EndE K τ w σ ρ ρ' w' → XRepr K w' x fs → W c x σ w'.H
theorem SX.then {K : PySem.W.Frag} {W : WX} {τ τ' : Nat} {w w1 : Wd} {σ : Sl} {ρ ρ1 : En} {E : EE} (x : SX K W τ w σ ρ E) (a : EndE K τ w σ ρ ρ1 w1) (k : τ ≤ τ') : SX K W τ' w1 σ ρ1 E :=
  fun c fs ρ' w' d h e r => x c fs ρ' w' d h (a.trans e k) r
def SE (K : PySem.W.Frag) (W : WX) (t : TE) (r : RE) : Prop :=
  ∀ (τ : Nat) (w : Wd) (σ : Sl) (ρ : En) (E : EE) (Q : D → En → Prop) (Qv : VK), ρ.length < τ → StE K w σ ρ → r ρ E Q →
    (∀ d ρ' w' v, Q d ρ' → EndE K τ w σ ρ ρ' w' → Rep K w' d [τ] v → Qv v w'.H) → SX K W τ w σ ρ E → t σ w.H Qv
def STt (K : PySem.W.Frag) (W : WX) (t : TT) (r : RT) : Prop :=
  ∀ (τ : Nat) (w : Wd) (σ : Sl) (ρ : En) (E : EE) (Q : Bool → En → Prop) (Qv : Bool → Hp → Prop), ρ.length < τ → StE K w σ ρ → r ρ E Q →
    (∀ b ρ' w', Q b ρ' → EndE K τ w σ ρ ρ' w' → Qv b w'.H) → SX K W τ w σ ρ E → t σ w.H Qv
/-- arguments: values at τ, τ + 1, .. -/
def ArgsAt (K : PySem.W.Frag) (w : Wd) (σ : Sl) : List AD → Nat → List V → Prop
  | [], _, vs => vs = []
  | .val d :: r, τ, vs => ∃ v us, vs = v :: us ∧ Rep K w d [τ] v ∧ ArgsAt K w σ r (τ + 1) us
  | .brw i :: r, τ, vs => ∃ v us, vs = v :: us ∧ σ[i]? = some (some v) ∧ ArgsAt K w σ r (τ + 1) us
def SA (K : PySem.W.Frag) (W : WX) (k : Nat) (t : TA) (r : RA) : Prop :=
  ∀ (τ : Nat) (w : Wd) (σ : Sl) (ρ : En) (E : EE) (Q : List AD → En → Prop) (Qv : List V → Hp → Prop), ρ.length < τ → StE K w σ ρ → r ρ E Q →
    (∀ ads ρ' w' vs, Q ads ρ' → ads.length = k → EndE K τ w σ ρ ρ' w' → ArgsAt K w' σ ads τ vs → Qv vs w'.H) → SX K W τ w σ ρ E → t σ w.H Qv
/-- the names of M are not stored anew -/
def KeepM (M : List Nat) (σ σ' : Sl) : Prop := ∀ i ∈ M, σ'[i]? = σ[i]?
structure EndS (K : PySem.W.Frag) (M : List Nat) (w : Wd) (σ : Sl) (ρ : En) (w' : Wd) (σ' : Sl) (ρ' : En) : Prop where
  len : ρ'.length = ρ.length
  st : StE K w' σ' ρ'
  ext : Ext ρ.length (ρ.length + 1) w w'
  km : KeepM M σ σ'
theorem EndS.trans {K : PySem.W.Frag} {M : List Nat} {w w1 w2 : Wd} {σ σ1 σ2 : Sl} {ρ ρ1 ρ2 : En} (a : EndS K M w σ ρ w1 σ1 ρ1) (b : EndS K M w1 σ1 ρ1 w2 σ2 ρ2) : EndS K M w σ ρ w2 σ2 ρ2 :=
  ⟨b.len.trans a.len, b.st, a.ext.trans (by have := b.ext; rw [a.len] at this; exact this), fun i hi => (b.km i hi).trans (a.km i hi)⟩
theorem EndE.s {K : PySem.W.Frag} {M : List Nat} {τ : Nat} {w w' : Wd} {σ : Sl} {ρ ρ' : En} (a : EndE K τ w σ ρ ρ' w') (h : ρ.length < τ) : EndS K M w σ ρ w' σ ρ' := ⟨a.len, a.st, a.ext.mono h, fun _ _ => rfl⟩
theorem EndS.refl {K : PySem.W.Frag} {M : List Nat} {w : Wd} {σ : Sl} {ρ : En} (h : StE K w σ ρ) : EndS K M w σ ρ w σ ρ := ⟨rfl, h, Ext.refl, fun _ _ => rfl⟩
theorem EndE.refl {K : PySem.W.Frag} {τ : Nat} {w : Wd} {σ : Sl} {ρ : En} (h : StE K w σ ρ) : EndE K τ w σ ρ ρ w := ⟨rfl, h, Ext.refl⟩
structure SF (K : PySem.W.Frag) (W : WX) (M : List Nat) (w : Wd) (σ : Sl) (ρ : En) (E : EE) (F : Fin) (D : Ends) : Prop where
  nx : ∀ ρ' w' σ', F.nx ρ' → EndS K M w σ ρ w' σ' ρ' → D.nx σ' w'.H
  rt : ∀ d ρ' w' σ' v, F.rt d ρ' → EndS K M w σ ρ w' σ' ρ' → Rep K w' d [ρ.length + 1] v → D.rt v w'.H
  bk : ∀ ρ' w' σ', F.bk ρ' → EndS K M w σ ρ w' σ' ρ' → D.bk σ' w'.H
  ct : ∀ ρ' w' σ', F.ct ρ' → EndS K M w σ ρ w' σ' ρ' → D.ct σ' w'.H
  ex : ∀ c fs ρ' w' σ' x, E c fs ρ' → EndS K M w σ ρ w' σ' ρ' → XRepr K w' x fs → W c x σ' w'.H
theorem SF.then {K : PySem.W.Frag} {W : WX} {M : List Nat} {w w1 : Wd} {σ σ1 : Sl} {ρ ρ1 : En} {E : EE} {F : Fin} {D : Ends} (x : SF K W M w σ ρ E F D) (a : EndS K M w σ ρ w1 σ1 ρ1) : SF K W M w1 σ1 ρ1 E F D :=
  ⟨fun ρ' w' σ' h e => x.nx ρ' w' σ' h (a.trans e), fun d ρ' w' σ' v h e r => x.rt d ρ' w' σ' v h (a.trans e) (by rw [a.len] at r; exact r), fun ρ' w' σ' h e => x.bk ρ' w' σ' h (a.trans e),
    fun ρ' w' σ' h e => x.ct ρ' w' σ' h (a.trans e), fun c fs ρ' w' σ' d h e r => x.ex c fs ρ' w' σ' d h (a.trans e) r⟩
theorem SF.sx {K : PySem.W.Frag} {W : WX} {M : List Nat} {w : Wd} {σ : Sl} {ρ : En} {E : EE} {F : Fin} {D : Ends} (x : SF K W M w σ ρ E F D) : SX K W (ρ.length + 1) w σ ρ E :=
  fun c fs ρ' w' d h e r => x.ex c fs ρ' w' σ d h (e.s (Nat.lt_succ_self _)) r
def SS (K : PySem.W.Frag) (W : WX) (M : List Nat) (t : TS) (r : RS) : Prop :=
  ∀ (w : Wd) (σ : Sl) (ρ : En) (E : EE) (F : Fin) (D : Ends), StE K w σ ρ → r ρ E F → SF K W M w σ ρ E F D → t D σ w.H
structure FE (X : Cx) (W : WX) (e : Expr) (r : RE) : Prop where
  ex : ∃ t, PE X e t ∧ SE X.K W t r
structure FT (X : Cx) (W : WX) (e : Expr) (r : RT) : Prop where
  ex : ∃ t, PT X e t ∧ STt X.K W t r
/-- .. whatever its whole is (and, or) -/
structure FW (X : Cx) (W : WX) (e : Expr) (r : RT) : Prop where
  ex : ∃ t, PW X e t ∧ STt X.K W t r
structure FA (X : Cx) (W : WX) (es : List Expr) (r : RA) : Prop where
  ex : ∃ t, PA X es t ∧ SA X.K W es.length t r
structure FS (X : Cx) (W : WX) (M : List Nat) (st : Stmt) (r : RS) : Prop where
  ex : ∃ t, PS X st t ∧ SS X.K W M t r
structure FSs (X : Cx) (W : WX) (M : List Nat) (st : List Stmt) (r : RS) : Prop where
  ex : ∃ t, PSs X st t ∧ SS X.K W M t r
/-- the tags renamed -/
def Wd.ren (w : Wd) (f : Loc → Option Loc) : Wd := ⟨fun a => (w.G a).bind f, w.S, w.H⟩
theorem Wf.ren {w : Wd} (h : Wf w) (f : Loc → Option Loc) : Wf (w.ren f) := ⟨h.sh, fun a ℓ e => by
  cases q : w.G a with
  | none => rw [show (w.ren f).G a = (w.G a).bind f from rfl, q] at e; cases e
  | some k => exact h.tg a k q⟩
theorem ren_at {w : Wd} {f : Loc → Option Loc} {a : Addr} {ℓ ℓ' : Loc} (h : w.G a = some ℓ) (e : f ℓ = some ℓ') : (w.ren f).G a = some ℓ' := by
  show (w.G a).bind f = some ℓ'
  rw [h]; exact e
theorem KeptTo.ren {w : Wd} {f : Loc → Option Loc} {ℓ ℓ' : Loc} (h : ∀ s, f (ℓ ++ s) = some (ℓ' ++ s)) : KeptTo w (w.ren f) ℓ ℓ' := fun a s e => ⟨ren_at e (h s), rfl⟩
theorem Rep.ren {K : PySem.W.Frag} {w : Wd} {f : Loc → Option Loc} {d : D} {ℓ ℓ' : Loc} {v : V} (q : Rep K w d ℓ v) (h : ∀ s, f (ℓ ++ s) = some (ℓ' ++ s)) : Rep K (w.ren f) d ℓ' v := Rep.to (w := w) (w' := w.ren f) (Same.refl _) d (KeptTo.ren h) q
/-- a new owned node at p -/
def Wd.new (w : Wd) (p : Addr) (ℓ : Loc) (o : HO) : Wd := ⟨fun a => if a = p then some ℓ else w.G a, w.S, upd w.H p o⟩
/-- a new shared node at p -/
def Wd.shr (w : Wd) (p : Addr) (o : HO) : Wd := ⟨w.G, upd w.S p o, upd w.H p o⟩
theorem Wf.noG {w : Wd} (h : Wf w) {p : Addr} (n : w.H p = none) : w.G p = none := by
  cases q : w.G p with
  | none => rfl
  | some k => have := (h.tg p k q).2; rw [n] at this; exact this.elim
theorem Wf.noS {w : Wd} (h : Wf w) {p : Addr} (n : w.H p = none) : w.S p = none := h.sh.free n
theorem Same.updNew {H : Hp} {p : Addr} {o : HO} (n : H p = none) : Same H (upd H p o) := fun b u e => by rw [upd_ne (ne_of_none e n)]; exact e
theorem Wf.new {w : Wd} (h : Wf w) {p : Addr} (n : w.H p = none) {ℓ : Loc} {o : HO} (m : Mut (some o)) : Wf (w.new p ℓ o) := by
  refine ⟨fun b u e => ?_, fun a k e => ?_⟩
  · show upd w.H p o b = some u
    rw [upd_ne (ne_of_none (h.sh b u e) n)]; exact h.sh b u e
  · by_cases ha : a = p
    · subst ha
      exact ⟨h.noS n, by show Mut (upd w.H a o a); rw [upd_same]; exact m⟩
    · have e' : w.G a = some k := by
        have e : (if a = p then some ℓ else w.G a) = some k := e
        rw [if_neg ha] at e; exact e
      exact ⟨(h.tg a k e').1, by show Mut (upd w.H p o a); rw [upd_ne ha]; exact (h.tg a k e').2⟩
theorem Wf.shr {w : Wd} (h : Wf w) {p : Addr} (n : w.H p = none) {o : HO} : Wf (w.shr p o) := by
  refine ⟨fun b u e => ?_, fun a k e => ?_⟩
  · show upd w.H p o b = some u
    have e : upd w.S p o b = some u := e
    by_cases hb : b = p
    · subst hb; rw [upd_same] at e ⊢; exact e
    · rw [upd_ne hb] at e ⊢; exact h.sh b u e
  · have e' : w.G a = some k := e
    have ha : a ≠ p := fun z => by rw [z, h.noG n] at e'; cases e'
    exact ⟨by show upd w.S p o a = none; rw [upd_ne ha]; exact (h.tg a k e').1, by show Mut (upd w.H p o a); rw [upd_ne ha]; exact (h.tg a k e').2⟩
theorem new_kept {w : Wd} (h : Wf w) {p : Addr} (n : w.H p = none) {ℓ k : Loc} {o : HO} : KeptTo w (w.new p ℓ o) k k := fun a s e => by
  have ha : a ≠ p := fun z => by subst z; rw [h.noG n] at e; cases e
  exact ⟨by show (if a = p then some ℓ else w.G a) = _; rw [if_neg ha]; exact e, upd_ne ha⟩
theorem shr_kept {w : Wd} (h : Wf w) {p : Addr} (n : w.H p = none) {k : Loc} {o : HO} : KeptTo w (w.shr p o) k k := fun a s e => by
  have e : w.G a = some (k ++ s) := e
  have ha : a ≠ p := fun z => by subst z; rw [h.noG n] at e; cases e
  exact ⟨e, upd_ne ha⟩
theorem shr_same {w : Wd} (h : Wf w) {p : Addr} (n : w.H p = none) {o : HO} : Same w.S (w.shr p o).S := Same.updNew (h.noS n)
theorem StE.to {K : PySem.W.Frag} {w w' : Wd} {σ : Sl} {ρ : En} (h : StE K w σ ρ) (wf : Wf w') (hs : Same w.S w'.S) (k : ∀ i, i < ρ.length → KeptTo w w' [i + 1] [i + 1]) : StE K w' σ ρ :=
  ⟨wf, h.len, fun i d e => by
    obtain ⟨v, e1, q⟩ := h.rep i d e
    exact ⟨v, e1, q.to hs d (k i (List.getElem?_eq_some_iff.mp e).1)⟩⟩
theorem EndE.new {K : PySem.W.Frag} {τ : Nat} {w : Wd} {σ : Sl} {ρ : En} (h : StE K w σ ρ) {p : Addr} (n : w.H p = none) {ℓ : Loc} {o : HO} (m : Mut (some o)) : EndE K τ w σ ρ ρ (w.new p ℓ o) :=
  ⟨rfl, h.to (h.wf.new n m) (Same.refl _) fun i _ => new_kept h.wf n, ⟨Same.refl _, fun a k e _ => by simpa using new_kept (k := k) h.wf n a [] (by simpa using e)⟩⟩
theorem EndE.shr {K : PySem.W.Frag} {τ : Nat} {w : Wd} {σ : Sl} {ρ : En} (h : StE K w σ ρ) {p : Addr} (n : w.H p = none) {o : HO} : EndE K τ w σ ρ ρ (w.shr p o) :=
  ⟨rfl, h.to (h.wf.shr n) (shr_same h.wf n) fun i _ => shr_kept h.wf n, ⟨shr_same h.wf n, fun a k e _ => by simpa using shr_kept (k := k) h.wf n a [] (by simpa using e)⟩⟩
/-- temporaries τ, τ + 1, .. (k of them) become the children of τ -/
def gather (τ k : Nat) : Loc → Option Loc
  | h :: s => if τ ≤ h ∧ h < τ + k then some (τ :: (h - τ) :: s) else some (h :: s)
  | [] => some []
/-- a renaming that leaves names and fixed locations as they are -/
structure Calm (n τ : Nat) (f : Loc → Option Loc) : Prop where
  fix : ∀ h s, h ≤ n ∨ h < τ → f (h :: s) = some (h :: s)
theorem EndE.ren {K : PySem.W.Frag} {τ : Nat} {w : Wd} {σ : Sl} {ρ : En} {f : Loc → Option Loc} (h : StE K w σ ρ) (c : Calm ρ.length τ f) : EndE K τ w σ ρ ρ (w.ren f) :=
  ⟨rfl, h.to (h.wf.ren f) (Same.refl _) fun i hi => KeptTo.ren fun s => c.fix _ _ (.inl hi), ⟨Same.refl _, fun a ℓ e ⟨x, r, e2, q⟩ => by
    subst e2
    exact ⟨ren_at e (c.fix _ _ (by omega)), rfl⟩⟩⟩
theorem gather_calm {n τ k : Nat} (h : n < τ) : Calm n τ (gather τ k) := ⟨fun a s q => by
  show (if _ then _ else _) = _
  rw [if_neg (by omega)]⟩
theorem gather_at {τ k j : Nat} (h : j < k) (s : Loc) : gather τ k ((τ + j) :: s) = some (τ :: j :: s) := by
  show (if _ then _ else _) = _
  rw [if_pos (by omega)]
  simp
end FL
namespace FL
open PySem PySem.Spec PyProof.Rows L2
abbrev RO := En → EE → (AD → En → Prop) → Prop
def AdAt (K : PySem.W.Frag) (w : Wd) (σ : Sl) : AD → Nat → V → Prop
  | .val d, τ, v => Rep K w d [τ] v
  | .brw i, _, v => σ[i]? = some (some v)
def SOp (K : PySem.W.Frag) (W : WX) (t : TE) (r : RO) : Prop :=
  ∀ (τ : Nat) (w : Wd) (σ : Sl) (ρ : En) (E : EE) (Q : AD → En → Prop) (Qv : VK), ρ.length < τ → StE K w σ ρ → r ρ E Q →
    (∀ d ρ' w' v, Q d ρ' → EndE K τ w σ ρ ρ' w' → AdAt K w' σ d τ v → Qv v w'.H) → SX K W τ w σ ρ E → t σ w.H Qv
structure FO (X : Cx) (W : WX) (e : Expr) (r : RO) : Prop where
  ex : ∃ t, PE X e t ∧ SOp X.K W t r
def oV (r : RE) : RO := fun ρ E Q => r ρ E fun d ρ' => Q (.val d) ρ'
def oN (i : Nat) : RO := fun ρ _ Q => match ρ[i]? with
  | some (some _) => Q (.brw i) ρ
  | _ => False
section
variable {X : Cx} {W : WX} {e : Expr}
theorem fo_val {r : RE} (h : FE X W e r) : FO X W e (oV r) := by
  obtain ⟨t, p, s⟩ := h.ex
  exact ⟨t, p, fun τ w σ ρ E Q Qv hn st hr hq hx => s τ w σ ρ E _ Qv hn st hr (fun d ρ' w' v q e' r' => hq (.val d) ρ' w' v q e' r') hx⟩
theorem fo_brw {i : Nat} {x : Str} {pos : Pos} (hN : X.N[i]? = some x := by rfl) (hv : Vis X.env.scope x := by first | exact Or.inl rfl | exact Or.inr (Or.inl rfl) | exact Or.inr (Or.inr rfl)) (hd : (x == ("__debug__" : Str)) = false := by decide)
    (hcd : (x == ("__classdict__" : Str)) = false := by decide) : FO X W (.Name x pos) (oN i) := by
  refine ⟨_, pe_var hN hv hd hcd, fun τ w σ ρ E Q Qv hn st hr hq hx => ?_⟩
  unfold oN at hr
  split at hr
  · rename_i d e
    obtain ⟨v, e1, r1⟩ := st.rep i d e
    exact ⟨v, e1, hq _ _ _ _ hr (EndE.refl st) e1⟩
  · exact hr.elim
end
/-- what an operand is, in the environment at hand -/
def adD (ρ : En) : AD → Option D
  | .val d => some d
  | .brw i => match ρ[i]? with
    | some (some d) => some d
    | _ => none
def on1 (ρ : En) (a : AD) (k : D → Prop) : Prop := match adD ρ a with
  | some d => k d
  | none => False
/-- a data rule of two values -/
abbrev DO := D → D → (D → Prop) → Prop
def rBin (dop : DO) (ra rb : RO) : RE := fun ρ E Q => ra ρ E fun x ρ1 => rb ρ1 E fun y ρ2 => on1 ρ2 x fun dx => on1 ρ2 y fun dy => dop dx dy fun d => Q d ρ2
def rUn (dop : D → (D → Prop) → Prop) (ra : RO) : RE := fun ρ E Q => ra ρ E fun x ρ1 => on1 ρ1 x fun dx => dop dx fun d => Q d ρ1
/-- by values: what is asked of x and y follows from what the data rule asks -/
def SOK (K : PySem.W.Frag) (r : R2) (dop : DO) : Prop :=
  ∀ (τ : Nat) (w : Wd) (σ : Sl) (ρ : En) (x y : V) (dx dy : D) (ℓ ℓ' : Loc) (Q : D → Prop) (Qv : VK), ρ.length < τ → StE K w σ ρ → Rep K w dx ℓ x → Rep K w dy ℓ' y → dop dx dy Q →
    (∀ d w' v, Q d → EndE K τ w σ ρ ρ w' → Rep K w' d [τ] v → Qv v w'.H) → r x y w.H Qv
structure FOp (X : Cx) (f : Value → Value → Sem Value) (dop : DO) : Prop where
  ex : ∃ r : R2, OpR X f r ∧ SOK X.K r dop
theorem FOp.or {X : Cx} {f : Value → Value → Sem Value} {p q : DO} (h : FOp X f p) (g : FOp X f q) : FOp X f (fun a b Q => p a b Q ∨ q a b Q) := by
  obtain ⟨r, h1, h2⟩ := h.ex
  obtain ⟨r', g1, g2⟩ := g.ex
  refine ⟨_, h1.or g1, fun τ w σ ρ x y dx dy ℓ ℓ' Q Qv hn st rx ry hd hq => ?_⟩
  rcases hd with hd | hd
  · exact .inl (h2 τ w σ ρ x y dx dy ℓ ℓ' Q Qv hn st rx ry hd hq)
  · exact .inr (g2 τ w σ ρ x y dx dy ℓ ℓ' Q Qv hn st rx ry hd hq)
theorem FOp.imp {X : Cx} {f : Value → Value → Sem Value} {p q : DO} (h : FOp X f p) (g : ∀ a b Q, q a b Q → p a b Q) : FOp X f q := by
  obtain ⟨r, h1, h2⟩ := h.ex
  exact ⟨r, h1, fun τ w σ ρ x y dx dy ℓ ℓ' Q Qv hn st rx ry hd hq => h2 τ w σ ρ x y dx dy ℓ ℓ' Q Qv hn st rx ry (g _ _ _ hd) hq⟩
section
variable {K : PySem.W.Frag} {w w' : Wd} {σ : Sl} {ρ ρ' : En} {τ : Nat}
/-- an operand, later -/
theorem ad_get {a : AD} {d : D} {v : V} (st : StE K w σ ρ) (h : AdAt K w σ a τ v) (e : adD ρ a = some d) : ∃ ℓ, Rep K w d ℓ v := by
  cases a with
  | val d' => cases e; exact ⟨_, h⟩
  | brw i =>
    simp only [adD] at e
    split at e
    · rename_i d' e'
      cases e
      obtain ⟨v', e1, r⟩ := st.rep i d e'
      rw [show σ[i]? = some (some v) from h] at e1
      cases e1
      exact ⟨_, r⟩
    · cases e
theorem AdAt.later {a : AD} {v : V} (h : AdAt K w σ a τ v) (hn : ρ.length < τ) (e : EndE K (τ + 1) w σ ρ ρ' w') : AdAt K w' σ a τ v := by
  cases a with
  | val d => exact e.ext.rep (r := []) ⟨hn, Nat.lt_succ_self _⟩ h
  | brw i => exact h
theorem on1_elim {a : AD} {k : D → Prop} (h : on1 ρ a k) : ∃ d, adD ρ a = some d ∧ k d := by
  unfold on1 at h
  split at h
  · exact ⟨_, by assumption, h⟩
  · exact h.elim
end
section
variable {X : Cx} {W : WX} {a b : Expr} {ra rb : RO} {pos : Pos}
theorem so_bin {K : PySem.W.Frag} {r : R2} {dop : DO} {ta tb : TE} (sa : SOp K W ta ra) (sb : SOp K W tb rb) (so : SOK K r dop) : SE K W (tOp r ta tb) (rBin dop ra rb) := by
  intro τ w σ ρ E Q Qv hn st hr hq hx
  refine sa τ w σ ρ E _ _ hn st hr (fun x ρ1 w1 v1 h1 e1 r1 => ?_) hx
  have hn1 : ρ1.length < τ + 1 := by rw [e1.len]; omega
  refine sb (τ + 1) w1 σ ρ1 E _ _ hn1 e1.st h1 (fun y ρ2 w2 v2 h2 e2 r2 => ?_) (hx.then e1 (Nat.le_succ _))
  obtain ⟨dx, ex, h2⟩ := on1_elim h2
  obtain ⟨dy, ey, h2⟩ := on1_elim h2
  have e12 := e1.trans e2 (Nat.le_succ _)
  obtain ⟨ℓ, rx⟩ := ad_get e12.st (r1.later (by rw [e1.len]; exact hn) e2) ex
  obtain ⟨ℓ', ry⟩ := ad_get e12.st r2 ey
  exact so τ w2 σ ρ2 v1 v2 dx dy ℓ ℓ' _ _ (by rw [e12.len]; exact hn) e12.st rx ry h2 fun d w3 v3 q e3 r3 => hq d ρ2 w3 v3 q (e12.trans e3 (Nat.le_refl _)) r3
theorem fe_op {op : Operator} {dop : DO} (ho : FOp X (binaryOp op) dop) (ha : FO X W a ra) (hb : FO X W b rb) : FE X W (.BinOp a op b pos) (rBin dop ra rb) := by
  obtain ⟨r, h1, h2⟩ := ho.ex
  obtain ⟨ta, pa, sa⟩ := ha.ex
  obtain ⟨tb, pb, sb⟩ := hb.ex
  exact ⟨_, pe_op h1 pa pb, so_bin sa sb h2⟩
theorem fe_cmp {op : CmpOp} {dop : DO} (ho : FOp X (compareOp op) dop) (ha : FO X W a ra) (hb : FO X W b rb) (hm : behindInMarks op b = false := by first | exact nomark _ | rfl) : FE X W (.Compare a [op] [b] pos) (rBin dop ra rb) := by
  obtain ⟨r, h1, h2⟩ := ho.ex
  obtain ⟨ta, pa, sa⟩ := ha.ex
  obtain ⟨tb, pb, sb⟩ := hb.ex
  exact ⟨_, pe_cmpR h1 pa pb hm, so_bin sa sb h2⟩
/-- a truth value as a test -/
def rTst (r : RE) : RT := fun ρ E Q => r ρ E fun d ρ' => match d with
  | .bl b => Q b ρ'
  | _ => False
theorem st_tst {K : PySem.W.Frag} {t : TE} {r : RE} (s : SE K W t r) : STt K W (tTest t) (rTst r) := by
  intro τ w σ ρ E Q Qv hn st hr hq hx
  refine s τ w σ ρ E _ _ hn st hr (fun d ρ' w' v h e r' => ?_) hx
  cases d with
  | bl b => exact ⟨b, r', hq b ρ' w' h e⟩
  | _ => exact h.elim
theorem ft_cmp {op : CmpOp} {dop : DO} (ho : FOp X (compareOp op) dop) (ha : FO X W a ra) (hb : FO X W b rb) (hm : behindInMarks op b = false := by first | exact nomark _ | rfl) : FT X W (.Compare a [op] [b] pos) (rTst (rBin dop ra rb)) := by
  obtain ⟨r, h1, h2⟩ := ho.ex
  obtain ⟨ta, pa, sa⟩ := ha.ex
  obtain ⟨tb, pb, sb⟩ := hb.ex
  exact ⟨_, pt_cmpR h1 pa pb hm, st_tst (so_bin sa sb h2)⟩
theorem ft_val {e : Expr} {r : RE} (h : FE X W e r) (he : ∀ whole, isTrue e X.env whole = (do let v ← whole; standAt e.pos; holding [v] (truthy v)) := by intro _; rfl) : FT X W e (rTst r) := by
  obtain ⟨t, p, s⟩ := h.ex
  exact ⟨_, pt_val p he, st_tst s⟩
end
section
variable {X : Cx} {W : WX}
/-- a name's value: frozen, it is copied; owned, it is moved -/
def rVar (i : Nat) : RE := fun ρ _ Q => match ρ[i]? with
  | some (some d) => match d.own with
    | false => Q d ρ
    | true => Q d (ρ.set i none)
  | _ => False
/-- out of slot i to τ -/
def slotTo (i τ : Nat) : Loc → Option Loc
  | h :: s => if h = i + 1 then some (τ :: s) else some (h :: s)
  | [] => some []
theorem StE.drop {K : PySem.W.Frag} {w : Wd} {σ : Sl} {ρ : En} (st : StE K w σ ρ) (i : Nat) {f : Loc → Option Loc} (hf : ∀ j s, j ≠ i → j < ρ.length → f ((j + 1) :: s) = some ((j + 1) :: s)) : StE K (w.ren f) σ (ρ.set i none) :=
  ⟨st.wf.ren f, by rw [List.length_set]; exact st.len, fun j d e => by
    have hj : j ≠ i := fun z => by
      subst z
      by_cases hl : j < ρ.length
      · rw [List.getElem?_set_self hl] at e; cases e
      · rw [List.getElem?_eq_none (by simpa using hl)] at e; cases e
    rw [List.getElem?_set_ne (Ne.symm hj)] at e
    obtain ⟨v, e1, r⟩ := st.rep j d e
    exact ⟨v, e1, r.ren fun s => hf j s hj (List.getElem?_eq_some_iff.mp e).1⟩⟩
theorem fe_var {i : Nat} {x : Str} {pos : Pos} (hN : X.N[i]? = some x := by rfl) (hv : Vis X.env.scope x := by first | exact Or.inl rfl | exact Or.inr (Or.inl rfl) | exact Or.inr (Or.inr rfl)) (hd : (x == ("__debug__" : Str)) = false := by decide)
    (hcd : (x == ("__classdict__" : Str)) = false := by decide) : FE X W (.Name x pos) (rVar i) := by
  refine ⟨_, pe_var hN hv hd hcd, fun τ w σ ρ E Q Qv hn st hr hq hx => ?_⟩
  unfold rVar at hr
  split at hr
  · rename_i d e
    obtain ⟨v, e1, r1⟩ := st.rep i d e
    refine ⟨v, e1, ?_⟩
    have hi := (List.getElem?_eq_some_iff.mp e).1
    split at hr
    · rename_i ho
      exact hq _ _ _ _ hr (EndE.refl st) (r1.free (Same.refl _) d ho)
    · refine hq _ _ (w.ren (slotTo i τ)) _ hr ⟨by rw [List.length_set], st.drop i (fun j s hj _ => ?_), Same.refl _, fun a ℓ e2 ⟨h, s, e3, k⟩ => ?_⟩ (r1.ren fun s => ?_)
      · show (if _ then _ else _) = _
        rw [if_neg (by omega)]
      · subst e3
        refine ⟨ren_at e2 ?_, rfl⟩
        show (if _ then _ else _) = _
        rw [if_neg (by omega)]
      · show (if _ then _ else _) = _
        rw [if_pos rfl]; rfl
  · exact hr.elim
def rC (d : D) : RE := fun ρ _ Q => Q d ρ
theorem se_C {K : PySem.W.Frag} {v : V} {d : D} (h : ∀ w τ, Rep K w d [τ] v) : SE K W (tC v) (rC d) := fun τ w σ ρ E Q Qv hn st hr hq hx => hq d ρ w v hr (EndE.refl st) (h w τ)
theorem fe_int {i j pos} : FE X W (.Constant (.int i) j pos) (rC (.int i)) := ⟨_, pe_int, se_C fun _ _ => rfl⟩
theorem fe_bl {b j pos} : FE X W (.Constant (.bool b) j pos) (rC (.bl b)) := ⟨_, pe_bl, se_C fun _ _ => rfl⟩
theorem fe_non {j pos} : FE X W (.Constant .none j pos) (rC .non) := ⟨_, pe_non, se_C fun _ _ => rfl⟩
theorem fe_str {x j pos} : FE X W (.Constant (.str x) j pos) (rC (.str x)) := ⟨_, pe_str, se_C fun _ _ => rfl⟩
end
def MulOk (i j : Int) : Prop := CMul i j ∨ CMulW i j
def dAdd : DO
  | .int a, .int b, Q => Q (.int (a + b))
  | .int a, .bl b, Q => Q (.int (a + b2i b))
  | .str a, .str b, Q => a.length + b.length ≤ sizeLine ∧ Q (.str (a ++ b))
  | .tup false a, .tup false b, Q => a.length + b.length ≤ sizeLine ∧ Q (.tup false (a ++ b))
  | .lst o a, .lst o' b, Q => match o, o' with
    | .deep, _ => False
    | _, .deep => False
    | _, _ => a.length + b.length ≤ sizeLine ∧ Q (.lst .flat (a ++ b))
  | _, _, _ => False
def dSub : DO
  | .int a, .int b, Q => Q (.int (a - b))
  | _, _, _ => False
def dMul : DO
  | .int a, .int b, Q => MulOk a b ∧ Q (.int (a * b))
  | .lst o a, .int k, Q => match o with
    | .deep => False
    | _ => -(2 ^ 63) ≤ k ∧ k < 2 ^ 63 ∧ a.length * k.toNat ≤ sizeLine ∧ Q (.lst .flat (List.replicate k.toNat a).flatten)
  | _, _, _ => False
def dMod : DO
  | .int a, .int b, Q => 0 < b ∧ Q (.int (a % b))
  | _, _, _ => False
def dFdiv : DO
  | .int a, .int b, Q => (0 < b ∧ b.natAbs.log2 < 9000) ∧ Q (.int (a / b))
  | _, _, _ => False
def dCI (p : Int → Int → Bool) : DO
  | .int a, .int b, Q => Q (.bl (p a b))
  | _, _, _ => False
abbrev dLt : DO := dCI fun i j => decide (i < j)
abbrev dLe : DO := dCI fun i j => decide (i ≤ j)
abbrev dGt : DO := dCI fun i j => decide (j < i)
abbrev dGe : DO := dCI fun i j => decide (j ≤ i)
theorem EndE.own {K : PySem.W.Frag} {τ : Nat} {w : Wd} {σ : Sl} {ρ : En} (o : Ow) (st : StE K w σ ρ) {p : Addr} (n : w.H p = none) {vs : List V} {ds : List D} (hr : RepL K w ds [τ] 0 vs) (hz : ds.length ≤ sizeLine) (hL : Lt o ds) (hm : o.mine = true) : EndE K τ w σ ρ ρ (w.new p [τ] (.lst vs)) ∧ Rep K (w.new p [τ] (.lst vs)) (.lst o ds) [τ] (.ref p) := by
  refine ⟨.new st n trivial, ?_⟩
  rw [rep_inner rfl]
  refine ⟨p, vs, rfl, ?_, ⟨hz, hL⟩, RepL.to (w := w) (w' := w.new p [τ] (.lst vs)) (Same.refl _) ds (new_kept st.wf n) hr⟩
  simp only [Nd, hm, if_true]
  refine ⟨?_, upd_same⟩
  show (if p = p then _ else _) = _
  rw [if_pos rfl]
theorem EndE.tup {K : PySem.W.Frag} {τ : Nat} {w : Wd} {σ : Sl} {ρ : En} (o : Bool) (st : StE K w σ ρ) {p : Addr} (n : w.H p = none) {vs : List V} {ds : List D} {ℓ : Loc} (hr : RepL K w ds ℓ 0 vs) (hz : ds.length ≤ sizeLine) (hL : o = false → ownL ds = false) : EndE K τ w σ ρ ρ (w.shr p (.tup vs)) ∧ Rep K (w.shr p (.tup vs)) (.tup o ds) ℓ (.ref p) := by
  refine ⟨.shr st n, ?_⟩
  simp only [Rep]
  exact ⟨p, vs, rfl, upd_same, ⟨hz, hL⟩, RepL.to (w := w) (w' := w.shr p (.tup vs)) (shr_same st.wf n) ds (shr_kept st.wf n) hr⟩
theorem lst_at {K : PySem.W.Frag} {w : Wd} (wf : Wf w) {o : Ow} {ds : List D} {ℓ : Loc} {v : V} (h : Rep K w (.lst o ds) ℓ v) : ∃ a vs, v = .ref a ∧ w.H a = some (.lst vs) ∧ RepL K w ds ℓ 0 vs := by
  simp only [Rep] at h
  obtain ⟨a, vs, e, h1, hz, h2⟩ := h
  cases q : o.mine with
  | true => rw [q] at h1; exact ⟨a, vs, e, h1.2, h2⟩
  | false => rw [q] at h1; exact ⟨a, vs, e, wf.sh _ _ h1, h2⟩
theorem lst_sz {K : PySem.W.Frag} {w : Wd} {o : Ow} {ds : List D} {ℓ : Loc} {v : V} (h : Rep K w (.lst o ds) ℓ v) : ds.length ≤ sizeLine ∧ Lt o ds := by
  simp only [Rep] at h
  obtain ⟨a, vs, e, h1, hz, h2⟩ := h
  exact hz
theorem tup_sz {K : PySem.W.Frag} {w : Wd} {o : Bool} {ds : List D} {ℓ : Loc} {v : V} (h : Rep K w (.tup o ds) ℓ v) : ds.length ≤ sizeLine ∧ (o = false → ownL ds = false) := by
  simp only [Rep] at h
  obtain ⟨a, vs, e, h1, hz, h2⟩ := h
  exact hz
theorem tup_at {K : PySem.W.Frag} {w : Wd} (wf : Wf w) {o : Bool} {ds : List D} {ℓ : Loc} {v : V} (h : Rep K w (.tup o ds) ℓ v) : ∃ a vs, v = .ref a ∧ w.H a = some (.tup vs) ∧ RepL K w ds ℓ 0 vs := by
  simp only [Rep] at h
  obtain ⟨a, vs, e, h1, hz, h2⟩ := h
  exact ⟨a, vs, e, wf.sh _ _ h1, h2⟩
section
variable {X : Cx}
theorem fop_int {f : Value → Value → Sem Value} {C : Int → Int → Prop} {g : Int → Int → Int} (h : OpR X f (rI C fun i j => .int (g i j))) {dop : DO} (hd : ∀ a b Q, dop a b Q → ∃ i j, a = .int i ∧ b = .int j ∧ C i j ∧ Q (.int (g i j))) : FOp X f dop := by
  refine ⟨_, h, fun τ w σ ρ x y dx dy ℓ ℓ' Q Qv hn st rx ry hq hv => ?_⟩
  obtain ⟨i, j, rfl, rfl, c, q⟩ := hd _ _ _ hq
  simp only [Rep] at rx ry
  subst rx; subst ry
  exact ⟨i, j, rfl, rfl, c, hv _ w _ q (.refl st) rfl⟩
theorem fop_int0 {f : Value → Value → Sem Value} {g : Int → Int → V} {gd : Int → Int → D} (h : OpR X f (rI0 g)) (hg : ∀ i j (K : PySem.W.Frag) w ℓ, Rep K w (gd i j) ℓ (g i j)) {dop : DO} (hd : ∀ a b Q, dop a b Q → ∃ i j, a = .int i ∧ b = .int j ∧ Q (gd i j)) : FOp X f dop := by
  refine ⟨_, h, fun τ w σ ρ x y dx dy ℓ ℓ' Q Qv hn st rx ry hq hv => ?_⟩
  obtain ⟨i, j, rfl, rfl, q⟩ := hd _ _ _ hq
  simp only [Rep] at rx ry
  subst rx; subst ry
  exact ⟨i, j, rfl, rfl, hv _ w _ q (.refl st) (hg ..)⟩
theorem fop_sub : FOp X (binaryOp .Sub) dSub := fop_int0 (gd := fun i j => .int (i - j)) op_sub (fun _ _ _ _ _ => rfl) fun a b Q h => by
  cases a <;> cases b <;> first | exact h.elim | exact ⟨_, _, rfl, rfl, h⟩
theorem fop_cI {op : CmpOp} {p : Int → Int → Bool} (h : OpR X (compareOp op) (rI0 fun i j => .bl (p i j))) : FOp X (compareOp op) (dCI p) := fop_int0 (gd := fun i j => .bl (p i j)) h (fun _ _ _ _ _ => rfl) fun a b Q h => by
  cases a <;> cases b <;> first | exact h.elim | exact ⟨_, _, rfl, rfl, h⟩
theorem fop_lt : FOp X (compareOp .Lt) dLt := fop_cI op_lt
theorem fop_le : FOp X (compareOp .LtE) dLe := fop_cI op_le
theorem fop_gt : FOp X (compareOp .Gt) dGt := fop_cI op_gt
theorem fop_ge : FOp X (compareOp .GtE) dGe := fop_cI op_ge
theorem fop_mod : FOp X (binaryOp .Mod) dMod := fop_int op_mod fun a b Q h => by
  cases a <;> cases b <;> first | exact h.elim | exact ⟨_, _, rfl, rfl, h⟩
theorem fop_fdiv : FOp X (binaryOp .FloorDiv) dFdiv := fop_int op_fdivW fun a b Q h => by
  cases a <;> cases b <;> first | exact h.elim | exact ⟨_, _, rfl, rfl, h⟩
theorem op_mulOk : OpR X (binaryOp .Mult) (rI MulOk fun i j => .int (i * j)) := opI fun _ _ _ _ _ _ _ hc q => mul_int q (hc.elim (fun z => z.ok) fun z => z.ok)
/-- list and list -/
theorem fop_cat : FOp X (binaryOp .Add) (fun a b Q => ∃ o o' xs ys, a = .lst o xs ∧ b = .lst o' ys ∧ o.light = true ∧ o'.light = true ∧ xs.length + ys.length ≤ sizeLine ∧ Q (.lst .flat (xs ++ ys))) := by
  refine ⟨_, op_cat, fun τ w σ ρ x y dx dy ℓ ℓ' Q Qv hn st rx ry hq hv => ?_⟩
  obtain ⟨o, o', xs, ys, rfl, rfl, ho, ho', hl, q⟩ := hq
  have hx := (lst_sz rx).2 ho
  have hy := (lst_sz ry).2 ho'
  obtain ⟨a, vs, rfl, h1, h2⟩ := lst_at st.wf rx
  obtain ⟨b, us, rfl, k1, k2⟩ := lst_at st.wf ry
  refine ⟨a, b, vs, us, rfl, rfl, h1, k1, by rw [h2.length, k2.length]; exact hl, fun p n => ?_⟩
  have hr : RepL X.K w (xs ++ ys) [τ] 0 (vs ++ us) := (RepL.free (Same.refl _) xs hx h2).app (RepL.free (Same.refl _) ys hy k2)
  obtain ⟨e, r⟩ := EndE.own .flat st n hr (by rw [List.length_append]; exact hl) (fun _ => by rw [ownL_append, hx, hy]; rfl) rfl
  exact hv _ _ _ q e r
theorem fop_rep : FOp X (binaryOp .Mult) (fun a b Q => ∃ o xs k, a = .lst o xs ∧ b = .int k ∧ o.light = true ∧ -(2 ^ 63) ≤ k ∧ k < 2 ^ 63 ∧ xs.length * k.toNat ≤ sizeLine ∧ Q (.lst .flat (List.replicate k.toNat xs).flatten)) := by
  refine ⟨_, op_rep, fun τ w σ ρ x y dx dy ℓ ℓ' Q Qv hn st rx ry hq hv => ?_⟩
  obtain ⟨o, xs, k, rfl, rfl, ho, h0, h9, hl, q⟩ := hq
  have hx := (lst_sz rx).2 ho
  obtain ⟨a, vs, rfl, h1, h2⟩ := lst_at st.wf rx
  simp only [Rep] at ry
  subst ry
  refine ⟨a, k, vs, rfl, rfl, h1, h0, h9, by rw [h2.length]; exact hl, fun p n => ?_⟩
  have ow : ∀ n : Nat, ownL (List.replicate n xs).flatten = false := fun n => by
    rw [ownL_iff]
    intro d hd
    obtain ⟨l, hl, hd⟩ := List.mem_flatten.mp hd
    rw [(List.mem_replicate.mp hl).2] at hd
    exact ownL_iff.mp hx d hd
  have hr : ∀ n : Nat, RepL X.K w (List.replicate n xs).flatten [τ] 0 (List.replicate n vs).flatten := fun n => by
    induction n with
    | zero => exact rfl
    | succ n ih =>
      rw [List.replicate_succ, List.replicate_succ, List.flatten_cons, List.flatten_cons]
      exact (RepL.free (Same.refl _) xs hx h2).app (RepL.free (Same.refl _) _ (ow n) ih)
  obtain ⟨e, r⟩ := EndE.own .flat st n (hr k.toNat) (by rw [PyProof.Rows.lm_len_rep_flat, Nat.mul_comm]; exact hl) (fun _ => ow _) rfl
  exact hv _ _ _ q e r
theorem fop_catT : FOp X (binaryOp .Add) (fun a b Q => ∃ xs ys, a = .tup false xs ∧ b = .tup false ys ∧ xs.length + ys.length ≤ sizeLine ∧ Q (.tup false (xs ++ ys))) := by
  refine ⟨_, op_catA, fun τ w σ ρ x y dx dy ℓ ℓ' Q Qv hn st rx ry hq hv => ?_⟩
  obtain ⟨xs, ys, rfl, rfl, hl, q⟩ := hq
  have hx := (tup_sz rx).2 rfl
  have hy := (tup_sz ry).2 rfl
  obtain ⟨a, vs, rfl, h1, h2⟩ := tup_at st.wf rx
  obtain ⟨b, us, rfl, k1, k2⟩ := tup_at st.wf ry
  have e1 := h2.length
  have e2 := k2.length
  refine ⟨a, b, vs, us, rfl, rfl, SqT.of h1, SqT.of k1, by omega, fun z => ?_, fun _ z => ?_, fun _ _ p n => ?_⟩
  · have : xs = [] := List.length_eq_zero_iff.mp (by rw [← e1, z]; rfl)
    subst this
    exact hv _ w _ q (.refl st) (ry.free (Same.refl _) _ rfl)
  · have : ys = [] := List.length_eq_zero_iff.mp (by rw [← e2, z]; rfl)
    subst this
    rw [List.append_nil] at q
    exact hv _ w _ q (.refl st) (rx.free (Same.refl _) _ rfl)
  · have hr : RepL X.K w (xs ++ ys) [τ] 0 (vs ++ us) := (RepL.free (Same.refl _) xs hx h2).app (RepL.free (Same.refl _) ys hy k2)
    obtain ⟨e, r⟩ := EndE.tup false st n hr (by rw [List.length_append]; exact hl) (fun _ => by rw [ownL_append, hx, hy]; rfl)
    exact hv _ _ _ q e r
theorem fop_addS : FOp X (binaryOp .Add) (fun a b Q => ∃ i j, a = .str i ∧ b = .str j ∧ i.length + j.length ≤ sizeLine ∧ Q (.str (i ++ j))) := by
  refine ⟨_, op_add_str, fun τ w σ ρ x y dx dy ℓ ℓ' Q Qv hn st rx ry hq hv => ?_⟩
  obtain ⟨i, j, rfl, rfl, hl, q⟩ := hq
  simp only [Rep] at rx ry
  subst rx; subst ry
  exact ⟨i, j, rfl, rfl, hl, hv _ w _ q (.refl st) rfl⟩
theorem fop_addI : FOp X (binaryOp .Add) (fun a b Q => ∃ i j, a = .int i ∧ b = .int j ∧ Q (.int (i + j))) := fop_int0 (gd := fun i j => .int (i + j)) op_add (fun _ _ _ _ _ => rfl) fun a b Q h => h
theorem fop_addB : FOp X (binaryOp .Add) (fun a b Q => ∃ i k, a = .int i ∧ b = .bl k ∧ Q (.int (i + b2i k))) := by
  refine ⟨_, op_add_ib, fun τ w σ ρ x y dx dy ℓ ℓ' Q Qv hn st rx ry hq hv => ?_⟩
  obtain ⟨i, j, rfl, rfl, q⟩ := hq
  simp only [Rep] at rx ry
  subst rx; subst ry
  exact ⟨i, j, rfl, rfl, hv _ w _ q (.refl st) rfl⟩
theorem fop_add : FOp X (binaryOp .Add) dAdd := (fop_addI.or (fop_addB.or (fop_addS.or (fop_catT.or fop_cat)))).imp fun a b Q h => by
  unfold dAdd at h
  split at h
  · exact .inl ⟨_, _, rfl, rfl, h⟩
  · exact .inr (.inl ⟨_, _, rfl, rfl, h⟩)
  · exact .inr (.inr (.inl ⟨_, _, rfl, rfl, h⟩))
  · exact .inr (.inr (.inr (.inl ⟨_, _, rfl, rfl, h⟩)))
  · rename_i o a o' b
    cases o <;> cases o' <;> first
      | exact h.elim
      | exact .inr (.inr (.inr (.inr ⟨_, _, _, _, rfl, rfl, rfl, rfl, h⟩)))
  · exact h.elim
theorem fop_mul : FOp X (binaryOp .Mult) dMul := ((fop_int (dop := fun a b Q => ∃ i j, a = .int i ∧ b = .int j ∧ MulOk i j ∧ Q (.int (i * j))) op_mulOk fun a b Q h => h).or fop_rep).imp fun a b Q h => by
  unfold dMul at h
  split at h
  · exact .inl ⟨_, _, rfl, rfl, h⟩
  · rename_i o a k
    cases o <;> first
      | exact h.elim
      | exact .inr ⟨_, _, _, rfl, rfl, rfl, h⟩
  · exact h.elim
end
end FL
namespace FL
open PySem PySem.Spec PyProof.Rows L2
def rIc (g : Int → Int) (ra : RO) : RE := fun ρ E Q => ra ρ E fun x ρ1 => on1 ρ1 x fun dx => match dx with
  | .int i => Q (.int (g i)) ρ1
  | _ => False
section
variable {X : Cx} {W : WX} {a b : Expr} {ra rb : RO} {pos p2 : Pos} {c : Int} {j : Nat}
theorem so_ic {K : PySem.W.Frag} {r : R2} {g : Int → Int} {c : Int} {ta : TE} (hr : ∀ i H Q, Q (.int (g i)) H → r (.int i) (.int c) H Q) (sa : SOp K W ta ra) : SE K W (tOp r ta (tC (.int c))) (rIc g ra) := by
  intro τ w σ ρ E Q Qv hn st h hq hx
  refine sa τ w σ ρ E _ _ hn st h (fun x ρ1 w1 v1 h1 e1 r1 => ?_) hx
  obtain ⟨dx, ex, h1⟩ := on1_elim h1
  obtain ⟨ℓ, rx⟩ := ad_get e1.st r1 ex
  cases dx with
  | int i =>
    simp only [Rep] at rx
    subst rx
    exact hr i _ _ (hq _ _ _ _ h1 e1 rfl)
  | _ => exact h1.elim
theorem so_icl {K : PySem.W.Frag} {r : R2} {g : Int → Int} {c : Int} {ta : TE} (hr : ∀ i H Q, Q (.int (g i)) H → r (.int c) (.int i) H Q) (sa : SOp K W ta ra) : SE K W (tOp r (tC (.int c)) ta) (rIc g ra) := by
  intro τ w σ ρ E Q Qv hn st h hq hx
  refine sa τ w σ ρ E _ _ hn st h (fun x ρ1 w1 v1 h1 e1 r1 => ?_) hx
  obtain ⟨dx, ex, h1⟩ := on1_elim h1
  obtain ⟨ℓ, rx⟩ := ad_get e1.st r1 ex
  cases dx with
  | int i =>
    simp only [Rep] at rx
    subst rx
    exact hr i _ _ (hq _ _ _ _ h1 e1 rfl)
  | _ => exact h1.elim
theorem fe_mulC (ha : FO X W a ra) (hc : (decide (-(2 ^ 64) < c) && decide (c < 2 ^ 64)) = true := by decide) : FE X W (.BinOp a .Mult (.Constant (.int c) j p2) pos) (rIc (fun i => i * c) ra) := by
  obtain ⟨t, p, s⟩ := ha.ex
  simp only [Bool.and_eq_true, decide_eq_true_eq] at hc
  exact ⟨_, pe_op op_mul p pe_int, so_ic (fun i H Q q => ⟨i, c, rfl, rfl, .inr hc, q⟩) s⟩
theorem fe_mulCl (ha : FO X W a ra) (hc : (decide (-(2 ^ 64) < c) && decide (c < 2 ^ 64)) = true := by decide) : FE X W (.BinOp (.Constant (.int c) j p2) .Mult a pos) (rIc (fun i => c * i) ra) := by
  obtain ⟨t, p, s⟩ := ha.ex
  simp only [Bool.and_eq_true, decide_eq_true_eq] at hc
  exact ⟨_, pe_op op_mul pe_int p, so_icl (fun i H Q q => ⟨c, i, rfl, rfl, .inl hc, q⟩) s⟩
theorem fe_modC (ha : FO X W a ra) (hc : decide (0 < c) = true := by decide) : FE X W (.BinOp a .Mod (.Constant (.int c) j p2) pos) (rIc (fun i => i % c) ra) := by
  obtain ⟨t, p, s⟩ := ha.ex
  exact ⟨_, pe_op op_mod p pe_int, so_ic (fun i H Q q => ⟨i, c, rfl, rfl, of_decide_eq_true hc, q⟩) s⟩
theorem fe_fdivC (ha : FO X W a ra) (hc : (decide (0 < c) && decide (c.natAbs < 2 ^ 64)) = true := by decide) : FE X W (.BinOp a .FloorDiv (.Constant (.int c) j p2) pos) (rIc (fun i => i / c) ra) := by
  obtain ⟨t, p, s⟩ := ha.ex
  simp only [Bool.and_eq_true, decide_eq_true_eq] at hc
  exact ⟨_, pe_op op_fdivW p pe_int, so_ic (fun i H Q q => ⟨i, c, rfl, rfl, wide_div hc.1 hc.2 (by decide) (by decide), q⟩) s⟩
theorem fe_addC (ha : FO X W a ra) : FE X W (.BinOp a .Add (.Constant (.int c) j p2) pos) (rIc (fun i => i + c) ra) := by
  obtain ⟨t, p, s⟩ := ha.ex
  exact ⟨_, pe_op op_add p pe_int, so_ic (fun i H Q q => ⟨i, c, rfl, rfl, q⟩) s⟩
theorem fe_addCl (ha : FO X W a ra) : FE X W (.BinOp (.Constant (.int c) j p2) .Add a pos) (rIc (fun i => c + i) ra) := by
  obtain ⟨t, p, s⟩ := ha.ex
  exact ⟨_, pe_op op_add pe_int p, so_icl (fun i H Q q => ⟨c, i, rfl, rfl, q⟩) s⟩
theorem fe_subC (ha : FO X W a ra) : FE X W (.BinOp a .Sub (.Constant (.int c) j p2) pos) (rIc (fun i => i - c) ra) := by
  obtain ⟨t, p, s⟩ := ha.ex
  exact ⟨_, pe_op op_sub p pe_int, so_ic (fun i H Q q => ⟨i, c, rfl, rfl, q⟩) s⟩
theorem fe_powC {c d : Int} {j k : Nat} {p2 p3 : Pos} (hc : (decide (0 ≤ d) && decide (d ≤ 1000) && decide (c.natAbs < 2 ^ 64)) = true := by decide) : FE X W (.BinOp (.Constant (.int c) j p2) .Pow (.Constant (.int d) k p3) pos) (rC (.int (c ^ d.toNat))) := by
  simp only [Bool.and_eq_true, decide_eq_true_eq] at hc
  refine ⟨_, pe_op op_pow pe_int pe_int, fun τ w σ ρ E Q Qv hn st h hq hx => ?_⟩
  exact ⟨c, d, rfl, rfl, ⟨hc.1.1, by omega, hc.2⟩, hq _ _ w _ h (EndE.refl st) rfl⟩
theorem fe_negC {c : Int} {j : Nat} {p2 : Pos} : FE X W (.UnaryOp .USub (.Constant (.int c) j p2) pos) (rC (.int (-c))) := by
  refine ⟨_, pe_un un_neg pe_int, fun τ w σ ρ E Q Qv hn st h hq hx => ?_⟩
  exact ⟨c, rfl, hq _ _ w _ h (EndE.refl st) rfl⟩
end
mutual
def D.py : D → PyData
  | .non => .none
  | .bl b => .bool b
  | .int i => .int i
  | .str s => .str s
  | .tup _ ds => .tuple (pyL ds)
  | .lst _ ds => .list (pyL ds)
  | .ro t ds => if t then .tuple (pyL ds) else .list (pyL ds)
  | .obj _ => .dict []
  | .ty _ => .dict []
  | .any => .dict []
  | .dct _ _ _ _ => .dict []
  | .ins _ _ _ _ => .dict []
def pyL : List D → List PyData
  | [] => []
  | d :: ds => d.py :: pyL ds
end
mutual
/-- no dict, instance or function within -/
def D.dat : D → Bool
  | .non => true
  | .bl _ => true
  | .int _ => true
  | .str _ => true
  | .tup _ ds => datL ds
  | .lst _ ds => datL ds
  | .ro _ ds => datL ds
  | _ => false
def datL : List D → Bool
  | [] => true
  | d :: ds => d.dat && datL ds
end
mutual
def D.dep : D → Nat
  | .tup _ ds => depL ds + 1
  | .lst _ ds => depL ds + 1
  | .ro _ ds => depL ds + 1
  | _ => 0
def depL : List D → Nat
  | [] => 0
  | d :: ds => max d.dep (depL ds)
end
def deq (a b : D) : Bool := PyData.eqv a.py b.py
mutual
theorem py_plain : ∀ d : D, d.dat = true → d.py.plain = true
  | .non, _ => rfl
  | .bl _, _ => rfl
  | .int _, _ => rfl
  | .str _, _ => rfl
  | .tup _ ds, h => by simp only [D.py, PyData.plain]; exact pyL_plain ds (by simpa [D.dat] using h)
  | .lst _ ds, h => by simp only [D.py, PyData.plain]; exact pyL_plain ds (by simpa [D.dat] using h)
  | .ro t ds, h => by cases t <;> (simp only [D.py, PyData.plain, if_true, if_false, Bool.false_eq_true]) <;> exact pyL_plain ds (by simpa [D.dat] using h)
  | .obj _, h => by simp [D.dat] at h
  | .ty _, h => by simp [D.dat] at h
  | .any, h => by simp [D.dat] at h
  | .dct _ _ _ _, h => by simp [D.dat] at h
  | .ins _ _ _ _, h => by simp [D.dat] at h
theorem pyL_plain : ∀ ds : List D, datL ds = true → PyData.plainAll (pyL ds) = true
  | [], _ => rfl
  | d :: ds, h => by
    simp only [datL, Bool.and_eq_true] at h
    simp only [pyL, PyData.plainAll, py_plain d h.1, pyL_plain ds h.2, Bool.and_self]
end
mutual
theorem py_dep : ∀ d : D, d.dat = true → d.py.depth = d.dep
  | .non, _ => rfl
  | .bl _, _ => rfl
  | .int _, _ => rfl
  | .str _, _ => rfl
  | .tup _ ds, h => by simp only [D.py, PyData.depth, D.dep, pyL_dep ds (by simpa [D.dat] using h)]
  | .lst _ ds, h => by simp only [D.py, PyData.depth, D.dep, pyL_dep ds (by simpa [D.dat] using h)]
  | .ro t ds, h => by cases t <;> simp only [D.py, PyData.depth, D.dep, if_true, if_false, Bool.false_eq_true, pyL_dep ds (by simpa [D.dat] using h)]
  | .obj _, h => by simp [D.dat] at h
  | .ty _, h => by simp [D.dat] at h
  | .any, h => by simp [D.dat] at h
  | .dct _ _ _ _, h => by simp [D.dat] at h
  | .ins _ _ _ _, h => by simp [D.dat] at h
theorem pyL_dep : ∀ ds : List D, datL ds = true → PyData.depthAll (pyL ds) = depL ds
  | [], _ => rfl
  | d :: ds, h => by
    simp only [datL, Bool.and_eq_true] at h
    simp only [pyL, PyData.depthAll, depL, py_dep d h.1, pyL_dep ds h.2]
end
mutual
theorem rep_dp {K : PySem.W.Frag} {w : Wd} (wf : Wf w) : ∀ (d : D) {ℓ : Loc} {v : V}, d.dat = true → Rep K w d ℓ v → Dp K w.H v d.py
  | .non, _, _, _, h => by simp only [Rep] at h; subst h; exact .non
  | .bl _, _, _, _, h => by simp only [Rep] at h; subst h; exact .bl _
  | .int _, _, _, _, h => by simp only [Rep] at h; subst h; exact .int _
  | .str _, _, _, _, h => by simp only [Rep] at h; subst h; exact .str _
  | .tup o ds, _, _, k, h => by
    obtain ⟨a, vs, rfl, h1, h2⟩ := tup_at wf h
    exact .tup (SqT.of h1) (rep_dps wf ds (by simpa [D.dat] using k) h2)
  | .lst o ds, _, _, k, h => by
    obtain ⟨a, vs, rfl, h1, h2⟩ := lst_at wf h
    exact .lst (SqL.of h1) (rep_dps wf ds (by simpa [D.dat] using k) h2)
  | .ro t ds, _, _, k, h => by
    simp only [Rep] at h
    obtain ⟨a, vs, rfl, h1, _, h2⟩ := h
    cases t with
    | true => exact .tup (same_rdT wf.sh h1) (rep_dps wf ds (by simpa [D.dat] using k) h2)
    | false => exact .lst (wf.sh.seq h1) (rep_dps wf ds (by simpa [D.dat] using k) h2)
  | .obj _, _, _, k, _ => by simp [D.dat] at k
  | .ty _, _, _, k, _ => by simp [D.dat] at k
  | .any, _, _, k, _ => by simp [D.dat] at k
  | .dct _ _ _ _, _, _, k, _ => by simp [D.dat] at k
  | .ins _ _ _ _, _, _, k, _ => by simp [D.dat] at k
theorem rep_dps {K : PySem.W.Frag} {w : Wd} (wf : Wf w) : ∀ (ds : List D) {ℓ : Loc} {j : Nat} {vs : List V}, datL ds = true → RepL K w ds ℓ j vs → DpAll K w.H vs (pyL ds)
  | [], _, _, _, _, h => by simp only [RepL] at h; subst h; exact .nil
  | d :: ds, _, _, _, k, h => by
    simp only [RepL] at h
    obtain ⟨v, r, rfl, h1, h2⟩ := h
    simp only [datL, Bool.and_eq_true] at k
    exact .cons (rep_dp wf d k.1 h1) (rep_dps wf ds k.2 h2)
end
def dEqB (neg : Bool) : DO
  | .int a, .int b, Q => Q (.bl (neg ^^ decide (a = b)))
  | .str a, .str b, Q => Q (.bl (neg ^^ decide (a = b)))
  | a, b, Q => a.dat = true ∧ b.dat = true ∧ min a.dep b.dep ≤ 60 ∧ Q (.bl (neg ^^ deq a b))
abbrev dEq : DO := dEqB false
abbrev dNe : DO := dEqB true
def rEqP (K : PySem.W.Frag) (neg : Bool) : R2 := fun x y H Q => ∃ d e, Dp K H x d ∧ Dp K H y e ∧ d.plain = true ∧ e.plain = true ∧ min d.depth e.depth ≤ 60 ∧ Q (.bl (neg ^^ PyData.eqv d e)) H
theorem op_eqP {X : Cx} (hu : X.A.units + 64 < cLine) : OpR X (compareOp .Eq) (rEqP X.K false) := by
  intro pins s σ H x y v u Q I rx ry h
  obtain ⟨d, e, hd, he, sd, se, hm, q⟩ := h
  obtain ⟨as, r1⟩ := Dp.reads I d x v hd rx
  obtain ⟨bs, r2⟩ := Dp.reads I e y u he ry
  exact SeqAt.eq_plain r1 r2 sd se (by omega) ⟨.bl _, H, I, by rw [Bool.false_xor]; rfl, q⟩
theorem op_neP {X : Cx} (hu : X.A.units + 64 < cLine) : OpR X (compareOp .NotEq) (rEqP X.K true) := by
  intro pins s σ H x y v u Q I rx ry h
  obtain ⟨d, e, hd, he, sd, se, hm, q⟩ := h
  obtain ⟨as, r1⟩ := Dp.reads I d x v hd rx
  obtain ⟨bs, r2⟩ := Dp.reads I e y u he ry
  exact SeqAt.ne_plain r1 r2 sd se (by omega) ⟨.bl _, H, I, by rw [Bool.true_xor]; rfl, q⟩
theorem dEq_get {neg : Bool} {a b : D} {Q : D → Prop} (h : dEqB neg a b Q) : a.dat = true ∧ b.dat = true ∧ min a.dep b.dep ≤ 60 ∧ Q (.bl (neg ^^ deq a b)) := by
  unfold dEqB at h
  split at h
  · refine ⟨rfl, rfl, by simp [D.dep], ?_⟩
    have e : ∀ a b : Int, deq (.int a) (.int b) = decide (a = b) := fun a b => by simp [deq, D.py, PyData.eqv, Bool.beq_eq_decide_eq]
    rw [e]; exact h
  · refine ⟨rfl, rfl, by simp [D.dep], ?_⟩
    have e : ∀ a b : Str, deq (.str a) (.str b) = decide (a = b) := fun a b => by simp [deq, D.py, PyData.eqv, Bool.beq_eq_decide_eq]
    rw [e]; exact h
  · exact h
theorem sok_eq {K : PySem.W.Frag} {neg : Bool} : SOK K (rEqP K neg) (dEqB neg) := by
  intro τ w σ ρ x y dx dy ℓ ℓ' Q Qv hn st rx ry hq hv
  obtain ⟨h1, h2, h3, q⟩ := dEq_get hq
  exact ⟨_, _, rep_dp st.wf dx h1 rx, rep_dp st.wf dy h2 ry, py_plain _ h1, py_plain _ h2, by rw [py_dep _ h1, py_dep _ h2]; exact h3, hv _ w _ q (.refl st) rfl⟩
section
variable {X : Cx}
theorem fop_eq (hu : X.A.units + 64 < cLine) : FOp X (compareOp .Eq) dEq := ⟨_, op_eqP hu, sok_eq⟩
theorem fop_ne (hu : X.A.units + 64 < cLine) : FOp X (compareOp .NotEq) dNe := ⟨_, op_neP hu, sok_eq⟩
end
def isNon : D → Option Bool
  | .non => some true
  | .any => none
  | _ => some false
theorem isNon_rep {K : PySem.W.Frag} {w : Wd} {d : D} {ℓ : Loc} {v : V} (h : Rep K w d ℓ v) {b : Bool} (e : isNon d = some b) : decide (v = .non) = b := by
  cases d with
  | any => cases e
  | non => simp only [Rep] at h; subst h; cases e; rfl
  | bl b => simp only [Rep] at h; subst h; cases e; rfl
  | int b => simp only [Rep] at h; subst h; cases e; rfl
  | str b => simp only [Rep] at h; subst h; cases e; rfl
  | obj b => simp only [Rep] at h; subst h; cases e; rfl
  | ty b => simp only [Rep] at h; subst h; cases e; rfl
  | tup o ds => simp only [Rep] at h; obtain ⟨a, vs, rfl, _⟩ := h; cases e; rfl
  | lst o ds => simp only [Rep] at h; obtain ⟨a, vs, rfl, _⟩ := h; cases e; rfl
  | ro t ds => simp only [Rep] at h; obtain ⟨a, vs, rfl, _⟩ := h; cases e; rfl
  | dct o t ks ds => simp only [Rep] at h; obtain ⟨a, vs, rfl, _⟩ := h; cases e; rfl
  | ins o C fs ds => simp only [Rep] at h; obtain ⟨a, vs, rfl, _⟩ := h; cases e; rfl
def keyEq (t : Bool) (a b : D) : Bool := if t then decide (tkey a = tkey b) else decide (skey a = skey b)
def kIdx (t : Bool) (ks : List D) (k : D) : Option Nat := ks.findIdx? fun k' => keyEq t k' k
def dLook (t : Bool) (ks ds : List D) (k : D) : Option D := (kIdx t ks k).bind fun i => ds[i]?
def pick (o : Option D) (Q : D → Prop) : Prop := match o with
  | some d => match d.own with
    | false => Q d
    | true => False
  | none => False
theorem pick_elim {o : Option D} {Q : D → Prop} (h : pick o Q) : ∃ d, o = some d ∧ d.own = false ∧ Q d := by
  unfold pick at h
  split at h
  · split at h
    · rename_i d _ e
      exact ⟨d, rfl, e, h⟩
    · exact h.elim
  · exact h.elim
theorem pick_of {o : Option D} {Q : D → Prop} {d : D} (h : o = some d) (ho : d.own = false) (q : Q d) : pick o Q := by
  subst h
  unfold pick
  simp only [ho]
  exact q
def dIx : DO
  | .lst _ ds, .int k, Q => pick (atI ds k) Q
  | .ro _ ds, .int k, Q => pick (atI ds k) Q
  | .tup _ ds, .int k, Q => pick (atI ds k) Q
  | .str z, .int k, Q => z.length ≤ sizeLine ∧ match atI z.cps.toList k with
    | some c => Q (.str ⟨#[c]⟩)
    | none => False
  | .dct _ t ks ds, k, Q => keyOk t k = true ∧ pick (dLook t ks ds k) Q
  | _, _, _ => False
theorem valV_zip {κ : Type} [DecidableEq κ] (f : D → κ) (k : D) : ∀ (ks : List D) (vs : List V), valV ((ks.map f).zip vs) (f k) = (ks.findIdx? fun k' => decide (f k' = f k)).bind fun i => vs[i]?
  | [], _ => by simp [valV]
  | a :: ks, [] => by simp [valV]
  | a :: ks, v :: vs => by
    rw [List.map_cons, List.zip_cons_cons, List.findIdx?_cons]
    by_cases e : f a = f k
    · rw [valV_pos (by exact e), if_pos (by simpa using e)]; rfl
    · rw [valV_neg (by exact e), if_neg (by simpa using e), valV_zip f k ks vs]
      cases (ks.findIdx? fun k' => decide (f k' = f k)) <;> rfl
theorem rep_skey {K : PySem.W.Frag} {w : Wd} {k : D} {ℓ : Loc} {v : V} (h : Rep K w k ℓ v) (hk : isSKey k = true) : v = kV (skey k) := by
  cases k with
  | int i => exact h
  | str s => exact h
  | _ => simp [isSKey] at hk
theorem repl_skeys {K : PySem.W.Frag} {w : Wd} : ∀ {ks : List D} {ℓ : Loc} {j : Nat} {vs : List V}, RepL K w ks ℓ j vs → ks.all isSKey = true → vs = (ks.map skey).map kV
  | [], _, _, _, h, _ => by simp only [RepL] at h; subst h; rfl
  | k :: ks, _, _, _, h, hk => by
    simp only [RepL] at h
    obtain ⟨v, r, rfl, h1, h2⟩ := h
    simp only [List.all_cons, Bool.and_eq_true] at hk
    rw [rep_skey h1 hk.1, repl_skeys h2 hk.2]; rfl
/-- a tuple that H tracks by itself (not one of the written part): keys of dicts -/
theorem DGet.of {K : PySem.W.Frag} {w : Wd} (wf : Wf w) {a : Addr} {t : Bool} {ks : List D} {us : List V} {k : D} {ℓ : Loc} {y : V} (h : Rd w.H a (dHO t ks us)) (hl : ks.length = us.length) (hk : keyOk t k = true) (ry : Rep K w k ℓ y)
    (ht : t = true → ∃ b, y = .ref b ∧ w.H b = some (.tup ((tkey k).map kV))) : DGet w.H a y ((kIdx t ks k).bind fun i => us[i]?) := by
  cases t with
  | false =>
    have hk : isSKey k = true := hk
    rw [rep_skey ry hk]
    have e : ((kIdx false ks k).bind fun i => us[i]?) = valV ((ks.map skey).zip us) (skey k) := (valV_zip skey k ks us).symm
    rw [e]
    exact .inl ⟨(ks.map skey).zip us, _, h, rfl, rfl⟩
  | true =>
    obtain ⟨b, rfl, hb⟩ := ht rfl
    have e : ((kIdx true ks k).bind fun i => us[i]?) = valV ((ks.map tkey).zip us) (tkey k) := (valV_zip tkey k ks us).symm
    rw [e]
    exact .inr ⟨(ks.map tkey).zip us, _, b, h, rfl, hb, rfl⟩
end FL
namespace FL
open PySem PySem.Spec PyProof.Rows L2
theorem ix_dict {X : Cx} (hu : X.A.units + 1 < cLine) : IxR X (fun x y H Q => ∃ a v, x = .ref a ∧ DGet H a y (some v) ∧ Q v H) := by
  intro value slice pins s σ H x y v u Q I rx ry h hs
  obtain ⟨a, z, rfl, g, q⟩ := h
  obtain rfl : v = Value.ref a := rx
  have hT := dict_typeIs I g
  unfold subscriptTail
  refine wpAny_bind ?_
  rw [getitemInPython_of_ne hT.not_modules]
  refine wpAny_bind (wpAny_specialOf hT PySem.F.slot_dict_getitem.lookup ?_)
  have fin : wpAny (model X.prog X.w) X.A (subscripted slice false (.ref a) u) (fun r s₃ => wpAny (model X.prog X.w) X.A (letTemporaryGo value (.ref a) r >>= fun _ => pure r) (EP X pins σ Q) X.xe s₃) X.xe s := by
    rw [hs]
    refine wpAny_operating (wpAny_mono (d_getItem hu I g ry fun w' s3 I3 rw' => (⟨z, H, I3, rw', q⟩ : EP X pins σ Q w' s3)) (fun r s₃ h₃ => wpAny_bind (wpAny_letTemporaryGo (wpAny_pure h₃))) fun _ _ x => x)
  first
    | exact wpAny_pure (wpAny_bind fin)
    | exact wpAny_bind (wpAny_pure (wpAny_bind fin))
    | exact wpAny_bind fin
theorem atI_map {α β : Type} {xs : List α} {ys : List β} (hl : xs.length = ys.length) {i : Int} {x : α} (h : atI xs i = some x) : ∃ j, xs[j]? = some x ∧ j < ys.length ∧ ∀ y, ys[j]? = some y → atI ys i = some y := by
  unfold atI at h ⊢
  rw [← hl]
  cases e : ixN xs.length i with
  | none => rw [e] at h; cases h
  | some j =>
    rw [e] at h
    have h : xs[j]? = some x := h
    exact ⟨j, h, (List.getElem?_eq_some_iff.mp h).1, fun y hy => hy⟩
theorem RepL.at {K : PySem.W.Frag} {w : Wd} {ds : List D} {ℓ : Loc} {vs : List V} {i : Int} {d : D} (h : RepL K w ds ℓ 0 vs) (e : atI ds i = some d) (ho : d.own = false) : ∃ v, atI vs i = some v ∧ ∀ τ, Rep K w d [τ] v := by
  obtain ⟨j, e1, _, e2⟩ := atI_map h.length.symm e
  obtain ⟨v, e3, r⟩ := h.get e1
  exact ⟨v, e2 v e3, fun τ => r.free (Same.refl _) d ho⟩
theorem dct_at {K : PySem.W.Frag} {w : Wd} (wf : Wf w) {o : Ow} {t : Bool} {ks ds : List D} {ℓ : Loc} {v : V} (h : Rep K w (.dct o t ks ds) ℓ v) : ∃ a vs, v = .ref a ∧ Rd w.H a (dHO t ks vs) ∧ ks.length = vs.length ∧ keysOk t ks = true ∧ RepL K w ds ℓ 0 vs := by
  simp only [Rep] at h
  obtain ⟨a, vs, e, h1, ⟨h3, h4, _⟩, h2⟩ := h
  cases q : o.mine with
  | true => rw [q] at h1; exact ⟨a, vs, e, .inl h1.2, h3, h4, h2⟩
  | false => rw [q] at h1; exact ⟨a, vs, e, rd_same wf.sh h1, h3, h4, h2⟩
theorem rep_tkey {K : PySem.W.Frag} {w : Wd} (wf : Wf w) {k : D} {ℓ : Loc} {v : V} (h : Rep K w k ℓ v) (hk : isTKey k = true) : ∃ b, v = .ref b ∧ w.H b = some (.tup ((tkey k).map kV)) := by
  cases k with
  | tup o ds =>
    obtain ⟨a, vs, rfl, h1, h2⟩ := tup_at wf h
    exact ⟨a, rfl, by rw [h1, repl_skeys h2 hk]; rfl⟩
  | _ => simp [isTKey] at hk
theorem dct_get {K : PySem.W.Frag} {w : Wd} (wf : Wf w) {o : Ow} {t : Bool} {ks ds : List D} {k : D} {ℓ ℓ' : Loc} {v y : V} (h : Rep K w (.dct o t ks ds) ℓ v) (ry : Rep K w k ℓ' y) (hk : keyOk t k = true) :
    ∃ a, v = .ref a ∧ ((∀ d, dLook t ks ds k = some d → ∃ z i, DGet w.H a y (some z) ∧ Rep K w d (ℓ ++ [i]) z) ∧ (dLook t ks ds k = none → DGet w.H a y none)) := by
  obtain ⟨a, vs, rfl, h1, h3, h4, h2⟩ := dct_at wf h
  have g := DGet.of wf h1 h3 hk ry (fun e => by subst e; exact rep_tkey wf ry hk)
  refine ⟨a, rfl, fun d e => ?_, fun e => ?_⟩
  · unfold dLook at e
    cases q : kIdx t ks k with
    | none => rw [q] at e; cases e
    | some i =>
      rw [q] at e g
      obtain ⟨z, e1, r⟩ := h2.get e
      refine ⟨z, 0 + i, ?_, r⟩
      rw [show ((some i).bind fun i => vs[i]?) = some z from e1] at g
      exact g
  · unfold dLook at e
    cases q : kIdx t ks k with
    | none => rw [q] at g; exact g
    | some i =>
      rw [q] at e g
      have e : ds[i]? = none := e
      rw [show ((some i).bind fun i => vs[i]?) = none from by
        show vs[i]? = none
        rw [List.getElem?_eq_none_iff] at e ⊢
        rw [h2.length]; exact e] at g
      exact g
section
variable {X : Cx} {W : WX} {a b : Expr} {ra rb : RO} {pos : Pos}
theorem fe_ix (hu : X.A.units + 1 < cLine) (ha : FO X W a ra) (hb : FO X W b rb) (hs : PlainIx b := by exact fun _ _ => rfl) : FE X W (.Subscript a b pos) (rBin dIx ra rb) := by
  obtain ⟨ta, pa, sa⟩ := ha.ex
  obtain ⟨tb, pb, sb⟩ := hb.ex
  refine ⟨_, pe_ix (ix_seq.or (ix_dict hu)) pa pb hs, so_bin sa sb fun τ w σ ρ x y dx dy ℓ ℓ' Q Qv hn st rx ry hq hv => ?_⟩
  unfold dIx at hq
  split at hq
  · rename_i o ds k
    obtain ⟨a, vs, rfl, h1, h2⟩ := lst_at st.wf rx
    obtain ⟨d, e, ho, q⟩ := pick_elim hq
    obtain ⟨z, e1, r⟩ := h2.at e ho
    simp only [Rep] at ry
    subst ry
    exact .inl (.inl ⟨a, vs, k, z, rfl, rfl, SqL.of h1, e1, hv _ w _ q (.refl st) (r τ)⟩)
  · rename_i t ds k
    simp only [Rep] at rx ry
    obtain ⟨a, vs, rfl, h1, _, h2⟩ := rx
    obtain ⟨d, e, ho, q⟩ := pick_elim hq
    obtain ⟨z, e1, r⟩ := h2.at e ho
    subst ry
    cases t with
    | true => exact .inl (.inr (.inl ⟨a, vs, k, z, rfl, rfl, same_rdT st.wf.sh h1, e1, hv _ w _ q (.refl st) (r τ)⟩))
    | false => exact .inl (.inl ⟨a, vs, k, z, rfl, rfl, st.wf.sh.seq h1, e1, hv _ w _ q (.refl st) (r τ)⟩)
  · rename_i o ds k
    obtain ⟨a, vs, rfl, h1, h2⟩ := tup_at st.wf rx
    obtain ⟨d, e, ho, q⟩ := pick_elim hq
    obtain ⟨z, e1, r⟩ := h2.at e ho
    simp only [Rep] at ry
    subst ry
    exact .inl (.inr (.inl ⟨a, vs, k, z, rfl, rfl, SqT.of h1, e1, hv _ w _ q (.refl st) (r τ)⟩))
  · rename_i z k
    simp only [Rep] at rx ry
    subst rx; subst ry
    obtain ⟨hz, q⟩ := hq
    split at q
    · rename_i c e
      exact .inl (.inr (.inr ⟨z, k, c, rfl, rfl, hz, e, hv _ w _ q (.refl st) rfl⟩))
    · exact q.elim
  · rename_i o t ks ds
    obtain ⟨hk, hq⟩ := hq
    obtain ⟨d, e, ho, q⟩ := pick_elim hq
    obtain ⟨a, rfl, g, _⟩ := dct_get st.wf rx ry hk
    obtain ⟨z, i, g, r⟩ := g d e
    exact .inr ⟨a, z, rfl, g, hv _ w _ q (.refl st) (r.free (Same.refl _) d ho)⟩
  · exact hq.elim
end
def rA0 : RA := fun ρ _ Q => Q [] ρ
def rAC (r : RO) (rs : RA) : RA := fun ρ E Q => r ρ E fun a ρ1 => rs ρ1 E fun as ρ2 => Q (a :: as) ρ2
theorem ArgsAt.cons {K : PySem.W.Frag} {w : Wd} {σ : Sl} {a : AD} {as : List AD} {τ : Nat} {v : V} {vs : List V} (h : AdAt K w σ a τ v) (g : ArgsAt K w σ as (τ + 1) vs) : ArgsAt K w σ (a :: as) τ (v :: vs) := by
  cases a with
  | val d => exact ⟨v, vs, rfl, h, g⟩
  | brw i => exact ⟨v, vs, rfl, h, g⟩
section
variable {X : Cx} {W : WX} {e : Expr} {es : List Expr} {r : RO} {rs : RA} {pos : Pos}
theorem fa_nil : FA X W [] rA0 := ⟨_, pa_nil, fun τ w σ ρ E Q Qv hn st h hq hx => hq _ _ _ _ h rfl (.refl st) rfl⟩
theorem fa_cons (h : FO X W e r) (g : FA X W es rs) (hs : starEach (e :: es) X.env = (false, eval e X.env) :: starEach es X.env := by rfl) : FA X W (e :: es) (rAC r rs) := by
  obtain ⟨t, p, s⟩ := h.ex
  obtain ⟨ts, ps, ss⟩ := g.ex
  refine ⟨_, pa_cons p ps hs, fun τ w σ ρ E Q Qv hn st h hq hx => ?_⟩
  refine s τ w σ ρ E _ _ hn st h (fun a ρ1 w1 v1 h1 e1 r1 => ?_) hx
  refine ss (τ + 1) w1 σ ρ1 E _ _ (by rw [e1.len]; omega) e1.st h1 (fun as ρ2 w2 vs h2 hl e2 r2 => ?_) (hx.then e1 (Nat.le_succ _))
  exact hq _ _ _ _ h2 (by rw [List.length_cons, List.length_cons, hl]) (e1.trans e2 (Nat.le_succ _)) (.cons (r1.later (by rw [e1.len]; exact hn) e2) r2)
end
def vals : List AD → Option (List D)
  | [] => some []
  | .val d :: r => match vals r with
    | some ds => some (d :: ds)
    | none => none
  | .brw _ :: _ => none
def onVals (ads : List AD) (k : List D → Prop) : Prop := match vals ads with
  | some ds => k ds
  | none => False
theorem onVals_elim {ads : List AD} {k : List D → Prop} (h : onVals ads k) : ∃ ds, vals ads = some ds ∧ k ds := by
  unfold onVals at h
  split at h
  · exact ⟨_, by assumption, h⟩
  · exact h.elim
theorem vals_at {K : PySem.W.Frag} {w : Wd} {σ : Sl} : ∀ {ads : List AD} {τ : Nat} {vs : List V} {ds : List D}, ArgsAt K w σ ads τ vs → vals ads = some ds → vs.length = ds.length ∧ ds.length = ads.length ∧ ∀ i d v, ds[i]? = some d → vs[i]? = some v → Rep K w d [τ + i] v
  | [], _, _, _, h, e => by simp only [vals] at e; cases e; simp only [ArgsAt] at h; subst h; simp
  | .brw _ :: _, _, _, _, _, e => by simp only [vals] at e; cases e
  | .val d :: r, τ, vs, ds, h, e => by
    simp only [ArgsAt] at h
    obtain ⟨v, us, rfl, h1, h2⟩ := h
    simp only [vals] at e
    split at e
    · rename_i ds' e'
      cases e
      obtain ⟨l1, l2, g⟩ := vals_at h2 e'
      refine ⟨by simpa using l1, by simpa using l2, fun i d' v' e1 e2 => ?_⟩
      cases i with
      | zero => cases e1; cases e2; exact h1
      | succ i =>
        have := g i d' v' (by simpa using e1) (by simpa using e2)
        rw [show τ + 1 + i = τ + (i + 1) by omega] at this
        exact this
    · cases e
theorem gather_reps {K : PySem.W.Frag} {w : Wd} {σ : Sl} {ads : List AD} {τ : Nat} {vs : List V} {ds : List D} (h : ArgsAt K w σ ads τ vs) (e : vals ads = some ds) : RepL K (w.ren (gather τ ds.length)) ds [τ] 0 vs := by
  obtain ⟨l1, _, g⟩ := vals_at h e
  refine RepL.of l1 fun i d v e1 e2 => ?_
  have hi := (List.getElem?_eq_some_iff.mp e1).1
  refine (g i d v e1 e2).ren fun s => ?_
  have := gather_at (τ := τ) hi s
  simpa using this
def rTup (ra : RA) : RE := fun ρ E Q => ra ρ E fun ads ρ' => onVals ads fun ds => Q (.tup (ownL ds) ds) ρ'
def rLst (ra : RA) : RE := fun ρ E Q => ra ρ E fun ads ρ' => onVals ads fun ds => Q (.lst (Ow.of (ownL ds)) ds) ρ'
section
variable {X : Cx} {W : WX} {es : List Expr} {ra : RA} {pos : Pos}
theorem fe_tup {k : Nat} (h : FA X W es ra) (hl : decide (es.length ≤ 1000) = true := by rfl) : FE X W (.Tuple es k pos) (rTup ra) := by
  obtain ⟨t, p, s⟩ := h.ex
  refine ⟨_, pe_tup p, fun τ w σ ρ E Q Qv hn st h hq hx => ?_⟩
  refine s τ w σ ρ E _ _ hn st h (fun ads ρ1 w1 vs h1 l1 e1 r1 => ?_) hx
  obtain ⟨ds, ev, q⟩ := onVals_elim h1
  obtain ⟨l2, l3, _⟩ := vals_at r1 ev
  refine ⟨by have := of_decide_eq_true hl; rw [l2, l3, l1]; exact Nat.le_of_lt (small1000 this), fun p n => ?_⟩
  have er := EndE.ren (τ := τ) e1.st (gather_calm (k := ds.length) (by rw [e1.len]; exact hn))
  obtain ⟨e2, r2⟩ := EndE.tup (τ := τ) (ownL ds) er.st (p := p) n (gather_reps r1 ev) (by have := of_decide_eq_true hl; rw [l3, l1]; exact Nat.le_of_lt (small1000 this)) (fun z => z)
  exact hq _ ρ1 _ _ q ((e1.trans er (Nat.le_refl _)).trans e2 (Nat.le_refl _)) r2
theorem fe_lst (h : FA X W es ra) (hl : decide (es.length ≤ 1000) = true := by rfl) : FE X W (.List es pos) (rLst ra) := by
  obtain ⟨t, p, s⟩ := h.ex
  refine ⟨_, pe_lst p, fun τ w σ ρ E Q Qv hn st h hq hx => ?_⟩
  refine s τ w σ ρ E _ _ hn st h (fun ads ρ1 w1 vs h1 l1 e1 r1 => ?_) hx
  obtain ⟨ds, ev, q⟩ := onVals_elim h1
  obtain ⟨l2, l3, _⟩ := vals_at r1 ev
  refine ⟨by have := of_decide_eq_true hl; rw [l2, l3, l1]; exact Nat.le_of_lt (small1000 this), fun p n => ?_⟩
  have er := EndE.ren (τ := τ) e1.st (gather_calm (k := ds.length) (by rw [e1.len]; exact hn))
  obtain ⟨e2, r2⟩ := EndE.own (τ := τ) (Ow.of (ownL ds)) er.st (p := p) n (gather_reps r1 ev) (by have := of_decide_eq_true hl; rw [l3, l1]; exact Nat.le_of_lt (small1000 this)) (fun z => by cases q : ownL ds with | false => rfl | true => rw [q] at z; cases z) (by cases ownL ds <;> rfl)
  exact hq _ ρ1 _ _ q ((e1.trans er (Nat.le_refl _)).trans e2 (Nat.le_refl _)) r2
/-- {} : a new dict, its keys by t -/
def rDNew (t : Bool) : RE := fun ρ _ Q => Q (.dct .flat t [] []) ρ
theorem fe_dnew (t : Bool) : FE X W (.Dict [] [] pos) (rDNew t) := by
  have key : ∀ t, SE X.K W (fun _ H Q => ∀ p, H p = none → Q (.ref p) (upd H p (dHO t [] []))) (rDNew t) := fun t τ w σ ρ E Q Qv hn st h hq hx p n => by
    refine hq _ ρ (w.new p [τ] (dHO t [] [])) _ h (.new st n (by cases t <;> trivial)) ?_
    simp only [Rep]
    refine ⟨p, [], rfl, ⟨?_, upd_same⟩, ⟨rfl, by cases t <;> simp [keysOk], fun _ => rfl⟩, by simp [RepL]⟩
    show (if p = p then _ else _) = _
    rw [if_pos rfl]
  cases t with
  | true => exact ⟨_, pe_dnewT, key true⟩
  | false => exact ⟨_, pe_dnewK, key false⟩
end
def RepsAny (K : PySem.W.Frag) (w : Wd) : List D → List V → Prop
  | [], vs => vs = []
  | d :: ds, vs => ∃ v us, vs = v :: us ∧ (∃ ℓ, Rep K w d ℓ v) ∧ RepsAny K w ds us
def adsD (ρ : En) : List AD → Option (List D)
  | [] => some []
  | a :: r => match adD ρ a with
    | some d => match adsD ρ r with
      | some ds => some (d :: ds)
      | none => none
    | none => none
def onAds (ρ : En) (ads : List AD) (k : List D → Prop) : Prop := match adsD ρ ads with
  | some ds => k ds
  | none => False
theorem onAds_elim {ρ : En} {ads : List AD} {k : List D → Prop} (h : onAds ρ ads k) : ∃ ds, adsD ρ ads = some ds ∧ k ds := by
  unfold onAds at h
  split at h
  · exact ⟨_, by assumption, h⟩
  · exact h.elim
theorem ads_any {K : PySem.W.Frag} {w : Wd} {σ : Sl} {ρ : En} (st : StE K w σ ρ) : ∀ {ads : List AD} {τ : Nat} {vs : List V} {ds : List D}, ArgsAt K w σ ads τ vs → adsD ρ ads = some ds → RepsAny K w ds vs
  | [], _, _, _, h, e => by simp only [adsD] at e; cases e; exact h
  | a :: r, τ, vs, ds, h, e => by
    obtain ⟨v, us, rfl, h1, h2⟩ : ∃ v us, vs = v :: us ∧ AdAt K w σ a τ v ∧ ArgsAt K w σ r (τ + 1) us := by
      cases a with
      | val d => exact h
      | brw i => exact h
    simp only [adsD] at e
    split at e
    · rename_i d e1
      split at e
      · rename_i ds' e2
        cases e
        exact ⟨v, us, rfl, ad_get st h1 e1, ads_any st h2 e2⟩
      · cases e
    · cases e
abbrev DC := List D → (D → Prop) → Prop
def SCK (K : PySem.W.Frag) (r : List V → Hp → VK → Prop) (dc : DC) : Prop :=
  ∀ (τ : Nat) (w : Wd) (σ : Sl) (ρ : En) (vs : List V) (ds : List D) (Q : D → Prop) (Qv : VK), ρ.length < τ → StE K w σ ρ → RepsAny K w ds vs → dc ds Q →
    (∀ d w' v, Q d → EndE K τ w σ ρ ρ w' → Rep K w' d [τ] v → Qv v w'.H) → r vs w.H Qv
structure FC (X : Cx) (f : Value) (dc : DC) : Prop where
  ex : ∃ r, CallR X f r ∧ SCK X.K r dc
theorem FC.or {X : Cx} {f : Value} {p q : DC} (h : FC X f p) (g : FC X f q) : FC X f (fun a Q => p a Q ∨ q a Q) := by
  obtain ⟨r, h1, h2⟩ := h.ex
  obtain ⟨r', g1, g2⟩ := g.ex
  refine ⟨_, h1.or g1, fun τ w σ ρ vs ds Q Qv hn st rs hd hq => ?_⟩
  rcases hd with hd | hd
  · exact .inl (h2 τ w σ ρ vs ds Q Qv hn st rs hd hq)
  · exact .inr (g2 τ w σ ρ vs ds Q Qv hn st rs hd hq)
theorem FC.imp {X : Cx} {f : Value} {p q : DC} (h : FC X f p) (g : ∀ a Q, q a Q → p a Q) : FC X f q := by
  obtain ⟨r, h1, h2⟩ := h.ex
  exact ⟨r, h1, fun τ w σ ρ vs ds Q Qv hn st rs hd hq => h2 τ w σ ρ vs ds Q Qv hn st rs (g _ _ hd) hq⟩
def rCB (dc : DC) (ra : RA) : RE := fun ρ E Q => ra ρ E fun ads ρ' => onAds ρ' ads fun ds => dc ds fun d => Q d ρ'
section
variable {X : Cx} {W : WX} {x : Str} {p pos : Pos} {e : Expr} {es : List Expr} {ra : RA} {id T : String} {dc : DC}
theorem se_cb {K : PySem.W.Frag} {k : Nat} {t : TA} {r : List V → Hp → VK → Prop} (sa : SA K W k t ra) (sc : SCK K r dc) : SE K W (tCB r t) (rCB dc ra) := by
  intro τ w σ ρ E Q Qv hn st h hq hx
  refine sa τ w σ ρ E _ _ hn st h (fun ads ρ1 w1 vs h1 l1 e1 r1 => ?_) hx
  obtain ⟨ds, ev, q⟩ := onAds_elim h1
  exact sc τ w1 σ ρ1 vs ds _ _ (by rw [e1.len]; exact hn) e1.st (ads_any e1.st r1 ev) q fun d w2 v q2 e2 r2 => hq d ρ1 w2 v q2 (e1.trans e2 (Nat.le_refl _)) r2
theorem fe_callB (hc : FC X (.builtin id) dc) (hm : X.mg x = none) (hv : bootBuiltins x = some (.builtin id)) (ha : FA X W (e :: es) ra) (hg : Gl X x := by rfl) (hn : x ≠ "__name__" := by decide) (hdb : (x == ("__debug__" : Str)) = false := by decide)
    (he : starEach (e :: es) X.env = (false, eval e X.env) :: starEach es X.env := by rfl) (hpl : (backTo pos (starEach es X.env)).any (·.1) = false := by rfl) : FE X W (.Call (.Name x p) (e :: es) [] pos) (rCB dc ra) := by
  obtain ⟨r, h1, h2⟩ := hc.ex
  obtain ⟨t, pa, sa⟩ := ha.ex
  exact ⟨_, pe_callB h1 hg hm hv pa hn hdb he hpl, se_cb sa h2⟩
theorem fe_callTy (hc : FC X (.type T) dc) (hm : X.mg x = none) (hv : bootBuiltins x = some (.type T)) (ha : FA X W (e :: es) ra) (hg : Gl X x := by rfl) (hn : x ≠ "__name__" := by decide) (hdb : (x == ("__debug__" : Str)) = false := by decide)
    (he : starEach (e :: es) X.env = (false, eval e X.env) :: starEach es X.env := by rfl) (hpl : (backTo pos (starEach es X.env)).any (·.1) = false := by rfl) : FE X W (.Call (.Name x p) (e :: es) [] pos) (rCB dc ra) := by
  obtain ⟨r, h1, h2⟩ := hc.ex
  obtain ⟨t, pa, sa⟩ := ha.ex
  exact ⟨_, pe_callTy h1 hg hm hv pa hn hdb he hpl, se_cb sa h2⟩
end
def dLen : DC
  | [.lst _ ds], Q => Q (.int ds.length)
  | [.ro _ ds], Q => Q (.int ds.length)
  | [.tup _ ds], Q => Q (.int ds.length)
  | [.str z], Q => z.length ≤ sizeLine ∧ Q (.int z.length)
  | _, _ => False
def dAbs : DC
  | [.int i], Q => Q (.int (if i < 0 then -i else i))
  | _, _ => False
def dMax2 : DC
  | [.int i, .int j], Q => Q (.int (if j > i then j else i))
  | _, _ => False
def dMin2 : DC
  | [.int i, .int j], Q => Q (.int (if j < i then j else i))
  | _, _ => False
def dInt : DC
  | [.int i], Q => Q (.int i)
  | [.bl k], Q => Q (.int (if k then 1 else 0))
  | _, _ => False
def dList : DC
  | [.lst o ds], Q => match o with
    | .deep => False
    | _ => Q (.lst .flat ds)
  | [.ro _ ds], Q => Q (.lst .flat ds)
  | [.tup false ds], Q => Q (.lst .flat ds)
  | _, _ => False
section
variable {X : Cx}
theorem reps1 {K : PySem.W.Frag} {w : Wd} {d : D} {vs : List V} (h : RepsAny K w [d] vs) : ∃ v ℓ, vs = [v] ∧ Rep K w d ℓ v := by
  obtain ⟨v, us, rfl, ⟨ℓ, r⟩, h2⟩ := h
  simp only [RepsAny] at h2
  subst h2
  exact ⟨v, ℓ, rfl, r⟩
theorem reps2 {K : PySem.W.Frag} {w : Wd} {d e : D} {vs : List V} (h : RepsAny K w [d, e] vs) : ∃ v u ℓ ℓ', vs = [v, u] ∧ Rep K w d ℓ v ∧ Rep K w e ℓ' u := by
  obtain ⟨v, us, rfl, ⟨ℓ, r⟩, h2⟩ := h
  obtain ⟨u, ℓ', rfl, r'⟩ := reps1 h2
  exact ⟨v, u, ℓ, ℓ', rfl, r, r'⟩
theorem fc_len : FC X (.builtin "len") dLen := by
  refine ⟨_, call_len, fun τ w σ ρ vs ds Q Qv hn st rs hd hq => ?_⟩
  unfold dLen at hd
  split at hd
  · obtain ⟨v, ℓ, rfl, r⟩ := reps1 rs
    obtain ⟨a, us, rfl, h1, h2⟩ := lst_at st.wf r
    exact ⟨.ref a, _, rfl, .inl ⟨us, SqL.of h1, rfl⟩, hq _ w _ hd (.refl st) (by rw [h2.length]; rfl)⟩
  · rename_i t ds
    obtain ⟨v, ℓ, rfl, r⟩ := reps1 rs
    simp only [Rep] at r
    obtain ⟨a, us, rfl, h1, hz, h2⟩ := r
    refine ⟨.ref a, _, rfl, ?_, hq _ w _ hd (.refl st) (by rw [← h2.length]; rfl)⟩
    cases t with
    | true => exact .inr ⟨us, same_rdT st.wf.sh h1, rfl⟩
    | false => exact .inl ⟨us, st.wf.sh.seq h1, rfl⟩
  · obtain ⟨v, ℓ, rfl, r⟩ := reps1 rs
    obtain ⟨a, us, rfl, h1, h2⟩ := tup_at st.wf r
    exact ⟨.ref a, _, rfl, .inr ⟨us, SqT.of h1, rfl⟩, hq _ w _ hd (.refl st) (by rw [h2.length]; rfl)⟩
  · obtain ⟨v, ℓ, rfl, r⟩ := reps1 rs
    simp only [Rep] at r
    subst r
    exact ⟨_, _, rfl, ⟨hd.1, rfl⟩, hq _ w _ hd.2 (.refl st) rfl⟩
  · exact hd.elim
theorem fc_abs : FC X (.builtin "abs") dAbs := by
  refine ⟨_, call_abs, fun τ w σ ρ vs ds Q Qv hn st rs hd hq => ?_⟩
  unfold dAbs at hd
  split at hd
  · obtain ⟨v, ℓ, rfl, r⟩ := reps1 rs
    simp only [Rep] at r
    subst r
    exact ⟨_, rfl, hq _ w _ hd (.refl st) rfl⟩
  · exact hd.elim
theorem fc_max2 (hc : X.calm = true := by rfl) : FC X (.builtin "max") dMax2 := by
  refine ⟨_, call_max2 hc, fun τ w σ ρ vs ds Q Qv hn st rs hd hq => ?_⟩
  unfold dMax2 at hd
  split at hd
  · obtain ⟨v, u, ℓ, ℓ', rfl, r, r'⟩ := reps2 rs
    simp only [Rep] at r r'
    subst r; subst r'
    exact ⟨_, _, rfl, hq _ w _ hd (.refl st) rfl⟩
  · exact hd.elim
theorem fc_min2 (hc : X.calm = true := by rfl) : FC X (.builtin "min") dMin2 := by
  refine ⟨_, call_min2 hc, fun τ w σ ρ vs ds Q Qv hn st rs hd hq => ?_⟩
  unfold dMin2 at hd
  split at hd
  · obtain ⟨v, u, ℓ, ℓ', rfl, r, r'⟩ := reps2 rs
    simp only [Rep] at r r'
    subst r; subst r'
    exact ⟨_, _, rfl, hq _ w _ hd (.refl st) rfl⟩
  · exact hd.elim
theorem fc_int : FC X (.type "int") dInt := by
  refine ⟨_, call_int1, fun τ w σ ρ vs ds Q Qv hn st rs hd hq => ?_⟩
  unfold dInt at hd
  split at hd
  · obtain ⟨v, ℓ, rfl, r⟩ := reps1 rs
    simp only [Rep] at r
    subst r
    exact .inl ⟨_, rfl, hq _ w _ hd (.refl st) rfl⟩
  · obtain ⟨v, ℓ, rfl, r⟩ := reps1 rs
    simp only [Rep] at r
    subst r
    exact .inr ⟨_, rfl, hq _ w _ hd (.refl st) rfl⟩
  · exact hd.elim
theorem fc_list : FC X (.type "list") dList := by
  refine ⟨_, call_list_of, fun τ w σ ρ vs ds Q Qv hn st rs hd hq => ?_⟩
  unfold dList at hd
  split at hd
  · rename_i o ds
    obtain ⟨v, ℓ, rfl, r⟩ := reps1 rs
    have hz := lst_sz r
    have key : o.light = true → Q (.lst .flat ds) → (∃ p ys, [v] = [V.ref p] ∧ (SqL X.K w.H p ys ∨ SqT X.K w.H p ys) ∧ ∀ l, w.H l = none → Qv (.ref l) (upd w.H l (.lst ys))) := fun ho hd => by
      obtain ⟨a, us, rfl, h1, h2⟩ := lst_at st.wf r
      refine ⟨a, us, rfl, .inl (SqL.of h1), fun p n => ?_⟩
      obtain ⟨e, r⟩ := EndE.own (τ := τ) .flat st n (RepL.free (w' := w) (ℓ' := [τ]) (j' := 0) (Same.refl _) ds (hz.2 ho) h2) hz.1 (fun _ => hz.2 ho) rfl
      exact hq _ _ _ hd e r
    cases o with
    | deep => exact hd.elim
    | flat => exact key rfl hd
    | ice => exact key rfl hd
  · rename_i t ds
    obtain ⟨v, ℓ, rfl, r⟩ := reps1 rs
    simp only [Rep] at r
    obtain ⟨a, us, rfl, h1, hz, h2⟩ := r
    refine ⟨a, us, rfl, ?_, fun p n => ?_⟩
    · cases t with
      | true => exact .inr (same_rdT st.wf.sh h1)
      | false => exact .inl (st.wf.sh.seq h1)
    · obtain ⟨e, r⟩ := EndE.own (τ := τ) .flat st n (RepL.free (w' := w) (ℓ' := [τ]) (j' := 0) (Same.refl _) ds hz.2 h2) hz.1 (fun _ => hz.2) rfl
      exact hq _ _ _ hd e r
  · rename_i ds
    obtain ⟨v, ℓ, rfl, r⟩ := reps1 rs
    have hz := tup_sz r
    obtain ⟨a, us, rfl, h1, h2⟩ := tup_at st.wf r
    refine ⟨a, us, rfl, .inr (SqT.of h1), fun p n => ?_⟩
    obtain ⟨e, r⟩ := EndE.own (τ := τ) .flat st n (RepL.free (w' := w) (ℓ' := [τ]) (j' := 0) (Same.refl _) ds (hz.2 rfl) h2) hz.1 (fun _ => hz.2 rfl) rfl
    exact hq _ _ _ hd e r
  · exact hd.elim
end
def rNot (r : RT) : RT := fun ρ E Q => r ρ E fun b ρ' => Q (!b) ρ'
def rAnd (r s : RT) : RT := fun ρ E Q => r ρ E fun b ρ1 => (b = true → s ρ1 E Q) ∧ (b = false → Q false ρ1)
def rOr (r s : RT) : RT := fun ρ E Q => r ρ E fun b ρ1 => (b = true → Q true ρ1) ∧ (b = false → s ρ1 E Q)
def rIfE (t : RT) (r s : RE) : RE := fun ρ E Q => t ρ E fun b ρ1 => (b = true → r ρ1 E Q) ∧ (b = false → s ρ1 E Q)
section
variable {X : Cx} {W : WX} {a b c : Expr} {rest : List Expr} {r s : RT} {re se : RE} {pos : Pos}
theorem FW.ft (h : FW X W a r) : FT X W a r := by
  obtain ⟨t, p, k⟩ := h.ex
  exact ⟨t, p.pt, k⟩
theorem fw_and1 (h : FT X W a r) : FW X W (.BoolOp .And [a] pos) r := by
  obtain ⟨t, p, k⟩ := h.ex
  exact ⟨t, pw_and1 p, k⟩
theorem fw_or1 (h : FT X W a r) : FW X W (.BoolOp .Or [a] pos) r := by
  obtain ⟨t, p, k⟩ := h.ex
  exact ⟨t, pw_or1 p, k⟩
theorem fw_and (h : FT X W a r) (g : FW X W (.BoolOp .And (b :: rest) pos) s) : FW X W (.BoolOp .And (a :: b :: rest) pos) (rAnd r s) := by
  obtain ⟨t, p, k⟩ := h.ex
  obtain ⟨u, q, l⟩ := g.ex
  refine ⟨_, pw_and p q, fun τ w σ ρ E Q Qv hn st h hq hx => ?_⟩
  refine k τ w σ ρ E _ _ hn st h (fun b ρ1 w1 h1 e1 => ?_) hx
  cases b with
  | true =>
    rw [if_pos rfl]
    exact l τ w1 σ ρ1 E _ _ (by rw [e1.len]; exact hn) e1.st (h1.1 rfl) (fun b ρ2 w2 h2 e2 => hq b ρ2 w2 h2 (e1.trans e2 (Nat.le_refl _))) (hx.then e1 (Nat.le_refl _))
  | false =>
    rw [if_neg Bool.false_ne_true]
    exact hq false ρ1 w1 (h1.2 rfl) e1
theorem fw_or (h : FT X W a r) (g : FW X W (.BoolOp .Or (b :: rest) pos) s) : FW X W (.BoolOp .Or (a :: b :: rest) pos) (rOr r s) := by
  obtain ⟨t, p, k⟩ := h.ex
  obtain ⟨u, q, l⟩ := g.ex
  refine ⟨_, pw_or p q, fun τ w σ ρ E Q Qv hn st h hq hx => ?_⟩
  refine k τ w σ ρ E _ _ hn st h (fun b ρ1 w1 h1 e1 => ?_) hx
  cases b with
  | true =>
    rw [if_pos rfl]
    exact hq true ρ1 w1 (h1.1 rfl) e1
  | false =>
    rw [if_neg Bool.false_ne_true]
    exact l τ w1 σ ρ1 E _ _ (by rw [e1.len]; exact hn) e1.st (h1.2 rfl) (fun b ρ2 w2 h2 e2 => hq b ρ2 w2 h2 (e1.trans e2 (Nat.le_refl _))) (hx.then e1 (Nat.le_refl _))
theorem ft_not (h : FT X W a r) : FT X W (.UnaryOp .Not a pos) (rNot r) := by
  obtain ⟨t, p, k⟩ := h.ex
  refine ⟨_, pt_not p, fun τ w σ ρ E Q Qv hn st h hq hx => ?_⟩
  exact k τ w σ ρ E _ _ hn st h (fun b ρ1 w1 h1 e1 => hq _ ρ1 w1 h1 e1) hx
theorem fe_ifE (hc : FT X W c r) (ha : FE X W a re) (hb : FE X W b se) : FE X W (.IfExp c a b pos) (rIfE r re se) := by
  obtain ⟨t, p, k⟩ := hc.ex
  obtain ⟨u, q, l⟩ := ha.ex
  obtain ⟨u', q', l'⟩ := hb.ex
  refine ⟨_, pe_ifExp p q q', fun τ w σ ρ E Q Qv hn st h hq hx => ?_⟩
  refine k τ w σ ρ E _ _ hn st h (fun b ρ1 w1 h1 e1 => ?_) hx
  cases b with
  | true =>
    rw [if_pos rfl]
    exact l τ w1 σ ρ1 E _ _ (by rw [e1.len]; exact hn) e1.st (h1.1 rfl) (fun b ρ2 w2 v h2 e2 r2 => hq b ρ2 w2 v h2 (e1.trans e2 (Nat.le_refl _)) r2) (hx.then e1 (Nat.le_refl _))
  | false =>
    rw [if_neg Bool.false_ne_true]
    exact l' τ w1 σ ρ1 E _ _ (by rw [e1.len]; exact hn) e1.st (h1.2 rfl) (fun b ρ2 w2 v h2 e2 r2 => hq b ρ2 w2 v h2 (e1.trans e2 (Nat.le_refl _)) r2) (hx.then e1 (Nat.le_refl _))
end
end FL
namespace FL
open PySem PySem.Spec PyProof.Rows L2
def Wd.ice (w : Wd) (P : Loc → Bool) : Wd :=
  ⟨fun a => match w.G a with
    | some ℓ => if P ℓ then none else some ℓ
    | none => none,
   fun a => match w.G a with
    | some ℓ => if P ℓ then w.H a else w.S a
    | none => w.S a, w.H⟩
section
variable {w : Wd} {P : Loc → Bool}
theorem Wf.ice (h : Wf w) : Wf (w.ice P) := by
  refine ⟨fun a o e => ?_, fun a ℓ e => ?_⟩
  · have e : (match w.G a with | some ℓ => if P ℓ then w.H a else w.S a | none => w.S a) = some o := e
    cases hk : w.G a with
    | none => rw [hk] at e; exact h.sh a o e
    | some k =>
      rw [hk] at e
      have e : (if P k then w.H a else w.S a) = some o := e
      cases hp : P k with
      | true => rw [hp] at e; exact e
      | false => rw [hp] at e; exact h.sh a o e
  · have e : (match w.G a with | some ℓ => if P ℓ then none else some ℓ | none => none) = some ℓ := e
    cases hk : w.G a with
    | none => rw [hk] at e; cases e
    | some k =>
      rw [hk] at e
      have e : (if P k then none else some k) = some ℓ := e
      cases hp : P k with
      | true => rw [hp] at e; cases e
      | false =>
        refine ⟨?_, (h.tg a k hk).2⟩
        show (match w.G a with | some ℓ => if P ℓ then w.H a else w.S a | none => w.S a) = none
        rw [hk]
        show (if P k then w.H a else w.S a) = none
        rw [hp]
        exact (h.tg a k hk).1
theorem ice_same (h : Wf w) : Same w.S (w.ice P).S := fun a o e => by
  show (match w.G a with | some ℓ => if P ℓ then w.H a else w.S a | none => w.S a) = some o
  cases hk : w.G a with
  | none => exact e
  | some k => rw [(h.tg a k hk).1] at e; cases e
theorem ice_kept {ℓ : Loc} (h : ∀ s, P (ℓ ++ s) = false) : KeptTo w (w.ice P) ℓ ℓ := fun a s e => by
  refine ⟨?_, rfl⟩
  show (match w.G a with | some ℓ => if P ℓ then none else some ℓ | none => none) = _
  rw [e]
  show (if P (ℓ ++ s) then none else some (ℓ ++ s)) = _
  rw [h s]; rfl
theorem ice_frz {ℓ : Loc} (h : ∀ s, P (ℓ ++ s) = true) : FrzTo w (w.ice P) ℓ := fun a s o e eo => by
  show (match w.G a with | some ℓ => if P ℓ then w.H a else w.S a | none => w.S a) = some o
  rw [e]
  show (if P (ℓ ++ s) then w.H a else w.S a) = some o
  rw [h s]; exact eo
end
section
variable {X : Cx} {W : WX} {M : List Nat} {st : Stmt} {rest : List Stmt} {r u : RS} {e : Expr} {re : RE} {pos pos' : Pos}
def rNx : RS := fun ρ _ F => F.nx ρ
def rSeq (r u : RS) : RS := fun ρ E F => r ρ E (F.wn fun ρ' => u ρ' E F)
theorem fss_nil : FSs X W M [] rNx := ⟨_, pss_nil, fun w σ ρ E F D st h hf => hf.nx ρ w σ h (.refl st)⟩
theorem fss_cons (h : FS X W M st r) (g : FSs X W M rest u) : FSs X W M (st :: rest) (rSeq r u) := by
  obtain ⟨t, p, k⟩ := h.ex
  obtain ⟨t', p', k'⟩ := g.ex
  refine ⟨_, pss_cons p p', fun w σ ρ E F D st h hf => ?_⟩
  exact k w σ ρ E _ _ st h ⟨fun ρ' w' σ' h' e => k' w' σ' ρ' E F D e.st h' (hf.then e), hf.rt, hf.bk, hf.ct, hf.ex⟩
theorem fss_one (h : FS X W M st r) : FSs X W M [st] r := by
  obtain ⟨t, p, k⟩ := h.ex
  exact ⟨_, pss_one p, k⟩
/-- the ways joined behind a statement -/
structure CutG (r : RS) (ρ : En) (E : EE) (F : Fin) : Prop where
  go : ∃ I : En → Prop, r ρ E (F.wn I) ∧ ∀ ρ', I ρ' → F.nx ρ'
def rCut (r : RS) : RS := fun ρ E F => CutG r ρ E F
theorem fs_cut (h : FS X W M st r) : FS X W M st (rCut r) := by
  obtain ⟨t, p, k⟩ := h.ex
  refine ⟨_, p, fun w σ ρ E F D st ⟨I, h, g⟩ hf => ?_⟩
  exact k w σ ρ E _ _ st h ⟨fun ρ' w' σ' h' e => hf.nx ρ' w' σ' (g ρ' h') e, hf.rt, hf.bk, hf.ct, hf.ex⟩
/-- any weakening of the ends -/
structure Fin.le (F G : Fin) : Prop where
  nx : ∀ ρ, F.nx ρ → G.nx ρ
  rt : ∀ d ρ, F.rt d ρ → G.rt d ρ
  bk : ∀ ρ, F.bk ρ → G.bk ρ
  ct : ∀ ρ, F.ct ρ → G.ct ρ
theorem Fin.le.refl (F : Fin) : F.le F := ⟨fun _ h => h, fun _ _ h => h, fun _ h => h, fun _ h => h⟩
theorem SF.le {K : PySem.W.Frag} {w : Wd} {σ : Sl} {ρ : En} {E : EE} {F G : Fin} {D : Ends} (h : SF K W M w σ ρ E G D) (l : F.le G) : SF K W M w σ ρ E F D :=
  ⟨fun ρ' w' σ' q e => h.nx ρ' w' σ' (l.nx _ q) e, fun d ρ' w' σ' v q e r => h.rt d ρ' w' σ' v (l.rt _ _ q) e r, fun ρ' w' σ' q e => h.bk ρ' w' σ' (l.bk _ q) e, fun ρ' w' σ' q e => h.ct ρ' w' σ' (l.ct _ q) e, h.ex⟩
def rDrop (re : RE) : RS := fun ρ E F => re ρ E fun _ ρ' => F.nx ρ'
theorem fs_expr (he : FE X W e re) (hs : swapsWith e none pos.line X.env = pure false := by rfl) : FS X W M (.Expr e pos) (rDrop re) := by
  obtain ⟨t, p, k⟩ := he.ex
  refine ⟨_, ps_expr p hs, fun w σ ρ E F D st h hf => ?_⟩
  exact k _ w σ ρ E _ _ (Nat.lt_succ_self _) st h (fun d ρ' w' v q e r => hf.nx ρ' w' σ q (e.s (Nat.lt_succ_self _))) hf.sx
def rRet (re : RE) : RS := fun ρ E F => re ρ E fun d ρ' => F.rt d ρ'
theorem fs_ret (he : FE X W e re) : FS X W M (.Return (some e) pos) (rRet re) := by
  obtain ⟨t, p, k⟩ := he.ex
  refine ⟨_, ps_ret p, fun w σ ρ E F D st h hf => ?_⟩
  exact k _ w σ ρ E _ _ (Nat.lt_succ_self _) st h (fun d ρ' w' v q e r => hf.rt d ρ' w' σ v q (e.s (Nat.lt_succ_self _)) r) hf.sx
def rIf (t : RT) (r u : RS) : RS := fun ρ E F => t ρ E fun b ρ1 => (b = true → r ρ1 E F) ∧ (b = false → u ρ1 E F)
theorem fs_if {c : Expr} {a b : List Stmt} {rt : RT} (hc : FT X W c rt) (ha : FSs X W M a r) (hb : FSs X W M b u) : FS X W M (.If c a b pos) (rIf rt r u) := by
  obtain ⟨t, p, k⟩ := hc.ex
  obtain ⟨t1, p1, k1⟩ := ha.ex
  obtain ⟨t2, p2, k2⟩ := hb.ex
  refine ⟨_, ps_if p p1 p2, fun w σ ρ E F D st h hf => ?_⟩
  refine k _ w σ ρ E _ _ (Nat.lt_succ_self _) st h (fun b ρ1 w1 h1 e1 => ?_) hf.sx
  have es := e1.s (M := M) (Nat.lt_succ_self _)
  cases b with
  | true =>
    rw [if_pos rfl]
    exact k1 w1 σ ρ1 E F D e1.st (h1.1 rfl) (hf.then es)
  | false =>
    rw [if_neg Bool.false_ne_true]
    exact k2 w1 σ ρ1 E F D e1.st (h1.2 rfl) (hf.then es)
/-- the temporary n + 1 goes to slot i -/
def tempTo (n i : Nat) : Loc → Option Loc
  | h :: s => if h = i + 1 then none else if h = n + 1 then some ((i + 1) :: s) else some (h :: s)
  | [] => some []
theorem store_end {K : PySem.W.Frag} {w : Wd} {σ : Sl} {ρ : En} {i : Nat} {d : D} {v : V} (st : StE K w σ ρ) (r : Rep K w d [ρ.length + 1] v) (hi : i < ρ.length) (hM : M.contains i = false) : EndS K M w σ ρ (w.ren (tempTo ρ.length i)) (σ.set i (some v)) (ρ.set i (some d)) := by
  refine ⟨by rw [List.length_set], ⟨st.wf.ren _, by rw [List.length_set, List.length_set]; exact st.len, fun j d' e => ?_⟩, ⟨Same.refl _, fun a ℓ e ⟨h, s, e2, k⟩ => ?_⟩, fun j hj => ?_⟩
  · by_cases hj : j = i
    · subst hj
      rw [List.getElem?_set_self hi] at e
      cases e
      refine ⟨v, List.getElem?_set_self (by rw [st.len]; exact hi), r.ren fun s => ?_⟩
      show (if _ then _ else _) = _
      rw [if_neg (by omega), if_pos rfl]; rfl
    · rw [List.getElem?_set_ne (Ne.symm hj)] at e ⊢
      obtain ⟨v', e1, r'⟩ := st.rep j d' e
      have hl := (List.getElem?_eq_some_iff.mp e).1
      refine ⟨v', e1, r'.ren fun s => ?_⟩
      show (if _ then _ else _) = _
      rw [if_neg (by omega), if_neg (by omega)]; rfl
  · subst e2
    refine ⟨ren_at e ?_, rfl⟩
    show (if _ then _ else _) = _
    rw [if_neg (by omega), if_neg (by omega)]
  · have : j ≠ i := fun z => by
      subst z
      have := List.contains_iff_mem.mpr hj
      rw [this] at hM; cases hM
    exact List.getElem?_set_ne (Ne.symm this)
theorem ice_temp {K : PySem.W.Frag} {w : Wd} {σ : Sl} {ρ : En} {d : D} {v : V} (st : StE K w σ ρ) (r : Rep K w d [ρ.length + 1] v) :
    EndE K (ρ.length + 1) w σ ρ ρ (w.ice fun ℓ => match ℓ with | h :: _ => h == ρ.length + 1 | [] => false) ∧ ∀ ℓ, Rep K (w.ice fun ℓ => match ℓ with | h :: _ => h == ρ.length + 1 | [] => false) d.frz ℓ v := by
  refine ⟨⟨rfl, st.to st.wf.ice (ice_same st.wf) fun i hi => ice_kept fun s => ?_, ⟨ice_same st.wf, fun a ℓ e ⟨h, s, e2, k⟩ => ?_⟩⟩, fun ℓ => ?_⟩
  · show ((i + 1) == ρ.length + 1) = false
    simp; omega
  · subst e2
    have := ice_kept (w := w) (ℓ := h :: s) (P := fun ℓ => match ℓ with | h :: _ => h == ρ.length + 1 | [] => false) (fun t => by
      show (h == ρ.length + 1) = false
      simp; omega) a [] (by simpa using e)
    simpa using this
  · exact Rep.frz (w := w) (ice_same st.wf) d (ice_frz fun s => by show ((ρ.length + 1) == ρ.length + 1) = true; simp) r
def rSet (i : Nat) (re : RE) : RS := fun ρ E F => re ρ E fun d ρ' => nf (ρ'.set i (some d)) F.nx
/-- the value frozen -/
def rSetF (i : Nat) (re : RE) : RS := fun ρ E F => re ρ E fun d ρ' => nf (ρ'.set i (some d.frz)) F.nx
theorem set_out {α : Type} {l : List α} {i : Nat} (a : α) (h : ¬ i < l.length) : l.set i a = l := List.set_eq_of_length_le (by omega)
theorem se_set {K : PySem.W.Frag} {te : TE} {i : Nat} (k : SE K W te re) (hM : M.contains i = false) : SS K W M (tAsg te (gName i)) (rSet i re) := by
  intro w σ ρ E F D st h hf
  refine k _ w σ ρ E _ _ (Nat.lt_succ_self _) st h (fun d ρ' w' v q e r => ?_) hf.sx
  have es := e.s (M := M) (Nat.lt_succ_self _)
  by_cases hi : i < ρ'.length
  · exact hf.nx _ (w'.ren (tempTo ρ'.length i)) _ (nf_of q) (es.trans (store_end e.st (by rw [e.len]; exact r) hi hM))
  · show D.nx (σ.set i (some v)) w'.H
    rw [set_out _ (by rw [e.st.len]; exact hi)]
    have q : F.nx (ρ'.set i (some d)) := nf_of q
    rw [set_out _ hi] at q
    exact hf.nx _ _ _ q es
theorem se_setF {K : PySem.W.Frag} {te : TE} {i : Nat} (k : SE K W te re) (hM : M.contains i = false) : SS K W M (tAsg te (gName i)) (rSetF i re) := by
  intro w σ ρ E F D st h hf
  refine k _ w σ ρ E _ _ (Nat.lt_succ_self _) st h (fun d ρ' w' v q e r => ?_) hf.sx
  have es := e.s (M := M) (Nat.lt_succ_self _)
  by_cases hi : i < ρ'.length
  · obtain ⟨e2, r2⟩ := ice_temp e.st (by rw [e.len]; exact r)
    exact hf.nx _ ((w'.ice _).ren (tempTo ρ'.length i)) _ (nf_of q) ((es.trans (e2.s (Nat.lt_succ_self _))).trans (store_end e2.st (r2 _) hi hM))
  · show D.nx (σ.set i (some v)) w'.H
    rw [set_out _ (by rw [e.st.len]; exact hi)]
    have q : F.nx (ρ'.set i (some d.frz)) := nf_of q
    rw [set_out _ hi] at q
    exact hf.nx _ _ _ q es
theorem fs_set (i : Nat) {x : Str} (he : FE X W e re) (hN : X.N.Nodup) (hi : X.N[i]? = some x := by rfl) (hx : L2.Loc X.env.scope x := by first | exact .inl rfl | exact .inr rfl) (hM : M.contains i = false := by rfl) (hs : swapsWith e (some (.Name x pos')) pos.line X.env = pure false := by rfl) (hf : X.fn x = true ∨ X.env.scope.names.lookup x = some .local := by first | exact .inl rfl | exact .inr rfl) : FS X W M (.Assign [.Name x pos'] e pos) (rSet i re) := by
  obtain ⟨t, p, k⟩ := he.ex
  exact ⟨_, ps_set hN hi hx p hs hf, se_set k hM⟩
theorem fs_setF (i : Nat) {x : Str} (he : FE X W e re) (hN : X.N.Nodup) (hi : X.N[i]? = some x := by rfl) (hx : L2.Loc X.env.scope x := by first | exact .inl rfl | exact .inr rfl) (hM : M.contains i = false := by rfl) (hs : swapsWith e (some (.Name x pos')) pos.line X.env = pure false := by rfl) (hf : X.fn x = true ∨ X.env.scope.names.lookup x = some .local := by first | exact .inl rfl | exact .inr rfl) : FS X W M (.Assign [.Name x pos'] e pos) (rSetF i re) := by
  obtain ⟨t, p, k⟩ := he.ex
  exact ⟨_, ps_set hN hi hx p hs hf, se_setF k hM⟩
end
abbrev EF := Value → Option (List (Str × D)) → En → Prop
abbrev FSpec := List D → EF → (D → En → Prop) → Prop
/-- behind a call: m arguments at 1 .. m, those of M lent -/
structure EndF (K : PySem.W.Frag) (m : Nat) (M : List Nat) (w : Wd) (vs : List V) (os : En) (w' : Wd) : Prop where
  wf : Wf w'
  s : Same w.S w'.S
  f : ∀ a ℓ, w.G a = some (0 :: ℓ) → w'.G a = some (0 :: ℓ) ∧ w'.H a = w.H a
  args : ∀ j, M.contains j = true → ∀ d v, os[j]? = some (some d) → vs[j]? = some v → Rep K w' d [j + 1] v
def FnD (K : PySem.W.Frag) (m : Nat) (M : List Nat) (r : FSpec) : Sp := fun vs H Q E => vs.length = m ∧ ∃ (w : Wd) (ds : List D) (ED : EF) (QD : D → En → Prop), w.H = H ∧ Wf w ∧ ds.length = m ∧
  (∀ j d v, ds[j]? = some d → vs[j]? = some v → Rep K w d [j + 1] v) ∧ r ds ED QD ∧
  (∀ d os w' v, QD d os → EndF K m M w vs os w' → Rep K w' d [m + 1] v → Q v w'.H) ∧ (∀ c fs os w' x, ED c fs os → EndF K m M w vs os w' → XRepr K w' x fs → E c x w'.H)
/-- the names at a def's entry -/
def startD (N : List Str) (ds : List D) : En := ds.map some ++ List.replicate (N.length - ds.length) none
/-- a def's ends -/
def finD (m : Nat) (Q : D → En → Prop) : Fin := { nx := fun ρ => Q .non (ρ.take m), rt := fun d ρ => Q d (ρ.take m) }
/-- out of the def: its names are forgotten, what is handed back stands at m + 1 -/
def leaveTo (n m : Nat) : Loc → Option Loc
  | h :: s => if h ≤ m then some (h :: s) else if h = n + 1 then some ((m + 1) :: s) else none
  | [] => none
section
variable {P : Program} {w : World} {K : PySem.W.Frag} {mg : Str → Option Value} {base : Heap}
theorem leave_end {m : Nat} {M : List Nat} {w0 w' : Wd} {σ σ' : Sl} {ρ ρ' : En} {vs : List V} (hm : m ≤ ρ.length) (e : EndS K M w0 σ ρ w' σ' ρ') (hv : ∀ j, j < m → σ[j]? = (vs[j]?).map some) (hM : ∀ j, M.contains j = true → j < m) :
    EndF K m M w0 vs (ρ'.take m) (w'.ren (leaveTo ρ.length m)) := by
  refine ⟨e.st.wf.ren _, e.ext.s, fun a ℓ h => ?_, fun j hj d v h1 h2 => ?_⟩
  · obtain ⟨k1, k2⟩ := e.ext.f a _ h ⟨0, ℓ, rfl, .inl rfl⟩
    refine ⟨ren_at k1 ?_, k2⟩
    exact if_pos (e := if 0 = ρ.length + 1 then some ((m + 1) :: ℓ) else none) (Nat.zero_le m)
  · have hjm := hM j hj
    rw [List.getElem?_take_of_lt hjm] at h1
    obtain ⟨v', e1, r⟩ := e.st.rep j d h1
    have k := e.km j (List.contains_iff_mem.mp hj)
    rw [hv j hjm, h2] at k
    rw [k] at e1; cases e1
    refine r.ren fun s => ?_
    show (if _ then _ else _) = _
    rw [if_pos (by omega)]; rfl
theorem fl_fn {x qual : Str} {st : Stmt} {f : Addr} {fd : FuncData} {N ps : List Str} {k : Nat} {M : List Nat} {r : FSpec} {rb : RS} (F : Fun K x qual st f fd) (S : FnScope N ps (defScope st))
    (hMb : (M.all fun j => decide (j < ps.length)) = true)
    (hb : ∀ (cdv : Value) (A : Around) (outer : List Env) (s : Shared) (H : Hp) (E : XK), Room k (A.deeper (envOfC qual (defScope st) s.heap.objs.size f cdv)) →
      FSs (cxOf (L2.CX P w) P w K mg base N qual (defScope st) f cdv A outer s H E) (fun c d _ H' => E c d H') M (defBody st) rb)
    (hr : ∀ ds ED QD, ds.length = ps.length → r ds ED QD → rb (startD N ds) (fun c fs ρ => ED c fs (ρ.take ps.length)) (finD ps.length QD)) :
    FnOk P w K mg base (L2.CX P w) (k + 1) f fd ps (FnD K ps.length M r) := by
  have hM : ∀ j, M.contains j = true → j < ps.length := fun j hj => of_decide_eq_true (List.all_eq_true.mp hMb j (List.contains_iff_mem.mp hj))
  refine F.okX S (fun vs H Q E h => h.1) fun cdv A outer s H vs Q E hroom h => ?_
  obtain ⟨hl, w0, ds, ED, QD, rfl, wf, hd, hrep, hspec, hq, hx⟩ := h
  obtain ⟨t, p, kk⟩ := (hb cdv A outer s w0.H E hroom).ex
  have hNl : ps.length ≤ N.length := by have := congrArg List.length S.pre; rw [List.length_take] at this; omega
  have hlen : (startD N ds).length = N.length := by
    unfold startD
    rw [List.length_append, List.length_map, List.length_replicate]; omega
  have hslen : (L2.start N vs).length = N.length := by
    unfold L2.start
    rw [List.length_append, List.length_map, List.length_replicate]; omega
  have hv : ∀ j, j < ps.length → (L2.start N vs)[j]? = (vs[j]?).map some := fun j hj => by
    unfold L2.start
    rw [List.getElem?_append_left (by rw [List.length_map]; omega), List.getElem?_map]
  have s0 : StE K w0 (L2.start N vs) (startD N ds) := ⟨wf, by rw [hlen, hslen], fun i d e => by
    by_cases hi : i < ds.length
    · unfold startD at e
      rw [List.getElem?_append_left (by rw [List.length_map]; exact hi), List.getElem?_map] at e
      have hi' : i < vs.length := by omega
      refine ⟨vs[i], ?_, ?_⟩
      · rw [hv i (by omega), List.getElem?_eq_getElem hi']; rfl
      · refine hrep i d _ ?_ (List.getElem?_eq_getElem hi')
        rw [List.getElem?_eq_getElem hi] at e ⊢
        exact Option.some.inj e
    · unfold startD at e
      rw [List.getElem?_append_right (by rw [List.length_map]; omega), List.getElem?_replicate] at e
      split at e <;> cases e⟩
  have hm : ps.length ≤ (startD N ds).length := by rw [hlen]; exact hNl
  refine ⟨t, p, kk w0 (L2.start N vs) (startD N ds) _ _ _ s0 (hr ds ED QD hd hspec) ⟨fun ρ' w' σ' h e => ?_, fun d ρ' w' σ' v h e r => ?_, fun ρ' w' σ' h e => h, fun ρ' w' σ' h e => h, fun c fs ρ' w' σ' x h e r => ?_⟩⟩
  · exact hq .non _ (w'.ren _) .non h (leave_end hm e hv hM) rfl
  · refine hq d _ (w'.ren _) v h (leave_end hm e hv hM) (r.ren fun s => ?_)
    show (if _ then _ else _) = _
    rw [if_neg (by omega), if_pos rfl]; rfl
  · refine hx c fs _ (w'.ren _) x h (leave_end hm e hv hM) ?_
    cases x with
    | none => cases fs <;> exact r
    | some a =>
      cases fs with
      | none => exact r
      | some fs =>
        obtain ⟨us, h1, h2, h3, h4⟩ := r
        exact ⟨us, h1, h2, h3, RepL.free (w := w') (w' := w'.ren (leaveTo (startD N ds).length ps.length)) (Same.refl _) _ h3 h4⟩
end
/-- the arguments as the def gets them: those of M as they are, the others frozen -/
def argDs (M : List Nat) : Nat → List AD → En → Option (List D × En)
  | _, [], ρ => some ([], ρ)
  | j, .val d :: r, ρ => match argDs M (j + 1) r ρ with
    | some (ds, ρ') => some ((match M.contains j with | true => d | false => d.frz) :: ds, ρ')
    | none => none
  | j, .brw i :: r, ρ => match ρ[i]? with
    | some (some d) => match M.contains j with
      | true => match argDs M (j + 1) r ρ with
        | some (ds, ρ') => some (d :: ds, ρ')
        | none => none
      | false => match argDs M (j + 1) r (ρ.set i (some d.frz)) with
        | some (ds, ρ') => some (d.frz :: ds, ρ')
        | none => none
    | _ => none
/-- the names lent for good (M) -/
def lends (M : List Nat) : Nat → List AD → List (Nat × Nat)
  | _, [] => []
  | j, .val _ :: r => lends M (j + 1) r
  | j, .brw i :: r => match M.contains j with
    | true => (i, j) :: lends M (j + 1) r
    | false => lends M (j + 1) r
/-- names lent that are frozen from then on -/
def ices (M : List Nat) : Nat → List AD → List Nat
  | _, [] => []
  | j, .val _ :: r => ices M (j + 1) r
  | j, .brw i :: r => match M.contains j with
    | true => ices M (j + 1) r
    | false => i :: ices M (j + 1) r
def apart : List (Nat × Nat) → List Nat → Bool
  | [], _ => true
  | (i, _) :: r, l => !l.contains i && !(r.any fun p => p.1 == i) && apart r l
def oGet (os : En) (j : Nat) : Option D := match os[j]? with
  | some o => o
  | none => none
def putBack : List (Nat × Nat) → En → En → En
  | [], _, ρ => ρ
  | (i, j) :: r, os, ρ => putBack r os (ρ.set i (oGet os j))
def rCall (M : List Nat) (r : FSpec) (ra : RA) : RE := fun ρ E Q => ra ρ E fun ads ρ1 => match argDs M 0 ads ρ1 with
  | some (ds, ρ2) => match apart (lends M 0 ads) (ices M 0 ads) with
    | true => r ds (fun c fs os => E c fs (putBack (lends M 0 ads) os ρ2)) (fun d os => nf (putBack (lends M 0 ads) os ρ2) (Q d))
    | false => False
  | none => False
end FL
namespace FL
open PySem PySem.Spec PyProof.Rows L2
/-- into the def -/
def inLoc (M : List Nat) (τ : Nat) (ads : List AD) : Loc → Option Loc
  | h :: s => if τ ≤ h then (if M.contains (h - τ) then some ((h - τ + 1) :: s) else none) else match h with
    | 0 => some (0 :: h :: s)
    | i + 1 => match (lends M 0 ads).lookup i with
      | some j => some ((j + 1) :: s)
      | none => some (0 :: h :: s)
  | [] => some [0]
/-- and back -/
def outLoc (M : List Nat) (τ m : Nat) (ads : List AD) : Loc → Option Loc
  | 0 :: s => some s
  | (j + 1) :: s => if j = m then some (τ :: s) else match ((lends M 0 ads).map fun p => (p.2, p.1)).lookup j with
    | some i => some ((i + 1) :: s)
    | none => none
  | [] => none
theorem lends_mem {M : List Nat} : ∀ {ads : List AD} {j i k : Nat}, (i, k) ∈ lends M j ads → ∃ q, k = j + q ∧ ads[q]? = some (.brw i) ∧ M.contains k = true
  | [], _, _, _, h => by simp [lends] at h
  | .val d :: r, j, i, k, h => by
    simp only [lends] at h
    obtain ⟨q, e, e2, e3⟩ := lends_mem h
    exact ⟨q + 1, by omega, by simpa using e2, e3⟩
  | .brw i' :: r, j, i, k, h => by
    simp only [lends] at h
    split at h
    · rename_i hc
      rcases List.mem_cons.mp h with e | h
      · cases e
        exact ⟨0, rfl, rfl, hc⟩
      · obtain ⟨q, e, e2, e3⟩ := lends_mem h
        exact ⟨q + 1, by omega, by simpa using e2, e3⟩
    · obtain ⟨q, e, e2, e3⟩ := lends_mem h
      exact ⟨q + 1, by omega, by simpa using e2, e3⟩
theorem apart_get : ∀ {l : List (Nat × Nat)} {c : List Nat}, apart l c = true → (∀ p ∈ l, p.1 ∉ c) ∧ l.Pairwise (fun p q => p.1 ≠ q.1)
  | [], _, _ => ⟨(fun _ h => nomatch h), .nil⟩
  | (i, j) :: r, c, h => by
    simp only [apart, Bool.and_eq_true, Bool.not_eq_true', List.any_eq_false, beq_iff_eq] at h
    obtain ⟨⟨h1, h2⟩, h3⟩ := h
    obtain ⟨g1, g2⟩ := apart_get h3
    refine ⟨fun p hp => ?_, .cons (fun q hq e => h2 q hq e.symm) g2⟩
    rcases List.mem_cons.mp hp with rfl | hp
    · intro hm
      rw [List.contains_iff_mem.mpr hm] at h1; cases h1
    · exact g1 p hp
theorem lookup_of_mem {l : List (Nat × Nat)} (h : l.Pairwise fun p q => p.1 ≠ q.1) {i j : Nat} (hm : (i, j) ∈ l) : l.lookup i = some j := by
  induction l with
  | nil => cases hm
  | cons p r ih =>
    obtain ⟨a, b⟩ := p
    rw [List.lookup_cons]
    rcases List.mem_cons.mp hm with e | hm
    · cases e; simp
    · have : a ≠ i := fun z => by
        have := (List.pairwise_cons.mp h).1 _ hm
        exact this z
      rw [show (i == a) = false by simp; omega]
      exact ih (List.pairwise_cons.mp h).2 hm
theorem lookup_some {l : List (Nat × Nat)} {i j : Nat} (h : l.lookup i = some j) : (i, j) ∈ l := by
  induction l with
  | nil => cases h
  | cons p r ih =>
    obtain ⟨a, b⟩ := p
    rw [List.lookup_cons] at h
    cases q : (i == a) with
    | true =>
      rw [q] at h
      have : i = a := by simpa using q
      subst this
      cases h
      exact List.mem_cons_self
    | false =>
      rw [q] at h
      exact List.mem_cons_of_mem _ (ih h)
theorem lends_snd {M : List Nat} : ∀ (ads : List AD) (j : Nat), (lends M j ads).Pairwise (fun p q => p.2 < q.2) ∧ ∀ p ∈ lends M j ads, j ≤ p.2
  | [], _ => ⟨.nil, fun _ h => nomatch h⟩
  | .val d :: r, j => by
    obtain ⟨h1, h2⟩ := lends_snd r (j + 1)
    simp only [lends]
    exact ⟨h1, fun p hp => by have := h2 p hp; omega⟩
  | .brw i :: r, j => by
    obtain ⟨h1, h2⟩ := lends_snd r (j + 1)
    simp only [lends]
    split
    · refine ⟨.cons (fun q hq => ?_) h1, fun p hp => ?_⟩
      · have := h2 q hq
        show j < q.2
        omega
      · rcases List.mem_cons.mp hp with rfl | hp
        · exact Nat.le_refl _
        · have := h2 p hp; omega
    · exact ⟨h1, fun p hp => by have := h2 p hp; omega⟩
theorem lends_back {M : List Nat} {ads : List AD} {i j : Nat} (h : (i, j) ∈ lends M 0 ads) : ((lends M 0 ads).map fun p => (p.2, p.1)).lookup j = some i := by
  refine lookup_of_mem ?_ (List.mem_map.mpr ⟨(i, j), h, rfl⟩)
  rw [List.pairwise_map]
  exact (lends_snd ads 0).1.imp fun h => by show _ ≠ _; omega
theorem putBack_len : ∀ (l : List (Nat × Nat)) (os ρ : En), (putBack l os ρ).length = ρ.length
  | [], _, _ => rfl
  | (i, j) :: r, os, ρ => by
    unfold putBack
    rw [putBack_len r, List.length_set]
theorem putBack_other : ∀ {l : List (Nat × Nat)} {os ρ : En} {k : Nat}, (∀ p ∈ l, p.1 ≠ k) → (putBack l os ρ)[k]? = ρ[k]?
  | [], _, _, _, _ => rfl
  | (i, j) :: r, os, ρ, k, h => by
    unfold putBack
    rw [putBack_other fun p hp => h p (List.mem_cons_of_mem _ hp), List.getElem?_set_ne (h (i, j) List.mem_cons_self)]
theorem putBack_at : ∀ {l : List (Nat × Nat)} {os ρ : En} {i j : Nat}, (l.Pairwise fun p q => p.1 ≠ q.1) → (i, j) ∈ l → i < ρ.length → (putBack l os ρ)[i]? = some (oGet os j)
  | [], _, _, _, _, _, h, _ => nomatch h
  | (a, b) :: r, os, ρ, i, j, hp, h, hi => by
    unfold putBack
    rcases List.mem_cons.mp h with e | h
    · cases e
      rw [putBack_other fun p hq e => (List.pairwise_cons.mp hp).1 p hq e.symm, List.getElem?_set_self hi]
    · exact putBack_at (List.pairwise_cons.mp hp).2 h (by rw [List.length_set]; exact hi)
/-- what is frozen at a call: the values that are not lent, the names lent to what is not M -/
def iceP (M : List Nat) (τ : Nat) (ads : List AD) : Loc → Bool
  | h :: _ => if τ ≤ h then !M.contains (h - τ) else match h with
    | 0 => false
    | i + 1 => (ices M 0 ads).contains i
  | [] => false
def ArgSpec (M : List Nat) (ic : List Nat) (ρ : En) (k : Nat) (d : D) : AD → Prop
  | .val d0 => d = (match M.contains k with | true => d0 | false => d0.frz)
  | .brw i => (M.contains k = true ∧ ic.contains i = false → ρ[i]? = some (some d)) ∧ (M.contains k = false → ic.contains i = true ∧ ∃ d0, ρ[i]? = some (some d0) ∧ d = d0.frz)
theorem argDs_spec {M : List Nat} : ∀ {ads : List AD} {j : Nat} {ρ ρ' : En} {ds : List D}, argDs M j ads ρ = some (ds, ρ') → ds.length = ads.length ∧ ρ'.length = ρ.length ∧
    (∀ k, (ices M j ads).contains k = false → ρ'[k]? = ρ[k]?) ∧ (∀ k d, (ices M j ads).contains k = true → ρ'[k]? = some (some d) → ∃ d0, ρ[k]? = some (some d0) ∧ d = d0.frz) ∧
    (∀ (q : Nat) (d : D), ds[q]? = some d → ∃ a, ads[q]? = some a ∧ ArgSpec M (ices M j ads) ρ (j + q) d a)
  | [], j, ρ, ρ', ds, h => by
    simp only [argDs] at h
    cases h
    exact ⟨rfl, rfl, fun _ _ => rfl, fun k d hk _ => by simp [ices] at hk, fun q d e => by simp at e⟩
  | .val d0 :: r, j, ρ, ρ', ds, h => by
    simp only [argDs] at h
    split at h
    · rename_i ds' ρ1 e1
      cases h
      obtain ⟨h1, h2, h3, h4, h5⟩ := argDs_spec e1
      refine ⟨by simp [h1], h2, h3, h4, fun q d e => ?_⟩
      cases q with
      | zero => cases e; exact ⟨_, rfl, rfl⟩
      | succ q =>
        obtain ⟨a, e2, g⟩ := h5 q d (by simpa using e)
        refine ⟨a, by simpa using e2, ?_⟩
        rw [show j + (q + 1) = j + 1 + q by omega]
        exact g
    · cases h
  | .brw i :: r, j, ρ, ρ', ds, h => by
    simp only [argDs] at h
    split at h
    · rename_i d0 e0
      split at h
      · rename_i hc
        split at h
        · rename_i ds' ρ1 e1
          cases h
          obtain ⟨h1, h2, h3, h4, h5⟩ := argDs_spec e1
          have ei : ices M j (.brw i :: r) = ices M (j + 1) r := by simp only [ices]; rw [hc]
          rw [ei]
          refine ⟨by simp [h1], h2, h3, h4, fun q d e => ?_⟩
          cases q with
          | zero =>
            cases e
            refine ⟨_, rfl, fun _ => e0, fun z => ?_⟩
            rw [show j + 0 = j by omega, hc] at z; cases z
          | succ q =>
            obtain ⟨a, e2, g⟩ := h5 q d (by simpa using e)
            refine ⟨a, by simpa using e2, ?_⟩
            rw [show j + (q + 1) = j + 1 + q by omega]
            exact g
        · cases h
      · rename_i hc
        split at h
        · rename_i ds' ρ1 e1
          cases h
          obtain ⟨h1, h2, h3, h4, h5⟩ := argDs_spec e1
          have ei : ices M j (.brw i :: r) = i :: ices M (j + 1) r := by simp only [ices]; rw [hc]
          have hi := (List.getElem?_eq_some_iff.mp e0).1
          rw [ei]
          have old : ∀ k d, (ρ.set i (some d0.frz))[k]? = some (some d) → ∃ d1, ρ[k]? = some (some d1) ∧ (d = d1 ∧ k ≠ i ∨ d = d1.frz ∧ k = i) := fun k d e => by
            by_cases hk : k = i
            · subst hk
              rw [List.getElem?_set_self hi] at e
              cases e
              exact ⟨d0, e0, .inr ⟨rfl, rfl⟩⟩
            · rw [List.getElem?_set_ne (Ne.symm hk)] at e
              exact ⟨d, e, .inl ⟨rfl, hk⟩⟩
          have ff : ∀ d : D, d.frz.frz = d.frz := fun d => frz_id _ (frz_own d)
          refine ⟨by simp [h1], by rw [h2, List.length_set], fun k hk => ?_, fun k d hk e => ?_, fun q d e => ?_⟩
          · simp only [List.contains_cons, Bool.or_eq_false_iff, beq_eq_false_iff_ne] at hk
            rw [h3 k hk.2, List.getElem?_set_ne (Ne.symm hk.1)]
          · by_cases hk2 : (ices M (j + 1) r).contains k = true
            · obtain ⟨d1, e3, e4⟩ := h4 k d hk2 e
              obtain ⟨d2, e5, e6⟩ := old k d1 e3
              refine ⟨d2, e5, ?_⟩
              rcases e6 with ⟨rfl, _⟩ | ⟨rfl, _⟩
              · exact e4
              · rw [e4, ff]
            · rw [h3 k (by simpa using hk2)] at e
              obtain ⟨d2, e5, e6⟩ := old k d e
              refine ⟨d2, e5, ?_⟩
              rcases e6 with ⟨rfl, hne⟩ | ⟨rfl, _⟩
              · simp only [List.contains_cons, Bool.or_eq_true, beq_iff_eq] at hk
                rcases hk with z | z
                · exact absurd z hne
                · exact absurd z hk2
              · rfl
          · cases q with
            | zero =>
              cases e
              refine ⟨_, rfl, fun z => ?_, fun _ => ⟨by simp, d0, e0, rfl⟩⟩
              rw [show j + 0 = j by omega, hc] at z; cases z.1
            | succ q =>
              obtain ⟨a, e2, g⟩ := h5 q d (by simpa using e)
              refine ⟨a, by simpa using e2, ?_⟩
              rw [show j + (q + 1) = j + 1 + q by omega]
              cases a with
              | val d1 => exact g
              | brw i2 =>
                refine ⟨fun z => ?_, fun z => ?_⟩
                · have z2 := z.2
                  simp only [List.contains_cons, Bool.or_eq_false_iff, beq_eq_false_iff_ne] at z2
                  have := g.1 ⟨z.1, z2.2⟩
                  rw [List.getElem?_set_ne (Ne.symm z2.1)] at this
                  exact this
                · obtain ⟨g1, d1, e3, e4⟩ := g.2 z
                  obtain ⟨d2, e5, e6⟩ := old i2 d1 e3
                  refine ⟨by simp only [List.contains_cons, g1, Bool.or_true], d2, e5, ?_⟩
                  rcases e6 with ⟨rfl, _⟩ | ⟨rfl, _⟩
                  · exact e4
                  · rw [e4, ff]
        · cases h
    · cases h
theorem argsAt_get {K : PySem.W.Frag} {w : Wd} {σ : Sl} : ∀ {ads : List AD} {τ : Nat} {vs : List V}, ArgsAt K w σ ads τ vs → vs.length = ads.length ∧ ∀ i a v, ads[i]? = some a → vs[i]? = some v → AdAt K w σ a (τ + i) v
  | [], _, _, h => by simp only [ArgsAt] at h; subst h; simp
  | a :: r, τ, vs, h => by
    obtain ⟨v, us, rfl, h1, h2⟩ : ∃ v us, vs = v :: us ∧ AdAt K w σ a τ v ∧ ArgsAt K w σ r (τ + 1) us := by
      cases a with
      | val d => exact h
      | brw i => exact h
    obtain ⟨l, g⟩ := argsAt_get h2
    refine ⟨by simpa using l, fun i a' v' e1 e2 => ?_⟩
    cases i with
    | zero => cases e1; cases e2; exact h1
    | succ i =>
      have := g i a' v' (by simpa using e1) (by simpa using e2)
      rw [show τ + 1 + i = τ + (i + 1) by omega] at this
      exact this
section
variable {X : Cx} {W : WX}
theorem call_sound {m τ : Nat} {M : List Nat} {r : FSpec} {w : Wd} {σ : Sl} {ρ : En} {E : EE} {Q : D → En → Prop} {Qv : VK} {ads : List AD} {vs : List V} (hn : ρ.length < τ) (st : StE X.K w σ ρ) (hl : ads.length = m) (ha : ArgsAt X.K w σ ads τ vs)
    (h : match argDs M 0 ads ρ with
      | some (ds, ρ2) => match apart (lends M 0 ads) (ices M 0 ads) with
        | true => r ds (fun c fs os => E c fs (putBack (lends M 0 ads) os ρ2)) (fun d os => nf (putBack (lends M 0 ads) os ρ2) (Q d))
        | false => False
      | none => False)
    (hq : ∀ d ρ' w' v, Q d ρ' → EndE X.K τ w σ ρ ρ' w' → Rep X.K w' d [τ] v → Qv v w'.H) (hx : SX X.K W τ w σ ρ E) : FnD X.K m M r vs w.H Qv (WE W σ) := by
  split at h
  · rename_i ds ρ2 eds
    split at h
    · rename_i eap
      obtain ⟨l1, l2, a3, a4, a5⟩ := argDs_spec eds
      obtain ⟨lv, av⟩ := argsAt_get ha
      obtain ⟨p1, p2⟩ := apart_get eap
      have hP : ∀ i, i < ρ.length → ∀ s, iceP M τ ads ((i + 1) :: s) = (ices M 0 ads).contains i := fun i hi s => by
        show (if τ ≤ i + 1 then _ else _) = _
        rw [if_neg (by omega)]
      have inO : ∀ i s, i < ρ.length → (∀ p ∈ lends M 0 ads, p.1 ≠ i) → inLoc M τ ads ((i + 1) :: s) = some (0 :: (i + 1) :: s) := fun i s hi hne => by
        show (if τ ≤ i + 1 then _ else _) = _
        rw [if_neg (by omega)]
        show (match (lends M 0 ads).lookup i with | some j => some ((j + 1) :: s) | none => some (0 :: (i + 1) :: s)) = _
        cases q : (lends M 0 ads).lookup i with
        | none => rfl
        | some j => exact absurd rfl (hne _ (lookup_some q))
      have inL : ∀ i j s, i < ρ.length → (i, j) ∈ lends M 0 ads → inLoc M τ ads ((i + 1) :: s) = some ((j + 1) :: s) := fun i j s hi hm => by
        show (if τ ≤ i + 1 then _ else _) = _
        rw [if_neg (by omega)]
        show (match (lends M 0 ads).lookup i with | some j => some ((j + 1) :: s) | none => some (0 :: (i + 1) :: s)) = _
        rw [lookup_of_mem p2 hm]
      -- the world in the def
      refine ⟨lv.trans hl, (w.ice (iceP M τ ads)).ren (inLoc M τ ads), ds, _, _, rfl, st.wf.ice.ren _, l1.trans hl, fun j d v e1 e2 => ?_, h, fun d os w' v hQ eF rv => ?_, fun c fs os w' x hE eF rx => ?_⟩
      · -- the arguments
        obtain ⟨a, ea, g⟩ := a5 j d e1
        have at1 := av j a v ea e2
        rw [Nat.zero_add] at g
        cases a with
        | val d0 =>
          have at1 : Rep X.K w d0 [τ + j] v := at1
          have g : d = (match M.contains j with | true => d0 | false => d0.frz) := g
          cases hc : M.contains j with
          | true =>
            rw [hc] at g
            have g : d = d0 := g
            subst g
            refine Rep.ren (Rep.to (w' := w.ice (iceP M τ ads)) (ice_same st.wf) d (ice_kept fun s => ?_) at1) fun s => ?_
            · show (if τ ≤ τ + j then !M.contains (τ + j - τ) else _) = false
              rw [if_pos (by omega), show τ + j - τ = j by omega, hc]; rfl
            · show (if τ ≤ τ + j then (if M.contains (τ + j - τ) then _ else _) else _) = _
              rw [if_pos (by omega), show τ + j - τ = j by omega, hc]; rfl
          | false =>
            rw [hc] at g
            have g : d = d0.frz := g
            subst g
            refine Rep.free (w := w.ice (iceP M τ ads)) (w' := (w.ice (iceP M τ ads)).ren (inLoc M τ ads)) (ℓ := [τ + j]) (Same.refl _) _ (frz_own d0) (Rep.frz (ice_same st.wf) d0 (ice_frz fun s => ?_) at1)
            show (if τ ≤ τ + j then !M.contains (τ + j - τ) else _) = true
            rw [if_pos (by omega), show τ + j - τ = j by omega, hc]; rfl
        | brw i =>
          have at1 : σ[i]? = some (some v) := at1
          cases hc : M.contains j with
          | true =>
            have hm : (i, j) ∈ lends M 0 ads := by
              have : ∀ (l : List AD) (b q : Nat), l[q]? = some (.brw i) → M.contains (b + q) = true → (i, b + q) ∈ lends M b l := by
                intro l
                induction l with
                | nil => intro b q e; simp at e
                | cons a l ih =>
                  intro b q e hcc
                  cases q with
                  | zero =>
                    cases e
                    simp only [lends]
                    rw [show b + 0 = b by omega] at hcc ⊢
                    rw [hcc]; exact List.mem_cons_self
                  | succ q =>
                    have z := ih (b + 1) q (by simpa using e) (by rw [show b + 1 + q = b + (q + 1) by omega]; exact hcc)
                    rw [show b + 1 + q = b + (q + 1) by omega] at z
                    cases a with
                    | val d => simp only [lends]; exact z
                    | brw i' =>
                      simp only [lends]
                      split
                      · exact List.mem_cons_of_mem _ z
                      · exact z
              have z := this ads 0 j ea (by simpa using hc)
              simpa using z
            have hni : (ices M 0 ads).contains i = false := by
              cases q : (ices M 0 ads).contains i with
              | false => rfl
              | true => exact absurd (List.contains_iff_mem.mp q) (p1 _ hm)
            have er := g.1 ⟨hc, hni⟩
            have hi := (List.getElem?_eq_some_iff.mp er).1
            obtain ⟨v', e3, r3⟩ := st.rep i d er
            rw [at1] at e3; cases e3
            refine Rep.ren (Rep.to (w' := w.ice (iceP M τ ads)) (ice_same st.wf) d (ice_kept fun s => ?_) r3) fun s => ?_
            · exact (hP i hi s).trans hni
            · exact inL i j s hi hm
          | false =>
            obtain ⟨hi1, d0, er, ed⟩ := g.2 hc
            subst ed
            have hi := (List.getElem?_eq_some_iff.mp er).1
            obtain ⟨v', e3, r3⟩ := st.rep i d0 er
            rw [at1] at e3; cases e3
            refine Rep.free (w := w.ice (iceP M τ ads)) (w' := (w.ice (iceP M τ ads)).ren (inLoc M τ ads)) (ℓ := [i + 1]) (Same.refl _) _ (frz_own d0) (Rep.frz (ice_same st.wf) d0 (ice_frz fun s => ?_) r3)
            exact (hP i hi s).trans hi1
      all_goals
        have key : EndE X.K τ w σ ρ (putBack (lends M 0 ads) os ρ2) (w'.ren (outLoc M τ m ads)) := by
          have back : ∀ a h s, w.G a = some (h :: s) → iceP M τ ads (h :: s) = false → inLoc M τ ads (h :: s) = some (0 :: h :: s) → (w'.ren (outLoc M τ m ads)).G a = some (h :: s) ∧ w'.H a = w.H a := fun a h s e1 e2 e3 => by
            have g1 : (w.ice (iceP M τ ads)).G a = some (h :: s) := by
              have := (ice_kept (w := w) (P := iceP M τ ads) (ℓ := h :: s) (fun t => by
                cases h with
                | zero => exact e2
                | succ h => exact e2) a [] (by simpa using e1)).1
              simpa using this
            obtain ⟨k1, k2⟩ := eF.f a (h :: s) (ren_at g1 e3)
            exact ⟨ren_at k1 rfl, k2⟩
          have hss : Same w.S w'.S := (ice_same st.wf).trans eF.s
          refine ⟨by rw [putBack_len, l2], ⟨eF.wf.ren _, by rw [putBack_len, l2]; exact st.len, fun i d' e => ?_⟩, ⟨hss, fun a ℓ e ⟨h, s, e2, k⟩ => ?_⟩⟩
          · by_cases hm : ∃ j, (i, j) ∈ lends M 0 ads
            · obtain ⟨j, hm⟩ := hm
              obtain ⟨q, e3, e4, e5⟩ := lends_mem hm
              rw [Nat.zero_add] at e3
              subst e3
              have hqa := (List.getElem?_eq_some_iff.mp e4).1
              have hv : vs[j]? = some (vs[j]'(by rw [lv]; exact hqa)) := List.getElem?_eq_getElem _
              have at1 : σ[i]? = some (some _) := av j (.brw i) _ e4 hv
              have hiσ := (List.getElem?_eq_some_iff.mp at1).1
              rw [putBack_at p2 hm (by rw [l2, ← st.len]; exact hiσ)] at e
              have e : oGet os j = some d' := Option.some.inj e
              unfold oGet at e
              cases hos : os[j]? with
              | none => rw [hos] at e; cases e
              | some o =>
                rw [hos] at e
                have e : o = some d' := e
                subst e
                refine ⟨_, at1, (eF.args j e5 d' _ hos hv).ren fun s => ?_⟩
                show (if j = m then _ else _) = _
                rw [if_neg (by omega)]
                show (match ((lends M 0 ads).map fun p => (p.2, p.1)).lookup j with | some i => some ((i + 1) :: s) | none => none) = _
                rw [lends_back hm]; rfl
            · have hne : ∀ p ∈ lends M 0 ads, p.1 ≠ i := fun p hp z => hm ⟨p.2, by rw [← z]; exact hp⟩
              rw [putBack_other hne] at e
              have hi : i < ρ.length := by rw [← l2]; exact (List.getElem?_eq_some_iff.mp e).1
              cases hic : (ices M 0 ads).contains i with
              | true =>
                obtain ⟨d0, er, ed⟩ := a4 i d' hic e
                subst ed
                obtain ⟨v', e3, r3⟩ := st.rep i d0 er
                refine ⟨v', e3, ?_⟩
                have r4 : Rep X.K (w.ice (iceP M τ ads)) d0.frz [i + 1] v' := Rep.frz (ice_same st.wf) d0 (ice_frz fun s => (hP i hi s).trans hic) r3
                exact Rep.free (w := w.ice (iceP M τ ads)) (w' := w'.ren (outLoc M τ m ads)) eF.s _ (frz_own d0) r4
              | false =>
                rw [a3 i hic] at e
                obtain ⟨v', e3, r3⟩ := st.rep i d' e
                exact ⟨v', e3, Rep.to (w' := w'.ren (outLoc M τ m ads)) hss d' (fun a s e6 => back a (i + 1) s e6 ((hP i hi s).trans hic) (inO i s hi hne)) r3⟩
          · subst e2
            refine back a h s e ?_ ?_
            · show (if τ ≤ h then _ else _) = false
              rw [if_neg (by omega)]
              cases h with
              | zero => rfl
              | succ i =>
                show (ices M 0 ads).contains i = false
                cases q : (ices M 0 ads).contains i with
                | false => rfl
                | true =>
                  exfalso
                  have mem : ∀ (l : List AD) (b : Nat), (ices M b l).contains i = true → ∃ q : Nat, l[q]? = some (AD.brw i) := by
                    intro l
                    induction l with
                    | nil => intro b h; simp [ices] at h
                    | cons a l ih =>
                      intro b h
                      cases a with
                      | val d => simp only [ices] at h; obtain ⟨q, e⟩ := ih (b + 1) h; exact ⟨q + 1, by simpa using e⟩
                      | brw i' =>
                        simp only [ices] at h
                        split at h
                        · obtain ⟨q, e⟩ := ih (b + 1) h; exact ⟨q + 1, by simpa using e⟩
                        · simp only [List.contains_cons, Bool.or_eq_true, beq_iff_eq] at h
                          rcases h with z | z
                          · exact ⟨0, by rw [z]; rfl⟩
                          · obtain ⟨q, e⟩ := ih (b + 1) z; exact ⟨q + 1, by simpa using e⟩
                  obtain ⟨qq, eq⟩ := mem ads 0 q
                  have hqa := (List.getElem?_eq_some_iff.mp eq).1
                  have at1 : σ[i]? = some (some _) := av qq (.brw i) _ eq (List.getElem?_eq_getElem (by rw [lv]; exact hqa))
                  have := (List.getElem?_eq_some_iff.mp at1).1
                  rw [st.len] at this
                  omega
            · show (if τ ≤ h then _ else _) = _
              rw [if_neg (by omega)]
              cases h with
              | zero => rfl
              | succ i =>
                show (match (lends M 0 ads).lookup i with | some j => some ((j + 1) :: s) | none => some (0 :: (i + 1) :: s)) = _
                cases q : (lends M 0 ads).lookup i with
                | none => rfl
                | some j =>
                  exfalso
                  obtain ⟨q2, e3, e4, e5⟩ := lends_mem (lookup_some q)
                  have hqa := (List.getElem?_eq_some_iff.mp e4).1
                  have at1 : σ[i]? = some (some _) := av q2 (.brw i) _ e4 (List.getElem?_eq_getElem (by rw [lv]; exact hqa))
                  have := (List.getElem?_eq_some_iff.mp at1).1
                  rw [st.len] at this
                  omega
      · refine hq d _ (w'.ren (outLoc M τ m ads)) v (nf_of hQ) key (rv.ren fun s => ?_)
        show (if m = m then _ else _) = _
        rw [if_pos rfl]; rfl
      · refine hx c fs _ (w'.ren (outLoc M τ m ads)) x hE key ?_
        cases x with
        | none => cases fs <;> exact rx
        | some a =>
          cases fs with
          | none => exact rx
          | some fs =>
            obtain ⟨us, h1, h2, h3, h4⟩ := rx
            exact ⟨us, h1, h2, h3, RepL.free (w := w') (w' := w'.ren (outLoc M τ m ads)) (Same.refl _) _ h3 h4⟩
    · exact h.elim
  · exact h.elim
variable {k : Nat} {f : Addr} {fd : FuncData} {ps : List Str} {M : List Nat} {r : FSpec} {x : Str} {p pos : Pos} {e : Expr} {es : List Expr} {ra : RA}
theorem fe_call {m : Nat} (tk : Takes X W) (F : FnOk X.prog X.w X.K X.mg X.base (L2.CX X.prog X.w) k f fd ps (FnD X.K m M r)) (hr : Room k X.A) (hm : X.mg x = some (.ref f)) (hk : PySem.W.keepIn X.K (.ref f) = true) (hb : Binds X.K fd ps [])
    (ha : FA X W (e :: es) ra) (hl : (e :: es).length = m := by rfl) (hg : Gl X x := by rfl) (hdb : (x == ("__debug__" : Str)) = false := by decide) (he : starEach (e :: es) X.env = (false, eval e X.env) :: starEach es X.env := by rfl) (hpl : (backTo pos (starEach es X.env)).any (·.1) = false := by rfl) :
    FE X W (.Call (.Name x p) (e :: es) [] pos) (rCall M r ra) := by
  obtain ⟨t, pa, sa⟩ := ha.ex
  refine ⟨_, pe_callS (E := WE W) F hr hg hm hk hb (fun σ => passAt tk σ) pa hdb he hpl, fun τ w σ ρ E Q Qv hn st h hq hx => ?_⟩
  refine sa τ w σ ρ E _ _ hn st h (fun ads ρ1 w1 vs h1 l1 e1 r1 => ?_) hx
  exact call_sound (by rw [e1.len]; exact hn) e1.st (l1.trans hl) r1 h1 (fun d ρ' w' v q e2 r2 => hq d ρ' w' v q (e1.trans e2 (Nat.le_refl _)) r2) (hx.then e1 (Nat.le_refl _))
end
end FL
namespace FL
open PySem PySem.Spec PyProof.Rows L2
def rWhile (rt : RT) (rb : RS) : RS := fun ρ E F => ∃ I : Nat → En → Prop, (∃ m, I m ρ) ∧ ∀ m ρ, I m ρ → rt ρ E fun b ρ1 =>
  (b = true → rb ρ1 E (F.lp fun ρ2 => ∃ m', m' < m ∧ I m' ρ2)) ∧ (b = false → F.nx ρ1)
section
variable {X : Cx} {W : WX} {M : List Nat} {pos : Pos}
theorem fs_while {c : Expr} {body : List Stmt} {rt : RT} {rb : RS} (hp : PassesOwn (model X.prog X.w) X.A X.env X.xe) (hc : FT X W c rt) (hb : FSs X W M body rb) : FS X W M (.While c body [] pos) (rWhile rt rb) := by
  obtain ⟨t, p, k⟩ := hc.ex
  obtain ⟨u, q, l⟩ := hb.ex
  refine ⟨_, ps_while hp p q, fun w σ ρ E F D st ⟨I, ⟨m0, i0⟩, turn⟩ hf => ?_⟩
  refine ⟨fun m σ' H' => ∃ ρ' w', w'.H = H' ∧ I m ρ' ∧ EndS X.K M w σ ρ w' σ' ρ', ⟨m0, ρ, w, rfl, i0, .refl st⟩, ?_⟩
  rintro m σ1 H1 ⟨ρ1, w1, rfl, i1, e1⟩
  refine k _ w1 σ1 ρ1 E _ _ (Nat.lt_succ_self _) e1.st (turn m ρ1 i1) (fun b ρ2 w2 h2 e2 => ?_) (hf.then e1).sx
  have e12 := e1.trans (e2.s (M := M) (Nat.lt_succ_self _))
  cases b with
  | true =>
    rw [if_pos rfl]
    refine ⟨fun σ' H' => ∃ m', m' < m ∧ ∃ ρ' w', w'.H = H' ∧ I m' ρ' ∧ EndS X.K M w σ ρ w' σ' ρ', fun σ' H' ⟨m', h1, h2⟩ => ⟨m', h1, h2⟩, ?_⟩
    refine l w2 σ1 ρ2 E _ _ e12.st (h2.1 rfl) ⟨fun ρ' w' σ' ⟨m', h1, h2⟩ e => ⟨m', h1, ρ', w', rfl, h2, e12.trans e⟩, (hf.then e12).rt, (hf.then e12).nx, fun ρ' w' σ' ⟨m', h1, h2⟩ e => ⟨m', h1, ρ', w', rfl, h2, e12.trans e⟩, (hf.then e12).ex⟩
  | false =>
    rw [if_neg Bool.false_ne_true]
    exact hf.nx ρ2 w2 σ1 (h2.2 rfl) e12
end
/-- a later world that only has more -/
def Grow (w w' : Wd) : Prop := Wf w' ∧ Same w.S w'.S ∧ (∀ ℓ, KeptTo w w' ℓ ℓ)
theorem Grow.refl {w : Wd} (h : Wf w) : Grow w w := ⟨h, Same.refl _, fun ℓ a s e => ⟨e, rfl⟩⟩
theorem Grow.end {K : PySem.W.Frag} {τ : Nat} {w w' : Wd} {σ : Sl} {ρ : En} (g : Grow w w') (st : StE K w σ ρ) : EndE K τ w σ ρ ρ w' :=
  ⟨rfl, st.to g.1 g.2.1 fun i _ => g.2.2 _, ⟨g.2.1, fun a ℓ e _ => by simpa using g.2.2 ℓ a [] (by simpa using e)⟩⟩
def ItOk (K : PySem.W.Frag) (J : It) (ds : List D) (w : Wd) : Prop := ∀ i w1, Wf w1 → Same w.S w1.S →
  (∀ d, ds[i]? = some d → J.go i w1.H ∧ ∀ x H', J.yld i w1.H x H' → ∃ w2, w2.H = H' ∧ Grow w1 w2 ∧ d.own = false ∧ ∀ ℓ, Rep K w2 d ℓ x) ∧ (i = ds.length → J.stop i w1.H)
abbrev RI := En → EE → (List D → En → Prop) → Prop
def SI (K : PySem.W.Frag) (W : WX) (wi : TI) (ri : RI) : Prop :=
  ∀ (τ : Nat) (w : Wd) (σ : Sl) (ρ : En) (E : EE) (Q : List D → En → Prop) (R : It → Hp → Prop), ρ.length < τ → StE K w σ ρ → ri ρ E Q →
    (∀ ds ρ' w' J, Q ds ρ' → ds.length ≤ sizeLine → EndE K τ w σ ρ ρ' w' → ItOk K J ds w' → R J w'.H) → SX K W τ w σ ρ E → wi σ w.H R
structure FI (X : Cx) (W : WX) (tg iter : Expr) (ri : RI) : Prop where
  ex : ∃ wi, PI X tg iter wi ∧ SI X.K W wi ri
abbrev RG := D → En → (En → Prop) → Prop
abbrev RGs := List D → En → (En → Prop) → Prop
/-- behind a store to names of A -/
structure EndG (K : PySem.W.Frag) (A : List Nat) (w : Wd) (σ : Sl) (ρ : En) (w' : Wd) (σ' : Sl) (ρ' : En) : Prop where
  len : ρ'.length = ρ.length
  st : StE K w' σ' ρ'
  ext : ∀ T, Ext ρ.length T w w'
  off : ∀ i, i ∉ A → σ'[i]? = σ[i]?
theorem EndG.refl {K : PySem.W.Frag} {A : List Nat} {w : Wd} {σ : Sl} {ρ : En} (h : StE K w σ ρ) : EndG K A w σ ρ w σ ρ := ⟨rfl, h, fun _ => .refl, fun _ _ => rfl⟩
theorem EndG.trans {K : PySem.W.Frag} {A : List Nat} {w w1 w2 : Wd} {σ σ1 σ2 : Sl} {ρ ρ1 ρ2 : En} (a : EndG K A w σ ρ w1 σ1 ρ1) (b : EndG K A w1 σ1 ρ1 w2 σ2 ρ2) : EndG K A w σ ρ w2 σ2 ρ2 :=
  ⟨b.len.trans a.len, b.st, fun T => (a.ext T).trans (by have := b.ext T; rw [a.len] at this; exact this), fun i hi => (b.off i hi).trans (a.off i hi)⟩
theorem EndG.s {K : PySem.W.Frag} {A M : List Nat} {w w1 : Wd} {σ σ1 : Sl} {ρ ρ1 : En} (a : EndG K A w σ ρ w1 σ1 ρ1) (h : (M.all fun i => !A.contains i) = true) : EndS K M w σ ρ w1 σ1 ρ1 :=
  ⟨a.len, a.st, a.ext _, fun i hi => a.off i fun hA => by
    have := List.all_eq_true.mp h i hi
    rw [List.contains_iff_mem.mpr hA] at this
    cases this⟩
def SG (K : PySem.W.Frag) (A : List Nat) (g : TG) (rg : RG) : Prop :=
  ∀ (w : Wd) (σ : Sl) (ρ : En) (d : D) (v : V) (Q : En → Prop) (Qg : Sl → Hp → Prop), d.own = false → (∀ ℓ, Rep K w d ℓ v) → StE K w σ ρ → rg d ρ Q →
    (∀ ρ' w' σ', Q ρ' → EndG K A w σ ρ w' σ' ρ' → Qg σ' w'.H) → g v σ w.H Qg
def SGs (K : PySem.W.Frag) (A : List Nat) (g : TGs) (rg : RGs) : Prop :=
  ∀ (w : Wd) (σ : Sl) (ρ : En) (ds : List D) (vs : List V) (Q : En → Prop) (Qg : Sl → Hp → Prop), ownL ds = false → (∀ ℓ j, RepL K w ds ℓ j vs) → StE K w σ ρ → rg ds ρ Q →
    (∀ ρ' w' σ', Q ρ' → EndG K A w σ ρ w' σ' ρ' → Qg σ' w'.H) → g vs σ w.H Qg
/-- a target that stores to names of A -/
structure FG (X : Cx) (A : List Nat) (tg : Expr) (rg : RG) : Prop where
  ex : ∃ g, PG X tg g ∧ SG X.K A g rg
structure FGs (X : Cx) (A : List Nat) (tgs : List Expr) (rg : RGs) : Prop where
  ex : ∃ g, PGs X tgs g ∧ SGs X.K A g rg
def gNm (i : Nat) : RG := fun d ρ Q => nf (ρ.set i (some d)) Q
def gTp (n : Nat) (rg : RGs) : RG := fun d ρ Q => match d with
  | .tup false ds => ds.length = n ∧ rg ds ρ Q
  | .ro true ds => ds.length = n ∧ rg ds ρ Q
  | .lst .ice ds => ds.length = n ∧ rg ds ρ Q
  | .ro false ds => ds.length = n ∧ rg ds ρ Q
  | _ => False
def gNl : RGs := fun ds ρ Q => match ds with
  | [] => Q ρ
  | _ => False
def gCs (r : RG) (rs : RGs) : RGs := fun ds ρ Q => match ds with
  | d :: ds => r d ρ fun ρ' => rs ds ρ' Q
  | [] => False
/-- slot i forgotten -/
def dropT (i : Nat) : Loc → Option Loc
  | h :: s => if h = i + 1 then none else some (h :: s)
  | [] => some []
theorem StE.putF {K : PySem.W.Frag} {w : Wd} {σ : Sl} {ρ : En} (st : StE K w σ ρ) (i : Nat) {d : D} {v : V} (ho : d.own = false) (r : ∀ ℓ, Rep K w d ℓ v) : StE K (w.ren (dropT i)) (σ.set i (some v)) (ρ.set i (some d)) := by
  refine ⟨st.wf.ren _, by rw [List.length_set, List.length_set]; exact st.len, fun j d' e => ?_⟩
  by_cases hj : j = i
  · subst hj
    have hl : j < ρ.length := by
      have := (List.getElem?_eq_some_iff.mp e).1
      simpa using this
    rw [List.getElem?_set_self hl] at e
    cases e
    exact ⟨v, List.getElem?_set_self (by rw [st.len]; exact hl), Rep.free (w := w) (w' := w.ren (dropT j)) (Same.refl _) d ho (r [])⟩
  · rw [List.getElem?_set_ne (Ne.symm hj)] at e ⊢
    obtain ⟨v', e1, r'⟩ := st.rep j d' e
    refine ⟨v', e1, r'.ren fun s => ?_⟩
    show (if _ then _ else _) = _
    rw [if_neg (by omega)]; rfl
section
variable {X : Cx} {A : List Nat} {pos : Pos}
theorem sg_name {K : PySem.W.Frag} {i : Nat} (hA : A.contains i = true) : SG K A (gName i) (gNm i) := by
  intro w σ ρ d v Q Qg ho hr st h hq
  by_cases hi : i < ρ.length
  · refine hq _ (w.ren (dropT i)) _ (nf_of h) ⟨by rw [List.length_set], st.putF i ho hr, fun T => ⟨Same.refl _, fun a ℓ e ⟨h, s, e2, k⟩ => ?_⟩, fun j hj => ?_⟩
    · subst e2
      refine ⟨ren_at e ?_, rfl⟩
      show (if _ then _ else _) = _
      rw [if_neg (by omega)]
    · have : j ≠ i := fun z => by
        subst z
        exact hj (List.contains_iff_mem.mp hA)
      exact List.getElem?_set_ne (Ne.symm this)
  · show Qg (σ.set i (some v)) w.H
    rw [set_out _ (by rw [st.len]; exact hi)]
    have h : Q (ρ.set i (some d)) := nf_of h
    rw [set_out _ hi] at h
    exact hq _ _ _ h (.refl st)
theorem fg_name (i : Nat) {x : Str} (hN : X.N.Nodup) (hi : X.N[i]? = some x := by rfl) (hx : L2.Loc X.env.scope x := by first | exact .inl rfl | exact .inr rfl) (hA : A.contains i = true := by rfl) (hf : X.fn x = true ∨ X.env.scope.names.lookup x = some .local := by first | exact .inl rfl | exact .inr rfl) : FG X A (.Name x pos) (gNm i) :=
  ⟨_, pg_name hN hi hx hf, sg_name hA⟩
theorem fgs_nil : FGs X A [] gNl := ⟨_, pgs_nil, fun w σ ρ ds vs Q Qg ho hr st h hq => by
  unfold gNl at h
  split at h
  · have := hr [] 0
    simp only [RepL] at this
    exact ⟨this, hq _ _ _ h (.refl st)⟩
  · exact h.elim⟩
theorem fgs_cons {e : Expr} {es : List Expr} {r : RG} {rs : RGs} (h : FG X A e r) (g : FGs X A es rs) (hs : (assignEach (e :: es) X.env).map (·.2) = assign e X.env :: (assignEach es X.env).map (·.2) := by rfl) : FGs X A (e :: es) (gCs r rs) := by
  obtain ⟨t, p, k⟩ := h.ex
  obtain ⟨u, q, l⟩ := g.ex
  refine ⟨_, pgs_cons p q hs, fun w σ ρ ds vs Q Qg ho hr st h hq => ?_⟩
  unfold gCs at h
  split at h
  · rename_i d ds'
    have r0 := hr [] 0
    simp only [RepL] at r0
    obtain ⟨v, us, rfl, _, _⟩ := r0
    simp only [ownL, Bool.or_eq_false_iff] at ho
    have rd : ∀ ℓ, Rep X.K w d ℓ v := fun ℓ => by
      have := hr [] 0
      simp only [RepL] at this
      obtain ⟨v', us', e, h1, _⟩ := this
      cases e
      exact h1.free (Same.refl _) d ho.1
    have rds : ∀ ℓ j, RepL X.K w ds' ℓ j us := fun ℓ j => by
      have := hr [] 0
      simp only [RepL] at this
      obtain ⟨v', us', e, _, h2⟩ := this
      cases e
      exact RepL.free (Same.refl _) ds' ho.2 h2
    refine ⟨v, us, rfl, k w σ ρ d v _ _ ho.1 rd st h fun ρ1 w1 σ1 h1 e1 => ?_⟩
    exact l w1 σ1 ρ1 ds' us _ _ ho.2 (fun ℓ j => RepL.free (w := w) (ℓ := ℓ) (j := j) (e1.ext 0).s ds' ho.2 (rds ℓ j)) e1.st h1 fun ρ2 w2 σ2 h2 e2 => hq ρ2 w2 σ2 h2 (e1.trans e2)
  · exact h.elim
theorem pg_or {tg : Expr} {g g' : TG} (h : PG X tg g) (k : PG X tg g') : PG X tg (fun v σ H Q => g v σ H Q ∨ g' v σ H Q) :=
  ⟨fun pins s σ H v u Q I r hw => hw.elim (fun z => h.run pins s σ H v u Q I r z) fun z => k.run pins s σ H v u Q I r z⟩
theorem fg_tup {es : List Expr} {k n : Nat} {rs : RGs} (h : FGs X A es rs) (hc : X.calm = true := by rfl) (hn : (assignEach es X.env).length = n := by rfl) (hst : (assignEach es X.env).findIdx? (·.1) = none := by rfl) : FG X A (.Tuple es k pos) (gTp n rs) := by
  obtain ⟨t, p, k⟩ := h.ex
  refine ⟨_, pg_or (pg_tup hc p hn hst) (pg_unl hc p hn hst), fun w σ ρ d v Q Qg ho hr st h hq => ?_⟩
  unfold gTp at h
  split at h
  · rename_i ds
    have hz := (tup_sz (hr [])).2 rfl
    obtain ⟨a, vs, rfl, h1, h2⟩ := tup_at st.wf (hr [])
    exact .inl ⟨a, vs, rfl, SqT.of h1, h2.length.trans h.1, k w σ ρ ds vs _ _ hz (fun ℓ j => h2.free (Same.refl _) ds hz) st h.2 hq⟩
  · rename_i ds
    have r := hr []
    simp only [Rep] at r
    obtain ⟨a, vs, rfl, h1, hz, h2⟩ := r
    exact .inl ⟨a, vs, rfl, same_rdT st.wf.sh h1, h2.length.trans h.1, k w σ ρ ds vs _ _ hz.2 (fun ℓ j => h2.free (Same.refl _) ds hz.2) st h.2 hq⟩
  · rename_i ds
    have hz := (lst_sz (hr [])).2 rfl
    obtain ⟨a, vs, rfl, h1, h2⟩ := lst_at st.wf (hr [])
    exact .inr ⟨a, vs, rfl, SqL.of h1, h2.length.trans h.1, k w σ ρ ds vs _ _ hz (fun ℓ j => h2.free (Same.refl _) ds hz) st h.2 hq⟩
  · rename_i ds
    have r := hr []
    simp only [Rep] at r
    obtain ⟨a, vs, rfl, h1, hz, h2⟩ := r
    exact .inr ⟨a, vs, rfl, st.wf.sh.seq h1, h2.length.trans h.1, k w σ ρ ds vs _ _ hz.2 (fun ℓ j => h2.free (Same.refl _) ds hz.2) st h.2 hq⟩
  · exact h.elim
end
def RgOk (lo hi : Int) : Prop := (-1000000 ≤ lo ∧ lo ≤ 1000000) ∧ (-1000000 ≤ hi ∧ hi ≤ 1000000)
def rgD (lo hi : Int) : List D := (List.range (hi - lo).toNat).map fun (i : Nat) => D.int (lo + (i : Int))
def rRg1 (ra : RA) : RI := fun ρ E Q => ra ρ E fun ads ρ' => onAds ρ' ads fun ds => match ds with
  | [.int n] => RgOk 0 n ∧ Q (rgD 0 n) ρ'
  | _ => False
theorem it_list {K : PySem.W.Frag} {w : Wd} {a : Addr} {vs : List V} {ds : List D} (h : SqL K w.S a vs) (ho : ownL ds = false) (r : ∀ ℓ, RepL K w ds ℓ 0 vs) : ItOk K (Itl K a) ds w := by
  intro i w1 wf1 sm
  have hq : SqL K w1.H a vs := wf1.sh.seq (sm.seq h)
  refine ⟨fun d e => ?_, fun hl => ⟨vs, hq, by rw [(r []).length, hl]; exact Nat.le_refl _⟩⟩
  obtain ⟨v, ev, rv⟩ := (r []).get e
  have ho' : d.own = false := ownL_iff.mp ho d (List.mem_of_getElem? e)
  refine ⟨⟨vs, v, hq, ev⟩, fun x H' y => ?_⟩
  obtain ⟨rfl, y⟩ := y
  have := y vs hq
  rw [ev] at this; cases this
  exact ⟨w1, rfl, .refl wf1, ho', fun ℓ => rv.free sm d ho'⟩
theorem it_tup {K : PySem.W.Frag} {w : Wd} {a : Addr} {vs : List V} {ds : List D} (h : SqT K w.S a vs) (ho : ownL ds = false) (r : ∀ ℓ, RepL K w ds ℓ 0 vs) : ItOk K (Itt K a) ds w := by
  intro i w1 wf1 sm
  have hq : SqT K w1.H a vs := same_rdT wf1.sh (same_rdT sm h)
  refine ⟨fun d e => ?_, fun hl => ⟨vs, hq, by rw [(r []).length, hl]; exact Nat.le_refl _⟩⟩
  obtain ⟨v, ev, rv⟩ := (r []).get e
  have ho' : d.own = false := ownL_iff.mp ho d (List.mem_of_getElem? e)
  refine ⟨⟨vs, v, hq, ev⟩, fun x H' y => ?_⟩
  obtain ⟨rfl, y⟩ := y
  have := y vs hq
  rw [ev] at this; cases this
  exact ⟨w1, rfl, .refl wf1, ho', fun ℓ => rv.free sm d ho'⟩
theorem it_range {K : PySem.W.Frag} {w : Wd} {lo : Int} {n : Nat} : ItOk K (Itr lo n) ((List.range n).map fun (i : Nat) => D.int (lo + (i : Int))) w := by
  intro i w1 wf1 sm
  refine ⟨fun d e => ?_, fun hl => by rw [List.length_map, List.length_range] at hl; exact Nat.le_of_eq hl.symm⟩
  rw [List.getElem?_map] at e
  have hi : i < n := by
    cases q : (List.range n)[i]? with
    | none => rw [q] at e; cases e
    | some j => have := (List.getElem?_eq_some_iff.mp q).1; simpa using this
  rw [List.getElem?_range hi] at e
  cases e
  refine ⟨hi, fun x H' y => ?_⟩
  obtain ⟨rfl, rfl⟩ := y
  exact ⟨w1, rfl, .refl wf1, rfl, fun ℓ => rfl⟩
/-- an owned list at a temporary is frozen for the walk -/
theorem EndE.iceT {K : PySem.W.Frag} {τ : Nat} {w : Wd} {σ : Sl} {ρ : En} {d : D} {v : V} (hn : ρ.length < τ) (st : StE K w σ ρ) (r : Rep K w d [τ] v) :
    ∃ w', w'.H = w.H ∧ EndE K τ w σ ρ ρ w' ∧ ∀ ℓ, Rep K w' d.frz ℓ v := by
  refine ⟨w.ice fun ℓ => match ℓ with | h :: _ => h == τ | [] => false, rfl, ⟨rfl, st.to st.wf.ice (ice_same st.wf) fun i hi => ice_kept fun s => ?_, ⟨ice_same st.wf, fun a ℓ e ⟨h, s, e2, k⟩ => ?_⟩⟩, fun ℓ => ?_⟩
  · show ((i + 1) == τ) = false
    simp; omega
  · subst e2
    have := ice_kept (w := w) (ℓ := h :: s) (P := fun ℓ => match ℓ with | h :: _ => h == τ | [] => false) (fun t => by
      show (h == τ) = false
      simp; omega) a [] (by simpa using e)
    simpa using this
  · exact Rep.frz (w := w) (ice_same st.wf) d (ice_frz fun s => by show (τ == τ) = true; simp) r
section
variable {X : Cx} {W : WX} {tg e : Expr} {re : RE} {p pos : Pos}
theorem rgD_len (lo hi : Int) : (rgD lo hi).length = (hi - lo).toNat := by unfold rgD; rw [List.length_map, List.length_range]
theorem fi_range1 {a : Expr} {ra : RA} (ha : FA X W [a] ra) (hm : X.mg "range" = none) (hg : Gl X "range" := by rfl) (hs : starEach [a] X.env = [(false, eval a X.env)] := by rfl) : FI X W tg (.Call (.Name "range" p) [a] [] pos) (rRg1 ra) := by
  obtain ⟨t, q, k⟩ := ha.ex
  refine ⟨_, pi_range1 hg hm q hs, fun τ w σ ρ E Q R hn st h hq hx => ?_⟩
  refine k τ w σ ρ E _ _ hn st h (fun ads ρ1 w1 vs h1 l1 e1 r1 => ?_) hx
  obtain ⟨ds, ed, h1⟩ := onAds_elim h1
  have ra := ads_any e1.st r1 ed
  split at h1
  · rename_i n
    obtain ⟨v, ℓ, rfl, r⟩ := reps1 ra
    simp only [Rep] at r
    subst r
    obtain ⟨⟨_, b1, b2⟩, h1⟩ := h1
    refine ⟨n, rfl, by omega, by omega, hq _ ρ1 w1 _ h1 (by rw [rgD_len, sizeLine_eq]; omega) e1 ?_⟩
    unfold rgD
    rw [Int.sub_zero]
    exact it_range
  · exact h1.elim
end
def forR (body : D → RS) : List D → RS
  | [], ρ, _, F => F.nx ρ
  | d :: ds, ρ, E, F => ∃ G : Fin, body d ρ E G ∧ G.le (F.lp fun ρ' => forR body ds ρ' E F)
/-- (a door: what stands ahead of it is reckoned out no further) -/
structure ForG (body : D → RS) (ds : List D) (ρ : En) (E : EE) (F : Fin) : Prop where
  go : forR body ds ρ E F
def rFor (ri : RI) (rg : RG) (rb : RS) : RS := fun ρ E F => ri ρ E fun ds ρ1 => ForG (fun d ρ E F => rg d ρ fun ρ2 => rb ρ2 E F) ds ρ1 E F
/-- what a judgement may lean on at its start -/
abbrev LW := Wd → Sl → En → Prop
def SIL (K : PySem.W.Frag) (W : WX) (L : LW) (wi : TI) (ri : RI) : Prop :=
  ∀ (τ : Nat) (w : Wd) (σ : Sl) (ρ : En) (E : EE) (Q : List D → En → Prop) (R : It → Hp → Prop), L w σ ρ → ρ.length < τ → StE K w σ ρ → ri ρ E Q →
    (∀ ds ρ' w' J, Q ds ρ' → ds.length ≤ sizeLine → EndE K τ w σ ρ ρ' w' → ItOk K J ds w' → R J w'.H) → SX K W τ w σ ρ E → wi σ w.H R
def SEL (K : PySem.W.Frag) (W : WX) (L : LW) (t : TE) (r : RE) : Prop :=
  ∀ (τ : Nat) (w : Wd) (σ : Sl) (ρ : En) (E : EE) (Q : D → En → Prop) (Qv : VK), L w σ ρ → ρ.length < τ → StE K w σ ρ → r ρ E Q →
    (∀ d ρ' w' v, Q d ρ' → EndE K τ w σ ρ ρ' w' → Rep K w' d [τ] v → Qv v w'.H) → SX K W τ w σ ρ E → t σ w.H Qv
def SSL (K : PySem.W.Frag) (W : WX) (L : LW) (M : List Nat) (t : TS) (r : RS) : Prop :=
  ∀ (w : Wd) (σ : Sl) (ρ : En) (E : EE) (F : Fin) (D : Ends), L w σ ρ → StE K w σ ρ → r ρ E F → SF K W M w σ ρ E F D → t D σ w.H
section
variable {X : Cx} {W : WX} {M : List Nat} {pos : Pos}
theorem fs_forL (L : LW) (A : List Nat) {tg iter : Expr} {body : List Stmt} {ri : RI} {rg : RG} {rb : RS} (hp : PassesOwn (model X.prog X.w) X.A X.env X.xe) (hi : ∃ wi, PI X tg iter wi ∧ SIL X.K W L wi ri) (hg : FG X A tg rg) (hb : FSs X W M body rb) (hA : (M.all fun i => !A.contains i) = true) (hc : X.calm = true)
    (hs : ∀ x, foldedSetIterable iter X.env x = pure x) : ∃ t, PS X (.For tg iter body [] pos) t ∧ SSL X.K W L M t (rFor ri rg rb) := by
  obtain ⟨wi, p, k⟩ := hi
  obtain ⟨g, pg, kg⟩ := hg.ex
  obtain ⟨t, pb, kb⟩ := hb.ex
  refine ⟨_, ps_for hp hc p pg pb hs, fun w σ ρ E F D hL st h hf => ?_⟩
  refine k _ w σ ρ E _ _ hL (Nat.lt_succ_self _) st h (fun ds ρ1 w1 J h1 hz e1 io => ?_) hf.sx
  have es := e1.s (M := M) (Nat.lt_succ_self _)
  have hf1 := hf.then es
  refine ⟨fun i m σ' H' => m = ds.length - i ∧ i ≤ ds.length ∧ ∃ ρ' w', w'.H = H' ∧ forR (fun d ρ E F => rg d ρ fun ρ2 => rb ρ2 E F) (ds.drop i) ρ' E F ∧ EndS X.K M w1 σ ρ1 w' σ' ρ', ⟨_, rfl, Nat.zero_le _, ρ1, w1, rfl, h1.go, .refl e1.st⟩, ?_⟩
  rintro i m σ2 H2 ⟨rfl, hi2, ρ2, w2, rfl, h2, e2⟩
  obtain ⟨io1, io2⟩ := io i w2 e2.st.wf e2.ext.s
  by_cases hlt : i < ds.length
  · obtain ⟨go, yl⟩ := io1 _ (List.getElem?_eq_getElem hlt)
    rw [List.drop_eq_getElem_cons hlt] at h2
    obtain ⟨G, hbd, hle⟩ := h2
    refine .inr ⟨go, fun σ' H' => ∃ ρ' w', w'.H = H' ∧ forR (fun d ρ E F => rg d ρ fun ρ2 => rb ρ2 E F) (ds.drop (i + 1)) ρ' E F ∧ EndS X.K M w1 σ ρ1 w' σ' ρ', fun σ' H' h => ⟨ds.length - (i + 1), by omega, rfl, hlt, h⟩, fun x H' y => ?_⟩
    obtain ⟨w3, rfl, gr, ho, rx⟩ := yl x H' y
    have e3 := gr.end (τ := ρ2.length + 1) e2.st
    have e13 := e2.trans (e3.s (M := M) (Nat.lt_succ_self _))
    refine kg w3 σ2 ρ2 _ x _ _ ho rx e3.st hbd fun ρ4 w4 σ4 h4 e4 => ?_
    have e14 := e13.trans (e4.s hA)
    have hf4 := hf1.then e14
    exact kb w4 σ4 ρ4 E G _ e14.st h4 ⟨fun ρ' w' σ' q e => ⟨ρ', w', rfl, hle.nx _ q, e14.trans e⟩, fun d ρ' w' σ' v q e r => hf4.rt d ρ' w' σ' v (hle.rt _ _ q) e r, fun ρ' w' σ' q e => hf4.nx ρ' w' σ' (hle.bk _ q) e,
      fun ρ' w' σ' q e => ⟨ρ', w', rfl, hle.ct _ q, e14.trans e⟩, hf4.ex⟩
  · have : i = ds.length := by omega
    subst this
    rw [List.drop_length] at h2
    exact .inl ⟨io2 rfl, hf1.nx ρ2 w2 σ2 h2 e2⟩
theorem FI.toL {L : LW} {tg iter : Expr} {ri : RI} (hi : FI X W tg iter ri) : ∃ wi, PI X tg iter wi ∧ SIL X.K W L wi ri := by
  obtain ⟨wi, p, k⟩ := hi.ex
  exact ⟨wi, p, fun τ w σ ρ E Q R _ => k τ w σ ρ E Q R⟩
theorem fs_for (A : List Nat) {tg iter : Expr} {body : List Stmt} {ri : RI} {rg : RG} {rb : RS} (hp : PassesOwn (model X.prog X.w) X.A X.env X.xe) (hi : FI X W tg iter ri) (hg : FG X A tg rg) (hb : FSs X W M body rb) (hA : (M.all fun i => !A.contains i) = true := by rfl) (hc : X.calm = true := by rfl)
    (hs : ∀ x, foldedSetIterable iter X.env x = pure x := by intro _; rfl) : FS X W M (.For tg iter body [] pos) (rFor ri rg rb) := by
  obtain ⟨t, p, k⟩ := fs_forL (fun _ _ _ => True) A hp hi.toL hg hb hA hc hs
  exact ⟨t, p, fun w σ ρ E F D => k w σ ρ E F D trivial⟩
end
/-- a loop by what holds between its turns -/
theorem forR_inv {body : D → RS} {E : EE} {F : Fin} (I : Nat → En → Prop) : ∀ (ds : List D) (k : Nat) (ρ : En), I k ρ →
    (∀ i d ρ, ds[i]? = some d → I (k + i) ρ → body d ρ E (F.lp (I (k + i + 1)))) → (∀ ρ, I (k + ds.length) ρ → F.nx ρ) → forR body ds ρ E F
  | [], k, ρ, h0, _, hd => hd ρ h0
  | d :: ds, k, ρ, h0, hs, hd => by
    refine ⟨_, hs 0 d ρ rfl h0, fun ρ' h => ?_, fun _ _ h => h, fun _ h => h, fun ρ' h => ?_⟩
    all_goals
      refine forR_inv I ds (k + 1) ρ' h (fun i d' ρ2 e h2 => ?_) fun ρ2 h2 => hd ρ2 (by rw [List.length_cons, show k + (ds.length + 1) = k + 1 + ds.length by omega]; exact h2)
      have := hs (i + 1) d' ρ2 (by simpa using e) (by rw [show k + (i + 1) = k + 1 + i by omega]; exact h2)
      rw [show k + (i + 1) + 1 = k + 1 + i + 1 by omega] at this
      exact this
def E0D : EE := fun _ _ _ => False
def W0 : WX := fun _ _ _ _ => False
def wipeD (ρ : En) : List Nat → En
  | [] => ρ
  | v :: vs => (wipeD ρ vs).set v none
def backD (ρ0 ρ : En) : List Nat → En
  | [] => ρ
  | v :: vs => (backD ρ0 ρ vs).set v (match ρ0[v]? with
    | some (some d) => match d.own with
      | true => none
      | false => some d
    | _ => none)
/-- the kind of a list that has got one more part, or none -/
def kindR : Ow → Option D → Ow
  | o, none => o
  | o, some d => match d.own with
    | false => o
    | true => .deep
def compR (f : D → En → (Option D → En → Prop) → Prop) (vs : List Nat) : List D → En → Ow → List D → (Ow → List D → En → Prop) → Prop
  | [], ρ, k, acc, Q => Q k acc ρ
  | d :: ds, ρ, k, acc, Q => ∃ P : Option D → En → Prop, f d ρ P ∧ ∀ o ρ', P o ρ' → compR f vs ds (wipeD ρ' vs) (kindR k o) (acc ++ o.toList) Q
structure CompG (f : D → En → (Option D → En → Prop) → Prop) (vs : List Nat) (ds : List D) (ρ : En) (Q : Ow → List D → En → Prop) : Prop where
  go : compR f vs ds ρ .flat [] Q
def rComp (ri : RI) (rg : RG) (rt : RT) (re : RE) (vs : List Nat) : RE := fun ρ E Q => ri ρ E fun ds ρ1 => nf (wipeD ρ1 vs) fun ρ0 =>
  CompG (fun d ρ k => rg d ρ fun ρ2 => rt ρ2 E0D fun b ρ3 => (b = true → re ρ3 E0D fun y ρ4 => k (some y) ρ4) ∧ (b = false → k none ρ3)) vs ds ρ0 fun k ys ρ' => nf (backD ρ1 ρ' vs) (Q (.lst k ys))
def rYes : RT := fun ρ _ Q => Q true ρ
structure FTs (X : Cx) (W : WX) (ifs : List Expr) (r : RT) : Prop where
  ex : ∃ t, PTs X ifs t ∧ STt X.K W t r
section
variable {X : Cx} {W : WX}
theorem fts_nil : FTs X W [] rYes := ⟨_, pts_nil, fun τ w σ ρ E Q Qv hn st h hq hx => hq true ρ w h (.refl st)⟩
theorem fts_one {c : Expr} {r : RT} (h : FT X W c r) : FTs X W [c] r := by
  obtain ⟨t, p, k⟩ := h.ex
  exact ⟨_, pts_one p, k⟩
end
theorem wipeD_len (ρ : En) : ∀ vs, (wipeD ρ vs).length = ρ.length
  | [] => rfl
  | v :: vs => by unfold wipeD; rw [List.length_set, wipeD_len ρ vs]
theorem wipeD_some {ρ : En} {i : Nat} {d : D} : ∀ {vs : List Nat}, (wipeD ρ vs)[i]? = some (some d) → ρ[i]? = some (some d) ∧ i ∉ vs
  | [], h => ⟨h, by simp⟩
  | v :: vs, h => by
    unfold wipeD at h
    by_cases hi : v = i
    · subst hi
      by_cases hv : v < (wipeD ρ vs).length
      · rw [List.getElem?_set_self hv] at h; cases h
      · rw [List.getElem?_eq_none (by simpa using hv)] at h; cases h
    · rw [List.getElem?_set_ne hi] at h
      obtain ⟨h1, h2⟩ := wipeD_some h
      exact ⟨h1, by simp only [List.mem_cons, not_or]; exact ⟨fun e => hi e.symm, h2⟩⟩
theorem backD_len (ρ0 ρ : En) : ∀ vs, (backD ρ0 ρ vs).length = ρ.length
  | [] => rfl
  | v :: vs => by unfold backD; rw [List.length_set, backD_len ρ0 ρ vs]
theorem backD_some {ρ0 ρ : En} {i : Nat} {d : D} : ∀ {vs : List Nat}, (backD ρ0 ρ vs)[i]? = some (some d) → (i ∉ vs ∧ ρ[i]? = some (some d)) ∨ (i ∈ vs ∧ ρ0[i]? = some (some d) ∧ d.own = false)
  | [], h => .inl ⟨by simp, h⟩
  | v :: vs, h => by
    unfold backD at h
    by_cases hi : v = i
    · subst hi
      by_cases hv : v < (backD ρ0 ρ vs).length
      · rw [List.getElem?_set_self hv] at h
        have h : (match ρ0[v]? with | some (some d) => (match d.own with | true => none | false => some d) | _ => none) = some d := Option.some.inj h
        split at h
        · rename_i d' e
          split at h
          · cases h
          · rename_i ho
            cases h
            exact .inr ⟨List.mem_cons_self, e, ho⟩
        · cases h
      · rw [List.getElem?_eq_none (by simpa using hv)] at h; cases h
    · rw [List.getElem?_set_ne hi] at h
      rcases backD_some h with ⟨h1, h2⟩ | ⟨h1, h2⟩
      · exact .inl ⟨by simp only [List.mem_cons, not_or]; exact ⟨fun e => hi e.symm, h1⟩, h2⟩
      · exact .inr ⟨List.mem_cons_of_mem _ h1, h2⟩
theorem StE.wipe {K : PySem.W.Frag} {w : Wd} {σ : Sl} {ρ : En} (st : StE K w σ ρ) (vs : List Nat) : StE K w (L2.wipe σ vs) (wipeD ρ vs) :=
  ⟨st.wf, by rw [wipe_length, wipeD_len]; exact st.len, fun i d e => by
    obtain ⟨e1, hn⟩ := wipeD_some e
    obtain ⟨v, e2, r⟩ := st.rep i d e1
    exact ⟨v, by rw [wipe_out hn]; exact e2, r⟩⟩
theorem wipe_eq {σ σ' : Sl} {vs : List Nat} (hl : σ'.length = σ.length) (h : ∀ i, i ∉ vs → σ'[i]? = σ[i]?) : L2.wipe σ' vs = L2.wipe σ vs := by
  have at1 : ∀ (τ : Sl) (i : Nat) (vs : List Nat), i ∈ vs → i < τ.length → (L2.wipe τ vs)[i]? = some none := by
    intro τ i vs
    induction vs with
    | nil => intro h; cases h
    | cons v vs ih =>
      intro h hi
      unfold L2.wipe
      by_cases hv : v = i
      · subst hv
        exact List.getElem?_set_self (by rw [wipe_length]; exact hi)
      · rw [List.getElem?_set_ne hv]
        rcases List.mem_cons.mp h with e | h
        · exact absurd e.symm hv
        · exact ih h hi
  apply List.ext_getElem?
  intro i
  by_cases hi : i ∈ vs
  · by_cases hl2 : i < σ.length
    · rw [at1 σ' i vs hi (by omega), at1 σ i vs hi hl2]
    · rw [List.getElem?_eq_none (by rw [wipe_length]; omega), List.getElem?_eq_none (by rw [wipe_length]; omega)]
  · rw [wipe_out hi, wipe_out hi, h i hi]
theorem wipe_wipe (σ : Sl) (vs : List Nat) : L2.wipe (L2.wipe σ vs) vs = L2.wipe σ vs := wipe_eq (by rw [wipe_length]) fun i hi => wipe_out hi
/-- an object changed -/
def Wd.put (w : Wd) (a : Addr) (o : HO) : Wd := ⟨w.G, w.S, upd w.H a o⟩
theorem Wf.put {w : Wd} (h : Wf w) {a : Addr} {ℓ : Loc} (ht : w.G a = some ℓ) {o : HO} (m : Mut (some o)) : Wf (w.put a o) := by
  refine ⟨fun b u e => ?_, fun b k e => ?_⟩
  · have e' : w.S b = some u := e
    have : b ≠ a := fun z => by rw [z, (h.tg a ℓ ht).1] at e'; cases e'
    show upd w.H a o b = some u
    rw [upd_ne this]; exact h.sh b u e
  · refine ⟨(h.tg b k e).1, ?_⟩
    show Mut (upd w.H a o b)
    by_cases hb : b = a
    · subst hb; rw [upd_same]; exact m
    · rw [upd_ne hb]; exact (h.tg b k e).2
theorem put_kept {w : Wd} {a : Addr} {ℓ k : Loc} (ht : w.G a = some ℓ) {o : HO} (hk : ∀ s, k ++ s ≠ ℓ) : KeptTo w (w.put a o) k k := fun b s e => ⟨e, by
  have : b ≠ a := fun z => by subst z; rw [ht] at e; cases e; exact hk s rfl
  exact upd_ne this⟩
/-- the temporary τ + 1 becomes the j-th child of τ -/
def joinT (τ j : Nat) : Loc → Option Loc
  | h :: s => if h = τ + 1 then some (τ :: j :: s) else some (h :: s)
  | [] => some []
theorem joinT_calm {n τ j : Nat} (h : n < τ) : Calm n τ (joinT τ j) := ⟨fun a s q => by
  show (if _ then _ else _) = _
  rw [if_neg (by omega)]⟩
section
variable {X : Cx} {W : WX}
abbrev BlkC := Shared × Hp × Addr × List (Str × Addr) × List Addr
abbrev Cx.blkC (X : Cx) (scope : Scope) (c : BlkC) : Cx := X.blk c.1 c.2.1 scope (compEnvC scope c.2.2.2.1 c.2.2.1 X.env) c.2.2.2.2
theorem lc_exL (L : LW) (vs : List Nat) {elt tg iter : Expr} {ifs : List Expr} {scope : Scope} {ri : RI} {rg : RG} {rt : RT} {re : RE} (hi : ∃ wi, PI X tg iter wi ∧ SIL X.K W L wi ri)
    (hg : ∀ c : BlkC, FG (Cx.blkC X scope c) vs tg rg) (ht : ∀ c : BlkC, FTs (Cx.blkC X scope c) W0 ifs rt) (he : ∀ c : BlkC, FE (Cx.blkC X scope c) W0 elt re) :
    ∃ (wi : TI) (g : TG) (tt : TT) (te : TE), PI X tg iter wi ∧ (∀ c : BlkC, PG (Cx.blkC X scope c) tg g) ∧ (∀ c : BlkC, PTs (Cx.blkC X scope c) ifs tt) ∧ (∀ c : BlkC, PE (Cx.blkC X scope c) elt te) ∧ SEL X.K W L (tLc wi g tt te vs) (rComp ri rg rt re vs) := by
  obtain ⟨wi, p, k⟩ := hi
  let g : TG := fun v σ H Q => ∀ c, Classical.choose (hg c).ex v σ H Q
  let tt : TT := fun σ H Q => ∀ c, Classical.choose (ht c).ex σ H Q
  let te : TE := fun σ H Q => ∀ c, Classical.choose (he c).ex σ H Q
  have pg : ∀ c, PG (Cx.blkC X scope c) tg g := fun c => ⟨fun pins s σ H v u Q I r h => (Classical.choose_spec (hg c).ex).1.run pins s σ H v u Q I r (h c)⟩
  have sg : SG X.K vs g rg := fun w σ ρ d v Q Qg ho hr st h hq c => (Classical.choose_spec (hg c).ex).2 w σ ρ d v Q Qg ho hr st h hq
  have pt : ∀ c, PTs (Cx.blkC X scope c) ifs tt := fun c => ⟨fun pins s σ H Q I h => (Classical.choose_spec (ht c).ex).1.run pins s σ H Q I (h c)⟩
  have stt : STt X.K W0 tt rt := fun τ w σ ρ E Q Qv hn st h hq hx c => (Classical.choose_spec (ht c).ex).2 τ w σ ρ E Q Qv hn st h hq hx
  have pe : ∀ c, PE (Cx.blkC X scope c) elt te := fun c => ⟨fun pins s σ H Q I h => (Classical.choose_spec (he c).ex).1.run pins s σ H Q I (h c)⟩
  have ste : SE X.K W0 te re := fun τ w σ ρ E Q Qv hn st h hq hx c => (Classical.choose_spec (he c).ex).2 τ w σ ρ E Q Qv hn st h hq hx
  refine ⟨wi, g, tt, te, p, pg, pt, pe, fun τ w σ ρ E Q Qv hL hn st h hq hx => ?_⟩
  refine k τ w σ ρ E _ _ hL hn st h (fun ds ρ1 w1 J h1 hz e1 io => ?_) hx
  simp only [nf_eq] at h1
  replace h1 := h1.go
  intro L nL
  have hn1 : ρ1.length < τ := by rw [e1.len]; exact hn
  have s0 := e1.st.wipe vs
  have eo : EndE X.K τ w1 (L2.wipe σ vs) (wipeD ρ1 vs) (wipeD ρ1 vs) (w1.new L [τ] (.lst [])) ∧ Rep X.K (w1.new L [τ] (.lst [])) (.lst .deep []) [τ] (.ref L) := EndE.own .deep s0 nL (by simp [RepL]) (Nat.zero_le _) (fun z => nomatch z) rfl
  refine ⟨fun i m H' => m = ds.length - i ∧ i ≤ ds.length ∧ ∃ ρ' w' kd acc, w'.H = H' ∧ ρ'.length = ρ1.length ∧ StE X.K w' (L2.wipe σ vs) ρ' ∧ Ext ρ1.length τ w1 w' ∧ Rep X.K w' (.lst .deep acc) [τ] (.ref L) ∧ (kd.mine = true ∧ Lt kd acc) ∧ acc.length ≤ i ∧
    compR (fun d ρ k => rg d ρ fun ρ2 => rt ρ2 E0D fun b ρ3 => (b = true → re ρ3 E0D fun y ρ4 => k (some y) ρ4) ∧ (b = false → k none ρ3)) vs (ds.drop i) ρ' kd acc fun k ys ρ' => Q (.lst k ys) (backD ρ1 ρ' vs),
    ⟨_, rfl, Nat.zero_le _, _, _, .flat, [], rfl, wipeD_len _ _, eo.1.st, by have := eo.1.ext; rw [wipeD_len] at this; exact this, eo.2, ⟨rfl, fun _ => rfl⟩, Nat.zero_le _, h1⟩, ?_⟩
  rintro i m H2 ⟨rfl, hi2, ρ2, w2, kd, acc, rfl, l2, st2, x2, r2, kl, al, h2⟩
  obtain ⟨io1, io2⟩ := io i w2 st2.wf x2.s
  by_cases hlt : i < ds.length
  · obtain ⟨go, yl⟩ := io1 _ (List.getElem?_eq_getElem hlt)
    rw [List.drop_eq_getElem_cons hlt] at h2
    obtain ⟨P, hb, hP⟩ := h2
    refine .inr ⟨go, fun H' => ∃ ρ' w' kd acc, w'.H = H' ∧ ρ'.length = ρ1.length ∧ StE X.K w' (L2.wipe σ vs) ρ' ∧ Ext ρ1.length τ w1 w' ∧ Rep X.K w' (.lst .deep acc) [τ] (.ref L) ∧ (kd.mine = true ∧ Lt kd acc) ∧ acc.length ≤ i + 1 ∧
      compR (fun d ρ k => rg d ρ fun ρ2 => rt ρ2 E0D fun b ρ3 => (b = true → re ρ3 E0D fun y ρ4 => k (some y) ρ4) ∧ (b = false → k none ρ3)) vs (ds.drop (i + 1)) ρ' kd acc fun k ys ρ' => Q (.lst k ys) (backD ρ1 ρ' vs),
      fun H' h => ⟨ds.length - (i + 1), by omega, rfl, hlt, h⟩, fun x H' y => ?_⟩
    obtain ⟨w3, rfl, gr, ho, rx⟩ := yl x H' y
    have e3 := gr.end (τ := τ + 1) st2
    refine sg w3 (L2.wipe σ vs) ρ2 _ x _ _ ho rx e3.st hb fun ρ4 w4 σ4 h4 e4 => ?_
    have hw4 : L2.wipe σ4 vs = L2.wipe σ vs := by
      have l4 : σ4.length = (L2.wipe σ vs).length := by rw [e4.st.len, e4.len, ← e3.st.len]
      rw [wipe_eq l4 e4.off, wipe_wipe]
    refine ⟨hw4, ?_⟩
    have l4 : ρ4.length = ρ1.length := by rw [e4.len, l2]
    have x4 : Ext ρ1.length (τ + 1) w2 w4 := by
      have a := e3.ext
      have b := e4.ext (τ + 1)
      rw [l2] at a b
      exact a.trans b
    refine stt (τ + 1) w4 σ4 ρ4 E0D _ _ (by omega) e4.st h4 (fun b ρ5 w5 h5 e5 => ?_) (fun c fs ρ' w' d h => h.elim)
    have x5 : Ext ρ1.length (τ + 1) w2 w5 := x4.trans (by have := e5.ext; rw [l4] at this; exact this)
    have l5 : ρ5.length = ρ1.length := e5.len.trans l4
    have again : ∀ {ρ6 : En} {w6 : Wd} {kd' : Ow} {acc' : List D}, ρ6.length = ρ1.length → StE X.K w6 σ4 ρ6 → Ext ρ1.length τ w1 w6 → Rep X.K w6 (.lst .deep acc') [τ] (.ref L) → (kd'.mine = true ∧ Lt kd' acc') → acc'.length ≤ i + 1 → compR (fun d ρ k => rg d ρ fun ρ2 => rt ρ2 E0D fun b ρ3 => (b = true → re ρ3 E0D fun y ρ4 => k (some y) ρ4) ∧ (b = false → k none ρ3)) vs (ds.drop (i + 1)) (wipeD ρ6 vs) kd' acc' (fun k ys ρ' => Q (.lst k ys) (backD ρ1 ρ' vs)) →
        ∃ ρ' w' kd acc, w'.H = w6.H ∧ ρ'.length = ρ1.length ∧ StE X.K w' (L2.wipe σ vs) ρ' ∧ Ext ρ1.length τ w1 w' ∧ Rep X.K w' (.lst .deep acc) [τ] (.ref L) ∧ (kd.mine = true ∧ Lt kd acc) ∧ acc.length ≤ i + 1 ∧
      compR (fun d ρ k => rg d ρ fun ρ2 => rt ρ2 E0D fun b ρ3 => (b = true → re ρ3 E0D fun y ρ4 => k (some y) ρ4) ∧ (b = false → k none ρ3)) vs (ds.drop (i + 1)) ρ' kd acc fun k ys ρ' => Q (.lst k ys) (backD ρ1 ρ' vs) :=
      fun {ρ6 w6 kd' acc'} a1 a2 a3 a4 a7 a5 a6 => ⟨wipeD ρ6 vs, w6, kd', acc', rfl, by rw [wipeD_len]; exact a1, by have := a2.wipe vs; rw [hw4] at this; exact this, a3, a4, a7, a5, a6⟩
    cases b with
    | false =>
      rw [if_neg Bool.false_ne_true]
      have q := hP none ρ5 (h5.2 rfl)
      rw [Option.toList_none, List.append_nil] at q
      exact again l5 e5.st (x2.trans (x5.mono (Nat.le_succ _))) (x5.rep (r := []) ⟨hn1, Nat.lt_succ_self _⟩ r2) kl (by omega) q
    | true =>
      rw [if_pos rfl]
      refine ste (τ + 1) w5 σ4 ρ5 E0D _ _ (by omega) e5.st (h5.1 rfl) (fun y ρ6 w6 v6 h6 e6 r6 => ?_) (fun c fs ρ' w' d h => h.elim)
      have x6 : Ext ρ1.length (τ + 1) w2 w6 := x5.trans (by have := e6.ext; rw [l5] at this; exact this)
      have l6 : ρ6.length = ρ1.length := e6.len.trans l5
      have ra : Rep X.K w6 (.lst .deep acc) [τ] (.ref L) := x6.rep (r := []) ⟨hn1, Nat.lt_succ_self _⟩ r2
      -- the element goes to its place
      have er : EndE X.K τ w6 σ4 ρ6 ρ6 (w6.ren (joinT τ acc.length)) := EndE.ren e6.st (joinT_calm (by omega))
      have ra2 : Rep X.K (w6.ren (joinT τ acc.length)) (.lst .deep acc) [τ] (.ref L) := ra.ren fun s => by
        show (if _ then _ else _) = _
        rw [if_neg (by omega)]; rfl
      have ry : Rep X.K (w6.ren (joinT τ acc.length)) y [τ, acc.length] v6 := r6.ren fun s => by
        show (if _ then _ else _) = _
        rw [if_pos rfl]; rfl
      simp only [Rep] at ra2
      obtain ⟨a, us, ea, tha, hza, rl⟩ := ra2
      cases ea
      obtain ⟨ta, ha⟩ := (show _ ∧ _ from tha)
      refine ⟨us, ha, by rw [rl.length]; omega, ?_⟩
      have kk : ∀ (h : Nat) (s t : Loc), h ≠ τ → h :: s ++ t ≠ [τ] := fun h s t e z => by
        have := congrArg List.head? z
        simp at this
        exact e this
      have ek : EndE X.K τ (w6.ren (joinT τ acc.length)) σ4 ρ6 ρ6 ((w6.ren (joinT τ acc.length)).put L (.lst (us ++ [v6]))) :=
        ⟨rfl, er.st.to (er.st.wf.put ta trivial) (Same.refl _) fun i hi => put_kept ta fun s => kk _ [] s (by omega), ⟨Same.refl _, fun b ℓ e ⟨h, s, e2, k⟩ => by
          subst e2
          have := put_kept (o := .lst (us ++ [v6])) ta (k := h :: s) (fun t => kk h s t (by omega)) b [] (by simpa using e)
          simpa using this⟩⟩
      have q := hP (some y) ρ6 h6
      refine again l6 ek.st ((x2.trans (x6.mono (Nat.le_succ _))).trans (by have a := er.ext; have b := ek.ext; rw [l6] at a b; exact a.trans b)) ?_ ?_ (by simp; omega) q
      rotate_left
      · show (kindR kd (some y)).mine = true ∧ Lt (kindR kd (some y)) (acc ++ [y])
        cases qy : y.own with
        | true =>
          have : kindR kd (some y) = .deep := by simp only [kindR, qy]
          rw [this]
          exact ⟨rfl, fun z => nomatch z⟩
        | false =>
          have : kindR kd (some y) = kd := by simp only [kindR, qy]
          rw [this]
          exact ⟨kl.1, fun z => by rw [ownL_append, kl.2 z]; simp [ownL, qy]⟩
      have ch : ∀ (j : Nat) (t : Loc), [τ] ++ [j] ++ t ≠ [τ] := fun j t z => by
        have := congrArg List.length z
        simp at this
      simp only [Rep]
      refine ⟨L, us ++ [v6], rfl, (show _ ∧ _ from ⟨ta, upd_same⟩), ⟨by simp; omega, fun z => nomatch z⟩, ?_⟩
      refine RepL.app (RepL.of rl.length fun j d v e1 e2 => ?_) (RepL.one ?_)
      · obtain ⟨v', e3, r⟩ := rl.get e1
        rw [e2] at e3; cases e3
        exact Rep.to (w := w6.ren (joinT τ acc.length)) (w' := (w6.ren (joinT τ acc.length)).put L (.lst (us ++ [v6]))) (Same.refl _) d (put_kept ta fun t => ch _ t) r
      · rw [Nat.zero_add]
        exact Rep.to (w := w6.ren (joinT τ acc.length)) (w' := (w6.ren (joinT τ acc.length)).put L (.lst (us ++ [v6]))) (Same.refl _) y (put_kept ta fun t => ch _ t) ry
  · have : i = ds.length := by omega
    subst this
    rw [List.drop_length] at h2
    refine .inl ⟨io2 rfl, hq _ _ w2 _ h2 ⟨by rw [backD_len, l2, e1.len], ⟨st2.wf, by rw [backD_len, l2]; exact e1.st.len, fun i d e => ?_⟩, e1.ext.trans (by have := x2; rw [e1.len] at this; exact this)⟩ ?_⟩
    rotate_left
    · simp only [Rep] at r2 ⊢
      obtain ⟨a, us, ea, tha, hza, rl⟩ := r2
      exact ⟨a, us, ea, by rw [if_pos kl.1]; exact tha, ⟨hza.1, kl.2⟩, rl⟩
    rcases backD_some e with ⟨h3, h4⟩ | ⟨h3, h4, h5⟩
    · obtain ⟨v, e5, r⟩ := st2.rep i d h4
      rw [wipe_out h3] at e5
      exact ⟨v, e5, r⟩
    · obtain ⟨v, e5, r⟩ := e1.st.rep i d h4
      exact ⟨v, e5, r.free x2.s d h5⟩
theorem lc_ex (vs : List Nat) {elt tg iter : Expr} {ifs : List Expr} {scope : Scope} {ri : RI} {rg : RG} {rt : RT} {re : RE} (hi : FI X W tg iter ri)
    (hg : ∀ c : BlkC, FG (Cx.blkC X scope c) vs tg rg) (ht : ∀ c : BlkC, FTs (Cx.blkC X scope c) W0 ifs rt) (he : ∀ c : BlkC, FE (Cx.blkC X scope c) W0 elt re) :
    ∃ (wi : TI) (g : TG) (tt : TT) (te : TE), PI X tg iter wi ∧ (∀ c : BlkC, PG (Cx.blkC X scope c) tg g) ∧ (∀ c : BlkC, PTs (Cx.blkC X scope c) ifs tt) ∧ (∀ c : BlkC, PE (Cx.blkC X scope c) elt te) ∧ SE X.K W (tLc wi g tt te vs) (rComp ri rg rt re vs) := by
  obtain ⟨wi, g, tt, te, p, pg, pt, pe, k⟩ := lc_exL (fun _ _ _ => True) vs hi.toL hg ht he
  exact ⟨wi, g, tt, te, p, pg, pt, pe, fun τ w σ ρ E Q Qv => k τ w σ ρ E Q Qv trivial⟩
theorem fe_lc (vs : List Nat) {elt tg iter : Expr} {ifs : List Expr} {scope : Scope} {own : List (Str × Nat)} {pos : Pos} {ri : RI} {rg : RG} {rt : RT} {re : RE} (hN : X.N.Nodup) (hi : FI X W tg iter ri) (ok : BlkOk X.N X.env.scope scope own)
    (hg : ∀ c : BlkC, FG (Cx.blkC X scope c) vs tg rg) (ht : ∀ c : BlkC, FTs (Cx.blkC X scope c) W0 ifs rt) (he : ∀ c : BlkC, FE (Cx.blkC X scope c) W0 elt re) (hv : own.map (·.2) = vs := by rfl) (hc : X.calm = true := by rfl) (hs : ∀ x, foldedSetIterable iter X.env x = pure x := by intro _; rfl) :
    FE X W (.ListComp elt [⟨tg, iter, ifs, 0⟩] scope pos) (rComp ri rg rt re vs) := by
  obtain ⟨wi, g, tt, te, p, pg, pt, pe, k⟩ := lc_ex vs hi hg ht he
  exact ⟨tLc wi g tt te vs, by rw [← hv]; exact pe_lc hc hN p ok (fun s H C cl fp => pg (s, H, C, cl, fp)) (fun s H C cl fp => pt (s, H, C, cl, fp)) (fun s H C cl fp => pe (s, H, C, cl, fp)) hs, k⟩
end
end FL
namespace FL
open PySem PySem.Spec PyProof.Rows L2
/-- its parts are known to the letter -/
def D.seen : D → Bool
  | .ro _ _ => false
  | _ => true
def D.at : D → List Nat → Option D
  | d, [] => some d
  | d, j :: p => match d.kids[j]? with
    | some e => e.at p
    | none => none
def D.put : D → List Nat → D → D
  | _, [], e => e
  | d, j :: p, e => match d.kids[j]? with
    | some c => d.withKids (d.kids.set j (c.put p e))
    | none => d
section
variable {K : PySem.W.Frag} {w w' : Wd}
theorem kids_inner {d : D} {j : Nat} {e : D} (hj : d.kids[j]? = some e) : d.inner = true := by
  cases d <;> first | rfl | (simp [D.kids] at hj)
theorem withKids_inner {d : D} (es : List D) (h : d.inner = true) : (d.withKids es).inner = true := by cases d <;> first | exact h | rfl
theorem withKids_kids {d : D} (es : List D) (h : d.inner = true) : (d.withKids es).kids = es := by
  cases d <;> first | rfl | (simp [D.inner] at h)
theorem withKids_own {d : D} (es : List D) : (d.withKids es).own = d.own := by cases d <;> rfl
theorem nd_withKids {d : D} {es : List D} {ℓ : Loc} {a : Addr} {vs : List V} (h : Nd K w d ℓ a vs) : Nd K w (d.withKids es) ℓ a vs := by
  cases d <;> exact h
theorem sz_withKids {d : D} {es fs : List D} {n : Nat} (h : Sz d fs n) : Sz (d.withKids es) fs n := by
  cases d <;> exact h
theorem node_rep {d : D} {ℓ : Loc} {a : Addr} {vs : List V} {es : List D} (hi : d.inner = true) (h : Nd K w d ℓ a vs) (hz : Sz d es vs.length) (hl : RepL K w es ℓ 0 vs) : Rep K w (d.withKids es) ℓ (.ref a) := by
  rw [rep_inner (withKids_inner es hi), withKids_kids es hi]
  exact ⟨a, vs, rfl, nd_withKids h, sz_withKids hz, hl⟩
theorem ownL_set : ∀ {ds : List D} {j : Nat} {c e : D}, ownL ds = false → ds[j]? = some c → (e.own = true → c.own = true) → ownL (ds.set j e) = false
  | [], j, c, e, _, h, _ => by simp at h
  | d :: ds, 0, c, e, h, hj, k => by
    simp only [ownL, Bool.or_eq_false_iff] at h
    cases hj
    have : e.own = false := by
      cases q : e.own with
      | false => rfl
      | true => rw [k q] at h; exact absurd h.1 (by decide)
    simp only [List.set_cons_zero, ownL, this, h.2, Bool.or_self]
  | d :: ds, j + 1, c, e, h, hj, k => by
    simp only [ownL, Bool.or_eq_false_iff] at h
    simp only [List.set_cons_succ, ownL, h.1, Bool.false_or]
    exact ownL_set h.2 (by simpa using hj) k
theorem sz_set {d : D} {ds : List D} {j n : Nat} {c e : D} (h : Sz d ds n) (hj : ds[j]? = some c) (k : e.own = true → c.own = true) : Sz d (ds.set j e) n := by
  cases d <;> first
    | exact h.elim
    | exact ⟨by rw [List.length_set]; exact h.1, fun z => ownL_set (h.2 z) hj k⟩
    | exact ⟨by rw [List.length_set]; exact h.1, ownL_set h.2 hj k⟩
    | exact ⟨h.1, h.2.1, fun z => ownL_set (h.2.2 z) hj k⟩
    | exact ⟨h.1, fun z => ownL_set (h.2 z) hj k⟩
theorem zip_inj {α β : Type} {ks : List α} {vs vs' : List β} (h1 : ks.length = vs.length) (h2 : ks.length = vs'.length) (e : ks.zip vs = ks.zip vs') : vs = vs' := by
  have := congrArg (List.map Prod.snd) e
  rwa [List.map_snd_zip (by omega), List.map_snd_zip (by omega)] at this
theorem own_inj {o : Ow} {ℓ : Loc} {a : Addr} {u u' : HO} (h : if o.mine then w.G a = some ℓ ∧ w.H a = some u else w.S a = some u) (h' : if o.mine then w.G a = some ℓ ∧ w.H a = some u' else w.S a = some u') : u = u' := by
  cases e : o.mine with
  | true => rw [e] at h h'; exact Option.some.inj (h.2.symm.trans h'.2)
  | false => rw [e] at h h'; exact Option.some.inj (h.symm.trans h')
theorem own_injR {o : Ow} {ℓ : Loc} {a : Addr} {u u' : HO} (hu : ∀ ob x, u ≠ .frz ob x) (hu' : ∀ ob x, u' ≠ .frz ob x) (h : if o.mine then w.G a = some ℓ ∧ w.H a = some u else Rd w.S a u) (h' : if o.mine then w.G a = some ℓ ∧ w.H a = some u' else Rd w.S a u') : u = u' := by
  cases e : o.mine with
  | true => rw [e] at h h'; exact Option.some.inj (h.2.symm.trans h'.2)
  | false =>
    rw [e] at h h'
    rcases h with h | ⟨p, h⟩ <;> rcases h' with h' | ⟨p', h'⟩
    · exact Option.some.inj (h.symm.trans h')
    · exact absurd (Option.some.inj (h.symm.trans h')) (hu _ _)
    · exact absurd (Option.some.inj (h'.symm.trans h)) (hu' _ _)
    · have := Option.some.inj (h.symm.trans h'); injection this
theorem nd_inj {d : D} {ℓ : Loc} {a : Addr} {vs vs' : List V} (hs : d.seen = true) (h : Nd K w d ℓ a vs) (h' : Nd K w d ℓ a vs') (hz : Sz d d.kids vs'.length) (hl : vs.length = vs'.length) : vs = vs' := by
  cases d with
  | tup o ds => have := h.symm.trans h'; cases this; rfl
  | lst o ds => have := own_inj h h'; cases this; rfl
  | ro t ds => cases hs
  | dct o t ks ds =>
    have e := own_injR (fun ob x => by unfold dHO; split <;> intro z <;> cases z) (fun ob x => by unfold dHO; split <;> intro z <;> cases z) h h'
    have l1 : ks.length = vs'.length := hz.1
    cases t with
    | true => injection e with e; exact zip_inj (by simp; omega) (by simp; omega) e
    | false => injection e with e; exact zip_inj (by simp; omega) (by simp; omega) e
  | ins o C fs ds =>
    obtain ⟨dx, h⟩ := h
    obtain ⟨dx', h'⟩ := h'
    have l1 : fs.length = vs'.length := hz.1
    cases q : o.mine with
    | true =>
      rw [q] at h h'
      have := Option.some.inj (h.2.symm.trans h'.2)
      injection this with _ _ e
      exact zip_inj (by omega) l1 e
    | false =>
      rw [q] at h h'
      have := Option.some.inj (h.symm.trans h')
      injection this with _ _ e
      exact zip_inj (by omega) l1 e
  | _ => exact h.elim
/-- the value that stands at a path -/
inductive AtV (K : PySem.W.Frag) (w : Wd) : D → Loc → V → List Nat → D → V → Prop
  | here {d : D} {ℓ : Loc} {v : V} : AtV K w d ℓ v [] d v
  | down {d e : D} {ℓ : Loc} {a : Addr} {vs : List V} {j : Nat} {p : List Nat} {v u : V} {c : D} : d.seen = true → Nd K w d ℓ a vs → vs.length = d.kids.length → d.kids[j]? = some c → vs[j]? = some v → AtV K w c (ℓ ++ [j]) v p e u → AtV K w d ℓ (.ref a) (j :: p) e u
theorem AtV.at {d e : D} {ℓ : Loc} {v u : V} {p : List Nat} (h : AtV K w d ℓ v p e u) : d.at p = some e := by
  induction h with
  | here => rfl
  | down _ _ _ hk _ _ ih => simp only [D.at, hk]; exact ih
theorem node_vs {d : D} {ℓ : Loc} {a : Addr} {vs : List V} (hs : d.seen = true) (hi : d.inner = true) (hn : Nd K w d ℓ a vs) (hl : vs.length = d.kids.length) (r : Rep K w d ℓ (.ref a)) : Sz d d.kids vs.length ∧ RepL K w d.kids ℓ 0 vs := by
  rw [rep_inner hi] at r
  obtain ⟨a', vs', ea, hn', hz, rl⟩ := r
  cases ea
  obtain rfl := nd_inj hs hn hn' hz (hl.trans rl.length.symm)
  exact ⟨hz, rl⟩
theorem AtV.rep {d e : D} {ℓ : Loc} {v u : V} {p : List Nat} (h : AtV K w d ℓ v p e u) (r : Rep K w d ℓ v) : Rep K w e (ℓ ++ p) u := by
  induction h with
  | here => rw [List.append_nil]; exact r
  | @down d e ℓ a vs j p v u c hs hn hl hk hv _ ih =>
    obtain ⟨_, rl⟩ := node_vs hs (kids_inner hk) hn hl r
    obtain ⟨v1, e1, r1⟩ := rl.get hk
    rw [hv] at e1; cases e1
    have := ih (by rw [Nat.zero_add] at r1; exact r1)
    rw [List.append_assoc] at this
    exact this
theorem put_own : ∀ {p : List Nat} {d e e' : D}, d.at p = some e → (e'.own = true → e.own = true) → (d.put p e').own = true → d.own = true
  | [], d, e, e', h, k, z => by cases h; exact k z
  | j :: p, d, e, e', h, k, z => by
    simp only [D.at] at h
    cases hk : d.kids[j]? with
    | none => simp [hk] at h
    | some c => simp only [D.put, hk] at z; rw [withKids_own] at z; exact z
/-- the subtree at a path exchanged -/
theorem AtV.put {d e e' : D} {ℓ : Loc} {v u : V} {p : List Nat} (h : AtV K w d ℓ v p e u) (r : Rep K w d ℓ v) (hs : Same w.S w'.S) (ho : e'.own = true → e.own = true)
    (hk : ∀ a k, w.G a = some k → ℓ <+: k → ¬ (ℓ ++ p <+: k) → w'.G a = some k ∧ w'.H a = w.H a) (r' : Rep K w' e' (ℓ ++ p) u) : Rep K w' (d.put p e') ℓ v := by
  induction h with
  | here => rw [List.append_nil] at r'; simp only [D.put]; exact r'
  | @down d e ℓ a vs j p v u c hsn hn hl hkd hv hat ih =>
    obtain ⟨hz, hvs⟩ := node_vs hsn (kids_inner hkd) hn hl r
    have rc := (AtV.down hsn hn hl hkd hv .here : AtV K w d ℓ (.ref a) [j] c v).rep r
    have pre : ∀ k : Loc, ¬ (ℓ ++ (j :: p) <+: ℓ) := fun _ z => by
      have := z.length_le
      simp at this
      omega
    have hnw : Nd K w' d ℓ a vs := hn.later hs fun e1 => hk a ℓ e1 (List.prefix_refl _) (pre ℓ)
    simp only [D.put, hkd]
    refine node_rep (kids_inner hkd) hnw (sz_set hz hkd fun z => put_own hat.at ho z) ?_
    refine RepL.of (by rw [List.length_set]; exact hvs.length) fun i di vi e1 e2 => ?_
    rw [Nat.zero_add]
    by_cases hij : i = j
    · subst hij
      have hl := (List.getElem?_eq_some_iff.mp hkd).1
      rw [List.getElem?_set_self hl] at e1
      cases e1
      rw [hv] at e2; cases e2
      refine ih rc ho (fun b k hb h1 h2 => hk b k hb ((List.prefix_append ℓ [i]).trans h1) fun z => h2 (by rw [List.append_assoc]; exact z)) (by rw [List.append_assoc]; exact r')
    · rw [List.getElem?_set_ne (Ne.symm hij)] at e1
      obtain ⟨v1, e3, r1⟩ := hvs.get e1
      rw [e2] at e3; cases e3
      rw [Nat.zero_add] at r1
      refine r1.to hs di fun b s hb => hk b _ hb (by rw [List.append_assoc]; exact List.prefix_append _ _) fun z => ?_
      rw [List.append_assoc, List.prefix_append_right_inj] at z
      have := z
      simp only [List.singleton_append, List.cons_prefix_cons] at this
      exact hij this.1.symm
end
end FL
namespace FL
open PySem PySem.Spec PyProof.Rows L2
/-- the temporary τ1 goes to L -/
def moveT (τ1 : Nat) (L : Loc) : Loc → Option Loc
  | h :: s => if h = τ1 then some (L ++ s) else some (h :: s)
  | [] => some []
section
variable {K : PySem.W.Frag} {w w' : Wd}
theorem moveT_ne {τ1 h : Nat} {L s : Loc} (e : h ≠ τ1) : moveT τ1 L (h :: s) = some (h :: s) := by
  show (if _ then _ else _) = _
  rw [if_neg e]
theorem moveT_at {τ1 : Nat} {L s : Loc} : moveT τ1 L (τ1 :: s) = some (L ++ s) := by
  show (if _ then _ else _) = _
  rw [if_pos rfl]
theorem Rep.mv {d : D} {h τ1 : Nat} {p L : Loc} {v : V} (r : Rep K w d (h :: p) v) (e : h ≠ τ1) : Rep K (w.ren (moveT τ1 L)) d (h :: p) v := r.ren fun s => moveT_ne e
theorem Rep.mvT {d : D} {τ1 : Nat} {L : Loc} {v : V} (r : Rep K w d [τ1] v) : Rep K (w.ren (moveT τ1 L)) d L v := r.ren fun s => moveT_at
/-- the object at a path of the tree at h0 is exchanged, a temporary taken up -/
theorem node_op {d0 dn d' : D} {h0 τ1 : Nat} {v0 : V} {p : List Nat} {a : Addr} {u : HO} {L : Loc} (r0 : Rep K w d0 [h0] v0) (at0 : AtV K w d0 [h0] v0 p dn (.ref a)) (hne : h0 ≠ τ1) (ta : w.G a = some (h0 :: p)) (ho : d'.own = true → dn.own = true)
    (r' : Rep K ((w.ren (moveT τ1 L)).put a u) d' (h0 :: p) (.ref a)) : Rep K ((w.ren (moveT τ1 L)).put a u) (d0.put p d') [h0] v0 := by
  refine at0.put r0 (Same.refl _) ho (fun b k hb h1 h2 => ?_) r'
  obtain ⟨t, rfl⟩ := h1
  have hb : w.G b = some (h0 :: t) := hb
  refine ⟨ren_at hb (moveT_ne hne), upd_ne fun z => ?_⟩
  subst z
  rw [ta] at hb
  injection hb with hb
  injection hb with _ hb
  exact h2 (by rw [hb]; exact List.prefix_refl _)
/-- the parts of a changed node -/
theorem parts_op {h0 τ1 : Nat} {p : List Nat} {ds : List D} {a : Addr} {vs : List V} {u : HO} {L : Loc} (hne : h0 ≠ τ1) (ta : w.G a = some (h0 :: p)) (rl : RepL K (w.ren (moveT τ1 L)) ds (h0 :: p) 0 vs) : RepL K ((w.ren (moveT τ1 L)).put a u) ds (h0 :: p) 0 vs := by
  have ta' : (w.ren (moveT τ1 L)).G a = some (h0 :: p) := ren_at ta (moveT_ne hne)
  refine RepL.of rl.length fun j d v e1 e2 => ?_
  obtain ⟨v2, e3, r⟩ := rl.get e1
  rw [e2] at e3; cases e3
  refine Rep.to (w := w.ren (moveT τ1 L)) (w' := (w.ren (moveT τ1 L)).put a u) (Same.refl _) d (put_kept ta' fun s z => ?_) r
  have := congrArg List.length z
  simp at this
/-- behind such a change: slot i has the new tree -/
theorem node_end {σ : Sl} {ρ : En} {i τ τ1 : Nat} {d0 dn d' : D} {v0 : V} {p : List Nat} {a : Addr} {u : HO} {L : Loc} (st : StE K w σ ρ) (hi : ρ[i]? = some (some d0)) (hv : σ[i]? = some (some v0)) (r0 : Rep K w d0 [i + 1] v0)
    (at0 : AtV K w d0 [i + 1] v0 p dn (.ref a)) (hτ : ρ.length < τ) (hτ1 : τ ≤ τ1) (ta : w.G a = some ((i + 1) :: p)) (hm : Mut (some u)) (ho : d'.own = true → dn.own = true)
    (r' : Rep K ((w.ren (moveT τ1 L)).put a u) d' ((i + 1) :: p) (.ref a)) :
    EndE K τ w σ ρ (ρ.set i (some (d0.put p d'))) ((w.ren (moveT τ1 L)).put a u) := by
  have hin := (List.getElem?_eq_some_iff.mp hi).1
  have r1 := node_op r0 at0 (show i + 1 ≠ τ1 by omega) ta ho r'
  have ta' : (w.ren (moveT τ1 L)).G a = some ((i + 1) :: p) := ren_at ta (moveT_ne (by omega))
  have wf : Wf ((w.ren (moveT τ1 L)).put a u) := (st.wf.ren _).put ta' hm
  have other : ∀ (h : Nat) (s : Loc) (b : Addr), w.G b = some (h :: s) → h ≠ i + 1 → h ≠ τ1 → ((w.ren (moveT τ1 L)).put a u).G b = some (h :: s) ∧ ((w.ren (moveT τ1 L)).put a u).H b = w.H b := fun h s b hb h1 h2 =>
    ⟨ren_at hb (moveT_ne h2), upd_ne fun z => by subst z; rw [ta] at hb; injection hb with hb; injection hb with hb _; exact h1 hb.symm⟩
  refine ⟨by rw [List.length_set], ⟨wf, by rw [List.length_set]; exact st.len, fun k d e => ?_⟩, ⟨Same.refl _, fun b ℓ e ⟨h, s, e2, q⟩ => ?_⟩⟩
  · by_cases hk : k = i
    · subst hk
      rw [List.getElem?_set_self hin] at e
      cases e
      exact ⟨v0, hv, r1⟩
    · rw [List.getElem?_set_ne (Ne.symm hk)] at e
      obtain ⟨v, e1, r⟩ := st.rep k d e
      have hkl := (List.getElem?_eq_some_iff.mp e).1
      exact ⟨v, e1, Rep.to (w := w) (w' := (w.ren (moveT τ1 L)).put a u) (Same.refl _) d (fun b s hb => other (k + 1) s b hb (by omega) (by omega)) r⟩
  · subst e2
    exact other h s b e (by omega) (by omega)
/-- an owned list at a path -/
theorem list_at {d0 : D} {h0 : Nat} {v0 u : V} {p : List Nat} {o : Ow} {ds : List D} (ho : o.mine = true) (r0 : Rep K w d0 [h0] v0) (at0 : AtV K w d0 [h0] v0 p (.lst o ds) u) : ∃ a us, u = .ref a ∧ w.G a = some (h0 :: p) ∧ w.H a = some (.lst us) ∧ (ds.length ≤ sizeLine ∧ Lt o ds) ∧ RepL K w ds (h0 :: p) 0 us := by
  have ra := at0.rep r0
  simp only [Rep] at ra
  obtain ⟨a, us, ea, th, hz, hl⟩ := ra
  rw [if_pos ho] at th
  obtain ⟨ta, ha⟩ := th
  exact ⟨a, us, ea, ta, ha, hz, hl⟩
theorem list_end {σ : Sl} {ρ : En} {i τ τ1 : Nat} {d0 : D} {v0 : V} {p : List Nat} {o o' : Ow} {ds ds' : List D} {a : Addr} {vs' : List V} {L : Loc} (ho : o.mine = true) (ho' : o'.mine = true) (st : StE K w σ ρ) (hi : ρ[i]? = some (some d0)) (hv : σ[i]? = some (some v0)) (r0 : Rep K w d0 [i + 1] v0)
    (at0 : AtV K w d0 [i + 1] v0 p (.lst o ds) (.ref a)) (hτ : ρ.length < τ) (hτ1 : τ ≤ τ1) (rl : RepL K (w.ren (moveT τ1 L)) ds' ((i + 1) :: p) 0 vs') (hz : ds'.length ≤ sizeLine) (hL : Lt o' ds') :
    EndE K τ w σ ρ (ρ.set i (some (d0.put p (.lst o' ds')))) ((w.ren (moveT τ1 L)).put a (.lst vs')) := by
  obtain ⟨a', us, ea, ta, ha, _, _⟩ := list_at ho r0 at0
  cases ea
  have hne : i + 1 ≠ τ1 := by have := (List.getElem?_eq_some_iff.mp hi).1; omega
  refine node_end st hi hv r0 at0 hτ hτ1 ta trivial (fun _ => ho) ?_
  simp only [Rep]
  exact ⟨a, vs', rfl, by rw [if_pos ho']; exact ⟨ren_at ta (moveT_ne hne), upd_same⟩, ⟨hz, hL⟩, parts_op hne ta rl⟩
theorem Lt.set {o : Ow} {ds : List D} (h : Lt o ds) {j : Nat} {d : D} : Lt (o.more d.own) (ds.set j d) := by
  cases q : d.own with
  | true => exact fun z => by cases o <;> cases z
  | false =>
      intro z
      have z : o.light = true := by cases o <;> exact z
      have h := h z
      rw [ownL_iff] at h ⊢
      intro e he
      rcases List.mem_or_eq_of_mem_set he with he | rfl
      · exact h e he
      · exact q
theorem Lt.app {o : Ow} {ds : List D} (h : Lt o ds) {d : D} : Lt (o.more d.own) (ds ++ [d]) := by
  cases q : d.own with
  | true => exact fun z => by cases o <;> cases z
  | false =>
      intro z
      have z : o.light = true := by cases o <;> exact z
      rw [ownL_append, h z]
      simp [ownL, q]
theorem more_mine {o : Ow} (h : o.mine = true) (b : Bool) : (o.more b).mine = true := by cases o <;> cases b <;> first | rfl | cases h
end
def onLst (ρ : En) (i : Nat) (k : Ow → List D → Prop) : Prop := match ρ[i]? with
  | some (some (.lst o ds)) => match o with
    | .ice => False
    | .flat => k .flat ds
    | .deep => k .deep ds
  | _ => False
theorem onLst_elim {ρ : En} {i : Nat} {k : Ow → List D → Prop} (h : onLst ρ i k) : ∃ o ds, ρ[i]? = some (some (.lst o ds)) ∧ o.mine = true ∧ k o ds := by
  unfold onLst at h
  split at h
  · rename_i o ds e
    cases o with
    | ice => exact h.elim
    | flat => exact ⟨_, _, e, rfl, h⟩
    | deep => exact ⟨_, _, e, rfl, h⟩
  · exact h.elim
def natAt (o : Option Nat) (Q : Nat → Prop) : Prop := match o with
  | some j => Q j
  | none => False
theorem natAt_of {o : Option Nat} {j : Nat} {Q : Nat → Prop} (h : o = some j) (q : Q j) : natAt o Q := by subst h; exact q
theorem natAt_elim {o : Option Nat} {Q : Nat → Prop} (h : natAt o Q) : ∃ j, o = some j ∧ Q j := by
  unfold natAt at h
  split at h
  · exact ⟨_, rfl, h⟩
  · exact h.elim
/-- x[k] = e -/
def rSetL (i : Nat) (rk : RO) (re : RE) : RS := fun ρ E F => re ρ E fun d ρ1 => oN i ρ1 E fun _ ρ1' => rk ρ1' E fun k ρ2 => on1 ρ2 k fun dk => onLst ρ2 i fun o ds => match dk with
  | .int n => natAt (ixN ds.length n) fun j => nf (ρ2.set i (some (.lst (o.more d.own) (ds.set j d)))) F.nx
  | _ => False
theorem ixN_lt {n : Nat} {k : Int} {j : Nat} (h : ixN n k = some j) : j < n := by
  unfold ixN at h
  split at h
  · split at h
    · cases h; omega
    · cases h
  · split at h
    · cases h; omega
    · cases h
theorem oN_elim {ρ : En} {i : Nat} {E : EE} {Q : AD → En → Prop} (h : oN i ρ E Q) : (∃ d, ρ[i]? = some (some d)) ∧ Q (.brw i) ρ := by
  unfold oN at h
  split at h
  · exact ⟨⟨_, by assumption⟩, h⟩
  · exact h.elim
section
variable {X : Cx} {W : WX} {M : List Nat} {pos pos' p2 apos : Pos}
theorem fs_setL (i : Nat) {x : Str} {k e : Expr} {rk : RO} {re : RE} (he : FE X W e re) (hk : FO X W k rk) (hN : X.N[i]? = some x := by rfl) (hv : Vis X.env.scope x := by first | exact Or.inl rfl | exact Or.inr (Or.inl rfl) | exact Or.inr (Or.inr rfl)) (hd : (x == ("__debug__" : Str)) = false := by decide)
    (hcd : (x == ("__classdict__" : Str)) = false := by decide) (ha : ∀ v, assign (.Subscript (.Name x p2) k pos') X.env v = (do
      let ov ← holding [v] (eval (.Name x p2) X.env)
      let iv ← holding [v, ov] (eval k X.env)
      standAt pos'
      holding [v, ov, iv] (setItem ov iv v)
      release [v, ov, iv] []) := by intro _; rfl) (hs : swapsWithSole [.Subscript (.Name x p2) k pos'] e pos.line X.env = pure false := by rfl) (hw : swappedStores [.Subscript (.Name x p2) k pos'] e X.env = pure none := by rfl)
    (h1 : (assignEach [.Subscript (.Name x p2) k pos'] X.env).map (·.2) = [assign (.Subscript (.Name x p2) k pos') X.env] := by rfl) : FS X W M (.Assign [.Subscript (.Name x p2) k pos'] e pos) (rSetL i rk re) := by
  obtain ⟨t, p, l⟩ := he.ex
  obtain ⟨t', p', l'⟩ := hk.ex
  refine ⟨_, ps_asg p (pg_sub (pe_var hN hv hd hcd) p' set_list ha) hs hw h1, fun w σ ρ E F D st h hf => ?_⟩
  refine l _ w σ ρ E _ _ (Nat.lt_succ_self _) st h (fun d ρ1 w1 v h1 e1 r1 => ?_) hf.sx
  obtain ⟨⟨d0, e0⟩, h1⟩ := oN_elim h1
  obtain ⟨v0, ev, _⟩ := e1.st.rep i d0 e0
  refine ⟨v0, ev, ?_⟩
  refine l' (ρ1.length + 2) w1 σ ρ1 E _ _ (by omega) e1.st h1 (fun ak ρ2 w2 vk h2 e2 r2 => ?_) (hf.sx.then e1 (by rw [e1.len]; omega))
  have e12 := e1.trans e2 (by rw [e1.len]; omega)
  obtain ⟨dk, ek, h2⟩ := on1_elim h2
  obtain ⟨o, ds, ed, ho, h2⟩ := onLst_elim h2
  obtain ⟨ℓ, rk⟩ := ad_get e12.st r2 ek
  obtain ⟨v0', ev', r0⟩ := e12.st.rep i _ ed
  rw [ev] at ev'; cases ev'
  obtain ⟨a, us, rfl, ta, ha, ⟨hz, hL⟩, rl⟩ := list_at ho r0 .here
  cases dk with
  | int n =>
    simp only [Rep] at rk
    subst rk
    obtain ⟨j, ej, h2⟩ := natAt_elim h2
    · have r1' : Rep X.K w2 d [ρ.length + 1] v := e2.ext.rep (r := []) (by rw [e1.len]; omega) r1
      refine ⟨a, us, n, j, rfl, rfl, ha, by rw [rl.length]; exact ej, ?_⟩
      have hj := ixN_lt ej
      have rr : RepL X.K (w2.ren (moveT (ρ.length + 1) ((i + 1) :: [] ++ [j]))) (ds.set j d) ((i + 1) :: []) 0 (us.set j v) := by
        have hin := (List.getElem?_eq_some_iff.mp ed).1
        rw [e12.len] at hin
        refine RepL.set (RepL.of rl.length fun q dq vq e3 e4 => ?_) ?_
        · obtain ⟨v3, e5, r3⟩ := rl.get e3
          rw [e4] at e5; cases e5
          exact r3.mv (by omega)
        · rw [Nat.zero_add]; exact r1'.mvT
      have ee := list_end (i := i) (τ := ρ.length + 1) (p := []) ho (more_mine ho d.own) e12.st ed ev r0 .here (by rw [e12.len]; omega) (Nat.le_refl _) rr (by rw [List.length_set]; exact hz) hL.set
      exact hf.nx _ _ σ (nf_of h2) ((e12.trans ee (Nat.le_refl _)).s (Nat.lt_succ_self _))
  | _ => exact h2.elim
/-- x.append(e) -/
def rApp (i : Nat) (re : RE) : RE := fun ρ E Q => onLst ρ i fun _ _ => re ρ E fun d ρ1 => onLst ρ1 i fun o ds => ds.length < sizeLine ∧ nf (ρ1.set i (some (.lst (o.more d.own) (ds ++ [d])))) (Q .non)
theorem tyL {K : PySem.W.Frag} {w : Wd} (wf : Wf w) {o : Ow} {ds : List D} {ℓ : Loc} {v : V} (h : Rep K w (.lst o ds) ℓ v) : tyV K "list" v w.H := by
  obtain ⟨a, us, rfl, ha, _⟩ := lst_at wf h
  exact .inl ⟨rfl, _, SqL.of ha⟩
theorem fe_app (i : Nat) {x : Str} {e : Expr} {re : RE} (he : FE X W e re) (hN : X.N[i]? = some x := by rfl) (hv : Vis X.env.scope x := by first | exact Or.inl rfl | exact Or.inr (Or.inl rfl) | exact Or.inr (Or.inr rfl)) (hd : (x == ("__debug__" : Str)) = false := by decide)
    (hcd : (x == ("__classdict__" : Str)) = false := by decide) (hbase : attributeBase (.Name x p2) "append" X.env (eval (.Name x p2) X.env) = eval (.Name x p2) X.env := by rfl)
    (hfew : ((backTo pos (starEach [e] X.env)).all (fun x => !x.1) && (backToKw pos (keywordEach [] X.env)).all (fun x => x.1.isSome)
      && decide ([e].length + ([] : List Keyword).length + (if ([] : List Keyword).isEmpty then 0 else 1) < 30)) = true := by rfl)
    (hline : (apos.endLine == pos.line) = true := by rfl) (hs : starEach [e] X.env = (false, eval e X.env) :: starEach [] X.env := by rfl) (hplain : (backTo pos (starEach [] X.env)).any (·.1) = false := by rfl) :
    FE X W (.Call (.Attribute (.Name x p2) "append" apos) [e] [] pos) (rApp i re) := by
  obtain ⟨t, p, l⟩ := he.ex
  refine ⟨_, pe_bm PySem.F.plainAttrs_list PySem.F.slot_list_append PySem.F.type_list_append mt_append (pe_var hN hv hd hcd) (pa_cons p pa_nil hs) hbase hfew hline hs hplain, fun τ w σ ρ E Q Qv hn st h hq hx => ?_⟩
  obtain ⟨o0, ds0, e0, _, h⟩ := onLst_elim h
  obtain ⟨v0, ev, r00⟩ := st.rep i _ e0
  refine ⟨v0, ev, tyL st.wf r00, ?_⟩
  refine l τ w σ ρ E _ _ hn st h (fun d ρ1 w1 v h1 e1 r1 => ?_) hx
  obtain ⟨o, ds, ed, ho, hz, q⟩ := onLst_elim h1
  obtain ⟨v0', ev', r0⟩ := e1.st.rep i _ ed
  rw [ev] at ev'; cases ev'
  obtain ⟨a, us, rfl, ta, ha, ⟨hz0, hL⟩, rl⟩ := list_at ho r0 .here
  refine ⟨a, us, v, rfl, rfl, ha, by rw [rl.length]; exact hz, ?_⟩
  have hin := (List.getElem?_eq_some_iff.mp ed).1
  rw [e1.len] at hin
  have rr : RepL X.K (w1.ren (moveT τ ((i + 1) :: [] ++ [ds.length]))) (ds ++ [d]) ((i + 1) :: []) 0 (us ++ [v]) := by
    refine RepL.app (RepL.of rl.length fun q dq vq e3 e4 => ?_) (RepL.one ?_)
    · obtain ⟨v3, e5, r3⟩ := rl.get e3
      rw [e4] at e5; cases e5
      exact r3.mv (by omega)
    · rw [Nat.zero_add]; exact r1.mvT
  have ee := list_end (i := i) (τ := τ) (p := []) ho (more_mine ho d.own) e1.st ed ev r0 .here (by rw [e1.len]; exact hn) (Nat.le_refl _) rr (by rw [List.length_append]; exact hz) hL.app
  exact hq .non _ _ .non (nf_of q) (e1.trans ee (Nat.le_refl _)) rfl
end
end FL
namespace FL
open PySem PySem.Spec PyProof.Rows L2
/-- target = value, the value frozen -/
def rAsg (rg : RG) (re : RE) : RS := fun ρ E F => re ρ E fun d ρ' => rg d.frz ρ' F.nx
theorem fs_asg {X : Cx} {W : WX} {M : List Nat} {pos : Pos} (A : List Nat) {tg e : Expr} {rg : RG} {re : RE} (he : FE X W e re) (hg : FG X A tg rg) (hA : (M.all fun i => !A.contains i) = true := by rfl)
    (hs : swapsWithSole [tg] e pos.line X.env = pure false := by rfl) (hw : swappedStores [tg] e X.env = pure none := by rfl) (h1 : (assignEach [tg] X.env).map (·.2) = [assign tg X.env] := by rfl) : FS X W M (.Assign [tg] e pos) (rAsg rg re) := by
  obtain ⟨t, p, k⟩ := he.ex
  obtain ⟨g, pg, kg⟩ := hg.ex
  refine ⟨_, ps_asg p pg hs hw h1, fun w σ ρ E F D st h hf => ?_⟩
  refine k _ w σ ρ E _ _ (Nat.lt_succ_self _) st h (fun d ρ1 w1 v h1 e1 r1 => ?_) hf.sx
  obtain ⟨w2, e0, e2, r2⟩ := EndE.iceT (by rw [e1.len]; omega) e1.st r1
  have e12 := (e1.trans e2 (Nat.le_refl _)).s (M := M) (Nat.lt_succ_self _)
  rw [← e0]
  exact kg w2 σ ρ1 d.frz v _ _ (frz_own d) r2 e2.st h1 fun ρ' w' σ' q e => hf.nx ρ' w' σ' q (e12.trans (e.s hA))
/-- a def of the text, callable by its name -/
structure Df (K : PySem.W.Frag) (mg : Str → Option Value) (x : Str) (st : Stmt) (ps : List Str) (f : Addr) (fd : FuncData) : Prop where
  fn : Fun K x x st f fd
  mg : mg x = some (.ref f)
  b : Binds K fd ps []
/-- a law's end: what its def is given -/
theorem law_end {K : PySem.W.Frag} {H : Hp} {a : Addr} {ns : List Int} {r : FSpec} (hl : ns.length ≤ 63) (hs : SqL K H a (ns.map V.int)) (h : r [.ro false (ns.map D.int)] (fun _ _ _ => False) (fun d _ => d = .bl true)) :
    FnD K 1 [] r [V.ref a] H (fun v _ => v = V.bl true) (fun _ _ _ => False) := by
  refine ⟨rfl, ⟨fun _ => none, H, H⟩, [.ro false (ns.map D.int)], _, _, rfl, ⟨Same.refl _, fun _ _ h => nomatch h⟩, rfl, fun j d v e1 e2 => ?_, h, fun d os w' v q _ r => ?_, fun _ _ _ _ _ q _ _ => q⟩
  · cases j with
    | zero =>
      cases e1; cases e2
      simp only [Rep]
      refine ⟨a, _, rfl, hs, ⟨by rw [List.length_map, sizeLine_eq]; omega, ownL_iff.mpr fun d hd => by obtain ⟨n, _, rfl⟩ := List.mem_map.mp hd; rfl⟩, RepL.of (by rw [List.length_map, List.length_map]) fun i d v e1 e2 => ?_⟩
      rw [List.getElem?_map] at e1 e2
      cases q : ns[i]? with
      | none => rw [q] at e1; cases e1
      | some n => rw [q] at e1 e2; cases e1; cases e2; rfl
    | succ j => simp at e1
  · subst q
    exact r
theorem cx_none {P : Program} {w : World} {H : Hp} {s s' : Shared} {e : Value} (h : L2.CX P w [] H s (fun _ _ _ => False) e s') : False := by
  obtain ⟨_, _, _, _, _, _, _, _, _, _, _, _, z⟩ := h
  exact z
end FL
namespace FL
open PySem PySem.Spec PyProof.Rows L2
def tyOf : D → Option String
  | .non => some "NoneType"
  | .bl _ => some "bool"
  | .int _ => some "int"
  | .str _ => some "str"
  | .tup _ _ => some "tuple"
  | .lst _ _ => some "list"
  | .ro true _ => some "tuple"
  | .ro false _ => some "list"
  | .dct _ false _ _ => some "dict"
  | _ => none
def subTy (a b : String) : Bool := a == b || (a == "bool" && b == "int")
def tyKnown : List String := ["int", "bool", "str", "tuple", "list", "dict"]
def isTy (d : D) (n : String) : Option Bool := match tyOf d with
  | some a => if tyKnown.contains n then some (subTy a n) else none
  | none => none
theorem kit_known : ∀ a ∈ ["NoneType", "bool", "int", "str", "tuple", "list", "dict"], ∀ n ∈ tyKnown, kitB a n = some (subTy a n) := by decide +kernel
def dIsi : DC
  | [d, .ty n], Q => match isTy d n with
    | some b => Q (.bl b)
    | none => False
  | _, _ => False
theorem tyOf_rep {K : PySem.W.Frag} {w : Wd} (wf : Wf w) {d : D} {ℓ : Loc} {v : V} {a : String} (h : Rep K w d ℓ v) (e : tyOf d = some a) : TyX K w.H v (.type a) ∧ a ∈ ["NoneType", "bool", "int", "str", "tuple", "list", "dict"] := by
  cases d with
  | non => cases e; simp only [Rep] at h; subst h; exact ⟨.base .non, by decide⟩
  | bl b => cases e; simp only [Rep] at h; subst h; exact ⟨.base (.bl b), by decide⟩
  | int b => cases e; simp only [Rep] at h; subst h; exact ⟨.base (.int b), by decide⟩
  | str b => cases e; simp only [Rep] at h; subst h; exact ⟨.base (.str b), by decide⟩
  | tup o ds => cases e; obtain ⟨b, vs, rfl, h1, _⟩ := tup_at wf h; exact ⟨.base (.tup h1), by decide⟩
  | lst o ds => cases e; obtain ⟨b, vs, rfl, h1, _⟩ := lst_at wf h; exact ⟨.base (.lst h1), by decide⟩
  | ro t ds =>
    simp only [Rep] at h
    obtain ⟨b, vs, rfl, h1, _⟩ := h
    cases t with
    | true =>
      cases e
      refine ⟨?_, by decide⟩
      rcases same_rdT wf.sh h1 with (h1 | ⟨o, h1⟩) | ⟨o, _, _, h1, h2, _⟩
      · exact .base (.tup h1)
      · exact .fTuple h1
      · exact .kTuple h1 h2
    | false =>
      cases e
      refine ⟨?_, by decide⟩
      rcases wf.sh.seq h1 with (h1 | ⟨o, h1⟩) | ⟨o, _, _, h1, h2, _⟩
      · exact .base (.lst h1)
      · exact .base (.frz h1)
      · exact .kList h1 h2
  | dct o t ks ds =>
    cases t <;> cases e
    obtain ⟨b, vs, rfl, h1, _⟩ := dct_at wf h
    rcases h1 with h1 | ⟨o, h1⟩
    · exact ⟨.base (.dK h1), by decide⟩
    · exact ⟨.fDict h1, by decide⟩
  | _ => cases e
section
variable {X : Cx} {W : WX}
theorem fc_isi : FC X (.builtin "isinstance") dIsi := by
  refine ⟨_, call_isi, fun τ w σ ρ vs ds Q Qv hn st rs hd hq => ?_⟩
  unfold dIsi at hd
  split at hd
  · rename_i d n
    obtain ⟨v, u, ℓ, ℓ', rfl, r, r'⟩ := reps2 rs
    simp only [Rep] at r'
    subst r'
    unfold isTy at hd
    cases e : tyOf d with
    | none => simp only [e] at hd
    | some a =>
      simp only [e] at hd
      split at hd
      · rename_i b eb
        split at eb
        · rename_i hk
          cases eb
          obtain ⟨ty, hm⟩ := tyOf_rep st.wf r e
          exact ⟨v, .ty n, .type a, .type n, subTy a n, rfl, .ty n, ty, kit_ty (kit_known a hm n (by simpa using hk)), hq _ w _ hd (.refl st) rfl⟩
        · cases eb
      · exact hd.elim
  · exact hd.elim
theorem fe_ty {x : Str} {n : String} {pos : Pos} (hm : X.mg x = none) (hv : bootBuiltins x = some (.type n)) (hg : Gl X x := by rfl) (hn : x ≠ "__name__" := by decide) (hd : (x == ("__debug__" : Str)) = false := by decide) : FE X W (.Name x pos) (rC (.ty n)) :=
  ⟨_, pe_bltn (v := V.ty n) hg hm hv (show L2.RelV (V.ty n) (Value.type n) from rfl) hn hd, se_C fun _ _ => rfl⟩
end
end FL
namespace FL
open PySem PySem.Spec PyProof.Rows L2
theorem int_rmul_tup1 (a : Int) (t : Tok) (l : Addr) (its : Array Value) (n : Nat) (dd : Option Addr) (sl : Array (Option Value)) : Meets (Builtin.«int.__rmul__» ⟨[.int a t, .ref l], []⟩) (fun _ R s =>
    s.heap.get? l = some { cls := .type "tuple", dict := dd, data := .seq its n, slots := sl } ∧ R (.ok (.ret Value.notImplemented)) s) :=
  .of_wp fun prog w A R s h => by
    obtain ⟨hp, g, d, tk, os⟩ := s
    obtain ⟨hl, h⟩ := h
    wp_walk using wpAny_loadPart' hl
    exact ⟨_, rfl, h⟩
theorem tup_mul_one (l : Addr) (its : Array Value) (n : Nat) (dd : Option Addr) (sl : Array (Option Value)) (u : Tok) : Meets (Builtin.«tuple.__mul__» ⟨[.ref l, .int 1 u], []⟩) (fun _ R s =>
    s.heap.get? l = some { cls := .type "tuple", dict := dd, data := .seq its n, slots := sl } ∧ R (.ok (.ret (Value.ref l))) s) :=
  .of_wp fun prog w A R s h => by
    obtain ⟨hp, g, d, tk, os⟩ := s
    obtain ⟨hl, h⟩ := h
    have f1 := AutoSeq1.idx_int
    have c1 : (its.isEmpty || (1 : Int) == 1) = true := by simp
    wp_walk using wpAny_loadPart' hl
    exact ⟨_, rfl, h⟩
theorem tup_mul_none (l : Addr) (its : Array Value) (n : Nat) (dd : Option Addr) (sl : Array (Option Value)) (x : Int) (u : Tok) (h0 : x ≤ 0) (h1 : -(2 ^ 63) ≤ x) (hi : its.isEmpty = false) : Meets (Builtin.«tuple.__mul__» ⟨[.ref l, .int x u], []⟩) (fun _ R s =>
    s.heap.get? l = some { cls := .type "tuple", dict := dd, data := .seq its n, slots := sl } ∧
      R (.ok (.ret (Value.ref s.heap.objs.size))) { s with heap := s.heap.push { cls := Value.type "tuple", data := Data.seq #[] }, toks := s.toks }) :=
  .of_wp fun prog w A R s h => by
    obtain ⟨hp, g, d, tk, os⟩ := s
    obtain ⟨hl, h⟩ := h
    have f1 := AutoSeq1.idx_int
    have c0 : (decide (x < -(2 ^ 63)) || decide (x ≥ 2 ^ 63)) = false := by rw [decide_eq_false (by omega), decide_eq_false (by omega)]; rfl
    have c1 : (its.isEmpty || x == 1) = false := by rw [hi, Bool.false_or]; exact beq_eq_false_iff_ne.mpr (by omega)
    have c2 : (decide (x ≤ 0) || its.isEmpty) = true := by rw [decide_eq_true h0]; rfl
    wp_walk using wpAny_loadPart' hl
    refine wpAny_ite_false (decide_eq_false (by rw [c0]; exact Bool.false_ne_true)) ?_
    wp_walk using wpAny_loadPart' hl
    refine wpAny_ite_false (decide_eq_false (by rw [c1]; exact Bool.false_ne_true)) ?_
    wp_walk using wpAny_loadPart' hl
    exact ⟨_, rfl, h⟩
def rRep1 (K : PySem.W.Frag) : R2 := fun x y H Q => ∃ l k xs, x = .ref l ∧ y = .int k ∧ SqT K H l xs ∧ xs ≠ [] ∧ -(2 ^ 63) ≤ k ∧ k ≤ 1 ∧ (k = 1 → Q (.ref l) H) ∧ (k ≤ 0 → ∀ p, H p = none → Q (.ref p) (upd H p (.tup [])))
section
variable {X : Cx}
theorem op_rep1 : OpR X (binaryOp .Mult) (rRep1 X.K) := by
  intro pins s σ H x y v u Q I rx ry hyp
  obtain ⟨l, k, xs, rfl, rfl, hT, hne, h1, h2, q1, q0⟩ := hyp
  cases rx
  obtain ⟨t, rfl⟩ := ry
  obtain ⟨its, r, ⟨⟨cls, dd, data, sl⟩, ho, hc, n, hd⟩, hs⟩ := I.tuple hT
  simp only at hc hd
  subst hc hd
  have hi : its.toArray.isEmpty = false := by
    cases its with
    | nil => exact absurd (List.eq_nil_of_length_eq_zero r.length) hne
    | cons a b => rfl
  have road : ∀ {Q' : Value → Shared → Prop}, wpAny (model X.prog X.w) X.A (call (.builtin "tuple.__mul__") [.ref l, .int k t]) Q' X.xe s → wpAny (model X.prog X.w) X.A (binaryOp .Mult (.ref l) (.int k t)) Q' X.xe s := fun g =>
    wpAny_binaryOp_repeat_ref (T := "tuple") (U := "int") (by decide) ⟨_, ho, rfl⟩ (fun s' => typeIs_int s' k t) noFill_tuple_mul F.fills_int_mul F.slot_int_rmul repeat_tuple F.slot_int_index.lookup
      (call_meets F.slot_int_rmul (typeIs_int s k t) F.entry_int_rmul (F.args_int_rmul_2 _ _) (int_rmul_tup1 k t l its.toArray n dd sl) ⟨ho, rfl, ⟨_, ho, rfl⟩, g⟩)
  refine road ?_
  by_cases hk : k = 1
  · subst hk
    exact call_meets F.slot_tuple_mul ⟨_, ho, rfl⟩ F.entry_tuple_mul (F.args_tuple_mul_2 _ _) (tup_mul_one l its.toArray n dd sl t) ⟨ho, ⟨.ref l, H, I, rfl, q1 rfl⟩⟩
  · have hk : k ≤ 0 := by omega
    refine call_meets F.slot_tuple_mul ⟨_, ho, rfl⟩ F.entry_tuple_mul (F.args_tuple_mul_2 _ _) (tup_mul_none l its.toArray n dd sl k t hk h1 hi) ⟨ho, ?_⟩
    exact ⟨.ref s.heap.objs.size, _, I.laid (t' := s.toks) (o := .tup []) (fun b ob e => Heap.get?_push_of_some _ e) (Nat.le_refl _) ⟨Nat.zero_le _, [], .nil, IsTup.new _ _⟩, rfl, q0 hk _ (I.hok.fresh (Nat.le_refl _))⟩
theorem rep_own {xs : List D} (h : ownL xs = false) (n : Nat) : ownL (List.replicate n xs).flatten = false := by
  rw [ownL_iff]
  intro d hd
  obtain ⟨l, hl, hd⟩ := List.mem_flatten.mp hd
  rw [(List.mem_replicate.mp hl).2] at hd
  exact ownL_iff.mp h d hd
theorem rep_reps {K : PySem.W.Frag} {w : Wd} {xs : List D} {vs : List V} {ℓ ℓ' : Loc} {j : Nat} (h : ownL xs = false) (r : RepL K w xs ℓ' j vs) : ∀ n : Nat, RepL K w (List.replicate n xs).flatten ℓ 0 (List.replicate n vs).flatten
  | 0 => by simp [RepL]
  | n + 1 => by
    rw [List.replicate_succ, List.replicate_succ, List.flatten_cons, List.flatten_cons]
    exact (RepL.free (Same.refl _) xs h r).app (RepL.free (Same.refl _) _ (rep_own h n) (rep_reps (ℓ := ℓ) h r n))
theorem fop_repT : FOp X (binaryOp .Mult) (fun a b Q => ∃ xs k, a = .tup false xs ∧ b = .int k ∧ (xs ≠ [] ∧ xs.length ≤ 1000 ∧ -(2 ^ 63) ≤ k ∧ k ≤ 1000) ∧ Q (.tup false (List.replicate k.toNat xs).flatten)) := by
  refine ⟨_, op_repT.or op_rep1, fun τ w σ ρ x y dx dy ℓ ℓ' Q Qv hn st rx ry hq hv => ?_⟩
  obtain ⟨xs, k, rfl, rfl, ⟨hne, hl, h1, h2⟩, q⟩ := hq
  have hx := (tup_sz rx).2 rfl
  have rx0 := rx
  obtain ⟨a, vs, rfl, e1, e2⟩ := tup_at st.wf rx
  simp only [Rep] at ry
  subst ry
  have hv0 : vs ≠ [] := fun z => by subst z; have := e2.length; exact hne (List.eq_nil_of_length_eq_zero this.symm)
  by_cases hk : 2 ≤ k
  · refine .inl ⟨a, k, vs, rfl, rfl, SqT.of e1, hv0, hk, h2, by rw [e2.length]; exact hl, fun p n => ?_⟩
    obtain ⟨e, r⟩ := EndE.tup (τ := τ) false st n (rep_reps (ℓ := [τ]) hx e2 k.toNat) (by rw [PyProof.Rows.lm_len_rep_flat, sizeLine_eq]; have := Nat.mul_le_mul (show k.toNat ≤ 1000 by omega) hl; omega) (fun _ => rep_own hx _)
    exact hv _ _ _ q e r
  · refine .inr ⟨a, k, vs, rfl, rfl, SqT.of e1, hv0, h1, by omega, fun z => ?_, fun z p n => ?_⟩
    · subst z
      refine hv _ w _ q (.refl st) ?_
      have : (List.replicate (Int.toNat 1) xs).flatten = xs := by simp
      rw [this]
      exact rx0.free (Same.refl _) _ rfl
    · have : k.toNat = 0 := by omega
      rw [this] at q
      obtain ⟨e, r⟩ := EndE.tup (τ := τ) (ds := []) (vs := []) (ℓ := [τ]) false st n (by simp [RepL]) (Nat.zero_le _) (fun _ => rfl)
      exact hv _ _ _ q e r
end
/-- .. * .. of all kinds -/
def dMulX : DO
  | .tup false xs, .int k, Q => (xs ≠ [] ∧ xs.length ≤ 1000 ∧ -(2 ^ 63) ≤ k ∧ k ≤ 1000) ∧ Q (.tup false (List.replicate k.toNat xs).flatten)
  | .int a, .int b, Q => MulOk a b ∧ Q (.int (a * b))
  | .lst o a, .int k, Q => dMul (.lst o a) (.int k) Q
  | _, _, _ => False
theorem fop_mulX {X : Cx} : FOp X (binaryOp .Mult) dMulX := (fop_mul.or fop_repT).imp fun a b Q h => by
  unfold dMulX at h
  split at h
  · exact .inr ⟨_, _, rfl, rfl, h⟩
  · exact .inl h
  · exact .inl h
  · exact h.elim
end FL
namespace FL
open PySem PySem.Spec PyProof.Rows L2
/-- a list of frozen parts -/
def lstOf : D → Option (List D)
  | .lst o ds => match o with
    | .deep => none
    | _ => some ds
  | .ro t ds => match t with
    | false => some ds
    | true => none
  | _ => none
/-- a tuple of frozen parts -/
def tupOf : D → Option (List D)
  | .tup o ds => match o with
    | false => some ds
    | true => none
  | .ro t ds => match t with
    | true => some ds
    | false => none
  | _ => none
section
variable {K : PySem.W.Frag} {w : Wd}
theorem lst_seq (wf : Wf w) {d : D} {ds : List D} {ℓ : Loc} {v : V} (e : lstOf d = some ds) (r : Rep K w d ℓ v) : ∃ a vs, v = .ref a ∧ SqL K w.H a vs ∧ ds.length ≤ sizeLine ∧ ownL ds = false ∧ ∀ ℓ j, RepL K w ds ℓ j vs := by
  cases d with
  | lst o xs =>
    have hz := lst_sz r
    obtain ⟨a, vs, rfl, h1, h2⟩ := lst_at wf r
    have key : o.light = true → xs = ds → ∃ a' vs, V.ref a = .ref a' ∧ SqL K w.H a' vs ∧ ds.length ≤ sizeLine ∧ ownL ds = false ∧ ∀ ℓ j, RepL K w ds ℓ j vs := fun ho z => by
      subst z
      exact ⟨a, vs, rfl, SqL.of h1, hz.1, hz.2 ho, fun ℓ j => h2.free (Same.refl _) _ (hz.2 ho)⟩
    cases o with
    | deep => cases e
    | flat => exact key rfl (Option.some.inj e)
    | ice => exact key rfl (Option.some.inj e)
  | ro t xs =>
    cases t with
    | true => cases e
    | false =>
      cases e
      simp only [Rep] at r
      obtain ⟨a, vs, rfl, h1, hz, h2⟩ := r
      exact ⟨a, vs, rfl, wf.sh.seq h1, hz.1, hz.2, fun ℓ j => h2.free (Same.refl _) _ hz.2⟩
  | _ => cases e
theorem repl_ints : ∀ {ns : List Int} {ℓ : Loc} {j : Nat} {vs : List V}, RepL K w (ns.map D.int) ℓ j vs → vs = ns.map V.int
  | [], _, _, _, h => by simpa [RepL] using h
  | n :: ns, _, _, _, h => by
    simp only [List.map_cons, RepL, Rep] at h
    obtain ⟨v, r, rfl, rfl, h2⟩ := h
    rw [repl_ints h2]; rfl
theorem repl_bls : ∀ {ns : List Bool} {ℓ : Loc} {j : Nat} {vs : List V}, RepL K w (ns.map D.bl) ℓ j vs → vs = ns.map V.bl
  | [], _, _, _, h => by simpa [RepL] using h
  | n :: ns, _, _, _, h => by
    simp only [List.map_cons, RepL, Rep] at h
    obtain ⟨v, r, rfl, rfl, h2⟩ := h
    rw [repl_bls h2]; rfl
end
def dL1 (p : List D → (D → Prop) → Prop) : DC
  | [d], Q => match lstOf d with
    | some ds => p ds Q
    | none => False
  | _, _ => False
def dSum : DC := dL1 fun ds Q => ∃ ns : List Int, ds = ns.map D.int ∧ Q (.int ns.sum)
def dAll : DC := dL1 fun ds Q => ∃ bs : List Bool, ds = bs.map D.bl ∧ Q (.bl (bs.all id))
section
variable {X : Cx}
theorem fc_L1 {f : Value} {r : List V → Hp → VK → Prop} {p : List D → (D → Prop) → Prop} (hc : CallR X f r)
    (h : ∀ (τ : Nat) (w : Wd) (σ : Sl) (ρ : En) (a : Addr) (vs : List V) (ds : List D) (Q : D → Prop) (Qv : VK), ρ.length < τ → StE X.K w σ ρ → SqL X.K w.H a vs → ownL ds = false → ds.length ≤ sizeLine → (∀ ℓ j, RepL X.K w ds ℓ j vs) → p ds Q →
      (∀ d w' v, Q d → EndE X.K τ w σ ρ ρ w' → Rep X.K w' d [τ] v → Qv v w'.H) → r [.ref a] w.H Qv) : FC X f (dL1 p) := by
  refine ⟨r, hc, fun τ w σ ρ vs ds Q Qv hn st rs hd hq => ?_⟩
  unfold dL1 at hd
  split at hd
  · rename_i d
    obtain ⟨v, ℓ, rfl, rr⟩ := reps1 rs
    cases e : lstOf d with
    | none => simp only [e] at hd
    | some ds =>
      simp only [e] at hd
      obtain ⟨a, vs, rfl, h1, hz, ho, h2⟩ := lst_seq st.wf e rr
      exact h τ w σ ρ a vs ds Q Qv hn st h1 ho hz h2 hd hq
  · exact hd.elim
theorem fc_sum (hc : X.calm = true := by rfl) : FC X (.builtin "sum") dSum := fc_L1 (cr_sum hc) fun τ w σ ρ a vs ds Q Qv hn st h1 ho hz h2 ⟨ns, e, q⟩ hq => by
  subst e
  obtain rfl := repl_ints (h2 [] 0)
  exact ⟨a, ns, rfl, h1, hq _ w _ q (.refl st) rfl⟩
theorem fc_all (hc : X.calm = true := by rfl) : FC X (.builtin "all") dAll := fc_L1 (cr_all hc) fun τ w σ ρ a vs ds Q Qv hn st h1 ho hz h2 ⟨bs, e, q⟩ hq => by
  subst e
  obtain rfl := repl_bls (h2 [] 0)
  exact ⟨a, bs, rfl, h1, hq _ w _ q (.refl st) rfl⟩
end
abbrev RP := En → EE → (Option Int → En → Prop) → Prop
def SP (K : PySem.W.Frag) (W : WX) (t : TO) (r : RP) : Prop :=
  ∀ (τ : Nat) (w : Wd) (σ : Sl) (ρ : En) (E : EE) (Q : Option Int → En → Prop) (Qv : Option Int → Hp → Prop), ρ.length < τ → StE K w σ ρ → r ρ E Q →
    (∀ o ρ' w', Q o ρ' → EndE K τ w σ ρ ρ' w' → Qv o w'.H) → SX K W τ w σ ρ E → t σ w.H Qv
section
variable {K : PySem.W.Frag} {w : Wd}
theorem RepL.drop {ds : List D} {ℓ : Loc} {j : Nat} {vs : List V} (h : RepL K w ds ℓ j vs) (ho : ownL ds = false) (n : Nat) {ℓ' : Loc} {j' : Nat} : RepL K w (ds.drop n) ℓ' j' (vs.drop n) := by
  refine RepL.of (by rw [List.length_drop, List.length_drop, h.length]) fun i d v e1 e2 => ?_
  rw [List.getElem?_drop] at e1 e2
  obtain ⟨v', e3, r⟩ := h.get e1
  rw [e2] at e3; cases e3
  exact r.free (Same.refl _) d (ownL_iff.mp ho d (List.mem_of_getElem? e1))
theorem RepL.take {ds : List D} {ℓ : Loc} {j : Nat} {vs : List V} (h : RepL K w ds ℓ j vs) (n : Nat) : RepL K w (ds.take n) ℓ j (vs.take n) := by
  refine RepL.of (by rw [List.length_take, List.length_take, h.length]) fun i d v e1 e2 => ?_
  rw [List.getElem?_take] at e1 e2
  split at e1
  · obtain ⟨v', e3, r⟩ := h.get e1
    rw [if_pos (by assumption), e3] at e2; cases e2
    exact r
  · cases e1
end
section
variable {X : Cx} {W : WX} {M : List Nat}
theorem fs_setLcF (i : Nat) (vs : List Nat) {y : Str} {elt tg iter : Expr} {ifs : List Expr} {scope : Scope} {own : List (Str × Nat)} {py pos spos : Pos} {ri : RI} {rg : RG} {rt : RT} {re : RE} (hN : X.N.Nodup) (hi : FI X W tg iter ri) (ok : BlkOk X.N X.env.scope scope own)
    (hg : ∀ c : BlkC, FG (Cx.blkC X scope c) vs tg rg) (ht : ∀ c : BlkC, FTs (Cx.blkC X scope c) W0 ifs rt) (he : ∀ c : BlkC, FE (Cx.blkC X scope c) W0 elt re) (hy : X.N[i]? = some y := by rfl) (hyl : X.env.scope.names.lookup y = some .local := by rfl) (hM : M.contains i = false := by rfl)
    (hsw : swapsWith (.ListComp elt [⟨tg, iter, ifs, 0⟩] scope pos) (some (.Name y py)) spos.line X.env = pure true := by rfl) (hv : own.map (·.2) = vs := by rfl) (hc : X.calm = true := by rfl) (hs : ∀ x, foldedSetIterable iter X.env x = pure x := by intro _; rfl) :
    FS X W M (.Assign [.Name y py] (.ListComp elt [⟨tg, iter, ifs, 0⟩] scope pos) spos) (rSetF i (rComp ri rg rt re vs)) := by
  obtain ⟨wi, g, tt, te, p, pg, pt, pe, k⟩ := lc_ex vs hi hg ht he
  exact ⟨_, by have := ps_setLc (i := i) hc hN hy hyl hsw p ok (fun s H C cl fp => pg (s, H, C, cl, fp)) (fun s H C cl fp => pt (s, H, C, cl, fp)) (fun s H C cl fp => pe (s, H, C, cl, fp)) hs; rw [hv] at this; exact this, se_setF k hM⟩
end
end FL
namespace FL
open PySem PySem.Spec PyProof.Rows L2
def SqB (K : PySem.W.Frag) (b : Bool) (H : Hp) (a : Addr) (xs : List V) : Prop := if b then SqT K H a xs else SqL K H a xs
def itB (b : Bool) (h : Heap) (it a : Addr) (i : Nat) : Prop := if b then h.IsTupleIter it a i else h.IsListIter it a i
def isB (b : Bool) (h : Heap) (a : Addr) (its : Array Value) : Prop := if b then h.IsTuple a its else h.IsList a its
def obB (b : Bool) (a : Addr) : Obj := if b then { cls := .type "tuple_iterator", data := .fields #[.ref a, .int 0 0] } else { cls := .type "list_iterator", data := .fields #[.ref a, .int 0 0] }
theorem itB_obj {b : Bool} {h : Heap} {it a : Addr} {i : Nat} (q : itB b h it a i) : ∃ o, h.get? it = some o ∧ (o.cls = .type "tuple_iterator" ∨ o.cls = .type "list_iterator") ∧ ∀ v, o.data ≠ .cell v := by
  cases b with
  | true => obtain ⟨o, h1, h2, h3⟩ := (show h.IsTupleIter it a i from q); exact ⟨o, h1, .inl h2, fun v z => by rw [h3] at z; cases z⟩
  | false => obtain ⟨o, h1, h2, h3⟩ := (show h.IsListIter it a i from q); exact ⟨o, h1, .inr h2, fun v z => by rw [h3] at z; cases z⟩
theorem isB_obj {b : Bool} {h : Heap} {a : Addr} {its : Array Value} (q : isB b h a its) : ∃ o, h.get? a = some o ∧ (o.cls = .type "tuple" ∨ o.cls = .type "list") := by
  cases b with
  | true => obtain ⟨o, h1, h2, _⟩ := (show h.IsTuple a its from q); exact ⟨o, h1, .inl h2⟩
  | false => obtain ⟨o, h1, h2, _⟩ := (show h.IsList a its from q); exact ⟨o, h1, .inr h2⟩
theorem itB_at {b : Bool} {h h' : Heap} {it a : Addr} {i : Nat} (q : itB b h it a i) (k : ∀ o, h.get? it = some o → h'.get? it = some o) : itB b h' it a i := by
  cases b with
  | true => exact Heap.IsTupleIter.at (show h.IsTupleIter it a i from q) k
  | false => exact Heap.IsListIter.at (show h.IsListIter it a i from q) k
theorem row_apart {b : Bool} {h : Heap} {a e : Addr} {its : Array Value} {o : Obj} (q : isB b h a its) (he : h.get? e = some o) (hc : o.cls ≠ .type "tuple" ∧ o.cls ≠ .type "list") : a ≠ e := fun z => by
  obtain ⟨o', h1, h2⟩ := isB_obj q
  rw [z, he] at h1
  cases h1
  rcases h2 with h2 | h2
  · exact hc.1 h2
  · exact hc.2 h2
section
variable {X : Cx} {pins : List (Addr × Obj)} {σ : L2.St} {H : Hp} {s : Shared} {b : Bool} {a : Addr} {xs : List V}
theorem row_of (I : Inv X pins σ H s) (h : SqB X.K b H a xs) : ∃ its : List Value, Vals xs its ∧ isB b s.heap a its.toArray ∧ xs.length ≤ sizeLine := by
  cases b with
  | true => obtain ⟨its, r, p, z⟩ := I.tuple (show SqT X.K H a xs from h); exact ⟨its, r, p, z⟩
  | false => obtain ⟨its, r, p, z⟩ := I.list (show SqL X.K H a xs from h); exact ⟨its, r, p.isList, z⟩
theorem row_inj (I : Inv X pins σ H s) {ys : List V} (h : SqB X.K b H a xs) (g : SqB X.K b H a ys) : ys = xs := by
  cases b with
  | true => exact I.tuple_inj g h
  | false => exact I.list_inj g h
end
theorem draws_row {prog : Program} {w : World} {A : Around} (hh : A.handled = none) (b : Bool) (it a : Addr) (hne : a ≠ it) (its : Array Value) :
    Draws prog w A it [it, a] its.size (fun i v => its[i]? = some v) (fun i h => itB b h it a i ∧ isB b h a its) := by
  cases b with
  | true => exact Draws.tuple hh it a hne its
  | false => exact Draws.list hh it a hne its
theorem begins_row (b : Bool) (a : Addr) (its : Array Value) : Begins (.ref a) (obB b a) fun h => isB b h a its := by
  cases b with
  | true => exact begins_tuple a its
  | false => exact begins_list a its
theorem row_start {b : Bool} {h : Heap} {it a : Addr} (q : h.get? it = some (obB b a)) : itB b h it a 0 := by
  cases b with
  | true => exact ⟨_, q, rfl, rfl⟩
  | false => exact ⟨_, q, rfl, rfl⟩
set_option maxHeartbeats 1000000 in
theorem meets_enum_row {v : Value} {o : Obj} {Hs : Heap → Prop} (B : Begins v o Hs) : Meets (Builtin.«enumerate.__new__» ⟨[.type "enumerate", v], []⟩) (fun _ R s => Hs s.heap ∧
    R (.ok (.ret (.ref (s.heap.push o).objs.size))) { s with heap := (s.heap.push o).push { cls := .type "enumerate", data := .fields #[.none, .bool false, .ref s.heap.objs.size, rawInt 0, .none, .none] } }) :=
  .of_wp fun prog w A R s hyp => by
    obtain ⟨hp, g, d, tk, os⟩ := s
    obtain ⟨h1, h⟩ := hyp
    have hsub := sub_enumerate
    have road : ∀ {A' : Around} {E Q : Value → Shared → Prop}, Q (.ref hp.objs.size) ⟨hp.push o, g, d, tk, os⟩ → wpAny (model prog w) A' (pyIter v) Q E ⟨hp, g, d, tk, os⟩ :=
      fun q => B.iter prog w _ _ _ _ h1 q
    wp_walk using road
    refine wpAny_stack_any fun st => wpAny_pure ?_
    split
    · rename_i c _ _ _ _ _
      cases (c == Value.type "enumerate") <;> (wp_walk using road; exact ⟨_, rfl, h⟩)
    · wp_walk using road
      exact ⟨_, rfl, h⟩
theorem call_enum_row {prog : Program} {w : World} {A : Around} {E : Value → Shared → Prop} {s : Shared} {v : Value} {o : Obj} {Hs : Heap → Prop} {Q : Value → Shared → Prop} (B : Begins v o Hs) (h1 : Hs s.heap)
    (h : ∀ h', IsEnum h' (s.heap.objs.size + 1) s.heap.objs.size 0 .none → h'.get? s.heap.objs.size = some o → (∀ c u, s.heap.get? c = some u → h'.get? c = some u) → Q (.ref (s.heap.objs.size + 1)) { s with heap := h' }) :
    wpAny (model prog w) A (call (.type "enumerate") [v]) Q E s := by
  refine callType_new F.called_enumerate (by decide) (F.typeCall_enumerate_1 _) (F.newCall_enumerate_1 _) (fun obj => F.args_object_init_2 obj _) F.entry_enumerate_new (meets_enum_row B) ⟨h1, ?_⟩
  have z : (s.heap.push o).objs.size = s.heap.objs.size + 1 := Heap.size_push ..
  have he := Heap.get?_push_size (s.heap.push o) (o := { cls := .type "enumerate", data := .fields #[.none, .bool false, .ref s.heap.objs.size, rawInt 0, .none, .none] }) rfl
  rw [z] at he
  show _ ∧ _
  rw [z]
  exact ⟨⟨_, he, rfl⟩, h _ he (Heap.get?_push_of_some _ (Heap.get?_push_size _ B.free)) fun c u x => Heap.get?_push_of_some _ (Heap.get?_push_of_some _ x)⟩
def ItE (K : PySem.W.Frag) (b : Bool) (a : Addr) : It where
  go i H := ∃ (xs : List V) (x : V), SqB K b H a xs ∧ xs[i]? = some x
  yld i H v H' := ∃ T x, v = .ref T ∧ H T = none ∧ H' = upd H T (.tup [.int (i : Nat), x]) ∧ ∀ xs, SqB K b H a xs → xs[i]? = some x
  stop i H := ∃ xs : List V, SqB K b H a xs ∧ i = xs.length
def tnE (b : Bool) (a e it : Addr) (i : Nat) (h : Heap) : Prop := (∃ old, IsEnum h e it ((i : Nat) : Int) old) ∧ itB b h it a i ∧ e ≠ it
theorem turn_E {P : Program} {w : World} {K : PySem.W.Frag} {elts : List Expr} {kk : Nat} {tpos : Pos} (b : Bool) (a e it : Addr) : Turn P w K (.Tuple elts kk tpos) (ItE K b a) [e, it] e (tnE b a e it) where
  mem := List.mem_cons_self
  obj := fun i h ⟨⟨old, he⟩, hi, _⟩ c hc => by
    rcases List.mem_cons.mp hc with rfl | hc
    · exact ⟨_, he, fun v z => nomatch z⟩
    · rcases List.mem_cons.mp hc with rfl | hc
      · obtain ⟨o, h1, _, h3⟩ := itB_obj hi
        exact ⟨o, h1, h3⟩
      · cases hc
  keep := fun i h h' ⟨⟨old, he⟩, hi, hne⟩ k => ⟨⟨old, k e List.mem_cons_self _ he⟩, itB_at hi fun o q => k it (List.mem_cons_of_mem _ List.mem_cons_self) o q, hne⟩
  item := by
    intro X hP hw hK hc i pins s σ H E I hf ⟨⟨old, he⟩, hit, hne⟩ ⟨xs, x, hq, hx⟩
    subst hP hw hK
    obtain ⟨its, rv, p, hz⟩ := row_of I hq
    obtain ⟨u, hu, ru⟩ := rv.get hx
    obtain ⟨oi, hoi, hci, _⟩ := itB_obj hit
    have ai : a ≠ it := row_apart p hoi (by rcases hci with z | z <;> rw [z] <;> decide)
    have ae : a ≠ e := row_apart p he ⟨by simp, by simp⟩
    have D := draws_row (prog := X.prog) (w := X.w) (A := X.A.in1) (I.ok.hd hc) b it a ai its.toArray
    have hlt : i < its.toArray.size := by
      have := (List.getElem?_eq_some_iff.mp hx).1
      rw [rv.length] at this
      simpa using this
    refine wpAny_pyNext_enum_itemD D he ⟨hit, p⟩ hlt hne (by simp [hne, Ne.symm ae]) fun x' h' tk hx' ho st' hT hsz hk => ?_
    have ex : x' = u := by
      have : its.toArray[i]? = some u := by simpa using hu
      exact Option.some.inj (hx'.symm.trans this)
    subst ex
    refine ⟨_, rfl, wpAny_letOwnedTupleGo_enum (s := { s with heap := h', toks := tk + 1 }) ho fun h2 he2 sb => ?_⟩
    have hel : e < s.heap.objs.size := Heap.lt_size he
    have hil : it < s.heap.objs.size := Heap.lt_size hoi
    have old2 : ∀ c u', c ∉ [e, it] → s.heap.get? c = some u' → h2.get? c = some u' := fun c u' hn q => (sb.2 c fun z => hn (by simp [z])).trans (hk c u' (fun z => hn (by simp [z])) (fun z => hn (by simp [z])) q)
    have hT2 := (sb.2 _ (Nat.ne_of_gt hel)).trans hT
    have I2 := I.turnedNew (t' := tk + 1) (ob := .tup [.int (i : Nat), x]) old2 hf (Nat.le_refl _) ⟨(by decide : 2 ≤ sizeLine), [.int i tk, x'], .cons ⟨_, rfl⟩ (.cons ru .nil), ⟨_, hT2, rfl, _, rfl⟩⟩
    refine ⟨.ref s.heap.objs.size, _, I2, rfl, ⟨_, x, rfl, I.hok.fresh (Nat.le_refl _), rfl, fun ys hy => by rw [row_inj I hq hy]; exact hx⟩, ⟨⟨x', he2⟩, itB_at st'.1 fun o q => (sb.2 it (Ne.symm hne)).trans q, hne⟩, fun c hc => ?_⟩
    have hlc : c < s.heap.objs.size := by
      rcases List.mem_cons.mp hc with rfl | hc
      · exact hel
      · rcases List.mem_cons.mp hc with rfl | hc
        · exact hil
        · cases hc
    rw [upd_ne (Nat.ne_of_lt hlc)]
    exact (hf c hc).1
  done := by
    intro X hP hw hK hc i pins s σ H E I hf ⟨⟨old, he⟩, hit, hne⟩ ⟨xs, hq, hx⟩
    subst hP hw hK
    obtain ⟨its, rv, p, hz⟩ := row_of I hq
    have hl := rv.length
    obtain ⟨oi, hoi, hci, _⟩ := itB_obj hit
    have ai : a ≠ it := row_apart p hoi (by rcases hci with z | z <;> rw [z] <;> decide)
    have D := draws_row (prog := X.prog) (w := X.w) (A := X.A.in1) (I.ok.hd hc) b it a ai its.toArray
    have hn : its.toArray.size = i := by rw [List.size_toArray, ← hl]; exact hx.symm
    obtain ⟨f0, f1, f2, f3, f4, f5⟩ := hf it (by simp)
    exact wpAny_pyNext_enum_endD D he (by rw [hn]; exact ⟨hit, p⟩) fun h' eb => ⟨rfl, I.turned (t' := s.toks) (fun c o hb q => eb c o hb q) f0 f1 f3 f4 f5⟩
  self := fun A i s Q E ⟨⟨_, he⟩, _⟩ h => wpAny_pyIter_enum he h
section
variable {X : Cx} {e e2 : Expr} {ta : TA} {p pos tpos : Pos} {elts : List Expr} {kk : Nat}
def iE (K : PySem.W.Frag) (ta : TA) : TI := fun σ H R => ta σ H fun vs H1 => ∃ b a xs, vs = [.ref a] ∧ SqB K b H1 a xs ∧ R (ItE K b a) H1
theorem pi_E (hg : Gl X "enumerate") (hm : X.mg "enumerate" = none) (ha : PA X [e] ta) (hs : starEach [e] X.env = [(false, eval e X.env)] := by rfl) : PI X (.Tuple elts kk tpos) (.Call (.Name "enumerate" p) [e] [] pos) (iE X.K ta) := by
  refine ⟨fun pins s σ H R I h => Call_ (ld_blt I hg hm boot_enumerate (PyProof.Rows.callWith_type1 (thn (ha.run pos pins s σ H _ I h) fun us s1 ⟨vs, H1, I1, r1, b, a, xs, ev, hq, q⟩ => ?_) hs rfl))⟩
  subst ev
  rw [Vals.ref1 r1]
  obtain ⟨its, rv, p', hz⟩ := row_of I1 hq
  refine call_enum_row (begins_row b a its.toArray) p' fun h' he hit hk => wpAny_pyIter_enum he ?_
  refine ⟨s1.heap.objs.size + 1, [s1.heap.objs.size + 1, s1.heap.objs.size], _, _, H1, rfl, I1.kept (t' := s1.toks) hk, turn_E b a (s1.heap.objs.size + 1) s1.heap.objs.size, ⟨⟨.none, he⟩, row_start hit, Nat.succ_ne_self _⟩, fun c hc => ?_, q⟩
  have hle : s1.heap.objs.size ≤ c := by
    rcases List.mem_cons.mp hc with rfl | hc
    · exact Nat.le_succ _
    · rcases List.mem_cons.mp hc with rfl | hc
      · exact Nat.le_refl _
      · cases hc
  exact I1.fpOk hle (I1.hok.fresh hle)
end
/-- a list's or a tuple's frozen parts -/
def rowOf (d : D) : Option (List D) := match lstOf d with
  | some ds => some ds
  | none => tupOf d
section
variable {K : PySem.W.Frag} {w : Wd}
theorem SqB.same {b : Bool} {H H' : Hp} {a : Addr} {xs : List V} (e : Same H H') (h : SqB K b H a xs) : SqB K b H' a xs := by
  cases b with
  | true => exact same_rdT e h
  | false => exact e.seq h
theorem row_frz {d : D} {ds : List D} {ℓ : Loc} {v : V} (e : rowOf d = some ds) (r : Rep K w d.frz ℓ v) : ∃ b a vs, v = .ref a ∧ SqB K b w.S a vs ∧ ds.length ≤ sizeLine ∧ ownL ds = false ∧ ∀ ℓ j, RepL K w ds ℓ j vs := by
  have lst : ∀ {o : Ow} {xs : List D}, o.light = true → Rep K w (D.lst o xs).frz ℓ v → ∃ b a vs, v = .ref a ∧ SqB K b w.S a vs ∧ xs.length ≤ sizeLine ∧ ownL xs = false ∧ ∀ ℓ j, RepL K w xs ℓ j vs := fun {o xs} ho r => by
    have : (D.lst o xs).frz = .lst .ice xs := by cases o <;> first | rfl | cases ho
    rw [this] at r
    simp only [Rep] at r
    obtain ⟨a, vs, rfl, h1, hz, h2⟩ := r
    have h1 : w.S a = some (.lst vs) := h1
    exact ⟨false, a, vs, rfl, SqL.of h1, hz.1, hz.2 rfl, fun ℓ j => h2.free (Same.refl _) _ (hz.2 rfl)⟩
  cases d with
  | lst o xs =>
    cases o with
    | ice => cases e; exact lst rfl r
    | flat => cases e; exact lst rfl r
    | deep => cases e
  | tup o xs =>
    cases o with
    | true => cases e
    | false =>
      cases e
      simp only [D.frz, Rep] at r
      obtain ⟨a, vs, rfl, h1, hz, h2⟩ := r
      have ho : ownL ds = false := by have := hz.2; simpa using this
      exact ⟨true, a, vs, rfl, SqT.of h1, hz.1, ho, fun ℓ j => h2.free (Same.refl _) _ ho⟩
  | ro t xs =>
    cases t with
    | true =>
      cases e
      simp only [D.frz, Rep] at r
      obtain ⟨a, vs, rfl, h1, hz, h2⟩ := r
      exact ⟨true, a, vs, rfl, h1, hz.1, hz.2, fun ℓ j => h2.free (Same.refl _) _ hz.2⟩
    | false =>
      cases e
      simp only [D.frz, Rep] at r
      obtain ⟨a, vs, rfl, h1, hz, h2⟩ := r
      exact ⟨false, a, vs, rfl, h1, hz.1, hz.2, fun ℓ j => h2.free (Same.refl _) _ hz.2⟩
  | _ => cases e
/-- all temporaries from τ on frozen -/
theorem EndE.iceA {σ : Sl} {ρ : En} {τ : Nat} {ads : List AD} {vs : List V} {ds : List D} (hn : ρ.length < τ) (st : StE K w σ ρ) (r : ArgsAt K w σ ads τ vs) (e : vals ads = some ds) :
    ∃ w' : Wd, w'.H = w.H ∧ EndE K τ w σ ρ ρ w' ∧ ∀ (i : Nat) (d : D) (v : V), ds[i]? = some d → vs[i]? = some v → ∀ ℓ, Rep K w' d.frz ℓ v := by
  obtain ⟨_, _, g⟩ := vals_at r e
  refine ⟨w.ice fun ℓ => match ℓ with | h :: _ => decide (τ ≤ h) | [] => false, rfl, ⟨rfl, st.to st.wf.ice (ice_same st.wf) fun i hi => ice_kept fun s => ?_, ⟨ice_same st.wf, fun a ℓ e ⟨h, s, e2, k⟩ => ?_⟩⟩, fun i d v e1 e2 ℓ => ?_⟩
  · show decide (τ ≤ i + 1) = false
    simp; omega
  · subst e2
    have := ice_kept (w := w) (ℓ := h :: s) (P := fun ℓ => match ℓ with | h :: _ => decide (τ ≤ h) | [] => false) (fun t => by
      show decide (τ ≤ h) = false
      simp; omega) a [] (by simpa using e)
    simpa using this
  · exact Rep.frz (w := w) (ice_same st.wf) d (ice_frz fun s => by show decide (τ ≤ τ + i) = true; simp) (g i d v e1 e2)
def enD : Nat → List D → List D
  | _, [] => []
  | k, d :: r => .tup false [.int k, d] :: enD (k + 1) r
theorem enD_get : ∀ (k : Nat) (ds : List D) (i : Nat), (enD k ds)[i]? = (ds[i]?).map fun d => .tup false [.int ((k + i : Nat) : Int), d]
  | k, [], i => by simp [enD]
  | k, d :: r, 0 => rfl
  | k, d :: r, i + 1 => by
    have := enD_get (k + 1) r i
    rw [show k + 1 + i = k + (i + 1) by omega] at this
    simpa [enD] using this
theorem enD_len : ∀ (k : Nat) (ds : List D), (enD k ds).length = ds.length
  | _, [] => rfl
  | k, d :: r => by simp [enD, enD_len (k + 1) r]
theorem pair_new {w1 : Wd} (wf : Wf w1) {T : Addr} (n : w1.H T = none) {d e : D} {x y : V} (hd : d.own = false) (he : e.own = false) (r : ∀ ℓ, Rep K w1 d ℓ x) (r' : ∀ ℓ, Rep K w1 e ℓ y) :
    Grow w1 (w1.shr T (.tup [x, y])) ∧ ∀ ℓ, Rep K (w1.shr T (.tup [x, y])) (.tup false [d, e]) ℓ (.ref T) := by
  refine ⟨⟨wf.shr n, shr_same wf n, fun ℓ => shr_kept wf n⟩, fun ℓ => ?_⟩
  simp only [Rep]
  refine ⟨T, [x, y], rfl, upd_same, ⟨(by decide : 2 ≤ sizeLine), fun _ => by simp [ownL, hd, he]⟩, RepL.to (w := w1) (shr_same wf n) [d, e] (shr_kept wf n) ?_⟩
  simp only [RepL]
  exact ⟨x, [y], rfl, r _, y, [], rfl, r' _, rfl⟩
theorem it_E {b : Bool} {a : Addr} {vs : List V} {ds : List D} (h : SqB K b w.S a vs) (ho : ownL ds = false) (r : ∀ ℓ j, RepL K w ds ℓ j vs) : ItOk K (ItE K b a) (enD 0 ds) w := by
  intro i w1 wf1 sm
  have hq : SqB K b w1.H a vs := (h.same sm).same wf1.sh
  refine ⟨fun d e => ?_, fun hl => ⟨vs, hq, by rw [hl, enD_len, (r [] 0).length]⟩⟩
  rw [enD_get] at e
  cases q : ds[i]? with
  | none => rw [q] at e; cases e
  | some x =>
    rw [q] at e; cases e
    obtain ⟨v, ev, rv⟩ := (r [] 0).get q
    have hx : x.own = false := ownL_iff.mp ho x (List.mem_of_getElem? q)
    refine ⟨⟨vs, v, hq, ev⟩, fun u H' ⟨T, y, eu, nT, eH, hy⟩ => ?_⟩
    subst eu; subst eH
    have := hy vs hq
    rw [ev] at this; cases this
    obtain ⟨g1, g2⟩ := pair_new wf1 nT (d := .int i) rfl hx (fun ℓ => rfl) (fun ℓ => rv.free sm x hx)
    refine ⟨w1.shr T (.tup [.int (i : Nat), v]), rfl, g1, rfl, fun ℓ => ?_⟩
    rw [Nat.zero_add]
    exact g2 ℓ
end
def rEn (ra : RA) : RI := fun ρ E Q => ra ρ E fun ads ρ' => onVals ads fun ds => match ds with
  | [d] => match rowOf d with
    | some xs => Q (enD 0 xs) ρ'
    | none => False
  | _ => False
section
variable {X : Cx} {W : WX} {p pos tpos : Pos} {elts : List Expr} {kk : Nat} {ra : RA}
theorem fi_enum {e : Expr} (ha : FA X W [e] ra) (hm : X.mg "enumerate" = none) (hg : Gl X "enumerate" := by rfl) (hs : starEach [e] X.env = [(false, eval e X.env)] := by rfl) : FI X W (.Tuple elts kk tpos) (.Call (.Name "enumerate" p) [e] [] pos) (rEn ra) := by
  obtain ⟨t, q, k⟩ := ha.ex
  refine ⟨_, pi_E hg hm q hs, fun τ w σ ρ E Q R hn st h hq hx => ?_⟩
  refine k τ w σ ρ E _ _ hn st h (fun ads ρ1 w1 vs h1 l1 e1 r1 => ?_) hx
  obtain ⟨ds, ed, h1⟩ := onVals_elim h1
  obtain ⟨w2, e0, e2, g⟩ := EndE.iceA (by rw [e1.len]; exact hn) e1.st r1 ed
  obtain ⟨l2, _, _⟩ := vals_at r1 ed
  match ds, vs, l2, h1, g with
  | [d], [v], _, h1, g =>
    have h1 : (match rowOf d with | some xs => Q (enD 0 xs) ρ1 | none => False) := h1
    cases er : rowOf d with
    | none => rw [er] at h1; exact h1.elim
    | some xs =>
      rw [er] at h1
      obtain ⟨b, a, us, rfl, h2, hz, ho, h3⟩ := row_frz er (g 0 d v rfl rfl [])
      rw [← e0]
      exact ⟨b, a, us, rfl, h2.same e2.st.wf.sh, hq _ ρ1 w2 _ h1 (by rw [enD_len]; exact hz) (e1.trans e2 (Nat.le_refl _)) (it_E h2 ho h3)⟩
end
def ItRow (K : PySem.W.Frag) (b : Bool) (a : Addr) : It := if b then Itt K a else Itl K a
def iRow (K : PySem.W.Frag) (te : TE) : TI := fun σ H R => te σ H fun x H1 => ∃ b a xs, x = .ref a ∧ SqB K b H1 a xs ∧ R (ItRow K b a) H1
theorem pi_row {X : Cx} {tg e : Expr} {te : TE} (he : PE X e te) : PI X tg e (iRow X.K te) := by
  refine ⟨fun pins s σ H R I h => thn (he.run pins s σ H _ I h) fun v s1 ⟨x, H1, I1, r1, b, a, xs, ev, hq, q⟩ => ?_⟩
  subst ev
  cases r1
  obtain ⟨its, rv, p, hz⟩ := row_of I1 hq
  refine (begins_row b a its.toArray).iter _ _ _ _ s1 _ p ?_
  have hf : ∀ c ∈ [s1.heap.objs.size], FpOk X pins H1 c := fun c hc => by
    rw [List.mem_singleton.mp hc]
    exact I1.fpOk (Nat.le_refl _) (I1.hok.fresh (Nat.le_refl _))
  cases b with
  | true => exact ⟨_, _, _, _, H1, rfl, I1.kept (t' := s1.toks) fun c o e => Heap.get?_push_of_some _ e, turn_tuple a _, ⟨_, Heap.get?_push_size _ rfl, rfl, rfl⟩, hf, q⟩
  | false => exact ⟨_, _, _, _, H1, rfl, I1.kept (t' := s1.toks) fun c o e => Heap.get?_push_of_some _ e, turn_list a _, ⟨_, Heap.get?_push_size _ rfl, rfl, rfl⟩, hf, q⟩
def rItA (re : RE) : RI := fun ρ E Q => re ρ E fun d ρ' => match rowOf d with
  | some ds => Q ds ρ'
  | none => False
theorem fi_row {X : Cx} {W : WX} {tg e : Expr} {re : RE} (h : FE X W e re) : FI X W tg e (rItA re) := by
  obtain ⟨t, q, k⟩ := h.ex
  refine ⟨_, pi_row q, fun τ w σ ρ E Q R hn st h hq hx => ?_⟩
  refine k τ w σ ρ E _ _ hn st h (fun d ρ1 w1 v h1 e1 r1 => ?_) hx
  cases er : rowOf d with
  | none => simp only [er] at h1
  | some ds =>
    simp only [er] at h1
    obtain ⟨w2, e0, e2, r2⟩ := EndE.iceT (by rw [e1.len]; exact hn) e1.st r1
    obtain ⟨b, a, vs, rfl, h2, hz, ho, h3⟩ := row_frz er (r2 [])
    rw [← e0]
    refine ⟨b, a, vs, rfl, h2.same e2.st.wf.sh, hq ds ρ1 w2 _ h1 hz (e1.trans e2 (Nat.le_refl _)) ?_⟩
    cases b with
    | true => exact it_tup h2 ho fun ℓ => h3 ℓ 0
    | false => exact it_list h2 ho fun ℓ => h3 ℓ 0
def rFrz (re : RE) : RE := fun ρ E Q => re ρ E fun d ρ' => Q d.frz ρ'
theorem fe_frz {X : Cx} {W : WX} {e : Expr} {re : RE} (h : FE X W e re) : FE X W e (rFrz re) := by
  obtain ⟨t, q, k⟩ := h.ex
  refine ⟨_, q, fun τ w σ ρ E Q Qv hn st h hq hx => ?_⟩
  refine k τ w σ ρ E _ _ hn st h (fun d ρ1 w1 v h1 e1 r1 => ?_) hx
  obtain ⟨w2, e0, e2, r2⟩ := EndE.iceT (by rw [e1.len]; exact hn) e1.st r1
  rw [← e0]
  exact hq _ ρ1 w2 v h1 (e1.trans e2 (Nat.le_refl _)) (r2 _)
end FL
namespace FL
open PySem PySem.Spec PyProof.Rows L2
mutual
theorem eqv_self : ∀ x : PyData, x.plain = true → PyData.eqv x x = true
  | .none, _ => by simp [PyData.eqv]
  | .bool _, _ => by simp [PyData.eqv]
  | .int _, _ => by simp [PyData.eqv]
  | .str _, _ => by simp [PyData.eqv]
  | .list xs, h => by simp only [PyData.eqv]; exact eqvAll_self xs (by simpa [PyData.plain] using h)
  | .tuple xs, h => by simp only [PyData.eqv]; exact eqvAll_self xs (by simpa [PyData.plain] using h)
  | .dict _, h => by simp [PyData.plain] at h
theorem eqvAll_self : ∀ xs : List PyData, PyData.plainAll xs = true → PyData.eqvAll xs xs = true
  | [], _ => by simp [PyData.eqvAll]
  | x :: xs, h => by
    simp only [PyData.plainAll, Bool.and_eq_true] at h
    simp only [PyData.eqvAll, eqv_self x h.1, eqvAll_self xs h.2, Bool.and_self]
end
theorem deq_py {a b : D} (h : a.dat = true) (e : a.py = b.py) : deq a b = true := by
  unfold deq
  rw [← e]
  exact eqv_self _ (py_plain a h)
theorem datL_all {ds : List D} : datL ds = true ↔ ∀ d ∈ ds, d.dat = true := by
  induction ds with
  | nil => simp [datL]
  | cons d r ih => simp [datL, ih]
theorem datL_map {α : Type} {f : α → D} {xs : List α} (h : ∀ x ∈ xs, (f x).dat = true) : datL (xs.map f) = true := datL_all.mpr fun d hd => by
  obtain ⟨x, hx, rfl⟩ := List.mem_map.mp hd
  exact h x hx
theorem depL_le {ds : List D} {n : Nat} (h : ∀ d ∈ ds, d.dep ≤ n) : depL ds ≤ n := by
  induction ds with
  | nil => simp [depL]
  | cons d r ih =>
    simp only [depL]
    have h1 := h d List.mem_cons_self
    have h2 := ih fun e he => h e (List.mem_cons_of_mem _ he)
    omega
theorem compR_map {α : Type} {f : D → En → (Option D → En → Prop) → Prop} {vs : List Nat} {Q : Ow → List D → En → Prop} (g : α → D) (h : α → Option D) : ∀ (xs : List α) (acc : List D) (ρ : En),
    (∀ x ∈ xs, f (g x) ρ fun o ρ' => o = h x ∧ wipeD ρ' vs = ρ) → (∀ x ∈ xs, ∀ y, h x = some y → y.own = false) → Q .flat (acc ++ xs.filterMap h) ρ → compR f vs (xs.map g) ρ .flat acc Q
  | [], acc, ρ, _, _, q => by simpa [compR] using q
  | x :: xs, acc, ρ, k, ho, q => by
    refine ⟨_, k x List.mem_cons_self, fun o ρ' ⟨e1, e2⟩ => ?_⟩
    subst e1
    have : kindR .flat (h x) = .flat := by
      cases e : h x with
      | none => rfl
      | some y =>
        have := ho x List.mem_cons_self y e
        simp only [kindR, this]
    rw [this, e2]
    refine compR_map g h xs _ ρ (fun x' hx => k x' (List.mem_cons_of_mem _ hx)) (fun x' hx => ho x' (List.mem_cons_of_mem _ hx)) ?_
    rw [List.append_assoc]
    have e : (h x).toList ++ xs.filterMap h = (x :: xs).filterMap h := by
      rw [List.filterMap_cons]
      cases h x <;> rfl
    rw [e]
    exact q
/-- .. each part by a rule -/
theorem compR_all {α : Type} {f : D → En → (Option D → En → Prop) → Prop} {vs : List Nat} {Q : Ow → List D → En → Prop} (g h : α → D) (xs : List α) (ρ : En)
    (k : ∀ x ∈ xs, f (g x) ρ fun o ρ' => o = some (h x) ∧ wipeD ρ' vs = ρ) (ho : ∀ x, (h x).own = false) (q : Q .flat (xs.map h) ρ) : compR f vs (xs.map g) ρ .flat [] Q :=
  compR_map g (fun x => some (h x)) xs [] ρ k (fun x _ y e => by cases e; exact ho x) (by
    have e : xs.filterMap (fun x => some (h x)) = xs.map h := by simp
    rw [List.nil_append, e]
    exact q)
/-- what is equal is not told unequal -/
theorem ne_no {a b : D} (h : (true ^^ deq a b) = true) (hd : a.dat = true) (e : a.py = b.py) : False := by
  rw [deq_py hd e] at h
  cases h
end FL
namespace FL
open PySem PySem.Spec PyProof.Rows L2
section
variable {κ : Type} [DecidableEq κ]
theorem putK_zip (f : D → κ) (k : D) (v : V) : ∀ (ks : List D) (us : List V), ks.length = us.length → (ks.map f).Nodup →
    putK ((ks.map f).zip us) (f k) v = match ks.findIdx? fun k' => decide (f k' = f k) with
      | some i => (ks.map f).zip (us.set i v)
      | none => ((ks ++ [k]).map f).zip (us ++ [v])
  | [], [], _, _ => by simp [putK]
  | a :: ks, u :: us, hl, hn => by
    rw [List.map_cons, List.nodup_cons] at hn
    have ih := putK_zip f k v ks us (by simpa using hl) hn.2
    rw [List.findIdx?_cons]
    by_cases e : f a = f k
    · rw [if_pos (by simpa using e)]
      have hno : ∀ p ∈ (ks.map f).zip us, p.1 ≠ f k := fun p hp z => hn.1 (by rw [e, ← z]; exact (List.of_mem_zip hp).1)
      unfold putK
      rw [if_pos (by simp [e])]
      simp only [List.map_cons, List.zip_cons_cons, e, if_true, List.set_cons_zero]
      congr 1
      have : ((ks.map f).zip us).map (fun kv => if kv.1 = f k then (kv.1, v) else kv) = ((ks.map f).zip us).map id := List.map_congr_left fun p hp => if_neg (hno p hp)
      rw [this, List.map_id]
    · rw [if_neg (by simpa using e)]
      unfold putK at ih ⊢
      rw [List.map_cons, List.zip_cons_cons, List.any_cons, decide_eq_false (by exact e), Bool.false_or]
      cases q : ks.findIdx? fun k' => decide (f k' = f k) with
      | none =>
        rw [q] at ih
        by_cases b : (((ks.map f).zip us).any fun kv => decide (kv.1 = f k)) = true
        · rw [if_pos b] at ih ⊢
          rw [List.map_cons, if_neg (by exact e), ih]
          simp
        · rw [if_neg b] at ih ⊢
          simp only [Option.map_none, List.cons_append, List.map_cons, List.zip_cons_cons]
          rw [ih]
      | some i =>
        rw [q] at ih
        by_cases b : (((ks.map f).zip us).any fun kv => decide (kv.1 = f k)) = true
        · rw [if_pos b] at ih ⊢
          rw [List.map_cons, if_neg (by exact e), ih]
          simp
        · rw [if_neg b] at ih ⊢
          have ih : (ks.map f).zip us ++ [(f k, v)] = (ks.map f).zip (us.set i v) := ih
          show (f a, u) :: ((ks.map f).zip us ++ [(f k, v)]) = (f a, u) :: (ks.map f).zip (us.set i v)
          rw [ih]
end
/-- the keys behind d[k] = .. -/
def putKs (t : Bool) (ks : List D) (k : D) : List D := match kIdx t ks k with
  | some _ => ks
  | none => ks ++ [k]
def putDs {α : Type} (t : Bool) (ks : List D) (k : D) (ds : List α) (d : α) : List α := match kIdx t ks k with
  | some i => ds.set i d
  | none => ds ++ [d]
theorem idx_none {t : Bool} {ks : List D} {k : D} (h : kIdx t ks k = none) : ∀ k' ∈ ks, keyEq t k' k = false := fun k' hk => by
  have := List.findIdx?_eq_none_iff.mp h k' hk
  simpa using this
theorem putKs_ok {t : Bool} {ks : List D} {k : D} (h : keysOk t ks = true) (hk : keyOk t k = true) : keysOk t (putKs t ks k) = true := by
  unfold putKs
  split
  · exact h
  · rename_i e
    have no := idx_none e
    unfold keysOk at h ⊢
    simp only [Bool.and_eq_true] at h ⊢
    refine ⟨by rw [List.all_append, h.1]; simp [hk], ?_⟩
    cases t with
    | true =>
      have h2 : (ks.map tkey).Nodup := by simpa using h.2
      have : ((ks ++ [k]).map tkey).Nodup := by
        rw [List.map_append, List.nodup_append]
        refine ⟨h2, by simp, fun a ha b hb => ?_⟩
        obtain ⟨k', hk', rfl⟩ := List.mem_map.mp ha
        have hb : b = tkey k := by simpa using hb
        rw [hb]
        have := no k' hk'
        simpa [keyEq] using this
      simpa using this
    | false =>
      have h2 : (ks.map skey).Nodup := by simpa using h.2
      have : ((ks ++ [k]).map skey).Nodup := by
        rw [List.map_append, List.nodup_append]
        refine ⟨h2, by simp, fun a ha b hb => ?_⟩
        obtain ⟨k', hk', rfl⟩ := List.mem_map.mp ha
        have hb : b = skey k := by simpa using hb
        rw [hb]
        have := no k' hk'
        simpa [keyEq] using this
      simpa using this
theorem putDs_len {α : Type} {t : Bool} {ks : List D} {k : D} {ds : List α} {d : α} (h : ks.length = ds.length) : (putKs t ks k).length = (putDs t ks k ds d).length := by
  unfold putKs putDs
  split <;> simp [h]
theorem dHO_put {t : Bool} {ks : List D} {us : List V} {k : D} {v : V} (hl : ks.length = us.length) (hk : keysOk t ks = true) :
    dHO t (putKs t ks k) (putDs t ks k us v) = if t then .dT (putK ((ks.map tkey).zip us) (tkey k) v) else .dK (putK ((ks.map skey).zip us) (skey k) v) := by
  unfold keysOk at hk
  simp only [Bool.and_eq_true] at hk
  cases t with
  | true =>
    have h2 : (ks.map tkey).Nodup := by simpa using hk.2
    have e := putK_zip tkey k v ks us hl h2
    have ei : kIdx true ks k = ks.findIdx? fun k' => decide (tkey k' = tkey k) := rfl
    unfold putKs putDs dHO
    rw [ei]
    simp only [if_true]
    rw [e]
    split <;> rfl
  | false =>
    have h2 : (ks.map skey).Nodup := by simpa using hk.2
    have e := putK_zip skey k v ks us hl h2
    have ei : kIdx false ks k = ks.findIdx? fun k' => decide (skey k' = skey k) := rfl
    unfold putKs putDs dHO
    rw [ei]
    simp only [Bool.false_eq_true, if_false]
    rw [e]
    split <;> rfl
section
variable {K : PySem.W.Frag} {w : Wd}
theorem dict_at {d0 : D} {h0 : Nat} {v0 u : V} {p : List Nat} {o : Ow} {t : Bool} {ks ds : List D} (ho : o.mine = true) (r0 : Rep K w d0 [h0] v0) (at0 : AtV K w d0 [h0] v0 p (.dct o t ks ds) u) :
    ∃ a us, u = .ref a ∧ w.G a = some (h0 :: p) ∧ w.H a = some (dHO t ks us) ∧ (ks.length = us.length ∧ keysOk t ks = true ∧ Lt o ds) ∧ RepL K w ds (h0 :: p) 0 us := by
  have ra := at0.rep r0
  simp only [Rep] at ra
  obtain ⟨a, us, ea, th, hz, hl⟩ := ra
  rw [if_pos ho] at th
  obtain ⟨ta, ha⟩ := th
  exact ⟨a, us, ea, ta, ha, hz, hl⟩
theorem dict_end {σ : Sl} {ρ : En} {i τ τ1 : Nat} {d0 : D} {v0 : V} {p : List Nat} {o o' : Ow} {t : Bool} {ks ks' ds ds' : List D} {a : Addr} {vs' : List V} {L : Loc} (ho : o.mine = true) (ho' : o'.mine = true) (st : StE K w σ ρ) (hi : ρ[i]? = some (some d0)) (hv : σ[i]? = some (some v0)) (r0 : Rep K w d0 [i + 1] v0)
    (at0 : AtV K w d0 [i + 1] v0 p (.dct o t ks ds) (.ref a)) (hτ : ρ.length < τ) (hτ1 : τ ≤ τ1) (rl : RepL K (w.ren (moveT τ1 L)) ds' ((i + 1) :: p) 0 vs') (hz : ks'.length = vs'.length ∧ keysOk t ks' = true ∧ Lt o' ds') :
    EndE K τ w σ ρ (ρ.set i (some (d0.put p (.dct o' t ks' ds')))) ((w.ren (moveT τ1 L)).put a (dHO t ks' vs')) := by
  obtain ⟨a', us, ea, ta, ha, _, _⟩ := dict_at ho r0 at0
  cases ea
  have hne : i + 1 ≠ τ1 := by have := (List.getElem?_eq_some_iff.mp hi).1; omega
  refine node_end st hi hv r0 at0 hτ hτ1 ta (by cases t <;> trivial) (fun _ => ho) ?_
  simp only [Rep]
  exact ⟨a, vs', rfl, by rw [if_pos ho']; exact ⟨ren_at ta (moveT_ne hne), upd_same⟩, hz, parts_op hne ta rl⟩
end
def onDct (ρ : En) (i : Nat) (k : Ow → Bool → List D → List D → Prop) : Prop := match ρ[i]? with
  | some (some (.dct o t ks ds)) => match o with
    | .ice => False
    | .flat => k .flat t ks ds
    | .deep => k .deep t ks ds
  | _ => False
theorem onDct_elim {ρ : En} {i : Nat} {k : Ow → Bool → List D → List D → Prop} (h : onDct ρ i k) : ∃ o t ks ds, ρ[i]? = some (some (.dct o t ks ds)) ∧ o.mine = true ∧ k o t ks ds := by
  unfold onDct at h
  split at h
  · rename_i o t ks ds e
    cases o with
    | ice => exact h.elim
    | flat => exact ⟨_, _, _, _, e, rfl, h⟩
    | deep => exact ⟨_, _, _, _, e, rfl, h⟩
  · exact h.elim
/-- x[k] = e, x a dict -/
def rSetD (i : Nat) (rk : RO) (re : RE) : RS := fun ρ E F => re ρ E fun d ρ1 => oN i ρ1 E fun _ ρ1' => rk ρ1' E fun k ρ2 => on1 ρ2 k fun dk => onDct ρ2 i fun o t ks ds =>
  keyOk t dk = true ∧ ks.length < sizeLine ∧ nf (ρ2.set i (some (.dct (o.more d.own) t (putKs t ks dk) (putDs t ks dk ds d)))) F.nx
theorem Lt.put {o : Ow} {t : Bool} {ks : List D} {k : D} {ds : List D} {d : D} (h : Lt o ds) : Lt (o.more d.own) (putDs t ks k ds d) := by
  unfold putDs
  split
  · exact h.set
  · exact h.app
theorem RepL.put {K : PySem.W.Frag} {w : Wd} {t : Bool} {ks : List D} {k : D} {ds : List D} {d : D} {ℓ : Loc} {us : List V} {v : V} (h : RepL K w ds ℓ 0 us) (g : ∀ j, (kIdx t ks k = some j ∨ kIdx t ks k = none ∧ j = ds.length) → Rep K w d (ℓ ++ [j]) v) :
    RepL K w (putDs t ks k ds d) ℓ 0 (putDs t ks k us v) := by
  unfold putDs
  cases e : kIdx t ks k with
  | some j => exact h.set (by rw [Nat.zero_add]; exact g j (.inl e))
  | none => exact h.app (RepL.one (by rw [Nat.zero_add]; exact g _ (.inr ⟨e, rfl⟩)))
theorem DPut.of {K : PySem.W.Frag} {w : Wd} (wf : Wf w) {a : Addr} {t : Bool} {ks : List D} {us : List V} {k : D} {ℓ : Loc} {y v : V} (h : w.H a = some (dHO t ks us)) (hl : ks.length = us.length) (hks : keysOk t ks = true) (hk : keyOk t k = true) (hz : ks.length < sizeLine) (ry : Rep K w k ℓ y) :
    DPut w.H a y v (upd w.H a (dHO t (putKs t ks k) (putDs t ks k us v))) := by
  rw [dHO_put hl hks]
  cases t with
  | true =>
    obtain ⟨b, rfl, hb⟩ := rep_tkey wf ry hk
    exact DPut.t h hb (by rw [List.length_zip, List.length_map, ← hl]; omega)
  | false =>
    rw [rep_skey ry hk]
    exact DPut.k h (by rw [List.length_zip, List.length_map, ← hl]; omega)
section
variable {X : Cx} {W : WX} {M : List Nat} {pos pos' p2 apos : Pos}
theorem fs_setD (i : Nat) {x : Str} {k e : Expr} {rk : RO} {re : RE} (he : FE X W e re) (hk : FO X W k rk) (hu : X.A.units + 1 < cLine) (hN : X.N[i]? = some x := by rfl) (hv : Vis X.env.scope x := by first | exact Or.inl rfl | exact Or.inr (Or.inl rfl) | exact Or.inr (Or.inr rfl)) (hd : (x == ("__debug__" : Str)) = false := by decide)
    (hcd : (x == ("__classdict__" : Str)) = false := by decide) (hs : swapsWith e (some (.Subscript (.Name x p2) k pos')) pos.line X.env = pure false := by rfl) : FS X W M (.Assign [.Subscript (.Name x p2) k pos'] e pos) (rSetD i rk re) := by
  obtain ⟨t, p, l⟩ := he.ex
  obtain ⟨t', p', l'⟩ := hk.ex
  refine ⟨_, ps_dput hu (pe_var hN hv hd hcd) p' p hs, fun w σ ρ E F D st h hf => ?_⟩
  refine l _ w σ ρ E _ _ (Nat.lt_succ_self _) st h (fun d ρ1 w1 v h1 e1 r1 => ?_) hf.sx
  obtain ⟨⟨d0, e0⟩, h1⟩ := oN_elim h1
  obtain ⟨v0, ev, _⟩ := e1.st.rep i d0 e0
  refine ⟨v0, ev, ?_⟩
  refine l' (ρ1.length + 2) w1 σ ρ1 E _ _ (by omega) e1.st h1 (fun ak ρ2 w2 vk h2 e2 r2 => ?_) (hf.sx.then e1 (by rw [e1.len]; omega))
  have e12 := e1.trans e2 (by rw [e1.len]; omega)
  obtain ⟨dk, ek, h2⟩ := on1_elim h2
  obtain ⟨o, tt, ks, ds, ed, ho, hko, hkl, q⟩ := onDct_elim h2
  obtain ⟨ℓ, rk⟩ := ad_get e12.st r2 ek
  obtain ⟨v0', ev', r0⟩ := e12.st.rep i _ ed
  rw [ev] at ev'; cases ev'
  obtain ⟨a, us, rfl, ta, ha, ⟨hl, hks, hL⟩, rl⟩ := dict_at ho r0 .here
  have r1' : Rep X.K w2 d [ρ.length + 1] v := e2.ext.rep (r := []) (by rw [e1.len]; omega) r1
  have hin := (List.getElem?_eq_some_iff.mp ed).1
  rw [e12.len] at hin
  let j := match kIdx tt ks dk with | some j => j | none => ds.length
  refine ⟨a, _, rfl, DPut.of e12.st.wf ha hl hks hko hkl rk (v := v), ?_⟩
  have rr : RepL X.K (w2.ren (moveT (ρ.length + 1) ((i + 1) :: [] ++ [j]))) (putDs tt ks dk ds d) ((i + 1) :: []) 0 (putDs tt ks dk us v) := by
    have base : RepL X.K (w2.ren (moveT (ρ.length + 1) ((i + 1) :: [] ++ [j]))) ds ((i + 1) :: []) 0 us := RepL.of rl.length fun q dq vq e3 e4 => by
      obtain ⟨v3, e5, r3⟩ := rl.get e3
      rw [e4] at e5; cases e5
      exact r3.mv (by omega)
    have hlu : us.length = ds.length := rl.length
    have : putDs tt ks dk us v = putDs tt ks dk us v := rfl
    refine RepL.put base fun j' hj' => ?_
    have : j = j' := by
      show (match kIdx tt ks dk with | some j => j | none => ds.length) = j'
      rcases hj' with hj' | ⟨hj', rfl⟩ <;> rw [hj']
    subst this
    exact r1'.mvT
  have ee := dict_end (i := i) (τ := ρ.length + 1) (p := []) ho (more_mine ho d.own) e12.st ed ev r0 .here (by rw [e12.len]; omega) (Nat.le_refl _) rr ⟨putDs_len hl, putKs_ok hks hko, hL.put⟩
  exact hf.nx _ _ σ (nf_of q) ((e12.trans ee (Nat.le_refl _)).s (Nat.lt_succ_self _))
/-- what is found, or x -/
def pickOr (o : Option D) (x : D) (Q : D → Prop) : Prop := match o with
  | some d => d.own = false ∧ Q d
  | none => Q x
theorem pickOr_of {o : Option D} {x y : D} {Q : D → Prop} (h : o = some y ∨ o = none ∧ x = y) (hy : y.own = false) (q : Q y) : pickOr o x Q := by
  rcases h with rfl | ⟨rfl, rfl⟩
  · exact ⟨hy, q⟩
  · exact q
/-- d.get(k, x) -/
def rGet2 (ra rk : RO) (rx : RE) : RE := fun ρ E Q => ra ρ E fun a ρ0 => on1 ρ0 a fun dd0 => isDct dd0 = true ∧ rk ρ0 E fun k ρ1 => rx ρ1 E fun x ρ2 => on1 ρ2 a fun dd => on1 ρ2 k fun dk => match dd with
  | .dct _ t ks ds => keyOk t dk = true ∧ x.own = false ∧ pickOr (dLook t ks ds dk) x fun d => Q d ρ2
  | _ => False
where isDct : D → Bool
  | .dct _ _ _ _ => true
  | _ => false
theorem isD_of {K : PySem.W.Frag} {w : Wd} (wf : Wf w) {d : D} {ℓ : Loc} {v : V} (h : Rep K w d ℓ v) (e : rGet2.isDct d = true) : ∃ a, v = .ref a ∧ IsD w.H a := by
  cases d with
  | dct o t ks ds =>
    obtain ⟨a, vs, rfl, h1, _⟩ := dct_at wf h
    cases t with
    | true => exact ⟨a, rfl, .inr ⟨_, h1⟩⟩
    | false => exact ⟨a, rfl, .inl ⟨_, h1⟩⟩
  | _ => cases e
theorem fe_get2 {o k x : Expr} {ra rk : RO} {rx : RE} {cpos : Pos} (ho : FO X W o ra) (hk : FO X W k rk) (hx0 : FE X W x rx) (hu : X.A.units + 1 < cLine) (m : M2 X o "get" apos k x cpos := by exact ⟨rfl, rfl, rfl, rfl⟩) : FE X W (.Call (.Attribute o "get" apos) [k, x] [] cpos) (rGet2 ra rk rx) := by
  obtain ⟨t, p, l⟩ := ho.ex
  obtain ⟨t1, p1, l1⟩ := hk.ex
  obtain ⟨t2, p2', l2⟩ := hx0.ex
  refine ⟨_, pe_dget2 hu p p1 p2' m, fun τ w σ ρ E Q Qv hn st h hq hx => ?_⟩
  refine l τ w σ ρ E _ _ hn st h (fun a ρ0 w0 v0 h0 e0 r0 => ?_) hx
  obtain ⟨dd0, ea0, hD, h0⟩ := on1_elim h0
  obtain ⟨ℓ0, ra0⟩ := ad_get e0.st r0 ea0
  obtain ⟨ad, rfl, hD⟩ := isD_of e0.st.wf ra0 hD
  refine ⟨ad, rfl, hD, ?_⟩
  refine l1 (τ + 1) w0 σ ρ0 E _ _ (by rw [e0.len]; omega) e0.st h0 (fun ak ρ1 w1 v1 h1 e1 r1 => ?_) (hx.then e0 (Nat.le_succ _))
  have e01 := e0.trans e1 (Nat.le_succ _)
  refine l2 (τ + 2) w1 σ ρ1 E _ _ (by rw [e01.len]; omega) e1.st h1 (fun dx ρ2 w2 v2 h2 e2 r2 => ?_) (hx.then e01 (by omega))
  have e02 := e01.trans e2 (by omega)
  obtain ⟨dd, ed, h2⟩ := on1_elim h2
  obtain ⟨dk, ek, h2⟩ := on1_elim h2
  have r0' : AdAt X.K w2 σ a τ (.ref ad) := (r0.later (by rw [e0.len]; exact hn) e1).later (by rw [e01.len]; exact hn) (⟨e2.len, e2.st, e2.ext.mono (by omega)⟩)
  have r1' : AdAt X.K w2 σ ak (τ + 1) v1 := r1.later (by rw [e01.len]; omega) e2
  obtain ⟨ℓd, rd⟩ := ad_get e2.st r0' ed
  obtain ⟨ℓk, rk⟩ := ad_get e2.st r1' ek
  cases dd with
  | dct o t ks ds =>
    obtain ⟨hko, hxo, h2⟩ := h2
    obtain ⟨a', ea', g1, g2⟩ := dct_get e2.st.wf rd rk hko
    cases ea'
    cases eL : dLook t ks ds dk with
    | some d =>
      simp only [eL, pickOr] at h2
      obtain ⟨hd0, q⟩ := h2
      obtain ⟨z, i, g, rz⟩ := g1 d eL
      exact ⟨_, g, hq d ρ2 w2 z q e02 (rz.free (Same.refl _) d hd0)⟩
    | none =>
      simp only [eL, pickOr] at h2
      exact ⟨_, g2 eL, hq dx ρ2 w2 v2 h2 e02 (r2.free (Same.refl _) dx hxo)⟩
  | _ => exact h2.elim
end
end FL
namespace FL
open PySem PySem.Spec PyProof.Rows L2
open PySem.W (EachIs AllAlike dataLe)
/-- a row's data with its values, in order -/
abbrev PV := PyData × V
def sortPV (ps : List PV) : List PV := ps.mergeSort (dataLe false fun p => p.1)
structure SortPV (K : PySem.W.Frag) (H : Hp) (ps : List PV) : Prop where
  dp : ∀ p ∈ ps, Dp K H p.2 p.1
  al : AllAlike (ps.map fun p => p.1)
  so : PySem.W.Sortable (ps.map fun p => p.1)
  de : ∀ p ∈ ps, p.1.depth ≤ 50
  sz : ps.length ≤ sizeLine
theorem each_vals : ∀ {ps : List PV} {us : List Value}, Vals (ps.map fun p => p.2) us → EachIs (fun v (p : PV) => RelV p.2 v) us ps
  | [], us, h => by cases h; exact .nil
  | p :: ps, us, h => by
    cases h with
    | cons r rr => exact .cons r (each_vals rr)
theorem vals_each : ∀ {ps : List PV} {us : List Value}, EachIs (fun v (p : PV) => RelV p.2 v) us ps → Vals (ps.map fun p => p.2) us
  | _, _, .nil => .nil
  | _, _, .cons r rr => .cons r (vals_each rr)
theorem each_and {α β : Type} {R T : α → β → Prop} : ∀ {as : List α} {bs : List β}, EachIs R as bs → (∀ a b, b ∈ bs → R a b → T a b) → EachIs T as bs
  | _, _, .nil, _ => .nil
  | _, _, .cons r rr, h => .cons (h _ _ List.mem_cons_self r) (each_and rr fun a b hb q => h a b (List.mem_cons_of_mem _ hb) q)
theorem sortPV_len (ps : List PV) : (sortPV ps).length = ps.length := List.length_mergeSort ps
structure SortOk (ds : List D) : Prop where
  da : datL ds = true
  al : AllAlike (ds.map D.py)
  so : PySem.W.Sortable (ds.map D.py)
  de : ∀ d ∈ ds, d.dep ≤ 50
def sortD (ds : List D) : List D := ds.mergeSort (dataLe false D.py)
theorem sortD_mem {ds : List D} {d : D} : d ∈ sortD ds ↔ d ∈ ds := (List.mergeSort_perm ds _).mem_iff
theorem sortD_len (ds : List D) : (sortD ds).length = ds.length := List.length_mergeSort ds
theorem sortD_own {ds : List D} (h : ownL ds = false) : ownL (sortD ds) = false := ownL_iff.mpr fun d hd => ownL_iff.mp h d (sortD_mem.mp hd)
def pvOf (ds : List D) (vs : List V) : List PV := (ds.zip vs).map fun p => (p.1.py, p.2)
theorem pvOf_fst {ds : List D} {vs : List V} (h : vs.length = ds.length) : (pvOf ds vs).map (fun p => p.1) = ds.map D.py := by
  unfold pvOf
  rw [List.map_map]
  have : ((fun p : PV => p.1) ∘ fun p : D × V => ((p.1.py, p.2) : PV)) = D.py ∘ Prod.fst := rfl
  rw [this, ← List.map_map, List.map_fst_zip (by omega)]
def sortZ (zs : List (D × V)) : List (D × V) := zs.mergeSort (dataLe false fun p : D × V => p.1.py)
theorem sortZ_pv (ds : List D) (vs : List V) : sortPV (pvOf ds vs) = (sortZ (ds.zip vs)).map fun p => (p.1.py, p.2) := by
  unfold sortPV sortZ pvOf
  exact (List.map_mergeSort (r := dataLe false fun p : D × V => p.1.py) (s := dataLe false fun p : PV => p.1) (f := fun p : D × V => (p.1.py, p.2)) (fun a _ b _ => rfl)).symm
theorem sortZ_fst {ds : List D} {vs : List V} (h : vs.length = ds.length) : (sortZ (ds.zip vs)).map Prod.fst = sortD ds := by
  unfold sortZ sortD
  rw [List.map_mergeSort (r := dataLe false fun p : D × V => p.1.py) (s := dataLe false D.py) (f := Prod.fst) (fun a _ b _ => rfl), List.map_fst_zip (by omega)]
section
variable {K : PySem.W.Frag} {w : Wd}
theorem sorted_reps {ds : List D} {vs : List V} {ℓ ℓ' : Loc} {j : Nat} (ho : ownL ds = false) (h : RepL K w ds ℓ j vs) : RepL K w (sortD ds) ℓ' 0 ((sortPV (pvOf ds vs)).map fun p => p.2) := by
  rw [← sortZ_fst h.length, sortZ_pv, List.map_map]
  refine RepL.of (by rw [List.length_map, List.length_map]) fun i d v e1 e2 => ?_
  rw [List.getElem?_map] at e1 e2
  cases q : (sortZ (ds.zip vs))[i]? with
  | none => rw [q] at e1; cases e1
  | some z =>
    rw [q] at e1 e2
    cases e1; cases e2
    have hm : z ∈ ds.zip vs := (List.mergeSort_perm _ _).mem_iff.mp (List.mem_of_getElem? q)
    obtain ⟨n, hn⟩ := List.getElem?_of_mem hm
    obtain ⟨h1, h2⟩ := List.getElem?_zip_eq_some.mp hn
    obtain ⟨v', e3, r⟩ := h.get h1
    rw [h2] at e3; cases e3
    exact r.free (Same.refl _) z.1 (ownL_iff.mp ho z.1 (List.mem_of_getElem? h1))
theorem sortOk_pv (wf : Wf w) {ds : List D} {vs : List V} (S : SortOk ds) (hz : ds.length ≤ sizeLine) (h : ∀ ℓ j, RepL K w ds ℓ j vs) : SortPV K w.H (pvOf ds vs) := by
  have hl := (h [] 0).length
  have mem : ∀ p ∈ pvOf ds vs, ∃ d, d ∈ ds ∧ p.1 = d.py ∧ ∃ ℓ, Rep K w d ℓ p.2 := fun p hp => by
    obtain ⟨z, hm, rfl⟩ := List.mem_map.mp hp
    obtain ⟨n, hn⟩ := List.getElem?_of_mem hm
    obtain ⟨h1, h2⟩ := List.getElem?_zip_eq_some.mp hn
    obtain ⟨v', e3, r⟩ := (h [] 0).get h1
    rw [h2] at e3; cases e3
    exact ⟨z.1, List.mem_of_getElem? h1, rfl, _, r⟩
  refine ⟨fun p hp => ?_, by rw [pvOf_fst hl]; exact S.al, by rw [pvOf_fst hl]; exact S.so, fun p hp => ?_, ?_⟩
  · obtain ⟨d, hd, e, ℓ, r⟩ := mem p hp
    rw [e]
    exact rep_dp wf d (datL_all.mp S.da d hd) r
  · obtain ⟨d, hd, e, _⟩ := mem p hp
    rw [e, py_dep d (datL_all.mp S.da d hd)]
    exact S.de d hd
  · unfold pvOf
    rw [List.length_map, List.length_zip, hl, Nat.min_self]; exact hz
end
section
variable {X : Cx}
theorem sorted_src {pins : List (Addr × Obj)} {σ : L2.St} {H : Hp} {s : Shared} {Q : VK} {r d : Addr} {n : Nat} {P : Nat → Value → Prop} {OK : Heap → Prop} (K0 : PySem.W.KdlSrc X.prog X.w "dict" r d n P OK) (hc : X.calm = true) (hu : X.A.units + 64 < cLine) (hok : OK s.heap) (hn : n ≤ sizeLine) (I : Inv X pins σ H s)
    (conv : ∀ acc : Array Value, PySem.ItemsOf P acc n → ∃ ps : List PV, EachIs (fun v (p : PV) => RelV p.2 v) acc.toList ps ∧ SortPV X.K H ps ∧ ∀ l, H l = none → Q (.ref l) (upd H l (.lst ((sortPV ps).map fun p => p.2)))) :
    wpAny (model X.prog X.w) X.A (call (.builtin "sorted") [.ref r]) (EP X pins σ Q) X.xe s := by
  refine Calls.call_function_entry PyProof.Rows.kind_sorted PyProof.Rows.plain_sorted PyProof.Rows.entry_sorted (PyProof.Rows.args_sorted1 _) ?_
  unfold Builtin.«sorted»
  refine wpAny_bind (m := checkCount "sorted" 1 1 _) (wpAny_pure ?_)
  refine wpAny_bind (PySem.W.kdu_collect (A := X.A.in1) K0 (I.ok.hd hc) hok hn fun h' tk acc hk hacc => ?_)
  obtain ⟨ps, e, S, q⟩ := conv acc hacc
  have hl : acc.toList.length = ps.length := e.length
  have I1 : Inv X pins σ H { s with heap := h', toks := tk } := I.kept hk
  refine wpAny_bind (wpAny_newList ?_ (by rw [hl]; exact S.sz))
  have hoL : (h'.push (seqObj "list" acc.toList.toArray 0)).get? h'.objs.size = some (seqObj "list" acc.toList.toArray 0) := Heap.get?_push_size _ rfl
  show wpAny _ _ _ _ _ { s with heap := h'.push (seqObj "list" acc.toList.toArray 0), toks := tk }
  have old : ∀ b o, h'.get? b = some o → (PySem.W.sortingHeap (h'.push (seqObj "list" acc.toList.toArray 0)) h'.objs.size acc.toList).get? b = some o := fun b o eb =>
    PySem.W.sortingHeap_old (Nat.ne_of_lt (Heap.lt_size eb)) (Heap.get?_push_of_some _ eb)
  have er : EachIs (fun v (p : PV) => ∃ as, Reads (PySem.W.sortingHeap (h'.push (seqObj "list" acc.toList.toArray 0)) h'.objs.size acc.toList) v p.1 as) acc.toList ps := each_and e fun v p hp rp => by
    obtain ⟨as, r⟩ := Dp.reads I1 p.1 p.2 v (S.dp p hp) rp
    exact ⟨as, PyProof.Rows.Reads.keeps old r⟩
  have un : ∀ p ∈ ps, X.A.in1.in1.units + p.1.depth < cLine := fun p hp => by
    have h1 := S.de p hp
    have h2 : X.A.in1.in1.units ≤ X.A.units + 2 := Nat.le_refl _
    omega
  have body := PySem.W.SortsAt.data (prog := X.prog) (w := X.w) (A := X.A.in1.in1) (s := { s with heap := PySem.W.sortingHeap (h'.push (seqObj "list" acc.toList.toArray 0)) h'.objs.size acc.toList, toks := tk }) (PySem.W.each_map (R := fun v d => ∃ as, Reads (PySem.W.sortingHeap (h'.push (seqObj "list" acc.toList.toArray 0)) h'.objs.size acc.toList) v d as) (fun p : PV => p.1) er) S.al S.so (PySem.W.bound_map un)
  refine wpAny_bind (wpAny_holding (wpAny_call_entry PyProof.Rows.slot_list_sort ⟨_, hoL, rfl⟩ PyProof.Rows.entry_list_sort
    (PySem.W.list_sort_vals (s := { s with heap := h'.push (seqObj "list" acc.toList.toArray 0), toks := tk }) hoL body (by rw [hl]; exact S.sz) ⟨_, rfl, ?_⟩) (PyProof.Rows.args_list_sort _)))
  have eo := PySem.W.sortVals_data (R := fun v (p : PV) => RelV p.2 v) (enc := fun p : PV => p.1) false e er S.al
  obtain ⟨c, hc2⟩ := sortedHeap_at (vs := acc.toList) (out := (PySem.W.sortVals (PySem.W.dataKind (PySem.W.sortingHeap (h'.push (seqObj "list" acc.toList.toArray 0)) h'.objs.size acc.toList) (ps.map fun p => p.1)) false acc.toList acc.toList).toArray) hoL
  have hlen : ((sortPV ps).map fun p => p.2).length ≤ sizeLine := by rw [List.length_map, sortPV_len]; exact S.sz
  refine wpAny_pure ⟨_, rfl, .ref h'.objs.size, _, I1.laid (t' := tk) (o := .lst ((sortPV ps).map fun p => p.2)) (fun b u eb => ?_) (Nat.le_refl _) ⟨hlen, _, c, vals_each eo, hc2⟩, rfl, q _ (I1.hok.fresh (Nat.le_refl _))⟩
  have hb : b < h'.objs.size := Heap.lt_size eb
  rw [sortedHeap_old (Nat.ne_of_lt hb) (by rw [size_push']; exact Nat.lt_succ_of_lt hb)]
  exact Heap.get?_push_of_some _ eb
end
def keyPy : Key → PyData
  | .inl i => .int i
  | .inr x => .str x
theorem skey_py {d : D} (h : isSKey d = true) : keyPy (skey d) = d.py := by
  cases d <;> first | rfl | cases h
theorem skey_rep {K : PySem.W.Frag} {w : Wd} {d : D} (h : isSKey d = true) {ℓ : Loc} : Rep K w d ℓ (kV (skey d)) := by
  cases d <;> first | rfl | cases h
theorem skeys_rep {K : PySem.W.Frag} {w : Wd} : ∀ {cs : List D} {ℓ : Loc} {j : Nat}, cs.all isSKey = true → RepL K w cs ℓ j ((cs.map skey).map kV)
  | [], _, _, _ => rfl
  | c :: r, ℓ, j, h => by
    simp only [List.all_cons, Bool.and_eq_true] at h
    simp only [List.map_cons, RepL]
    exact ⟨_, _, rfl, skey_rep h.1, skeys_rep h.2⟩
theorem skeys_own {cs : List D} (h : cs.all isSKey = true) : ownL cs = false := ownL_iff.mpr fun d hd => by
  have := List.all_eq_true.mp h d hd
  cases d <;> first | rfl | cases this
theorem paired_at {α β : Type} {R : α → β → Prop} : ∀ {as : List α} {bs : List β}, Paired R as bs → ∀ {i : Nat} {a : α} {b : β}, as[i]? = some a → bs[i]? = some b → R a b
  | _, _, .nil, i, a, b, h, _ => by simp at h
  | _, _, .cons q t, 0, a, b, h, g => by cases h; cases g; exact q
  | _, _, .cons q t, i + 1, a, b, h, g => paired_at t (i := i) (by simpa using h) (by simpa using g)
end FL
namespace FL
open PySem PySem.Spec PyProof.Rows L2
def intAt (o : Option D) (Q : Int → Prop) : Prop := match o with
  | some (.int a) => Q a
  | _ => False
theorem intAt_of {o : Option D} {a : Int} {Q : Int → Prop} (h : o = some (.int a)) (q : Q a) : intAt o Q := by subst h; exact q
theorem intAt_elim {o : Option D} {Q : Int → Prop} (h : intAt o Q) : ∃ a, o = some (.int a) ∧ Q a := by
  unfold intAt at h
  split at h
  · exact ⟨_, rfl, h⟩
  · exact h.elim
end FL
namespace FL
open PySem PySem.Spec PyProof.Rows L2
def slotO (ρ : En) (a : Nat) : Option D := match ρ[a]? with
  | some o => o
  | none => none
def readA (ρ : En) : List Nat → En
  | [] => []
  | a :: A => slotO ρ a :: readA ρ A
def putA (ρ : En) : List Nat → En → En
  | a :: A, s :: S => (putA ρ A S).set a s
  | _, _ => ρ
/-- slots A hold s, slots J anything -/
def putJ (ρ : En) (A J : List Nat) (s j : En) : En := putA (putA ρ J j) A s
theorem readA_len (ρ : En) : ∀ A : List Nat, (readA ρ A).length = A.length
  | [] => rfl
  | a :: A => by simp [readA, readA_len ρ A]
theorem len0 {α : Type} {l : List α} (h : l.length = 0) : l = [] := List.length_eq_zero_iff.mp h
theorem len1 {α : Type} {l : List α} (h : l.length = 1) : ∃ a, l = [a] := by match l, h with | [a], _ => exact ⟨a, rfl⟩
theorem len3 {α : Type} {l : List α} (h : l.length = 3) : ∃ a b c, l = [a, b, c] := by match l, h with | [a, b, c], _ => exact ⟨a, b, c, rfl⟩
theorem len4 {α : Type} {l : List α} (h : l.length = 4) : ∃ a b c d, l = [a, b, c, d] := by match l, h with | [a, b, c, d], _ => exact ⟨a, b, c, d, rfl⟩
theorem len5 {α : Type} {l : List α} (h : l.length = 5) : ∃ a b c d e, l = [a, b, c, d, e] := by match l, h with | [a, b, c, d, e], _ => exact ⟨a, b, c, d, e, rfl⟩
theorem forR_on {body : D → RS} {E : EE} {F : Fin} (A J : List Nat) (I : Nat → En → Prop) (ds : List D) (ρ0 : En) (h0 : I 0 (readA ρ0 A))
    (step : ∀ i d s j, ds[i]? = some d → j.length = J.length → I i s → nf (putJ ρ0 A J s j) fun ρ => body d ρ E (F.lp fun ρ' => ρ' = putJ ρ0 A J (readA ρ' A) (readA ρ' J) ∧ I (i + 1) (readA ρ' A)))
    (fin : ∀ s j, j.length = J.length → I ds.length s → nf (putJ ρ0 A J s j) F.nx) (e0 : ρ0 = putJ ρ0 A J (readA ρ0 A) (readA ρ0 J) := by rfl) : forR body ds ρ0 E F := by
  refine forR_inv (fun k ρ' => ρ' = putJ ρ0 A J (readA ρ' A) (readA ρ' J) ∧ I k (readA ρ' A)) ds 0 ρ0 ⟨e0, h0⟩ (fun i d ρ hd h => ?_) fun ρ h => ?_
  · rw [Nat.zero_add] at h ⊢
    have := nf_of (step i d _ _ hd (readA_len ρ J) h.2)
    rw [← h.1] at this
    exact this
  · rw [Nat.zero_add] at h
    have := nf_of (fin _ _ (readA_len ρ J) h.2)
    rw [← h.1] at this
    exact this
theorem cut_on {r : RS} {ρ0 : En} {E : EE} {F : Fin} (A J : List Nat) (I : En → Prop) (h : r ρ0 E (F.wn fun ρ' => ρ' = putJ ρ0 A J (readA ρ' A) (readA ρ' J) ∧ I (readA ρ' A))) (fin : ∀ s j, j.length = J.length → I s → nf (putJ ρ0 A J s j) F.nx) : CutG r ρ0 E F :=
  ⟨⟨_, h, fun ρ' h => by
    have := nf_of (fin _ _ (readA_len ρ' J) h.2)
    rw [← h.1] at this
    exact this⟩⟩
/-- the box of a law's draws -/
structure Bx where
  a : Int
  m : Int
  c : Int
  h : 0 ≤ a
def bxD (b : Bx) : D := .lst .flat [.int b.a, .int b.m, .int b.c]
/-- a comprehension each of whose parts is drawn from the box of slot j -/
theorem compR_drawK {α : Type} {f : D → En → (Option D → En → Prop) → Prop} {vs : List Nat} {Q : Ow → List D → En → Prop} (j : Nat) (enc : α → D) (P : Nat → α → Prop) (ρ0 : En) (ho : ∀ x, (enc x).own = false) : ∀ (ds : List D) (k : Nat) (acc : List D) (b0 : Bx) (ρ : En), ρ = putA ρ0 [j] [some (bxD b0)] →
    (∀ i d (b : Bx), ds[i]? = some d → nf (putA ρ0 [j] [some (bxD b)]) fun ρ => f d ρ fun o ρ' => ∃ (x : α) (b' : Bx), o = some (enc x) ∧ P (k + i) x ∧ wipeD ρ' vs = putA ρ0 [j] [some (bxD b')]) →
    (∀ (xs : List α) (b : Bx), xs.length = ds.length → (∀ i x, xs[i]? = some x → P (k + i) x) → nf (putA ρ0 [j] [some (bxD b)]) (Q .flat (acc ++ xs.map enc))) → compR f vs ds ρ .flat acc Q
  | [], k, acc, b0, ρ, e, _, q => by
    have := nf_of (q [] b0 rfl (fun i x h => by simp at h))
    rw [← e] at this
    simpa [compR] using this
  | d :: ds, k, acc, b0, ρ, e, hs, q => by
    have h1 := nf_of (hs 0 d b0 rfl)
    rw [← e] at h1
    refine ⟨_, h1, fun o ρ' ⟨x, b', eo, hp, ew⟩ => ?_⟩
    subst eo
    have : kindR .flat (some (enc x)) = .flat := by simp only [kindR, ho x]
    rw [this]
    refine compR_drawK j enc P ρ0 ho ds (k + 1) _ b' _ ew (fun i d' b hd => ?_) fun xs b hl hx => ?_
    · have := hs (i + 1) d' b (by simpa using hd)
      rw [show k + (i + 1) = k + 1 + i by omega] at this
      exact this
    · have := q (x :: xs) b (by simp [hl]) fun i y hy => by
        cases i with
        | zero => cases hy; exact hp
        | succ i => have := hx i y (by simpa using hy); rwa [show k + 1 + i = k + (i + 1) by omega] at this
      simpa [List.append_assoc] using this
theorem compR_draw {α : Type} {f : D → En → (Option D → En → Prop) → Prop} {vs : List Nat} {Q : Ow → List D → En → Prop} (j : Nat) (enc : α → D) (P : Nat → α → Prop) (ds : List D) (ρ0 : En) (b0 : Bx) (ho : ∀ x, (enc x).own = false)
    (step : ∀ i d (b : Bx), ds[i]? = some d → nf (putA ρ0 [j] [some (bxD b)]) fun ρ => f d ρ fun o ρ' => ∃ (x : α) (b' : Bx), o = some (enc x) ∧ P i x ∧ wipeD ρ' vs = putA ρ0 [j] [some (bxD b')])
    (fin : ∀ (xs : List α) (b : Bx), xs.length = ds.length → (∀ i x, xs[i]? = some x → P i x) → nf (putA ρ0 [j] [some (bxD b)]) (Q .flat (xs.map enc))) (e0 : ρ0 = putA ρ0 [j] [some (bxD b0)] := by rfl) : compR f vs ds ρ0 .flat [] Q :=
  compR_drawK j enc P ρ0 ho ds 0 [] b0 ρ0 e0 (fun i d b h => by rw [Nat.zero_add]; exact step i d b h) fun xs b hl hx => fin xs b hl fun i x h => by have := hx i x h; rwa [Nat.zero_add] at this
end FL
namespace FL
open PySem PySem.Spec PyProof.Rows L2
def setN {α : Type} (l : List α) : List Nat → List α → List α
  | [], _ => l
  | _ :: _, [] => l
  | i :: is, v :: vs => setN (l.set i v) is vs
theorem setN_len {α : Type} : ∀ (is : List Nat) (l vs : List α), (setN l is vs).length = l.length
  | [], l, vs => by simp [setN]
  | i :: is, l, [] => by simp [setN]
  | i :: is, l, v :: vs => by simp only [setN]; rw [setN_len is, List.length_set]
theorem setN_out {α : Type} : ∀ (is : List Nat) (l vs : List α) (k : Nat), k ∉ is → (setN l is vs)[k]? = l[k]?
  | [], l, vs, k, _ => by simp [setN]
  | i :: is, l, [], k, _ => by simp [setN]
  | i :: is, l, v :: vs, k, h => by
    simp only [setN]
    rw [setN_out is _ vs k fun z => h (List.mem_cons_of_mem _ z), List.getElem?_set_ne fun z => h (by rw [z]; exact List.mem_cons_self)]
theorem setN_in {α : Type} : ∀ (is : List Nat) (l vs : List α) (j i : Nat) (v : α), is.Nodup → is[j]? = some i → vs[j]? = some v → i < l.length → (setN l is vs)[i]? = some v
  | [], l, vs, j, i, v, _, h, _, _ => by simp at h
  | a :: is, l, [], j, i, v, _, _, h, _ => by simp at h
  | a :: is, l, u :: vs, 0, i, v, hn, h, hv, hl => by
    cases h; cases hv
    simp only [setN]
    rw [setN_out is _ vs a (List.nodup_cons.mp hn).1, List.getElem?_set_self hl]
  | a :: is, l, u :: vs, j + 1, i, v, hn, h, hv, hl => by
    simp only [setN]
    exact setN_in is _ vs j i v (List.nodup_cons.mp hn).2 (by simpa using h) (by simpa using hv) (by rw [List.length_set]; exact hl)
/-- temporaries n + 1, n + 2, .. go to the slots is -/
def tempN (n : Nat) (is : List Nat) : Loc → Option Loc
  | h :: s => if h - 1 ∈ is ∧ 0 < h then none else match is[h - (n + 1)]? with
    | some i => if n < h then some ((i + 1) :: s) else some (h :: s)
    | none => some (h :: s)
  | [] => some []
theorem storeN {K : PySem.W.Frag} {M : List Nat} {w : Wd} {σ : Sl} {ρ : En} {is : List Nat} {ds : List D} {vs : List V} (st : StE K w σ ρ) (hn : is.Nodup) (hl : ds.length = is.length) (hv : vs.length = is.length) (hr : ∀ i ∈ is, i < ρ.length) (hM : ∀ i ∈ is, M.contains i = false)
    (r : ∀ j d v, ds[j]? = some d → vs[j]? = some v → Rep K w d [ρ.length + 1 + j] v) : EndS K M w σ ρ (w.ren (tempN ρ.length is)) (setN σ is (vs.map some)) (setN ρ is (ds.map some)) := by
  refine ⟨setN_len _ _ _, ⟨st.wf.ren _, by rw [setN_len, setN_len]; exact st.len, fun i d e => ?_⟩, ⟨Same.refl _, fun a ℓ e ⟨h, s, e2, k⟩ => ?_⟩, fun j hj => ?_⟩
  · by_cases hi : i ∈ is
    · obtain ⟨j, hj, rfl⟩ := List.mem_iff_getElem.mp hi
      have hjd : j < ds.length := by omega
      have hjv : j < vs.length := by omega
      rw [setN_in is ρ (ds.map some) j is[j] (some ds[j]) hn (List.getElem?_eq_getElem hj) (by rw [List.getElem?_map, List.getElem?_eq_getElem hjd]; rfl) (hr _ hi)] at e
      cases e
      refine ⟨vs[j], setN_in is σ _ j _ _ hn (List.getElem?_eq_getElem hj) (by rw [List.getElem?_map, List.getElem?_eq_getElem hjv]; rfl) (by rw [st.len]; exact hr _ hi), ?_⟩
      refine (r j _ _ (List.getElem?_eq_getElem hjd) (List.getElem?_eq_getElem hjv)).ren fun s => ?_
      show (if _ then _ else _) = _
      rw [if_neg fun z => by have := hr _ z.1; omega, show ρ.length + 1 + j - (ρ.length + 1) = j by omega, List.getElem?_eq_getElem hj]
      exact if_pos (by omega)
    · rw [setN_out _ _ _ _ hi] at e ⊢
      obtain ⟨v', e1, r'⟩ := st.rep i d e
      have hl := (List.getElem?_eq_some_iff.mp e).1
      refine ⟨v', e1, r'.ren fun s => ?_⟩
      show (if _ then _ else _) = _
      rw [if_neg fun z => hi (by simpa using z.1)]
      split
      · rw [if_neg (by omega)]; rfl
      · rfl
  · subst e2
    refine ⟨ren_at e ?_, rfl⟩
    show (if _ then _ else _) = _
    rw [if_neg fun z => by have := hr _ z.1; omega]
    split
    · rw [if_neg (by omega)]
    · rfl
  · exact setN_out _ _ _ _ fun z => by
      have := hM j z
      rw [List.contains_iff_mem.mpr hj] at this; cases this
/-- the temporaries of P (counted from n + 1) frozen -/
def frzN : List Bool → List D → List D
  | b :: bs, d :: ds => (match b with | true => d | false => d.frz) :: frzN bs ds
  | _, _ => []
theorem frzN_get : ∀ (bs : List Bool) (ds : List D) (j : Nat) (d' : D), (frzN bs ds)[j]? = some d' → ∃ b d, bs[j]? = some b ∧ ds[j]? = some d ∧ d' = (match b with | true => d | false => d.frz)
  | [], ds, j, d', h => by simp [frzN] at h
  | b :: bs, [], j, d', h => by simp [frzN] at h
  | b :: bs, d :: ds, 0, d', h => by simp only [frzN] at h; cases h; exact ⟨b, d, rfl, rfl, rfl⟩
  | b :: bs, d :: ds, j + 1, d', h => by
    simp only [frzN, List.getElem?_cons_succ] at h
    obtain ⟨b', d2, h1, h2, h3⟩ := frzN_get bs ds j d' h
    exact ⟨b', d2, by simpa using h1, by simpa using h2, h3⟩
theorem frzN_len : ∀ (bs : List Bool) (ds : List D), bs.length = ds.length → (frzN bs ds).length = ds.length
  | [], [], _ => rfl
  | b :: bs, d :: ds, h => by simp only [frzN, List.length_cons]; rw [frzN_len bs ds (by simpa using h)]
  | [], _ :: _, h => by cases h
  | _ :: _, [], h => by cases h
def iceN (n : Nat) (bs : List Bool) : Loc → Bool := fun ℓ => match ℓ with
  | h :: _ => decide (n < h) && (bs[h - (n + 1)]? == some false)
  | [] => false
theorem ice_N {K : PySem.W.Frag} {w : Wd} {σ : Sl} {ρ : En} {bs : List Bool} {ds : List D} {vs : List V} (st : StE K w σ ρ) (r : ∀ j d v, ds[j]? = some d → vs[j]? = some v → Rep K w d [ρ.length + 1 + j] v) :
    EndE K (ρ.length + 1) w σ ρ ρ (w.ice (iceN ρ.length bs)) ∧ ∀ j d v, (frzN bs ds)[j]? = some d → vs[j]? = some v → Rep K (w.ice (iceN ρ.length bs)) d [ρ.length + 1 + j] v := by
  refine ⟨⟨rfl, st.to st.wf.ice (ice_same st.wf) fun i hi => ice_kept fun s => ?_, ⟨ice_same st.wf, fun a ℓ e ⟨h, s, e2, k⟩ => ?_⟩⟩, fun j d' v h1 h2 => ?_⟩
  · show (decide (ρ.length < i + 1) && _) = false
    rw [decide_eq_false (by omega)]; rfl
  · subst e2
    have := ice_kept (w := w) (ℓ := h :: s) (P := iceN ρ.length bs) (fun t => by
      show (decide (ρ.length < h) && _) = false
      rw [decide_eq_false (by omega)]; rfl) a [] (by simpa using e)
    simpa using this
  · obtain ⟨b, d, g1, g2, rfl⟩ := frzN_get bs ds j d' h1
    have rd := r j d v g2 h2
    have hj : ρ.length + 1 + j - (ρ.length + 1) = j := by omega
    cases b with
    | false =>
      refine Rep.frz (w := w) (ice_same st.wf) d (ice_frz fun s => ?_) rd
      show (decide (ρ.length < ρ.length + 1 + j) && (bs[ρ.length + 1 + j - (ρ.length + 1)]? == some false)) = true
      rw [hj, g1, decide_eq_true (by omega)]; rfl
    | true =>
      refine Rep.to (w := w) (ice_same st.wf) d (ice_kept fun s => ?_) rd
      show (decide (ρ.length < ρ.length + 1 + j) && (bs[ρ.length + 1 + j - (ρ.length + 1)]? == some false)) = false
      rw [hj, g1]
      simp
/-- a, b = x, y; a, b, c = x, y, z: each frozen, or (true) owned -/
def rParN (is : List Nat) (bs : List Bool) (ra : RA) : RS := fun ρ E F => ra ρ E fun ads ρ' => onVals ads fun ds => match is.all fun i => (ρ'[i]?).isSome with
  | true => nf (setN ρ' is ((frzN bs ds).map some)) F.nx
  | false => False
theorem all_lt {ρ : En} {is : List Nat} (h : (is.all fun i => (ρ[i]?).isSome) = true) : ∀ i ∈ is, i < ρ.length := fun i hi => by
  have := List.all_eq_true.mp h i hi
  cases e : ρ[i]? with
  | none => rw [e] at this; cases this
  | some d => exact (List.getElem?_eq_some_iff.mp e).1
section
variable {X : Cx} {W : WX} {M : List Nat} {pos px py pz pt pt2 : Pos}
theorem parN_end {σ : Sl} {w1 : Wd} {ρ1 : En} {is : List Nat} {bs : List Bool} {ds : List D} {vs : List V} (st : StE X.K w1 σ ρ1) (hn : is.Nodup) (hd : ds.length = is.length) (hb : bs.length = is.length) (hv : vs.length = is.length) (hr : ∀ i ∈ is, i < ρ1.length) (hM : ∀ i ∈ is, M.contains i = false)
    (r : ∀ j d v, ds[j]? = some d → vs[j]? = some v → Rep X.K w1 d [ρ1.length + 1 + j] v) : ∃ w2, w2.H = w1.H ∧ EndS X.K M w1 σ ρ1 w2 (setN σ is (vs.map some)) (setN ρ1 is ((frzN bs ds).map some)) := by
  obtain ⟨e2, r2⟩ := ice_N (bs := bs) st r
  exact ⟨(w1.ice (iceN ρ1.length bs)).ren (tempN ρ1.length is), rfl, (e2.s (Nat.lt_succ_self _)).trans (storeN e2.st hn (by rw [frzN_len _ _ (by omega)]; exact hd) hv hr hM r2)⟩
theorem fs_par3 (i j l : Nat) (bs : List Bool) {x y z : Str} {a b c : Expr} {ra : RA} {kt k2 : Nat} (ha : FA X W [a, b, c] ra) (hN : X.N.Nodup) (hb : bs.length = 3 := by rfl) (hi : X.N[i]? = some x := by rfl) (hj : X.N[j]? = some y := by rfl) (hl : X.N[l]? = some z := by rfl) (hij : i ≠ j := by decide) (hil : i ≠ l := by decide) (hjl : j ≠ l := by decide)
    (hx : X.env.scope.names.lookup x = some .local := by rfl) (hy : X.env.scope.names.lookup y = some .local := by rfl) (hz : X.env.scope.names.lookup z = some .local := by rfl) (hMi : ([i, j, l].all fun i => !M.contains i) = true := by rfl) (hc : X.calm = true := by rfl)
    (hw : swappedStores [.Tuple [.Name x px, .Name y py, .Name z pz] kt pt] (.Tuple [a, b, c] k2 pt2) X.env = pure (some [x, y, z]) := by rfl)
    (hs : swapsWithSole [.Tuple [.Name x px, .Name y py, .Name z pz] kt pt] (.Tuple [a, b, c] k2 pt2) pos.line X.env = pure false := by rfl) : FS X W M (.Assign [.Tuple [.Name x px, .Name y py, .Name z pz] kt pt] (.Tuple [a, b, c] k2 pt2) pos) (rParN [i, j, l] bs ra) := by
  obtain ⟨t, p, s⟩ := ha.ex
  refine ⟨_, ps_par3 hc hN hi hj hl hij hil hjl hx hy hz p hw hs, fun w σ ρ E F D st h hf => ?_⟩
  refine s _ w σ ρ E _ _ (Nat.lt_succ_self _) st h (fun ads ρ1 w1 vs h1 l1 e1 r1 => ?_) hf.sx
  obtain ⟨ds, ev, q⟩ := onVals_elim h1
  obtain ⟨l2, l3, g⟩ := vals_at r1 ev
  have hr : ([i, j, l].all fun i => (ρ1[i]?).isSome) = true := by
    cases e : [i, j, l].all fun i => (ρ1[i]?).isSome with
    | true => rfl
    | false => rw [e] at q; exact q.elim
  rw [hr] at q
  have k1 : ds.length = 3 := by rw [l3, l1]; rfl
  match ds, vs, k1, l2, q, l3, g with
  | [d, e, f], [v, u, u3], k1, l2, q, l3, g =>
    refine ⟨v, u, u3, rfl, ?_⟩
    obtain ⟨w2, e0, e2⟩ := parN_end (M := M) (X := X) (bs := bs) (is := [i, j, l]) e1.st (by simp [hij, hil, hjl]) rfl hb rfl (all_lt hr) (fun k hk => by
        have := List.all_eq_true.mp hMi k hk
        simpa using this) (fun k d v h1 h2 => by have := g k d v h1 h2; rwa [e1.len])
    rw [← e0]
    exact hf.nx _ w2 _ (nf_of q) ((e1.s (Nat.lt_succ_self _)).trans e2)
end
end FL
namespace FL
open PySem PySem.Spec PyProof.Rows L2
structure Sm (d : D) (n : Nat) : Prop where
  dat : d.dat = true
  dep : d.dep ≤ n
def SmL (ds : List D) (n : Nat) : Prop := ∀ d ∈ ds, Sm d n
theorem SmL.nil {n : Nat} : SmL [] n := fun d h => (nomatch h)
theorem SmL.cons {d : D} {ds : List D} {n : Nat} (h : Sm d n) (k : SmL ds n) : SmL (d :: ds) n := fun e he => by
  rcases List.mem_cons.mp he with rfl | he
  · exact h
  · exact k e he
theorem SmL.app {ds es : List D} {n : Nat} (h : SmL ds n) (k : SmL es n) : SmL (ds ++ es) n := fun e he => by
  rcases List.mem_append.mp he with he | he
  · exact h e he
  · exact k e he
theorem SmL.map {α : Type} {f : α → D} {xs : List α} {n : Nat} (h : ∀ x ∈ xs, Sm (f x) n) : SmL (xs.map f) n := fun d hd => by
  obtain ⟨x, hx, rfl⟩ := List.mem_map.mp hd
  exact h x hx
theorem SmL.dat {ds : List D} {n : Nat} (h : SmL ds n) : datL ds = true := datL_all.mpr fun d hd => (h d hd).dat
theorem SmL.dep {ds : List D} {n : Nat} (h : SmL ds n) : depL ds ≤ n := depL_le fun d hd => (h d hd).dep
theorem Sm.mono {d : D} {n m : Nat} (h : Sm d n) (k : n ≤ m) : Sm d m := ⟨h.dat, Nat.le_trans h.dep k⟩
theorem SmL.mono {ds : List D} {n m : Nat} (h : SmL ds n) (k : n ≤ m) : SmL ds m := fun d hd => (h d hd).mono k
theorem Sm.int {i : Int} {n : Nat} : Sm (.int i) n := ⟨rfl, Nat.zero_le _⟩
theorem Sm.bl {i : Bool} {n : Nat} : Sm (.bl i) n := ⟨rfl, Nat.zero_le _⟩
theorem Sm.non {n : Nat} : Sm .non n := ⟨rfl, Nat.zero_le _⟩
theorem Sm.str {i : Str} {n : Nat} : Sm (.str i) n := ⟨rfl, Nat.zero_le _⟩
theorem Sm.lst {o : Ow} {ds : List D} {n : Nat} (h : SmL ds n) : Sm (.lst o ds) (n + 1) := ⟨h.dat, Nat.succ_le_succ h.dep⟩
theorem Sm.tup {o : Bool} {ds : List D} {n : Nat} (h : SmL ds n) : Sm (.tup o ds) (n + 1) := ⟨h.dat, Nat.succ_le_succ h.dep⟩
theorem Sm.ro {o : Bool} {ds : List D} {n : Nat} (h : SmL ds n) : Sm (.ro o ds) (n + 1) := ⟨h.dat, Nat.succ_le_succ h.dep⟩
theorem Sm.ints {o : Ow} {xs : List Int} : Sm (.lst o (xs.map D.int)) 1 := .lst (.map fun _ _ => .int)
theorem Sm.min {a b : D} {n : Nat} (h : Sm a n) (k : n ≤ 60 := by decide) : min a.dep b.dep ≤ 60 := Nat.le_trans (Nat.min_le_left _ _) (Nat.le_trans h.dep k)
/-- each part by itself -/
theorem compR_allE {α : Type} {f : D → En → (Option D → En → Prop) → Prop} {vs : List Nat} {Q : Ow → List D → En → Prop} {ds : List D} {ρ : En} (xs : List α) (g h : α → D) (e : ds = xs.map g)
    (k : ∀ x ∈ xs, f (g x) ρ fun o ρ' => o = some (h x) ∧ wipeD ρ' vs = ρ) (ho : ∀ x, (h x).own = false) (q : Q .flat (xs.map h) ρ) : compR f vs ds ρ .flat [] Q := by
  subst e
  exact compR_all g h xs ρ k ho q
/-- those parts that p takes -/
theorem compR_if {α : Type} {f : D → En → (Option D → En → Prop) → Prop} {vs : List Nat} {Q : Ow → List D → En → Prop} {ds : List D} {ρ : En} (xs : List α) (g : α → D) (p : α → Bool) (h : α → D) (e : ds = xs.map g)
    (k : ∀ x ∈ xs, f (g x) ρ fun o ρ' => (o = if p x then some (h x) else none) ∧ wipeD ρ' vs = ρ) (ho : ∀ x, (h x).own = false) (q : Q .flat ((xs.filter p).map h) ρ) : compR f vs ds ρ .flat [] Q := by
  subst e
  refine compR_map g (fun x => if p x then some (h x) else none) xs [] ρ k (fun x _ y e => by split at e <;> cases e; exact ho x) ?_
  have : xs.filterMap (fun x => if p x then some (h x) else none) = (xs.filter p).map h := by
    clear k q
    induction xs with
    | nil => rfl
    | cons x xs ih => rw [List.filterMap_cons, List.filter_cons]; cases p x <;> simp [ih]
  rw [List.nil_append, this]
  exact q
/-- an int, or nothing yet -/
def isI (o : Option D) : Prop := o = none ∨ ∃ i : Int, o = some (.int i)
theorem isI.i {i : Int} : isI (some (.int i)) := .inr ⟨i, rfl⟩
end FL
namespace PySem
open PySem PySem.Spec PyProof.Rows RT
end PySem
namespace FL
open PySem PySem.Spec PyProof.Rows L2 RT
end FL
namespace FL
open PySem PySem.Spec PyProof.Rows L2 RT
section
variable {X : Cx} {W : WX} {M : List Nat} {a b c : Expr} {ra rb rc : RO} {pos : Pos}
/-- a op b op' c -/
def rChain (d1 d2 : DO) (ra rb rc : RO) : RE := fun ρ E Q => ra ρ E fun x ρ1 => rb ρ1 E fun y ρ2 => on1 ρ2 x fun dx => on1 ρ2 y fun dy => d1 dx dy fun d => match d with
  | .bl b => (b = true → rc ρ2 E fun z ρ3 => on1 ρ3 y fun dy' => on1 ρ3 z fun dz => d2 dy' dz fun d' => Q d' ρ3) ∧ (b = false → Q (.bl false) ρ2)
  | _ => False
theorem so_chain {K : PySem.W.Frag} {r r' : R2} {d1 d2 : DO} {ta tb tc : TE} (sa : SOp K W ta ra) (sb : SOp K W tb rb) (sc : SOp K W tc rc) (so : SOK K r d1) (so' : SOK K r' d2) : SE K W (tChain r r' ta tb tc) (rChain d1 d2 ra rb rc) := by
  intro τ w σ ρ E Q Qv hn st hr hq hx
  refine sa τ w σ ρ E _ _ hn st hr (fun x ρ1 w1 v1 h1 e1 r1 => ?_) hx
  have hn1 : ρ1.length < τ + 1 := by rw [e1.len]; omega
  refine sb (τ + 1) w1 σ ρ1 E _ _ hn1 e1.st h1 (fun y ρ2 w2 v2 h2 e2 r2 => ?_) (hx.then e1 (Nat.le_succ _))
  obtain ⟨dx, ex, h2⟩ := on1_elim h2
  obtain ⟨dy, ey, h2⟩ := on1_elim h2
  have e12 := e1.trans e2 (Nat.le_succ _)
  obtain ⟨ℓ, rx⟩ := ad_get e12.st (r1.later (by rw [e1.len]; exact hn) e2) ex
  obtain ⟨ℓ', ry⟩ := ad_get e12.st r2 ey
  refine so (τ + 2) w2 σ ρ2 v1 v2 dx dy ℓ ℓ' _ _ (by rw [e12.len]; omega) e12.st rx ry h2 fun d w3 v3 q e3 r3 => ?_
  have e13 : EndE K τ w σ ρ ρ2 w3 := e12.trans e3 (by omega)
  cases d with
  | bl b =>
    simp only [Rep] at r3
    refine ⟨b, r3, ?_⟩
    cases b with
    | false =>
      rw [if_neg Bool.false_ne_true]
      exact hq _ _ _ _ (q.2 rfl) e13 rfl
    | true =>
      rw [if_pos rfl]
      refine sc (τ + 2) w3 σ ρ2 E _ _ (by rw [e12.len]; omega) e3.st (q.1 rfl) (fun z ρ3 w4 v4 h4 e4 r4 => ?_) (hx.then e13 (by omega))
      obtain ⟨dy', ey', h4⟩ := on1_elim h4
      obtain ⟨dz, ez, h4⟩ := on1_elim h4
      have r2' : AdAt K w4 σ y (τ + 1) v2 := (r2.later (by rw [e12.len]; omega) e3).later (by rw [e12.len]; omega) e4
      obtain ⟨ℓ2, ry2⟩ := ad_get e4.st r2' ey'
      obtain ⟨ℓ3, rz⟩ := ad_get e4.st r4 ez
      have e14 := e13.trans e4 (by omega)
      exact so' τ w4 σ ρ3 v2 v4 dy' dz ℓ2 ℓ3 _ _ (by rw [e14.len]; exact hn) e14.st ry2 rz h4 fun d5 w5 v5 q5 e5 r5 => hq d5 ρ3 w5 v5 q5 (e14.trans e5 (Nat.le_refl _)) r5
  | _ => exact q.elim
theorem fe_chain {op op' : CmpOp} {d1 d2 : DO} (ho : FOp X (compareOp op) d1) (ho' : FOp X (compareOp op') d2) (ha : FO X W a ra) (hb : FO X W b rb) (hc : FO X W c rc) (hm : lastMarks [op, op'] [b, c] = false := by with_unfolding_all rfl) : FE X W (.Compare a [op, op'] [b, c] pos) (rChain d1 d2 ra rb rc) := by
  obtain ⟨r, h1, h2⟩ := ho.ex
  obtain ⟨r', h1', h2'⟩ := ho'.ex
  obtain ⟨ta, pa, sa⟩ := ha.ex
  obtain ⟨tb, pb, sb⟩ := hb.ex
  obtain ⟨tc, pc, sc⟩ := hc.ex
  exact ⟨_, pe_chain h1 h1' pa pb pc hm, so_chain sa sb sc h2 h2'⟩
theorem ft_chain {op op' : CmpOp} {d1 d2 : DO} (ho : FOp X (compareOp op) d1) (ho' : FOp X (compareOp op') d2) (ha : FO X W a ra) (hb : FO X W b rb) (hc : FO X W c rc) (hm : lastMarks [op, op'] [b, c] = false := by with_unfolding_all rfl) : FT X W (.Compare a [op, op'] [b, c] pos) (rTst (rChain d1 d2 ra rb rc)) := by
  obtain ⟨r, h1, h2⟩ := ho.ex
  obtain ⟨r', h1', h2'⟩ := ho'.ex
  obtain ⟨ta, pa, sa⟩ := ha.ex
  obtain ⟨tb, pb, sb⟩ := hb.ex
  obtain ⟨tc, pc, sc⟩ := hc.ex
  exact ⟨_, pt_chain h1 h1' pa pb pc hm, st_tst (so_chain sa sb sc h2 h2')⟩
end
def isFlat : D → Bool
  | .non => true
  | .bl _ => true
  | .int _ => true
  | .str _ => true
  | _ => false
def dV : D → V
  | .bl b => .bl b
  | .int i => .int i
  | .str s => .str s
  | _ => .non
def inD (k : D) (ds : List D) : Bool := inV (dV k) (ds.map dV)
theorem flat_rep {K : PySem.W.Frag} {w : Wd} {d : D} {ℓ : Loc} {v : V} (h : Rep K w d ℓ v) (f : isFlat d = true) : v = dV d ∧ flatV v = true := by
  cases d <;> first
    | (cases f; done)
    | (simp only [Rep] at h; subst h; exact ⟨rfl, rfl⟩)
theorem flats_rep {K : PySem.W.Frag} {w : Wd} : ∀ {ds : List D} {ℓ : Loc} {j : Nat} {vs : List V}, RepL K w ds ℓ j vs → ds.all isFlat = true → vs = ds.map dV ∧ vs.all flatV = true
  | [], _, _, _, h, _ => by simp only [RepL] at h; subst h; exact ⟨rfl, rfl⟩
  | d :: ds, ℓ, j, vs, h, f => by
    rw [List.all_cons, Bool.and_eq_true] at f
    simp only [RepL] at h
    obtain ⟨v, r, rfl, h1, h2⟩ := h
    obtain ⟨e1, e2⟩ := flat_rep h1 f.1
    obtain ⟨e3, e4⟩ := flats_rep h2 f.2
    exact ⟨by rw [List.map_cons, ← e1, ← e3], by rw [List.all_cons, e2, e4]; rfl⟩
/-- k in d -/
def dIn (neg : Bool) : DO
  | k, .dct _ t ks _, Q => keyOk t k = true ∧ Q (.bl (neg ^^ (kIdx t ks k).isSome))
  | k, .lst _ ds, Q => isFlat k = true ∧ ds.all isFlat = true ∧ Q (.bl (neg ^^ inD k ds))
  | k, .tup _ ds, Q => isFlat k = true ∧ ds.all isFlat = true ∧ Q (.bl (neg ^^ inD k ds))
  | k, .ro _ ds, Q => isFlat k = true ∧ ds.all isFlat = true ∧ Q (.bl (neg ^^ inD k ds))
  | _, _, _ => False
section
variable {X : Cx}
theorem op_din (hu : X.A.units + 1 < cLine) : OpR X (compareOp .In) (fun x y H Q => ∃ a o, y = .ref a ∧ DGet H a x o ∧ Q (.bl o.isSome) H) := by
  intro pins s σ H x y v u Q I rx ry h
  obtain ⟨a, o, rfl, g, q⟩ := h
  obtain rfl : u = Value.ref a := ry
  exact d_in hu I g rx fun s3 I3 => ⟨.bl o.isSome, H, I3, rfl, q⟩
theorem op_dnotin (hu : X.A.units + 1 < cLine) : OpR X (compareOp .NotIn) (fun x y H Q => ∃ a o, y = .ref a ∧ DGet H a x o ∧ Q (.bl (!o.isSome)) H) := by
  intro pins s σ H x y v u Q I rx ry h
  obtain ⟨a, o, rfl, g, q⟩ := h
  obtain rfl : u = Value.ref a := ry
  exact d_notIn hu I g rx fun s3 I3 => ⟨.bl (!o.isSome), H, I3, rfl, q⟩
theorem sok_in (neg : Bool) {τ : Nat} {w : Wd} {σ : Sl} {ρ : En} {x y : V} {dx dy : D} {ℓ ℓ' : Loc} {Q : D → Prop} {Qv : VK} (hn : ρ.length < τ) (st : StE X.K w σ ρ) (rx : Rep X.K w dx ℓ x) (ry : Rep X.K w dy ℓ' y) (hd : dIn neg dx dy Q)
    (hq : ∀ d w' v, Q d → EndE X.K τ w σ ρ ρ w' → Rep X.K w' d [τ] v → Qv v w'.H) : rIn X.K neg x y w.H Qv ∨ ∃ a o, y = .ref a ∧ DGet w.H a x o ∧ Qv (.bl (neg ^^ o.isSome)) w.H := by
  have fin : ∀ {ds : List D} {vs : List V} {a : Addr}, isFlat dx = true → ds.all isFlat = true → Q (.bl (neg ^^ inD dx ds)) → (SqL X.K w.H a vs ∨ SqT X.K w.H a vs) → RepL X.K w ds ℓ' 0 vs → rIn X.K neg x (.ref a) w.H Qv := fun {ds vs a} f1 f2 q hs rl => by
    obtain ⟨e1, e2⟩ := flat_rep rx f1
    obtain ⟨e3, e4⟩ := flats_rep rl f2
    refine ⟨_, _, rfl, hs, e2, e4, ?_⟩
    have : (if neg = true then !inV x vs else inV x vs) = (neg ^^ inD dx ds) := by
      unfold inD
      rw [← e1, ← e3]
      cases neg <;> simp
    rw [this]
    exact hq _ _ _ q (.refl st) rfl
  cases dy with
  | dct o t ks ds =>
    obtain ⟨hk, q⟩ := hd
    obtain ⟨a, vs, rfl, h1, h3, h4, h2⟩ := dct_at st.wf ry
    have g := DGet.of st.wf h1 h3 hk rx (fun e => by subst e; exact rep_tkey st.wf rx hk)
    refine .inr ⟨a, _, rfl, g, ?_⟩
    have : ((kIdx t ks dx).bind fun i => vs[i]?).isSome = (kIdx t ks dx).isSome := by
      cases e : kIdx t ks dx with
      | none => rfl
      | some i =>
        have hi : i < ks.length := by
          unfold kIdx at e
          exact (List.findIdx?_eq_some_iff_getElem.mp e).1
        show (vs[i]?).isSome = true
        rw [List.getElem?_eq_getElem (by omega)]; rfl
    rw [this]
    exact hq _ _ _ q (.refl st) rfl
  | lst o ds =>
    obtain ⟨f1, f2, q⟩ := hd
    obtain ⟨a, us, rfl, h1, h2⟩ := lst_at st.wf ry
    exact .inl (fin f1 f2 q (.inl (SqL.of h1)) h2)
  | tup o ds =>
    obtain ⟨f1, f2, q⟩ := hd
    obtain ⟨a, us, rfl, h1, h2⟩ := tup_at st.wf ry
    exact .inl (fin f1 f2 q (.inr (SqT.of h1)) h2)
  | ro t ds =>
    obtain ⟨f1, f2, q⟩ := hd
    simp only [Rep] at ry
    obtain ⟨a, us, rfl, h1, hz, h2⟩ := ry
    cases t with
    | true => exact .inl (fin f1 f2 q (.inr (same_rdT st.wf.sh h1)) h2)
    | false => exact .inl (fin f1 f2 q (.inl (st.wf.sh.seq h1)) h2)
  | _ => exact hd.elim
theorem fop_in (hu : X.A.units + 1 < cLine) : FOp X (compareOp .In) (dIn false) := ⟨_, op_in_seq.or (op_din hu), fun τ w σ ρ x y dx dy ℓ ℓ' Q Qv hn st rx ry hd hq => by
  rcases sok_in false hn st rx ry hd hq with h | ⟨a, o, e, g, q⟩
  · exact .inl h
  · exact .inr ⟨a, o, e, g, by simpa using q⟩⟩
theorem fop_notin (hu : X.A.units + 1 < cLine) : FOp X (compareOp .NotIn) (dIn true) := ⟨_, op_notIn_seq.or (op_dnotin hu), fun τ w σ ρ x y dx dy ℓ ℓ' Q Qv hn st rx ry hd hq => by
  rcases sok_in true hn st rx ry hd hq with h | ⟨a, o, e, g, q⟩
  · exact .inl h
  · exact .inr ⟨a, o, e, g, by simpa using q⟩⟩
end
theorem inD_int (i : Int) (xs : List Int) : inD (.int i) (xs.map D.int) = decide (i ∈ xs) := by
  unfold inD inV
  rw [List.map_map, List.any_map, Bool.eq_iff_iff, List.any_eq_true, decide_eq_true_iff]
  constructor
  · rintro ⟨x, hx, e⟩
    have : x = i := by simpa [dV, eqV] using e
    exact this ▸ hx
  · intro h
    exact ⟨i, h, by simp [dV, eqV]⟩
end FL
namespace FL
open PySem PySem.Spec PyProof.Rows L2 RT
def D.atS : D → List Nat → Option D
  | d, [] => some d
  | .tup _ ds, j :: p => match ds[j]? with
    | some e => e.atS p
    | none => none
  | .lst _ ds, j :: p => match ds[j]? with
    | some e => e.atS p
    | none => none
  | .ins _ _ _ ds, j :: p => match ds[j]? with
    | some e => e.atS p
    | none => none
  | .dct _ _ _ ds, j :: p => match ds[j]? with
    | some e => e.atS p
    | none => none
  | _, _ :: _ => none
section
variable {K : PySem.W.Frag} {w w' : Wd}
theorem AtV.to {d e : D} {ℓ : Loc} {v u : V} {p : List Nat} (hs : Same w.S w'.S) (h : AtV K w d ℓ v p e u) : ∀ {ℓ' : Loc}, KeptTo w w' ℓ ℓ' → AtV K w' d ℓ' v p e u := by
  induction h with
  | here => exact fun _ => .here
  | down h1 h2 h3 h4 h5 _ ih =>
    intro ℓ' k
    refine .down h1 (h2.later hs fun z => by simpa using k _ [] (by simpa using z)) h3 h4 h5 (ih (k.sub _))
/-- one step down from a place -/
theorem AtV.snoc {d e c : D} {ℓ : Loc} {v u x : V} {p : List Nat} {j : Nat} (h : AtV K w d ℓ v p e u) : AtV K w e (ℓ ++ p) u [j] c x → AtV K w d ℓ v (p ++ [j]) c x := by
  induction h with
  | here => intro g; rw [List.append_nil] at g; exact g
  | down h1 h2 h3 h4 h5 _ ih => intro g; exact .down h1 h2 h3 h4 h5 (ih (by rw [List.append_assoc]; exact g))
theorem hold {σ : Sl} {ρ : En} {i τ : Nat} {d0 dn : D} {v0 u : V} {p : List Nat} (st : StE K w σ ρ) (hi : ρ[i]? = some (some d0)) (hv : σ[i]? = some (some v0)) (at0 : AtV K w d0 [i + 1] v0 p dn u) (hτ : ρ.length < τ) :
    StE K (w.ren (moveT (i + 1) [τ])) σ (ρ.set i none) ∧ ∀ ρ1 w1, EndE K (τ + 1) (w.ren (moveT (i + 1) [τ])) σ (ρ.set i none) ρ1 w1 →
      EndE K τ w σ ρ (ρ1.set i (some d0)) (w1.ren (moveT τ [i + 1])) ∧ AtV K (w1.ren (moveT τ [i + 1])) d0 [i + 1] v0 p dn u ∧ ∀ d v h s, h ≠ τ → Rep K w1 d (h :: s) v → Rep K (w1.ren (moveT τ [i + 1])) d (h :: s) v := by
  have hin := (List.getElem?_eq_some_iff.mp hi).1
  obtain ⟨v0', ev', r0⟩ := st.rep i d0 hi
  rw [hv] at ev'; cases ev'
  have kt : KeptTo w (w.ren (moveT (i + 1) [τ])) [i + 1] [τ] := KeptTo.ren fun s => moveT_at
  refine ⟨⟨st.wf.ren _, by rw [List.length_set]; exact st.len, fun k d e => ?_⟩, fun ρ1 w1 e1 => ?_⟩
  · by_cases hk : k = i
    · subst hk
      rw [List.getElem?_set_self hin] at e
      cases e
    · rw [List.getElem?_set_ne (Ne.symm hk)] at e
      obtain ⟨v, e2, r⟩ := st.rep k d e
      exact ⟨v, e2, r.mv (by omega)⟩
  · have hl : ρ1.length = ρ.length := by rw [e1.len, List.length_set]
    have fx : ∀ a s, (w.ren (moveT (i + 1) [τ])).G a = some (τ :: s) → w1.G a = some (τ :: s) ∧ w1.H a = (w.ren (moveT (i + 1) [τ])).H a := fun a s e => e1.ext.f a _ e ⟨τ, s, rfl, .inr ⟨by rw [List.length_set]; exact hτ, Nat.lt_succ_self _⟩⟩
    have k1 : KeptTo (w.ren (moveT (i + 1) [τ])) w1 [τ] [τ] := fun a s e => fx a s e
    have k2 : KeptTo w1 (w1.ren (moveT τ [i + 1])) [τ] [i + 1] := KeptTo.ren fun s => moveT_at
    have r1 : Rep K w1 d0 [τ] v0 := (r0.ren fun s => moveT_at).to e1.ext.s d0 k1
    have r2 : Rep K (w1.ren (moveT τ [i + 1])) d0 [i + 1] v0 := r1.ren fun s => moveT_at
    have st2 : StE K (w1.ren (moveT τ [i + 1])) σ (ρ1.set i (some d0)) := ⟨e1.st.wf.ren _, by rw [List.length_set]; exact e1.st.len, fun k d e => by
      by_cases hk : k = i
      · subst hk
        rw [List.getElem?_set_self (by omega)] at e
        cases e
        exact ⟨v0, hv, r2⟩
      · rw [List.getElem?_set_ne (Ne.symm hk)] at e
        obtain ⟨v, e2, r⟩ := e1.st.rep k d e
        have := (List.getElem?_eq_some_iff.mp e).1
        exact ⟨v, e2, r.mv (by omega)⟩⟩
    refine ⟨⟨by rw [List.length_set, hl], st2, ⟨e1.ext.s, fun a ℓ e ⟨h, s, e2, q⟩ => ?_⟩⟩, AtV.to (w := w1) (w' := w1.ren (moveT τ [i + 1])) (Same.refl _) (AtV.to (w := w.ren (moveT (i + 1) [τ])) (w' := w1) e1.ext.s (AtV.to (w := w) (w' := w.ren (moveT (i + 1) [τ])) (Same.refl _) at0 kt) k1) k2, fun d v h s hh r => r.mv hh⟩
    subst e2
    have g1 : (w.ren (moveT (i + 1) [τ])).G a = some (h :: s) := ren_at e (moveT_ne (by omega))
    obtain ⟨g2, g3⟩ := e1.ext.f a _ g1 ⟨h, s, rfl, q.imp id fun q => by rw [List.length_set]; exact ⟨q.1, by omega⟩⟩
    exact ⟨ren_at g2 (moveT_ne (by omega)), g3⟩
end
abbrev RPl := En → EE → (Nat → List Nat → En → Prop) → Prop
/-- e names a place: slot i, path p -/
structure FPl (X : Cx) (W : WX) (e : Expr) (rp : RPl) : Prop where
  ex : ∃ t, PE X e t ∧ ∀ (τ : Nat) (w : Wd) (σ : Sl) (ρ : En) (E : EE) (Q : Nat → List Nat → En → Prop) (Qv : VK), ρ.length < τ → StE X.K w σ ρ → rp ρ E Q →
    (∀ i p ρ' w' d0 dn v0 v, Q i p ρ' → EndE X.K τ w σ ρ ρ' w' → ρ'[i]? = some (some d0) → d0.atS p = some dn → σ[i]? = some (some v0) → AtV X.K w' d0 [i + 1] v0 p dn v → Qv v w'.H) → SX X.K W τ w σ ρ E → t σ w.H Qv
def rpN (i : Nat) : RPl := fun ρ _ Q => match ρ[i]? with
  | some (some _) => Q i [] ρ
  | _ => False
/-- evaluated while slot i is held -/
def heldE (i : Nat) (d0 : D) (E : EE) : EE := fun c fs ρ' => E c fs (ρ'.set i (some d0))
theorem held_sx {K : PySem.W.Frag} {W : WX} {τ : Nat} {w w1 : Wd} {σ : Sl} {ρ : En} {E : EE} {i : Nat} {d0 : D} (hx : SX K W τ w σ ρ E)
    (h : ∀ ρ1 w1', EndE K (τ + 1) w1 σ (ρ.set i none) ρ1 w1' → EndE K τ w σ ρ (ρ1.set i (some d0)) (w1'.ren (moveT τ [i + 1]))) : SX K W (τ + 1) w1 σ (ρ.set i none) (heldE i d0 E) := fun c fs ρ' w' x e en xr => by
  refine hx c fs _ (w'.ren (moveT τ [i + 1])) x e (h ρ' w' en) ?_
  cases x with
  | none => cases fs <;> exact xr
  | some a =>
    cases fs with
    | none => exact xr
    | some fs =>
      obtain ⟨us, h1, h2, h3, h4⟩ := xr
      exact ⟨us, h1, h2, h3, RepL.free (w := w') (w' := w'.ren (moveT τ [i + 1])) (Same.refl _) _ h3 h4⟩
theorem atS_snoc : ∀ {p : List Nat} {d e c : D} {j : Nat}, d.atS p = some e → e.atS [j] = some c → d.atS (p ++ [j]) = some c
  | [], d, e, c, j, h, g => by
    have : d = e := by cases d <;> (simp only [D.atS] at h; cases h; rfl)
    subst this; exact g
  | k :: p, d, e, c, j, h, g => by
    cases d with
    | tup o ds =>
      simp only [D.atS, List.cons_append] at h ⊢
      cases q : ds[k]? with
      | none => rw [q] at h; cases h
      | some d' => rw [q] at h; exact atS_snoc h g
    | lst o ds =>
      simp only [D.atS, List.cons_append] at h ⊢
      cases q : ds[k]? with
      | none => rw [q] at h; cases h
      | some d' => rw [q] at h; exact atS_snoc h g
    | ins o C fs ds =>
      simp only [D.atS, List.cons_append] at h ⊢
      cases q : ds[k]? with
      | none => rw [q] at h; cases h
      | some d' => rw [q] at h; exact atS_snoc h g
    | dct o t ks ds =>
      simp only [D.atS, List.cons_append] at h ⊢
      cases q : ds[k]? with
      | none => rw [q] at h; cases h
      | some d' => rw [q] at h; exact atS_snoc h g
    | _ => simp [D.atS] at h
section
variable {X : Cx} {W : WX} {M : List Nat} {pos pos' p2 apos : Pos}
theorem fp_name (i : Nat) {x : Str} (hN : X.N[i]? = some x := by rfl) (hv : Vis X.env.scope x := by first | exact Or.inl rfl | exact Or.inr (Or.inl rfl) | exact Or.inr (Or.inr rfl)) (hd : (x == ("__debug__" : Str)) = false := by decide)
    (hcd : (x == ("__classdict__" : Str)) = false := by decide) : FPl X W (.Name x p2) (rpN i) := by
  refine ⟨_, pe_var hN hv hd hcd, fun τ w σ ρ E Q Qv hn st h hq hx => ?_⟩
  unfold rpN at h
  split at h
  · rename_i d0 e0
    obtain ⟨v0, ev, r0⟩ := st.rep i _ e0
    exact ⟨v0, ev, hq i [] ρ w d0 d0 v0 v0 h (.refl st) e0 (by cases d0 <;> rfl) ev .here⟩
  · exact h.elim
theorem m0_end {K : PySem.W.Frag} {w : Wd} {σ : Sl} {ρ : En} {i τ : Nat} {d0 : D} {v0 : V} {p : List Nat} {o : Ow} {ds ds' : List D} {a : Addr} {us' : List V} (ho : o.mine = true) (st : StE K w σ ρ) (hi : ρ[i]? = some (some d0)) (hv : σ[i]? = some (some v0)) (r0 : Rep K w d0 [i + 1] v0)
    (at0 : AtV K w d0 [i + 1] v0 p (.lst o ds) (.ref a)) (hτ : ρ.length < τ) (rl : RepL K w ds' ((i + 1) :: p) 0 us') (hL : ownL ds' = false) (hz : ds'.length ≤ sizeLine) : EndE K τ w σ ρ (ρ.set i (some (d0.put p (.lst .flat ds')))) ((w.ren (moveT τ [])).put a (.lst us')) :=
  list_end (o' := .flat) ho rfl st hi hv r0 at0 hτ (Nat.le_refl _) (RepL.free (w := w) (w' := w.ren (moveT τ [])) (Same.refl _) ds' hL rl) hz (fun _ => hL)
end
end FL
namespace FL
open PySem PySem.Spec PyProof.Rows L2 RT
/-- x.insert(a, e), a not below 0 -/
def rIns (i : Nat) (ra : RA) : RE := fun ρ E Q => onLst ρ i fun _ _ => ra ρ E fun ads ρ1 => onVals ads fun ds => match ds with
  | [.int n, d] => onLst ρ1 i fun o xs => match o with
    | .flat => d.own = false ∧ (0 ≤ n ∧ n < 2 ^ 62) ∧ xs.length < sizeLine ∧ nf (ρ1.set i (some (.lst .flat (xs.take n.toNat ++ [d] ++ xs.drop n.toNat)))) (Q .non)
    | _ => False
  | _ => False
section
variable {X : Cx} {W : WX} {M : List Nat} {pos pos' p2 p3 apos : Pos}
theorem fe_ins (i : Nat) {x : Str} {e1 e2 : Expr} {ra : RA} (he : FA X W [e1, e2] ra) (hN : X.N[i]? = some x := by rfl) (hv : Vis X.env.scope x := by first | exact Or.inl rfl | exact Or.inr (Or.inl rfl) | exact Or.inr (Or.inr rfl)) (hd : (x == ("__debug__" : Str)) = false := by decide)
    (hcd : (x == ("__classdict__" : Str)) = false := by decide) (hbase : attributeBase (.Name x p2) "insert" X.env (eval (.Name x p2) X.env) = eval (.Name x p2) X.env := by rfl)
    (hfew : ((backTo pos (starEach [e1, e2] X.env)).all (fun x => !x.1) && (backToKw pos (keywordEach [] X.env)).all (fun x => x.1.isSome)
      && decide ([e1, e2].length + ([] : List Keyword).length + (if ([] : List Keyword).isEmpty then 0 else 1) < 30)) = true := by rfl)
    (hline : (apos.endLine == pos.line) = true := by rfl) (hs : starEach [e1, e2] X.env = (false, eval e1 X.env) :: starEach [e2] X.env := by rfl) (hplain : (backTo pos (starEach [e2] X.env)).any (·.1) = false := by rfl) :
    FE X W (.Call (.Attribute (.Name x p2) "insert" apos) [e1, e2] [] pos) (rIns i ra) := by
  obtain ⟨t, p, l⟩ := he.ex
  refine ⟨_, pe_bm PySem.F.plainAttrs_list PySem.F.slot_list_insert PySem.F.type_list_insert mt_insert (pe_var hN hv hd hcd) p hbase hfew hline hs hplain, fun τ w σ ρ E Q Qv hn st h hq hx => ?_⟩
  obtain ⟨o0, ds0, e0, _, h⟩ := onLst_elim h
  obtain ⟨v0, ev, r00⟩ := st.rep i _ e0
  refine ⟨v0, ev, tyL st.wf r00, ?_⟩
  refine l τ w σ ρ E _ _ hn st h (fun ads ρ1 w1 vs h1 l1 e1 r1 => ?_) hx
  obtain ⟨ds, ea, h1⟩ := onVals_elim h1
  obtain ⟨l2, l3, g⟩ := vals_at r1 ea
  split at h1
  · rename_i n d
    match vs, l2, g with
    | [v1, v2], _, g =>
      have r1' := g 0 _ v1 rfl rfl
      have r2' := g 1 _ v2 rfl rfl
      simp only [Rep] at r1'
      subst r1'
      obtain ⟨o, xs, ed, ho, h1⟩ := onLst_elim h1
      cases o with
      | flat =>
        obtain ⟨hdo, ⟨b1, b2⟩, hz, h1⟩ := h1
        obtain ⟨v0', ev', r0⟩ := e1.st.rep i _ ed
        rw [ev] at ev'; cases ev'
        obtain ⟨a, us, rfl, ta, ha, z, rl⟩ := list_at ho r0 .here
        have hL : ownL xs = false := z.2 rfl
        refine ⟨a, us, n, v2, rfl, rfl, ha, by rw [rl.length]; exact hz, b1, by omega, ?_⟩
        have hL' : ownL (xs.take n.toNat ++ [d] ++ xs.drop n.toNat) = false := by
          rw [ownL_iff] at hL ⊢
          intro y hy
          simp only [List.append_assoc, List.mem_append, List.mem_singleton] at hy
          rcases hy with hy | rfl | hy
          · exact hL y (List.mem_of_mem_take hy)
          · exact hdo
          · exact hL y (List.mem_of_mem_drop hy)
        have rl' : RepL X.K w1 (xs.take n.toNat ++ [d] ++ xs.drop n.toNat) ((i + 1) :: []) 0 (us.take n.toNat ++ [v2] ++ us.drop n.toNat) := by
          have fr : ∀ ys : List D, ownL ys = false → ∀ ws ℓ j ℓ' j', RepL X.K w1 ys ℓ j ws → RepL X.K w1 ys ℓ' j' ws := fun ys hy ws ℓ j ℓ' j' r => RepL.free (w := w1) (w' := w1) (Same.refl _) ys hy r
          have ltk : ownL (xs.take n.toNat) = false := by rw [ownL_iff] at hL ⊢; exact fun y hy => hL y (List.mem_of_mem_take hy)
          have ldr : ownL (xs.drop n.toNat) = false := by rw [ownL_iff] at hL ⊢; exact fun y hy => hL y (List.mem_of_mem_drop hy)
          have tk : RepL X.K w1 (xs.take n.toNat) ((i + 1) :: []) 0 (us.take n.toNat) := RepL.of (by rw [List.length_take, List.length_take, rl.length]) fun j d v e1 e2 => by
            rw [List.getElem?_take] at e1 e2
            split at e1
            · rename_i hj
              rw [if_pos hj] at e2
              obtain ⟨v', e3, r⟩ := rl.get e1
              rw [e2] at e3; cases e3
              exact r
            · cases e1
          have dr : RepL X.K w1 (xs.drop n.toNat) ((i + 1) :: []) 0 (us.drop n.toNat) := RepL.of (by rw [List.length_drop, List.length_drop, rl.length]) fun j d v e1 e2 => by
            rw [List.getElem?_drop] at e1 e2
            obtain ⟨v', e3, r⟩ := rl.get e1
            rw [e2] at e3; cases e3
            exact r.free (Same.refl _) d (ownL_iff.mp hL d (List.mem_of_getElem? e1))
          exact RepL.app (RepL.app tk (RepL.one (r2'.free (Same.refl _) d hdo))) (fr _ ldr _ _ _ _ _ dr)
        exact hq .non _ _ .non (nf_of h1) (e1.trans (m0_end (us' := us.take n.toNat ++ [v2] ++ us.drop n.toNat) ho e1.st ed ev r0 .here (by rw [e1.len]; exact hn) rl' hL' (by simp only [List.length_append, List.length_take, List.length_drop, List.length_singleton]; omega)) (Nat.le_refl _)) rfl
      | _ => exact h1.elim
  · exact h1.elim
end
end FL
namespace FL
open PySem PySem.Spec PyProof.Rows L2 RT
end FL
namespace FL
open PySem PySem.Spec PyProof.Rows L2 RT
structure MkOk (K : PySem.W.Frag) (w : Wd) (t : Bool) (ks : List D) (ds : List D) (ℓ : Loc) (us : List V) : Prop where
  l : ks.length = us.length
  k : keysOk t ks = true
  r : RepL K w ds ℓ 0 us
  o : ownL ds = false
theorem MkOk.put {K : PySem.W.Frag} {w : Wd} {t : Bool} {ks ds : List D} {ℓ : Loc} {us : List V} (h : MkOk K w t ks ds ℓ us) {k d : D} {v : V} (hk : keyOk t k = true) (ho : d.own = false) (r : ∀ ℓ, Rep K w d ℓ v) : MkOk K w t (putKs t ks k) (putDs t ks k ds d) ℓ (putDs t ks k us v) :=
  ⟨putDs_len h.l, putKs_ok h.k hk, RepL.put h.r fun _ _ => r _, by
    have := h.o
    unfold putDs
    split
    · rw [ownL_iff] at this ⊢
      intro e he
      rcases List.mem_or_eq_of_mem_set he with he | rfl
      · exact this e he
      · exact ho
    · rw [ownL_append, this]; simp [ownL, ho]⟩
end FL
namespace FL
open PySem PySem.Spec PyProof.Rows L2 RT
/-- two worlds that differ in a dict's lock -/
structure Sw (w w' : Wd) (a : Addr) (u : HO) : Prop where
  du : ∃ t ks vs, u = dHO t ks vs
  G : w'.G = w.G
  S : ∀ b, b ≠ a → w'.S b = w.S b
  H : ∀ b, b ≠ a → w'.H b = w.H b
  r : Rd w.S a u
  r' : Rd w'.S a u
  e : w'.H a = w'.S a
section
variable {K : PySem.W.Frag} {w w' : Wd} {a : Addr} {u : HO}
theorem Sw.neG (h : Sw w w' a u) (wf : Wf w) {b : Addr} {ℓ : Loc} (e : w.G b = some ℓ) : b ≠ a := fun z => by
  subst z
  have := (wf.tg _ _ e).1
  rcases h.r with r | ⟨x, r⟩ <;> rw [this] at r <;> cases r
theorem Sw.wf (h : Sw w w' a u) (wf : Wf w) : Wf w' := ⟨fun b o e => by
    by_cases hb : b = a
    · subst hb; rw [h.e]; exact e
    · rw [h.S b hb] at e; rw [h.H b hb]; exact wf.sh b o e, fun b ℓ e => by
    rw [h.G] at e
    have hb := h.neG wf e
    rw [h.S b hb, h.H b hb]; exact wf.tg b ℓ e⟩
end
end FL
namespace FL
open PySem PySem.Spec PyProof.Rows L2 RT
end FL
namespace FL
open PySem PySem.Spec PyProof.Rows L2 RT
mutual
/-- no frozen node that could change: it is no part of what was lent -/
def D.clean : D → Bool
  | .tup _ ds => cleanL ds
  | .lst o ds => match o with
    | .ice => false
    | _ => cleanL ds
  | .ro t ds => match t with
    | true => cleanL ds
    | false => false
  | .dct o _ _ ds => match o with
    | .ice => false
    | _ => cleanL ds
  | .ins o _ _ ds => match o with
    | .ice => false
    | _ => cleanL ds
  | .any => true
  | .non => true
  | .bl _ => true
  | .int _ => true
  | .str _ => true
  | .obj _ => true
  | .ty _ => true
def cleanL : List D → Bool
  | [] => true
  | d :: ds => d.clean && cleanL ds
end
theorem cleanL_all {ds : List D} : cleanL ds = true ↔ ∀ d ∈ ds, d.clean = true := by
  induction ds with
  | nil => simp [cleanL]
  | cons d r ih => simp [cleanL, ih]
/-- w'' is w' but for some changeable shared nodes -/
structure Tw (w' w'' : Wd) : Prop where
  G : ∀ a ℓ, w'.G a = some ℓ → w''.G a = some ℓ
  S : ∀ a o, w'.S a = some o → ¬ Mut (some o) → w''.S a = some o
  H : w''.H = w'.H
section
variable {K : PySem.W.Frag} {w' w'' : Wd}
theorem Nd.thaw (h : Tw w' w'') {d : D} {ℓ : Loc} {a : Addr} {vs : List V} (hd : d.clean = true) (n : Nd K w' d ℓ a vs) : Nd K w'' d ℓ a vs := by
  cases d with
  | tup o ds => exact h.S _ _ n fun z => z.elim
  | lst o ds =>
    cases o with
    | ice => cases hd
    | flat => exact ⟨h.G _ _ n.1, by rw [h.H]; exact n.2⟩
    | deep => exact ⟨h.G _ _ n.1, by rw [h.H]; exact n.2⟩
  | ro t ds =>
    cases t with
    | false => cases hd
    | true =>
      rcases n with (n | ⟨o, n⟩) | n
      · exact .inl (.inl (h.S _ _ n fun z => z.elim))
      · exact .inl (.inr ⟨o, h.S _ _ n fun z => z.elim⟩)
      · exact .inr n
  | dct o t ks ds =>
    cases o with
    | ice => cases hd
    | flat => exact ⟨h.G _ _ n.1, by rw [h.H]; exact n.2⟩
    | deep => exact ⟨h.G _ _ n.1, by rw [h.H]; exact n.2⟩
  | ins o C fs ds =>
    obtain ⟨dx, n⟩ := n
    cases o with
    | ice => cases hd
    | flat => exact ⟨dx, h.G _ _ n.1, by rw [h.H]; exact n.2⟩
    | deep => exact ⟨dx, h.G _ _ n.1, by rw [h.H]; exact n.2⟩
  | _ => exact n.elim
theorem clean_kids {d : D} (h : d.clean = true) : cleanL d.kids = true := by
  cases d with
  | tup o ds => exact h
  | lst o ds => cases o <;> first | (cases h; done) | exact h
  | ro t ds => cases t <;> first | (cases h; done) | exact h
  | dct o t ks ds => cases o <;> first | (cases h; done) | exact h
  | ins o C fs ds => cases o <;> first | (cases h; done) | exact h
  | _ => rfl
mutual
theorem Rep.thaw (h : Tw w' w'') : ∀ (d : D) {ℓ : Loc} {v : V}, d.clean = true → Rep K w' d ℓ v → Rep K w'' d ℓ v
  | .any, _, _, _, r => leaf_rep rfl r
  | .non, _, _, _, r => leaf_rep rfl r
  | .bl _, _, _, _, r => leaf_rep rfl r
  | .int _, _, _, _, r => leaf_rep rfl r
  | .str _, _, _, _, r => leaf_rep rfl r
  | .obj _, _, _, _, r => leaf_rep rfl r
  | .ty _, _, _, _, r => leaf_rep rfl r
  | .tup o ds, ℓ, v, c, r => by
    rw [rep_inner rfl] at r ⊢
    obtain ⟨b, vs, e, h1, hz, h2⟩ := r
    exact ⟨b, vs, e, h1.thaw h c, hz, RepL.thaw h ds (clean_kids c) h2⟩
  | .lst o ds, ℓ, v, c, r => by
    rw [rep_inner rfl] at r ⊢
    obtain ⟨b, vs, e, h1, hz, h2⟩ := r
    exact ⟨b, vs, e, h1.thaw h c, hz, RepL.thaw h ds (clean_kids c) h2⟩
  | .ro t ds, ℓ, v, c, r => by
    rw [rep_inner rfl] at r ⊢
    obtain ⟨b, vs, e, h1, hz, h2⟩ := r
    exact ⟨b, vs, e, h1.thaw h c, hz, RepL.thaw h ds (clean_kids c) h2⟩
  | .dct o t ks ds, ℓ, v, c, r => by
    rw [rep_inner rfl] at r ⊢
    obtain ⟨b, vs, e, h1, hz, h2⟩ := r
    exact ⟨b, vs, e, h1.thaw h c, hz, RepL.thaw h ds (clean_kids c) h2⟩
  | .ins o C fs ds, ℓ, v, c, r => by
    rw [rep_inner rfl] at r ⊢
    obtain ⟨b, vs, e, h1, hz, h2⟩ := r
    exact ⟨b, vs, e, h1.thaw h c, hz, RepL.thaw h ds (clean_kids c) h2⟩
theorem RepL.thaw (h : Tw w' w'') : ∀ (ds : List D) {ℓ : Loc} {j : Nat} {vs : List V}, cleanL ds = true → RepL K w' ds ℓ j vs → RepL K w'' ds ℓ j vs
  | [], _, _, _, _, r => by simpa [RepL] using r
  | d :: ds, ℓ, j, vs, c, r => by
    simp only [cleanL, Bool.and_eq_true] at c
    simp only [RepL] at r ⊢
    obtain ⟨v, us, e, h1, h2⟩ := r
    exact ⟨v, us, e, Rep.thaw h d c.1 h1, RepL.thaw h ds c.2 h2⟩
end
end
/-- of slot i -/
def isOf (i : Nat) (o : Option Loc) : Bool := match o with
  | some (h :: _) => h == i + 1
  | _ => false
def Wd.thaw (w w' : Wd) (i : Nat) : Wd := ⟨fun a => if isOf i (w.G a) then w.G a else w'.G a, fun a => if isOf i (w.G a) then none else w'.S a, w'.H⟩
def iceS (i : Nat) : Loc → Bool := fun ℓ => match ℓ with | h :: _ => h == i + 1 | [] => false
theorem isOf_some {i : Nat} {o : Option Loc} (h : isOf i o = true) : ∃ s, o = some ((i + 1) :: s) := by
  unfold isOf at h
  split at h
  · rename_i x s
    have : x = i + 1 := by simpa using h
    subst this
    exact ⟨s, rfl⟩
  · cases h
section
variable {K : PySem.W.Frag} {w w' : Wd} {i : Nat}
theorem thaw_at (wf : Wf w) (wf' : Wf w') (hs : Same (w.ice (iceS i)).S w'.S) {a : Addr} (h : isOf i (w.G a) = true) : w.S a = none ∧ Mut (w.H a) ∧ w'.H a = w.H a ∧ w'.S a = w.H a ∧ w'.G a = none := by
  obtain ⟨s, e⟩ := isOf_some h
  obtain ⟨h1, h2⟩ := wf.tg _ _ e
  obtain ⟨o, eo⟩ : ∃ o, w.H a = some o := by
    cases q : w.H a with
    | none => rw [q] at h2; exact h2.elim
    | some o => exact ⟨o, rfl⟩
  have e1 : (w.ice (iceS i)).S a = some o := by
    show (match w.G a with | some ℓ => if iceS i ℓ then w.H a else w.S a | none => w.S a) = some o
    rw [e]
    show (if iceS i ((i + 1) :: s) then w.H a else w.S a) = some o
    rw [if_pos (by show (i + 1 == i + 1) = true; simp)]
    exact eo
  have e2 := hs _ _ e1
  refine ⟨h1, h2, by rw [wf'.sh _ _ e2, eo], by rw [e2, eo], ?_⟩
  cases q : w'.G a with
  | none => rfl
  | some ℓ =>
    have := (wf'.tg _ _ q).1
    rw [e2] at this; cases this
theorem thaw_wf (wf : Wf w) (wf' : Wf w') (hs : Same (w.ice (iceS i)).S w'.S) : Wf (w.thaw w' i) := by
  refine ⟨fun a o e => ?_, fun a ℓ e => ?_⟩
  · have e : (if isOf i (w.G a) then none else w'.S a) = some o := e
    split at e
    · cases e
    · exact wf'.sh _ _ e
  · have e : (if isOf i (w.G a) then w.G a else w'.G a) = some ℓ := e
    by_cases h : isOf i (w.G a) = true
    · obtain ⟨h1, h2, h3, h4, h5⟩ := thaw_at wf wf' hs h
      refine ⟨if_pos h, ?_⟩
      show Mut (w'.H a)
      rw [h3]; exact h2
    · rw [if_neg h] at e
      obtain ⟨h1, h2⟩ := wf'.tg _ _ e
      exact ⟨by show (if isOf i (w.G a) then none else w'.S a) = none; rw [if_neg h]; exact h1, h2⟩
theorem thaw_tw (wf : Wf w) (wf' : Wf w') (hs : Same (w.ice (iceS i)).S w'.S) : Tw w' (w.thaw w' i) := by
  refine ⟨fun a ℓ e => ?_, fun a o e m => ?_, rfl⟩
  · show (if isOf i (w.G a) then w.G a else w'.G a) = some ℓ
    by_cases h : isOf i (w.G a) = true
    · have := (thaw_at wf wf' hs h).2.2.2.2
      rw [e] at this; cases this
    · rw [if_neg h]; exact e
  · show (if isOf i (w.G a) then none else w'.S a) = some o
    by_cases h : isOf i (w.G a) = true
    · obtain ⟨_, h2, _, h4, _⟩ := thaw_at wf wf' hs h
      rw [h4] at e
      rw [e] at h2
      exact absurd h2 m
    · rw [if_neg h]; exact e
theorem thaw_same (wf : Wf w) (hs : Same (w.ice (iceS i)).S w'.S) : Same w.S (w.thaw w' i).S := fun a o e => by
  show (if isOf i (w.G a) then none else w'.S a) = some o
  by_cases h : isOf i (w.G a) = true
  · obtain ⟨s, g⟩ := isOf_some h
    rw [(wf.tg _ _ g).1] at e; cases e
  · rw [if_neg h]
    exact hs _ _ (ice_same wf _ _ e)
theorem thaw_ext {n τ : Nat} (wf : Wf w) (hi : i < n) (x : Ext n τ (w.ice (iceS i)) w') : Ext n τ w (w.thaw w' i) := by
  refine ⟨thaw_same wf x.s, fun a ℓ e f => ?_⟩
  obtain ⟨h, s, rfl, hh⟩ := f
  have hne : ¬ h = i + 1 := by omega
  have h0 : isOf i (w.G a) = false := by
    rw [e]
    show (h == i + 1) = false
    simpa using hne
  have e1 : (w.ice (iceS i)).G a = some (h :: s) := by
    show (match w.G a with | some ℓ => if iceS i ℓ then none else some ℓ | none => none) = _
    rw [e]
    show (if iceS i (h :: s) then none else some (h :: s)) = _
    rw [if_neg (by show ¬ (h == i + 1) = true; simpa using hne)]
  obtain ⟨g1, g2⟩ := x.f a _ e1 ⟨h, s, rfl, hh⟩
  refine ⟨?_, g2⟩
  show (if isOf i (w.G a) then w.G a else w'.G a) = _
  rw [h0]
  exact g1
/-- what the other names hold -/
def tw (a b : Option D) : Prop := match b with
  | none => True
  | some d => d.clean = true ∨ (d.own = false ∧ a = some d)
def twL : En → En → Prop
  | a :: ρ1, b :: ρ' => tw a b ∧ twL ρ1 ρ'
  | _, _ => True
theorem twL_at : ∀ {ρ1 ρ' : En} {j : Nat} {d : D}, ρ'.length = ρ1.length → twL ρ1 ρ' → ρ'[j]? = some (some d) → d.clean = true ∨ (d.own = false ∧ ρ1[j]? = some (some d))
  | [], [], j, d, _, _, e => by simp at e
  | a :: ρ1, b :: ρ', 0, d, _, h, e => by
    have e : b = some d := by simpa using e
    subst e
    rcases h.1 with h | ⟨h, h2⟩
    · exact .inl h
    · exact .inr ⟨h, by simpa using h2⟩
  | a :: ρ1, b :: ρ', j + 1, d, hl, h, e => twL_at (ρ1 := ρ1) (ρ' := ρ') (j := j) (by simpa using hl) h.2 (by simpa using e)
theorem thaw_st {σ : Sl} {ρ ρ' : En} {d : D} {v : V} {τ : Nat} (st : StE K w σ ρ) (ed : ρ[i]? = some (some d)) (ev : σ[i]? = some (some v)) (rv : Rep K w d [i + 1] v) (e : EndE K τ (w.ice (iceS i)) σ (ρ.set i (some d.frz)) ρ' w') (h : twL (ρ.set i (some d.frz)) ρ') :
    EndE K τ w σ ρ (ρ'.set i (some d)) (w.thaw w' i) := by
  have hi := (List.getElem?_eq_some_iff.mp ed).1
  have hl : ρ'.length = ρ.length := by have := e.len; rw [List.length_set] at this; exact this
  have wf' := e.st.wf
  have x : Ext ρ.length τ (w.ice (iceS i)) w' := by have := e.ext; rw [List.length_set] at this; exact this
  have twd := thaw_tw st.wf wf' x.s
  have sm := thaw_same st.wf x.s
  refine ⟨by rw [List.length_set]; exact hl, ⟨thaw_wf st.wf wf' x.s, by rw [List.length_set]; exact e.st.len, fun j d' e' => ?_⟩, thaw_ext st.wf hi x⟩
  by_cases hj : j = i
  · subst hj
    rw [List.getElem?_set_self (by rw [hl]; exact hi)] at e'
    cases e'
    refine ⟨v, ev, Rep.to (w := w) sm d (fun a s g => ?_) rv⟩
    have h1 : isOf j (w.G a) = true := by
      rw [g]
      show (j + 1 == j + 1) = true
      simp
    refine ⟨?_, (thaw_at st.wf wf' x.s h1).2.2.1⟩
    show (if isOf j (w.G a) then w.G a else w'.G a) = _
    rw [if_pos h1]; exact g
  · rw [List.getElem?_set_ne (Ne.symm hj)] at e'
    obtain ⟨u, eu, r⟩ := e.st.rep j d' e'
    refine ⟨u, eu, ?_⟩
    rcases twL_at e.len h e' with c | ⟨c, e1⟩
    · exact Rep.thaw twd d' c r
    · rw [List.getElem?_set_ne (Ne.symm hj)] at e1
      obtain ⟨u', eu', r'⟩ := st.rep j d' e1
      rw [eu] at eu'; cases eu'
      exact r'.free sm d' c
theorem ice_slot' {σ : Sl} {ρ : En} {d : D} {τ : Nat} (hn : ρ.length < τ) (st : StE K w σ ρ) (e : ρ[i]? = some (some d)) : EndE K τ w σ ρ (ρ.set i (some d.frz)) (w.ice (iceS i)) := by
  refine ⟨by rw [List.length_set], ⟨st.wf.ice, by rw [List.length_set]; exact st.len, fun j d' e' => ?_⟩, ⟨ice_same st.wf, fun a ℓ e3 ⟨h, s, e2, k⟩ => ?_⟩⟩
  · have hi := (List.getElem?_eq_some_iff.mp e).1
    by_cases hj : j = i
    · subst hj
      rw [List.getElem?_set_self hi] at e'
      cases e'
      obtain ⟨v, ev, r⟩ := st.rep j d e
      exact ⟨v, ev, Rep.frz (w := w) (ice_same st.wf) d (ice_frz fun s => by show (j + 1 == j + 1) = true; simp) r⟩
    · rw [List.getElem?_set_ne (Ne.symm hj)] at e'
      obtain ⟨u, e4, r2⟩ := st.rep j d' e'
      exact ⟨u, e4, Rep.to (w := w) (ice_same st.wf) d' (ice_kept fun s => by show (j + 1 == i + 1) = false; simp; omega) r2⟩
  · subst e2
    have hi := (List.getElem?_eq_some_iff.mp e).1
    have := ice_kept (w := w) (ℓ := h :: s) (P := iceS i) (fun t => by
      show (h == i + 1) = false
      simp; omega) a [] (by simpa using e3)
    simpa using this
end
/-- e with slot i lent -/
def rThaw (i : Nat) (re : RE) : RE := fun ρ _ Q => match ρ[i]? with
  | some (some d) => nf (ρ.set i (some d.frz)) fun ρ1 => re ρ1 E0D fun r ρ' => twL ρ1 ρ' ∧ r.clean = true ∧ nf (ρ'.set i (some d)) (Q r)
  | _ => False
def rThawT (i : Nat) (rt : RT) : RT := fun ρ _ Q => match ρ[i]? with
  | some (some d) => nf (ρ.set i (some d.frz)) fun ρ1 => rt ρ1 E0D fun b ρ' => twL ρ1 ρ' ∧ nf (ρ'.set i (some d)) (Q b)
  | _ => False
theorem se_thaw {K : PySem.W.Frag} {W : WX} (i : Nat) {t : TE} {re : RE} (k : SE K W t re) : SE K W t (rThaw i re) := by
  intro τ w σ ρ E Q Qv hn st hr hq hx
  unfold rThaw at hr
  split at hr
  · rename_i d ed
    have hr := nf_of hr
    obtain ⟨v, ev, rv⟩ := st.rep i d ed
    have e1 := ice_slot' hn st ed
    refine k τ (w.ice (iceS i)) σ _ E0D _ _ (by rw [e1.len]; exact hn) e1.st hr (fun r ρ' w' v' q e2 r2 => ?_) (fun _ _ _ _ _ z => z.elim)
    obtain ⟨q1, q2, q3⟩ := q
    have x : Ext ρ.length τ (w.ice (iceS i)) w' := by have := e2.ext; rw [List.length_set] at this; exact this
    exact hq r _ (w.thaw w' i) v' (nf_of q3) (thaw_st st ed ev rv e2 q1) (Rep.thaw (thaw_tw st.wf e2.st.wf x.s) r q2 r2)
  · exact hr.elim
theorem st_thaw {K : PySem.W.Frag} {W : WX} (i : Nat) {t : TT} {rt : RT} (k : STt K W t rt) : STt K W t (rThawT i rt) := by
  intro τ w σ ρ E Q Qv hn st hr hq hx
  unfold rThawT at hr
  split at hr
  · rename_i d ed
    have hr := nf_of hr
    obtain ⟨v, ev, rv⟩ := st.rep i d ed
    have e1 := ice_slot' hn st ed
    refine k τ (w.ice (iceS i)) σ _ E0D _ _ (by rw [e1.len]; exact hn) e1.st hr (fun b ρ' w' q e2 => ?_) (fun _ _ _ _ _ z => z.elim)
    exact hq b _ (w.thaw w' i) (nf_of q.2) (thaw_st st ed ev rv e2 q.1)
  · exact hr.elim
section
variable {X : Cx} {W : WX} {M : List Nat} {e : Expr}
theorem fe_thaw (i : Nat) {re : RE} (h : FE X W e re) : FE X W e (rThaw i re) := by
  obtain ⟨t, p, k⟩ := h.ex
  exact ⟨t, p, se_thaw i k⟩
theorem ft_thaw (i : Nat) {rt : RT} (h : FT X W e rt) : FT X W e (rThawT i rt) := by
  obtain ⟨t, p, k⟩ := h.ex
  exact ⟨t, p, st_thaw i k⟩
end
/-- none, or frozen -/
def isF (a : Option D) : Prop := a = none ∨ ∃ d, a = some d ∧ d.own = false
theorem tw_isF {a : Option D} (h : isF a) : tw a a := by
  rcases h with rfl | ⟨d, rfl, h⟩
  · trivial
  · exact .inr ⟨h, rfl⟩
theorem isF_none : isF none := .inl rfl
theorem isF_some {d : D} (h : d.own = false := by rfl) : isF (some d) := .inr ⟨d, rfl, h⟩
end FL
namespace Cm
open PySem PySem.Spec PyProof.Rows L2 FL
def rb_law_cell_at : RS := (rSeq (rIf (rTst (rBin dLt (oV (rVar 1)) (oV (rCB dLen (rAC (oV (rVar 0)) rA0))))) (rRet (rBin dIx (oV (rVar 0)) (oV (rVar 1)))) rNx)
  (rRet (rC (.int 0))))
abbrev RD_law_cell_at (r : FSpec) : Prop := ∀ ds ED QD, ds.length = 2 → r ds ED QD → rb_law_cell_at (startD ["_law_script", "_law_k"] ds) (fun c fs ρ => ED c fs (ρ.take 2)) (finD 2 QD)
def rb_law_mixed : RS := (rSeq (rSetF 2 (rIc (fun i => i % 2147483647) (oV (rIc (fun i => i * 48271) (oV (rIc (fun i => i + 1) (oV (rBin dAdd (oV (rIc (fun i => i % 1000000007) (oV (rVar 0)))) (oV (rIc (fun i => 7 * i) (oV (rVar 1))))))))))))
  (rSeq (rSetF 3 (rIc (fun i => i % 998244353) (oV (rBin dMulX (oV (rVar 2)) (oV (rIc (fun i => i + 3) (oV (rBin dAdd (oV (rIc (fun i => i % 1009) (oV (rVar 2)))) (oV (rVar 1))))))))))
  (rRet (rIc (fun i => i / 64) (oV (rIc (fun i => i % 2147483629) (oV (rBin dAdd (oV (rIc (fun i => i * 39373) (oV (rVar 3)))) (oV (rVar 2))))))))))
abbrev RD_law_mixed (r : FSpec) : Prop := ∀ ds ED QD, ds.length = 2 → r ds ED QD → rb_law_mixed (startD ["_law_number", "_law_k", "_law_once", "_law_twice"] ds) (fun c fs ρ => ED c fs (ρ.take 2)) (finD 2 QD)
def rb_law_box (r_law_cell_at : FSpec) (r_law_mixed : FSpec) : RS := (rSeq (rSetF 2 (rCall [] r_law_cell_at (rAC (oV (rVar 0)) (rAC (oV (rVar 1)) rA0))))
  (rRet (rLst (rAC (oV (rBin dMulX (oV (rCB dAbs (rAC (oV (rVar 2)) rA0))) (oV (rCB dInt (rAC (oV (rBin dGe (oV (rCB dAbs (rAC (oV (rVar 2)) rA0))) (oV (rC (.int (10 ^ 18)))))) rA0))))) (rAC (oV (rCall [] r_law_mixed (rAC (oV (rVar 2)) (rAC (oV (rIc (fun i => 900 + i) (oV (rVar 1)))) rA0)))) (rAC (oV (rC (.int 0))) rA0))))))
abbrev RD_law_box (r : FSpec) (r_law_cell_at : FSpec) (r_law_mixed : FSpec) : Prop := ∀ ds ED QD, ds.length = 2 → r ds ED QD → (rb_law_box r_law_cell_at r_law_mixed) (startD ["_law_script", "_law_k", "_law_cell"] ds) (fun c fs ρ => ED c fs (ρ.take 2)) (finD 2 QD)
def rb_law_take (r_law_mixed : FSpec) : RS := (rSeq (rIf (rTst (rBin dGt (oV (rBin dIx (oN 0) (oV (rC (.int 0))))) (oV (rC (.int 0))))) (rSeq (rSetF 2 (rBin dMod (oV (rBin dIx (oN 0) (oV (rC (.int 0))))) (oV (rVar 1))))
  (rSeq (rSetL 0 (oV (rC (.int 0))) (rBin dFdiv (oV (rBin dIx (oN 0) (oV (rC (.int 0))))) (oV (rVar 1))))
  (rRet (rVar 2)))) rNx)
  (rSeq (rAsg (gTp 2 (gCs (gNm 2) (gCs (gNm 3) gNl))) (rTup (rAC (oV (rC (.int 0))) (rAC (oV (rC (.int 1))) rA0))))
  (rSeq (rWhile (rTst (rBin dLt (oV (rVar 3)) (oV (rVar 1)))) (rSeq (rSetL 0 (oV (rC (.int 2))) (rIc (fun i => i + 1) (oV (rBin dIx (oN 0) (oV (rC (.int 2)))))))
  (rSeq (rSetF 2 (rBin dAdd (oV (rIc (fun i => i * 33554432) (oV (rVar 2)))) (oV (rCall [] r_law_mixed (rAC (oV (rBin dIx (oN 0) (oV (rC (.int 1))))) (rAC (oV (rBin dIx (oN 0) (oV (rC (.int 2))))) rA0))))))
  (rSetF 3 (rIc (fun i => i * 33554432) (oV (rVar 3)))))))
  (rRet (rBin dMod (oV (rVar 2)) (oV (rVar 1)))))))
abbrev RD_law_take (r : FSpec) (r_law_mixed : FSpec) : Prop := ∀ ds ED QD, ds.length = 2 → r ds ED QD → (rb_law_take r_law_mixed) (startD ["_law_box_here", "_law_many", "_law_found", "_law_reach"] ds) (fun c fs ρ => ED c fs (ρ.take 2)) (finD 2 QD)
def rb_law_number (r_law_take : FSpec) : RS := (rSeq (rSetF 1 (rCall [0] r_law_take (rAC (oN 0) (rAC (oV (rC (.int 9))) rA0))))
  (rSeq (rIf (rTst (rBin dEq (oV (rVar 1)) (oV (rC (.int 0))))) (rRet (rIc (fun i => i - 1000) (oV (rCall [0] r_law_take (rAC (oN 0) (rAC (oV (rC (.int 2001))) rA0)))))) rNx)
  (rRet (rBin dIx (oV (rLst (rAC (oV (rC (.int 0))) (rAC (oV (rC (.int 0))) (rAC (oV (rC (.int 0))) (rAC (oV (rC (.int 1))) (rAC (oV (rC (.int 1))) (rAC (oV (rC (.int 1))) (rAC (oV (rC (.int (-1)))) (rAC (oV (rC (.int (-1)))) (rAC (oV (rC (.int 2))) rA0))))))))))) (oV (rVar 1))))))
abbrev RD_law_number (r : FSpec) (r_law_take : FSpec) : Prop := ∀ ds ED QD, ds.length = 1 → r ds ED QD → (rb_law_number r_law_take) (startD ["_law_box_here", "_law_way"] ds) (fun c fs ρ => ED c fs (ρ.take 1)) (finD 1 QD)
def rb_law_row (r_law_take : FSpec) : RS := (rSeq (rSetF 2 (rBin dIx (oV (rLst (rAC (oV (rC (.int 9))) (rAC (oV (rC (.int 9))) (rAC (oV (rC (.int 9))) (rAC (oV (rC (.int (10 ^ 12)))) rA0)))))) (oV (rCall [0] r_law_take (rAC (oN 0) (rAC (oV (rC (.int 4))) rA0))))))
  (rRet (rComp (rRg1 (rAC (oV (rVar 1)) rA0)) (gNm 3) rYes (rBin dSub (oV (rCall [0] r_law_take (rAC (oN 0) (rAC (oV (rIc (fun i => i + 1) (oV (rIc (fun i => 2 * i) (oV (rVar 2)))))) rA0)))) (oV (rVar 2))) [3])))
abbrev RD_law_row (r : FSpec) (r_law_take : FSpec) : Prop := ∀ ds ED QD, ds.length = 2 → r ds ED QD → (rb_law_row r_law_take) (startD ["_law_box_here", "_law_length", "_law_most", "_law_k"] ds) (fun c fs ρ => ED c fs (ρ.take 2)) (finD 2 QD)
end Cm
namespace Cm
open PySem PySem.Spec PyProof.Rows L2 FL
theorem fdOk {b : Int} (h0 : 0 < b) (h : b < 2 ^ 64) : 0 < b ∧ b.natAbs.log2 < 9000 := ⟨h0, (wide_div (i := 0) h0 (b := 64) (by omega) (by decide) (by decide)).2⟩
theorem mulL {a b : Int} (h0 : -(2 ^ 64) < a) (h : a < 2 ^ 64) : MulOk a b := .inl (.inl ⟨h0, h⟩)
theorem mulR {a b : Int} (h0 : -(2 ^ 64) < b) (h : b < 2 ^ 64) : MulOk a b := .inl (.inr ⟨h0, h⟩)
def inBd (lo hi : Int) : List D → Prop
  | [] => True
  | .int v :: r => (lo ≤ v ∧ v ≤ hi) ∧ inBd lo hi r
  | _ => False
theorem inBd_mem {lo hi : Int} : ∀ {ds : List D}, inBd lo hi ds → ∀ {i : Nat} {d : D}, ds[i]? = some d → ∃ v, d = .int v ∧ lo ≤ v ∧ v ≤ hi
  | [], _, i, d, e => by simp at e
  | .int v :: r, h, 0, d, e => by cases e; exact ⟨v, rfl, h.1⟩
  | .int v :: r, h, i + 1, d, e => inBd_mem h.2 (i := i) (by simpa using e)
theorem pick_int {ds : List D} {k : Int} {Q : D → Prop} (lo hi : Int) (h0 : 0 ≤ k) (h1 : k < ds.length) (all : inBd lo hi ds) (q : ∀ v, lo ≤ v → v ≤ hi → Q (.int v)) : pick (atI ds k) Q := by
  obtain ⟨j, rfl⟩ : ∃ j : Nat, k = (j : Int) := ⟨k.toNat, by omega⟩
  have hj : j < ds.length := by omega
  obtain ⟨v, e, b1, b2⟩ := inBd_mem all (List.getElem?_eq_getElem hj)
  exact pick_of (atI_nat (by rw [List.getElem?_eq_getElem hj, e])) rfl (q v b1 b2)
theorem rgD_at {lo hi : Int} {i : Nat} {x : D} (h : (rgD lo hi)[i]? = some x) : x = .int (lo + i) ∧ lo + i < hi := by
  unfold rgD at h
  rw [List.getElem?_map] at h
  obtain ⟨j, e, rfl⟩ := Option.map_eq_some_iff.mp h
  obtain ⟨h1, e⟩ := List.getElem?_eq_some_iff.mp e
  rw [List.getElem_range] at e
  rw [List.length_range] at h1
  subst e
  exact ⟨rfl, by omega⟩
set_option maxHeartbeats 0
def r_law_mixed : FSpec := fun ds _ Q => ∃ a b : Int, ds = [.int a, .int b] ∧ ∀ r os, 0 ≤ r → r < 33554432 → Q (.int r) os
theorem rd_law_mixed : ∀ ds ED QD, ds.length = 2 → r_law_mixed ds ED QD → rb_law_mixed (startD ["_law_number", "_law_k", "_law_once", "_law_twice"] ds) (fun c fs ρ => ED c fs (ρ.take 2)) (finD 2 QD) := by
  rintro ds ED QD - ⟨a, b, rfl, q⟩
  refine ⟨mulL ?_ ?_, q _ _ ?_ ?_⟩
  all_goals ((try dsimp only); omega)
def r_law_cell_at : FSpec := fun ds _ Q => ∃ (ns : List Int) (k : Int), ds = [.ro false (ns.map D.int), .int k] ∧ 0 ≤ k ∧ ∀ r os, (r = 0 ∨ r ∈ ns) → Q (.int r) os
theorem atI_ints {ns : List Int} {k : Int} (h0 : 0 ≤ k) (h : k < ns.length) : ∃ n, n ∈ ns ∧ atI (ns.map D.int) k = some (.int n) := by
  obtain ⟨j, rfl⟩ : ∃ j : Nat, k = (j : Int) := ⟨k.toNat, by omega⟩
  have hj : j < ns.length := by omega
  exact ⟨ns[j], List.getElem_mem hj, atI_nat (by rw [List.getElem?_map, List.getElem?_eq_getElem hj]; rfl)⟩
theorem rd_law_cell_at : ∀ ds ED QD, ds.length = 2 → r_law_cell_at ds ED QD → rb_law_cell_at (startD ["_law_script", "_law_k"] ds) (fun c fs ρ => ED c fs (ρ.take 2)) (finD 2 QD) := by
  rintro ds ED QD - ⟨ns, k, rfl, h0, q⟩
  refine ⟨fun h => ?_, fun h => q _ _ (.inl rfl)⟩
  obtain ⟨n, hm, e⟩ := atI_ints (ns := ns) h0 (by simpa using h)
  exact pick_of e rfl (q _ _ (.inr hm))
def r_law_box : FSpec := fun ds _ Q => ∃ (ns : List Int) (k : Int), ds = [.ro false (ns.map D.int), .int k] ∧ 0 ≤ k ∧ ∀ (b : Bx) os, Q (bxD b) os
theorem rd_law_box : ∀ ds ED QD, ds.length = 2 → r_law_box ds ED QD → rb_law_box r_law_cell_at r_law_mixed (startD ["_law_script", "_law_k", "_law_cell"] ds) (fun c fs ρ => ED c fs (ρ.take 2)) (finD 2 QD) := by
  rintro ds ED QD - ⟨ns, k, rfl, h0, q⟩
  refine ⟨ns, k, rfl, h0, fun r os hr => ⟨mulR ?_ ?_, ?_⟩⟩
  · split <;> omega
  · split <;> omega
  · refine ⟨r, 900 + k, rfl, fun m os _ _ => q ⟨_, m, 0, ?_⟩ _⟩
    apply Int.mul_nonneg
    · split <;> omega
    · split <;> omega
/-- b draws a number below n -/
def r_law_take : FSpec := fun ds _ Q => ∃ (b : Bx) (n : Int), ds = [bxD b, .int n] ∧ (0 < n ∧ n < 2 ^ 64) ∧ ∀ r (b' : Bx) tl, 0 ≤ r → r < n → Q (.int r) (some (bxD b') :: tl)
theorem rd_law_take : ∀ ds ED QD, ds.length = 2 → r_law_take ds ED QD → rb_law_take r_law_mixed (startD ["_law_box_here", "_law_many", "_law_found", "_law_reach"] ds) (fun c fs ρ => ED c fs (ρ.take 2)) (finD 2 QD) := by
  rintro ds ED QD - ⟨⟨a, m, c, h0⟩, n, rfl, ⟨h1, h2⟩, q⟩
  refine ⟨fun h => ?_, fun h => ?_⟩
  · exact ⟨h1, fdOk h1 h2, q _ ⟨_, _, _, Int.ediv_nonneg h0 (by omega)⟩ _ (Int.emod_nonneg _ (by omega)) (Int.emod_lt_of_pos _ h1)⟩
  · refine ⟨rfl, fun k ρ => ∃ c f r : Int, ρ = [some (bxD ⟨a, m, c, h0⟩), some (.int n), some (.int f), some (.int r)] ∧ 0 < r ∧ k = (n - r).toNat, ⟨_, c, 0, 1, rfl, by omega, rfl⟩, ?_⟩
    rintro k ρ ⟨c, f, r, rfl, hr, rfl⟩
    refine ⟨fun h => ?_, fun h => ?_⟩
    · have h : r < n := by simpa using h
      exact ⟨_, _, rfl, fun x os _ _ => ⟨(n - r * 33554432).toNat, (by (try dsimp only); omega), c + 1, f * 33554432 + x, r * 33554432, rfl, (by (try dsimp only); omega), rfl⟩⟩
    · exact ⟨h1, q _ ⟨_, _, _, h0⟩ _ (Int.emod_nonneg _ (by omega)) (Int.emod_lt_of_pos _ h1)⟩
def InB (xs : List Int) : Prop := ∀ x ∈ xs, -1000 ≤ x ∧ x ≤ 1000
def r_law_number : FSpec := fun ds _ Q => ∃ b : Bx, ds = [bxD b] ∧ ∀ x (b' : Bx) tl, -1000 ≤ x → x ≤ 1000 → Q (.int x) (some (bxD b') :: tl)
theorem rd_law_number : RD_law_number r_law_number r_law_take := by
  rintro ds ED QD - ⟨b, rfl, q⟩
  refine ⟨b, 9, rfl, by decide, fun x b _ x1 x2 => ⟨fun h => ?_, fun h => ?_⟩⟩
  · exact ⟨b, 2001, rfl, by decide, fun y b _ y1 y2 => q _ _ _ (by (try dsimp only); omega) (by (try dsimp only); omega)⟩
  · exact pick_int (-1) 2 x1 (by simpa using x2) (by simp only [inBd, and_true]; omega) fun v v1 v2 => q _ _ _ (by omega) (by omega)
def rowD (xs : List Int) : D := .tup false (xs.map D.int)
theorem all_in {P : Int → Prop} {xs : List Int} (h : ∀ (i : Nat) x, xs[i]? = some x → P x) : ∀ x ∈ xs, P x := fun x hx => by
  obtain ⟨i, hi, e⟩ := List.mem_iff_getElem.mp hx
  exact h i x (by rw [List.getElem?_eq_getElem hi, e])
/-- a product: three parts -/
structure Pr where
  l : List Int
  r : List Int
  o : List Int
structure Pr.ok (p : Pr) (n m k : Int) : Prop where
  ll : p.l.length = n.toNat
  lr : p.r.length = m.toNat
  lo : p.o.length = k.toNat
  bl : InB p.l
  br : InB p.r
  bo : InB p.o
theorem InB.rep (n : Nat) : InB (List.replicate n 0) := fun x hx => by rw [(List.mem_replicate.mp hx).2]; omega
end Cm
set_option maxHeartbeats 0
namespace Cm
open PySem PySem.Spec PyProof.Rows L2 FL
open PySem.W (EachIs AllAlike dataLe)
theorem row_tkey (xs : List Int) : tkey (rowD xs) = xs.map Sum.inl := by
  show (xs.map D.int).map skey = _
  rw [List.map_map]; rfl
theorem inl_inj : ∀ {xs ys : List Int}, (xs.map (Sum.inl : Int → Key)) = ys.map Sum.inl → xs = ys
  | [], [], _ => rfl
  | [], _ :: _, h => by cases h
  | _ :: _, [], h => by cases h
  | x :: xs, y :: ys, h => by
    simp only [List.map_cons, List.cons.injEq, Sum.inl.injEq] at h
    rw [h.1, inl_inj h.2]
theorem row_keyEq (xs ys : List Int) : keyEq true (rowD xs) (rowD ys) = decide (xs = ys) := by
  unfold keyEq
  rw [row_tkey, row_tkey]
  by_cases h : xs = ys
  · rw [h]; simp
  · rw [decide_eq_false h]
    simp only [if_true]
    exact decide_eq_false fun z => h (inl_inj z)
theorem row_kIdx (P : List (List Int)) (q : List Int) : kIdx true (P.map rowD) (rowD q) = P.findIdx? fun p => decide (p = q) := by
  unfold kIdx
  rw [List.findIdx?_map]
  congr 1
  funext p
  exact row_keyEq p q
/-- one place more -/
def addP (P : List (List Int)) (q : List Int) : List (List Int) := if q ∈ P then P else P ++ [q]
theorem addP_nodup {P : List (List Int)} {q : List Int} (h : P.Nodup) : (addP P q).Nodup := by
  unfold addP
  split
  · exact h
  · rename_i hq
    rw [List.nodup_append]
    exact ⟨h, by simp, fun a ha b hb => by rw [List.mem_singleton.mp hb]; exact fun z => hq (z ▸ ha)⟩
theorem idx_in {P : List (List Int)} {q : List Int} (h : q ∈ P) : ∃ i, (P.findIdx? fun p => decide (p = q)) = some i ∧ P[i]? = some q := by
  cases e : P.findIdx? fun p => decide (p = q) with
  | none => have := List.findIdx?_eq_none_iff.mp e q h; simp at this
  | some i =>
    obtain ⟨h1, h2, _⟩ := List.findIdx?_eq_some_iff_getElem.mp e
    exact ⟨i, rfl, by rw [List.getElem?_eq_getElem h1]; simpa using h2⟩
structure Tm where
  k : Int
  i : Int
  j : Int
  c : Int
def Tm.pl (t : Tm) : List Int := [t.k, t.i, t.j]
def Tm.row (t : Tm) : List Int := [t.k, t.i, t.j, t.c]
def tsum (ts : List Tm) (p : List Int) : Int := ((ts.filter fun t => decide (t.pl = p)).map fun t => t.c).sum
def pls (ts : List Tm) : List (List Int) := ts.foldl (fun P t => addP P t.pl) []
theorem pls_snoc (ts : List Tm) (t : Tm) : pls (ts ++ [t]) = addP (pls ts) t.pl := by
  unfold pls
  rw [List.foldl_append]; rfl
theorem snoc_ind {α : Type} {C : List α → Prop} (h0 : C []) (h1 : ∀ l a, C l → C (l ++ [a])) (l : List α) : C l := by
  have : ∀ r : List α, C r.reverse := fun r => by
    induction r with
    | nil => exact h0
    | cons a r ih => rw [List.reverse_cons]; exact h1 _ a ih
  have := this l.reverse
  rwa [List.reverse_reverse] at this
theorem pls_nodup (ts : List Tm) : (pls ts).Nodup := snoc_ind (C := fun ts => (pls ts).Nodup) (by simp [pls]) (fun l a h => by rw [pls_snoc]; exact addP_nodup h) ts
theorem mem_addP {P : List (List Int)} {q p : List Int} : p ∈ addP P q ↔ p ∈ P ∨ p = q := by
  unfold addP
  split
  · rename_i h
    exact ⟨.inl, fun z => z.elim id fun e => e ▸ h⟩
  · rw [List.mem_append, List.mem_singleton]
theorem mem_pls (ts : List Tm) (p : List Int) : p ∈ pls ts ↔ ∃ t ∈ ts, t.pl = p := by
  refine snoc_ind (C := fun ts => p ∈ pls ts ↔ ∃ t ∈ ts, t.pl = p) (by simp [pls]) (fun l a h => ?_) ts
  rw [pls_snoc, mem_addP, h]
  constructor
  · rintro (⟨t, ht, e⟩ | e)
    · exact ⟨t, List.mem_append_left _ ht, e⟩
    · exact ⟨a, by simp, e.symm⟩
  · rintro ⟨t, ht, e⟩
    rcases List.mem_append.mp ht with ht | ht
    · exact .inl ⟨t, ht, e⟩
    · rw [List.mem_singleton.mp ht] at e
      exact .inr e.symm
theorem tsum_out {ts : List Tm} {p : List Int} (h : p ∉ pls ts) : tsum ts p = 0 := by
  unfold tsum
  rw [List.filter_eq_nil_iff.mpr fun t ht => by
    intro z
    exact h ((mem_pls ts p).mpr ⟨t, ht, by simpa using z⟩)]
  rfl
/-- what the terms tell at k -/
def valAt (ts : List Tm) (xs ys : List Int) (k : Nat) : Int := ((ts.filter fun t => decide (t.k = (k : Int))).map fun t => t.c * xs.getD t.i.toNat 0 * ys.getD t.j.toNat 0).sum
def vals (m : Nat) (ts : List Tm) (xs ys : List Int) : List Int := (List.range m).map fun k => valAt ts xs ys k
theorem ixN_of {n : Nat} {k : Int} (h0 : 0 ≤ k) (h : k < n) : ixN n k = some k.toNat := by
  unfold ixN
  rw [if_pos h0, if_pos (by omega)]
def InT (xs : List Int) : Prop := ∀ x ∈ xs, -(10 ^ 12) ≤ x ∧ x ≤ 10 ^ 12
def r_law_row : FSpec := fun ds _ Q => ∃ (b : Bx) (n : Int), ds = [bxD b, .int n] ∧ (0 ≤ n ∧ n ≤ 1000) ∧ ∀ xs (b' : Bx) tl, xs.length = n.toNat → InT xs → Q (.lst .flat (xs.map D.int)) (some (bxD b') :: tl)
theorem rd_law_row : RD_law_row r_law_row r_law_take := by
  rintro ds ED QD - ⟨b, n, rfl, ⟨n0, n1⟩, q⟩
  refine ⟨b, 4, rfl, by decide, fun x b _ x0 x1 => ?_⟩
  refine pick_int 9 (10 ^ 12) x0 (by simpa using x1) (by simp only [inBd, and_true]; omega) fun v v0 v1 => ?_
  refine ⟨⟨by decide, by omega, by omega⟩, ⟨compR_draw 0 D.int (fun _ x => -(10 ^ 12) ≤ x ∧ x ≤ 10 ^ 12) _ _ b (fun _ => rfl) (fun i d b hd => ?_) fun xs b hl hx => ?_⟩⟩
  · exact ⟨fun _ => ⟨b, _, rfl, ⟨(by (try dsimp only); omega), (by (try dsimp only); omega)⟩, fun x b' tl x1 x2 => ⟨x - v, b', rfl, by (have x2 : x < 2 * v + 1 := x2); omega, rfl⟩⟩, fun h => (nomatch h)⟩
  · exact q xs b _ (by rw [hl, rgD_len]; omega) (all_in hx)
end Cm
namespace FL
open PySem PySem.Spec PyProof.Rows L2 RT
end FL
namespace PySem.W
open PySem PySem.Calls PyProof.Rows PyProof.V PySem.Spec
end PySem.W
namespace PySem.W
open PySem PySem.Calls PyProof.Rows PyProof.V PySem.Spec
end PySem.W
namespace FL
open PySem PySem.Spec PyProof.Rows L2 RT
section
variable {X : Cx}
/-- the int at a key -/
def intK (ks : List D) (ns : List Int) (k : D) : Option Int := (kIdx true ks k).bind fun i => ns[i]?
def tabD (ks : List D) (ns : List Int) (ks' : List D) (ns' : List Int) : Bool := (ks.zip ns).all fun p => decide (intK ks' ns' p.1 = some p.2)
end
end FL
namespace FL
open PySem PySem.Spec PyProof.Rows L2
end FL
namespace FL
theorem len10 {α : Type} {l : List α} (h : l.length = 10) : ∃ a b c d e f g i j k, l = [a, b, c, d, e, f, g, i, j, k] := by match l, h with | [a, b, c, d, e, f, g, i, j, k], _ => exact ⟨_, _, _, _, _, _, _, _, _, _, rfl⟩
open PySem PySem.Spec PyProof.Rows L2
end FL
namespace FL
open PySem PySem.Spec PyProof.Rows L2
end FL
namespace FL
open PySem PySem.Spec PyProof.Rows L2
end FL
namespace FL
open PySem PySem.Spec PyProof.Rows L2
section
variable {X : Cx}
def rEq0 (neg : Bool) : R2 := fun x y H Q => ∃ (a b : Addr) (ks : List (Key × V)), x = .ref a ∧ y = .ref b ∧ Rd H a (.dK ks) ∧ Rd H b (.dK []) ∧ Q (.bl (neg ^^ ks.isEmpty)) H
theorem isE_len {α : Type} (ks : List α) : ks.isEmpty = (ks.length == 0) := by cases ks <;> rfl
theorem op_ne0 (hu : X.A.units < cLine) : OpR X (compareOp .NotEq) (rEq0 true) := by
  intro pins s σ H x y v u Q I rx ry h
  obtain ⟨a, b, ks, rfl, rfl, ea, eb, q⟩ := h
  obtain rfl : v = Value.ref a := rx
  obtain rfl : u = Value.ref b := ry
  obtain ⟨_, ya, va, ra, da⟩ := dk_rd I.hok ea
  obtain ⟨_, yb, vb, rb, db⟩ := dk_rd I.hok eb
  have hb : vb.length = 0 := by rw [← rb.length]; rfl
  have ha : va.length = ks.length := ra.length.symm
  refine PySem.W.keq_ne (knd := mixKind X.prog X.w) (r := true) ya yb da db hu (fun hl => hits_all rb ra fun p hp => ?_) ?_
  · have : ks = [] := List.length_eq_zero_iff.mp (by omega)
    subst this; cases hp
  · rw [Bool.and_true, hb, ha, ← isE_len]
    exact ⟨.bl _, H, I, by rw [Bool.true_xor]; rfl, q⟩
/-- d == {}, d a dict of ints or texts -/
def dEq0 (neg : Bool) : DO := fun a b Q => ∃ o ks ds o', a = .dct o false ks ds ∧ b = .dct o' false [] [] ∧ Q (.bl (neg ^^ ks.isEmpty))
theorem sok_eq0 (neg : Bool) : SOK X.K (rEq0 neg) (dEq0 neg) := by
  intro τ w σ ρ x y dx dy ℓ ℓ' Q Qv hn st rx ry hd hq
  obtain ⟨o, ks, ds, o', rfl, rfl, q⟩ := hd
  obtain ⟨a, us, rfl, h1, h3, h4, h2⟩ := dct_at st.wf rx
  obtain ⟨b, vs, rfl, g1, g3, g4, g2⟩ := dct_at st.wf ry
  have hv : vs = [] := List.length_eq_zero_iff.mp g3.symm
  subst hv
  refine ⟨a, b, _, rfl, rfl, h1, g1, ?_⟩
  have e : ((ks.map skey).zip us).isEmpty = ks.isEmpty := by
    rw [isE_len, isE_len, List.length_zip, List.length_map, h3, Nat.min_self]
  rw [e]
  exact hq _ w _ q (.refl st) rfl
theorem fop_ne0 (hu : X.A.units + 64 < cLine) : FOp X (compareOp .NotEq) (dEq0 true) := ⟨_, op_ne0 (by omega), sok_eq0 true⟩
end
end FL
namespace FL
open PySem PySem.Spec PyProof.Rows L2
end FL
namespace FL
open PySem PySem.Spec PyProof.Rows L2
def dIsN0 (neg : Bool) : DO := fun a b Q => match b with
  | .non => match isNon a with
    | some c => Q (.bl (neg ^^ c))
    | none => False
  | _ => False
section
variable {X : Cx}
theorem fop_isN0 : FOp X (compareOp .Is) (dIsN0 false) := ⟨_, op_isN, fun τ w σ ρ x y dx dy ℓ ℓ' Q Qv hn st rx ry hd hq => by
  cases dy with
  | non =>
    unfold dIsN0 at hd
    simp only at hd
    cases e : isNon dx with
    | none => simp only [e] at hd
    | some c =>
      simp only [e] at hd
      simp only [Rep] at ry
      refine ⟨ry, hq _ _ _ hd (.refl st) ?_⟩
      simp only [Rep]
      rw [isNon_rep rx e, Bool.false_xor]
  | _ => exact hd.elim⟩
theorem fop_notN0 : FOp X (compareOp .IsNot) (dIsN0 true) := ⟨_, op_notN, fun τ w σ ρ x y dx dy ℓ ℓ' Q Qv hn st rx ry hd hq => by
  cases dy with
  | non =>
    unfold dIsN0 at hd
    simp only at hd
    cases e : isNon dx with
    | none => simp only [e] at hd
    | some c =>
      simp only [e] at hd
      simp only [Rep] at ry
      refine ⟨ry, hq _ _ _ hd (.refl st) ?_⟩
      simp only [Rep]
      rw [isNon_rep rx e, Bool.true_xor]
  | _ => exact hd.elim⟩
end
end FL
namespace FL
open PySem PySem.Spec PyProof.Rows L2
end FL
namespace FL
open PySem PySem.Spec PyProof.Rows L2
end FL
namespace FL
open PySem PySem.Spec PyProof.Rows L2
end FL
namespace FL
open PySem PySem.Spec PyProof.Rows L2
end FL
namespace FL
open PySem PySem.Spec PyProof.Rows L2
end FL
namespace FL
open PySem PySem.Spec PyProof.Rows L2
mutual
/-- what stands in the module's frozen objects -/
def KV (K : PySem.W.Frag) : D → Value → Prop
  | .int i, v => ∃ t, v = .int i t
  | .str s, v => ∃ t, v = .str s t
  | .ro t ds, v => ∃ a o its n, v = .ref a ∧ t = true ∧ K.lookup a = some o ∧ o.cls = .type "tuple" ∧ o.data = .seq its n ∧ its.size ≤ sizeLine ∧ KVL K ds its.toList
  | _, _ => False
def KVL (K : PySem.W.Frag) : List D → List Value → Prop
  | [], vs => vs = []
  | d :: ds, vs => ∃ v r, vs = v :: r ∧ KV K d v ∧ KVL K ds r
end
mutual
theorem KV.rep {K : PySem.W.Frag} : ∀ {d : D} {u : Value}, KV K d u → ∃ v, RelV v u ∧ d.own = false ∧ ∀ w ℓ, Rep K w d ℓ v
  | .int i, u, h => by
    simp only [KV] at h
    obtain ⟨t, rfl⟩ := h
    exact ⟨.int i, ⟨t, rfl⟩, rfl, fun w ℓ => rfl⟩
  | .str s, u, h => by
    simp only [KV] at h
    obtain ⟨t, rfl⟩ := h
    exact ⟨.str s, ⟨t, rfl⟩, rfl, fun w ℓ => rfl⟩
  | .ro t ds, u, h => by
    simp only [KV] at h
    obtain ⟨a, o, its, n, rfl, rfl, hk, hc, hs, hz, hl⟩ := h
    obtain ⟨vs, rv, ho, rr⟩ := KVL.rep hl
    have hlen : ds.length = its.size := by
      have h1 := (rr ⟨fun _ => none, fun _ => none, fun _ => none⟩ [] 0).length
      have h2 := rv.length
      simp at h2
      omega
    refine ⟨.ref a, rfl, rfl, fun w ℓ => ?_⟩
    simp only [Rep]
    exact ⟨a, vs, rfl, by rw [if_pos trivial]; exact .inr ⟨o, its, n, hk, hc, hs, hz, rv⟩, ⟨by omega, ho⟩, rr w ℓ 0⟩
  | .any, _, h => by simp only [KV] at h
  | .non, _, h => by simp only [KV] at h
  | .bl _, _, h => by simp only [KV] at h
  | .obj _, _, h => by simp only [KV] at h
  | .ty _, _, h => by simp only [KV] at h
  | .tup _ _, _, h => by simp only [KV] at h
  | .lst _ _, _, h => by simp only [KV] at h
  | .dct _ _ _ _, _, h => by simp only [KV] at h
  | .ins _ _ _ _, _, h => by simp only [KV] at h
theorem KVL.rep {K : PySem.W.Frag} : ∀ {ds : List D} {us : List Value}, KVL K ds us → ∃ vs, Vals vs us ∧ ownL ds = false ∧ ∀ w ℓ j, RepL K w ds ℓ j vs
  | [], us, h => by
    simp only [KVL] at h
    subst h
    exact ⟨[], .nil, rfl, fun w ℓ j => by simp [RepL]⟩
  | d :: ds, us, h => by
    simp only [KVL] at h
    obtain ⟨v, r, rfl, h1, h2⟩ := h
    obtain ⟨x, e1, o1, r1⟩ := KV.rep h1
    obtain ⟨xs, e2, o2, r2⟩ := KVL.rep h2
    refine ⟨x :: xs, .cons e1 e2, by simp [ownL, o1, o2], fun w ℓ j => ?_⟩
    simp only [RepL]
    exact ⟨x, xs, rfl, r1 _ _, r2 _ _ _⟩
end
theorem KV.mk {K : PySem.W.Frag} {ds : List D} {a : Addr} {od : Option Addr} {its : Array Value} {n : Nat} {sl : Array (Option Value)} (hk : K.lookup a = some ⟨.type "tuple", od, .seq its n, sl⟩) (hz : its.size ≤ sizeLine) (hl : KVL K ds its.toList) : KV K (.ro true ds) (.ref a) := by
  simp only [KV]
  exact ⟨a, _, its, n, rfl, trivial, hk, rfl, rfl, hz, hl⟩
theorem KVL.nil' {K : PySem.W.Frag} : KVL K [] [] := by simp only [KVL]
theorem KVL.cons' {K : PySem.W.Frag} {d : D} {ds : List D} {v : Value} {r : List Value} (h : KV K d v) (g : KVL K ds r) : KVL K (d :: ds) (v :: r) := by
  simp only [KVL]
  exact ⟨v, r, rfl, h, g⟩
theorem KV.str' {K : PySem.W.Frag} {s : Str} {t : Tok} : KV K (.str s) (.str s t) := by
  simp only [KV]
  exact ⟨t, rfl⟩
section
variable {X : Cx} {W : WX}
theorem fe_globT {x : Str} {u : Value} {pos : Pos} {d : D} (hg : Gl X x) (hm : X.mg x = some u ∧ KV X.K d u) (hd : (x == ("__debug__" : Str)) = false := by decide) : FE X W (.Name x pos) (rC d) := by
  obtain ⟨v, r, _, h⟩ := hm.2.rep
  exact ⟨_, pe_glob hg hm.1 r hd, se_C fun w τ => h w [τ]⟩
end
end FL
namespace FL
open PySem PySem.Spec PyProof.Rows L2
end FL
namespace FL
open PySem PySem.Spec PyProof.Rows L2
end FL
namespace FL
open PySem PySem.Spec PyProof.Rows L2
def rNever : RS := fun _ _ _ => False
end FL
namespace FL
open PySem PySem.Spec PyProof.Rows L2
end FL
namespace FL
open PySem PySem.Spec PyProof.Rows L2
end FL
namespace FL
open PySem PySem.Spec PyProof.Rows L2 RT
end FL
namespace FL
open PySem PySem.Spec PyProof.Rows L2 RT
end FL
namespace FL
open PySem PySem.Spec PyProof.Rows L2 RT
theorem drop_erase {κ α : Type} [DecidableEq κ] {k : κ} : ∀ {ks : List κ} {us : List α} {j : Nat}, ks.Nodup → ks[j]? = some k → ks.length = us.length → (ks.zip us).filter (fun kv => decide (kv.1 ≠ k)) = (ks.eraseIdx j).zip (us.eraseIdx j)
  | [], _, _, _, e, _ => by simp at e
  | x :: ks, [], _, _, _, l => by simp at l
  | x :: ks, u :: us, 0, nd, e, l => by
    have e : x = k := by simpa using e
    subst e
    have h := List.nodup_cons.mp nd
    rw [List.zip_cons_cons, List.filter_cons, if_neg (by simp)]
    show _ = ks.zip us
    refine List.filter_eq_self.mpr fun p hp => ?_
    have : p.1 ∈ ks := (List.of_mem_zip (a := p.1) (b := p.2) hp).1
    simp only [decide_eq_true_eq]
    exact fun z => h.1 (z ▸ this)
  | x :: ks, u :: us, j + 1, nd, e, l => by
    have h := List.nodup_cons.mp nd
    have e : ks[j]? = some k := by simpa using e
    have hx : x ≠ k := fun z => h.1 (z ▸ List.mem_of_getElem? e)
    rw [List.zip_cons_cons, List.filter_cons, if_pos (by simpa using hx), drop_erase h.2 e (by simpa using l)]
    rfl
theorem er_map {α β : Type} (f : α → β) : ∀ (l : List α) (j : Nat), (l.map f).eraseIdx j = (l.eraseIdx j).map f
  | [], _ => rfl
  | _ :: _, 0 => rfl
  | a :: l, j + 1 => by
    rw [List.map_cons, List.eraseIdx_cons_succ, List.eraseIdx_cons_succ, List.map_cons, er_map f l j]
end FL
namespace FL
open PySem PySem.Spec PyProof.Rows L2 RT
section
variable {X : Cx} {W : WX} {M : List Nat} {C : Addr}
theorem end_set {K : PySem.W.Frag} {M : List Nat} {w : Wd} {σ : Sl} {ρ : En} {i : Nat} {v : Option V} {d : Option D} (st : StE K w σ ρ) (hM : M.contains i = false) (h : ∀ e, d = some e → ∃ u, v = some u ∧ Rep K w e [i + 1] u) : EndS K M w σ ρ w (σ.set i v) (ρ.set i d) := by
  refine ⟨List.length_set .., ⟨st.wf, by rw [List.length_set, List.length_set]; exact st.len, fun j e he => ?_⟩, .refl, fun j hj => ?_⟩
  · by_cases hji : j = i
    · subst hji
      have hl := (List.getElem?_eq_some_iff.mp he).1
      rw [List.length_set] at hl
      rw [List.getElem?_set_self hl] at he
      have he : d = some e := by simpa using he
      obtain ⟨u, hu, r⟩ := h e he
      exact ⟨u, by rw [List.getElem?_set_self (by rw [st.len]; exact hl), hu], r⟩
    · rw [List.getElem?_set_ne (Ne.symm hji)] at he ⊢
      exact st.rep j e he
  · have hji : j ≠ i := fun z => by
      subst z
      have : M.contains j = true := by simpa using hj
      rw [hM] at this; cases this
    rw [List.getElem?_set_ne (Ne.symm hji)]
end
end FL
namespace FL
open PySem PySem.Spec PyProof.Rows L2
end FL
namespace FL
open PySem PySem.Spec PyProof.Rows L2 RT
/-- where a field stands -/
def fIx (f : Str) : List Str → Option Nat
  | [] => none
  | g :: r => if g = f then some 0 else (fIx f r).map (· + 1)
theorem fIx_lookup {f : Str} : ∀ {fs : List Str} {us : List V} {j : Nat}, fIx f fs = some j → fs.length = us.length → (fs.zip us).lookup f = us[j]?
  | [], _, _, h, _ => by cases h
  | g :: r, [], _, _, l => by simp at l
  | g :: r, u :: us, j, h, l => by
    unfold fIx at h
    by_cases e : g = f
    · rw [if_pos e] at h
      cases h
      have hb : (f == g) = true := beq_iff_eq.mpr e.symm
      simp only [List.zip_cons_cons, List.lookup, hb]
      rfl
    · rw [if_neg e] at h
      have hb : (f == g) = false := beq_eq_false_iff_ne.mpr (Ne.symm e)
      cases q : fIx f r with
      | none => rw [q] at h; cases h
      | some i =>
        rw [q] at h; cases h
        simp only [List.zip_cons_cons, List.lookup, hb]
        rw [fIx_lookup q (by simpa using l)]
        rfl
theorem fIx_put {f : Str} {v : V} : ∀ {fs : List Str} {us : List V} {j : Nat}, fIx f fs = some j → fs.length = us.length → putF f v (fs.zip us) = fs.zip (us.set j v)
  | [], _, _, h, _ => by cases h
  | g :: r, [], _, _, l => by simp at l
  | g :: r, u :: us, j, h, l => by
    unfold fIx at h
    rw [List.zip_cons_cons, show putF f v ((g, u) :: r.zip us) = (if g = f then (g, v) :: r.zip us else (g, u) :: putF f v (r.zip us)) from rfl]
    by_cases e : g = f
    · rw [if_pos e] at h ⊢
      cases h
      rfl
    · rw [if_neg e] at h ⊢
      cases q : fIx f r with
      | none => rw [q] at h; cases h
      | some i =>
        rw [q] at h; cases h
        rw [fIx_put q (by simpa using l)]
        rfl
theorem fIx_none {f : Str} {v : V} : ∀ {fs : List Str} {us : List V}, fIx f fs = none → fs.length = us.length → (fs.zip us).lookup f = none ∧ putF f v (fs.zip us) = (fs ++ [f]).zip (us ++ [v])
  | [], [], _, _ => ⟨rfl, rfl⟩
  | [], _ :: _, _, l => by simp at l
  | g :: r, [], _, l => by simp at l
  | g :: r, u :: us, h, l => by
    unfold fIx at h
    by_cases e : g = f
    · rw [if_pos e] at h; cases h
    · rw [if_neg e] at h
      have hb : (f == g) = false := beq_eq_false_iff_ne.mpr (Ne.symm e)
      have q : fIx f r = none := by cases q : fIx f r with
        | none => rfl
        | some i => rw [q] at h; cases h
      obtain ⟨h1, h2⟩ := fIx_none (f := f) (v := v) q (us := us) (by simpa using l)
      refine ⟨?_, ?_⟩
      · simp only [List.zip_cons_cons, List.lookup, hb]; exact h1
      · rw [List.zip_cons_cons, show putF f v ((g, u) :: r.zip us) = (if g = f then (g, v) :: r.zip us else (g, u) :: putF f v (r.zip us)) from rfl, if_neg e, h2]
        rfl
section
variable {K : PySem.W.Frag} {w : Wd}
theorem ins_at (wf : Wf w) {o : Ow} {C : Addr} {fs : List Str} {ds : List D} {ℓ : Loc} {v : V} (h : Rep K w (.ins o C fs ds) ℓ v) : ∃ a dx vs, v = .ref a ∧ w.H a = some (.ins C dx (fs.zip vs)) ∧ fs.length = vs.length ∧ Lt o ds ∧ RepL K w ds ℓ 0 vs := by
  simp only [Rep] at h
  obtain ⟨a, vs, e, ⟨dx, h1⟩, ⟨hl, hL⟩, h2⟩ := h
  refine ⟨a, dx, vs, e, ?_, hl, hL, h2⟩
  cases q : o.mine with
  | true => rw [q] at h1; exact h1.2
  | false => rw [q] at h1; exact wf.sh _ _ h1
end
/-- x.f: the field at j of an instance of the class at C -/
def dFld (C : Addr) (Fs : List Str) (j : Nat) (d : D) (Q : D → Prop) : Prop := match d with
  | .ins _ C' fs ds => C' = C ∧ fs = Fs ∧ pick ds[j]? Q
  | _ => False
section
variable {X : Cx} {W : WX} {M : List Nat} {pos pos' p2 tpos : Pos}
theorem fe_fld {e : Expr} {f : Str} {C : Addr} {Fs : List Str} {ra : RO} (j : Nat) (c : Cls X.K C) (n : NoAttr X.K C f) (ha : FO X W e ra) (hj : fIx f Fs = some j := by decide +kernel) (hb : attributeBase e f X.env (eval e X.env) = eval e X.env := by rfl) : FE X W (.Attribute e f pos) (rUn (dFld C Fs j) ra) := by
  obtain ⟨ta, pa, sa⟩ := ha.ex
  refine ⟨_, pe_fld pa hb, fun τ w σ ρ E Q Qv hn st hr hq hx => ?_⟩
  refine sa τ w σ ρ E _ _ hn st hr (fun x ρ1 w1 v1 h1 e1 r1 => ?_) hx
  obtain ⟨dz, ex, g1⟩ := on1_elim h1
  obtain ⟨ℓ, rx⟩ := ad_get e1.st r1 ex
  cases dz with
  | ins o C' fs ds =>
    obtain ⟨rfl, rfl, g2⟩ := g1
    obtain ⟨d, ed, ho, q⟩ := pick_elim g2
    obtain ⟨a, dx, vs, rfl, hh, hl, _, rl⟩ := ins_at e1.st.wf rx
    obtain ⟨v, ev, rv⟩ := rl.get ed
    exact ⟨a, C', dx, _, v, rfl, hh, c, n, (fIx_lookup hj hl).trans ev, hq d ρ1 w1 v q e1 (rv.free (Same.refl _) d ho)⟩
  | _ => exact g1.elim
def rpFld (C : Addr) (Fs : List Str) (j : Nat) (rp : RPl) : RPl := fun ρ E Q => rp ρ E fun i p ρ1 => match ρ1[i]? with
  | some (some d0) => match d0.atS p with
    | some (.ins _ C' fs ds) => C' = C ∧ fs = Fs ∧ j < ds.length ∧ Q i (p ++ [j]) ρ1
    | _ => False
  | _ => False
theorem fp_fld {e : Expr} {f : Str} {C : Addr} {Fs : List Str} {rp : RPl} (j : Nat) (c : Cls X.K C) (n : NoAttr X.K C f) (he : FPl X W e rp) (hj : fIx f Fs = some j := by decide +kernel) (hb : attributeBase e f X.env (eval e X.env) = eval e X.env := by rfl) : FPl X W (.Attribute e f pos) (rpFld C Fs j rp) := by
  obtain ⟨t, q, l⟩ := he.ex
  refine ⟨_, pe_fld q hb, fun τ w σ ρ E Q Qv hn st h hq hx => ?_⟩
  refine l τ w σ ρ E _ _ hn st h (fun i p ρ1 w1 d0 dn v0 v h1 e1 hi ha hv at0 => ?_) hx
  simp only [hi, ha] at h1
  cases dn with
  | ins o C' fs ds =>
    obtain ⟨rfl, rfl, hjl, h1⟩ := h1
    obtain ⟨v0', ev', r0⟩ := e1.st.rep i d0 hi
    rw [hv] at ev'; cases ev'
    have rn := at0.rep r0
    rw [rep_inner rfl] at rn
    obtain ⟨a, vs, rfl, nd, sz, rl⟩ := rn
    have hl : fs.length = vs.length := sz.1
    obtain ⟨cc, hc⟩ : ∃ cc, ds[j]? = some cc := ⟨_, List.getElem?_eq_getElem hjl⟩
    obtain ⟨x, ex, rx⟩ := rl.get (show (D.ins o C' fs ds).kids[j]? = some cc from hc)
    have hh : ∃ dx, w1.H a = some (.ins C' dx (fs.zip vs)) := by
      obtain ⟨dx, nd⟩ := nd
      refine ⟨dx, ?_⟩
      cases q : o.mine with
      | true => rw [q] at nd; exact nd.2
      | false => rw [q] at nd; exact e1.st.wf.sh _ _ nd
    obtain ⟨dx, hh⟩ := hh
    have a3 : AtV X.K w1 d0 [i + 1] v0 (p ++ [j]) cc x := at0.snoc (.down rfl nd rl.length hc ex .here)
    exact ⟨a, C', dx, _, x, rfl, hh, c, n, (fIx_lookup hj hl).trans ex, hq i (p ++ [j]) ρ1 w1 d0 cc v0 x h1 e1 hi (atS_snoc ha (by simp only [D.atS]; rw [hc])) hv a3⟩
  | _ => exact h1.elim
/-- a new tree for the instance in slot i -/
theorem ins_end {K : PySem.W.Frag} {w : Wd} {σ : Sl} {ρ : En} {i τ : Nat} {o o' : Ow} {C dx : Addr} {fs fs' : List Str} {ds ds' : List D} {a : Addr} {vs' : List V} {L : Loc} (ho : o.mine = true) (ho' : o'.mine = true) (st : StE K w σ ρ) (hi : ρ[i]? = some (some (.ins o C fs ds))) (hv : σ[i]? = some (some (.ref a)))
    (r0 : Rep K w (.ins o C fs ds) [i + 1] (.ref a)) (hτ : ρ.length < τ) (rl : RepL K (w.ren (moveT τ L)) ds' [i + 1] 0 vs') (hz : fs'.length = vs'.length) (hL : Lt o' ds') :
    EndE K τ w σ ρ (ρ.set i (some (.ins o' C fs' ds'))) ((w.ren (moveT τ L)).put a (.ins C dx (fs'.zip vs'))) := by
  have hne : i + 1 ≠ τ := by have := (List.getElem?_eq_some_iff.mp hi).1; omega
  have r1 := r0
  simp only [Rep] at r1
  obtain ⟨a', us, ea, ⟨dx', h1⟩, _⟩ := r1
  cases ea
  rw [if_pos ho] at h1
  refine node_end (p := []) (d' := .ins o' C fs' ds') st hi hv r0 .here hτ (Nat.le_refl _) h1.1 trivial (fun _ => ho) ?_
  simp only [Rep]
  exact ⟨a, vs', rfl, ⟨dx, by rw [if_pos ho']; exact ⟨ren_at h1.1 (moveT_ne hne), upd_same⟩⟩, ⟨hz, hL⟩, parts_op (p := []) hne h1.1 rl⟩
/-- x.f = e, a new field -/
def rNewF (i : Nat) (C : Addr) (fs0 : List Str) (f : Str) (re : RE) : RS := fun ρ E F => re ρ E fun d ρ1 => match ρ1[i]? with
  | some (some (.ins o C' fs ds)) => o.mine = true ∧ C' = C ∧ fs = fs0 ∧ nf (ρ1.set i (some (.ins (o.more d.own) C (fs0 ++ [f]) (ds ++ [d])))) F.nx
  | _ => False
/-- x.f = e, the field at j -/
def rPutF (i j : Nat) (C : Addr) (Fs : List Str) (re : RE) : RS := fun ρ E F => re ρ E fun d ρ1 => match ρ1[i]? with
  | some (some (.ins o C' fs ds)) => o.mine = true ∧ C' = C ∧ fs = Fs ∧ nf (ρ1.set i (some (.ins (o.more d.own) C Fs (ds.set j d)))) F.nx
  | _ => False
theorem fs_newF (i : Nat) {x f : Str} {C : Addr} {fs0 : List Str} {e : Expr} {re : RE} (c : Cls X.K C) (n : NoAttr X.K C f) (he : FE X W e re) (hj : fIx f fs0 = none := by decide +kernel) (hz : fs0.length < 1000 := by decide) (hN : X.N[i]? = some x := by rfl) (hv : Vis X.env.scope x := by first | exact Or.inl rfl | exact Or.inr (Or.inl rfl) | exact Or.inr (Or.inr rfl)) (hd : (x == ("__debug__" : Str)) = false := by decide)
    (hcd : (x == ("__classdict__" : Str)) = false := by decide) (hs : swapsWith e (some (.Attribute (.Name x p2) f pos')) pos.line X.env = pure false := by rfl) : FS X W M (.Assign [.Attribute (.Name x p2) f pos'] e pos) (rNewF i C fs0 f re) := by
  obtain ⟨t, p, l⟩ := he.ex
  refine ⟨_, ps_fld (pe_var hN hv hd hcd) p hs, fun w σ ρ E F Z st h hf => ?_⟩
  refine l _ w σ ρ E _ _ (Nat.lt_succ_self _) st h (fun d ρ1 w1 v h1 e1 r1 => ?_) hf.sx
  split at h1
  · rename_i o C' fs ds ei
    obtain ⟨ho, rfl, rfl, h1⟩ := h1
    obtain ⟨v0, ev, r0⟩ := e1.st.rep i _ ei
    obtain ⟨a, dx, vs, rfl, hh, hl, hL, rl⟩ := ins_at e1.st.wf r0
    have fp := fIx_none (f := f) (v := v) hj hl
    refine ⟨_, ev, a, C', dx, _, rfl, hh, c, n, by rw [List.length_zip]; omega, ?_⟩
    have hin := (List.getElem?_eq_some_iff.mp ei).1
    rw [e1.len] at hin
    have rr : RepL X.K (w1.ren (moveT (ρ.length + 1) [i + 1, ds.length])) (ds ++ [d]) [i + 1] 0 (vs ++ [v]) := by
      refine RepL.app (RepL.of rl.length fun q dq vq e3 e4 => ?_) (RepL.one ?_)
      · obtain ⟨v3, e5, r3⟩ := rl.get e3
        rw [e4] at e5; cases e5
        exact r3.mv (by omega)
      · rw [Nat.zero_add]; exact r1.mvT
    have ee := ins_end (i := i) (τ := ρ.length + 1) (dx := dx) (fs' := fs ++ [f]) ho (more_mine ho d.own) e1.st ei ev r0 (by rw [e1.len]; omega) rr (by rw [List.length_append, List.length_append, hl]; rfl) hL.app
    rw [fp.2]
    exact hf.nx _ _ σ (nf_of h1) ((e1.trans ee (Nat.le_refl _)).s (Nat.lt_succ_self _))
  · exact h1.elim
theorem fs_putF (i j : Nat) {x f : Str} {C : Addr} {Fs : List Str} {e : Expr} {re : RE} (c : Cls X.K C) (n : NoAttr X.K C f) (he : FE X W e re) (hj : fIx f Fs = some j := by decide +kernel) (hz : Fs.length < 1000 := by decide) (hN : X.N[i]? = some x := by rfl) (hv : Vis X.env.scope x := by first | exact Or.inl rfl | exact Or.inr (Or.inl rfl) | exact Or.inr (Or.inr rfl)) (hd : (x == ("__debug__" : Str)) = false := by decide)
    (hcd : (x == ("__classdict__" : Str)) = false := by decide) (hs : swapsWith e (some (.Attribute (.Name x p2) f pos')) pos.line X.env = pure false := by rfl) : FS X W M (.Assign [.Attribute (.Name x p2) f pos'] e pos) (rPutF i j C Fs re) := by
  obtain ⟨t, p, l⟩ := he.ex
  refine ⟨_, ps_fld (pe_var hN hv hd hcd) p hs, fun w σ ρ E F Z st h hf => ?_⟩
  refine l _ w σ ρ E _ _ (Nat.lt_succ_self _) st h (fun d ρ1 w1 v h1 e1 r1 => ?_) hf.sx
  split at h1
  · rename_i o C' fs ds ei
    obtain ⟨ho, rfl, rfl, h1⟩ := h1
    obtain ⟨v0, ev, r0⟩ := e1.st.rep i _ ei
    obtain ⟨a, dx, vs, rfl, hh, hl, hL, rl⟩ := ins_at e1.st.wf r0
    have fp := fIx_put (f := f) (v := v) hj hl
    refine ⟨_, ev, a, C', dx, _, rfl, hh, c, n, by rw [List.length_zip]; omega, ?_⟩
    have hin := (List.getElem?_eq_some_iff.mp ei).1
    rw [e1.len] at hin
    have rr : RepL X.K (w1.ren (moveT (ρ.length + 1) [i + 1, j])) (ds.set j d) [i + 1] 0 (vs.set j v) := by
      refine RepL.set (RepL.of rl.length fun q dq vq e3 e4 => ?_) ?_
      · obtain ⟨v3, e5, r3⟩ := rl.get e3
        rw [e4] at e5; cases e5
        exact r3.mv (by omega)
      · rw [Nat.zero_add]; exact r1.mvT
    have ee := ins_end (i := i) (τ := ρ.length + 1) (dx := dx) (fs' := fs) ho (more_mine ho d.own) e1.st ei ev r0 (by rw [e1.len]; omega) rr (by rw [List.length_set]; exact hl) hL.set
    rw [fp]
    exact hf.nx _ _ σ (nf_of h1) ((e1.trans ee (Nat.le_refl _)).s (Nat.lt_succ_self _))
  · exact h1.elim
/-- x.f += e, ints; e lets x's field be -/
def rAugF (i j : Nat) (C : Addr) (Fs : List Str) (re : RE) : RS := fun ρ E F => match ρ[i]? with
  | some (some (.ins _ C1 fs1 ds1)) => C1 = C ∧ fs1 = Fs ∧ intAt ds1[j]? fun a => re ρ E fun d ρ1 => match d with
    | .int b => match ρ1[i]? with
      | some (some (.ins o C' fs ds)) => o.mine = true ∧ C' = C ∧ fs = Fs ∧ nf (ρ1.set i (some (.ins o C Fs (ds.set j (.int (a + b)))))) F.nx
      | _ => False
    | _ => False
  | _ => False
theorem fs_augF (i j : Nat) {x f : Str} {C : Addr} {Fs : List Str} {e : Expr} {re : RE} (c : Cls X.K C) (n : NoAttr X.K C f) (he : FE X W e re) (hj : fIx f Fs = some j := by decide +kernel) (hz : Fs.length < 1000 := by decide) (hN : X.N[i]? = some x := by rfl) (hv : Vis X.env.scope x := by first | exact Or.inl rfl | exact Or.inr (Or.inl rfl) | exact Or.inr (Or.inr rfl)) (hd : (x == ("__debug__" : Str)) = false := by decide)
    (hcd : (x == ("__classdict__" : Str)) = false := by decide) : FS X W M (.AugAssign (.Attribute (.Name x p2) f tpos) .Add e pos) (rAugF i j C Fs re) := by
  obtain ⟨t, p, l⟩ := he.ex
  refine ⟨_, ps_fldaug (pe_var hN hv hd hcd) p in_add, fun w σ ρ E F Z st h hf => ?_⟩
  unfold rAugF at h
  split at h
  · rename_i o1 C1 fs1 ds1 ei1
    obtain ⟨rfl, rfl, h⟩ := h
    obtain ⟨n0, en, h⟩ := intAt_elim h
    obtain ⟨v0, ev, r0⟩ := st.rep i _ ei1
    obtain ⟨a, dx, vs, rfl, hh, hl, hL, rl⟩ := ins_at st.wf r0
    obtain ⟨u, eu, ru⟩ := rl.get en
    have ru : u = .int n0 := ru
    subst ru
    refine ⟨_, ev, a, C1, dx, _, .int n0, rfl, hh, c, n, (fIx_lookup hj hl).trans eu, ?_⟩
    refine l _ w σ ρ E _ _ (Nat.lt_succ_self _) st h (fun d ρ1 w1 v h1 e1 r1 => ?_) hf.sx
    cases d with
    | int b =>
      have r1 : v = .int b := r1
      subst r1
      dsimp only at h1
      split at h1
      · rename_i o C' fs ds ei
        obtain ⟨ho, rfl, rfl, h1⟩ := h1
        obtain ⟨v0', ev', r0'⟩ := e1.st.rep i _ ei
        rw [ev] at ev'; cases ev'
        obtain ⟨a', dx', vs', ea, hh', hl', hL', rl'⟩ := ins_at e1.st.wf r0'
        cases ea
        refine ⟨n0, b, rfl, rfl, dx', _, hh', by rw [List.length_zip]; omega, ?_⟩
        have hin := (List.getElem?_eq_some_iff.mp ei).1
        rw [e1.len] at hin
        have rr : RepL X.K (w1.ren (moveT (ρ.length + 1) [])) (ds.set j (.int (n0 + b))) [i + 1] 0 (vs'.set j (.int (n0 + b))) := by
          refine RepL.set (RepL.of rl'.length fun q dq vq e3 e4 => ?_) rfl
          obtain ⟨v3, e5, r3⟩ := rl'.get e3
          rw [e4] at e5; cases e5
          exact r3.mv (by omega)
        have hL2 : Lt o (ds.set j (.int (n0 + b))) := by
          have := hL'.set (j := j) (d := .int (n0 + b))
          cases o <;> exact this
        have ee := ins_end (i := i) (τ := ρ.length + 1) (dx := dx') (fs' := fs) (L := []) ho ho e1.st ei ev r0' (by rw [e1.len]; omega) rr (by rw [List.length_set]; exact hl') hL2
        rw [fIx_put hj hl']
        exact hf.nx _ _ σ (nf_of h1) ((e1.trans ee (Nat.le_refl _)).s (Nat.lt_succ_self _))
      · exact h1.elim
    | _ => exact h1.elim
  · exact h.elim
end
end FL
namespace FL
open PySem PySem.Spec PyProof.Rows L2 RT
section
variable {X : Cx} {W : WX} {M : List Nat} {pos pos' tpos p2 apos : Pos}
/-- o[k] = e, o a place with a dict -/
def rSetDP (rp : RPl) (rk re : RE) : RS := fun ρ E F => re ρ E fun d ρ1 => rp ρ1 E fun i p ρ2 => match ρ2[i]? with
  | some (some d0) => rk (ρ2.set i none) (heldE i d0 E) fun dk ρ3 => match d0.atS p with
    | some (.dct o t ks ds) => o.mine = true ∧ keyOk t dk = true ∧ ks.length < sizeLine ∧ nf (ρ3.set i (some (d0.put p (.dct (o.more d.own) t (putKs t ks dk) (putDs t ks dk ds d))))) F.nx
    | _ => False
  | _ => False
theorem fs_setDP {o k e : Expr} {rp : RPl} {rk re : RE} (he : FE X W e re) (ho : FPl X W o rp) (hk : FE X W k rk) (hu : X.A.units + 1 < cLine) (hs : swapsWith e (some (.Subscript o k pos')) pos.line X.env = pure false := by rfl) : FS X W M (.Assign [.Subscript o k pos'] e pos) (rSetDP rp rk re) := by
  obtain ⟨t, p, l⟩ := he.ex
  obtain ⟨tp, pp, lp⟩ := ho.ex
  obtain ⟨t', p', l'⟩ := hk.ex
  refine ⟨_, ps_dput hu pp p' p hs, fun w σ ρ E F Z st h hf => ?_⟩
  refine l _ w σ ρ E _ _ (Nat.lt_succ_self _) st h (fun d ρ1 w1 v h1 e1 r1 => ?_) hf.sx
  have hx1 : SX X.K W (ρ.length + 2) w1 σ ρ1 E := hf.sx.then e1 (Nat.le_succ _)
  refine lp (ρ.length + 2) w1 σ ρ1 E _ _ (by rw [e1.len]; omega) e1.st h1 (fun i q ρ2 w2 d0 dn v0 vd h2 e2 hi ha hv at0 => ?_) hx1
  have hn2 : ρ2.length < ρ.length + 2 := by rw [e2.len, e1.len]; omega
  have e12 := e1.trans e2 (Nat.le_succ _)
  obtain ⟨s1, back⟩ := hold e2.st hi hv at0 hn2
  have hx2 : SX X.K W (ρ.length + 2) w2 σ ρ2 E := hx1.then e2 (Nat.le_refl _)
  simp only [hi] at h2
  refine l' (ρ.length + 3) (w2.ren (moveT (i + 1) [ρ.length + 2])) σ (ρ2.set i none) _ _ _ (by rw [List.length_set]; omega) s1 h2 (fun dk ρ3 w3 vk h3 e3 r3 => ?_) (held_sx hx2 fun ρ' w' en => (back ρ' w' en).1)
  obtain ⟨b1, b2, b3⟩ := back ρ3 w3 e3
  simp only [ha] at h3
  cases dn with
  | dct oo tt ks ds =>
    obtain ⟨hoo, hko, hkl, h3⟩ := h3
    have hin := (List.getElem?_eq_some_iff.mp hi).1
    have hl2 : ρ2.length = ρ.length := by rw [e2.len, e1.len]
    have hl3 : ρ3.length = ρ2.length := by rw [e3.len, List.length_set]
    have hi3 : (ρ3.set i (some d0))[i]? = some (some d0) := List.getElem?_set_self (by omega)
    obtain ⟨v0', ev', r0⟩ := b1.st.rep i d0 hi3
    rw [hv] at ev'; cases ev'
    obtain ⟨a, us, rfl, ta, hh, ⟨hl, hks, hL⟩, rl⟩ := dict_at hoo r0 b2
    have rk' := b3 dk vk (ρ.length + 3) [] (by omega) r3
    have r1' : Rep X.K w2 d [ρ.length + 1] v := e2.ext.rep (r := []) (by rw [e1.len]; omega) r1
    have r13 : Rep X.K w3 d [ρ.length + 1] v := e3.ext.rep (r := []) (by rw [List.length_set]; omega) (r1'.mv (by omega))
    have rd := b3 d v (ρ.length + 1) [] (by omega) r13
    let j := match kIdx tt ks dk with | some j => j | none => ds.length
    refine ⟨a, _, rfl, DPut.of b1.st.wf hh hl hks hko hkl rk' (v := v), ?_⟩
    have rr : RepL X.K ((w3.ren (moveT (ρ.length + 2) [i + 1])).ren (moveT (ρ.length + 1) ((i + 1) :: q ++ [j]))) (putDs tt ks dk ds d) ((i + 1) :: q) 0 (putDs tt ks dk us v) := by
      refine RepL.put (RepL.of rl.length fun y dq vq e4 e5 => ?_) fun j' hj' => ?_
      · obtain ⟨v3, e6, r6⟩ := rl.get e4
        rw [e5] at e6; cases e6
        exact r6.mv (by omega)
      · have : j = j' := by
          show (match kIdx tt ks dk with | some j => j | none => ds.length) = j'
          rcases hj' with hj' | ⟨hj', rfl⟩ <;> rw [hj']
        subst this
        exact rd.mvT
    have ee := dict_end (i := i) (τ := ρ.length + 1) (p := q) hoo (more_mine hoo d.own) b1.st hi3 hv r0 b2 (by rw [List.length_set]; omega) (Nat.le_refl _) rr ⟨putDs_len hl, putKs_ok hks hko, hL.put⟩
    rw [List.set_set] at ee
    exact hf.nx _ _ σ (nf_of h3) (((e12.trans b1 (Nat.le_succ _)).trans ee (Nat.le_refl _)).s (Nat.lt_succ_self _))
  | _ => exact h3.elim
/-- o.pop(k), o a place with a dict of ints' or texts' keys -/
def rPopD1 (rp : RPl) (rk : RE) : RE := fun ρ E Q => rp ρ E fun i p ρ1 => match ρ1[i]? with
  | some (some d0) => match d0.atS p with
    | some (.dct o t ks vs) => o = .flat ∧ rk (ρ1.set i none) (heldE i d0 E) fun k ρ2 => t = false ∧ keyOk false k = true ∧ (match kIdx false ks k with
        | some j => pick vs[j]? fun y => nf (ρ2.set i (some (d0.put p (.dct .flat false (ks.eraseIdx j) (vs.eraseIdx j))))) (Q y)
        | none => False)
    | _ => False
  | _ => False
theorem isD_dct {K : PySem.W.Frag} {w : Wd} (wf : Wf w) {o : Ow} (ho : o.mine = true) {t : Bool} {ks ds : List D} {ℓ : Loc} {v : V} (h : Rep K w (.dct o t ks ds) ℓ v) : ∃ a, v = .ref a ∧ IsD w.H a := by
  simp only [Rep] at h
  obtain ⟨a, vs, rfl, h1, _⟩ := h
  rw [ho] at h1
  refine ⟨a, rfl, ?_⟩
  have h2 := h1.2
  unfold dHO at h2
  cases t with
  | true => exact .inr ⟨_, .inl h2⟩
  | false => exact .inl ⟨_, .inl h2⟩
theorem fe_popD1 {o k : Expr} {rp : RPl} {rk : RE} {cpos : Pos} (ho : FPl X W o rp) (hk : FE X W k rk) (m : M1 X o "pop" apos k cpos := by exact ⟨rfl, rfl, rfl, rfl⟩) : FE X W (.Call (.Attribute o "pop" apos) [k] [] cpos) (rPopD1 rp rk) := by
  obtain ⟨t, q, l⟩ := ho.ex
  obtain ⟨t', q', l'⟩ := hk.ex
  refine ⟨_, pe_dpop1 q q' m, fun τ w σ ρ E Q Qv hn st h hq hx => ?_⟩
  refine l τ w σ ρ E _ _ hn st h (fun i p ρ1 w1 d0 dn v0 v h1 e1 hi ha hv at0 => ?_) hx
  have hn1 : ρ1.length < τ := by rw [e1.len]; exact hn
  obtain ⟨s1, back⟩ := hold e1.st hi hv at0 hn1
  have hx1 : SX X.K W τ w1 σ ρ1 E := hx.then e1 (Nat.le_refl _)
  simp only [hi, ha] at h1
  obtain ⟨v0', ev', r0⟩ := e1.st.rep i d0 hi
  rw [hv] at ev'; cases ev'
  cases dn with
  | dct o t ks vs =>
    obtain ⟨rfl, h1⟩ := h1
    obtain ⟨a, rfl, hD⟩ := isD_dct e1.st.wf rfl (at0.rep r0)
    refine ⟨a, rfl, hD, ?_⟩
    refine l' (τ + 1) (w1.ren (moveT (i + 1) [τ])) σ (ρ1.set i none) _ _ _ (by rw [List.length_set]; omega) s1 h1 (fun k ρ2 w2 vk h2 e2 r2 => ?_) (held_sx hx1 fun ρ' w' en => (back ρ' w' en).1)
    obtain ⟨b1, b2, b3⟩ := back ρ2 w2 e2
    obtain ⟨rfl, hko, h2⟩ := h2
    have hin := (List.getElem?_eq_some_iff.mp hi).1
    have hl2 : ρ2.length = ρ1.length := by rw [e2.len, List.length_set]
    have hi2 : (ρ2.set i (some d0))[i]? = some (some d0) := List.getElem?_set_self (by omega)
    obtain ⟨v0', ev', r0'⟩ := b1.st.rep i d0 hi2
    rw [hv] at ev'; cases ev'
    obtain ⟨a', us, ea, gg, hh, ⟨hlk, hks, hL⟩, rl⟩ := dict_at rfl r0' b2
    cases ea
    have rk' := b3 k vk (τ + 1) [] (by omega) r2
    have en : EndE X.K τ w σ ρ (ρ2.set i (some d0)) (w2.ren (moveT τ [i + 1])) := e1.trans b1 (Nat.le_refl _)
    have hnd : (ks.map skey).Nodup := by
      unfold keysOk at hks
      simp only [Bool.and_eq_true] at hks
      simpa using hks.2
    have hval : valV ((ks.map skey).zip us) (skey k) = (kIdx false ks k).bind fun i => us[i]? := valV_zip skey k ks us
    cases ej : kIdx false ks k with
    | none => rw [ej] at h2; exact h2.elim
    | some jj =>
      rw [ej] at h2 hval
      dsimp only at h2
      obtain ⟨y, ey, hyo, h2⟩ := pick_elim h2
      have hj : (ks.map skey)[jj]? = some (skey k) := by
        unfold kIdx at ej
        obtain ⟨hjl, he, _⟩ := List.findIdx?_eq_some_iff_getElem.mp ej
        rw [List.getElem?_map, List.getElem?_eq_getElem hjl]
        have : skey ks[jj] = skey k := by simpa [keyEq] using he
        rw [Option.map_some, this]
      obtain ⟨z, ez, rz⟩ := rl.get ey
      have hval : valV ((ks.map skey).zip us) (skey k) = some z := by rw [hval]; exact ez
      have hdrop : dropK ((ks.map skey).zip us) (skey k) = ((ks.eraseIdx jj).map skey).zip (us.eraseIdx jj) := by
        unfold dropK
        rw [drop_erase hnd hj (by rw [List.length_map]; exact hlk), er_map]
      have hLv : ownL vs = false := hL rfl
      have hLe : ownL (vs.eraseIdx jj) = false := by rw [ownL_iff] at hLv ⊢; exact fun d hd => hLv d (List.eraseIdx_subset hd)
      have hjl : jj < us.length := (List.getElem?_eq_some_iff.mp ez).1
      have rr : RepL X.K ((w2.ren (moveT τ [i + 1])).ren (moveT τ [])) (vs.eraseIdx jj) ((i + 1) :: p) 0 (us.eraseIdx jj) := RepL.of (by rw [List.length_eraseIdx, List.length_eraseIdx, rl.length]) fun m d' v' f1 f2 => by
        have fr : ∀ {m' : Nat}, vs[m']? = some d' → us[m']? = some v' → Rep X.K ((w2.ren (moveT τ [i + 1])).ren (moveT τ [])) d' ((i + 1) :: p ++ [0 + m]) v' := fun {m'} f3 f4 => by
          obtain ⟨v5, f5, r5⟩ := rl.get f3
          rw [f4] at f5; cases f5
          exact Rep.free (w := w2.ren (moveT τ [i + 1])) (w' := (w2.ren (moveT τ [i + 1])).ren (moveT τ [])) (Same.refl _) d' (ownL_iff.mp hLv d' (List.mem_of_getElem? f3)) r5
        rw [List.getElem?_eraseIdx] at f1 f2
        split at f1
        · rename_i hm
          rw [if_pos hm] at f2
          exact fr f1 f2
        · rename_i hm
          rw [if_neg hm] at f2
          exact fr f1 f2
      have hks' : keysOk false (ks.eraseIdx jj) = true := by
        unfold keysOk at hks ⊢
        simp only [Bool.and_eq_true] at hks ⊢
        refine ⟨List.all_eq_true.mpr fun x hx => List.all_eq_true.mp hks.1 x (List.eraseIdx_subset hx), ?_⟩
        show decide ((ks.eraseIdx jj).map skey).Nodup = true
        rw [decide_eq_true_iff, ← er_map]
        exact hnd.eraseIdx _
      have ee := dict_end (i := i) (τ := τ) (τ1 := τ) (p := p) (o' := .flat) (t := false) (ks' := ks.eraseIdx jj) (ds' := vs.eraseIdx jj) rfl rfl b1.st hi2 hv r0' b2 (by rw [List.length_set]; omega) (Nat.le_refl _) rr ⟨by rw [List.length_eraseIdx, List.length_eraseIdx, hlk], hks', fun _ => hLe⟩
      rw [List.set_set] at ee
      refine ⟨_, skey k, z, hh, rep_skey rk' hko, hval, ?_⟩
      rw [hdrop]
      exact hq y _ _ z (nf_of h2) (en.trans ee (Nat.le_refl _)) (Rep.free (w := w2.ren (moveT τ [i + 1])) (w' := ((w2.ren (moveT τ [i + 1])).ren (moveT τ [])).put a (dHO false (ks.eraseIdx jj) (us.eraseIdx jj))) (Same.refl _) y hyo rz)
  | _ => exact h1.elim
/-- o[k] += e, o a place with a dict of ints; e may read the name of o, which is lent to it -/
def rAugDP (rp : RPl) (rk re : RE) : RS := fun ρ E F => rp ρ E fun i p ρ1 => match ρ1[i]? with
  | some (some d0) => rk (ρ1.set i none) (heldE i d0 E) fun dk ρ2 => match d0.atS p with
    | some (.dct o t ks ds) => o = .flat ∧ keyOk t dk = true ∧ ks.length < sizeLine ∧ intAt (dLook t ks ds dk) fun a => nf (ρ2.set i (some d0.frz)) fun ρ3 => re ρ3 E0D fun d ρ4 => match d with
      | .int b => twL ρ3 ρ4 ∧ nf (ρ4.set i (some (d0.put p (.dct .flat t (putKs t ks dk) (putDs t ks dk ds (.int (a + b))))))) F.nx
      | _ => False
    | _ => False
  | _ => False
theorem fs_augDP {o k e : Expr} {rp : RPl} {rk re : RE} (ho : FPl X W o rp) (hk : FE X W k rk) (he : FE X W e re) (hu : X.A.units + 1 < cLine) (ha : ∀ ov iv new, augStore k ov iv new = (do holding [new, ov, iv] (setItem ov iv new); release [new, ov, iv] []; pure .next) := by intros; rfl) :
    FS X W M (.AugAssign (.Subscript o k tpos) .Add e pos) (rAugDP rp rk re) := by
  obtain ⟨t, q, l⟩ := ho.ex
  obtain ⟨t', q', l'⟩ := hk.ex
  obtain ⟨t2, q2, l2⟩ := he.ex
  refine ⟨_, ps_daug hu q q' q2 in_add ha, fun w σ ρ E F Z st h hf => ?_⟩
  refine l (ρ.length + 1) w σ ρ E _ _ (Nat.lt_succ_self _) st h (fun i p ρ1 w1 d0 dn v0 v h1 e1 hi ha hv at0 => ?_) hf.sx
  have hn1 : ρ1.length < ρ.length + 1 := by rw [e1.len]; exact Nat.lt_succ_self _
  obtain ⟨s1, back⟩ := hold e1.st hi hv at0 hn1
  have hx1 : SX X.K W (ρ.length + 1) w1 σ ρ1 E := hf.sx.then e1 (Nat.le_refl _)
  simp only [hi] at h1
  refine l' (ρ.length + 2) (w1.ren (moveT (i + 1) [ρ.length + 1])) σ (ρ1.set i none) _ _ _ (by rw [List.length_set]; omega) s1 h1 (fun dk ρ2 w2 vk h2 e2 r2 => ?_) (held_sx hx1 fun ρ' w' en => (back ρ' w' en).1)
  obtain ⟨b1, b2, b3⟩ := back ρ2 w2 e2
  simp only [ha] at h2
  cases dn with
  | dct oo tt ks ds =>
    obtain ⟨rfl, hko, hkl, h2⟩ := h2
    obtain ⟨n0, en0, h2⟩ := intAt_elim h2
    have h2 := nf_of h2
    have hin := (List.getElem?_eq_some_iff.mp hi).1
    have hl1 : ρ1.length = ρ.length := e1.len
    have hl2 : ρ2.length = ρ1.length := by rw [e2.len, List.length_set]
    have hi2 : (ρ2.set i (some d0))[i]? = some (some d0) := List.getElem?_set_self (by omega)
    obtain ⟨v0', ev', r0⟩ := b1.st.rep i d0 hi2
    rw [hv] at ev'; cases ev'
    obtain ⟨a, us, rfl, ta, hh, ⟨hl, hks, hL⟩, rl⟩ := dict_at rfl r0 b2
    have rk' := b3 dk vk (ρ.length + 2) [] (by omega) r2
    obtain ⟨a', ea, gg, _⟩ := dct_get b1.st.wf (b2.rep r0) rk' hko
    cases ea
    obtain ⟨z, _, gz, rz⟩ := gg _ en0
    have rz : z = .int n0 := rz
    subst rz
    refine ⟨a, .int n0, rfl, gz, ?_⟩
    -- the value, slot i frozen
    let w4 := w2.ren (moveT (ρ.length + 1) [i + 1])
    have st4 : StE X.K w4 σ (ρ2.set i (some d0)) := b1.st
    have e4 := ice_slot' (τ := ρ.length + 2) (by rw [List.length_set]; omega) st4 hi2
    rw [List.set_set] at e4
    refine l2 (ρ.length + 2) (w4.ice (iceS i)) σ (ρ2.set i (some d0.frz)) E0D _ _ (by rw [List.length_set]; omega) e4.st h2 (fun d ρ4 w5 vd h4 e5 r5 => ?_) (fun _ _ _ _ _ z => z.elim)
    cases d with
    | int b =>
      obtain ⟨tw1, h4⟩ := h4
      have r5 : vd = .int b := r5
      subst r5
      have e5' : EndE X.K (ρ.length + 2) (w4.ice (iceS i)) σ ((ρ2.set i (some d0)).set i (some d0.frz)) ρ4 w5 := by rw [List.set_set]; exact e5
      have x : Ext (ρ2.set i (some d0)).length (ρ.length + 2) (w4.ice (iceS i)) w5 := by have := e5'.ext; rw [List.length_set] at this; exact this
      have e6 := thaw_st st4 hi2 hv r0 e5' (by rw [List.set_set]; exact tw1)
      have wf5 := e5.st.wf
      have kk : KeptTo w4 (w4.thaw w5 i) [i + 1] [i + 1] := fun a s g => by
        have h1 : isOf i (w4.G a) = true := by
          rw [g]
          show (i + 1 == i + 1) = true
          simp
        refine ⟨?_, (thaw_at st4.wf wf5 x.s h1).2.2.1⟩
        show (if isOf i (w4.G a) then w4.G a else w5.G a) = _
        rw [if_pos h1]; exact g
      have at6 : AtV X.K (w4.thaw w5 i) d0 [i + 1] v0 p (.dct .flat tt ks ds) (.ref a) := AtV.to (thaw_same st4.wf x.s) b2 kk
      have hl4 : ρ4.length = ρ2.length := by have := e5'.len; rw [List.length_set, List.length_set] at this; exact this
      have hi6 : (ρ4.set i (some d0))[i]? = some (some d0) := List.getElem?_set_self (by omega)
      obtain ⟨v0', ev', r06⟩ := e6.st.rep i d0 hi6
      rw [hv] at ev'; cases ev'
      obtain ⟨a', us', ea, ta', hh', ⟨hl', _, hL'⟩, rl'⟩ := dict_at rfl r06 at6
      cases ea
      -- the key's value, once more
      have rk6 : ∃ ℓ, Rep X.K (w4.thaw w5 i) dk ℓ vk := by
        refine ⟨[], ?_⟩
        have hd : dk.own = false ∨ dk.own = true := by cases dk.own <;> simp
        cases tt with
        | false =>
          have : isSKey dk = true := hko
          cases dk <;> first | (simp [isSKey] at this; done) | exact rk'
        | true =>
          have ht : isTKey dk = true := hko
          cases dk with
          | tup o xs =>
            have rk0 := rk'
            simp only [Rep] at rk0
            obtain ⟨b', vs', rfl, hs', ⟨hz', _⟩, rl0⟩ := rk0
            have hxs : ∀ d ∈ xs, isSKey d = true := fun d hd => List.all_eq_true.mp (show xs.all isSKey = true from ht) d hd
            have ho : ownL xs = false := ownL_iff.mpr fun d hd => by
              have := hxs d hd
              cases d <;> first | rfl | (simp [isSKey] at this)
            simp only [Rep]
            refine ⟨b', vs', rfl, ?_, ⟨hz', fun _ => ho⟩, RepL.free (w := w4) (thaw_same st4.wf x.s) xs ho rl0⟩
            exact thaw_same st4.wf x.s _ _ hs'
          | _ => simp [isTKey] at ht
      obtain ⟨ℓk, rk6⟩ := rk6
      refine ⟨n0, b, rfl, rfl, _, DPut.of e6.st.wf hh' hl' hks hko hkl rk6 (v := .int (n0 + b)), ?_⟩
      have rr : RepL X.K ((w4.thaw w5 i).ren (moveT (ρ.length + 2) [])) (putDs tt ks dk ds (.int (n0 + b))) ((i + 1) :: p) 0 (putDs tt ks dk us' (.int (n0 + b))) := by
        refine RepL.put (RepL.of rl'.length fun y dq vq e7 e8 => ?_) fun j' hj' => rfl
        obtain ⟨v3, e9, r9⟩ := rl'.get e7
        rw [e8] at e9; cases e9
        exact r9.mv (by omega)
      have hLn : Lt .flat (putDs tt ks dk ds (.int (n0 + b))) := Lt.put (d := .int (n0 + b)) hL
      have ee := dict_end (i := i) (τ := ρ.length + 1) (τ1 := ρ.length + 2) (L := []) (p := p) (o' := .flat) (t := tt) rfl rfl e6.st hi6 hv r06 at6 (by rw [List.length_set]; omega) (Nat.le_succ _) rr ⟨putDs_len hl', putKs_ok hks hko, hLn⟩
      rw [List.set_set] at ee
      exact hf.nx _ _ σ (nf_of h4) ((((e1.trans b1 (Nat.le_refl _)).trans e6 (Nat.le_succ _)).trans ee (Nat.le_refl _)).s (Nat.lt_succ_self _))
    | _ => exact h4.elim
  | _ => exact h2.elim
end
end FL
namespace FL
open PySem PySem.Spec PyProof.Rows L2 RT
section
variable {X : Cx} {CX : CXT} {k : Nat} {f C : Addr} {fd : FuncData} {ps : List Str} {sp : Sp} {E : L2.St → XK} {x m : Str} {p pos apos : Pos} {e o : Expr} {es : List Expr} {ta : TE} {t : TA}
def tMakeX (C : Addr) (sp : Sp) (E : L2.St → XK) (t : TA) : TE := fun σ H Q => t σ H fun vs H1 => ∀ x dx, H1 x = none → H1 dx = none → dx ≠ x →
  sp (.ref x :: vs) (upd (upd H1 dx (.own x)) x (.ins C dx [])) (fun v H2 => v = .non ∧ Q (.ref x) H2) (E σ)
theorem run_makeX {pins : List (Addr × Obj)} {σ : L2.St} {H : Hp} {s : Shared} {Q : VK} {us : List Value} {vs : List V} (M : Mk X.K C f) (F : FnOk X.prog X.w X.K X.mg X.base CX k f fd ps sp) (hr : Room (k + 1) X.A) (hb : Binds X.K fd ps [])
    (hx : PassesAt CX X σ (E σ)) (I : Inv X pins σ H s) (r : Vals vs us)
    (h : ∀ x dx, H x = none → H dx = none → dx ≠ x → sp (.ref x :: vs) (upd (upd H dx (.own x)) x (.ins C dx [])) (fun v H2 => v = .non ∧ Q (.ref x) H2) (E σ)) :
    wpAny (model X.prog X.w) X.A (call (.ref C) us) (EP X pins σ Q) X.xe s := by
  have hq := h (s.heap.objs.size + 1) s.heap.objs.size (I.hok.fresh (Nat.le_succ _)) (I.hok.fresh (Nat.le_refl _)) (Nat.ne_of_lt (Nat.lt_succ_self _))
  have I2 := Inv.made (C := C) I
  have r2 : Vals (V.ref (s.heap.objs.size + 1) :: vs) (Value.ref (s.heap.objs.size + 1) :: us) := .cons rfl r
  have hl : (Value.ref (s.heap.objs.size + 1) :: us).length = ps.length := by
    have e := r2.length
    rw [F.len _ _ _ _ hq] at e
    exact e.symm
  have b := hb _ (Value.ref (s.heap.objs.size + 1) :: us) I2.kIn (by rw [List.append_nil]; exact hl)
  rw [List.append_nil] at b
  refine wpAny_call (make_map (f := f) I.kIn M.makes M.init (beq_iff_eq.mp M.fn) (codeAny_mono (F.run _ X.stack _ _ ⟨Value.ref (s.heap.objs.size + 1) :: us, []⟩ (Value.ref (s.heap.objs.size + 1) :: us) _ _ (E σ) (hr.make C us [])
    (I2.env0.make C us []) b r2 hq) fun r s' hq' => ?_))
  cases r with
  | error e => exact hx pins _ _ e s' I2 hq'
  | ok fl =>
    cases fl with
    | ret u =>
      obtain ⟨v, H', I3, rv, ev, q3⟩ := I2.after hq'
      subst ev
      exact ⟨rv, ⟨V.ref (s.heap.objs.size + 1), H', I3, rfl, q3⟩⟩
    | next => exact False.elim hq'
    | brk => exact False.elim hq'
    | cont => exact False.elim hq'
theorem pe_makeX (M : Mk X.K C f) (F : FnOk X.prog X.w X.K X.mg X.base CX k f fd ps sp) (hr : Room (k + 1) X.A) (hg : Gl X x) (hm : X.mg x = some (.ref C)) (hb : Binds X.K fd ps []) (hx : ∀ σ, PassesAt CX X σ (E σ))
    (ha : PA X (e :: es) t) (hdb : (x == ("__debug__" : Str)) = false := by decide) (he : starEach (e :: es) X.env = (false, eval e X.env) :: starEach es X.env := by rfl) (hpl : (backTo pos (starEach es X.env)).any (·.1) = false := by rfl) :
    PE X (.Call (.Name x p) (e :: es) [] pos) (tMakeX C sp E t) := by
  refine ⟨fun pins s σ H Q I h => ?_⟩
  refine wpAny_Call_Name_kw (ld_glob I hg hm ?_ hdb)
  refine PySem.W.callWith_K (h₀ := X.base) I.ok.mod.kin M.kp (thn (ha.run pos pins s σ H _ I h) fun us s1 ⟨vs, H1, I1, r, q⟩ => ⟨I1.kIn, ?_⟩) he hpl
  exact run_makeX M F hr hb (hx σ) I1 r q
def tMethX (C : Addr) (m : Str) (sp : Sp) (E : L2.St → XK) (ta : TE) (t : TA) : TE := fun σ H Q => ta σ H fun x H1 => ∃ a dx fs, x = .ref a ∧ H1 a = some (.ins C dx fs) ∧ fs.lookup m = none ∧ t σ H1 fun vs H2 => sp (x :: vs) H2 Q (E σ)
theorem pe_methX {pl : Sem Bool} (he : PE X o ta) (c : Cls X.K C) (hm : Meth X.K C m f) (F : FnOk X.prog X.w X.K X.mg X.base CX k f fd ps sp) (hr : Room k X.A) (hb : Binds X.K fd ps []) (hx : ∀ σ, PassesAt CX X σ (E σ)) (ha : PA X (e :: es) t)
    (hst : starEach (e :: es) X.env = (false, eval e X.env) :: starEach es X.env := by rfl) (hpl : (backTo pos (starEach es X.env)).any (·.1) = false := by rfl)
    (ht : eval (.Call (.Attribute o m apos) (e :: es) [] pos) X.env = (do
      let ov ← eval o X.env
      standAt apos.atName
      let (f, first) ← holding [ov] (getMethod ov m pl)
      callWith pos f first (backTo pos (starEach (e :: es) X.env)) (backToKw pos (keywordEach [] X.env))) := by rfl) :
    PE X (.Call (.Attribute o m apos) (e :: es) [] pos) (tMethX C m sp E ta t) := by
  refine ⟨fun pins s σ H Q I h => ?_⟩
  refine PySem.W.methodCall_KW (pl := pl) (thn (he.run pins s σ H _ I h) fun u s1 ⟨x, H1, I1, rx, a, dx, fs, ex, ea, l, q⟩ => ?_) ht
  subst ex
  obtain rfl : u = Value.ref a := rx
  refine getmeth_ok I1 ea c hm l ?_
  refine PySem.W.callWith_K (first := [.ref a]) (h₀ := X.base) I.ok.mod.kin hm.kp (thn (ha.run pos pins s1 σ H1 _ I1 q) fun us s2 ⟨vs, H2, I2, r, q2⟩ => ⟨I2.kIn, ?_⟩) hst hpl
  exact run_fnS (us := .ref a :: us) (vs := .ref a :: vs) F hr hb (hx σ) I2 (.cons rfl r) q2
end
/-- what making promises, by what __init__ does to the new instance -/
def rMk (C : Addr) (r : FSpec) : FSpec := fun ds E Q => r (.ins .flat C [] [] :: ds) (fun c fs os => E c fs os.tail) (fun d os => d = .non ∧ ∃ e, os.head? = some (some e) ∧ Q e os.tail)
def shL : Loc → Option Loc
  | 0 :: s => some (0 :: s)
  | (h + 1) :: s => some ((h + 2) :: s)
  | [] => none
def unL (m : Nat) : Loc → Option Loc
  | 0 :: s => some (0 :: s)
  | 1 :: s => some ((m + 1) :: s)
  | (h + 2) :: s => if h < m then some ((h + 1) :: s) else none
  | [] => none
theorem make_sp {K : PySem.W.Frag} {m : Nat} {M M' : List Nat} {C : Addr} {r : FSpec} {vs : List V} {H : Hp} {Q : VK} {E : XK} (h0 : M.contains 0 = true) (hM : ∀ j, M'.contains j = M.contains (j + 1)) (h : FnD K m M' (rMk C r) vs H Q E) {x dx : Addr} (nx : H x = none) (nd : H dx = none) (ne : dx ≠ x) :
    FnD K (m + 1) M r (.ref x :: vs) (upd (upd H dx (.own x)) x (.ins C dx [])) (fun v H2 => v = .non ∧ Q (.ref x) H2) E := by
  obtain ⟨lv, w, ds, ED, QD, rfl, wf, ld, reps, hr, hQ, hE⟩ := h
  let w1 : Wd := ⟨fun a => if a = x then some [1] else (w.G a).bind shL, w.S, upd (upd w.H dx (.own x)) x (.ins C dx [])⟩
  have oth : ∀ {b : Addr} {u : HO}, w.H b = some u → w1.H b = some u := fun {b u} e => by
    show upd (upd w.H dx (.own x)) x (.ins C dx []) b = some u
    rw [upd_ne (ne_of_none e nx), upd_ne (ne_of_none e nd)]; exact e
  have tagX : w.G x = none := wf.noG nx
  have kp : ∀ (j : Nat), KeptTo w w1 [j + 1] [j + 2] := fun j a s g => by
    have hax : a ≠ x := fun z => by subst z; rw [tagX] at g; cases g
    refine ⟨?_, ?_⟩
    · show (if a = x then some [1] else (w.G a).bind shL) = _
      rw [if_neg hax, g]; rfl
    · obtain ⟨o, eo⟩ : ∃ o, w.H a = some o := by
        have := (wf.tg _ _ g).2
        cases q : w.H a with
        | none => rw [q] at this; exact this.elim
        | some o => exact ⟨o, rfl⟩
      rw [oth eo, eo]
  have wf1 : Wf w1 := by
    refine ⟨fun b u e => oth (wf.sh _ _ e), fun a ℓ g => ?_⟩
    by_cases hax : a = x
    · subst hax
      exact ⟨wf.noS nx, by show Mut (upd (upd w.H dx (.own a)) a (.ins C dx []) a); rw [upd_same]; trivial⟩
    · have g : (if a = x then some [1] else (w.G a).bind shL) = some ℓ := g
      rw [if_neg hax] at g
      cases q : w.G a with
      | none => rw [q] at g; cases g
      | some k =>
        obtain ⟨h1, h2⟩ := wf.tg _ _ q
        refine ⟨h1, ?_⟩
        cases q2 : w.H a with
        | none => rw [q2] at h2; exact h2.elim
        | some o => rw [oth q2]; rw [q2] at h2; exact h2
  have fin : ∀ {os : En} {w' : Wd}, EndF K (m + 1) M w1 (.ref x :: vs) os w' → EndF K m M' w vs os.tail (w'.ren (unL m)) := fun {os w'} eF => by
    refine ⟨eF.wf.ren _, eF.s, fun a ℓ g => ?_, fun j hj d v e1 e2 => ?_⟩
    · have hax : a ≠ x := fun z => by subst z; rw [tagX] at g; cases g
      obtain ⟨k1, k2⟩ := eF.f a ℓ (show (if a = x then some [1] else (w.G a).bind shL) = _ by rw [if_neg hax, g]; rfl)
      refine ⟨ren_at k1 rfl, k2.trans ?_⟩
      obtain ⟨o, eo⟩ : ∃ o, w.H a = some o := by
        have := (wf.tg _ _ g).2
        cases q : w.H a with
        | none => rw [q] at this; exact this.elim
        | some o => exact ⟨o, rfl⟩
      rw [oth eo, eo]
    · have hjm : j < m := by have := (List.getElem?_eq_some_iff.mp e2).1; omega
      have e1' : os[j + 1]? = some (some d) := by rw [List.getElem?_tail] at e1; exact e1
      have := eF.args (j + 1) (by rw [← hM]; exact hj) d v e1' (by simpa using e2)
      refine this.ren fun s => ?_
      show (if j < m then _ else _) = _
      rw [if_pos hjm]; rfl
  refine ⟨by simp [lv], w1, .ins .flat C [] [] :: ds, _, _, rfl, wf1, by simp [ld], fun j d v e1 e2 => ?_, hr, fun d os w' v hq eF rv => ?_, fun c fs os w' y hx eF rx => ?_⟩
  · cases j with
    | zero =>
      cases e1; cases e2
      simp only [Rep]
      exact ⟨x, [], rfl, ⟨dx, by rw [if_pos (show Ow.flat.mine = true from rfl)]; exact ⟨if_pos rfl, upd_same⟩⟩, ⟨rfl, fun _ => rfl⟩, by simp [RepL]⟩
    | succ j =>
      have e1 : ds[j]? = some d := by simpa using e1
      have e2 : vs[j]? = some v := by simpa using e2
      exact Rep.to (w := w) (w' := w1) (Same.refl _) d (kp j) (reps j d v e1 e2)
  · obtain ⟨rfl, e, he, q⟩ := hq
    refine ⟨rv, hQ e os.tail (w'.ren (unL m)) (.ref x) q (fin eF) ?_⟩
    have h1 : os[0]? = some (some e) := by rw [← List.head?_eq_getElem?]; exact he
    exact (eF.args 0 h0 e (.ref x) h1 rfl).ren fun s => rfl
  · refine hE c fs os.tail (w'.ren (unL m)) y hx (fin eF) ?_
    cases y with
    | none => cases fs <;> exact rx
    | some a =>
      cases fs with
      | none => exact rx
      | some fs =>
        obtain ⟨us, h1, h2, h3, h4⟩ := rx
        exact ⟨us, h1, h2, h3, RepL.free (w := w') (w' := w'.ren (unL m)) (Same.refl _) _ h3 h4⟩
section
variable {X : Cx} {W : WX} {k : Nat} {f C : Addr} {fd : FuncData} {ps : List Str} {M : List Nat} {r : FSpec} {x : Str} {p pos apos : Pos} {e : Expr} {es : List Expr} {ra : RA}
theorem fe_make {m : Nat} (M' : List Nat) (tk : Takes X W) (mk : Mk X.K C f) (F : FnOk X.prog X.w X.K X.mg X.base (L2.CX X.prog X.w) k f fd ps (FnD X.K (m + 1) M r)) (hr : Room (k + 1) X.A) (hm : X.mg x = some (.ref C)) (hb : Binds X.K fd ps [])
    (ha : FA X W (e :: es) ra) (h0 : M.contains 0 = true := by rfl) (hM : ∀ j, M'.contains j = M.contains (j + 1) := by intro j; simp) (hl : (e :: es).length = m := by rfl) (hg : Gl X x := by rfl) (hdb : (x == ("__debug__" : Str)) = false := by decide) (he : starEach (e :: es) X.env = (false, eval e X.env) :: starEach es X.env := by rfl) (hpl : (backTo pos (starEach es X.env)).any (·.1) = false := by rfl) :
    FE X W (.Call (.Name x p) (e :: es) [] pos) (rCall M' (rMk C r) ra) := by
  obtain ⟨t, pa, sa⟩ := ha.ex
  refine ⟨_, pe_makeX (E := WE W) mk F hr hg hm hb (fun σ => passAt tk σ) pa hdb he hpl, fun τ w σ ρ E Q Qv hn st h hq hx => ?_⟩
  refine sa τ w σ ρ E _ _ hn st h (fun ads ρ1 w1 vs h1 l1 e1 r1 => ?_) hx
  have g := call_sound (X := X) (W := W) (m := m) (by rw [e1.len]; exact hn) e1.st (l1.trans hl) r1 h1 (fun d ρ' w' v q e2 r2 => hq d ρ' w' v q (e1.trans e2 (Nat.le_refl _)) r2) (hx.then e1 (Nat.le_refl _))
  exact fun y dx ny nd ne => make_sp h0 hM g ny nd ne
/-- x.m(..), x a name at slot i -/
def rMeth (i : Nat) (C : Addr) (Fs : List Str) (M : List Nat) (r : FSpec) (ra : RA) : RE := fun ρ E Q => (∃ o ds, ρ[i]? = some (some (.ins o C Fs ds))) ∧ rCall M r (rAC (oN i) ra) ρ E Q
theorem oN_args {K : PySem.W.Frag} {W : WX} {i : Nat} {n : Nat} {t : TA} {ra : RA} (s : SA K W n t ra) {τ : Nat} {w : Wd} {σ : Sl} {ρ : En} {E : EE} {Q : List AD → En → Prop} {Qv : List V → Hp → Prop} (hn : ρ.length < τ) (st : StE K w σ ρ) (h : rAC (oN i) ra ρ E Q)
    (hq : ∀ ads ρ' w' vs, Q ads ρ' → ads.length = n + 1 → EndE K τ w σ ρ ρ' w' → ArgsAt K w' σ ads τ vs → Qv vs w'.H) (hx : SX K W τ w σ ρ E) : ∃ v, σ[i]? = some (some v) ∧ t σ w.H fun vs H2 => Qv (v :: vs) H2 := by
  obtain ⟨⟨d, e0⟩, h⟩ := oN_elim (show oN i ρ E _ from h)
  obtain ⟨v, ev, _⟩ := st.rep i d e0
  refine ⟨v, ev, s (τ + 1) w σ ρ E _ _ (by omega) st h (fun as ρ2 w2 vs h2 hl e2 r2 => ?_) (fun c fs ρ' w' y hc en xr => hx c fs ρ' w' y hc ⟨en.len, en.st, en.ext.mono (Nat.le_succ _)⟩ xr)⟩
  exact hq (.brw i :: as) ρ2 w2 (v :: vs) h2 (by rw [List.length_cons, hl]) ⟨e2.len, e2.st, e2.ext.mono (Nat.le_succ _)⟩ (.cons (a := .brw i) ev r2)
theorem fe_meth {m : Nat} {o nm : Str} {Fs : List Str} (i : Nat) (tk : Takes X W) (c : Cls X.K C) (hm : Meth X.K C nm f) (F : FnOk X.prog X.w X.K X.mg X.base (L2.CX X.prog X.w) k f fd ps (FnD X.K (m + 1) M r)) (hr : Room k X.A) (hb : Binds X.K fd ps [])
    (ha : FA X W (e :: es) ra) (hf : fIx nm Fs = none := by decide +kernel) (hl : (e :: es).length = m := by rfl) (hN : X.N[i]? = some o := by rfl) (hv : Vis X.env.scope o := by first | exact Or.inl rfl | exact Or.inr (Or.inl rfl) | exact Or.inr (Or.inr rfl)) (hd : (o == ("__debug__" : Str)) = false := by decide)
    (hcd : (o == ("__classdict__" : Str)) = false := by decide) (hst : starEach (e :: es) X.env = (false, eval e X.env) :: starEach es X.env := by rfl) (hpl : (backTo pos (starEach es X.env)).any (·.1) = false := by rfl) {pl : Sem Bool}
    (ht : eval (.Call (.Attribute (.Name o p) nm apos) (e :: es) [] pos) X.env = (do
      let ov ← eval (.Name o p) X.env
      standAt apos.atName
      let (f, first) ← holding [ov] (getMethod ov nm pl)
      callWith pos f first (backTo pos (starEach (e :: es) X.env)) (backToKw pos (keywordEach [] X.env))) := by rfl) :
    FE X W (.Call (.Attribute (.Name o p) nm apos) (e :: es) [] pos) (rMeth i C Fs M r ra) := by
  obtain ⟨t, pa, sa⟩ := ha.ex
  refine ⟨_, pe_methX (E := WE W) (pl := pl) (pe_var hN hv hd hcd) c hm F hr hb (fun σ => passAt tk σ) pa hst hpl ht, fun τ w σ ρ E Q Qv hn st h hq hx => ?_⟩
  obtain ⟨⟨oo, ds, ei⟩, h⟩ := h
  obtain ⟨v, ev, g⟩ := oN_args sa hn st h (Qv := fun vs H2 => FnD X.K (m + 1) M r vs H2 Qv (WE W σ)) (fun ads ρ1 w1 vs h1 l1 e1 r1 => call_sound (by rw [e1.len]; exact hn) e1.st (by rw [l1, hl]) r1 h1 (fun d ρ' w' v q e2 r2 => hq d ρ' w' v q (e1.trans e2 (Nat.le_refl _)) r2) (hx.then e1 (Nat.le_refl _))) hx
  obtain ⟨v', ev', r0⟩ := st.rep i _ ei
  rw [ev] at ev'; cases ev'
  obtain ⟨a, dx, vs, rfl, hh, hlv, _, _⟩ := ins_at st.wf r0
  exact ⟨_, ev, a, dx, _, rfl, hh, (fIx_none (v := .non) hf hlv).1, g⟩
end
end FL
namespace FL
open PySem PySem.Spec PyProof.Rows L2 RT
theorem paired_of {α β : Type} {R : α → β → Prop} : ∀ {as : List α} {bs : List β}, as.length = bs.length → (∀ (i : Nat) (a : α) (b : β), as[i]? = some a → bs[i]? = some b → R a b) → Paired R as bs
  | [], [], _, _ => .nil
  | a :: as, [], l, _ => by simp at l
  | [], b :: bs, l, _ => by simp at l
  | a :: as, b :: bs, l, h => .cons (h 0 a b rfl rfl) (paired_of (by simpa using l) fun i x y e1 e2 => h (i + 1) x y (by simpa using e1) (by simpa using e2))
def dLenD : DC := fun ds Q => match ds with
  | [.dct _ t ks _] => t = false ∧ Q (.int ks.length)
  | _ => False
section
variable {X : Cx} {W : WX}
theorem call_lenDR : CallR X (.builtin "len") (fun xs H Q => ∃ a kvs, xs = [V.ref a] ∧ Rd H a (.dK kvs) ∧ Q (.int kvs.length) H) := by
  intro pins s σ H xs us Q I r h
  obtain ⟨a, kvs, rfl, ha, q⟩ := h
  obtain ⟨u, rfl, ru⟩ := vals1 r
  cases ru
  exact d_len I ha fun t s' I' => ⟨.int kvs.length, H, I', ⟨t, rfl⟩, q⟩
theorem fc_lenD : FC X (.builtin "len") dLenD := by
  refine ⟨_, call_lenDR, fun τ w σ ρ vs ds Q Qv hn st rs hd hq => ?_⟩
  unfold dLenD at hd
  split at hd
  · rename_i o t ks dd
    obtain ⟨rfl, q⟩ := hd
    obtain ⟨v, ℓ, rfl, r⟩ := reps1 rs
    obtain ⟨a, us, rfl, h1, hl, hks, h2⟩ := dct_at st.wf r
    refine ⟨a, _, rfl, h1, ?_⟩
    have e : ((ks.map skey).zip us).length = ks.length := by rw [List.length_zip, List.length_map]; omega
    rw [e]
    exact hq _ w _ q (.refl st) rfl
  · exact hd.elim
def rSortDK (K : PySem.W.Frag) : List V → Hp → VK → Prop := fun vs H Q => ∃ d kvs, vs = [V.ref d] ∧ Rd H d (.dK kvs) ∧ SortPV K H (kvs.map fun p => (keyPy p.1, kV p.1)) ∧
  ∀ l, H l = none → Q (.ref l) (upd H l (.lst ((sortPV (kvs.map fun p => (keyPy p.1, kV p.1))).map fun p => p.2)))
theorem cr_sortDK (hc : X.calm = true) (hu : X.A.units + 64 < cLine) : CallR X (.builtin "sorted") (rSortDK X.K) := by
  intro pins s σ H vs us Q I rr hyp
  obtain ⟨d, kvs, rfl, hd, S, q⟩ := hyp
  rw [Vals.ref1 rr]
  obtain ⟨hz, hs, vs0, kv, o, es, ep, ho, hx, hdt, hk, hp, hn⟩ := (show ObjOk X.prog X.w H s.heap d (.dK kvs) from hd.ok I.hok)
  have l2 : kvs.length = vs0.length := Paired.length kv
  refine sorted_src (PySem.W.kdl_dict (knd := mixKind X.prog X.w) (kvs := vs0) (ep := ep) hs) hc hu ⟨o, es, ho, hx, hdt, hk, hp, hn⟩ (by omega) I fun acc hacc => ?_
  refine ⟨_, ?_, S, q⟩
  refine each_vals ?_
  rw [List.map_map]
  refine paired_of (by rw [List.length_map, Array.length_toList]; exact l2.trans hacc.1.symm) fun i a b e1 e2 => ?_
  rw [List.getElem?_map] at e1
  cases e3 : kvs[i]? with
  | none => rw [e3] at e1; cases e1
  | some p =>
    rw [e3] at e1
    cases e1
    obtain ⟨k, x, e4, hk⟩ := hacc.2 i b (by rw [← Array.getElem?_toList]; exact e2)
    have e5 := paired_at kv e3 e4
    have e6 : p.1 = k := e5.1
    show RelV (kV p.1) b
    rw [e6]
    rcases keyIs_shape hk with ⟨j, t, rfl, rfl⟩ | ⟨y, t, rfl, rfl⟩
    · exact ⟨t, rfl⟩
    · exact ⟨t, rfl⟩
def dSortDK : DC := fun ds Q => match ds with
  | [.dct _ t ks _] => t = false ∧ ks.length ≤ sizeLine ∧ SortOk ks ∧ Q (.lst .flat (sortD ks))
  | _ => False
theorem skeys_all {ks : List D} (h : keysOk false ks = true) : ks.all isSKey = true := by
  unfold keysOk at h
  simp only [Bool.and_eq_true] at h
  exact h.1
theorem fc_sortDK (hu : X.A.units + 64 < cLine) (hc : X.calm = true := by rfl) : FC X (.builtin "sorted") dSortDK := by
  refine ⟨_, cr_sortDK hc hu, fun τ w σ ρ vs ds Q Qv hn st rs hd hq => ?_⟩
  unfold dSortDK at hd
  split at hd
  · rename_i o t ks dd
    obtain ⟨rfl, hz, S, q⟩ := hd
    obtain ⟨v, ℓ, rfl, r⟩ := reps1 rs
    obtain ⟨a, us, rfl, h1, hl, hks, h2⟩ := dct_at st.wf r
    have ha := skeys_all hks
    have rl : ∀ ℓ j, RepL X.K w ks ℓ j ((ks.map skey).map kV) := fun ℓ j => skeys_rep ha
    have ho : ownL ks = false := skeys_own ha
    have ps : ((ks.map skey).zip us).map (fun p => (keyPy p.1, kV p.1)) = pvOf ks ((ks.map skey).map kV) := by
      have e1 : ((ks.map skey).zip us).map (fun p => (keyPy p.1, kV p.1)) = (((ks.map skey).zip us).map Prod.fst).map fun k => (keyPy k, kV k) := by rw [List.map_map]; rfl
      rw [e1, List.map_fst_zip (by rw [List.length_map]; omega)]
      unfold pvOf
      clear h1 hl hks h2 rl ho S q hz e1 r rs hq
      induction ks with
      | nil => rfl
      | cons k r ih =>
        simp only [List.all_cons, Bool.and_eq_true] at ha
        simp only [List.map_cons, List.zip_cons_cons, skey_py ha.1]
        rw [ih ha.2]
    refine ⟨a, _, rfl, h1, ?_⟩
    rw [ps]
    refine ⟨sortOk_pv (K := X.K) st.wf S hz rl, fun l nl => ?_⟩
    obtain ⟨e, r⟩ := EndE.own (τ := τ) .flat st nl (sorted_reps (ℓ' := [τ]) ho (rl [] 0)) (by rw [sortD_len]; exact hz) (fun _ => sortD_own ho) rfl
    exact hq _ _ _ q e r
  · exact hd.elim
end
theorem mergeK_app : ∀ (more kvs : List (Key × V)), ((kvs ++ more).map (·.1)).Nodup → mergeK kvs more = kvs ++ more
  | [], kvs, _ => by rw [List.append_nil]; rfl
  | p :: r, kvs, h => by
    have hp : p.1 ∉ kvs.map (·.1) := fun z => by
      rw [List.map_append, List.map_cons, List.nodup_append] at h
      exact h.2.2 _ z _ List.mem_cons_self rfl
    have e : putK kvs p.1 p.2 = kvs ++ [p] := by
      unfold putK
      rw [if_neg]
      simp only [List.any_eq_true, not_exists, not_and, Bool.not_eq_true]
      intro q hq
      simp only [decide_eq_false_iff_not]
      exact fun z => hp (List.mem_map.mpr ⟨q, hq, z⟩)
    show mergeK (putK kvs p.1 p.2) r = _
    rw [e, mergeK_app r (kvs ++ [p]) (by simpa using h)]
    simp
/-- pairs of a display: constant texts, values -/
structure FDp (X : Cx) (W : WX) (pos : Pos) (keys : List (Option Expr)) (values : List Expr) (ks : List Str) (ra : RA) : Prop where
  ex : ∃ trs, PPs X pos keys values trs ∧ ∀ (τ : Nat) (w : Wd) (σ : Sl) (ρ : En) (E : EE) (Q : List AD → En → Prop) (Qv : List (V × V) → Hp → Prop), ρ.length < τ → StE X.K w σ ρ → ra ρ E Q →
    (∀ ads ρ' w' vs, Q ads ρ' → ads.length = ks.length → EndE X.K τ w σ ρ ρ' w' → ArgsAt X.K w' σ ads τ vs → Qv ((ks.map V.str).zip vs) w'.H) → SX X.K W τ w σ ρ E → tPairs trs σ w.H Qv
section
variable {X : Cx} {W : WX} {pos p2 : Pos}
theorem fd_nil : FDp X W pos [] [] [] rA0 := ⟨_, pps_nil, fun τ w σ ρ E Q Qv hn st h hq hx => hq _ _ _ [] h rfl (.refl st) rfl⟩
theorem fd_cons {x : Str} {j : Nat} {v : Expr} {keys : List (Option Expr)} {values : List Expr} {ks : List Str} {r : RO} {ra : RA} (hv : FO X W v r) (hr : FDp X W pos keys values ks ra) : FDp X W pos (some (.Constant (.str x) j p2) :: keys) (v :: values) (x :: ks) (rAC r ra) := by
  obtain ⟨t, p, s⟩ := hv.ex
  obtain ⟨ts, ps, ss⟩ := hr.ex
  refine ⟨_, pps_cons pe_str p ps, fun τ w σ ρ E Q Qv hn st h hq hx => ?_⟩
  refine s τ w σ ρ E _ _ hn st h (fun a ρ1 w1 v1 h1 e1 r1 => ?_) hx
  refine ss (τ + 1) w1 σ ρ1 E _ _ (by rw [e1.len]; omega) e1.st h1 (fun as ρ2 w2 vs h2 hl e2 r2 => ?_) (hx.then e1 (Nat.le_succ _))
  exact hq _ _ _ (v1 :: vs) h2 (by rw [List.length_cons, List.length_cons, hl]) (e1.trans e2 (Nat.le_succ _)) (.cons (r1.later (by rw [e1.len]; exact hn) e2) r2)
/-- {'a': x, ..}, frozen values -/
def rDisp (ks : List Str) (ra : RA) : RE := fun ρ E Q => ra ρ E fun ads ρ' => onVals ads fun ds => ownL ds = false ∧ Q (.dct .flat false (ks.map D.str) ds) ρ'
theorem fe_disp {keys : List (Option Expr)} {values : List Expr} {ks : List Str} {ra : RA} (h : FDp X W pos keys values ks ra) (hN : ((ks.map D.str).map skey).Nodup := by decide +kernel) (hz : ks.length ≤ 15 := by decide) (hall : keys.all (·.isSome) = true := by rfl) (hl : keys.length = values.length := by rfl) (h0 : keys ≠ [] := by exact fun z => by cases z)
    (h15 : keys.length ≤ 15 := by decide) : FE X W (.Dict keys values pos) (rDisp ks ra) := by
  obtain ⟨trs, pp, kk⟩ := h.ex
  refine ⟨_, pe_disp pp hall hl h0 h15, fun τ w σ ρ E Q Qv hn st h hq hx => ?_⟩
  intro p hp
  have e0 : EndE X.K (τ + 1) w σ ρ ρ (w.new p [τ] (.dK [])) := EndE.new st hp trivial
  have e0' : EndE X.K τ w σ ρ ρ (w.new p [τ] (.dK [])) := EndE.new st hp trivial
  have gp : (w.new p [τ] (.dK [])).G p = some [τ] := if_pos rfl
  have hpp : (w.new p [τ] (.dK [])).H p = some (.dK []) := upd_same
  refine kk (τ + 1) (w.new p [τ] (.dK [])) σ ρ E _ _ (by omega) e0.st h (fun ads ρ' w' vs h1 l1 e1 r1 => ?_) (fun c fs ρ' w' y hc en xr => hx c fs ρ' w' y hc (e0'.trans en (Nat.le_succ _)) xr)
  obtain ⟨ds, ea, ho, q⟩ := onVals_elim h1
  obtain ⟨l2, l3, g⟩ := vals_at r1 ea
  obtain ⟨g1, g2⟩ := e1.ext.f p _ gp ⟨τ, [], rfl, .inr ⟨hn, Nat.lt_succ_self _⟩⟩
  have lv : vs.length = ks.length := by omega
  refine ⟨by rw [g2, hpp], (ks.map Sum.inr).zip vs, ?_, by rw [List.length_zip, List.length_map]; omega, ?_⟩
  · have key : ∀ (ks : List Str) (vs : List V), (ks.map V.str).zip vs = ((ks.map Sum.inr).zip vs).map fun kv : Key × V => (kV kv.1, kv.2) := fun ks => by
      induction ks with
      | nil => intro vs; rfl
      | cons k r ih =>
        intro vs
        cases vs with
        | nil => rfl
        | cons v vs => simp only [List.map_cons, List.zip_cons_cons]; rw [ih]; rfl
    exact key ks vs
  · have ek : (ks.map D.str).map skey = ks.map Sum.inr := by rw [List.map_map]; rfl
    rw [ek] at hN
    have em := mergeK_app ((ks.map (Sum.inr : Str → Key)).zip vs) [] (by rw [List.nil_append, List.map_fst_zip (by rw [List.length_map]; omega)]; exact hN)
    rw [em, List.nil_append]
    have wf' : Wf (w'.put p (.dK ((ks.map Sum.inr).zip vs))) := e1.st.wf.put g1 trivial
    have kept : ∀ i, i < ρ'.length → KeptTo w' (w'.put p (.dK ((ks.map Sum.inr).zip vs))) [i + 1] [i + 1] := fun i hi => put_kept g1 fun s z => by
      have hl : ρ'.length = ρ.length := e1.len
      have : i + 1 = τ := by injection z
      omega
    have e2 : EndE X.K τ w' σ ρ' ρ' (w'.put p (.dK ((ks.map Sum.inr).zip vs))) := ⟨rfl, e1.st.to wf' (Same.refl _) kept, ⟨Same.refl _, fun a ℓ e ⟨h, s, e2, k⟩ => by
      refine ⟨e, upd_ne fun z => ?_⟩
      subst z e2
      rw [g1] at e
      injection e with e
      injection e with e _
      have hl : ρ'.length = ρ.length := e1.len
      omega⟩⟩
    refine hq _ ρ' (w'.put p (.dK ((ks.map Sum.inr).zip vs))) (.ref p) q ((e0'.trans e1 (Nat.le_succ _)).trans e2 (Nat.le_refl _)) ?_
    simp only [Rep]
    refine ⟨p, vs, rfl, ?_, ⟨by rw [List.length_map]; exact lv.symm, ?_, fun _ => ho⟩, RepL.of (by omega) fun i d v e3 e4 => ?_⟩
    · rw [if_pos (show Ow.flat.mine = true from rfl)]
      refine ⟨g1, ?_⟩
      show upd w'.H p _ p = _
      rw [upd_same]
      unfold dHO
      rw [if_neg (by decide), ek]
    · unfold keysOk
      simp only [Bool.and_eq_true]
      refine ⟨?_, ?_⟩
      · rw [List.all_eq_true]
        intro d hd
        obtain ⟨x, _, rfl⟩ := List.mem_map.mp hd
        rfl
      · show decide (((ks.map D.str).map skey).Nodup) = true
        rw [ek]; exact decide_eq_true hN
    · exact Rep.free (w := w') (w' := w'.put p (.dK ((ks.map Sum.inr).zip vs))) (Same.refl _) d (ownL_iff.mp ho d (List.mem_of_getElem? e3)) (g i d v e3 e4)
end
end FL
namespace FL
open PySem PySem.Spec PyProof.Rows L2 RT
/-- a method of the text -/
structure DfM (K : PySem.W.Frag) (x qual : Str) (st : Stmt) (ps : List Str) (f : Addr) (fd : FuncData) : Prop where
  fn : Fun K x qual st f fd
  b : Binds K fd ps []
/-- e, slot j out of sight -/
def rHide (j : Nat) (re : RE) : RE := fun ρ E Q => match ρ[j]? with
  | some (some d) => nf (ρ.set j none) fun ρ1 => re ρ1 (heldE j d E) fun r ρ' => nf (ρ'.set j (some d)) (Q r)
  | _ => re ρ E Q
theorem se_hide {K : PySem.W.Frag} {W : WX} (j : Nat) {t : TE} {re : RE} (k : SE K W t re) : SE K W t (rHide j re) := by
  intro τ w σ ρ E Q Qv hn st hr hq hx
  unfold rHide at hr
  split at hr
  · rename_i d ed
    have hr := nf_of hr
    obtain ⟨v, ev, rv⟩ := st.rep j d ed
    obtain ⟨s1, back⟩ := hold st ed ev .here hn
    refine k (τ + 1) (w.ren (moveT (j + 1) [τ])) σ (ρ.set j none) _ _ _ (by rw [List.length_set]; omega) s1 hr (fun r ρ' w' v' q e2 r2 => ?_) (held_sx hx fun ρ' w' en => (back ρ' w' en).1)
    obtain ⟨b1, b2, b3⟩ := back ρ' w' e2
    have r3 := b3 r v' (τ + 1) [] (by omega) r2
    have hl := b1.len
    have en := EndE.ren (τ := τ) (f := moveT (τ + 1) [τ]) b1.st ⟨fun h s q => moveT_ne (by omega)⟩
    exact hq r _ ((w'.ren (moveT τ [j + 1])).ren (moveT (τ + 1) [τ])) v' (nf_of q) (b1.trans en (Nat.le_refl _)) r3.mvT
  · exact k τ w σ ρ E Q Qv hn st hr hq hx
theorem fe_hide {X : Cx} {W : WX} {e : Expr} (j : Nat) {re : RE} (h : FE X W e re) : FE X W e (rHide j re) := by
  obtain ⟨t, p, k⟩ := h.ex
  exact ⟨t, p, se_hide j k⟩
end FL
namespace FL
open PySem PySem.Spec PyProof.Rows L2 RT
/-- what stands at a place, not owned -/
def rRdP (rp : RPl) : RE := fun ρ E Q => rp ρ E fun i p ρ1 => match ρ1[i]? with
  | some (some d0) => pick (d0.atS p) fun d => Q d ρ1
  | _ => False
def rpDk (rp : RPl) (rk : RE) : RPl := fun ρ E Q => rp ρ E fun i p ρ1 => match ρ1[i]? with
  | some (some d0) => rk (ρ1.set i none) (heldE i d0 E) fun dk ρ2 => match d0.atS p with
    | some (.dct _ t ks ds) => keyOk t dk = true ∧ natAt (kIdx t ks dk) fun j => nf (ρ2.set i (some d0)) (Q i (p ++ [j]))
    | _ => False
  | _ => False
section
variable {X : Cx} {W : WX} {M : List Nat} {pos pos' p2 tpos : Pos}
theorem fe_rdP {e : Expr} {rp : RPl} (h : FPl X W e rp) : FE X W e (rRdP rp) := by
  obtain ⟨t, p, l⟩ := h.ex
  refine ⟨t, p, fun τ w σ ρ E Q Qv hn st h hq hx => ?_⟩
  refine l τ w σ ρ E _ _ hn st h (fun i q ρ1 w1 d0 dn v0 v h1 e1 hi ha hv at0 => ?_) hx
  simp only [hi] at h1
  obtain ⟨d, ed, ho, h1⟩ := pick_elim h1
  rw [ha] at ed
  cases ed
  obtain ⟨v0', ev', r0⟩ := e1.st.rep i d0 hi
  rw [hv] at ev'; cases ev'
  exact hq dn ρ1 w1 v h1 e1 ((at0.rep r0).free (Same.refl _) dn ho)
theorem fp_dk {e k : Expr} {rp : RPl} {rk : RE} (he : FPl X W e rp) (hk : FE X W k rk) (hu : X.A.units + 1 < cLine) (hs : PlainIx k := by exact fun _ _ => rfl) : FPl X W (.Subscript e k pos) (rpDk rp rk) := by
  obtain ⟨t, q, l⟩ := he.ex
  obtain ⟨t', q', l'⟩ := hk.ex
  refine ⟨_, pe_ix (ix_dict hu) q q' hs, fun τ w σ ρ E Q Qv hn st h hq hx => ?_⟩
  refine l τ w σ ρ E _ _ hn st h (fun i p ρ1 w1 d0 dn v0 v h1 e1 hi ha hv at0 => ?_) hx
  have hn1 : ρ1.length < τ := by rw [e1.len]; exact hn
  obtain ⟨s1, back⟩ := hold e1.st hi hv at0 hn1
  have hx1 : SX X.K W τ w1 σ ρ1 E := hx.then e1 (Nat.le_refl _)
  simp only [hi] at h1
  refine l' (τ + 1) (w1.ren (moveT (i + 1) [τ])) σ (ρ1.set i none) _ _ _ (by rw [List.length_set]; omega) s1 h1 (fun dk ρ2 w2 vk h2 e2 r2 => ?_) (held_sx hx1 fun ρ' w' en => (back ρ' w' en).1)
  obtain ⟨b1, b2, b3⟩ := back ρ2 w2 e2
  simp only [ha] at h2
  cases dn with
  | dct o tt ks ds =>
    obtain ⟨hko, h2⟩ := h2
    obtain ⟨j, ej, h2⟩ := natAt_elim h2
    have hl2 : ρ2.length = ρ1.length := by rw [e2.len, List.length_set]
    have hin := (List.getElem?_eq_some_iff.mp hi).1
    have hi2 : (ρ2.set i (some d0))[i]? = some (some d0) := List.getElem?_set_self (by omega)
    obtain ⟨v0', ev', r0⟩ := b1.st.rep i d0 hi2
    rw [hv] at ev'; cases ev'
    have rn := b2.rep r0
    have rk' := b3 dk vk (τ + 1) [] (by omega) r2
    rw [rep_inner rfl] at rn
    obtain ⟨a, vs, rfl, nd, sz, rl⟩ := rn
    have hjl : j < ds.length := by
      unfold kIdx at ej
      obtain ⟨hjl, _⟩ := List.findIdx?_eq_some_iff_getElem.mp ej
      have h1 : ks.length = vs.length := sz.1
      have h2 : vs.length = ds.length := rl.length
      omega
    obtain ⟨c, hc⟩ : ∃ c, ds[j]? = some c := ⟨_, List.getElem?_eq_getElem hjl⟩
    obtain ⟨x, ex, rx⟩ := rl.get (show (D.dct o tt ks ds).kids[j]? = some c from hc)
    have hrd : Rd (w2.ren (moveT τ [i + 1])).H a (dHO tt ks vs) := by
      simp only [Nd] at nd
      cases qo : o.mine with
      | true => rw [qo] at nd; exact .inl nd.2
      | false => rw [qo] at nd; exact rd_same b1.st.wf.sh nd
    have dg := DGet.of (K := X.K) b1.st.wf hrd sz.1 hko rk' (fun e => by subst e; exact rep_tkey b1.st.wf rk' hko)
    rw [ej] at dg
    have dg : DGet (w2.ren (moveT τ [i + 1])).H a vk (some x) := by
      have : (some j).bind (fun i => vs[i]?) = some x := ex
      rw [this] at dg; exact dg
    have a3 : AtV X.K (w2.ren (moveT τ [i + 1])) d0 [i + 1] v0 (p ++ [j]) c x := b2.snoc (.down rfl nd rl.length hc ex .here)
    exact ⟨a, x, rfl, dg, hq i (p ++ [j]) (ρ2.set i (some d0)) (w2.ren (moveT τ [i + 1])) d0 c v0 x (nf_of h2) (e1.trans b1 (Nat.le_refl _)) hi2 (atS_snoc ha (by simp only [D.atS]; rw [hc])) hv a3⟩
  | _ => exact h2.elim
end
end FL
namespace FL
open PySem PySem.Spec PyProof.Rows L2 RT
end FL
namespace FL
open PySem PySem.Spec PyProof.Rows L2 RT
end FL
namespace FL
open PySem PySem.Spec PyProof.Rows L2 RT
end FL
namespace FL
open PySem PySem.Spec PyProof.Rows L2 RT
end FL
namespace FL
open PySem PySem.Spec PyProof.Rows L2 RT
end FL
namespace FL
open PySem PySem.Spec PyProof.Rows L2 RT
end FL
namespace FL
open PySem PySem.Calls PySem.Spec PyProof.Rows L2 RT
end FL
namespace FL
open PySem PySem.Spec PyProof.Rows L2
section
variable {X : Cx} {W : WX} {M : List Nat} {pos px py pt pt2 : Pos}
theorem fs_parC (i j : Nat) (bs : List Bool) {x y : Str} {a b : Expr} {ra : RA} {kt k2 : Nat} (ha : FA X W [a, b] ra) (hN : X.N.Nodup) (hb : bs.length = 2 := by rfl) (hi : X.N[i]? = some x := by rfl) (hj : X.N[j]? = some y := by rfl) (hij : i ≠ j := by decide)
    (hx : L2.Loc X.env.scope x := by first | exact .inl rfl | exact .inr rfl) (hy : L2.Loc X.env.scope y := by first | exact .inl rfl | exact .inr rfl)
    (hfx : X.fn x = true ∨ X.env.scope.names.lookup x = some .local := by first | exact .inl rfl | exact .inr rfl) (hfy : X.fn y = true ∨ X.env.scope.names.lookup y = some .local := by first | exact .inl rfl | exact .inr rfl)
    (hMi : ([i, j].all fun i => !M.contains i) = true := by rfl) (hc : X.calm = true := by rfl)
    (hw : swappedStores [.Tuple [.Name x px, .Name y py] kt pt] (.Tuple [a, b] k2 pt2) X.env = pure none := by rfl)
    (hs : swapsWithSole [.Tuple [.Name x px, .Name y py] kt pt] (.Tuple [a, b] k2 pt2) pos.line X.env = pure false := by rfl)
    (h1 : (assignEach [.Tuple [.Name x px, .Name y py] kt pt] X.env).map (·.2) = [assign (.Tuple [.Name x px, .Name y py] kt pt) X.env] := by rfl)
    (hn : (assignEach [.Name x px, .Name y py] X.env).length = 2 := by rfl) (hst : (assignEach [.Name x px, .Name y py] X.env).findIdx? (·.1) = none := by rfl)
    (hs1 : (assignEach [.Name x px, .Name y py] X.env).map (·.2) = assign (.Name x px) X.env :: (assignEach [.Name y py] X.env).map (·.2) := by rfl)
    (hs2 : (assignEach [.Name y py] X.env).map (·.2) = assign (.Name y py) X.env :: (assignEach [] X.env).map (·.2) := by rfl) :
    FS X W M (.Assign [.Tuple [.Name x px, .Name y py] kt pt] (.Tuple [a, b] k2 pt2) pos) (rParN [i, j] bs ra) := by
  obtain ⟨t, p, s⟩ := ha.ex
  refine ⟨_, ps_asg (pe_tup p) (pg_tup hc (pgs_cons (pg_name hN hi hx hfx) (pgs_cons (pg_name hN hj hy hfy) pgs_nil hs2) hs1) hn hst) hs hw h1, fun w σ ρ E F D st h hf => ?_⟩
  refine s _ w σ ρ E _ _ (Nat.lt_succ_self _) st h (fun ads ρ1 w1 vs h1 l1 e1 r1 => ?_) hf.sx
  obtain ⟨ds, ev, q⟩ := onVals_elim h1
  obtain ⟨l2, l3, g⟩ := vals_at r1 ev
  have hr : ([i, j].all fun i => (ρ1[i]?).isSome) = true := by
    cases e : [i, j].all fun i => (ρ1[i]?).isSome with
    | true => rfl
    | false => rw [e] at q; exact q.elim
  rw [hr] at q
  have k1 : ds.length = 2 := by rw [l3, l1]; rfl
  match ds, vs, k1, l2, q, l3, g with
  | [d, e], [v, u], k1, l2, q, l3, g =>
    refine ⟨by rw [sizeLine_eq]; show 2 ≤ _; decide, fun a n => ⟨a, [v, u], rfl, SqT.of (upd_same), rfl, v, [u], rfl, u, [], rfl, rfl, ?_⟩⟩
    have es := EndE.shr (τ := ρ.length + 1) e1.st n (o := HO.tup [v, u])
    obtain ⟨w2, e0, e2⟩ := parN_end (M := M) (X := X) (bs := bs) (is := [i, j]) (ds := [d, e]) (vs := [v, u]) es.st (by simp [hij]) rfl hb rfl (all_lt hr) (fun k hk => by
        have := List.all_eq_true.mp hMi k hk
        simpa using this) (fun k d' v' h1 h2 => by
          have := g k d' v' h1 h2
          rw [← e1.len] at this
          exact Rep.to (shr_same e1.st.wf n) d' (shr_kept e1.st.wf n) this)
    have e3 : w2.H = upd w1.H a (.tup [v, u]) := e0
    rw [← e3]
    exact hf.nx _ w2 _ (nf_of q) (((e1.trans es (Nat.le_refl _)).s (Nat.lt_succ_self _)).trans e2)
end
end FL
namespace FL
open PySem PySem.Spec PyProof.Rows L2
/-- what is asked of T -/
structure InT0 (K : PySem.W.Frag) (T : Addr) : Prop where
  rd : PySem.W.readsIn K T (.type "type") = true
  fc : PySem.W.findCls K (.ref T) (.type "type") "__init__" = some (.val (.builtin "ValueError.__init__"))
  sp : PySem.W.specialIn K (.ref T) "__getattribute__" = some (some (.builtin "type.__getattribute__"))
section
variable {X : Cx} {T : Addr} {x : Str} {e : Expr} {es : List Expr} {ta : TA} {p1 p2 pos : Pos}
theorem pe_tinit (hT : InT0 X.K T) (hm : X.mg x = some (.ref T)) (ha : PA X (e :: es) ta) (hg : Gl X x := by rfl) (hdb : (x == ("__debug__" : Str)) = false := by decide) {pl : Sem Bool}
    (hc : eval (.Call (.Attribute (.Name x p1) "__init__" p2) (e :: es) [] pos) X.env = (do
      let cl ← eval (.Name x p1) X.env
      standAt p2.atName
      let (g, fst) ← holding [cl] (getMethod cl "__init__" pl)
      callWith pos g fst (backTo pos (starEach (e :: es) X.env)) (backToKw pos (keywordEach [] X.env))) := by rfl)
    (h1 : starEach (e :: es) X.env = (false, eval e X.env) :: starEach es X.env := by rfl) (h2 : (backTo pos (starEach es X.env)).any (·.1) = false := by rfl) :
    PE X (.Call (.Attribute (.Name x p1) "__init__" p2) (e :: es) [] pos) (tVeI X.K ta) := by
  constructor
  intro pins s σ H Q I h
  refine PySem.W.methodCall_KW (ld_glob I hg hm ?_ hdb) hc
  refine PySem.W.method_cls I.kIn hT.sp (PySem.W.cls_value I.kIn hT.rd hT.fc (by decide +kernel) ?_)
  refine PyProof.Rows.callWith_method1 (thn (ha.run pos pins _ σ H _ (I.tok _) h) ?_) h1 h2
  rintro us s1 ⟨vs, H1, I1, r1, a, C, ws, rfl, hl, hC, ea, q⟩
  cases r1 with
  | @cons _ u0 _ ur ra rr =>
    cases (show u0 = Value.ref a from ra)
    have hz : ur.length ≤ sizeLine := by
      have := Paired.length rr
      rw [sizeLine_eq]
      omega
    exact oinit_ok hC I1 ea hz fun s2 J => ⟨.non, H1, J, rfl, q⟩
end
/-- what C.__init__(self, f) does with an exception that is being made at its first argument -/
def spI (C : Addr) (f : Str) : Sp := fun vs H Q _ => ∃ (a : Addr) (v : V), vs = [.ref a, v] ∧ H a = some (exo a C none) ∧ ∀ dx, H dx = none → dx ≠ a → Q .non (upd (upd H dx (exd dx [(f, v)])) a (exo a C (some dx)))
/-- what is asked of C -/
structure EI (K : PySem.W.Frag) (C fI : Addr) (f : Str) : Prop where
  ox : OexC K C
  nf : PySem.W.findIn K (.ref C) f = some none
  ii : PySem.W.findIn K (.ref C) "__init__" = some (some (.ref fI))
  ti : PySem.W.typeIn K (.ref fI) = some (.type "function")
/-- what is asked of C where its instances are looked at -/
structure EK (K : PySem.W.Frag) (C : Addr) (f : Str) : Prop where
  nf : PySem.W.findIn K (.ref C) f = some none
  xf : XfC K C
  ex : ExcC K C
theorem fn_ty {K : PySem.W.Frag} {v : Value} (h : PySem.W.isFn K v = true) : PySem.W.typeIn K v = some (.type "function") := beq_iff_eq.mp h
section
variable {P : Program} {w : World} {K : PySem.W.Frag} {mg : Str → Option Value} {base : Heap}
theorem exi_fn {qual m fx : Str} {st : Stmt} {fI C : Addr} {fd : FuncData} {k : Nat} (F : Fun K "__init__" qual st fI fd) (S : FnScope ["self", fx] ["self", fx] (defScope st))
    (hC : EI K C fI fx)
    (hr : ∀ (cdv : Value) (A : Around) (outer : List Env) (s : Shared) (H : Hp) (E : XK), (fun X : Cx => PSs X (defBody st) (tSeq (tDrop (tVeI X.K (tCons (tVar 0) (tCons (tC (.str m)) tNil)))) (tOst X.K fx (tVar 0) (tVar 1)))) (cxOf (L2.CX P w) P w K mg base ["self", fx] qual (defScope st) fI cdv A outer s H E)) :
    FnOk P w K mg base (L2.CX P w) (k + 1) fI fd ["self", fx] (spI C fx) := by
  refine F.okX S (fun vs H Q E h => ?_) fun cdv A outer s H vs Q E hroom h => ?_
  · obtain ⟨a, v, rfl, _⟩ := h
    rfl
  · obtain ⟨a, v, rfl, ha, q⟩ := h
    refine ⟨_, hr cdv A outer s H E, ?_⟩
    refine ⟨.ref a, rfl, a, C, [.str m], rfl, by show 1 ≤ 1000; decide, hC.ox, ha, ?_⟩
    refine ⟨v, rfl, .ref a, rfl, a, C, rfl, hC.ox, hC.nf, .inl ⟨ha, fun dx n ne => q dx n ne⟩⟩
end
def rRaiseF (C : Addr) (f : Str) (re : RE) : RS := fun ρ E _ => re ρ E fun d ρ1 => d.own = false ∧ E (.ref C) (some [(f, d)]) ρ1
theorem passes_none {X : Cx} : Passes (L2.CX X.prog X.w) X (fun _ _ _ => False) := fun _ _ _ _ _ _ _ h => by
  obtain ⟨_, _, _, _, _, _, _, _, _, _, _, _, z⟩ := h
  exact z.elim
theorem hp_made {H : Hp} {a dx : Addr} {o1 o2 o3 o4 : HO} (na : H a = none) (h : dx ≠ a) : upd (del (upd (upd (upd H a o1) dx o2) a o3) a) dx o4 = upd H dx o4 := by
  funext b
  by_cases hb : b = dx
  · rw [hb, upd_same, upd_same]
  · rw [upd_ne hb, upd_ne hb]
    by_cases hc : b = a
    · rw [hc, del_same, na]
    · rw [del_ne hc, upd_ne hc, upd_ne hb, upd_ne hc]
section
variable {X : Cx} {W : WX} {M : List Nat} {C fI : Addr} {f : Str}
theorem fs_raiseF {x : Str} {e : Expr} {re : RE} {k : Nat} {fd : FuncData} {ps : List Str} {p pos pos' : Pos} (tk : Takes X W) (hC : EI X.K C fI f) (F1 : FnOk X.prog X.w X.K X.mg X.base (L2.CX X.prog X.w) k fI fd ps (spI C f)) (hr : Room (k + 1) X.A) (hb : Binds X.K fd ps [])
    (g : X.mg x = some (.ref C)) (he : FE X W e re) (hg : Gl X x := by rfl) (hdb : (x == ("__debug__" : Str)) = false := by decide) (hc : X.calm = true := by rfl)
    (h1 : starEach [e] X.env = (false, eval e X.env) :: starEach [] X.env := by rfl) (h2 : (backTo pos (starEach [] X.env)).any (·.1) = false := by rfl) :
    FS X W M (.Raise (some (.Call (.Name x p) [e] [] pos)) none pos') (rRaiseF C f re) := by
  obtain ⟨t, pe, ke⟩ := he.ex
  refine ⟨_, ps_raise hc tk (pmk_oex hC.ox hC.ii hC.ti F1 hr hb (ds := []) .nil passes_none hg g (pa_cons pe pa_nil h1) hdb h1 h2), fun w σ ρ E F Z st h hf => ?_⟩
  refine ke _ w σ ρ E _ _ (Nat.lt_succ_self _) st h (fun d ρ1 w1 v h e1 r1 => ?_) hf.sx
  obtain ⟨ho, hE⟩ := h
  refine ⟨by show 1 ≤ 1000; decide, fun a na => ⟨a, v, rfl, upd_same, fun dx ndx ne => ⟨rfl, dx, [(f, v)], upd_same, ?_, ?_, ?_⟩⟩⟩
  · rw [upd_ne ne, upd_same]
  · rw [upd_ne ne] at ndx
    exact ndx
  · rw [upd_ne ne] at ndx
    rw [hp_made na ne]
    have e2 := EndE.shr (τ := ρ.length + 1) e1.st ndx (o := HO.xd [(f, v)])
    refine hf.ex _ _ _ (w1.shr dx (.xd [(f, v)])) σ (some dx) hE (((e1.trans e2 (Nat.le_refl _)).s (Nat.lt_succ_self _))) ⟨[v], ?_, rfl, ?_, ?_⟩
    · show upd w1.S dx _ dx = _
      rw [upd_same]; rfl
    · show (d.own || false) = false
      rw [ho]; rfl
    · refine ⟨v, [], rfl, Rep.free (w := w1) (shr_same e1.st.wf ndx) d ho r1, rfl⟩
end
end FL
namespace FL
open PySem PySem.Spec PyProof.Rows L2
/-- at a: an exception of the class cls, its fields at d -/
def exk (a : Addr) (cls : Value) (d : Option Addr) : HO := .ext fun h => ∃ oe vs, h.get? a = some oe ∧ Zc cls d oe ∧ oe.data = .fields vs
theorem exk_ok {P : Program} {w : World} {H : Hp} {h : Heap} {a : Addr} {cls : Value} {d : Option Addr} {oe : Obj} {vs : Array Value} (h1 : h.get? a = some oe) (h2 : Zc cls d oe) (h3 : oe.data = .fields vs) : ObjOk P w H h a (exk a cls d) :=
  ⟨⟨oe, vs, h1, h2, h3⟩, ⟨oe, h1⟩, fun g1 g2 z k => by
    obtain ⟨o, v, z1, z2, z3⟩ := z
    exact ⟨o, v, k o z1, z2, z3⟩⟩
theorem exk_at {P : Program} {w : World} {H : Hp} {h : Heap} {a : Addr} {cls : Value} {d : Option Addr} (hok : HOk P w H h) (e : H a = some (exk a cls d)) : ∃ oe vs, h.get? a = some oe ∧ Zc cls d oe ∧ oe.data = .fields vs := by
  have z : ObjOk P w H h a (.ext fun h => ∃ oe vs, h.get? a = some oe ∧ Zc cls d oe ∧ oe.data = .fields vs) := hok a _ e
  exact z.1
/-- what nobody knew is taken up -/
theorem adopt {X : Cx} {pins : List (Addr × Obj)} {σ : L2.St} {H : Hp} {s : Shared} (I : Inv X pins σ H s) {a : Addr} {oe : Obj} {vs : Array Value} {cls : Value} {d : Option Addr} (h1 : s.heap.get? a = some oe) (h2 : Zc cls d oe) (h3 : oe.data = .fields vs)
    (na : H a = none) (nL : a ≠ X.env.locals) (n0 : ∀ o, X.s_0.heap.get? a = some o → a ∈ X.ex) (np : ∀ p ∈ X.pn ++ pins, p.1 ≠ a) : Inv X pins σ (upd H a (exk a cls d)) s := by
  have ne : ∀ {b : Addr} {o : HO}, H b = some o → b ≠ a := fun {b o} z e => by rw [e, na] at z; cases z
  refine ⟨I.ok, I.os, I.bare, ⟨I.base.keep, I.base.slot, fun b o z n hx => ?_, I.base.there, fun b xs z => ?_, fun b o u z => ?_, fun b ps z => ?_⟩, I.loc, I.cell, ?_, fun x c z => ?_, fun p hp => ?_, fun b o z => ?_, I.len⟩
  · have hb : b ≠ a := fun e => by subst e; exact hx (n0 o z)
    rw [upd_ne hb]
    exact I.base.free b o z n hx
  · have q := I.base.tups b xs z
    rw [upd_ne (ne q)]; exact q
  · have q := I.base.frzs b o u z
    rw [upd_ne (ne q)]; exact q
  · obtain ⟨more, q⟩ := I.base.tbls b ps z
    exact ⟨more, by rw [upd_ne (ne q)]; exact q⟩
  · rw [upd_ne nL.symm]; exact I.free
  · obtain ⟨v, q⟩ := I.cell x c z
    have hc : c ≠ a := fun e => by
      subst e
      obtain ⟨o, q1, q2⟩ := q
      rw [h1] at q1
      cases q1
      rw [h3] at q2
      cases q2
    rw [upd_ne hc]; exact I.freeC x c z
  · obtain ⟨q1, q2, q3⟩ := I.pin p hp
    exact ⟨q1, by rw [upd_ne (np p hp)]; exact q2, q3⟩
  · by_cases hb : b = a
    · subst hb
      rw [upd_same] at z
      cases z
      exact exk_ok h1 h2 h3
    · rw [upd_ne hb] at z
      exact (I.hok b o z).stay (fun c v _ q => q) (fun c q => by rw [upd_ne (ne q)]; exact q) fun c xs q => by rw [upd_ne (ne q)]; exact q
/-- what 'except T as e: y = e' wishes of an exception of the body: it stands at slot j behind it, slot i (e's) is gone -/
def wKp (K : PySem.W.Frag) (c : Value) (i j : Nat) (Z : Ends) : WX := fun cls d τ G => PySem.W.exmOne K cls c = some true ∧ ∀ a, G a = none → Z.nx (((τ.set i (some (.ref a))).set j (some (.ref a))).set i none) (upd G a (exk a cls d))
section
variable {X : Cx} {x n y : Str} {cT : Addr} {i j : Nat} {body : List Stmt} {np pos pos' p1 p2 p3 : Pos} {tb : WX → TS}
theorem ps_try_keep (hst : X.stack = X.env :: X.outer) (hfr : X.env.frame = some X.env.locals) (nd : X.N.Nodup) (hi : X.N[i]? = some n) (kn : X.env.kindOf n = some .local) (hT : Names X x (.ref cT))
    (hB : ∀ (W' : WX) (pn : List (Addr × Obj)) (xe : Value → Shared → Prop), Takes (X.tr pn xe) W' → PassesOwn (model X.prog X.w) X.A X.env xe → PSs (X.tr pn xe) body (tb W'))
    (hK : ∀ (a : Addr) (pn : List (Addr × Obj)), PSs (X.suite a pn) [.Assign [.Name y p1] (.Name n p2) p3] (tAsg (tVar i) (gName j))) (hil : i < X.N.length) :
    PS X (.Try body [.ExceptHandler (some (.Name x np)) (some n) [.Assign [.Name y p1] (.Name n p2) p3] pos'] [] [] pos) (fun Z τ G => tb (wKp X.K (.ref cT) i j Z) Z τ G) := by
  constructor
  intro pins s τ G Z I h
  have ok := I.ok
  have frs1 : X.A.frames = some (X.env :: X.outer) := ok.frames.trans (congrArg some hst)
  have ln : L2.Loc X.env.scope n := .inl kn
  refine wpAny_Try_except ?_
  refine wpAny_mono ((hB (wKp X.K (.ref cT) i j Z) (X.pn ++ pins) (fun er q1 => wpAny (model X.prog X.w) X.A (noteFrame er X.env) (fun _ q2 => wpAny (model X.prog X.w) X.A (setFlight er none) (fun _ q3 =>
    wpAny (model X.prog X.w) X.A (handleBy er X.env [.ExceptHandler (some (.Name x np)) (some n) [.Assign [.Name y p1] (.Name n p2) p3] pos']) (L2.SP X pins Z) X.xe q3) X.xe q2) X.xe q1) (fun er q1 air => ?_) PassesOwn.looking).run [] s τ G Z (I.toTry _) h) (fun fl q1 hq => ?_) (fun er q1 z => z)
  · obtain ⟨a, B, s0, pn0, τ0, G0, cls, d, rfl, J0, gr, up0, sk, na, os0, ab, em, hgo⟩ := air
    have J1 : Inv X pins τ0 G0 s0 := J0.ofTry ok
    rw [show (X.tr (X.pn ++ pins) _).stack = X.env :: X.outer from hst] at sk
    show wpAny (model X.prog X.w) X.A (noteFrame (.ref a) X.env) _ _ _
    refine Sky.land Zc.steady frs1 hfr sk fun h1 f1 up1 => ?_
    have I1 : Inv X pins τ0 G0 { q1 with heap := h1 } := J1.landed gr f1.1 (up0.trans up1) os0 ab
    -- a is none of the frames, and was nowhere before
    have off : ∀ {g : Heap} {o : Obj} {vs : Array Value}, g.FunFrames B (X.env :: X.outer) → g.get? a = some o → o.data = .fields vs → a ∉ frs (X.env :: X.outer) := fun {g o vs} ff e1 e2 hm => by
      obtain ⟨_, o2, e3, no⟩ := ff.mem hm
      cases e1.symm.trans e3
      exact no _ e2
    obtain ⟨oe1, vs1, g1, z1, t1⟩ := f1.there
    have o1 := off f1.2.2.1 g1 t1
    have aL : a ≠ X.env.locals := fun e => o1 (List.mem_filterMap.mpr ⟨X.env, List.mem_cons_self, by rw [hfr, e]⟩)
    have aF : a ∉ X.fs := fun hm => by
      obtain ⟨ev, k1, k2⟩ := List.mem_filterMap.mp hm
      exact o1 (List.mem_filterMap.mpr ⟨ev, List.mem_cons_of_mem _ k1, k2⟩)
    have new0 : s0.heap.get? a = none := by
      cases e : s0.heap.get? a with
      | none => rfl
      | some o =>
        have := gr a o e (by rw [show X.stack = X.env :: X.outer from hst]; exact o1)
        rw [f1.2.1] at this
        cases this
    have n0 : ∀ o, X.s_0.heap.get? a = some o → a ∈ X.ex := fun o e => Classical.byContradiction fun hx => by
      obtain ⟨o2, e2⟩ := J1.base.there a o e hx
      rw [new0] at e2
      cases e2
    have apart : ∀ p ∈ X.pn ++ pins, p.1 ≠ a := fun p hp e => by
      have e2 := (J1.pin p hp).1
      rw [e, new0] at e2
      cases e2
    have S1 := I1.suite g1 t1 na aL aF
    refine wpAny_handleBy_cons (codeAny_handlers_test ?_) (by intro q; cases q)
    have look : PySem.W.Looks (model X.prog X.w) h1 (typeOf (.ref a)) cls := fun _ _ _ _ kp q => wpAny_typeOf_ref (kp _ _ g1) (by rw [z1.1]; exact q)
    have asked := PySem.W.exm_one (M := model X.prog X.w) I1.kIn look em
    have named : ∀ {Q E : Value → Shared → Prop}, Q (.ref cT) { q1 with heap := h1 } → wpAny (model X.prog X.w) (X.A.mark (some (.ref a))) (eval (.Name x np) X.env) Q E { q1 with heap := h1 } := fun {Q E} q => by
      obtain ⟨k1, k2, k3 | ⟨k3, k4, k5⟩⟩ := hT
      · exact ld_glob (X := X.suite a ((a, oe1) :: (X.pn ++ pins))) S1 k1 k3 q k2
      · exact ld_blt (X := X.suite a ((a, oe1) :: (X.pn ++ pins))) S1 k1 k3 k4 q k5 k2
    refine named (asked.here (codeAny_handlers_suite_as ?_))
    refine HandSPX.lands_againZ f1 fun h2 f2 up2 => ?_
    obtain ⟨oe2, vs2, g2, z2, t2⟩ := f2.there
    have I2 : Inv X pins τ0 G0 { q1 with heap := h2 } := J1.landed gr f2.1 ((up0.trans up1).trans up2) os0 ab
    have S2 := I2.suite g2 t2 na aL aF
    refine store_ok (X := X.suite a ((a, oe2) :: (X.pn ++ pins))) (v := .ref a) S2 nd hi ln rfl (fun q3 S3 => ?_) (.inr kn)
    have hl : i < τ0.length := by rw [I2.len]; exact hil
    refine wpAny_mono ((hK a ((a, oe2) :: (X.pn ++ pins))).run [] q3 _ G0 { nx := fun τ' G' => τ' = (τ0.set i (some (.ref a))).set j (some (.ref a)) ∧ G' = G0, rt := fun _ _ => False } S3 ⟨.ref a, by rw [List.getElem?_set_self hl], rfl, rfl⟩) (fun fl q4 hq => ?_) (fun _ _ z => False.elim z)
    cases fl with
    | next =>
      obtain ⟨τ4, G4, S4, rfl, rfl⟩ := hq
      refine gone_ok (X := X.suite a ((a, oe2) :: (X.pn ++ pins))) S4 nd hi kn fun q5 S5 => ?_
      obtain ⟨k1, _⟩ := S5.pin (a, oe2) (List.mem_append_left _ List.mem_cons_self)
      exact ⟨_, _, adopt (S5.unsuite ok) k1 z2 t2 na aL n0 apart, hgo a na⟩
    | ret u =>
      obtain ⟨_, _, _, _, _, z⟩ := hq
      exact z.elim
    | brk =>
      obtain ⟨_, _, _, z⟩ := hq
      exact z.elim
    | cont =>
      obtain ⟨_, _, _, z⟩ := hq
      exact z.elim
  · cases fl with
    | next =>
      obtain ⟨τ1, G1, J1, w1⟩ := hq
      exact wpAny_execs_nil ⟨τ1, G1, J1.ofTry ok, w1⟩
    | ret u =>
      obtain ⟨v1, τ1, G1, J1, r1, w1⟩ := hq
      exact ⟨v1, τ1, G1, J1.ofTry ok, r1, w1⟩
    | brk =>
      obtain ⟨τ1, G1, J1, w1⟩ := hq
      exact ⟨τ1, G1, J1.ofTry ok, w1⟩
    | cont =>
      obtain ⟨τ1, G1, J1, w1⟩ := hq
      exact ⟨τ1, G1, J1.ofTry ok, w1⟩
end
end FL
namespace FL
open PySem PySem.Spec PyProof.Rows L2
/-- slot j holds an exception of class C with these fields -/
def KpE (C : Addr) (j : Nat) (fs : List (Str × V)) (σ : L2.St) (H : Hp) : Prop := ∃ a dd : Addr, σ[j]? = some (some (.ref a)) ∧ H a = some (exk a (.ref C) (some dd)) ∧ H dd = some (.xd fs)
theorem kp_inst {X : Cx} {pins : List (Addr × Obj)} {σ : L2.St} {H : Hp} {s : Shared} (I : Inv X pins σ H s) {a C dd : Addr} {fs : List (Str × V)} (h1 : H a = some (exk a (.ref C) (some dd))) (h2 : H dd = some (.xd fs)) :
    ∃ (oe od : Obj) (mA : Str → Option Value), PySem.W.InstAt s.heap a oe C (some od) ∧ s.heap.Ns1 dd mA ∧ s.heap.get? dd = some od ∧ ∀ f, RelO (fs.lookup f) (mA f) := by
  obtain ⟨oe, vs, g1, z, g2⟩ := exk_at I.hok h1
  obtain ⟨mA, hns, rel⟩ := (show ObjOk X.prog X.w H s.heap dd (.xd fs) from I.hok dd _ h2)
  obtain ⟨od, ho, hl⟩ := lookIn_ns hns
  exact ⟨oe, od, mA, ⟨g1, z.1, by unfold PySem.W.notCls; rw [g2] <;> rfl, by rw [z.2]; exact ho⟩, hns, ho, rel⟩
theorem kit_kp {K : PySem.W.Frag} {a C : Addr} {oe : Obj} {od : Option Obj} (hC : ExcC K C) : PySem.W.KitX K (.ref a) (.ref C) (fun h => PySem.W.InstAt h a oe C od) :=
  PySem.W.kitx_exc (by obtain ⟨cd, hc, _⟩ := PySem.W.any_some hC.hd; rw [hc]; rfl) hC.hg hC.hk hC.hs hC.ha hC.hn hC.ht hC.hm
/-- isinstance(e, c) -/
def rKi (K : PySem.W.Frag) : List V → Hp → VK → Prop := fun xs H Q => ∃ (a C dd : Addr) (fs : List (Str × V)) (c : V) (cv : Value) (b : Bool), xs = [.ref a, c] ∧ H a = some (exk a (.ref C) (some dd)) ∧ H dd = some (.xd fs) ∧ ExcC K C ∧ (∀ u, RelV c u → u = cv) ∧ PySem.W.kitOne K (.ref C) cv = some b ∧ Q (.bl b) H
theorem call_ki {X : Cx} : CallR X (.builtin "isinstance") (rKi X.K) := by
  intro pins s σ H xs us Q I r h
  obtain ⟨a, C, dd, fs, c, cv, b, rfl, h1, h2, hC, hcv, e, q⟩ := h
  obtain ⟨u1, u2, rfl, r1, r2⟩ := vals2 r
  cases (show u1 = Value.ref a from r1)
  cases hcv _ r2
  obtain ⟨oe, od, mA, J, _⟩ := kp_inst I h1 h2
  exact PySem.W.kia_one (kit_kp hC) I.kIn J e (fun z => nomatch z) fun tk => ⟨.bl b, H, I.kept (t' := tk) fun _ _ z => z, rfl, q⟩
/-- isinstance(e, (C1, C2, ..)) -/
def rKiT (K : PySem.W.Frag) : List V → Hp → VK → Prop := fun xs H Q => ∃ (a C dd tp : Addr) (fs : List (Str × V)) (cs : List Addr) (b : Bool), xs = [.ref a, .ref tp] ∧ H a = some (exk a (.ref C) (some dd)) ∧ H dd = some (.xd fs) ∧ ExcC K C ∧ H tp = some (.tup (cs.map V.ref)) ∧ PySem.W.kitAny K (.ref C) (cs.map Value.ref) = some b ∧ Q (.bl b) H
theorem call_kiT {X : Cx} : CallR X (.builtin "isinstance") (rKiT X.K) := by
  intro pins s σ H xs us Q I r h
  obtain ⟨a, C, dd, tp, fs, cs, b, rfl, h1, h2, hC, hT, e, q⟩ := h
  obtain ⟨u1, u2, rfl, r1, r2⟩ := vals2 r
  cases (show u1 = Value.ref a from r1)
  cases (show u2 = Value.ref tp from r2)
  obtain ⟨oe, od, mA, J, _⟩ := kp_inst I h1 h2
  obtain ⟨_, its, rv, o, g1, g2, n, g3⟩ := (show ObjOk X.prog X.w H s.heap tp (.tup (cs.map V.ref)) from I.hok tp _ hT)
  have e3 : its = cs.map Value.ref := refs_at rv
  subst e3
  obtain ⟨oc, od2, dt, sl⟩ := o
  simp only at g2 g3
  subst g2 g3
  exact PySem.W.kia_tup (kit_kp hC) I.kIn J g1 e (fun z => nomatch z) fun tk => ⟨.bl b, H, I.kept (t' := tk) fun _ _ z => z, rfl, q⟩
/-- e.f -/
def tKf (K : PySem.W.Frag) (f : Str) (te : TE) : TE := fun σ H Q => te σ H fun x H1 => ∃ (a C dd : Addr) (fs : List (Str × V)) (v : V), x = .ref a ∧ H1 a = some (exk a (.ref C) (some dd)) ∧ H1 dd = some (.xd fs) ∧ XfC K C ∧ PySem.W.findIn K (.ref C) f = some none ∧ fs.lookup f = some v ∧ Q v H1
theorem pe_kf {X : Cx} {e : Expr} {te : TE} {pos : Pos} {f : Str} (he : PE X e te) (hb : attributeBase e f X.env (eval e X.env) = eval e X.env := by rfl) : PE X (.Attribute e f pos) (tKf X.K f te) := by
  constructor
  intro pins s σ H Q I h
  refine attr_of hb (thn (he.run pins s σ H _ I h) ?_)
  rintro u s1 ⟨x, H1, I1, rx, a, C, dd, fs, v, rfl, h1, h2, T, hno, hl, q⟩
  cases (show u = Value.ref a from rx)
  obtain ⟨oe, od, mA, J, hns, ho, rel⟩ := kp_inst I1 h1 h2
  obtain ⟨od2, ho2, hl2⟩ := lookIn_ns hns
  cases ho.symm.trans ho2
  obtain ⟨u2, hu, ru⟩ := RelO.some_of (v := v) (o := mA f) (by rw [← hl]; exact rel f)
  exact HandSPX.exc_get I1.kIn J T.ga T.gg T.exC (PySem.W.findObj_own T.hdC hno rfl (by rw [hl2, hu])) (handed_of ru) ⟨v, H1, I1.tok _, ru, q⟩
structure KT (X : Cx) (C : Addr) (j : Nat) (e : Expr) (b : Bool) : Prop where
  ex : ∃ t, PT X e t ∧ ∀ (fs : List (Str × V)) (σ : L2.St) (H : Hp) (Q : Bool → Hp → Prop), KpE C j fs σ H → Q b H → (∀ p o, H p = none → Q b (upd H p o)) → t σ H Q
/-- .. and nothing is made -/
structure KT0 (X : Cx) (C : Addr) (j : Nat) (e : Expr) (b : Bool) : Prop where
  ex : ∃ t, PT X e t ∧ ∀ (fs : List (Str × V)) (σ : L2.St) (H : Hp) (Q : Bool → Hp → Prop), KpE C j fs σ H → Q b H → t σ H Q
structure KW (X : Cx) (C : Addr) (j : Nat) (e : Expr) (b : Bool) : Prop where
  ex : ∃ t, PW X e t ∧ ∀ (fs : List (Str × V)) (σ : L2.St) (H : Hp) (Q : Bool → Hp → Prop), KpE C j fs σ H → Q b H → (∀ p o, H p = none → Q b (upd H p o)) → t σ H Q
section
variable {X : Cx} {C : Addr} {j : Nat} {a e : Expr} {rest : List Expr} {b : Bool} {pos p p2 p3 p4 : Pos} {x y : Str}
theorem kt0_not (h : KT0 X C j a b) : KT0 X C j (.UnaryOp .Not a pos) (!b) := by
  obtain ⟨t, q, k⟩ := h.ex
  exact ⟨_, pt_not q, fun fs σ H Q h1 h2 => k fs σ H _ h1 h2⟩
theorem kw_or1 (h : KT X C j a b) : KW X C j (.BoolOp .Or [a] pos) b := by
  obtain ⟨t, q, k⟩ := h.ex
  exact ⟨t, pw_or1 q, k⟩
theorem kw_or {c : Bool} (h : KT0 X C j a false) (g : KW X C j (.BoolOp .Or (e :: rest) pos) c) : KW X C j (.BoolOp .Or (a :: e :: rest) pos) c := by
  obtain ⟨t, q, k⟩ := h.ex
  obtain ⟨t', q', k'⟩ := g.ex
  refine ⟨_, pw_or q q', fun fs σ H Q h1 h2 h3 => ?_⟩
  refine k fs σ H _ h1 ?_
  rw [if_neg Bool.false_ne_true]
  exact k' fs σ H Q h1 h2 h3
theorem KW.kt (h : KW X C j a b) : KT X C j a b := by
  obtain ⟨t, q, k⟩ := h.ex
  exact ⟨t, q.pt, k⟩
theorem kt0_is {cv : Value} {v : V} (hC : ExcC X.K C) (he : PE X e (tC v)) (hv : ∀ u, RelV v u → u = cv) (hk : PySem.W.kitOne X.K (.ref C) cv = some b) (hm : X.mg "isinstance" = none) (hy : X.N[j]? = some y := by rfl) (hvi : Vis X.env.scope y := by first | exact Or.inl rfl | exact Or.inr (Or.inl rfl) | exact Or.inr (Or.inr rfl)) (hd : (y == ("__debug__" : Str)) = false := by decide) (hcd : (y == ("__classdict__" : Str)) = false := by decide)
    (hg : Gl X "isinstance" := by rfl) (hb : bootBuiltins "isinstance" = some (.builtin "isinstance") := by decide +kernel)
    (hs1 : starEach [.Name y p2, e] X.env = (false, eval (.Name y p2) X.env) :: starEach [e] X.env := by rfl) (hs2 : starEach [e] X.env = (false, eval e X.env) :: starEach [] X.env := by rfl) (hpl : (backTo pos (starEach [e] X.env)).any (·.1) = false := by rfl)
    (ht : ∀ whole, isTrue (.Call (.Name "isinstance" p) [.Name y p2, e] [] pos) X.env whole = (do let v ← whole; standAt (Expr.Call (.Name "isinstance" p) [.Name y p2, e] [] pos).pos; holding [v] (truthy v)) := by intro _; rfl) :
    KT0 X C j (.Call (.Name "isinstance" p) [.Name y p2, e] [] pos) b := by
  refine ⟨_, pt_val (pe_callB call_ki hg hm hb (pa_cons (pe_var hy hvi hd hcd) (pa_cons he pa_nil hs2) hs1) (by decide) (by decide) hs1 hpl) ht, fun fs σ H Q ⟨a, dd, h1, h2, h3⟩ q => ?_⟩
  exact ⟨.ref a, h1, a, C, dd, fs, v, cv, b, rfl, h2, h3, hC, hv, hk, b, rfl, q⟩
theorem kt_isT {cs : List Addr} {es : List Expr} {ta : TA} {k : Nat} (hC : ExcC X.K C) (he : PA X es ta) (hta : ∀ σ H Q, Q (cs.map V.ref) H → ta σ H Q) (hl : cs.length ≤ 100) (hk : PySem.W.kitAny X.K (.ref C) (cs.map Value.ref) = some b) (hm : X.mg "isinstance" = none) (hy : X.N[j]? = some y := by rfl) (hvi : Vis X.env.scope y := by first | exact Or.inl rfl | exact Or.inr (Or.inl rfl) | exact Or.inr (Or.inr rfl)) (hd : (y == ("__debug__" : Str)) = false := by decide) (hcd : (y == ("__classdict__" : Str)) = false := by decide)
    (hg : Gl X "isinstance" := by rfl) (hb : bootBuiltins "isinstance" = some (.builtin "isinstance") := by decide +kernel)
    (hs1 : starEach [.Name y p2, .Tuple es k p3] X.env = (false, eval (.Name y p2) X.env) :: starEach [.Tuple es k p3] X.env := by rfl) (hs2 : starEach [.Tuple es k p3] X.env = (false, eval (.Tuple es k p3) X.env) :: starEach [] X.env := by rfl) (hpl : (backTo pos (starEach [.Tuple es k p3] X.env)).any (·.1) = false := by rfl)
    (ht : ∀ whole, isTrue (.Call (.Name "isinstance" p) [.Name y p2, .Tuple es k p3] [] pos) X.env whole = (do let v ← whole; standAt (Expr.Call (.Name "isinstance" p) [.Name y p2, .Tuple es k p3] [] pos).pos; holding [v] (truthy v)) := by intro _; rfl) :
    KT X C j (.Call (.Name "isinstance" p) [.Name y p2, .Tuple es k p3] [] pos) b := by
  refine ⟨_, pt_val (pe_callB call_kiT hg hm hb (pa_cons (pe_var hy hvi hd hcd) (pa_cons (pe_tup he) pa_nil hs2) hs1) (by decide) (by decide) hs1 hpl) ht, fun fs σ H Q ⟨a, dd, h1, h2, h3⟩ _ q => ?_⟩
  refine ⟨.ref a, h1, hta _ _ _ ⟨by rw [List.length_map, sizeLine_eq]; omega, fun tp n => ?_⟩⟩
  have na : a ≠ tp := fun z => by rw [← z, h2] at n; cases n
  have nd : dd ≠ tp := fun z => by rw [← z, h3] at n; cases n
  exact ⟨a, C, dd, tp, fs, cs, b, rfl, by rw [upd_ne na]; exact h2, by rw [upd_ne nd]; exact h3, hC, upd_same, hk, b, rfl, q tp _ n⟩
end
end FL
namespace FL
open PySem PySem.Spec PyProof.Rows L2
/-- c = e, e's name gone -/
def keptN (i j : Nat) (a : Addr) (ρ : En) : En := ((ρ.set i (some (.obj a))).set j (some (.obj a))).set i none
def rRefused (i j : Nat) (C : Addr) (f : Str) (rb : RS) : RS := fun ρ E F => rb ρ (fun c fl ρ' => c = .ref C ∧ j < ρ'.length ∧ ∃ d, fl = some [(f, d)] ∧ ∀ a, nf (keptN i j a ρ') (F.rt d)) { nx := fun ρ' => ρ'[j]? = some (some .non) ∧ F.rt .non ρ', rt := F.rt, bk := F.bk, ct := F.ct }
/-- the name is None: told -/
def rIsN3 (j : Nat) : RS := rIf (rTst (rBin (dIsN0 false) (oV (rVar j)) (oV (rC .non)))) (rRet (rC .non)) rNx
theorem isN3_yes {j : Nat} {ρ : En} {E : EE} {F : Fin} (h : ρ[j]? = some (some .non)) (q : F.rt .non ρ) : rIsN3 j ρ E F := by
  show rVar j ρ E _
  unfold rVar
  rw [h]
  exact ⟨fun _ => q, fun z => nomatch z⟩
theorem isN3_no {j : Nat} {ρ : En} {E : EE} {F : Fin} {a : Addr} (h : ρ[j]? = some (some (.obj a))) (q : F.nx ρ) : rIsN3 j ρ E F := by
  show rVar j ρ E _
  unfold rVar
  rw [h]
  exact ⟨(fun z => nomatch z), fun _ => q⟩
section
variable {X : Cx} {W : WX} {M : List Nat} {C cT : Addr} {i j : Nat} {x n y f : Str} {body b4 : List Stmt} {e4 : Expr} {te4 : TE} {s3 : Stmt} {rb : RS} {np pos pos' p1 p2 p3 p4 p5 p6 p7 p8 : Pos} {test : Expr}
theorem fss_refused (tk : Takes X W) (hC : EK X.K C f) (g : X.mg x = some (.ref cT)) (hm : PySem.W.exmOne X.K (.ref C) (.ref cT) = some true) (nd : X.N.Nodup)
    (hB : ∀ (W' : WX) (pn : List (Addr × Obj)) (xe : Value → Shared → Prop), Takes (X.tr pn xe) W' → PassesOwn (model X.prog X.w) X.A X.env xe → FSs (X.tr pn xe) W' M body rb)
    (hK : ∀ (a : Addr) (pn : List (Addr × Obj)), PSs (X.suite a pn) [.Assign [.Name y p1] (.Name n p2) p3] (tAsg (tVar i) (gName j)))
    (h3 : FS X W M s3 (rIsN3 j)) (h4 : KT X C j test false) (he4 : PE X e4 te4)
    (hi : X.N[i]? = some n := by rfl) (hj : X.N[j]? = some y := by rfl) (hij : i ≠ j := by decide) (hMi : M.contains i = false := by rfl) (hMj : M.contains j = false := by rfl)
    (hst : X.stack = X.env :: X.outer := by rfl) (hfr : X.env.frame = some X.env.locals := by rfl) (kn : X.env.kindOf n = some .local := by rfl) (hg : Gl X x := by rfl) (hdb : (x == ("__debug__" : Str)) = false := by decide)
    (hvi : Vis X.env.scope y := by first | exact Or.inl rfl | exact Or.inr (Or.inl rfl) | exact Or.inr (Or.inr rfl)) (hd : (y == ("__debug__" : Str)) = false := by decide) (hcd : (y == ("__classdict__" : Str)) = false := by decide)
    (hat : attributeBase (.Name y p6) f X.env (eval (.Name y p6) X.env) = eval (.Name y p6) X.env := by rfl) :
    FSs X W M [.Try body [.ExceptHandler (some (.Name x np)) (some n) [.Assign [.Name y p1] (.Name n p2) p3] pos'] [] [] pos, s3, .If test [.Return (some e4) p4] [] p5, .Return (some (.Attribute (.Name y p6) f p7)) p8] (rRefused i j C f rb) := by
  let tb : WX → TS := fun W' Z σ H => ∃ w ρ E F, w.H = H ∧ StE X.K w σ ρ ∧ rb ρ E F ∧ SF X.K W' M w σ ρ E F Z
  obtain ⟨t3, q3, k3⟩ := h3.ex
  obtain ⟨t4, q4, k4⟩ := h4.ex
  have hil : i < X.N.length := (List.getElem?_eq_some_iff.mp hi).1
  refine ⟨_, pss_cons (ps_try_keep (tb := tb) hst hfr nd hi kn ⟨hg, hdb, .inl g⟩ (fun W' pn xe t po => ?_) hK hil) (pss_cons q3 (pss_cons (ps_if q4 (pss_one (ps_ret he4)) pss_nil) (pss_one (ps_ret (pe_kf (pe_var hj hvi hd hcd) hat))))), fun w σ ρ E F Z st h hf => ?_⟩
  · obtain ⟨t', q, k⟩ := (hB W' pn xe t po).ex
    exact ⟨fun pins s σ H Z I ⟨w, ρ, E, F, e, st, h, hf⟩ => q.run pins s σ H Z I (by subst e; exact k w σ ρ E F Z st h hf)⟩
  refine ⟨w, ρ, _, _, rfl, st, h, ⟨fun ρ' w' σ' hx en => ?_, hf.rt, hf.bk, hf.ct, fun c fs ρ' w' σ' x' hx en xr => ?_⟩⟩
  · refine k3 w' σ' ρ' E0D { nx := fun _ => False, rt := fun d ρ2 => d = .non ∧ ρ2 = ρ' } _ en.st (isN3_yes hx.1 ⟨rfl, rfl⟩) ⟨fun _ _ _ z => z.elim, fun d ρ2 w2 σ2 v z e2 r2 => ?_, fun _ _ _ z => z.elim, fun _ _ _ z => z.elim, fun _ _ _ _ _ _ z => z.elim⟩
    obtain ⟨rfl, rfl⟩ := z
    exact hf.rt .non ρ2 w2 σ2 v hx.2 (en.trans e2) (by have := en.len; rw [this] at r2; exact r2)
  · obtain ⟨rfl, hjl, d, rfl, hx⟩ := hx
    cases x' with
    | none => exact xr.elim
    | some dd =>
      obtain ⟨us, g1, g2, g3, g4⟩ := xr
      obtain ⟨v, vr, rfl, r1, r2⟩ := g4
      cases (show vr = [] from r2)
      have ho : d.own = false := by
        have : (d.own || false) = false := g3
        rwa [Bool.or_false] at this
      refine ⟨hm, fun a na => ?_⟩
      -- the world behind the clause
      have es := EndE.shr (τ := ρ'.length + 1) en.st na (o := exk a (.ref C) (some dd))
      have e1 := (es.s (M := M) (Nat.lt_succ_self _)).trans (end_set (M := M) (i := i) (v := some (.ref a)) (d := some (.obj a)) es.st hMi fun e he => by cases he; exact ⟨_, rfl, by simp only [Rep]⟩)
      have e2 := e1.trans (end_set (M := M) (i := j) (v := some (.ref a)) (d := some (.obj a)) e1.st hMj fun e he => by cases he; exact ⟨_, rfl, by simp only [Rep]⟩)
      have e3 := e2.trans (end_set (M := M) (i := i) (v := none) (d := none) e2.st hMi fun e he => nomatch he)
      have eo := en.trans e3
      have hjk : (keptN i j a ρ')[j]? = some (some (.obj a)) := by
        unfold keptN
        rw [List.getElem?_set_ne hij, List.getElem?_set_self (by rw [List.length_set]; exact hjl)]
      have sa : (w'.shr a (exk a (.ref C) (some dd))).S a = some (exk a (.ref C) (some dd)) := upd_same
      have nad : dd ≠ a := fun z => by
        have z1 := en.st.wf.sh dd _ g1
        rw [z, na] at z1
        cases z1
      have sd : (w'.shr a (exk a (.ref C) (some dd))).S dd = some (.xd [(f, v)]) := by
        show upd w'.S a _ dd = _
        rw [upd_ne nad]; exact g1
      refine k3 (w'.shr a (exk a (.ref C) (some dd))) _ (keptN i j a ρ') E0D { nx := fun ρ2 => ρ2 = keptN i j a ρ', rt := fun _ _ => False } _ e3.st (isN3_no hjk rfl) ⟨fun ρ3 w3 σ3 z e4 => ?_, fun _ _ _ _ _ z => z.elim, fun _ _ _ z => z.elim, fun _ _ _ z => z.elim, fun _ _ _ _ _ _ z => z.elim⟩
      subst z
      have ha3 : w3.H a = some (exk a (.ref C) (some dd)) := e4.st.wf.sh a _ (e4.ext.s a _ sa)
      have hd3 : w3.H dd = some (.xd [(f, v)]) := e4.st.wf.sh dd _ (e4.ext.s dd _ sd)
      have hj3 : σ3[j]? = some (some (.ref a)) := by
        obtain ⟨u, hu, ru⟩ := e4.st.rep j _ hjk
        cases (show u = V.ref a from ru)
        exact hu
      have rv : Rep X.K w3 d [ρ.length + 1] v := Rep.free (w := w') ((es.ext.s).trans e4.ext.s) d ho r1
      have en3 := eo.trans e4
      have fin : ∀ w4, EndS X.K M w3 σ3 (keptN i j a ρ') w4 σ3 (keptN i j a ρ') → Rep X.K w4 d [ρ.length + 1] v → Z.rt v w4.H := fun w4 e5 r5 => hf.rt d _ w4 σ3 v (nf_of (hx a)) (en3.trans e5) r5
      refine k4 [(f, v)] σ3 w3.H _ ⟨a, dd, hj3, ha3, hd3⟩ ?_ fun p o np => ?_
      · rw [if_neg Bool.false_ne_true]
        exact ⟨.ref a, hj3, a, C, dd, [(f, v)], v, rfl, ha3, hd3, hC.xf, hC.nf, by simp [List.lookup], fin w3 (.refl e4.st) rv⟩
      · rw [if_neg Bool.false_ne_true]
        have e5 := EndE.shr (τ := (keptN i j a ρ').length + 1) e4.st np (o := o)
        have pa : a ≠ p := fun z => by rw [← z, ha3] at np; cases np
        have pd : dd ≠ p := fun z => by rw [← z, hd3] at np; cases np
        exact ⟨.ref a, hj3, a, C, dd, [(f, v)], v, rfl, by rw [upd_ne pa]; exact ha3, by rw [upd_ne pd]; exact hd3, hC.xf, hC.nf, by simp [List.lookup], fin (w3.shr p o) (e5.s (Nat.lt_succ_self _)) (Rep.free (w := w3) e5.ext.s d ho rv)⟩
end
end FL
namespace Cm
open PySem PySem.Spec PyProof.Rows L2 FL
def rb_rooms_read : RS := (rSeq (rIf (rTst (rBin (dIn false) (oV (rBin dIx (oV (rVar 0)) (oV (rC (.int 0))))) (oV (rC (.ro true [(.str "left"), (.str "right")]))))) (rRet (rLst rA0)) rNx)
  (rSeq (rIf (rTst (rBin dEq (oV (rBin dIx (oV (rVar 0)) (oV (rC (.int 0))))) (oV (rC (.str "times"))))) (rRet (rLst (rAC (oV (rBin dIx (oV (rVar 0)) (oV (rC (.int 2))))) (rAC (oV (rBin dIx (oV (rVar 0)) (oV (rC (.int 3))))) rA0)))) rNx)
  (rSeq (rIf (rTst (rBin dEq (oV (rBin dIx (oV (rVar 0)) (oV (rC (.int 0))))) (oV (rC (.str "put"))))) (rRet (rLst (rAC (oV (rBin dIx (oV (rVar 0)) (oV (rC (.int 3))))) rA0))) rNx)
  (rSeq (rIf (rTst (rBin dEq (oV (rBin dIx (oV (rVar 0)) (oV (rC (.int 0))))) (oV (rC (.str "add"))))) (rRet (rLst (rAC (oV (rBin dIx (oV (rVar 0)) (oV (rC (.int 1))))) (rAC (oV (rBin dIx (oV (rVar 0)) (oV (rC (.int 3))))) rA0)))) rNx)
  (rSeq (rIf (rTst (rBin dEq (oV (rBin dIx (oV (rVar 0)) (oV (rC (.int 0))))) (oV (rC (.str "empty"))))) (rRet (rLst (rAC (oV (rBin dIx (oV (rVar 0)) (oV (rC (.int 1))))) rA0))) rNx)
  (rRet (rLst (rAC (oV (rBin dIx (oV (rVar 0)) (oV (rC (.int 2))))) rA0))))))))
abbrev RD_rooms_read (r : FSpec) : Prop := ∀ ds ED QD, ds.length = 1 → r ds ED QD → rb_rooms_read (startD ["step"] ds) (fun c fs ρ => ED c fs (ρ.take 1)) (finD 1 QD)
def rb_is_doable (r_rooms_read : FSpec) : RS := (rSeq (rIf (rAnd (rTst (rBin (dIn false) (oV (rBin dIx (oV (rVar 0)) (oV (rC (.int 0))))) (oV (rC (.ro true [(.str "left"), (.str "right")]))))) (rNot (rTst (rCB dAll (rAC (oV (rComp (rItA (rBin dIx (oV (rVar 0)) (oV (rC (.int 2))))) (gTp 2 (gCs (gNm 5) (gCs (gNm 6) gNl))) rYes (rChain dLe dLt (oV (rC (.int 0))) (oV (rVar 6)) (oV (rBin dIx (oV (rVar 3)) (oV (rBin dIx (oV (rVar 0)) (oV (rC (.int 0)))))))) [6, 5])) rA0))))) (rRet (rC (.bl false))) rNx)
  (rSeq (rIf (rAnd (rTst (rBin dEq (oV (rBin dIx (oV (rVar 0)) (oV (rC (.int 0))))) (oV (rC (.str "tell"))))) (rOr (rTst (rBin (dIn false) (oV (rBin dIx (oV (rVar 0)) (oV (rC (.int 1))))) (oV (rVar 2)))) (rNot (rTst (rChain dLe dLt (oV (rC (.int 0))) (oV (rBin dIx (oV (rVar 0)) (oV (rC (.int 1))))) (oV (rBin dIx (oV (rVar 3)) (oV (rC (.str "tell")))))))))) (rRet (rC (.bl false))) rNx)
  (rRet (rCB dAll (rAC (oV (rComp (rItA (rCall [] r_rooms_read (rAC (oV (rVar 0)) rA0))) (gNm 4) rYes (rBin (dIn false) (oV (rVar 4)) (oV (rVar 1))) [4])) rA0)))))
abbrev RD_is_doable (r : FSpec) (r_rooms_read : FSpec) : Prop := ∀ ds ED QD, ds.length = 4 → r ds ED QD → (rb_is_doable r_rooms_read) (startD ["step", "held", "told", "lengths", "room", "number", "place"] ds) (fun c fs ρ => ED c fs (ρ.take 4)) (finD 4 QD)
def rb_Run_init (cv_Run : Addr) : RS := (rSeq (rNewF 0 cv_Run [] "rows" (rDisp ["left", "right"] (rAC (oV (rVar 1)) (rAC (oV (rVar 2)) rA0))))
  (rSeq (rNewF 0 cv_Run ["rows"] "held" (rDNew false))
  (rSeq (rNewF 0 cv_Run ["rows", "held"] "told" (rDNew false))
  (rSeq (rNewF 0 cv_Run ["rows", "held", "told"] "times" (rC (.int 0)))
  (rSeq (rNewF 0 cv_Run ["rows", "held", "told", "times"] "sums" (rC (.int 0)))
  (rNewF 0 cv_Run ["rows", "held", "told", "times", "sums"] "most" (rC (.int 0))))))))
abbrev RD_Run_init (r : FSpec) (cv_Run : Addr) : Prop := ∀ ds ED QD, ds.length = 3 → r ds ED QD → (rb_Run_init cv_Run) (startD ["self", "one", "other"] ds) (fun c fs ρ => ED c fs (ρ.take 3)) (finD 3 QD)
def rb_Run_go (cv_Run : Addr) : RS := (rSeq (rCut (rIf (rTst (rBin (dIn false) (oV (rBin dIx (oV (rVar 1)) (oV (rC (.int 0))))) (oV (rC (.ro true [(.str "left"), (.str "right")]))))) (rSeq (rSetF 2 (rRdP (rpDk (rpFld cv_Run ["rows", "held", "told", "times", "sums", "most"] 0 (rpN 0)) (rBin dIx (oV (rVar 1)) (oV (rC (.int 0)))))))
  (rSeq (rSetDP (rpFld cv_Run ["rows", "held", "told", "times", "sums", "most"] 1 (rpN 0)) (rBin dIx (oV (rVar 1)) (oV (rC (.int 1)))) (rCB dSum (rAC (oV (rComp (rItA (rBin dIx (oV (rVar 1)) (oV (rC (.int 2))))) (gTp 2 (gCs (gNm 3) (gCs (gNm 4) gNl))) rYes (rBin dMulX (oV (rVar 3)) (oV (rBin dIx (oV (rVar 2)) (oV (rVar 4))))) [4, 3])) rA0)))
  (rAugF 0 4 cv_Run ["rows", "held", "told", "times", "sums", "most"] (rIc (fun i => i - 1) (oV (rCB dLen (rAC (oV (rBin dIx (oV (rVar 1)) (oV (rC (.int 2))))) rA0))))))) (rIf (rTst (rBin dEq (oV (rBin dIx (oV (rVar 1)) (oV (rC (.int 0))))) (oV (rC (.str "times"))))) (rSeq (rSetDP (rpFld cv_Run ["rows", "held", "told", "times", "sums", "most"] 1 (rpN 0)) (rBin dIx (oV (rVar 1)) (oV (rC (.int 1)))) (rBin dMulX (oV (rRdP (rpDk (rpFld cv_Run ["rows", "held", "told", "times", "sums", "most"] 1 (rpN 0)) (rBin dIx (oV (rVar 1)) (oV (rC (.int 2))))))) (oV (rRdP (rpDk (rpFld cv_Run ["rows", "held", "told", "times", "sums", "most"] 1 (rpN 0)) (rBin dIx (oV (rVar 1)) (oV (rC (.int 3)))))))))
  (rAugF 0 3 cv_Run ["rows", "held", "told", "times", "sums", "most"] (rC (.int 1)))) (rIf (rTst (rBin dEq (oV (rBin dIx (oV (rVar 1)) (oV (rC (.int 0))))) (oV (rC (.str "put"))))) (rSetDP (rpFld cv_Run ["rows", "held", "told", "times", "sums", "most"] 1 (rpN 0)) (rBin dIx (oV (rVar 1)) (oV (rC (.int 1)))) (rBin dMulX (oV (rBin dIx (oV (rVar 1)) (oV (rC (.int 2))))) (oV (rRdP (rpDk (rpFld cv_Run ["rows", "held", "told", "times", "sums", "most"] 1 (rpN 0)) (rBin dIx (oV (rVar 1)) (oV (rC (.int 3))))))))) (rIf (rTst (rBin dEq (oV (rBin dIx (oV (rVar 1)) (oV (rC (.int 0))))) (oV (rC (.str "add"))))) (rSeq (rAugDP (rpFld cv_Run ["rows", "held", "told", "times", "sums", "most"] 1 (rpN 0)) (rBin dIx (oV (rVar 1)) (oV (rC (.int 1)))) (rBin dMulX (oV (rBin dIx (oV (rVar 1)) (oV (rC (.int 2))))) (oV (rBin dIx (oV (rUn (dFld cv_Run ["rows", "held", "told", "times", "sums", "most"] 1) (oV (rVar 0)))) (oV (rBin dIx (oV (rVar 1)) (oV (rC (.int 3)))))))))
  (rAugF 0 4 cv_Run ["rows", "held", "told", "times", "sums", "most"] (rC (.int 1)))) (rIf (rTst (rBin dEq (oV (rBin dIx (oV (rVar 1)) (oV (rC (.int 0))))) (oV (rC (.str "empty"))))) (rDrop (rPopD1 (rpFld cv_Run ["rows", "held", "told", "times", "sums", "most"] 1 (rpN 0)) (rBin dIx (oV (rVar 1)) (oV (rC (.int 1)))))) (rSetDP (rpFld cv_Run ["rows", "held", "told", "times", "sums", "most"] 2 (rpN 0)) (rBin dIx (oV (rVar 1)) (oV (rC (.int 1)))) (rPopD1 (rpFld cv_Run ["rows", "held", "told", "times", "sums", "most"] 1 (rpN 0)) (rBin dIx (oV (rVar 1)) (oV (rC (.int 2))))))))))))
  (rPutF 0 5 cv_Run ["rows", "held", "told", "times", "sums", "most"] (rThaw 0 (rCB dMax2 (rAC (oV (rUn (dFld cv_Run ["rows", "held", "told", "times", "sums", "most"] 5) (oV (rVar 0)))) (rAC (oV (rCB dLenD (rAC (oV (rUn (dFld cv_Run ["rows", "held", "told", "times", "sums", "most"] 1) (oV (rVar 0)))) rA0))) rA0))))))
abbrev RD_Run_go (r : FSpec) (cv_Run : Addr) : Prop := ∀ ds ED QD, ds.length = 2 → r ds ED QD → (rb_Run_go cv_Run) (startD ["self", "step", "row", "number", "place"] ds) (fun c fs ρ => ED c fs (ρ.take 2)) (finD 2 QD)
def rb_run_program (r_Run_init : FSpec) (r_Run_go : FSpec) (r_is_doable : FSpec) (cv_Run : Addr) : RS := (rSeq (rSet 4 (rCall [] (rMk cv_Run r_Run_init) (rAC (oV (rVar 1)) (rAC (oV (rVar 2)) rA0))))
  (rSeq (rSetF 5 (rDisp ["left", "right", "tell"] (rAC (oV (rCB dLen (rAC (oV (rVar 1)) rA0))) (rAC (oV (rCB dLen (rAC (oV (rVar 2)) rA0))) (rAC (oV (rVar 3)) rA0)))))
  (rSeq (rFor (rEn (rAC (oV (rVar 0)) rA0)) (gTp 2 (gCs (gNm 6) (gCs (gNm 7) gNl))) (rSeq (rIf (rThawT 4 (rNot (rTst (rCall [] r_is_doable (rAC (oV (rVar 7)) (rAC (oV (rUn (dFld cv_Run ["rows", "held", "told", "times", "sums", "most"] 1) (oV (rVar 4)))) (rAC (oV (rUn (dFld cv_Run ["rows", "held", "told", "times", "sums", "most"] 2) (oV (rVar 4)))) (rAC (oV (rVar 5)) rA0)))))))) rNever rNx)
  (rDrop (rMeth 4 cv_Run ["rows", "held", "told", "times", "sums", "most"] [0] r_Run_go (rAC (oV (rVar 7)) rA0)))))
  (rRet (rThaw 4 (rTup (rAC (oV (rComp (rRg1 (rAC (oV (rVar 3)) rA0)) (gNm 8) rYes (rGet2 (oV (rUn (dFld cv_Run ["rows", "held", "told", "times", "sums", "most"] 2) (oV (rVar 4)))) (oV (rVar 8)) (rC (.int 0))) [8])) (rAC (oV (rUn (dFld cv_Run ["rows", "held", "told", "times", "sums", "most"] 3) (oV (rVar 4)))) (rAC (oV (rUn (dFld cv_Run ["rows", "held", "told", "times", "sums", "most"] 4) (oV (rVar 4)))) (rAC (oV (rUn (dFld cv_Run ["rows", "held", "told", "times", "sums", "most"] 5) (oV (rVar 4)))) rA0))))))))))
abbrev RD_run_program (r : FSpec) (r_Run_init : FSpec) (r_Run_go : FSpec) (r_is_doable : FSpec) (cv_Run : Addr) : Prop := ∀ ds ED QD, ds.length = 4 → r ds ED QD → (rb_run_program r_Run_init r_Run_go r_is_doable cv_Run) (startD ["program", "one", "other", "many", "run", "lengths", "place", "step", "k"] ds) (fun c fs ρ => ED c fs (ρ.take 4)) (finD 4 QD)
def rb_law_value (r_law_take : FSpec) (r_law_number : FSpec) : RS := (rSeq (rSetF 1 (rCall [0] r_law_take (rAC (oN 0) (rAC (oV (rC (.int 5))) rA0))))
  (rSeq (rIf (rTst (rBin dEq (oV (rVar 1)) (oV (rC (.int 4))))) (rRet (rBin dSub (oV (rCall [0] r_law_take (rAC (oN 0) (rAC (oV (rIc (fun i => 2 * i) (oV (rC (.int (10 ^ 30)))))) rA0)))) (oV (rC (.int (10 ^ 30)))))) rNx)
  (rRet (rIfE (rTst (rBin dEq (oV (rVar 1)) (oV (rC (.int 3))))) (rCall [0] r_law_number (rAC (oN 0) rA0)) (rIc (fun i => i - 2) (oV (rCall [0] r_law_take (rAC (oN 0) (rAC (oV (rC (.int 5))) rA0)))))))))
abbrev RD_law_value (r : FSpec) (r_law_take : FSpec) (r_law_number : FSpec) : Prop := ∀ ds ED QD, ds.length = 1 → r ds ED QD → (rb_law_value r_law_take r_law_number) (startD ["_law_box_here", "_law_way"] ds) (fun c fs ρ => ED c fs (ρ.take 1)) (finD 1 QD)
def rb_law_room (r_law_take : FSpec) : RS := (rSeq (rSetF 1 (rCall [0] r_law_take (rAC (oN 0) (rAC (oV (rC (.int 6))) rA0))))
  (rSeq (rIf (rTst (rBin dLt (oV (rVar 1)) (oV (rC (.int 3))))) (rRet (rCall [0] r_law_take (rAC (oN 0) (rAC (oV (rC (.int 4))) rA0)))) rNx)
  (rRet (rIfE (rTst (rBin dLt (oV (rVar 1)) (oV (rC (.int 5))))) (rCall [0] r_law_take (rAC (oN 0) (rAC (oV (rC (.int 9))) rA0))) (rBin dSub (oV (rC (.int 999))) (oV (rCall [0] r_law_take (rAC (oN 0) (rAC (oV (rC (.int 3))) rA0)))))))))
abbrev RD_law_room (r : FSpec) (r_law_take : FSpec) : Prop := ∀ ds ED QD, ds.length = 1 → r ds ED QD → (rb_law_room r_law_take) (startD ["_law_box_here", "_law_way"] ds) (fun c fs ρ => ED c fs (ρ.take 1)) (finD 1 QD)
def rb_law_parts (r_law_take : FSpec) (r_law_value : FSpec) : RS := (rSeq (rSet 2 (rLst rA0))
  (rSeq (rFor (rRg1 (rAC (oV (rIc (fun i => 1 + i) (oV (rCall [0] r_law_take (rAC (oN 0) (rAC (oV (rBin dIx (oV (rLst (rAC (oV (rC (.int 3))) (rAC (oV (rC (.int 3))) (rAC (oV (rC (.int 3))) (rAC (oV (rC (.int 9))) rA0)))))) (oV (rCall [0] r_law_take (rAC (oN 0) (rAC (oV (rC (.int 4))) rA0)))))) rA0)))))) rA0)) (gNm 3) (rDrop (rApp 2 (rTup (rAC (oV (rCall [0] r_law_value (rAC (oN 0) rA0))) (rAC (oV (rCall [0] r_law_take (rAC (oN 0) (rAC (oV (rVar 1)) rA0)))) rA0))))))
  (rRet (rVar 2))))
abbrev RD_law_parts (r : FSpec) (r_law_take : FSpec) (r_law_value : FSpec) : Prop := ∀ ds ED QD, ds.length = 2 → r ds ED QD → (rb_law_parts r_law_take r_law_value) (startD ["_law_box_here", "_law_length", "_law_some", "_law_k"] ds) (fun c fs ρ => ED c fs (ρ.take 2)) (finD 2 QD)
end Cm
namespace Cm
open PySem PySem.Spec PyProof.Rows L2 FL
set_option maxHeartbeats 0
section
variable {κ β : Type} [DecidableEq κ]
def lkA : List (κ × β) → κ → Option β
  | [], _ => none
  | (a, b) :: r, k => if a = k then some b else lkA r k
def puA : List (κ × β) → κ → β → List (κ × β)
  | [], k, v => [(k, v)]
  | (a, b) :: r, k, v => if a = k then (a, v) :: r else (a, b) :: puA r k v
def erA : List (κ × β) → κ → List (κ × β)
  | [], _ => []
  | (a, b) :: r, k => if a = k then r else (a, b) :: erA r k
theorem puA_len (k : κ) (v : β) : ∀ r : List (κ × β), (puA r k v).length ≤ r.length + 1
  | [] => by simp [puA]
  | (a, b) :: r => by
    have ih := puA_len k v r
    simp only [puA]
    split <;> simp <;> omega
theorem erA_len (k : κ) : ∀ r : List (κ × β), (erA r k).length ≤ r.length
  | [] => by simp [erA]
  | (a, b) :: r => by
    have ih := erA_len k r
    simp only [erA]
    split <;> simp <;> omega
theorem lkA_mem {k : κ} {v : β} : ∀ {r : List (κ × β)}, lkA r k = some v → (k, v) ∈ r
  | [], h => by cases h
  | (a, b) :: r, h => by
    simp only [lkA] at h
    split at h
    · rename_i e; cases h; subst e; exact List.mem_cons_self
    · exact List.mem_cons_of_mem _ (lkA_mem h)
theorem puA_mem {k : κ} {v : β} {p : κ × β} : ∀ {r : List (κ × β)}, p ∈ puA r k v → p = (k, v) ∨ p ∈ r
  | [], h => by simpa [puA] using h
  | (a, b) :: r, h => by
    simp only [puA] at h
    split at h
    · rename_i e
      subst e
      rcases List.mem_cons.mp h with h | h
      · exact .inl h
      · exact .inr (List.mem_cons_of_mem _ h)
    · rcases List.mem_cons.mp h with h | h
      · exact .inr (h ▸ List.mem_cons_self)
      · exact (puA_mem h).imp id fun z => List.mem_cons_of_mem _ z
theorem erA_mem {k : κ} {p : κ × β} : ∀ {r : List (κ × β)}, p ∈ erA r k → p ∈ r
  | [], h => by cases h
  | (a, b) :: r, h => by
    simp only [erA] at h
    split at h
    · exact List.mem_cons_of_mem _ h
    · rcases List.mem_cons.mp h with h | h
      · exact h ▸ List.mem_cons_self
      · exact List.mem_cons_of_mem _ (erA_mem h)
theorem lkA_none {k : κ} : ∀ {r : List (κ × β)}, lkA r k = none ↔ k ∉ r.map (·.1)
  | [] => by simp [lkA]
  | (a, b) :: r => by
    have ih := lkA_none (k := k) (r := r)
    simp only [lkA, List.map_cons, List.mem_cons, not_or]
    by_cases h : a = k
    · rw [if_pos h]; simp [h]
    · rw [if_neg h, ih]; simp [Ne.symm h]
theorem lkA_some {k : κ} {r : List (κ × β)} : (lkA r k).isSome = true ↔ k ∈ r.map (·.1) := by
  have := lkA_none (k := k) (r := r)
  cases h : lkA r k with
  | none => simp [this.mp h]
  | some v =>
    simp only [Option.isSome_some, true_iff]
    exact Classical.byContradiction fun z => by rw [this.mpr z] at h; cases h
/-- keys as data -/
structure KyD (t : Bool) (kd : κ → D) : Prop where
  ok : ∀ k, keyOk t (kd k) = true
  eq : ∀ a b, keyEq t (kd a) (kd b) = decide (a = b)
  own : ∀ k, (kd k).own = false
def mpD (o : Ow) (t : Bool) (kd : κ → D) (enc : β → D) (r : List (κ × β)) : D := .dct o t (r.map fun p => kd p.1) (r.map fun p => enc p.2)
variable {t : Bool} {kd : κ → D} {enc : β → D}
theorem kIdx_cons (k' k : D) (ks : List D) : kIdx t (k' :: ks) k = if keyEq t k' k = true then some 0 else (kIdx t ks k).map (· + 1) := by
  unfold kIdx
  rw [List.findIdx?_cons]
theorem mp_look (K : KyD t kd) (k : κ) : ∀ r : List (κ × β), dLook t (r.map fun p => kd p.1) (r.map fun p => enc p.2) (kd k) = (lkA r k).map enc
  | [] => rfl
  | (a, b) :: r => by
    have ih := mp_look K k r
    unfold dLook at ih ⊢
    rw [List.map_cons, kIdx_cons, K.eq]
    simp only [lkA, decide_eq_true_eq]
    by_cases h : a = k
    · rw [if_pos h, if_pos h]; rfl
    · rw [if_neg h, if_neg h, ← ih]
      cases kIdx t (r.map fun p => kd p.1) (kd k) <;> rfl
theorem mp_put (K : KyD t kd) (k : κ) (v : β) : ∀ r : List (κ × β), putKs t (r.map fun p => kd p.1) (kd k) = ((puA r k v).map fun p => kd p.1) ∧ putDs t (r.map fun p => kd p.1) (kd k) (r.map fun p => enc p.2) (enc v) = ((puA r k v).map fun p => enc p.2)
  | [] => ⟨rfl, rfl⟩
  | (a, b) :: r => by
    obtain ⟨i1, i2⟩ := mp_put K k v r
    unfold putKs at i1 ⊢
    unfold putDs at i2 ⊢
    rw [List.map_cons, kIdx_cons, K.eq]
    simp only [puA, decide_eq_true_eq]
    by_cases h : a = k
    · rw [if_pos h, if_pos h]
      exact ⟨rfl, rfl⟩
    · rw [if_neg h, if_neg h]
      cases q : kIdx t (r.map fun p => kd p.1) (kd k) with
      | none =>
        rw [q] at i1 i2
        exact ⟨congrArg (kd a :: ·) i1, congrArg (enc b :: ·) i2⟩
      | some j =>
        rw [q] at i1 i2
        exact ⟨congrArg (kd a :: ·) i1, congrArg (enc b :: ·) i2⟩
theorem mp_er (K : KyD t kd) (k : κ) : ∀ (r : List (κ × β)) (v : β), lkA r k = some v → ∃ j, kIdx t (r.map fun p => kd p.1) (kd k) = some j ∧ (r.map fun p => enc p.2)[j]? = some (enc v) ∧
    ((r.map fun p => kd p.1).eraseIdx j) = ((erA r k).map fun p => kd p.1) ∧ ((r.map fun p => enc p.2).eraseIdx j) = ((erA r k).map fun p => enc p.2)
  | [], v, h => by cases h
  | (a, b) :: r, v, h => by
    rw [List.map_cons, kIdx_cons, K.eq]
    simp only [erA, lkA, decide_eq_true_eq] at h ⊢
    by_cases e : a = k
    · rw [if_pos e] at h ⊢
      cases h
      exact ⟨0, rfl, rfl, by rw [if_pos e]; rfl, by rw [if_pos e]; rfl⟩
    · rw [if_neg e] at h ⊢
      obtain ⟨j, h1, h2, h3, h4⟩ := mp_er K k r v h
      refine ⟨j + 1, by rw [h1]; rfl, h2, ?_, ?_⟩
      · rw [if_neg e, List.eraseIdx_cons_succ, h3]; rfl
      · rw [if_neg e, List.map_cons, List.eraseIdx_cons_succ, h4]; rfl
end
theorem ky_int : KyD false D.int := ⟨fun _ => rfl, fun a b => by
  show (if false then _ else decide (skey (.int a) = skey (.int b))) = _
  rw [if_neg (by decide), decide_eq_decide]
  exact ⟨fun h => Sum.inl.inj h, fun h => by rw [h]⟩, fun _ => rfl⟩
end Cm
namespace Cm
open PySem PySem.Spec PyProof.Rows L2 FL
end Cm
set_option maxHeartbeats 0
namespace Cm
open PySem PySem.Spec PyProof.Rows L2 FL
/-- fewer than n bits -/
def Bt (n : Nat) (x : Int) : Prop := x.natAbs < 2 ^ n
theorem Bt.mul {a b : Nat} {x y : Int} (h : Bt a x) (k : Bt b y) : Bt (a + b) (x * y) := wide_lt h k
theorem Bt.mono {a b : Nat} {x : Int} (h : Bt a x) (k : a ≤ b) : Bt b x := Nat.lt_of_lt_of_le h (Nat.pow_le_pow_right (by decide) k)
theorem Bt.ok {a b : Nat} {x y : Int} (h : Bt a x) (k : Bt b y) (ha : 0 < a := by decide) (hb : 0 < b := by decide) (hab : a + b ≤ 1000000 := by decide) : MulOk x y := .inr (wide_mul h k ha hb hab)
theorem Bt.add {a : Nat} {x y : Int} (h : Bt a x) (k : Bt a y) : Bt (a + 1) (x + y) := by
  unfold Bt at *
  rw [Nat.pow_succ]
  omega
theorem Bt.zero {a : Nat} : Bt a 0 := Nat.two_pow_pos a
theorem Bt.neg {a : Nat} {x : Int} (h : Bt a x) : Bt a (-x) := by unfold Bt at *; omega
theorem Bt.sub {a : Nat} {x y : Int} (h : Bt a x) (k : Bt a y) : Bt (a + 1) (x - y) := h.add k.neg
theorem Bt.sum {a : Nat} : ∀ {l : List Int}, (∀ x ∈ l, Bt a x) → l.sum.natAbs ≤ l.length * 2 ^ a
  | [], _ => by simp
  | x :: l, h => by
    have h1 : x.natAbs < 2 ^ a := h x List.mem_cons_self
    have h2 := Bt.sum fun y hy => h y (List.mem_cons_of_mem _ hy)
    rw [List.sum_cons, List.length_cons, Nat.succ_mul]
    omega
theorem Bt.sumB {a b : Nat} {l : List Int} (h : ∀ x ∈ l, Bt a x) (hl : l.length < 2 ^ b) : Bt (a + b) l.sum := by
  have h1 := Bt.sum h
  have h2 : l.length * 2 ^ a < 2 ^ b * 2 ^ a := Nat.mul_lt_mul_of_pos_right hl (Nat.two_pow_pos a)
  unfold Bt
  rw [Nat.add_comm, Nat.pow_add]
  omega
def Bts (n : Nat) (xs : List Int) : Prop := ∀ x ∈ xs, Bt n x
theorem Bts.mono {a b : Nat} {xs : List Int} (h : Bts a xs) (k : a ≤ b) : Bts b xs := fun x hx => (h x hx).mono k
theorem bt_in {n : Nat} {B x : Int} (h0 : -B ≤ x) (h1 : x ≤ B) (hB : B.natAbs < 2 ^ n := by decide) : Bt n x := by
  unfold Bt
  omega
theorem InB.bts {xs : List Int} (h : InB xs) {n : Nat} (hn : 10 ≤ n := by decide) : Bts n xs := fun x hx => (bt_in (n := 10) (B := 1000) (h x hx).1 (h x hx).2).mono hn
theorem InT.bts {xs : List Int} (h : InT xs) {n : Nat} (hn : 40 ≤ n := by decide) : Bts n xs := fun x hx => (bt_in (n := 40) (B := 10 ^ 12) (h x hx).1 (h x hx).2).mono hn
theorem getD_mem {xs : List Int} {i : Nat} (h : i < xs.length) : xs.getD i 0 ∈ xs := by
  rw [List.getD_eq_getElem?_getD, List.getElem?_eq_getElem h]; exact List.getElem_mem h
theorem Bts.getD {n : Nat} {xs : List Int} (h : Bts n xs) (i : Nat) : Bt n (xs.getD i 0) := by
  by_cases hi : i < xs.length
  · exact h _ (getD_mem hi)
  · rw [List.getD_eq_getElem?_getD, List.getElem?_eq_none (by omega)]; exact Bt.zero
/-- a product of lengths n, m, k, its numbers of few bits -/
structure Pr.fit (p : Pr) (n m k : Nat) : Prop where
  ll : p.l.length = n
  lr : p.r.length = m
  lo : p.o.length = k
  bl : Bts 10000 p.l
  br : Bts 10000 p.r
  bo : Bts 10000 p.o
theorem Pr.ok.fit {p : Pr} {n m k : Int} (h : p.ok n m k) : p.fit n.toNat m.toNat k.toNat := ⟨h.ll, h.lr, h.lo, h.bl.bts, h.br.bts, h.bo.bts⟩
end Cm
set_option maxHeartbeats 0
namespace Cm
open PySem PySem.Spec PyProof.Rows L2 FL
end Cm
set_option maxHeartbeats 0
namespace Cm
open PySem PySem.Spec PyProof.Rows L2 FL
end Cm
set_option maxHeartbeats 0
namespace Cm
open PySem PySem.Spec PyProof.Rows L2 FL
def Tm.neg (t : Tm) : Tm := ⟨t.k, t.i, t.j, 0 - t.c⟩
end Cm
namespace Cm
open PySem PySem.Spec PyProof.Rows L2 FL
end Cm
namespace Cm
open PySem PySem.Spec PyProof.Rows L2 FL
set_option maxHeartbeats 0
structure Pr.bts (p : Pr) (n : Nat) : Prop where
  l : Bts n p.l
  r : Bts n p.r
  o : Bts n p.o
theorem Pr.fit.bts {p : Pr} {a b c : Nat} (h : p.fit a b c) : p.bts 10000 := ⟨h.bl, h.br, h.bo.mono (by decide)⟩
def sg (n : Nat) (k : Int) : List Int := (List.range n).map fun (i : Nat) => if decide ((i : Int) = k) then (1 : Int) else 0
end Cm
namespace Cm
open PySem PySem.Spec PyProof.Rows L2 FL
set_option maxHeartbeats 0
end Cm
namespace Cm
open PySem PySem.Spec PyProof.Rows L2 FL
end Cm
namespace Cm
open PySem PySem.Spec PyProof.Rows L2 FL
set_option maxHeartbeats 0
def nz (ts : List Tm) : List (List Int) := (pls ts).filter fun p => decide (tsum ts p ≠ 0)
theorem intK_rows {g : List Int → Int} {P : List (List Int)} {q : List Int} (h : q ∈ P) : intK (P.map rowD) (P.map g) (rowD q) = some (g q) := by
  unfold intK
  rw [row_kIdx]
  obtain ⟨i, h1, h2⟩ := idx_in h
  rw [h1]
  show (P.map g)[i]? = _
  rw [List.getElem?_map, h2]; rfl
/-- == of two dicts of places that are alike -/
theorem same_dicts {P P' : List (List Int)} {g g' : List Int → Int} (n : P.Nodup) (n' : P'.Nodup) (hm : ∀ p, p ∈ P ↔ p ∈ P') (hg : ∀ p ∈ P, g p = g' p) : ((P.map rowD).length == (P'.map rowD).length && tabD (P.map rowD) (P.map g) (P'.map rowD) (P'.map g')) = true := by
  have pm : P.Perm P' := (List.perm_ext_iff_of_nodup n n').mpr hm
  rw [Bool.and_eq_true, List.length_map, List.length_map, pm.length_eq]
  refine ⟨beq_self_eq_true _, ?_⟩
  unfold tabD
  rw [List.zip_map', List.all_map, List.all_eq_true]
  intro p hp
  show decide (intK _ _ (rowD p) = some (g p)) = true
  rw [intK_rows ((hm p).mp hp), hg p hp]
  simp
theorem nz_mem (ts : List Tm) (p : List Int) : p ∈ nz ts ↔ tsum ts p ≠ 0 := by
  unfold nz
  rw [List.mem_filter, decide_eq_true_iff]
  refine ⟨fun h => h.2, fun h => ⟨?_, h⟩⟩
  exact Classical.byContradiction fun z => h (tsum_out z)
theorem nz_nodup (ts : List Tm) : (nz ts).Nodup := (pls_nodup ts).filter _
/-- dicts told by places -/
structure Dt (P : List (List Int)) (g : List Int → Int) (ts : List Tm) : Prop where
  nd : P.Nodup
  mem : ∀ p, p ∈ P ↔ tsum ts p ≠ 0
  val : ∀ p ∈ P, g p = tsum ts p
theorem Dt.sum (ts : List Tm) : Dt (nz ts) (tsum ts) ts := ⟨nz_nodup ts, nz_mem ts, fun _ _ => rfl⟩
theorem Dt.same {P P' : List (List Int)} {g g' : List Int → Int} {ts us : List Tm} (h : Dt P g ts) (h' : Dt P' g' us) (e : ∀ p, tsum ts p = tsum us p) : ((P.map rowD).length == (P'.map rowD).length && tabD (P.map rowD) (P.map g) (P'.map rowD) (P'.map g')) = true :=
  same_dicts h.nd h'.nd (fun p => by rw [h.mem, h'.mem, e]) fun p hp => by rw [h.val p hp, h'.val p ((h'.mem p).mpr (by rw [← e]; exact (h.mem p).mp hp)), e]
end Cm
namespace Cm
open PySem PySem.Spec PyProof.Rows L2 FL
def Mg (B : Int) (xs : List Int) : Prop := ∀ x ∈ xs, -B ≤ x ∧ x ≤ B
theorem Mg.mono {B C : Int} {xs : List Int} (h : Mg B xs) (k : B ≤ C) : Mg C xs := fun x hx => by have := h x hx; omega
theorem Mg.bts {B : Int} {xs : List Int} (h : Mg B xs) {n : Nat} (k : B.natAbs < 2 ^ n) : Bts n xs := fun x hx => bt_in (h x hx).1 (h x hx).2 k
structure Pr.mg (p : Pr) (B : Int) : Prop where
  l : Mg B p.l
  r : Mg B p.r
  o : Mg B p.o
theorem Pr.mg.mono {p : Pr} {B C : Int} (h : p.mg B) (k : B ≤ C) : p.mg C := ⟨h.l.mono k, h.r.mono k, h.o.mono k⟩
theorem Pr.mg.bts {p : Pr} {B : Int} (h : p.mg B) {n : Nat} (k : B.natAbs < 2 ^ n) : p.bts n := ⟨h.l.bts k, h.r.bts k, h.o.bts k⟩
theorem Mg.neg {B : Int} {xs : List Int} (h : Mg B xs) : Mg B (xs.map fun x => -x) := fun x hx => by
  obtain ⟨y, hy, rfl⟩ := List.mem_map.mp hx
  have := h y hy; omega
theorem pick_at {α : Type} {f : α → D} {xs : List α} {k : Int} {Q : D → Prop} (h0 : 0 ≤ k) (h1 : k < xs.length) (ho : ∀ a, (f a).own = false) (q : ∀ a, xs[k.toNat]? = some a → Q (f a)) : pick (atI (xs.map f) k) Q := by
  have hx : k.toNat < xs.length := by omega
  refine pick_of (d := f xs[k.toNat]) ?_ (ho _) (q _ (List.getElem?_eq_getElem hx))
  unfold atI
  rw [ixN_of h0 (by rw [List.length_map]; exact h1)]
  show (xs.map f)[k.toNat]? = _
  rw [List.getElem?_map, List.getElem?_eq_getElem hx]; rfl
end Cm
namespace Cm
open PySem PySem.Spec PyProof.Rows L2 FL
set_option maxHeartbeats 0
inductive Stp where
  | row (rt : Bool) (room : Int) (ps : List (Int × Int))
  | times (room a b : Int)
  | put (room n a : Int)
  | add (room n a : Int)
  | emp (room : Int)
  | tell (k room : Int)
  deriving Inhabited
def sideS : Bool → Str
  | false => "left"
  | true => "right"
def prtD (p : Int × Int) : D := .tup false [.int p.1, .int p.2]
def stD : Stp → D
  | .row rt room ps => .tup false [.str (sideS rt), .int room, .lst .ice (ps.map prtD)]
  | .times room a b => .tup false [.str "times", .int room, .int a, .int b]
  | .put room n a => .tup false [.str "put", .int room, .int n, .int a]
  | .add room n a => .tup false [.str "add", .int room, .int n, .int a]
  | .emp room => .tup false [.str "empty", .int room]
  | .tell k room => .tup false [.str "tell", .int k, .int room]
def Stp.reads : Stp → List Int
  | .row _ _ _ => []
  | .times _ a b => [a, b]
  | .put _ _ a => [a]
  | .add r _ a => [r, a]
  | .emp r => [r]
  | .tell _ r => [r]
def r_rooms_read : FSpec := fun ds _ Q => ∃ st : Stp, ds = [stD st] ∧ ∀ os, Q (.lst .flat (st.reads.map D.int)) os
theorem rd_rooms_read : RD_rooms_read r_rooms_read := by
  rintro ds ED QD - ⟨st, rfl, q⟩
  cases st with
  | row rt room ps => cases rt <;> exact ⟨rfl, rfl, fun _ => q _, (fun h => absurd h (by decide +kernel))⟩
  | times r a b => exact ⟨rfl, rfl, (fun h => absurd h (by decide +kernel)), fun _ => ⟨fun _ => q _, (fun h => absurd h (by decide +kernel))⟩⟩
  | put r n a => exact ⟨rfl, rfl, (fun h => absurd h (by decide +kernel)), fun _ => ⟨(fun h => absurd h (by decide +kernel)), fun _ => ⟨fun _ => q _, (fun h => absurd h (by decide +kernel))⟩⟩⟩
  | add r n a => exact ⟨rfl, rfl, (fun h => absurd h (by decide +kernel)), fun _ => ⟨(fun h => absurd h (by decide +kernel)), fun _ => ⟨(fun h => absurd h (by decide +kernel)), fun _ => ⟨fun _ => q _, (fun h => absurd h (by decide +kernel))⟩⟩⟩⟩
  | emp r => exact ⟨rfl, rfl, (fun h => absurd h (by decide +kernel)), fun _ => ⟨(fun h => absurd h (by decide +kernel)), fun _ => ⟨(fun h => absurd h (by decide +kernel)), fun _ => ⟨(fun h => absurd h (by decide +kernel)), fun _ => ⟨fun _ => q _, (fun h => absurd h (by decide +kernel))⟩⟩⟩⟩⟩
  | tell k r => exact ⟨rfl, rfl, (fun h => absurd h (by decide +kernel)), fun _ => ⟨(fun h => absurd h (by decide +kernel)), fun _ => ⟨(fun h => absurd h (by decide +kernel)), fun _ => ⟨(fun h => absurd h (by decide +kernel)), fun _ => ⟨(fun h => absurd h (by decide +kernel)), fun _ => q _⟩⟩⟩⟩⟩
def has (ks : List Int) (k : Int) : Bool := decide (k ∈ ks)
theorem kx_int (k : Int) : ∀ ks : List Int, (kIdx false (ks.map D.int) (.int k)).isSome = has ks k
  | [] => rfl
  | a :: r => by
    have ih := kx_int k r
    unfold has at ih ⊢
    rw [List.map_cons, kIdx_cons, ky_int.eq]
    by_cases h : a = k
    · subst h; simp
    · rw [if_neg (by simpa using h)]
      rw [Option.isSome_map, ih, decide_eq_decide]
      simp [Ne.symm h]
def Stp.ok (st : Stp) (hk tk : List Int) (nl nr nt : Int) : Bool := match st with
  | .row false _ ps => ps.all fun p => decide (0 ≤ p.2) && decide (p.2 < nl)
  | .row true _ ps => ps.all fun p => decide (0 ≤ p.2) && decide (p.2 < nr)
  | .tell k r => !(has tk k) && (decide (0 ≤ k) && decide (k < nt)) && has hk r
  | st => st.reads.all (has hk)
def lnD (nl nr nt : Int) : D := .dct .ice false [.str "left", .str "right", .str "tell"] [.int nl, .int nr, .int nt]
def r_is_doable : FSpec := fun ds _ Q => ∃ (st : Stp) (hk tk : List Int) (hv tv : List D) (nl nr nt : Int), ds = [stD st, .dct .ice false (hk.map D.int) hv, .dct .ice false (tk.map D.int) tv, lnD nl nr nt] ∧ ∀ os, Q (.bl (st.ok hk tk nl nr nt)) os
theorem all_has (hk : List Int) (rs : List Int) : (rs.map fun r => (false ^^ (kIdx false (hk.map D.int) (.int r)).isSome)).all id = rs.all (has hk) := by
  rw [List.all_map]
  congr 1
  funext r
  show (false ^^ _) = _
  rw [kx_int, Bool.false_xor]
theorem doable_end {hk : List Int} {hv : List D} {s2 s3 s5 s6 : Option D} {st : Stp} {E : EE} {QD : D → En → Prop} (q : ∀ os, QD (.bl (st.reads.all (has hk))) os) :
    (rRet (rCB dAll (rAC (oV (rComp (rItA (rCall [] r_rooms_read (rAC (oV (rVar 0)) rA0))) (gNm 4) rYes (rBin (dIn false) (oV (rVar 4)) (oV (rVar 1))) [4])) rA0))) [some (stD st), some (.dct .ice false (hk.map D.int) hv), s2, s3, none, s5, s6] E (finD 4 QD) := by
  have key : ∀ st' : Stp, st' = st → ∀ s0 : Option D, (rRet (rCB dAll (rAC (oV (rComp (rItA (fun ρ _ Q => Q (.lst .flat (st'.reads.map D.int)) ρ)) (gNm 4) rYes (rBin (dIn false) (oV (rVar 4)) (oV (rVar 1))) [4])) rA0))) [s0, some (.dct .ice false (hk.map D.int) hv), s2, s3, none, s5, s6] E (finD 4 QD) := by
    rintro st' rfl s0
    refine ⟨compR_allE st'.reads D.int (fun r => .bl (false ^^ (kIdx false (hk.map D.int) (.int r)).isSome)) rfl (fun r _ => ⟨fun _ => ⟨rfl, rfl, rfl⟩, fun h => nomatch h⟩) (fun _ => rfl) ?_⟩
    refine ⟨st'.reads.map fun r => (false ^^ (kIdx false (hk.map D.int) (.int r)).isSome), by rw [List.map_map]; rfl, ?_⟩
    rw [all_has]
    exact q _
  cases st <;> exact ⟨_, rfl, fun os => key _ rfl _⟩
theorem ln_look (nl nr nt : Int) : (dLook false [.str "left", .str "right", .str "tell"] [.int nl, .int nr, .int nt] (.str "left") = some (.int nl) ∧ dLook false [.str "left", .str "right", .str "tell"] [.int nl, .int nr, .int nt] (.str "right") = some (.int nr)) ∧
    dLook false [.str "left", .str "right", .str "tell"] [.int nl, .int nr, .int nt] (.str "tell") = some (.int nt) := by
  have h1 : kIdx false [D.str "left", .str "right", .str "tell"] (.str "left") = some 0 := by decide +kernel
  have h2 : kIdx false [D.str "left", .str "right", .str "tell"] (.str "right") = some 1 := by decide +kernel
  have h3 : kIdx false [D.str "left", .str "right", .str "tell"] (.str "tell") = some 2 := by decide +kernel
  unfold dLook
  rw [h1, h2, h3]
  exact ⟨⟨rfl, rfl⟩, rfl⟩
theorem ch_t {a b : Bool} (h : a = true) : some (D.bl b) = some (D.bl (a && b)) := by rw [h, Bool.true_and]
theorem ch_f {a b : Bool} (h : a = false) : some (D.bl false) = some (D.bl (a && b)) := by rw [h, Bool.false_and]
theorem rd_is_doable : RD_is_doable r_is_doable r_rooms_read := by
  rintro ds ED QD - ⟨st, hk, tk, hv, tv, nl, nr, nt, rfl, q⟩
  cases st with
  | row rt room ps =>
    have e1 : ∀ (nn : Int), (ps.map fun p => (decide (0 ≤ p.2) && decide (p.2 < nn))).all id = ps.all fun p => decide (0 ≤ p.2) && decide (p.2 < nn) := fun nn => by rw [List.all_map]; rfl
    have tl : ∀ (b : Bool) os, (b = false → QD (.bl false) os) → (b = true → QD (.bl true) os) → QD (.bl b) os := fun b os h g => by cases b; exact h rfl; exact g rfl
    cases rt with
    | false =>
      refine ⟨rfl, rfl, fun _ => ⟨compR_allE ps prtD (fun p => .bl (decide (0 ≤ p.2) && decide (p.2 < nl))) rfl (fun p _ => ⟨rfl, fun _ => ⟨fun h => ⟨rfl, pick_of (ln_look nl nr nt).1.1 rfl ⟨ch_t h, rfl⟩⟩, fun h => ⟨ch_f h, rfl⟩⟩, fun h => nomatch h⟩) (fun _ => rfl) ?_⟩, (fun h => absurd h (by decide +kernel))⟩
      refine ⟨ps.map fun p => (decide (0 ≤ p.2) && decide (p.2 < nl)), by rw [List.map_map]; rfl, ?_⟩
      rw [e1]
      refine ⟨fun h => ?_, fun h => ?_⟩
      · have h : (ps.all fun p => decide (0 ≤ p.2) && decide (p.2 < nl)) = false := by simpa using h
        have := q
        simp only [Stp.ok] at this
        rw [h] at this
        exact this _
      · have h : (ps.all fun p => decide (0 ≤ p.2) && decide (p.2 < nl)) = true := by simpa using h
        simp only [Stp.ok] at q
        rw [h] at q
        exact ⟨(fun h => absurd h (by decide +kernel)), fun _ => ⟨(fun h => absurd h (by decide +kernel)), fun _ => doable_end (st := .row false room ps) q⟩⟩
    | true =>
      refine ⟨rfl, rfl, fun _ => ⟨compR_allE ps prtD (fun p => .bl (decide (0 ≤ p.2) && decide (p.2 < nr))) rfl (fun p _ => ⟨rfl, fun _ => ⟨fun h => ⟨rfl, pick_of (ln_look nl nr nt).1.2 rfl ⟨ch_t h, rfl⟩⟩, fun h => ⟨ch_f h, rfl⟩⟩, fun h => nomatch h⟩) (fun _ => rfl) ?_⟩, (fun h => absurd h (by decide +kernel))⟩
      refine ⟨ps.map fun p => (decide (0 ≤ p.2) && decide (p.2 < nr)), by rw [List.map_map]; rfl, ?_⟩
      rw [e1]
      refine ⟨fun h => ?_, fun h => ?_⟩
      · have h : (ps.all fun p => decide (0 ≤ p.2) && decide (p.2 < nr)) = false := by simpa using h
        have := q
        simp only [Stp.ok] at this
        rw [h] at this
        exact this _
      · have h : (ps.all fun p => decide (0 ≤ p.2) && decide (p.2 < nr)) = true := by simpa using h
        simp only [Stp.ok] at q
        rw [h] at q
        exact ⟨(fun h => absurd h (by decide +kernel)), fun _ => ⟨(fun h => absurd h (by decide +kernel)), fun _ => doable_end (st := .row true room ps) q⟩⟩
  | tell k r =>
    have e2 : (false ^^ (kIdx false (tk.map D.int) (.int k)).isSome) = has tk k := by rw [kx_int, Bool.false_xor]
    simp only [Stp.ok] at q
    refine ⟨rfl, rfl, (fun h => absurd h (by decide +kernel)), fun _ => ⟨(fun h => absurd h (by decide +kernel)), fun _ => ⟨fun _ => ⟨rfl, fun h => ?_, fun h => ?_⟩, (fun h => absurd h (by decide +kernel))⟩⟩⟩
    · rw [e2] at h
      rw [h] at q
      exact ⟨fun _ => q _, (fun h => absurd h (by decide +kernel))⟩
    · rw [e2] at h
      rw [h] at q
      rw [Bool.not_false, Bool.true_and] at q
      refine ⟨fun h2 => ?_, fun h2 => ?_⟩
      · have h2 : decide (0 ≤ k) = true := h2
        rw [h2, Bool.true_and] at q
        refine ⟨rfl, pick_of (ln_look nl nr nt).2 rfl ⟨fun h3 => ?_, fun h3 => ?_⟩⟩
        · have h3 : decide (k < nt) = false := by simpa using h3
          rw [h3] at q
          exact q _
        · have h3 : decide (k < nt) = true := by simpa using h3
          rw [h3] at q
          exact doable_end (st := .tell k r) (by simpa [Stp.reads] using q)
      · have h2 : decide (0 ≤ k) = false := h2
        rw [h2] at q
        exact ⟨fun _ => q _, fun h => nomatch h⟩
  | times r a b => exact ⟨rfl, rfl, (fun h => absurd h (by decide +kernel)), fun _ => ⟨(fun h => absurd h (by decide +kernel)), fun _ => ⟨(fun h => absurd h (by decide +kernel)), fun _ => ⟨(fun h => absurd h (by decide +kernel)), fun _ => doable_end (st := .times r a b) q⟩⟩⟩⟩
  | put r n a => exact ⟨rfl, rfl, (fun h => absurd h (by decide +kernel)), fun _ => ⟨(fun h => absurd h (by decide +kernel)), fun _ => ⟨(fun h => absurd h (by decide +kernel)), fun _ => ⟨(fun h => absurd h (by decide +kernel)), fun _ => doable_end (st := .put r n a) q⟩⟩⟩⟩
  | add r n a => exact ⟨rfl, rfl, (fun h => absurd h (by decide +kernel)), fun _ => ⟨(fun h => absurd h (by decide +kernel)), fun _ => ⟨(fun h => absurd h (by decide +kernel)), fun _ => ⟨(fun h => absurd h (by decide +kernel)), fun _ => doable_end (st := .add r n a) q⟩⟩⟩⟩
  | emp r => exact ⟨rfl, rfl, (fun h => absurd h (by decide +kernel)), fun _ => ⟨(fun h => absurd h (by decide +kernel)), fun _ => ⟨(fun h => absurd h (by decide +kernel)), fun _ => ⟨(fun h => absurd h (by decide +kernel)), fun _ => doable_end (st := .emp r) q⟩⟩⟩⟩
structure RunS where
  held : List (Int × Int)
  told : List (Int × Int)
  times : Int
  sums : Int
  most : Int
def sideX (rt : Bool) (xs ys : List Int) : List Int := match rt with
  | true => ys
  | false => xs
def run0 : RunS := ⟨[], [], 0, 0, 0⟩
def partsV (row : List Int) (ps : List (Int × Int)) : Int := (ps.map fun p => p.1 * row.getD p.2.toNat 0).sum
def RunS.at (s : RunS) (a : Int) : Int := (lkA s.held a).getD 0
def mx (i j : Int) : Int := if j > i then j else i
def RunS.go1 (s : RunS) (xs ys : List Int) : Stp → RunS
  | .row rt r ps => { s with held := puA s.held r (partsV (sideX rt xs ys) ps), sums := s.sums + ((ps.length : Int) - 1) }
  | .times r a b => { s with held := puA s.held r (s.at a * s.at b), times := s.times + 1 }
  | .put r n a => { s with held := puA s.held r (n * s.at a) }
  | .add r n a => { s with held := puA s.held r (s.at r + n * s.at a), sums := s.sums + 1 }
  | .emp r => { s with held := erA s.held r }
  | .tell k r => { s with held := erA s.held r, told := puA s.told k (s.at r) }
def RunS.seen (s : RunS) : RunS := { s with most := mx s.most s.held.length }
def RunS.go (s : RunS) (xs ys : List Int) (st : Stp) : RunS := (s.go1 xs ys st).seen
/-- it can be done, and its multiplications are in the model's bounds -/
def RunS.can (s : RunS) (xs ys : List Int) (nt : Int) (st : Stp) : Prop := st.ok (s.held.map (·.1)) (s.told.map (·.1)) xs.length ys.length nt = true ∧ match st with
  | .row rt _ ps => ∀ p ∈ ps, MulOk p.1 ((sideX rt xs ys).getD p.2.toNat 0)
  | .times _ a b => MulOk (s.at a) (s.at b)
  | .put _ n a => MulOk n (s.at a)
  | .add _ n a => MulOk n (s.at a)
  | _ => True
abbrev FRun : List Str := ["rows", "held", "told", "times", "sums", "most"]
def rowsD (xs ys : List Int) : D := .dct .flat false [.str "left", .str "right"] [.lst .ice (xs.map D.int), .lst .ice (ys.map D.int)]
def iiD (o : Ow) (r : List (Int × Int)) : D := mpD o false D.int D.int r
def runD (cv : Addr) (xs ys : List Int) (s : RunS) : D := .ins .deep cv FRun [rowsD xs ys, iiD .flat s.held, iiD .flat s.told, .int s.times, .int s.sums, .int s.most]
def r_Run_init (cv : Addr) : FSpec := fun ds _ Q => ∃ xs ys : List Int, ds = [.ins .flat cv [] [], .lst .ice (xs.map D.int), .lst .ice (ys.map D.int)] ∧ ∀ tl, Q .non (some (runD cv xs ys run0) :: tl)
theorem rd_Run_init {cv : Addr} : RD_Run_init (r_Run_init cv) cv := by
  rintro ds ED QD - ⟨xs, ys, rfl, q⟩
  refine ⟨rfl, rfl, rfl, rfl, ?_⟩
  refine ⟨rfl, rfl, rfl, ?_⟩
  refine ⟨rfl, rfl, rfl, ?_⟩
  refine ⟨rfl, rfl, rfl, ?_⟩
  refine ⟨rfl, rfl, rfl, ?_⟩
  exact ⟨rfl, rfl, rfl, q _⟩
def r_Run_go (cv : Addr) : FSpec := fun ds _ Q => ∃ (xs ys : List Int) (s : RunS) (nt : Int) (st : Stp), ds = [runD cv xs ys s, stD st] ∧ s.can xs ys nt st ∧ s.held.length ≤ 1000000 ∧ s.told.length ≤ 1000000 ∧ ∀ tl, Q .non (some (runD cv xs ys (s.go xs ys st)) :: tl)
theorem go_end {cv : Addr} {xs ys : List Int} {s : RunS} {s1 s2 s3 s4 : Option D} {E : EE} {QD : D → En → Prop} (h1 : isF s1) (h2 : isF s2) (h3 : isF s3) (h4 : isF s4) (q : ∀ tl, QD .non (some (runD cv xs ys s.seen) :: tl)) :
    (rPutF 0 5 cv FRun (rThaw 0 (rCB dMax2 (rAC (oV (rUn (dFld cv FRun 5) (oV (rVar 0)))) (rAC (oV (rCB dLenD (rAC (oV (rUn (dFld cv FRun 1) (oV (rVar 0)))) rA0))) rA0))))) [some (runD cv xs ys s), s1, s2, s3, s4] E (finD 2 QD) := by
  refine ⟨rfl, rfl, rfl, rfl, rfl, ?_⟩
  rw [List.length_map]
  exact ⟨⟨Or.inr ⟨rfl, rfl⟩, tw_isF h1, tw_isF h2, tw_isF h3, tw_isF h4, True.intro⟩, rfl, rfl, rfl, rfl, q _⟩
section
variable {cv : Addr} {xs ys : List Int} {s : RunS} {rest : En} {E : EE} {F : FL.Fin} {rk : RE} {r v : Int}
theorem held_rd {Q : D → En → Prop} (h : lkA s.held r = some v) (q : Q (.int v) (some (runD cv xs ys s) :: rest)) (hk : ∀ (E : EE) (Q : D → En → Prop), Q (.int r) (none :: rest) → rk (none :: rest) E Q) :
    rRdP (rpDk (rpFld cv FRun 1 (rpN 0)) rk) (some (runD cv xs ys s) :: rest) E Q := by
  obtain ⟨j, hj, hv, _, _⟩ := mp_er (enc := D.int) ky_int r s.held v h
  refine ⟨rfl, rfl, (by show 1 < 6; decide), ?_⟩
  refine hk _ _ ⟨rfl, natAt_of hj ?_⟩
  rw [nf_eq]
  refine pick_of (d := .int v) ?_ rfl q
  show (match (s.held.map fun p => D.int p.2)[j]? with | some e => e.atS [] | none => none) = _
  rw [hv]; rfl
theorem held_sto (hz : s.held.length ≤ 1000000) (q : F.nx (some (runD cv xs ys { s with held := puA s.held r v }) :: rest)) (hk : ∀ (E : EE) (Q : D → En → Prop), Q (.int r) (none :: rest) → rk (none :: rest) E Q) :
    rpFld cv FRun 1 (rpN 0) (some (runD cv xs ys s) :: rest) E (fun i p ρ2 => match ρ2[i]? with
      | some (some d0) => rk (ρ2.set i none) (heldE i d0 E) fun dk ρ3 => match d0.atS p with
        | some (.dct o t ks ds) => o.mine = true ∧ keyOk t dk = true ∧ ks.length < sizeLine ∧ nf (ρ3.set i (some (d0.put p (.dct (o.more (D.int v).own) t (putKs t ks dk) (putDs t ks dk ds (.int v)))))) F.nx
        | _ => False
      | _ => False) := by
  refine ⟨rfl, rfl, (by show 1 < 6; decide), ?_⟩
  refine hk _ _ ⟨rfl, rfl, by rw [List.length_map, sizeLine_eq]; omega, ?_⟩
  rw [nf_eq]
  have e := mp_put (enc := D.int) ky_int r v s.held
  show F.nx (some (D.ins .deep cv FRun [rowsD xs ys, .dct .flat false (putKs false (s.held.map fun p => D.int p.1) (.int r)) (putDs false (s.held.map fun p => D.int p.1) (.int r) (s.held.map fun p => D.int p.2) (.int v)), iiD .flat s.told, .int s.times, .int s.sums, .int s.most]) :: rest)
  rw [e.1, e.2]
  exact q
theorem told_sto (hz : s.told.length ≤ 1000000) (q : F.nx (some (runD cv xs ys { s with told := puA s.told r v }) :: rest)) (hk : ∀ (E : EE) (Q : D → En → Prop), Q (.int r) (none :: rest) → rk (none :: rest) E Q) :
    rpFld cv FRun 2 (rpN 0) (some (runD cv xs ys s) :: rest) E (fun i p ρ2 => match ρ2[i]? with
      | some (some d0) => rk (ρ2.set i none) (heldE i d0 E) fun dk ρ3 => match d0.atS p with
        | some (.dct o t ks ds) => o.mine = true ∧ keyOk t dk = true ∧ ks.length < sizeLine ∧ nf (ρ3.set i (some (d0.put p (.dct (o.more (D.int v).own) t (putKs t ks dk) (putDs t ks dk ds (.int v)))))) F.nx
        | _ => False
      | _ => False) := by
  refine ⟨rfl, rfl, (by show 2 < 6; decide), ?_⟩
  refine hk _ _ ⟨rfl, rfl, by rw [List.length_map, sizeLine_eq]; omega, ?_⟩
  rw [nf_eq]
  have e := mp_put (enc := D.int) ky_int r v s.told
  show F.nx (some (D.ins .deep cv FRun [rowsD xs ys, iiD .flat s.held, .dct .flat false (putKs false (s.told.map fun p => D.int p.1) (.int r)) (putDs false (s.told.map fun p => D.int p.1) (.int r) (s.told.map fun p => D.int p.2) (.int v)), .int s.times, .int s.sums, .int s.most]) :: rest)
  rw [e.1, e.2]
  exact q
theorem rows_rd {Q : D → En → Prop} {rt : Bool} (q : Q (.lst .ice ((sideX rt xs ys).map D.int)) (some (runD cv xs ys s) :: rest)) (hk : ∀ (E : EE) (Q : D → En → Prop), Q (.str (sideS rt)) (none :: rest) → rk (none :: rest) E Q) :
    rRdP (rpDk (rpFld cv FRun 0 (rpN 0)) rk) (some (runD cv xs ys s) :: rest) E Q := by
  have h1 : kIdx false [D.str "left", .str "right"] (.str "left") = some 0 := by decide +kernel
  have h2 : kIdx false [D.str "left", .str "right"] (.str "right") = some 1 := by decide +kernel
  refine ⟨rfl, rfl, (by show 0 < 6; decide), ?_⟩
  cases rt with
  | false =>
    refine hk _ _ ⟨rfl, natAt_of h1 ?_⟩
    rw [nf_eq]
    exact q
  | true =>
    refine hk _ _ ⟨rfl, natAt_of h2 ?_⟩
    rw [nf_eq]
    exact q
theorem held_pop {Q : D → En → Prop} (h : lkA s.held r = some v) (q : Q (.int v) (some (runD cv xs ys { s with held := erA s.held r }) :: rest)) (hk : ∀ (E : EE) (Q : D → En → Prop), Q (.int r) (none :: rest) → rk (none :: rest) E Q) :
    rPopD1 (rpFld cv FRun 1 (rpN 0)) rk (some (runD cv xs ys s) :: rest) E Q := by
  obtain ⟨j, hj, hv, e1, e2⟩ := mp_er (enc := D.int) ky_int r s.held v h
  refine ⟨rfl, rfl, (by show 1 < 6; decide), rfl, ?_⟩
  refine hk _ _ ⟨rfl, rfl, ?_⟩
  rw [show kIdx false (s.held.map fun p => D.int p.1) (.int r) = some j from hj]
  refine pick_of hv rfl ?_
  rw [nf_eq]
  show Q (.int v) (some (D.ins .deep cv FRun [rowsD xs ys, .dct .flat false ((s.held.map fun p => D.int p.1).eraseIdx j) ((s.held.map fun p => D.int p.2).eraseIdx j), iiD .flat s.told, .int s.times, .int s.sums, .int s.most]) :: rest)
  rw [e1, e2]
  exact q
end
theorem rd_Run_go {cv : Addr} : RD_Run_go (r_Run_go cv) cv := by
  rintro ds ED QD - ⟨xs, ys, s, nt, st, rfl, ⟨ok, can⟩, hz, hz2, q⟩
  have so : isF (some (stD st)) := isF_some (by cases st <;> rfl)
  have look : ∀ {r : Int}, has (s.held.map (·.1)) r = true → lkA s.held r = some (s.at r) := fun {r} h => by
    have h : r ∈ s.held.map (·.1) := of_decide_eq_true h
    have := lkA_some.mpr h
    unfold RunS.at
    cases e : lkA s.held r with
    | none => rw [e] at this; cases this
    | some v => rfl
  refine cut_on [0, 2] [] (fun z => ∃ y, z = [some (runD cv xs ys (s.go1 xs ys st)), y] ∧ isF y) ?_ ?_
  · cases st with
    | row rt r ps =>
      have hok : ∀ p ∈ ps, 0 ≤ p.2 ∧ p.2 < ((sideX rt xs ys).length : Int) := fun p hp => by
        cases rt <;> (simp only [Stp.ok] at ok; have := List.all_eq_true.mp ok p hp; simpa [sideX] using this)
      have key : ∀ (row : List Int) (y2 : Option D), (∀ p ∈ ps, 0 ≤ p.2 ∧ p.2 < (row.length : Int)) → (∀ p ∈ ps, MulOk p.1 (row.getD p.2.toNat 0)) → partsV (sideX rt xs ys) ps = partsV row ps →
          (rSeq (rSetDP (rpFld cv FRun 1 (rpN 0)) (rBin dIx (oV (rVar 1)) (oV (rC (.int 1)))) (rCB dSum (rAC (oV (rComp (rItA (rBin dIx (oV (rVar 1)) (oV (rC (.int 2))))) (gTp 2 (gCs (gNm 3) (gCs (gNm 4) gNl))) rYes (rBin dMulX (oV (rVar 3)) (oV (rBin dIx (oV (rVar 2)) (oV (rVar 4))))) [4, 3])) rA0)))
            (rAugF 0 4 cv FRun (rIc (fun i => i - 1) (oV (rCB dLen (rAC (oV (rBin dIx (oV (rVar 1)) (oV (rC (.int 2))))) rA0))))))
            [some (runD cv xs ys s), some (stD (.row rt r ps)), some (.lst .ice (row.map D.int)), none, none] (fun c fs ρ => ED c fs (ρ.take 2)) ((finD 2 QD).wn fun ρ' => ρ' = putJ (startD ["self", "step", "row", "number", "place"] [runD cv xs ys s, stD (.row rt r ps)]) [0, 2] [] (readA ρ' [0, 2]) (readA ρ' []) ∧ ∃ y, readA ρ' [0, 2] = [some (runD cv xs ys (s.go1 xs ys (.row rt r ps))), y] ∧ isF y) := by
        intro row y2 h1 h2 h3
        refine ⟨compR_allE ps prtD (fun p => .int (p.1 * row.getD p.2.toNat 0)) rfl (fun p hp => ⟨rfl, fun _ => ?_, fun h => (nomatch h)⟩) (fun _ => rfl) ⟨_, (by rw [List.map_map]; rfl), ?_⟩⟩
        · obtain ⟨a, b⟩ := h1 p hp
          refine pick_at a b (fun _ => rfl) fun x hx => ?_
          have e : row.getD p.2.toNat 0 = x := by rw [List.getD_eq_getElem?_getD, hx]; rfl
          have := h2 p hp
          rw [e] at this
          exact ⟨this, by rw [e], rfl⟩
        · refine held_sto (rest := [some (stD (.row rt r ps)), some (.lst .ice (row.map D.int)), none, none]) hz ?_ fun E Q h => h
          have h3 : partsV (sideX rt xs ys) ps = (ps.map fun p => p.1 * row.getD p.2.toNat 0).sum := h3
          rw [← h3]
          refine ⟨rfl, rfl, ?_⟩
          conv => whnf
          refine ⟨rfl, rfl, rfl, ?_⟩
          rw [List.length_map]
          exact ⟨rfl, _, rfl, isF_some⟩
      cases rt with
      | false => exact ⟨rfl, rfl, fun _ => rows_rd (rt := false) (key xs none hok can rfl) fun E Q h => h, (fun h => absurd h (by decide +kernel))⟩
      | true => exact ⟨rfl, rfl, fun _ => rows_rd (rt := true) (key ys none hok can rfl) fun E Q h => h, (fun h => absurd h (by decide +kernel))⟩
    | times r a b =>
      simp only [Stp.ok, Stp.reads, List.all_cons, List.all_nil, Bool.and_true, Bool.and_eq_true] at ok
      refine ⟨rfl, rfl, (fun h => absurd h (by decide +kernel)), fun _ => ⟨fun _ => ?_, (fun h => absurd h (by decide +kernel))⟩⟩
      refine held_rd (look ok.1) (held_rd (look ok.2) ⟨can, ?_⟩ fun E Q h => h) fun E Q h => h
      exact held_sto hz ⟨rfl, rfl, rfl, rfl, rfl, rfl, _, rfl, isF_none⟩ fun E Q h => h
    | put r n a =>
      simp only [Stp.ok, Stp.reads, List.all_cons, List.all_nil, Bool.and_true, Bool.and_eq_true] at ok
      refine ⟨rfl, rfl, (fun h => absurd h (by decide +kernel)), fun _ => ⟨(fun h => absurd h (by decide +kernel)), fun _ => ⟨fun _ => ?_, (fun h => absurd h (by decide +kernel))⟩⟩⟩
      refine held_rd (look ok) ⟨can, ?_⟩ fun E Q h => h
      exact held_sto hz ⟨rfl, _, rfl, isF_none⟩ fun E Q h => h
    | add r n a =>
      simp only [Stp.ok, Stp.reads, List.all_cons, List.all_nil, Bool.and_true, Bool.and_eq_true] at ok
      have lk : ∀ {r : Int}, has (s.held.map (·.1)) r = true → dLook false (s.held.map fun p => D.int p.1) (s.held.map fun p => D.int p.2) (.int r) = some (.int (s.at r)) := fun {r} h => by
        rw [mp_look ky_int, look h]; rfl
      have ep := mp_put (enc := D.int) ky_int r (s.at r + n * s.at a) s.held
      refine ⟨rfl, rfl, (fun h => absurd h (by decide +kernel)), fun _ => ⟨(fun h => absurd h (by decide +kernel)), fun _ => ⟨(fun h => absurd h (by decide +kernel)), fun _ => ⟨fun _ => ?_, (fun h => absurd h (by decide +kernel))⟩⟩⟩⟩
      refine ⟨rfl, rfl, (by show 1 < 6; decide), rfl, rfl, by rw [List.length_map, sizeLine_eq]; omega, intAt_of (lk ok.1) ?_⟩
      refine ⟨rfl, rfl, rfl, pick_of (lk ok.2) rfl ⟨can, ⟨Or.inr ⟨rfl, rfl⟩, tw_isF so, tw_isF isF_none, tw_isF isF_none, tw_isF isF_none, True.intro⟩, ?_⟩⟩
      rw [nf_eq]
      show ((rAugF 0 4 cv FRun (rC (.int 1)))) [some (D.ins .deep cv FRun [rowsD xs ys, .dct .flat false (putKs false (s.held.map fun p => D.int p.1) (.int r)) (putDs false (s.held.map fun p => D.int p.1) (.int r) (s.held.map fun p => D.int p.2) (.int (s.at r + n * s.at a))), iiD .flat s.told, .int s.times, .int s.sums, .int s.most]), some (stD (.add r n a)), none, none, none] _ _
      rw [ep.1, ep.2]
      exact ⟨rfl, rfl, rfl, rfl, rfl, rfl, _, rfl, isF_none⟩
    | emp r =>
      simp only [Stp.ok, Stp.reads, List.all_cons, List.all_nil, Bool.and_true, Bool.and_eq_true] at ok
      refine ⟨rfl, rfl, (fun h => absurd h (by decide +kernel)), fun _ => ⟨(fun h => absurd h (by decide +kernel)), fun _ => ⟨(fun h => absurd h (by decide +kernel)), fun _ => ⟨(fun h => absurd h (by decide +kernel)), fun _ => ⟨fun _ => ?_, (fun h => absurd h (by decide +kernel))⟩⟩⟩⟩⟩
      exact held_pop (look ok) ⟨rfl, _, rfl, isF_none⟩ fun E Q h => h
    | tell k r =>
      simp only [Stp.ok, Bool.and_eq_true] at ok
      refine ⟨rfl, rfl, (fun h => absurd h (by decide +kernel)), fun _ => ⟨(fun h => absurd h (by decide +kernel)), fun _ => ⟨(fun h => absurd h (by decide +kernel)), fun _ => ⟨(fun h => absurd h (by decide +kernel)), fun _ => ⟨(fun h => absurd h (by decide +kernel)), fun _ => ?_⟩⟩⟩⟩⟩
      refine held_pop (look ok.2) ?_ fun E Q h => h
      exact told_sto hz2 ⟨rfl, _, rfl, isF_none⟩ fun E Q h => h
  · rintro z j hj ⟨y, rfl, hy⟩
    exact go_end (E := fun c fs ρ => ED c fs (ρ.take 2)) so hy isF_none isF_none q
def runOk (xs ys : List Int) (nt : Int) : RunS → List Stp → Prop
  | _, [] => True
  | s, st :: r => s.can xs ys nt st ∧ runOk xs ys nt (s.go xs ys st) r
def runTo (xs ys : List Int) (s : RunS) (P : List Stp) : RunS := P.foldl (fun s st => s.go xs ys st) s
theorem runOk_at {xs ys : List Int} {nt : Int} : ∀ {P : List Stp} {s : RunS} {k : Nat} {st : Stp}, runOk xs ys nt s P → P[k]? = some st → (runTo xs ys s (P.take k)).can xs ys nt st
  | [], _, _, _, _, h => by simp at h
  | a :: P, s, 0, st, h, e => by cases e; exact h.1
  | a :: P, s, k + 1, st, h, e => runOk_at (P := P) h.2 (by simpa using e)
theorem runTo_succ {xs ys : List Int} {P : List Stp} {s : RunS} {k : Nat} {st : Stp} (e : P[k]? = some st) : runTo xs ys s (P.take (k + 1)) = (runTo xs ys s (P.take k)).go xs ys st := by
  unfold runTo
  rw [List.take_succ, e, List.foldl_append]
  rfl
theorem go_len (xs ys : List Int) (s : RunS) (st : Stp) : (s.go xs ys st).held.length ≤ s.held.length + 1 ∧ (s.go xs ys st).told.length ≤ s.told.length + 1 := by
  cases st with
  | row rt r ps => exact ⟨puA_len _ _ _, Nat.le_succ _⟩
  | times r a b => exact ⟨puA_len _ _ _, Nat.le_succ _⟩
  | put r n a => exact ⟨puA_len _ _ _, Nat.le_succ _⟩
  | add r n a => exact ⟨puA_len _ _ _, Nat.le_succ _⟩
  | emp r => exact ⟨Nat.le_succ_of_le (erA_len _ _), Nat.le_succ _⟩
  | tell k r => exact ⟨Nat.le_succ_of_le (erA_len _ _), puA_len _ _ _⟩
theorem runTo_len (xs ys : List Int) : ∀ (P : List Stp) (s : RunS), (runTo xs ys s P).held.length ≤ s.held.length + P.length ∧ (runTo xs ys s P).told.length ≤ s.told.length + P.length
  | [], s => ⟨Nat.le_refl _, Nat.le_refl _⟩
  | a :: P, s => by
    have h1 := go_len xs ys s a
    have h2 := runTo_len xs ys P (s.go xs ys a)
    have e : runTo xs ys s (a :: P) = runTo xs ys (s.go xs ys a) P := rfl
    rw [e, List.length_cons]
    omega
def toldRow (s : RunS) (m : Nat) : List Int := (List.range m).map fun (k : Nat) => (lkA s.told (k : Int)).getD 0
def resD (o : Bool) (q : Ow) (s : RunS) (m : Nat) : D := .tup o [.lst q ((toldRow s m).map D.int), .int s.times, .int s.sums, .int s.most]
def r_run_program : FSpec := fun ds _ Q => ∃ (P : List Stp) (xs ys : List Int) (m : Nat), ds = [.lst .ice (P.map stD), .lst .ice (xs.map D.int), .lst .ice (ys.map D.int), .int m] ∧ runOk xs ys m run0 P ∧ P.length ≤ 1000000 ∧ m ≤ 1000000 ∧ ∀ os, Q (resD true .flat (runTo xs ys run0 P) m) os
theorem lenD_eq (xs ys : List Int) (m : Nat) : (D.dct .ice false [.str "left", .str "right", .str "tell"] [.int ((xs.map D.int).length : Nat), .int ((ys.map D.int).length : Nat), .int m]) = lnD xs.length ys.length m := by
  rw [List.length_map, List.length_map]; rfl
theorem dbl_arg {s : RunS} {st : Stp} {xs ys : List Int} {m : Nat} : [stD st, D.dct .ice false (s.held.map fun p => D.int p.1) (s.held.map fun p => D.int p.2), D.dct .ice false (s.told.map fun p => D.int p.1) (s.told.map fun p => D.int p.2),
    D.dct .ice false [.str "left", .str "right", .str "tell"] [.int ((xs.map D.int).length : Nat), .int ((ys.map D.int).length : Nat), .int m]] =
    [stD st, .dct .ice false ((s.held.map (·.1)).map D.int) (s.held.map fun p => D.int p.2), .dct .ice false ((s.told.map (·.1)).map D.int) (s.told.map fun p => D.int p.2), lnD xs.length ys.length m] := by
  rw [lenD_eq, List.map_map, List.map_map]; rfl
theorem rd_run_program {cv : Addr} : RD_run_program r_run_program (r_Run_init cv) (r_Run_go cv) r_is_doable cv := by
  rintro ds ED QD - ⟨P, xs, ys, m, rfl, ok, hP, hm, q⟩
  refine ⟨xs, ys, rfl, fun tl => ⟨rfl, _, rfl, ?_⟩⟩
  refine ⟨rfl, ?_⟩
  conv => whnf
  refine ⟨forR_on [4, 6, 7] [] (fun k s => ∃ g1 g2, s = [some (runD cv xs ys (runTo xs ys run0 (P.take k))), g1, g2] ∧ isF g1 ∧ isF g2) _ _ ⟨_, _, rfl, isF_none, isF_none⟩ ?_ ?_⟩
  · rintro k d s j hd hj ⟨g1, g2, rfl, hg1, hg2⟩
    cases len0 hj
    rw [enD_get, List.getElem?_map] at hd
    obtain ⟨dv, hdv, rfl⟩ := Option.map_eq_some_iff.mp hd
    obtain ⟨st, hp, rfl⟩ := Option.map_eq_some_iff.mp hdv
    have cn := runOk_at ok hp
    have hl := runTo_len xs ys (P.take k) run0
    have hk : (P.take k).length ≤ P.length := by rw [List.length_take]; omega
    rw [runTo_succ hp]
    generalize runTo xs ys run0 (P.take k) = s at cn hl ⊢
    have h1 : s.held.length ≤ 1000000 := by have : run0.held.length = 0 := rfl; omega
    have h2 : s.told.length ≤ 1000000 := by have : run0.told.length = 0 := rfl; omega
    refine ⟨rfl, ?_⟩
    have tws : ∀ st : Stp, tw (some (stD st)) (some (stD st)) := fun st => tw_isF (isF_some (by cases st <;> rfl))
    cases st with
    | row b1 b2 b3 =>
      refine ⟨rfl, rfl, rfl, rfl, _, _, _, _, _, _, _, _, dbl_arg (s := s) (st := (Stp.row b1 b2 b3)) (xs := xs) (ys := ys) (m := m), fun os => ?_⟩
      rw [cn.1]
      refine ⟨⟨tw_isF isF_some, tw_isF isF_some, tw_isF isF_some, tw_isF isF_some, tw_isF isF_some, tw_isF isF_some, tw_isF isF_some, tws (Stp.row b1 b2 b3), tw_isF isF_none, True.intro⟩, fun h => (nomatch h), fun _ => ?_⟩
      exact ⟨⟨_, _, rfl⟩, xs, ys, s, _, _, rfl, cn, h1, h2, fun tl => ⟨rfl, _, _, rfl, isF_some, isF_some⟩⟩
    | times b1 b2 b3 =>
      refine ⟨rfl, rfl, rfl, rfl, _, _, _, _, _, _, _, _, dbl_arg (s := s) (st := (Stp.times b1 b2 b3)) (xs := xs) (ys := ys) (m := m), fun os => ?_⟩
      rw [cn.1]
      refine ⟨⟨tw_isF isF_some, tw_isF isF_some, tw_isF isF_some, tw_isF isF_some, tw_isF isF_some, tw_isF isF_some, tw_isF isF_some, tws (Stp.times b1 b2 b3), tw_isF isF_none, True.intro⟩, fun h => (nomatch h), fun _ => ?_⟩
      exact ⟨⟨_, _, rfl⟩, xs, ys, s, _, _, rfl, cn, h1, h2, fun tl => ⟨rfl, _, _, rfl, isF_some, isF_some⟩⟩
    | put b1 b2 b3 =>
      refine ⟨rfl, rfl, rfl, rfl, _, _, _, _, _, _, _, _, dbl_arg (s := s) (st := (Stp.put b1 b2 b3)) (xs := xs) (ys := ys) (m := m), fun os => ?_⟩
      rw [cn.1]
      refine ⟨⟨tw_isF isF_some, tw_isF isF_some, tw_isF isF_some, tw_isF isF_some, tw_isF isF_some, tw_isF isF_some, tw_isF isF_some, tws (Stp.put b1 b2 b3), tw_isF isF_none, True.intro⟩, fun h => (nomatch h), fun _ => ?_⟩
      exact ⟨⟨_, _, rfl⟩, xs, ys, s, _, _, rfl, cn, h1, h2, fun tl => ⟨rfl, _, _, rfl, isF_some, isF_some⟩⟩
    | add b1 b2 b3 =>
      refine ⟨rfl, rfl, rfl, rfl, _, _, _, _, _, _, _, _, dbl_arg (s := s) (st := (Stp.add b1 b2 b3)) (xs := xs) (ys := ys) (m := m), fun os => ?_⟩
      rw [cn.1]
      refine ⟨⟨tw_isF isF_some, tw_isF isF_some, tw_isF isF_some, tw_isF isF_some, tw_isF isF_some, tw_isF isF_some, tw_isF isF_some, tws (Stp.add b1 b2 b3), tw_isF isF_none, True.intro⟩, fun h => (nomatch h), fun _ => ?_⟩
      exact ⟨⟨_, _, rfl⟩, xs, ys, s, _, _, rfl, cn, h1, h2, fun tl => ⟨rfl, _, _, rfl, isF_some, isF_some⟩⟩
    | emp b1 =>
      refine ⟨rfl, rfl, rfl, rfl, _, _, _, _, _, _, _, _, dbl_arg (s := s) (st := (Stp.emp b1)) (xs := xs) (ys := ys) (m := m), fun os => ?_⟩
      rw [cn.1]
      refine ⟨⟨tw_isF isF_some, tw_isF isF_some, tw_isF isF_some, tw_isF isF_some, tw_isF isF_some, tw_isF isF_some, tw_isF isF_some, tws (Stp.emp b1), tw_isF isF_none, True.intro⟩, fun h => (nomatch h), fun _ => ?_⟩
      exact ⟨⟨_, _, rfl⟩, xs, ys, s, _, _, rfl, cn, h1, h2, fun tl => ⟨rfl, _, _, rfl, isF_some, isF_some⟩⟩
    | tell b1 b2 =>
      refine ⟨rfl, rfl, rfl, rfl, _, _, _, _, _, _, _, _, dbl_arg (s := s) (st := (Stp.tell b1 b2)) (xs := xs) (ys := ys) (m := m), fun os => ?_⟩
      rw [cn.1]
      refine ⟨⟨tw_isF isF_some, tw_isF isF_some, tw_isF isF_some, tw_isF isF_some, tw_isF isF_some, tw_isF isF_some, tw_isF isF_some, tws (Stp.tell b1 b2), tw_isF isF_none, True.intro⟩, fun h => (nomatch h), fun _ => ?_⟩
      exact ⟨⟨_, _, rfl⟩, xs, ys, s, _, _, rfl, cn, h1, h2, fun tl => ⟨rfl, _, _, rfl, isF_some, isF_some⟩⟩
  · rintro s j hj ⟨g1, g2, rfl, hg1, hg2⟩
    cases len0 hj
    have eP : (P.map stD).length = P.length := List.length_map _
    rw [enD_len, eP, List.take_length]
    generalize hS : runTo xs ys run0 P = S
    rw [hS] at q
    have lk : ∀ k : Int, dLook false (S.told.map fun p => D.int p.1) (S.told.map fun p => D.int p.2) (.int k) = (lkA S.told k).map D.int := fun k => mp_look ky_int k S.told
    have el : ((m : Int) - 0).toNat = m := by omega
    refine ⟨⟨by decide, by omega, by omega⟩, ⟨compR_allE (List.range ((m : Int) - 0).toNat) _ (fun k => .int ((lkA S.told (0 + (k : Int))).getD 0)) rfl (fun k hk => ⟨fun _ => ⟨rfl, rfl, ?_⟩, fun h => (nomatch h)⟩) (fun _ => rfl) ?_⟩⟩
    · refine ⟨rfl, rfl, rfl, pickOr_of (y := .int ((lkA S.told (0 + (k : Int))).getD 0)) ?_ rfl ⟨rfl, rfl⟩⟩
      rw [lk]
      cases lkA S.told (0 + (k : Int)) with
      | none => exact .inr ⟨rfl, rfl⟩
      | some v => exact .inl rfl
    · refine ⟨rfl, rfl, rfl, rfl, rfl, rfl, ⟨tw_isF isF_some, tw_isF isF_some, tw_isF isF_some, tw_isF isF_some, tw_isF isF_some, tw_isF isF_some, tw_isF hg1, tw_isF hg2, tw_isF isF_none, True.intro⟩, ?_⟩
      have er : ((List.range ((m : Int) - 0).toNat).map fun k : Nat => D.int ((lkA S.told (0 + (k : Int))).getD 0)) = (toldRow S m).map D.int := by
        rw [el]; unfold toldRow; rw [List.map_map]
        exact List.map_congr_left fun k _ => by simp
      rw [er]
      refine ⟨?_, q _⟩
      have : ∀ xs : List Int, cleanL (xs.map D.int) = true := fun xs => cleanL_all.mpr fun d hd => by obtain ⟨i, _, rfl⟩ := List.mem_map.mp hd; rfl
      show cleanL [.lst .flat ((toldRow S m).map D.int), .int S.times, .int S.sums, .int S.most] = true
      simp only [cleanL, D.clean, this, Bool.and_self]
end Cm
namespace Cm
open PySem PySem.Spec PyProof.Rows L2 FL
def rb_law_of_sort : RS := (rRet (rComp (rItA (rCB dSortDK (rAC (oV (rVar 0)) rA0))) (gNm 3) (rOr (rNot (rTst (rVar 2))) (rTst (rBin dEq (oV (rBin dIx (oV (rVar 0)) (oV (rVar 3)))) (oV (rVar 1))))) (rVar 3) [3]))
abbrev RD_law_of_sort (r : FSpec) : Prop := ∀ ds ED QD, ds.length = 3 → r ds ED QD → rb_law_of_sort (startD ["_law_held", "_law_sort", "_law_sorts", "_law_room_here"] ds) (fun c fs ρ => ED c fs (ρ.take 3)) (finD 3 QD)
def rb_law_kept : RS := (rIf (rTst (rBin (dIn false) (oV (rBin dIx (oV (rVar 0)) (oV (rC (.int 0))))) (oV (rTup (rAC (oV (rC (.str "left"))) (rAC (oV (rC (.str "right"))) rA0)))))) (rSetD 1 (oV (rBin dIx (oV (rVar 0)) (oV (rC (.int 1))))) (rBin dIx (oV (rVar 0)) (oV (rC (.int 0))))) (rIf (rTst (rBin dEq (oV (rBin dIx (oV (rVar 0)) (oV (rC (.int 0))))) (oV (rC (.str "times"))))) (rSetD 1 (oV (rBin dIx (oV (rVar 0)) (oV (rC (.int 1))))) (rC (.str "products"))) (rIf (rTst (rBin dEq (oV (rBin dIx (oV (rVar 0)) (oV (rC (.int 0))))) (oV (rC (.str "put"))))) (rSetD 1 (oV (rBin dIx (oV (rVar 0)) (oV (rC (.int 1))))) (rBin dIx (oN 1) (oV (rBin dIx (oV (rVar 0)) (oV (rC (.int 3))))))) (rIf (rTst (rBin dEq (oV (rBin dIx (oV (rVar 0)) (oV (rC (.int 0))))) (oV (rC (.str "empty"))))) (rDrop (rPopD1 (rpN 1) (rBin dIx (oV (rVar 0)) (oV (rC (.int 1)))))) (rIf (rTst (rBin dEq (oV (rBin dIx (oV (rVar 0)) (oV (rC (.int 0))))) (oV (rC (.str "tell"))))) (rSeq (rDrop (rApp 2 (rBin dIx (oV (rVar 0)) (oV (rC (.int 1))))))
  (rDrop (rPopD1 (rpN 1) (rBin dIx (oV (rVar 0)) (oV (rC (.int 2))))))) rNx)))))
abbrev RD_law_kept (r : FSpec) : Prop := ∀ ds ED QD, ds.length = 3 → r ds ED QD → rb_law_kept (startD ["_law_step_here", "_law_held", "_law_told"] ds) (fun c fs ρ => ED c fs (ρ.take 3)) (finD 3 QD)
def rb_law_step (r_law_take : FSpec) (r_law_room : FSpec) (r_law_of_sort : FSpec) (r_law_parts : FSpec) (r_law_value : FSpec) : RS := (rSeq (rSetF 5 (rCall [0] r_law_take (rAC (oN 0) (rAC (oV (rC (.int 9))) rA0))))
  (rSeq (rSetF 6 (rCall [0] r_law_room (rAC (oN 0) rA0)))
  (rSeq (rSetF 7 (rCall [] r_law_of_sort (rAC (oV (rVar 2)) (rAC (oV (rC (.str "left"))) (rAC (oV (rVar 4)) rA0)))))
  (rSeq (rSetF 8 (rCall [] r_law_of_sort (rAC (oV (rVar 2)) (rAC (oV (rC (.str "right"))) (rAC (oV (rVar 4)) rA0)))))
  (rSeq (rSetF 9 (rCall [] r_law_of_sort (rAC (oV (rVar 2)) (rAC (oV (rC (.str "products"))) (rAC (oV (rVar 4)) rA0)))))
  (rSeq (rCut (rIf (rAnd (rTst (rBin dEq (oV (rVar 5)) (oV (rC (.int 2))))) (rAnd (rTst (rBin dNe (oV (rVar 7)) (oV (rLst rA0)))) (rTst (rBin dNe (oV (rVar 8)) (oV (rLst rA0)))))) (rSeq (rSetF 12 (rBin dIx (oV (rVar 7)) (oV (rCall [0] r_law_take (rAC (oN 0) (rAC (oV (rCB dLen (rAC (oV (rVar 7)) rA0))) rA0))))))
  (rRet (rTup (rAC (oV (rC (.str "times"))) (rAC (oV (rVar 6)) (rAC (oV (rVar 12)) (rAC (oV (rBin dIx (oV (rVar 8)) (oV (rCall [0] r_law_take (rAC (oN 0) (rAC (oV (rCB dLen (rAC (oV (rVar 8)) rA0))) rA0)))))) rA0))))))) rNx))
  (rSeq (rCut (rIf (rAnd (rTst (rBin dEq (oV (rVar 5)) (oV (rC (.int 3))))) (rTst (rBin dNe (oV (rVar 9)) (oV (rLst rA0))))) (rRet (rTup (rAC (oV (rC (.str "put"))) (rAC (oV (rVar 6)) (rAC (oV (rCall [0] r_law_value (rAC (oN 0) rA0))) (rAC (oV (rBin dIx (oV (rVar 9)) (oV (rCall [0] r_law_take (rAC (oN 0) (rAC (oV (rCB dLen (rAC (oV (rVar 9)) rA0))) rA0)))))) rA0)))))) rNx))
  (rSeq (rCut (rIf (rAnd (rOr (rTst (rBin dEq (oV (rVar 5)) (oV (rC (.int 4))))) (rTst (rBin dEq (oV (rVar 5)) (oV (rC (.int 5)))))) (rTst (rBin dNe (oV (rVar 9)) (oV (rLst rA0))))) (rSeq (rSetF 12 (rBin dIx (oV (rVar 9)) (oV (rCall [0] r_law_take (rAC (oN 0) (rAC (oV (rCB dLen (rAC (oV (rVar 9)) rA0))) rA0))))))
  (rRet (rTup (rAC (oV (rC (.str "add"))) (rAC (oV (rVar 12)) (rAC (oV (rCall [0] r_law_value (rAC (oN 0) rA0))) (rAC (oV (rBin dIx (oV (rVar 9)) (oV (rCall [0] r_law_take (rAC (oN 0) (rAC (oV (rCB dLen (rAC (oV (rVar 9)) rA0))) rA0)))))) rA0))))))) rNx))
  (rSeq (rCut (rIf (rAnd (rTst (rBin dEq (oV (rVar 5)) (oV (rC (.int 6))))) (rTst (rBin (dEq0 true) (oV (rVar 2)) (oV (rDNew false))))) (rRet (rTup (rAC (oV (rC (.str "empty"))) (rAC (oV (rBin dIx (oV (rCB dSortDK (rAC (oV (rVar 2)) rA0))) (oV (rCall [0] r_law_take (rAC (oN 0) (rAC (oV (rCB dLenD (rAC (oV (rVar 2)) rA0))) rA0)))))) rA0)))) rNx))
  (rSeq (rSetF 10 (rComp (rRg1 (rAC (oV (rBin dIx (oV (rVar 1)) (oV (rC (.int 2))))) rA0)) (gNm 13) (rTst (rBin (dIn true) (oV (rVar 13)) (oV (rVar 3)))) (rVar 13) [13]))
  (rSeq (rCut (rIf (rAnd (rTst (rBin dGt (oV (rVar 5)) (oV (rC (.int 6))))) (rAnd (rTst (rBin dNe (oV (rVar 9)) (oV (rLst rA0)))) (rTst (rBin dNe (oV (rVar 10)) (oV (rLst rA0)))))) (rSeq (rSetF 13 (rBin dIx (oV (rVar 10)) (oV (rCall [0] r_law_take (rAC (oN 0) (rAC (oV (rCB dLen (rAC (oV (rVar 10)) rA0))) rA0))))))
  (rRet (rTup (rAC (oV (rC (.str "tell"))) (rAC (oV (rVar 13)) (rAC (oV (rBin dIx (oV (rVar 9)) (oV (rCall [0] r_law_take (rAC (oN 0) (rAC (oV (rCB dLen (rAC (oV (rVar 9)) rA0))) rA0)))))) rA0)))))) rNx))
  (rSeq (rSetF 11 (rCall [0] r_law_take (rAC (oN 0) (rAC (oV (rC (.int 2))) rA0))))
  (rRet (rTup (rAC (oV (rBin dIx (oV (rLst (rAC (oV (rC (.str "left"))) (rAC (oV (rC (.str "right"))) rA0)))) (oV (rVar 11)))) (rAC (oV (rVar 6)) (rAC (oV (rCall [0] r_law_parts (rAC (oN 0) (rAC (oV (rBin dIx (oV (rVar 1)) (oV (rVar 11)))) rA0)))) rA0)))))))))))))))))
abbrev RD_law_step (r : FSpec) (r_law_take : FSpec) (r_law_room : FSpec) (r_law_of_sort : FSpec) (r_law_parts : FSpec) (r_law_value : FSpec) : Prop := ∀ ds ED QD, ds.length = 5 → r ds ED QD → (rb_law_step r_law_take r_law_room r_law_of_sort r_law_parts r_law_value) (startD ["_law_box_here", "_law_lengths_here", "_law_held", "_law_told", "_law_sorts", "_law_way", "_law_room_here", "_law_lefts", "_law_rights", "_law_products", "_law_free", "_law_side", "_law_one", "_law_k"] ds) (fun c fs ρ => ED c fs (ρ.take 5)) (finD 5 QD)
def rb_law_program (r_law_step : FSpec) (r_law_kept : FSpec) : RS := (rSeq (rSet 4 (rDNew false))
  (rSeq (rSet 5 (rLst rA0))
  (rSeq (rSet 6 (rLst rA0))
  (rSeq (rFor (rRg1 (rAC (oV (rVar 2)) rA0)) (gNm 7) (rSeq (rSetF 8 (rHide 6 (rThaw 4 (rThaw 5 (rCall [0] r_law_step (rAC (oN 0) (rAC (oV (rVar 1)) (rAC (oV (rVar 4)) (rAC (oV (rVar 5)) (rAC (oV (rVar 3)) rA0))))))))))
  (rSeq (rSetF 9 (rThaw 6 (rCB dLen (rAC (oV (rComp (rItA (rVar 6)) (gNm 10) (rTst (rBin dEq (oV (rBin dIx (oV (rVar 10)) (oV (rC (.int 0))))) (oV (rC (.str "times"))))) (rVar 10) [10])) rA0))))
  (rIf (rOr (rTst (rBin dNe (oV (rBin dIx (oV (rVar 8)) (oV (rC (.int 0))))) (oV (rC (.str "times"))))) (rOr (rTst (rVar 3)) (rTst (rBin dLt (oV (rVar 9)) (oV (rC (.int 4))))))) (rSeq (rDrop (rApp 6 (rVar 8)))
  (rDrop (rCall [1, 2] r_law_kept (rAC (oV (rVar 8)) (rAC (oN 4) (rAC (oN 5) rA0)))))) rNx))))
  (rRet (rVar 6))))))
abbrev RD_law_program (r : FSpec) (r_law_step : FSpec) (r_law_kept : FSpec) : Prop := ∀ ds ED QD, ds.length = 4 → r ds ED QD → (rb_law_program r_law_step r_law_kept) (startD ["_law_box_here", "_law_lengths_here", "_law_size", "_law_sorts", "_law_held", "_law_told", "_law_steps", "_law_turn", "_law_step_here", "_law_many", "_law_one"] ds) (fun c fs ρ => ED c fs (ρ.take 4)) (finD 4 QD)
def rb_law_sizes (r_law_lengths : FSpec) (r_law_take : FSpec) : RS := (rSeq (rIf (rTst (rBin dEq (oV (rCall [0] r_law_take (rAC (oN 0) (rAC (oV (rC (.int 8))) rA0)))) (oV (rC (.int 0))))) (rRet (rComp (rRg1 (rAC (oV (rC (.int 3))) rA0)) (gNm 1) rYes (rIc (fun i => 9 + i) (oV (rCall [0] r_law_take (rAC (oN 0) (rAC (oV (rC (.int 4))) rA0))))) [1])) rNx)
  (rRet (rCall [0] r_law_lengths (rAC (oN 0) (rAC (oV (rC (.int 5))) rA0)))))
abbrev RD_law_sizes (r : FSpec) (r_law_lengths : FSpec) (r_law_take : FSpec) : Prop := ∀ ds ED QD, ds.length = 1 → r ds ED QD → (rb_law_sizes r_law_lengths r_law_take) (startD ["_law_box_here", "_law_side"] ds) (fun c fs ρ => ED c fs (ρ.take 1)) (finD 1 QD)
end Cm
namespace Cm
open PySem PySem.Spec PyProof.Rows L2 FL
def rb_law_lengths (r_law_take : FSpec) : RS := (rRet (rComp (rRg1 (rAC (oV (rC (.int 3))) rA0)) (gNm 2) rYes (rIc (fun i => 1 + i) (oV (rCall [0] r_law_take (rAC (oN 0) (rAC (oV (rVar 1)) rA0))))) [2]))
abbrev RD_law_lengths (r : FSpec) (r_law_take : FSpec) : Prop := ∀ ds ED QD, ds.length = 2 → r ds ED QD → (rb_law_lengths r_law_take) (startD ["_law_box_here", "_law_most", "_law_side"] ds) (fun c fs ρ => ED c fs (ρ.take 2)) (finD 2 QD)
end Cm
namespace Cm
open PySem PySem.Spec PyProof.Rows L2 FL
set_option maxHeartbeats 0
def r_law_lengths : FSpec := fun ds _ Q => ∃ (x : Bx) (n : Nat), ds = [bxD x, .int n] ∧ (1 ≤ n ∧ n ≤ 999) ∧ ∀ (a b c : Nat) (x' : Bx) tl, ((1 ≤ a ∧ a ≤ n) ∧ (1 ≤ b ∧ b ≤ n) ∧ (1 ≤ c ∧ c ≤ n)) → Q (.lst .flat [.int a, .int b, .int c]) (some (bxD x') :: tl)
theorem rd_law_lengths : RD_law_lengths r_law_lengths r_law_take := by
  rintro ds ED QD - ⟨x, n, rfl, hn, q⟩
  refine ⟨⟨by decide, by decide⟩, ⟨compR_draw 0 (fun n : Nat => D.int n) (fun _ m => 1 ≤ m ∧ m ≤ n) _ _ x (fun _ => rfl) (fun i d x hd => ?_) fun Ls x hL hx => ?_⟩⟩
  · exact ⟨fun _ => ⟨x, n, rfl, by omega, fun v x' tl v0 v1 => ⟨(1 + v).toNat, x', (by show some (D.int (1 + v)) = some (D.int ((1 + v).toNat : Nat)); rw [show (((1 + v).toNat : Nat) : Int) = 1 + v by omega]), by omega, rfl⟩⟩, fun h => (nomatch h)⟩
  obtain ⟨a, b, c, rfl⟩ := len3 (l := Ls) (by rw [hL, rgD_len]; rfl)
  exact q a b c x _ ⟨hx 0 a rfl, hx 1 b rfl, hx 2 c rfl⟩
end Cm
namespace Cm
open PySem PySem.Spec PyProof.Rows L2 FL
open PySem.W (EachIs AllAlike dataLe dataLt alike alikeAll)
set_option maxHeartbeats 0
theorem int_le (x y : Int) : dataLe false D.py (D.int x) (.int y) = decide (x ≤ y) := by
  rw [PySem.W.dataLe_eq]
  show (!dataLt (.int y) (.int x)) = _
  rw [PySem.W.dataLt_int]
  by_cases h : y < x
  · rw [decide_eq_true h, decide_eq_false (by omega)]; rfl
  · rw [decide_eq_false h, decide_eq_true (by omega)]; rfl
theorem sortOk_ints (xs : List Int) : SortOk (xs.map D.int) := by
  refine ⟨datL_map fun _ _ => rfl, ?_, .inr ?_, fun d hd => ?_⟩
  · intro d hd d' hd'
    rw [List.map_map] at hd hd'
    obtain ⟨r, hr, rfl⟩ := List.mem_map.mp hd
    obtain ⟨r', hr', rfl⟩ := List.mem_map.mp hd'
    rfl
  · intro d hd
    rw [List.map_map] at hd
    obtain ⟨r, hr, rfl⟩ := List.mem_map.mp hd
    exact ⟨fun z => (nomatch z), fun xs z => (nomatch z)⟩
  · obtain ⟨r, hr, rfl⟩ := List.mem_map.mp hd
    exact Nat.zero_le _
structure Pr.sz (p : Pr) (a b c : Nat) : Prop where
  l : p.l.length = a
  r : p.r.length = b
  o : p.o.length = c
end Cm
namespace Cm
open PySem PySem.Spec PyProof.Rows L2 FL
set_option maxHeartbeats 0
def r_law_take_wide : FSpec := fun ds _ Q => ∃ (b : Bx) (n : Int), ds = [bxD b, .int n] ∧ (0 < n ∧ n.natAbs.log2 < 9000) ∧ ∀ r (b' : Bx) tl, 0 ≤ r → r < n → Q (.int r) (some (bxD b') :: tl)
theorem rd_law_take_wide : RD_law_take r_law_take_wide r_law_mixed := by
  rintro ds ED QD - ⟨⟨a, m, c, h0⟩, n, rfl, ⟨h1, h2⟩, q⟩
  refine ⟨fun h => ?_, fun h => ?_⟩
  · exact ⟨h1, ⟨h1, h2⟩, q _ ⟨_, _, _, Int.ediv_nonneg h0 (by omega)⟩ _ (Int.emod_nonneg _ (by omega)) (Int.emod_lt_of_pos _ h1)⟩
  · refine ⟨rfl, fun k ρ => ∃ c f r : Int, ρ = [some (bxD ⟨a, m, c, h0⟩), some (.int n), some (.int f), some (.int r)] ∧ 0 < r ∧ k = (n - r).toNat, ⟨_, c, 0, 1, rfl, by omega, rfl⟩, ?_⟩
    rintro k ρ ⟨c, f, r, rfl, hr, rfl⟩
    refine ⟨fun h => ?_, fun h => ?_⟩
    · have h : r < n := by simpa using h
      exact ⟨_, _, rfl, fun x os _ _ => ⟨(n - r * 33554432).toNat, (by (try dsimp only); omega), c + 1, f * 33554432 + x, r * 33554432, rfl, (by (try dsimp only); omega), rfl⟩⟩
    · exact ⟨h1, q _ ⟨_, _, _, h0⟩ _ (Int.emod_nonneg _ (by omega)) (Int.emod_lt_of_pos _ h1)⟩
abbrev E30 : Int := 1000000000000000000000000000000
def r_law_value : FSpec := fun ds _ Q => ∃ b : Bx, ds = [bxD b] ∧ ∀ x (b' : Bx) tl, -E30 ≤ x → x ≤ E30 → Q (.int x) (some (bxD b') :: tl)
theorem rd_law_value : RD_law_value r_law_value r_law_take_wide r_law_number := by
  rintro ds ED QD - ⟨b, rfl, q⟩
  refine ⟨b, 5, rfl, by decide +kernel, fun v b _ v0 v1 => ⟨fun h => ?_, fun h => ?_⟩⟩
  · refine ⟨b, 2 * 10 ^ 30, rfl, by decide +kernel, fun x b' tl x0 x1 => q _ _ _ (by have : (10 : Int) ^ 30 = E30 := by decide +kernel
                                                                                     (try dsimp only); omega) (by have : (10 : Int) ^ 30 = E30 := by decide +kernel
                                                                                                                  (try dsimp only); omega)⟩
  · refine ⟨fun h => ?_, fun h => ?_⟩
    · exact ⟨b, rfl, fun x b' tl x0 x1 => q _ _ _ (by show -1000000000000000000000000000000 ≤ x; omega) (by show x ≤ 1000000000000000000000000000000; omega)⟩
    · exact ⟨b, 5, rfl, by decide +kernel, fun x b' tl x0 x1 => q _ _ _ (by show -1000000000000000000000000000000 ≤ x - 2; omega) (by show x - 2 ≤ 1000000000000000000000000000000; omega)⟩
def r_law_room : FSpec := fun ds _ Q => ∃ b : Bx, ds = [bxD b] ∧ ∀ x (b' : Bx) tl, 0 ≤ x → (x ≤ 999 ∧ x ≠ 555) → Q (.int x) (some (bxD b') :: tl)
theorem rd_law_room : RD_law_room r_law_room r_law_take := by
  rintro ds ED QD - ⟨b, rfl, q⟩
  refine ⟨b, 6, rfl, by decide, fun v b _ v0 v1 => ⟨fun h => ?_, fun h => ⟨fun h => ?_, fun h => ?_⟩⟩⟩
  · exact ⟨b, 4, rfl, by decide, fun x b' tl x0 x1 => q _ _ _ x0 (by omega)⟩
  · exact ⟨b, 9, rfl, by decide, fun x b' tl x0 x1 => q _ _ _ x0 (by omega)⟩
  · exact ⟨b, 3, rfl, by decide, fun x b' tl x0 x1 => q _ _ _ (by omega) (by omega)⟩
/-- a part drawn -/
def PrtOk (n : Int) (p : Int × Int) : Prop := (-E30 ≤ p.1 ∧ p.1 ≤ E30) ∧ 0 ≤ p.2 ∧ p.2 < n
def r_law_parts : FSpec := fun ds _ Q => ∃ (b : Bx) (n : Int), ds = [bxD b, .int n] ∧ (0 < n ∧ n ≤ 1000) ∧ ∀ (ps : List (Int × Int)) (b' : Bx) tl, (1 ≤ ps.length ∧ ps.length ≤ 9) → (∀ p ∈ ps, PrtOk n p) → Q (.lst .flat (ps.map prtD)) (some (bxD b') :: tl)
theorem rd_law_parts : RD_law_parts r_law_parts r_law_take r_law_value := by
  rintro ds ED QD - ⟨b, n, rfl, hn, q⟩
  refine ⟨b, 4, rfl, by decide, fun v b _ v0 v1 => ?_⟩
  refine pick_at (f := fun n : Nat => D.int n) (xs := [3, 3, 3, 9]) v0 v1 (fun _ => rfl) fun m hm => ?_
  have hm : 1 ≤ m ∧ m ≤ 9 := by
    have := List.mem_of_getElem? hm
    simp at this
    omega
  refine ⟨b, m, rfl, by omega, fun u b _ u0 u1 => ?_⟩
  refine ⟨⟨by decide, by (try dsimp only); omega, by (try dsimp only); omega⟩, ⟨forR_on [0, 2] [3] (fun k s => ∃ (b : Bx) (ps : List (Int × Int)), s = [some (bxD b), some (.lst .flat (ps.map prtD))] ∧ ps.length = k ∧ ∀ p ∈ ps, PrtOk n p) _ _ ⟨b, [], rfl, rfl, fun _ h => (nomatch h)⟩ ?_ ?_⟩⟩
  · rintro k d s j hd hj ⟨b, ps, rfl, hl, hp⟩
    obtain ⟨g, rfl⟩ := len1 hj
    have hk : k < 10 := by
      have h1 := (List.getElem?_eq_some_iff.mp hd).1
      rw [rgD_len] at h1
      dsimp only at h1
      omega
    refine ⟨b, rfl, fun x b' tl x0 x1 => ⟨b', n, rfl, by omega, fun y b2 tl2 y0 y1 => ?_⟩⟩
    refine ⟨by rw [List.length_map, sizeLine_eq]; omega, rfl, b2, ps ++ [(x, y)], ?_, by simp [hl], fun p hp' => ?_⟩
    · show [_, _] = _
      rw [List.map_append]; rfl
    · rcases List.mem_append.mp hp' with h | h
      · exact hp p h
      · have : p = (x, y) := by simpa using h
        subst this
        exact ⟨⟨x0, x1⟩, y0, y1⟩
  · rintro s j hj ⟨b, ps, rfl, hl, hp⟩
    obtain ⟨g, rfl⟩ := len1 hj
    rw [rgD_len] at hl
    dsimp only at hl
    exact q ps b _ (by omega) hp
def isD (o : Ow) (r : List (Int × Str)) : D := mpD o false D.int D.str r
/-- one more step -/
def keptS (kd : List (Int × Str)) (tl : List Int) : Stp → List (Int × Str) × List Int
  | .row rt r _ => (puA kd r (sideS rt), tl)
  | .times r _ _ => (puA kd r "products", tl)
  | .put r _ a => (puA kd r ((lkA kd a).getD ""), tl)
  | .add _ _ _ => (kd, tl)
  | .emp r => (erA kd r, tl)
  | .tell k r => (erA kd r, tl ++ [k])
/-- a step drawn: what is asked of it; sorts: sums are multiplied by kinds -/
def Drawn (sorts : Bool) (nl nr nt : Int) (kd : List (Int × Str)) (tl : List Int) : Stp → Prop
  | .row rt r ps => (0 ≤ r ∧ r ≤ 999 ∧ r ≠ 555) ∧ (1 ≤ ps.length ∧ ps.length ≤ 9) ∧ ∀ p ∈ ps, PrtOk (match rt with | true => nr | false => nl) p
  | .times r a b => (0 ≤ r ∧ r ≤ 999 ∧ r ≠ 555) ∧ ∃ x y, lkA kd a = some x ∧ lkA kd b = some y ∧ (sorts = true → x = "left" ∧ y = "right")
  | .put r n a => (0 ≤ r ∧ r ≤ 999 ∧ r ≠ 555) ∧ (-E30 ≤ n ∧ n ≤ E30) ∧ ∃ x, lkA kd a = some x ∧ (sorts = true → x = "products")
  | .add r n a => (-E30 ≤ n ∧ n ≤ E30) ∧ ∃ x y, lkA kd r = some x ∧ lkA kd a = some y ∧ (sorts = true → x = "products" ∧ y = "products")
  | .emp r => ∃ x, lkA kd r = some x
  | .tell k r => (0 ≤ k ∧ k < nt) ∧ k ∉ tl ∧ ∃ x, lkA kd r = some x ∧ (sorts = true → x = "products")
def r_law_of_sort : FSpec := fun ds _ Q => ∃ (o : Ow) (kd : List (Int × Str)) (sort : Str) (sorts : Bool), ds = [isD o kd, .str sort, .bl sorts] ∧ o = .ice ∧ kd.length ≤ 1000 ∧ ∀ (rs : List Int) os, rs.length ≤ kd.length → (∀ r ∈ rs, ∃ x, lkA kd r = some x ∧ (sorts = true → x = sort)) → Q (.lst .flat (rs.map D.int)) os
theorem sortD_intsM (xs : List Int) : sortD (xs.map D.int) = (xs.mergeSort fun a b => decide (a ≤ b)).map D.int := by
  unfold sortD
  rw [← List.map_mergeSort (r := fun a b => decide (a ≤ b)) (s := PySem.W.dataLe false D.py) (f := D.int) fun a _ b _ => (int_le a b).symm]
theorem is_keys (kd : List (Int × Str)) : sortD (kd.map fun p => D.int p.1) = ((kd.map (·.1)).mergeSort fun a b => decide (a ≤ b)).map D.int := by
  rw [← sortD_intsM, List.map_map]; rfl
theorem is_ok (kd : List (Int × Str)) : SortOk (kd.map fun p => D.int p.1) := by
  have := sortOk_ints (kd.map (·.1))
  rw [List.map_map] at this
  exact this
theorem lk_of {kd : List (Int × Str)} {r : Int} (h : r ∈ (kd.map (·.1)).mergeSort fun a b => decide (a ≤ b)) : ∃ x, lkA kd r = some x := by
  have := lkA_some.mpr (List.mem_mergeSort.mp h)
  cases e : lkA kd r with
  | none => rw [e] at this; cases this
  | some x => exact ⟨x, rfl⟩
theorem rd_law_of_sort : RD_law_of_sort r_law_of_sort := by
  rintro ds ED QD - ⟨o, kd, sort, sorts, rfl, rfl, hl, q⟩
  have hz : (kd.map fun p => D.int p.1).length ≤ sizeLine := by rw [List.length_map, sizeLine_eq]; omega
  have ln : ((kd.map (·.1)).mergeSort fun a b => decide (a ≤ b)).length = kd.length := by rw [List.length_mergeSort, List.length_map]
  cases sorts with
  | false =>
    refine ⟨rfl, hz, is_ok kd, ⟨compR_if ((kd.map (·.1)).mergeSort fun a b => decide (a ≤ b)) D.int (fun _ => true) D.int (is_keys kd) (fun r hr => ⟨fun _ => ⟨fun _ => ⟨rfl, rfl⟩, (fun h => absurd h (by decide +kernel))⟩, (fun h => absurd h (by decide +kernel))⟩) (fun _ => rfl) ?_⟩⟩
    refine q _ _ ?_ fun r hr => ?_
    · exact Nat.le_trans (List.length_filter_le _ _) (Nat.le_of_eq ln)
    · obtain ⟨x, hx⟩ := lk_of (List.mem_filter.mp hr).1
      exact ⟨x, hx, fun z => (nomatch z)⟩
  | true =>
    refine ⟨rfl, hz, is_ok kd, ⟨compR_if ((kd.map (·.1)).mergeSort fun a b => decide (a ≤ b)) D.int (fun r => decide ((lkA kd r).getD "" = sort)) D.int (is_keys kd) (fun r hr => ?_) (fun _ => rfl) ?_⟩⟩
    · obtain ⟨x, hx⟩ := lk_of hr
      have lk : dLook false (kd.map fun p => D.int p.1) (kd.map fun p => D.str p.2) (.int r) = some (.str x) := by rw [mp_look ky_int, hx]; rfl
      refine ⟨(fun h => absurd h (by decide +kernel)), fun _ => ⟨rfl, pick_of lk rfl ⟨fun h => ⟨?_, rfl⟩, fun h => ⟨?_, rfl⟩⟩⟩⟩
      · have h : decide (x = sort) = true := by simpa using h
        rw [hx]
        show _ = if decide (x = sort) = true then _ else _
        rw [if_pos h]
      · have h : decide (x = sort) = false := by simpa using h
        rw [hx]
        show _ = if decide (x = sort) = true then _ else _
        rw [if_neg (by rw [h]; decide)]
    · refine q _ _ ?_ fun r hr => ?_
      · exact Nat.le_trans (List.length_filter_le _ _) (Nat.le_of_eq ln)
      · obtain ⟨hr1, hr2⟩ := List.mem_filter.mp hr
        obtain ⟨x, hx⟩ := lk_of hr1
        refine ⟨x, hx, fun _ => ?_⟩
        rw [hx] at hr2
        exact of_decide_eq_true hr2
/-- what a step kept needs -/
def Keeps (kd : List (Int × Str)) : Stp → Prop
  | .put _ _ a => ∃ x, lkA kd a = some x
  | .emp r => ∃ x, lkA kd r = some x
  | .tell _ r => ∃ x, lkA kd r = some x
  | _ => True
def r_law_kept : FSpec := fun ds _ Q => ∃ (st : Stp) (kd : List (Int × Str)) (tl : List Int), ds = [stD st, isD .flat kd, .lst .flat (tl.map D.int)] ∧ Keeps kd st ∧ kd.length ≤ 1000 ∧ tl.length ≤ 1000 ∧
  ∀ o t, Q .non (o :: some (isD .flat (keptS kd tl st).1) :: some (.lst .flat ((keptS kd tl st).2.map D.int)) :: t)
theorem rd_law_kept : RD_law_kept r_law_kept := by
  rintro ds ED QD - ⟨st, kd, tl, rfl, hk, hl, hl2, q⟩
  have hz : (kd.map fun p => D.int p.1).length < sizeLine := by rw [List.length_map, sizeLine_eq]; omega
  have put : ∀ (st : Stp) (r : Int) (x : Str), keptS kd tl st = (puA kd r x, tl) → (∀ o t, QD .non (o :: some (isD .flat (keptS kd tl st).1) :: some (.lst .flat ((keptS kd tl st).2.map D.int)) :: t)) →
      QD .non [some (stD st), some (.dct .flat false (putKs false (kd.map fun p => D.int p.1) (.int r)) (putDs false (kd.map fun p => D.int p.1) (.int r) (kd.map fun p => D.str p.2) (.str x))), some (.lst .flat (tl.map D.int))] := fun st r x e q => by
    have ep := mp_put (enc := D.str) ky_int r x kd
    rw [ep.1, ep.2]
    rw [e] at q
    exact q _ []
  cases st with
  | row rt r ps => cases rt <;> exact ⟨rfl, rfl, fun _ => ⟨rfl, hz, put _ r _ rfl q⟩, (fun h => absurd h (by decide +kernel))⟩
  | times r a b => exact ⟨rfl, rfl, (fun h => absurd h (by decide +kernel)), fun _ => ⟨fun _ => ⟨rfl, hz, put _ r _ rfl q⟩, (fun h => absurd h (by decide +kernel))⟩⟩
  | put r n a =>
    obtain ⟨x, hx⟩ := hk
    have lk : dLook false (kd.map fun p => D.int p.1) (kd.map fun p => D.str p.2) (.int a) = some (.str x) := by rw [mp_look ky_int, hx]; rfl
    refine ⟨rfl, rfl, (fun h => absurd h (by decide +kernel)), fun _ => ⟨(fun h => absurd h (by decide +kernel)), fun _ => ⟨fun _ => ⟨rfl, pick_of lk rfl ⟨rfl, hz, put _ r x ?_ q⟩⟩, (fun h => absurd h (by decide +kernel))⟩⟩⟩
    show (puA kd r ((lkA kd a).getD ""), tl) = _
    rw [hx]; rfl
  | add r n a => exact ⟨rfl, rfl, (fun h => absurd h (by decide +kernel)), fun _ => ⟨(fun h => absurd h (by decide +kernel)), fun _ => ⟨(fun h => absurd h (by decide +kernel)), fun _ => ⟨(fun h => absurd h (by decide +kernel)), fun _ => ⟨(fun h => absurd h (by decide +kernel)), fun _ => q _ []⟩⟩⟩⟩⟩
  | emp r =>
    obtain ⟨x, hx⟩ := hk
    obtain ⟨j, hj, hv, e1, e2⟩ := mp_er (enc := D.str) ky_int r kd x hx
    refine ⟨rfl, rfl, (fun h => absurd h (by decide +kernel)), fun _ => ⟨(fun h => absurd h (by decide +kernel)), fun _ => ⟨(fun h => absurd h (by decide +kernel)), fun _ => ⟨fun _ => ⟨rfl, rfl, rfl, ?_⟩, (fun h => absurd h (by decide +kernel))⟩⟩⟩⟩
    rw [show kIdx false (kd.map fun p => D.int p.1) (.int r) = some j from hj]
    refine pick_of hv rfl ?_
    rw [nf_eq]
    show QD .non [some (stD (.emp r)), some (.dct .flat false ((kd.map fun p => D.int p.1).eraseIdx j) ((kd.map fun p => D.str p.2).eraseIdx j)), some (.lst .flat (tl.map D.int))]
    rw [e1, e2]
    exact q _ []
  | tell k r =>
    obtain ⟨x, hx⟩ := hk
    obtain ⟨j, hj, hv, e1, e2⟩ := mp_er (enc := D.str) ky_int r kd x hx
    refine ⟨rfl, rfl, (fun h => absurd h (by decide +kernel)), fun _ => ⟨(fun h => absurd h (by decide +kernel)), fun _ => ⟨(fun h => absurd h (by decide +kernel)), fun _ => ⟨(fun h => absurd h (by decide +kernel)), fun _ => ⟨fun _ => ?_, (fun h => absurd h (by decide +kernel))⟩⟩⟩⟩⟩
    refine ⟨by rw [List.length_map, sizeLine_eq]; omega, rfl, rfl, rfl, ?_⟩
    rw [show kIdx false (kd.map fun p => D.int p.1) (.int r) = some j from hj]
    refine pick_of hv rfl ?_
    rw [nf_eq]
    show QD .non [some (stD (.tell k r)), some (.dct .flat false ((kd.map fun p => D.int p.1).eraseIdx j) ((kd.map fun p => D.str p.2).eraseIdx j)), some (.lst .flat (tl.map D.int ++ [.int k]))]
    rw [e1, e2, show tl.map D.int ++ [.int k] = (tl ++ [k]).map D.int by rw [List.map_append]; rfl]
    exact q _ []
theorem cut_keep {r : RS} {ρ0 : En} {E : EE} {F : FL.Fin} (h : r ρ0 E (F.wn fun ρ' => ρ' = ρ0)) (fin : F.nx ρ0) : CutG r ρ0 E F := ⟨⟨_, h, fun ρ' e => by rw [e]; exact fin⟩⟩
def stO : Stp → D
  | .row rt r ps => .tup true [.str (sideS rt), .int r, .lst .flat (ps.map prtD)]
  | st => stD st
theorem stO_frz (st : Stp) : (stO st).frz = stD st := by cases st <;> rfl
theorem ls_ne {ls : List Int} {o o' : Ow} (h : (true ^^ deq (.lst o (ls.map D.int)) (.lst o' [])) = true) : 0 < ls.length := by
  cases ls with
  | nil => exact (ne_no h rfl rfl).elim
  | cons a r => exact Nat.succ_pos _
theorem ls_sm (o : Ow) (ls : List Int) : (D.lst o (ls.map D.int)).dat = true ∧ min (D.lst o (ls.map D.int)).dep (D.lst .flat []).dep ≤ 60 := by
  have h : Sm (D.lst o (ls.map D.int)) 1 := Sm.ints
  exact ⟨h.dat, h.min⟩
/-- lengths in a tuple or in a list -/
def lnsD (tp : Bool) (nl nr nt : Int) : D := match tp with
  | true => .tup false [.int nl, .int nr, .int nt]
  | false => .lst .ice [.int nl, .int nr, .int nt]
def r_law_step : FSpec := fun ds _ Q => ∃ (tp : Bool) (b : Bx) (nl nr nt : Int) (kd : List (Int × Str)) (tl : List Int) (sorts : Bool), ds = [bxD b, lnsD tp nl nr nt, isD .ice kd, .lst .ice (tl.map D.int), .bl sorts] ∧
  ((1 ≤ nl ∧ nl ≤ 1000) ∧ (1 ≤ nr ∧ nr ≤ 1000) ∧ (0 ≤ nt ∧ nt ≤ 1000)) ∧ kd.length ≤ 1000 ∧ tl.length ≤ 1000 ∧ ∀ st (b' : Bx) t, Drawn sorts nl nr nt kd tl st → Q (stO st) (some (bxD b') :: t)
theorem rd_law_step : RD_law_step r_law_step r_law_take r_law_room r_law_of_sort r_law_parts r_law_value := by
  rintro ds ED QD - ⟨tp, b, nl, nr, nt, kd, tl, sorts, rfl, ⟨hl, hr, ht⟩, hk, htl, q⟩
  cases tp
  all_goals
    refine ⟨b, 9, rfl, by decide, fun way b _ w0 w1 => ?_⟩
    refine ⟨b, rfl, fun room b _ r0 r1 => ?_⟩
    refine ⟨.ice, kd, "left", sorts, rfl, rfl, hk, fun ls _ lsl lsk => ?_⟩
    refine ⟨.ice, kd, "right", sorts, rfl, rfl, hk, fun rs _ rsl rsk => ?_⟩
    refine ⟨.ice, kd, "products", sorts, rfl, rfl, hk, fun ps _ psl psk => ?_⟩
    have pk : ∀ {xs : List Int} {v : Int} {Q : D → Prop}, 0 ≤ v → v < xs.length → (∀ x ∈ xs, Q (.int x)) → pick (atI (xs.map D.int) v) Q := fun {xs v Q} h0 h1 h => pick_at h0 h1 (fun _ => rfl) fun a ha => h a (List.mem_of_getElem? ha)
    have ln : ∀ {xs : List Int}, xs.length ≤ kd.length → 0 < xs.length → (0 : Int) < ((xs.map D.int).length : Nat) ∧ (((xs.map D.int).length : Nat) : Int) < 2 ^ 64 := fun {xs} h h1 => by rw [List.length_map]; omega
    refine cut_keep ⟨fun _ => ⟨(ls_sm _ ls).1, rfl, (ls_sm _ ls).2, fun h1 => ⟨(ls_sm _ rs).1, rfl, (ls_sm _ rs).2, fun h2 => ?_, fun _ => rfl⟩, fun _ => ⟨(fun h => absurd h (by decide +kernel)), fun _ => rfl⟩⟩, fun _ => ⟨(fun h => absurd h (by decide +kernel)), fun _ => rfl⟩⟩ ?_
    · have l1 := ls_ne h1
      have l2 := ls_ne h2
      refine ⟨b, _, rfl, ln lsl l1, fun v b _ v0 v1 => pk v0 (by rw [List.length_map] at v1; exact v1) fun x hx => ?_⟩
      refine ⟨b, _, rfl, ln rsl l2, fun u b _ u0 u1 => pk u0 (by rw [List.length_map] at u1; exact u1) fun y hy => ?_⟩
      obtain ⟨z1, e1, k1⟩ := lsk x hx
      obtain ⟨z2, e2, k2⟩ := rsk y hy
      exact q (.times room x y) b _ ⟨⟨r0, r1⟩, z1, z2, e1, e2, fun s => ⟨k1 s, k2 s⟩⟩
    refine cut_keep ⟨fun _ => ⟨(ls_sm _ ps).1, rfl, (ls_sm _ ps).2, fun h1 => ?_, fun _ => rfl⟩, fun _ => ⟨(fun h => absurd h (by decide +kernel)), fun _ => rfl⟩⟩ ?_
    · have l1 := ls_ne h1
      refine ⟨b, rfl, fun n b _ n0 n1 => ?_⟩
      refine ⟨b, _, rfl, ln psl l1, fun v b _ v0 v1 => pk v0 (by rw [List.length_map] at v1; exact v1) fun x hx => ?_⟩
      obtain ⟨z1, e1, k1⟩ := psk x hx
      exact q (.put room n x) b _ ⟨⟨r0, r1⟩, ⟨n0, n1⟩, z1, e1, k1⟩
    refine cut_keep ⟨fun _ => ⟨fun _ => ⟨(ls_sm _ ps).1, rfl, (ls_sm _ ps).2, fun h1 => ?_, fun _ => rfl⟩, (fun h => absurd h (by decide +kernel))⟩, fun _ => ⟨fun _ => ⟨(ls_sm _ ps).1, rfl, (ls_sm _ ps).2, fun h1 => ?_, fun _ => rfl⟩, fun _ => ⟨(fun h => absurd h (by decide +kernel)), fun _ => rfl⟩⟩⟩ ?_
    any_goals (
      have l1 := ls_ne h1
      refine ⟨b, _, rfl, ln psl l1, fun v b _ v0 v1 => pk v0 (by rw [List.length_map] at v1; exact v1) fun x hx => ?_⟩
      refine ⟨b, rfl, fun n b _ n0 n1 => ?_⟩
      refine ⟨b, _, rfl, ln psl l1, fun v b _ v0 v1 => pk v0 (by rw [List.length_map] at v1; exact v1) fun y hy => ?_⟩
      obtain ⟨z1, e1, k1⟩ := psk x hx
      obtain ⟨z2, e2, k2⟩ := psk y hy
      exact q (.add x n y) b _ ⟨⟨n0, n1⟩, z1, z2, e1, e2, fun s => ⟨k1 s, k2 s⟩⟩)
    have sk : sortD (kd.map fun p => D.int p.1) = ((kd.map (·.1)).mergeSort fun a b => decide (a ≤ b)).map D.int := is_keys kd
    have sl : ((kd.map (·.1)).mergeSort fun a b => decide (a ≤ b)).length = kd.length := by rw [List.length_mergeSort, List.length_map]
    refine cut_keep ⟨fun _ => ⟨_, _, _, _, rfl, rfl, fun h1 => ?_, fun _ => rfl⟩, fun _ => ⟨(fun h => absurd h (by decide +kernel)), fun _ => rfl⟩⟩ ?_
    · have l1 : 0 < kd.length := by
        cases kd with
        | nil => exact absurd h1 (by decide)
        | cons a r => exact Nat.succ_pos _
      refine ⟨rfl, by rw [List.length_map, sizeLine_eq]; omega, is_ok kd, ?_⟩
      refine ⟨rfl, b, _, rfl, ?_, fun v b _ v0 v1 => ?_⟩
      · rw [List.length_map]; omega
      · rw [List.length_map] at v1
        show pick (atI (sortD (kd.map fun p => D.int p.1)) v) _
        rw [sk]
        refine pk v0 (by omega) fun x hx => ?_
        exact q (.emp x) b _ (lk_of hx)
    let fr : List Int := ((List.range (nt - 0).toNat).filter fun k : Nat => (true ^^ inD (.int (0 + (k : Int))) (tl.map D.int))).map fun k : Nat => 0 + (k : Int)
    have frl : fr.length ≤ 1000 := by
      show (List.map _ (List.filter _ _)).length ≤ 1000
      rw [List.length_map]
      refine Nat.le_trans (List.length_filter_le _ _) ?_
      rw [List.length_range]; omega
    have frk : ∀ k ∈ fr, (0 ≤ k ∧ k < nt) ∧ k ∉ tl := fun k hk => by
      obtain ⟨n, hn, rfl⟩ := List.mem_map.mp hk
      obtain ⟨h1, h2⟩ := List.mem_filter.mp hn
      have h1 := List.mem_range.mp h1
      rw [inD_int] at h2
      refine ⟨by omega, fun z => ?_⟩
      rw [decide_eq_true z] at h2
      cases h2
    have fall : (tl.map D.int).all isFlat = true := by rw [List.all_map]; exact List.all_eq_true.mpr fun _ _ => rfl
    refine ⟨⟨by decide, by (try dsimp only); omega, by (try dsimp only); omega⟩, ⟨compR_if (List.range (nt - 0).toNat) (fun k : Nat => D.int (0 + (k : Int))) (fun k : Nat => (true ^^ inD (.int (0 + (k : Int))) (tl.map D.int))) (fun k : Nat => D.int (0 + (k : Int))) rfl (fun k hk => ⟨rfl, fall, fun h => ⟨by rw [h]; rfl, rfl⟩, fun h => ⟨by rw [h]; rfl, rfl⟩⟩) (fun _ => rfl) ?_⟩⟩
    rw [show (((List.range (nt - 0).toNat).filter fun k : Nat => (true ^^ inD (.int (0 + (k : Int))) (tl.map D.int))).map fun k : Nat => D.int (0 + (k : Int))) = fr.map D.int by rw [List.map_map]; rfl]
    clear_value fr
    refine cut_keep ⟨fun _ => ⟨(ls_sm _ ps).1, rfl, (ls_sm _ ps).2, fun h1 => ⟨(ls_sm _ fr).1, rfl, (ls_sm _ fr).2, fun h2 => ?_, fun _ => rfl⟩, fun _ => ⟨(fun h => absurd h (by decide +kernel)), fun _ => rfl⟩⟩, fun _ => ⟨(fun h => absurd h (by decide +kernel)), fun _ => rfl⟩⟩ ?_
    · have l1 := ls_ne h1
      have l2 := ls_ne h2
      refine ⟨b, _, rfl, by rw [List.length_map]; omega, fun v b _ v0 v1 => pk v0 (by rw [List.length_map] at v1; exact v1) fun x hx => ?_⟩
      refine ⟨b, _, rfl, ln psl l1, fun v b _ v0 v1 => pk v0 (by rw [List.length_map] at v1; exact v1) fun y hy => ?_⟩
      obtain ⟨z2, e2, k2⟩ := psk y hy
      exact q (.tell x y) b _ ⟨(frk x hx).1, (frk x hx).2, z2, e2, k2⟩
    refine ⟨b, 2, rfl, by decide, fun v b _ v0 v1 => ?_⟩
    refine pick_at (f := fun rt : Bool => D.str (sideS rt)) (xs := [false, true]) v0 v1 (fun _ => rfl) fun rt hrt => ?_
    have hv : v = (if rt then 1 else 0) := by
      have : v = 0 ∨ v = 1 := by omega
      rcases this with rfl | rfl <;> (simp at hrt; subst hrt; rfl)
    refine pick_at (f := fun n : Int => D.int n) (xs := [nl, nr, nt]) v0 (by simp; omega) (fun _ => rfl) fun n hn => ?_
    have hn' : n = (match rt with | true => nr | false => nl) := by
      subst hv
      cases rt <;> (simp at hn; exact hn.symm)
    refine ⟨b, n, rfl, by subst hn'; cases rt <;> (dsimp only; omega), fun qs b _ q0 q1 => ?_⟩
    cases rt with
    | false => subst hn'; exact q (.row false room qs) b _ ⟨⟨r0, r1⟩, q0, q1⟩
    | true => subst hn'; exact q (.row true room qs) b _ ⟨⟨r0, r1⟩, q0, q1⟩
def Stp.isT : Stp → Bool
  | .times _ _ _ => true
  | _ => false
abbrev KS : Type := List (Int × Str) × List Int
def keptA (k : KS) (P : List Stp) : KS := P.foldl (fun k st => keptS k.1 k.2 st) k
def DrawnAll (sorts : Bool) (nl nr nt : Int) : KS → List Stp → Prop
  | _, [] => True
  | k, st :: r => Drawn sorts nl nr nt k.1 k.2 st ∧ DrawnAll sorts nl nr nt (keptS k.1 k.2 st) r
theorem drawn_snoc {sorts : Bool} {nl nr nt : Int} {st : Stp} : ∀ {P : List Stp} {k : KS}, DrawnAll sorts nl nr nt k P → Drawn sorts nl nr nt (keptA k P).1 (keptA k P).2 st → DrawnAll sorts nl nr nt k (P ++ [st])
  | [], _, _, h => ⟨h, trivial⟩
  | a :: P, k, g, h => ⟨g.1, drawn_snoc (P := P) g.2 h⟩
theorem keptA_snoc (k : KS) (P : List Stp) (st : Stp) : keptA k (P ++ [st]) = keptS (keptA k P).1 (keptA k P).2 st := by
  unfold keptA
  rw [List.foldl_append]; rfl
theorem kept_len (kd : List (Int × Str)) (tl : List Int) (st : Stp) : (keptS kd tl st).1.length ≤ kd.length + 1 ∧ (keptS kd tl st).2.length ≤ tl.length + 1 := by
  cases st with
  | row rt r ps => exact ⟨puA_len _ _ _, Nat.le_succ _⟩
  | times r a b => exact ⟨puA_len _ _ _, Nat.le_succ _⟩
  | put r n a => exact ⟨puA_len _ _ _, Nat.le_succ _⟩
  | add r n a => exact ⟨Nat.le_succ _, Nat.le_succ _⟩
  | emp r => exact ⟨Nat.le_succ_of_le (erA_len _ _), Nat.le_succ _⟩
  | tell k r => exact ⟨Nat.le_succ_of_le (erA_len _ _), by show (tl ++ [k]).length ≤ _; simp⟩
theorem drawn_keeps {sorts : Bool} {nl nr nt : Int} {kd : List (Int × Str)} {tl : List Int} {st : Stp} (h : Drawn sorts nl nr nt kd tl st) : Keeps kd st := by
  cases st with
  | put r n a => obtain ⟨_, _, x, h, _⟩ := h; exact ⟨x, h⟩
  | emp r => exact h
  | tell k r => obtain ⟨_, _, x, h, _⟩ := h; exact ⟨x, h⟩
  | _ => exact trivial
theorem stO_clean (st : Stp) : (stO st).clean = true := by
  cases st with
  | row rt r ps =>
    show cleanL [_, _, .lst .flat (ps.map prtD)] = true
    simp only [cleanL, D.clean, Bool.and_true, Bool.true_and]
    exact cleanL_all.mpr fun d hd => by obtain ⟨p, _, rfl⟩ := List.mem_map.mp hd; rfl
  | _ => rfl
theorem cl_ints (xs : List Int) : (D.lst .flat (xs.map D.int)).clean = true := cleanL_all.mpr fun d hd => by obtain ⟨p, _, rfl⟩ := List.mem_map.mp hd; rfl
theorem cl_is (kd : List (Int × Str)) : (isD .flat kd).clean = true := cleanL_all.mpr fun d hd => by obtain ⟨p, _, rfl⟩ := List.mem_map.mp hd; rfl
def Prg (sorts : Bool) (nl nr nt : Int) (P : List Stp) : Prop := DrawnAll sorts nl nr nt ([], []) P ∧ (sorts = false → (P.filter Stp.isT).length ≤ 4)
def r_law_program : FSpec := fun ds _ Q => ∃ (tp : Bool) (b : Bx) (nl nr nt size : Int) (sorts : Bool), ds = [bxD b, lnsD tp nl nr nt, .int size, .bl sorts] ∧ ((1 ≤ nl ∧ nl ≤ 1000) ∧ (1 ≤ nr ∧ nr ≤ 1000) ∧ (0 ≤ nt ∧ nt ≤ 1000)) ∧ (0 ≤ size ∧ size ≤ 900) ∧
  ∀ (P : List Stp) (b' : Bx) t, P.length ≤ size.toNat → Prg sorts nl nr nt P → Q (.lst .flat (P.map stD)) (some (bxD b') :: t)
theorem rd_law_program : RD_law_program r_law_program r_law_step r_law_kept := by
  rintro ds ED QD - ⟨tp, b, nl, nr, nt, size, sorts, rfl, hn, hs, q⟩
  cases tp
  all_goals
    refine ⟨⟨by decide, by (try dsimp only); omega, by (try dsimp only); omega⟩, ⟨forR_on [0, 4, 5, 6, 7, 8, 9] [] (fun k s => ∃ (b : Bx) (P : List Stp) (y7 y8 y9 : Option D), s = [some (bxD b), some (isD .flat (keptA ([], []) P).1), some (.lst .flat ((keptA ([], []) P).2.map D.int)), some (.lst .flat (P.map stD)), y7, y8, y9] ∧ isF y7 ∧ isF y8 ∧ isF y9 ∧ P.length ≤ k ∧ Prg sorts nl nr nt P ∧ (keptA ([], []) P).1.length ≤ P.length ∧ (keptA ([], []) P).2.length ≤ P.length) _ _ ⟨b, [], none, none, none, rfl, isF_none, isF_none, isF_none, Nat.zero_le _, ⟨trivial, fun _ => Nat.zero_le _⟩, Nat.le_refl _, Nat.le_refl _⟩ ?_ ?_⟩⟩
    · rintro k d s j hd hj ⟨b, P, y7, y8, y9, rfl, h7, h8, h9, hl, hp, hk1, hk2⟩
      cases len0 hj
      have hk : k < 900 := by
        have h1 := (List.getElem?_eq_some_iff.mp hd).1
        rw [rgD_len] at h1
        omega
      first
        | refine ⟨false, b, nl, nr, nt, _, _, sorts, rfl, hn, by omega, by omega, fun st b t hdr => ?_⟩
        | refine ⟨true, b, nl, nr, nt, _, _, sorts, rfl, hn, by omega, by omega, fun st b t hdr => ?_⟩
      have hd' := List.mem_of_getElem? hd
      unfold rgD at hd'
      obtain ⟨i, _, rfl⟩ := List.mem_map.mp hd'
      refine ⟨⟨Or.inl rfl, tw_isF isF_some, tw_isF isF_some, tw_isF isF_some, tw_isF isF_some, tw_isF isF_some, True.intro, tw_isF isF_some, tw_isF h8, tw_isF h9, True.intro, True.intro⟩, stO_clean st,
        ⟨Or.inl rfl, tw_isF isF_some, tw_isF isF_some, tw_isF isF_some, tw_isF isF_some, Or.inl (cl_ints _), True.intro, tw_isF isF_some, tw_isF h8, tw_isF h9, True.intro, True.intro⟩, stO_clean st, ?_⟩
      simp only [nf_eq]
      rw [stO_frz]
      have so : isF (some (stD st)) := isF_some (by cases st <;> rfl)
      refine ⟨compR_if P stD Stp.isT stD rfl (fun x _ => ?_) (fun x => by cases x <;> rfl) ?_⟩
      · cases x with
        | row rt r ps => cases rt <;> exact ⟨(fun h => absurd h (by decide +kernel)), fun _ => ⟨rfl, rfl⟩⟩
        | times r a b => exact ⟨fun _ => ⟨rfl, rfl⟩, (fun h => absurd h (by decide +kernel))⟩
        | put r n a => exact ⟨(fun h => absurd h (by decide +kernel)), fun _ => ⟨rfl, rfl⟩⟩
        | add r n a => exact ⟨(fun h => absurd h (by decide +kernel)), fun _ => ⟨rfl, rfl⟩⟩
        | emp r => exact ⟨(fun h => absurd h (by decide +kernel)), fun _ => ⟨rfl, rfl⟩⟩
        | tell k r => exact ⟨(fun h => absurd h (by decide +kernel)), fun _ => ⟨rfl, rfl⟩⟩
      · refine ⟨⟨Or.inl rfl, tw_isF isF_some, tw_isF isF_some, tw_isF isF_some, Or.inl (cl_is _), Or.inl (cl_ints _), tw_isF isF_some, tw_isF isF_some, tw_isF so, tw_isF h9, True.intro, True.intro⟩, rfl, ?_⟩
        have kl := kept_len (keptA ([], []) P).1 (keptA ([], []) P).2 st
        have fin : (sorts = false → st.isT = true → (P.filter Stp.isT).length < 4) → (P ++ [st]).length ≤ k + 1 ∧ Prg sorts nl nr nt (P ++ [st]) ∧ (keptA ([], []) (P ++ [st])).1.length ≤ (P ++ [st]).length ∧ (keptA ([], []) (P ++ [st])).2.length ≤ (P ++ [st]).length := fun h => by
          rw [keptA_snoc, List.length_append, List.length_singleton]
          refine ⟨by omega, ⟨drawn_snoc hp.1 hdr, fun z => ?_⟩, by omega, by omega⟩
          rw [List.filter_append, List.length_append]
          have h2 := hp.2 z
          cases e : st.isT with
          | true => have := h z e; rw [List.filter_cons_of_pos e]; simp; omega
          | false => rw [List.filter_cons_of_neg (by rw [e]; decide)]; simp; omega
        have ek := keptA_snoc ([], []) P st
        have kp := drawn_keeps hdr
        have bl : P.length ≤ 1000 := by omega
        have bk : (keptA ([], []) P).1.length ≤ 1000 := by omega
        have bt : (keptA ([], []) P).2.length ≤ 1000 := by omega
        cases st with
        | row b1 b2 b3 => exact ⟨fun _ => ⟨fun _ => (⟨by rw [List.length_map, sizeLine_eq]; omega, (Stp.row b1 b2 b3), _, _, rfl, kp, bk, bt, fun o t2 => ⟨rfl, b, P ++ [(Stp.row b1 b2 b3)], _, _, _, by rw [ek, List.map_append]; rfl, isF_some, so, isF_some, (fin fun _ z => (nomatch z))⟩⟩), (fun h => absurd h (by decide +kernel))⟩, fun h => absurd h (by cases b1 <;> decide +kernel)⟩
        | times b1 b2 b3 =>
          cases sorts with
          | true => exact ⟨(fun h => absurd h (by decide +kernel)), fun _ => ⟨fun _ => ⟨fun _ => (⟨by rw [List.length_map, sizeLine_eq]; omega, (Stp.times b1 b2 b3), _, _, rfl, kp, bk, bt, fun o t2 => ⟨rfl, b, P ++ [(Stp.times b1 b2 b3)], _, _, _, by rw [ek, List.map_append]; rfl, isF_some, so, isF_some, (fin fun z => (nomatch z))⟩⟩), (fun h => absurd h (by decide +kernel))⟩, (fun h => absurd h (by decide +kernel))⟩⟩
          | false =>
            refine ⟨(fun h => absurd h (by decide +kernel)), fun _ => ⟨(fun h => absurd h (by decide +kernel)), fun _ => ⟨fun h => ?_, fun h => ?_⟩⟩⟩
            · have h4 : (P.filter Stp.isT).length < 4 := by
                have h : decide ((((P.filter Stp.isT).map stD).length : Int) < 4) = true := h
                rw [List.length_map] at h
                have := of_decide_eq_true h
                omega
              exact (⟨by rw [List.length_map, sizeLine_eq]; omega, (Stp.times b1 b2 b3), _, _, rfl, kp, bk, bt, fun o t2 => ⟨rfl, b, P ++ [(Stp.times b1 b2 b3)], _, _, _, by rw [ek, List.map_append]; rfl, isF_some, so, isF_some, (fin fun _ _ => h4)⟩⟩)
            · exact ⟨rfl, b, P, _, _, _, rfl, isF_some, so, isF_some, by omega, hp, hk1, hk2⟩
        | put b1 b2 b3 => exact ⟨fun _ => ⟨fun _ => (⟨by rw [List.length_map, sizeLine_eq]; omega, (Stp.put b1 b2 b3), _, _, rfl, kp, bk, bt, fun o t2 => ⟨rfl, b, P ++ [(Stp.put b1 b2 b3)], _, _, _, by rw [ek, List.map_append]; rfl, isF_some, so, isF_some, (fin fun _ z => (nomatch z))⟩⟩), (fun h => absurd h (by decide +kernel))⟩, (fun h => absurd h (by decide +kernel))⟩
        | add b1 b2 b3 => exact ⟨fun _ => ⟨fun _ => (⟨by rw [List.length_map, sizeLine_eq]; omega, (Stp.add b1 b2 b3), _, _, rfl, kp, bk, bt, fun o t2 => ⟨rfl, b, P ++ [(Stp.add b1 b2 b3)], _, _, _, by rw [ek, List.map_append]; rfl, isF_some, so, isF_some, (fin fun _ z => (nomatch z))⟩⟩), (fun h => absurd h (by decide +kernel))⟩, (fun h => absurd h (by decide +kernel))⟩
        | emp b1 => exact ⟨fun _ => ⟨fun _ => (⟨by rw [List.length_map, sizeLine_eq]; omega, (Stp.emp b1), _, _, rfl, kp, bk, bt, fun o t2 => ⟨rfl, b, P ++ [(Stp.emp b1)], _, _, _, by rw [ek, List.map_append]; rfl, isF_some, so, isF_some, (fin fun _ z => (nomatch z))⟩⟩), (fun h => absurd h (by decide +kernel))⟩, (fun h => absurd h (by decide +kernel))⟩
        | tell b1 b2 => exact ⟨fun _ => ⟨fun _ => (⟨by rw [List.length_map, sizeLine_eq]; omega, (Stp.tell b1 b2), _, _, rfl, kp, bk, bt, fun o t2 => ⟨rfl, b, P ++ [(Stp.tell b1 b2)], _, _, _, by rw [ek, List.map_append]; rfl, isF_some, so, isF_some, (fin fun _ z => (nomatch z))⟩⟩), (fun h => absurd h (by decide +kernel))⟩, (fun h => absurd h (by decide +kernel))⟩
    · rintro s j hj ⟨b, P, y7, y8, y9, rfl, h7, h8, h9, hl, hp, hk1, hk2⟩
      cases len0 hj
      rw [rgD_len] at hl
      exact q P b _ (by omega) hp
def r_law_sizes : FSpec := fun ds _ Q => ∃ b : Bx, ds = [bxD b] ∧ ∀ (n1 n2 n3 : Nat) (b' : Bx) t, ((1 ≤ n1 ∧ n1 ≤ 12) ∧ (1 ≤ n2 ∧ n2 ≤ 12) ∧ (1 ≤ n3 ∧ n3 ≤ 12)) → Q (.lst .flat [.int n1, .int n2, .int n3]) (some (bxD b') :: t)
theorem rd_law_sizes : RD_law_sizes r_law_sizes r_law_lengths r_law_take := by
  rintro ds ED QD - ⟨b, rfl, q⟩
  refine ⟨b, 8, rfl, by decide, fun v b _ v0 v1 => ⟨fun _ => ?_, fun _ => ?_⟩⟩
  · refine ⟨⟨by decide, by decide⟩, ⟨compR_draw 0 (fun n : Nat => D.int n) (fun _ m => 1 ≤ m ∧ m ≤ 12) _ _ b (fun _ => rfl) (fun i d b hd => ?_) fun Ls b hL hx => ?_⟩⟩
    · exact ⟨fun _ => ⟨b, 4, rfl, by decide, fun v b' tl v0 v1 => ⟨(9 + v).toNat, b', (by show some (D.int (9 + v)) = some (D.int ((9 + v).toNat : Nat)); rw [show (((9 + v).toNat : Nat) : Int) = 9 + v by omega]), by omega, rfl⟩⟩, fun h => (nomatch h)⟩
    obtain ⟨x, y, z, rfl⟩ := len3 (l := Ls) (by rw [hL, rgD_len]; rfl)
    exact q x y z b _ ⟨hx 0 x rfl, hx 1 y rfl, hx 2 z rfl⟩
  · exact ⟨b, 5, rfl, by decide, fun x y z b' t h => q x y z b' _ (by omega)⟩
end Cm
namespace K26
open PySem PySem.Spec PyProof.Rows L2 FL Cm
def topS (i : Nat) : Stmt := PySem.Challenge.pw_fewtimes_k26_steps_that_can_not_be_done.main.body.getD i (.Pass ⟨0, 0, 0, 0⟩)
section
variable {P : Program} {w : World} {K : PySem.W.Frag} {mg : Str → Option Value} {base : Heap}
abbrev s_BadStep_init : Stmt := inClass (topS 2) 0
abbrev s_rooms_read : Stmt := topS 7
abbrev s_is_doable : Stmt := topS 8
abbrev s_Run_init : Stmt := inClass (topS 9) 0
abbrev s_Run_go : Stmt := inClass (topS 9) 1
abbrev s_run_program : Stmt := topS 10
abbrev s_law_cell_at : Stmt := topS 12
abbrev s_law_mixed : Stmt := topS 13
abbrev s_law_box : Stmt := topS 14
abbrev s_law_take : Stmt := topS 15
abbrev s_law_number : Stmt := topS 16
abbrev s_law_row : Stmt := topS 17
abbrev s_law_lengths : Stmt := topS 18
abbrev s_law_program : Stmt := topS 19
abbrev s_law_kept : Stmt := topS 20
abbrev s_law_room : Stmt := topS 21
abbrev s_law_parts : Stmt := topS 22
abbrev s_law_value : Stmt := topS 23
abbrev s_law_of_sort : Stmt := topS 24
abbrev s_law_step : Stmt := topS 25
abbrev s_law_sizes : Stmt := topS 26
abbrev s_law_odd : Stmt := topS 27
abbrev s_law_first : Stmt := topS 28
abbrev s_law_refused : Stmt := topS 29
abbrev s_law : Stmt := topS 30
theorem sc_BadStep_init : FnScope ["self", "step"] ["self", "step"] (defScope s_BadStep_init) := ⟨rfl, rfl, rfl, by decide +kernel, rfl, by decide +kernel, by decide +kernel⟩
theorem ok_BadStep_init {f_BadStep_init : Addr} {fd_BadStep_init : FuncData} {cv_BadStep : Addr} {cv_TimesError : Addr} (D_BadStep_init : DfM K "__init__" "BadStep.__init__" s_BadStep_init ["self", "step"] f_BadStep_init fd_BadStep_init) (xi_BadStep : EI K cv_BadStep f_BadStep_init "step") (xt_TimesError : InT0 K cv_TimesError) (gc_TimesError : mg "TimesError" = some (.ref cv_TimesError)) :
    FnOk P w K mg base (L2.CX P w) 1 f_BadStep_init fd_BadStep_init ["self", "step"] (spI cv_BadStep "step") :=
  exi_fn (m := "a step that can't be done") D_BadStep_init.fn sc_BadStep_init xi_BadStep (fun cdv A outer s H E => pss_cons (ps_expr (pe_tinit xt_TimesError gc_TimesError (pa_cons (pe_var rfl (.inl rfl)) (pa_cons pe_str pa_nil)))) (pss_one (ps_ost (pe_var rfl (.inl rfl)) (pe_var rfl (.inl rfl)))))
theorem sc_rooms_read : FnScope ["step"] ["step"] (defScope s_rooms_read) := ⟨rfl, rfl, rfl, by decide +kernel, rfl, by decide +kernel, by decide +kernel⟩
theorem ok_rooms_read {f_rooms_read : Addr} {fd_rooms_read : FuncData} {k : Nat} (D_rooms_read : Df K mg "rooms_read" s_rooms_read ["step"] f_rooms_read fd_rooms_read) {t_ROWS : Value} (g_ROWS : mg "ROWS" = some t_ROWS ∧ KV K (.ro true [(.str "left"), (.str "right")]) t_ROWS) {r : FSpec} (hrd : RD_rooms_read r) :
    FnOk P w K mg base (L2.CX P w) (k + 1) f_rooms_read fd_rooms_read ["step"] (FnD K 1 [] r) := by
  refine fl_fn D_rooms_read.fn sc_rooms_read (by rfl) (fun cdv A outer s H E hr => ?_) hrd
  have tk := takes_of (X := cxOf (L2.CX P w) P w K mg base ["step"] "rooms_read" (defScope s_rooms_read) f_rooms_read cdv A outer s H E) rfl rfl rfl rfl
  exact (fss_cons (fs_if (ft_cmp (fop_in (hu_of hr)) (fo_val (fe_ix (hu_of hr) (fo_val (fe_var (i := 0))) (fo_val fe_int))) (fo_val (fe_globT rfl g_ROWS))) (fss_one (fs_ret (fe_lst fa_nil))) fss_nil) (fss_cons (fs_if (ft_cmp (fop_eq hr.units) (fo_val (fe_ix (hu_of hr) (fo_val (fe_var (i := 0))) (fo_val fe_int))) (fo_val fe_str)) (fss_one (fs_ret (fe_lst (fa_cons (fo_val (fe_ix (hu_of hr) (fo_val (fe_var (i := 0))) (fo_val fe_int))) (fa_cons (fo_val (fe_ix (hu_of hr) (fo_val (fe_var (i := 0))) (fo_val fe_int))) fa_nil))))) fss_nil) (fss_cons (fs_if (ft_cmp (fop_eq hr.units) (fo_val (fe_ix (hu_of hr) (fo_val (fe_var (i := 0))) (fo_val fe_int))) (fo_val fe_str)) (fss_one (fs_ret (fe_lst (fa_cons (fo_val (fe_ix (hu_of hr) (fo_val (fe_var (i := 0))) (fo_val fe_int))) fa_nil)))) fss_nil) (fss_cons (fs_if (ft_cmp (fop_eq hr.units) (fo_val (fe_ix (hu_of hr) (fo_val (fe_var (i := 0))) (fo_val fe_int))) (fo_val fe_str)) (fss_one (fs_ret (fe_lst (fa_cons (fo_val (fe_ix (hu_of hr) (fo_val (fe_var (i := 0))) (fo_val fe_int))) (fa_cons (fo_val (fe_ix (hu_of hr) (fo_val (fe_var (i := 0))) (fo_val fe_int))) fa_nil))))) fss_nil) (fss_cons (fs_if (ft_cmp (fop_eq hr.units) (fo_val (fe_ix (hu_of hr) (fo_val (fe_var (i := 0))) (fo_val fe_int))) (fo_val fe_str)) (fss_one (fs_ret (fe_lst (fa_cons (fo_val (fe_ix (hu_of hr) (fo_val (fe_var (i := 0))) (fo_val fe_int))) fa_nil)))) fss_nil) (fss_one (fs_ret (fe_lst (fa_cons (fo_val (fe_ix (hu_of hr) (fo_val (fe_var (i := 0))) (fo_val fe_int))) fa_nil)))))))))
theorem sc_is_doable : FnScope ["step", "held", "told", "lengths", "room", "number", "place"] ["step", "held", "told", "lengths"] (defScope s_is_doable) := ⟨rfl, rfl, rfl, by decide +kernel, rfl, by decide +kernel, by decide +kernel⟩
theorem ok_is_doable {f_is_doable : Addr} {fd_is_doable : FuncData} {f_rooms_read : Addr} {fd_rooms_read : FuncData} {k : Nat} (D_is_doable : Df K mg "is_doable" s_is_doable ["step", "held", "told", "lengths"] f_is_doable fd_is_doable) (D_rooms_read : Df K mg "rooms_read" s_rooms_read ["step"] f_rooms_read fd_rooms_read) {r_rooms_read : FSpec} (F_rooms_read : FnOk P w K mg base (L2.CX P w) k f_rooms_read fd_rooms_read ["step"] (FnD K 1 [] r_rooms_read)) (z_all : mg "all" = none) {t_ROWS : Value} (g_ROWS : mg "ROWS" = some t_ROWS ∧ KV K (.ro true [(.str "left"), (.str "right")]) t_ROWS) {r : FSpec} (hrd : RD_is_doable r r_rooms_read) :
    FnOk P w K mg base (L2.CX P w) (k + 1) f_is_doable fd_is_doable ["step", "held", "told", "lengths"] (FnD K 4 [] r) := by
  refine fl_fn D_is_doable.fn sc_is_doable (by rfl) (fun cdv A outer s H E hr => ?_) hrd
  have tk := takes_of (X := cxOf (L2.CX P w) P w K mg base ["step", "held", "told", "lengths", "room", "number", "place"] "is_doable" (defScope s_is_doable) f_is_doable cdv A outer s H E) rfl rfl rfl rfl
  exact (fss_cons (fs_if (FW.ft (fw_and (ft_cmp (fop_in (hu_of hr)) (fo_val (fe_ix (hu_of hr) (fo_val (fe_var (i := 0))) (fo_val fe_int))) (fo_val (fe_globT rfl g_ROWS))) (fw_and1 (ft_not (ft_val (fe_callB fc_all z_all (by decide +kernel) (fa_cons (fo_val (fe_lc [6, 5] (own := [("place", 6), ("number", 5)]) sc_is_doable.nd (fi_row (fe_ix (hu_of hr) (fo_val (fe_var (i := 0))) (fo_val fe_int))) (blkOk_by (own := [("place", 6), ("number", 5)]) (N := ["step", "held", "told", "lengths", "room", "number", "place"]) (sc := defScope s_is_doable) (by decide +kernel)) (fun _ => (fg_tup (fgs_cons (fg_name 5 sc_is_doable.nd) (fgs_cons (fg_name 6 sc_is_doable.nd) fgs_nil)))) (fun _ => fts_nil) (fun _ => (fe_chain fop_le fop_lt (fo_val fe_int) (fo_val (fe_var (i := 6))) (fo_val (fe_ix (hu_of hr) (fo_val (fe_var (i := 3))) (fo_val (fe_ix (hu_of hr) (fo_val (fe_var (i := 0))) (fo_val fe_int))))))))) fa_nil))))))) (fss_one (fs_ret fe_bl)) fss_nil) (fss_cons (fs_if (FW.ft (fw_and (ft_cmp (fop_eq hr.units) (fo_val (fe_ix (hu_of hr) (fo_val (fe_var (i := 0))) (fo_val fe_int))) (fo_val fe_str)) (fw_and1 (FW.ft (fw_or (ft_cmp (fop_in (hu_of hr)) (fo_val (fe_ix (hu_of hr) (fo_val (fe_var (i := 0))) (fo_val fe_int))) (fo_val (fe_var (i := 2)))) (fw_or1 (ft_not (ft_chain fop_le fop_lt (fo_val fe_int) (fo_val (fe_ix (hu_of hr) (fo_val (fe_var (i := 0))) (fo_val fe_int))) (fo_val (fe_ix (hu_of hr) (fo_val (fe_var (i := 3))) (fo_val fe_str))))))))))) (fss_one (fs_ret fe_bl)) fss_nil) (fss_one (fs_ret (fe_callB fc_all z_all (by decide +kernel) (fa_cons (fo_val (fe_lc [4] (own := [("room", 4)]) sc_is_doable.nd (fi_row (fe_call tk F_rooms_read hr D_rooms_read.mg D_rooms_read.fn.kp D_rooms_read.b (fa_cons (fo_val (fe_var (i := 0))) fa_nil))) (blkOk_by (own := [("room", 4)]) (N := ["step", "held", "told", "lengths", "room", "number", "place"]) (sc := defScope s_is_doable) (by decide +kernel)) (fun _ => (fg_name 4 sc_is_doable.nd)) (fun _ => fts_nil) (fun _ => (fe_cmp (fop_in (hu_of hr)) (fo_val (fe_var (i := 4))) (fo_val (fe_var (i := 1))))))) fa_nil))))))
theorem sc_Run_init : FnScope ["self", "one", "other"] ["self", "one", "other"] (defScope s_Run_init) := ⟨rfl, rfl, rfl, by decide +kernel, rfl, by decide +kernel, by decide +kernel⟩
theorem ok_Run_init {f_Run_init : Addr} {fd_Run_init : FuncData} {cv_Run : Addr} {k : Nat} (D_Run_init : DfM K "__init__" "Run.__init__" s_Run_init ["self", "one", "other"] f_Run_init fd_Run_init) (cl_Run : Cls K cv_Run) (na_Run_held : NoAttr K cv_Run "held") (na_Run_most : NoAttr K cv_Run "most") (na_Run_rows : NoAttr K cv_Run "rows") (na_Run_sums : NoAttr K cv_Run "sums") (na_Run_times : NoAttr K cv_Run "times") (na_Run_told : NoAttr K cv_Run "told") {r : FSpec} (hrd : RD_Run_init r cv_Run) :
    FnOk P w K mg base (L2.CX P w) (k + 1) f_Run_init fd_Run_init ["self", "one", "other"] (FnD K 3 [0] r) := by
  refine fl_fn D_Run_init.fn sc_Run_init (by rfl) (fun cdv A outer s H E hr => ?_) hrd
  have tk := takes_of (X := cxOf (L2.CX P w) P w K mg base ["self", "one", "other"] "Run.__init__" (defScope s_Run_init) f_Run_init cdv A outer s H E) rfl rfl rfl rfl
  exact (fss_cons (fs_newF (fs0 := []) 0 cl_Run na_Run_rows (fe_disp (fd_cons (fo_val (fe_var (i := 1))) (fd_cons (fo_val (fe_var (i := 2))) fd_nil)))) (fss_cons (fs_newF (fs0 := ["rows"]) 0 cl_Run na_Run_held (fe_dnew false)) (fss_cons (fs_newF (fs0 := ["rows", "held"]) 0 cl_Run na_Run_told (fe_dnew false)) (fss_cons (fs_newF (fs0 := ["rows", "held", "told"]) 0 cl_Run na_Run_times fe_int) (fss_cons (fs_newF (fs0 := ["rows", "held", "told", "times"]) 0 cl_Run na_Run_sums fe_int) (fss_one (fs_newF (fs0 := ["rows", "held", "told", "times", "sums"]) 0 cl_Run na_Run_most fe_int)))))))
theorem sc_Run_go : FnScope ["self", "step", "row", "number", "place"] ["self", "step"] (defScope s_Run_go) := ⟨rfl, rfl, rfl, by decide +kernel, rfl, by decide +kernel, by decide +kernel⟩
theorem ok_Run_go {f_Run_go : Addr} {fd_Run_go : FuncData} {cv_Run : Addr} {k : Nat} (D_Run_go : DfM K "go" "Run.go" s_Run_go ["self", "step"] f_Run_go fd_Run_go) (z_len : mg "len" = none) (z_max : mg "max" = none) (z_sum : mg "sum" = none) {t_ROWS : Value} (g_ROWS : mg "ROWS" = some t_ROWS ∧ KV K (.ro true [(.str "left"), (.str "right")]) t_ROWS) (cl_Run : Cls K cv_Run) (na_Run_held : NoAttr K cv_Run "held") (na_Run_most : NoAttr K cv_Run "most") (na_Run_rows : NoAttr K cv_Run "rows") (na_Run_sums : NoAttr K cv_Run "sums") (na_Run_times : NoAttr K cv_Run "times") (na_Run_told : NoAttr K cv_Run "told") {r : FSpec} (hrd : RD_Run_go r cv_Run) :
    FnOk P w K mg base (L2.CX P w) (k + 1) f_Run_go fd_Run_go ["self", "step"] (FnD K 2 [0] r) := by
  refine fl_fn D_Run_go.fn sc_Run_go (by rfl) (fun cdv A outer s H E hr => ?_) hrd
  have tk := takes_of (X := cxOf (L2.CX P w) P w K mg base ["self", "step", "row", "number", "place"] "Run.go" (defScope s_Run_go) f_Run_go cdv A outer s H E) rfl rfl rfl rfl
  exact (fss_cons (fs_cut (fs_if (ft_cmp (fop_in (hu_of hr)) (fo_val (fe_ix (hu_of hr) (fo_val (fe_var (i := 1))) (fo_val fe_int))) (fo_val (fe_globT rfl g_ROWS))) (fss_cons (fs_setF 2 (fe_rdP (fp_dk (fp_fld 0 cl_Run na_Run_rows (fp_name 0)) (fe_ix (hu_of hr) (fo_val (fe_var (i := 1))) (fo_val fe_int)) (hu_of hr))) sc_Run_go.nd) (fss_cons (fs_setDP (fe_callB fc_sum z_sum (by decide +kernel) (fa_cons (fo_val (fe_lc [4, 3] (own := [("place", 4), ("number", 3)]) sc_Run_go.nd (fi_row (fe_ix (hu_of hr) (fo_val (fe_var (i := 1))) (fo_val fe_int))) (blkOk_by (own := [("place", 4), ("number", 3)]) (N := ["self", "step", "row", "number", "place"]) (sc := defScope s_Run_go) (by decide +kernel)) (fun _ => (fg_tup (fgs_cons (fg_name 3 sc_Run_go.nd) (fgs_cons (fg_name 4 sc_Run_go.nd) fgs_nil)))) (fun _ => fts_nil) (fun _ => (fe_op fop_mulX (fo_val (fe_var (i := 3))) (fo_val (fe_ix (hu_of hr) (fo_val (fe_var (i := 2))) (fo_val (fe_var (i := 4))))))))) fa_nil)) (fp_fld 1 cl_Run na_Run_held (fp_name 0)) (fe_ix (hu_of hr) (fo_val (fe_var (i := 1))) (fo_val fe_int)) (hu_of hr)) (fss_one (fs_augF (Fs := ["rows", "held", "told", "times", "sums", "most"]) 0 4 cl_Run na_Run_sums (fe_subC (fo_val (fe_callB fc_len z_len (by decide +kernel) (fa_cons (fo_val (fe_ix (hu_of hr) (fo_val (fe_var (i := 1))) (fo_val fe_int))) fa_nil)))))))) (fss_one (fs_if (ft_cmp (fop_eq hr.units) (fo_val (fe_ix (hu_of hr) (fo_val (fe_var (i := 1))) (fo_val fe_int))) (fo_val fe_str)) (fss_cons (fs_setDP (fe_op fop_mulX (fo_val (fe_rdP (fp_dk (fp_fld 1 cl_Run na_Run_held (fp_name 0)) (fe_ix (hu_of hr) (fo_val (fe_var (i := 1))) (fo_val fe_int)) (hu_of hr)))) (fo_val (fe_rdP (fp_dk (fp_fld 1 cl_Run na_Run_held (fp_name 0)) (fe_ix (hu_of hr) (fo_val (fe_var (i := 1))) (fo_val fe_int)) (hu_of hr))))) (fp_fld 1 cl_Run na_Run_held (fp_name 0)) (fe_ix (hu_of hr) (fo_val (fe_var (i := 1))) (fo_val fe_int)) (hu_of hr)) (fss_one (fs_augF (Fs := ["rows", "held", "told", "times", "sums", "most"]) 0 3 cl_Run na_Run_times fe_int))) (fss_one (fs_if (ft_cmp (fop_eq hr.units) (fo_val (fe_ix (hu_of hr) (fo_val (fe_var (i := 1))) (fo_val fe_int))) (fo_val fe_str)) (fss_one (fs_setDP (fe_op fop_mulX (fo_val (fe_ix (hu_of hr) (fo_val (fe_var (i := 1))) (fo_val fe_int))) (fo_val (fe_rdP (fp_dk (fp_fld 1 cl_Run na_Run_held (fp_name 0)) (fe_ix (hu_of hr) (fo_val (fe_var (i := 1))) (fo_val fe_int)) (hu_of hr))))) (fp_fld 1 cl_Run na_Run_held (fp_name 0)) (fe_ix (hu_of hr) (fo_val (fe_var (i := 1))) (fo_val fe_int)) (hu_of hr))) (fss_one (fs_if (ft_cmp (fop_eq hr.units) (fo_val (fe_ix (hu_of hr) (fo_val (fe_var (i := 1))) (fo_val fe_int))) (fo_val fe_str)) (fss_cons (fs_augDP (fp_fld 1 cl_Run na_Run_held (fp_name 0)) (fe_ix (hu_of hr) (fo_val (fe_var (i := 1))) (fo_val fe_int)) (fe_op fop_mulX (fo_val (fe_ix (hu_of hr) (fo_val (fe_var (i := 1))) (fo_val fe_int))) (fo_val (fe_ix (hu_of hr) (fo_val (fe_fld 1 cl_Run na_Run_held (fo_val (fe_var (i := 0))))) (fo_val (fe_ix (hu_of hr) (fo_val (fe_var (i := 1))) (fo_val fe_int)))))) (hu_of hr)) (fss_one (fs_augF (Fs := ["rows", "held", "told", "times", "sums", "most"]) 0 4 cl_Run na_Run_sums fe_int))) (fss_one (fs_if (ft_cmp (fop_eq hr.units) (fo_val (fe_ix (hu_of hr) (fo_val (fe_var (i := 1))) (fo_val fe_int))) (fo_val fe_str)) (fss_one (fs_expr (fe_popD1 (fp_fld 1 cl_Run na_Run_held (fp_name 0)) (fe_ix (hu_of hr) (fo_val (fe_var (i := 1))) (fo_val fe_int))))) (fss_one (fs_setDP (fe_popD1 (fp_fld 1 cl_Run na_Run_held (fp_name 0)) (fe_ix (hu_of hr) (fo_val (fe_var (i := 1))) (fo_val fe_int))) (fp_fld 2 cl_Run na_Run_told (fp_name 0)) (fe_ix (hu_of hr) (fo_val (fe_var (i := 1))) (fo_val fe_int)) (hu_of hr))))))))))))) (fss_one (fs_putF (Fs := ["rows", "held", "told", "times", "sums", "most"]) 0 5 cl_Run na_Run_most (fe_thaw 0 (fe_callB fc_max2 z_max (by decide +kernel) (fa_cons (fo_val (fe_fld 5 cl_Run na_Run_most (fo_val (fe_var (i := 0))))) (fa_cons (fo_val (fe_callB fc_lenD z_len (by decide +kernel) (fa_cons (fo_val (fe_fld 1 cl_Run na_Run_held (fo_val (fe_var (i := 0))))) fa_nil))) fa_nil)))))))
theorem sc_run_program : FnScope ["program", "one", "other", "many", "run", "lengths", "place", "step", "k"] ["program", "one", "other", "many"] (defScope s_run_program) := ⟨rfl, rfl, rfl, by decide +kernel, rfl, by decide +kernel, by decide +kernel⟩
def rb_run_program (r_Run_init : FSpec) (r_Run_go : FSpec) (r_is_doable : FSpec) (cv_BadStep : Addr) (cv_Run : Addr) : RS := (rSeq (rSet 4 (rCall [] (rMk cv_Run r_Run_init) (rAC (oV (rVar 1)) (rAC (oV (rVar 2)) rA0))))
  (rSeq (rSetF 5 (rDisp ["left", "right", "tell"] (rAC (oV (rCB dLen (rAC (oV (rVar 1)) rA0))) (rAC (oV (rCB dLen (rAC (oV (rVar 2)) rA0))) (rAC (oV (rVar 3)) rA0)))))
  (rSeq (rFor (rEn (rAC (oV (rVar 0)) rA0)) (gTp 2 (gCs (gNm 6) (gCs (gNm 7) gNl))) (rSeq (rIf (rThawT 4 (rNot (rTst (rCall [] r_is_doable (rAC (oV (rVar 7)) (rAC (oV (rUn (dFld cv_Run ["rows", "held", "told", "times", "sums", "most"] 1) (oV (rVar 4)))) (rAC (oV (rUn (dFld cv_Run ["rows", "held", "told", "times", "sums", "most"] 2) (oV (rVar 4)))) (rAC (oV (rVar 5)) rA0)))))))) (rRaiseF cv_BadStep "step" (rVar 6)) rNx)
  (rDrop (rMeth 4 cv_Run ["rows", "held", "told", "times", "sums", "most"] [0] r_Run_go (rAC (oV (rVar 7)) rA0)))))
  (rRet (rThaw 4 (rTup (rAC (oV (rComp (rRg1 (rAC (oV (rVar 3)) rA0)) (gNm 8) rYes (rGet2 (oV (rUn (dFld cv_Run ["rows", "held", "told", "times", "sums", "most"] 2) (oV (rVar 4)))) (oV (rVar 8)) (rC (.int 0))) [8])) (rAC (oV (rUn (dFld cv_Run ["rows", "held", "told", "times", "sums", "most"] 3) (oV (rVar 4)))) (rAC (oV (rUn (dFld cv_Run ["rows", "held", "told", "times", "sums", "most"] 4) (oV (rVar 4)))) (rAC (oV (rUn (dFld cv_Run ["rows", "held", "told", "times", "sums", "most"] 5) (oV (rVar 4)))) rA0))))))))))
abbrev RD_run_program (r : FSpec) (r_Run_init : FSpec) (r_Run_go : FSpec) (r_is_doable : FSpec) (cv_BadStep : Addr) (cv_Run : Addr) : Prop := ∀ ds ED QD, ds.length = 4 → r ds ED QD → (rb_run_program r_Run_init r_Run_go r_is_doable cv_BadStep cv_Run) (startD ["program", "one", "other", "many", "run", "lengths", "place", "step", "k"] ds) (fun c fs ρ => ED c fs (ρ.take 4)) (finD 4 QD)
theorem ok_run_program {f_run_program : Addr} {fd_run_program : FuncData} {f_Run_init : Addr} {fd_Run_init : FuncData} {f_Run_go : Addr} {fd_Run_go : FuncData} {f_is_doable : Addr} {fd_is_doable : FuncData} {f_BadStep_init : Addr} {fd_BadStep_init : FuncData} {cv_BadStep : Addr} {cv_Run : Addr} {k : Nat} (D_run_program : Df K mg "run_program" s_run_program ["program", "one", "other", "many"] f_run_program fd_run_program) (D_Run_init : DfM K "__init__" "Run.__init__" s_Run_init ["self", "one", "other"] f_Run_init fd_Run_init) (D_Run_go : DfM K "go" "Run.go" s_Run_go ["self", "step"] f_Run_go fd_Run_go) (D_is_doable : Df K mg "is_doable" s_is_doable ["step", "held", "told", "lengths"] f_is_doable fd_is_doable) (D_BadStep_init : DfM K "__init__" "BadStep.__init__" s_BadStep_init ["self", "step"] f_BadStep_init fd_BadStep_init) {r_Run_init : FSpec} {k_Run_init : Nat} (F_Run_init : FnOk P w K mg base (L2.CX P w) k_Run_init f_Run_init fd_Run_init ["self", "one", "other"] (FnD K 3 [0] r_Run_init)) (hk_Run_init : k_Run_init + 1 ≤ k) {r_Run_go : FSpec} (F_Run_go : FnOk P w K mg base (L2.CX P w) k f_Run_go fd_Run_go ["self", "step"] (FnD K 2 [0] r_Run_go)) {r_is_doable : FSpec} (F_is_doable : FnOk P w K mg base (L2.CX P w) k f_is_doable fd_is_doable ["step", "held", "told", "lengths"] (FnD K 4 [] r_is_doable)) {k_BadStep_init : Nat} (F_BadStep_init : FnOk P w K mg base (L2.CX P w) k_BadStep_init f_BadStep_init fd_BadStep_init ["self", "step"] (spI cv_BadStep "step")) (hk_BadStep_init : k_BadStep_init + 1 ≤ k) (z_enumerate : mg "enumerate" = none) (z_len : mg "len" = none) (z_range : mg "range" = none) (cl_Run : Cls K cv_Run) (na_Run_held : NoAttr K cv_Run "held") (na_Run_most : NoAttr K cv_Run "most") (na_Run_sums : NoAttr K cv_Run "sums") (na_Run_times : NoAttr K cv_Run "times") (na_Run_told : NoAttr K cv_Run "told") (me_Run_go : Meth K cv_Run "go" f_Run_go) (mk_Run : Mk K cv_Run f_Run_init) (xi_BadStep : EI K cv_BadStep f_BadStep_init "step") (gc_BadStep : mg "BadStep" = some (.ref cv_BadStep)) (gc_Run : mg "Run" = some (.ref cv_Run)) {r : FSpec} (hrd : RD_run_program r r_Run_init r_Run_go r_is_doable cv_BadStep cv_Run) :
    FnOk P w K mg base (L2.CX P w) (k + 1) f_run_program fd_run_program ["program", "one", "other", "many"] (FnD K 4 [] r) := by
  refine fl_fn D_run_program.fn sc_run_program (by rfl) (fun cdv A outer s H E hr => ?_) hrd
  have tk := takes_of (X := cxOf (L2.CX P w) P w K mg base ["program", "one", "other", "many", "run", "lengths", "place", "step", "k"] "run_program" (defScope s_run_program) f_run_program cdv A outer s H E) rfl rfl rfl rfl
  exact (fss_cons (fs_set 4 (fe_make [] tk mk_Run F_Run_init (hr.mono hk_Run_init) gc_Run D_Run_init.b (fa_cons (fo_val (fe_var (i := 1))) (fa_cons (fo_val (fe_var (i := 2))) fa_nil))) sc_run_program.nd) (fss_cons (fs_setF 5 (fe_disp (fd_cons (fo_val (fe_callB fc_len z_len (by decide +kernel) (fa_cons (fo_val (fe_var (i := 1))) fa_nil))) (fd_cons (fo_val (fe_callB fc_len z_len (by decide +kernel) (fa_cons (fo_val (fe_var (i := 2))) fa_nil))) (fd_cons (fo_val (fe_var (i := 3))) fd_nil)))) sc_run_program.nd) (fss_cons (fs_for [7, 6] PassesOwn.leaving (fi_enum (fa_cons (fo_val (fe_var (i := 0))) fa_nil) z_enumerate) (fg_tup (fgs_cons (fg_name 6 sc_run_program.nd) (fgs_cons (fg_name 7 sc_run_program.nd) fgs_nil))) (fss_cons (fs_if (ft_thaw 4 (ft_not (ft_val (fe_call tk F_is_doable hr D_is_doable.mg D_is_doable.fn.kp D_is_doable.b (fa_cons (fo_val (fe_var (i := 7))) (fa_cons (fo_val (fe_fld 1 cl_Run na_Run_held (fo_val (fe_var (i := 4))))) (fa_cons (fo_val (fe_fld 2 cl_Run na_Run_told (fo_val (fe_var (i := 4))))) (fa_cons (fo_val (fe_var (i := 5))) fa_nil)))))))) (fss_one (fs_raiseF tk xi_BadStep F_BadStep_init (hr.mono hk_BadStep_init) D_BadStep_init.b gc_BadStep (fe_var (i := 6)))) fss_nil) (fss_one (fs_expr (fe_meth (Fs := ["rows", "held", "told", "times", "sums", "most"]) 4 tk cl_Run me_Run_go F_Run_go hr D_Run_go.b (fa_cons (fo_val (fe_var (i := 7))) fa_nil)))))) (fss_one (fs_ret (fe_thaw 4 (fe_tup (fa_cons (fo_val (fe_lc [8] (own := [("k", 8)]) sc_run_program.nd (fi_range1 (fa_cons (fo_val (fe_var (i := 3))) fa_nil) z_range) (blkOk_by (own := [("k", 8)]) (N := ["program", "one", "other", "many", "run", "lengths", "place", "step", "k"]) (sc := defScope s_run_program) (by decide +kernel)) (fun _ => (fg_name 8 sc_run_program.nd)) (fun _ => fts_nil) (fun _ => (fe_get2 (fo_val (fe_fld 2 cl_Run na_Run_told (fo_val (fe_var (i := 4))))) (fo_val (fe_var (i := 8))) fe_int (hu_of hr))))) (fa_cons (fo_val (fe_fld 3 cl_Run na_Run_times (fo_val (fe_var (i := 4))))) (fa_cons (fo_val (fe_fld 4 cl_Run na_Run_sums (fo_val (fe_var (i := 4))))) (fa_cons (fo_val (fe_fld 5 cl_Run na_Run_most (fo_val (fe_var (i := 4))))) fa_nil)))))))))))
theorem sc_law_cell_at : FnScope ["_law_script", "_law_k"] ["_law_script", "_law_k"] (defScope s_law_cell_at) := ⟨rfl, rfl, rfl, by decide +kernel, rfl, by decide +kernel, by decide +kernel⟩
theorem ok_law_cell_at {f_law_cell_at : Addr} {fd_law_cell_at : FuncData} {k : Nat} (D_law_cell_at : Df K mg "_law_cell_at" s_law_cell_at ["_law_script", "_law_k"] f_law_cell_at fd_law_cell_at) (z_len : mg "len" = none) {r : FSpec} (hrd : RD_law_cell_at r) :
    FnOk P w K mg base (L2.CX P w) (k + 1) f_law_cell_at fd_law_cell_at ["_law_script", "_law_k"] (FnD K 2 [] r) := by
  refine fl_fn D_law_cell_at.fn sc_law_cell_at (by rfl) (fun cdv A outer s H E hr => ?_) hrd
  have tk := takes_of (X := cxOf (L2.CX P w) P w K mg base ["_law_script", "_law_k"] "_law_cell_at" (defScope s_law_cell_at) f_law_cell_at cdv A outer s H E) rfl rfl rfl rfl
  exact (fss_cons (fs_if (ft_cmp fop_lt (fo_val (fe_var (i := 1))) (fo_val (fe_callB fc_len z_len (by decide +kernel) (fa_cons (fo_val (fe_var (i := 0))) fa_nil)))) (fss_one (fs_ret (fe_ix (hu_of hr) (fo_val (fe_var (i := 0))) (fo_val (fe_var (i := 1)))))) fss_nil) (fss_one (fs_ret fe_int)))
theorem sc_law_mixed : FnScope ["_law_number_here", "_law_k", "_law_once", "_law_twice"] ["_law_number_here", "_law_k"] (defScope s_law_mixed) := ⟨rfl, rfl, rfl, by decide +kernel, rfl, by decide +kernel, by decide +kernel⟩
theorem ok_law_mixed {f_law_mixed : Addr} {fd_law_mixed : FuncData} {k : Nat} (D_law_mixed : Df K mg "_law_mixed" s_law_mixed ["_law_number_here", "_law_k"] f_law_mixed fd_law_mixed) {r : FSpec} (hrd : RD_law_mixed r) :
    FnOk P w K mg base (L2.CX P w) (k + 1) f_law_mixed fd_law_mixed ["_law_number_here", "_law_k"] (FnD K 2 [] r) := by
  refine fl_fn D_law_mixed.fn sc_law_mixed (by rfl) (fun cdv A outer s H E hr => ?_) hrd
  have tk := takes_of (X := cxOf (L2.CX P w) P w K mg base ["_law_number_here", "_law_k", "_law_once", "_law_twice"] "_law_mixed" (defScope s_law_mixed) f_law_mixed cdv A outer s H E) rfl rfl rfl rfl
  exact (fss_cons (fs_setF 2 (fe_modC (fo_val (fe_mulC (fo_val (fe_addC (fo_val (fe_op fop_add (fo_val (fe_modC (fo_val (fe_var (i := 0))))) (fo_val (fe_mulCl (fo_val (fe_var (i := 1)))))))))))) sc_law_mixed.nd) (fss_cons (fs_setF 3 (fe_modC (fo_val (fe_op fop_mulX (fo_val (fe_var (i := 2))) (fo_val (fe_addC (fo_val (fe_op fop_add (fo_val (fe_modC (fo_val (fe_var (i := 2))))) (fo_val (fe_var (i := 1)))))))))) sc_law_mixed.nd) (fss_one (fs_ret (fe_fdivC (fo_val (fe_modC (fo_val (fe_op fop_add (fo_val (fe_mulC (fo_val (fe_var (i := 3))))) (fo_val (fe_var (i := 2))))))))))))
theorem sc_law_box : FnScope ["_law_script", "_law_k", "_law_cell"] ["_law_script", "_law_k"] (defScope s_law_box) := ⟨rfl, rfl, rfl, by decide +kernel, rfl, by decide +kernel, by decide +kernel⟩
theorem ok_law_box {f_law_box : Addr} {fd_law_box : FuncData} {f_law_cell_at : Addr} {fd_law_cell_at : FuncData} {f_law_mixed : Addr} {fd_law_mixed : FuncData} {k : Nat} (D_law_box : Df K mg "_law_box" s_law_box ["_law_script", "_law_k"] f_law_box fd_law_box) (D_law_cell_at : Df K mg "_law_cell_at" s_law_cell_at ["_law_script", "_law_k"] f_law_cell_at fd_law_cell_at) (D_law_mixed : Df K mg "_law_mixed" s_law_mixed ["_law_number_here", "_law_k"] f_law_mixed fd_law_mixed) {r_law_cell_at : FSpec} (F_law_cell_at : FnOk P w K mg base (L2.CX P w) k f_law_cell_at fd_law_cell_at ["_law_script", "_law_k"] (FnD K 2 [] r_law_cell_at)) {r_law_mixed : FSpec} (F_law_mixed : FnOk P w K mg base (L2.CX P w) k f_law_mixed fd_law_mixed ["_law_number_here", "_law_k"] (FnD K 2 [] r_law_mixed)) (z_abs : mg "abs" = none) (z_int : mg "int" = none) {r : FSpec} (hrd : RD_law_box r r_law_cell_at r_law_mixed) :
    FnOk P w K mg base (L2.CX P w) (k + 1) f_law_box fd_law_box ["_law_script", "_law_k"] (FnD K 2 [] r) := by
  refine fl_fn D_law_box.fn sc_law_box (by rfl) (fun cdv A outer s H E hr => ?_) hrd
  have tk := takes_of (X := cxOf (L2.CX P w) P w K mg base ["_law_script", "_law_k", "_law_cell"] "_law_box" (defScope s_law_box) f_law_box cdv A outer s H E) rfl rfl rfl rfl
  exact (fss_cons (fs_setF 2 (fe_call tk F_law_cell_at hr D_law_cell_at.mg D_law_cell_at.fn.kp D_law_cell_at.b (fa_cons (fo_val (fe_var (i := 0))) (fa_cons (fo_val (fe_var (i := 1))) fa_nil))) sc_law_box.nd) (fss_one (fs_ret (fe_lst (fa_cons (fo_val (fe_op fop_mulX (fo_val (fe_callB fc_abs z_abs (by decide +kernel) (fa_cons (fo_val (fe_var (i := 2))) fa_nil))) (fo_val (fe_callTy fc_int z_int (by decide +kernel) (fa_cons (fo_val (fe_cmp fop_ge (fo_val (fe_callB fc_abs z_abs (by decide +kernel) (fa_cons (fo_val (fe_var (i := 2))) fa_nil))) (fo_val fe_powC))) fa_nil))))) (fa_cons (fo_val (fe_call tk F_law_mixed hr D_law_mixed.mg D_law_mixed.fn.kp D_law_mixed.b (fa_cons (fo_val (fe_var (i := 2))) (fa_cons (fo_val (fe_addCl (fo_val (fe_var (i := 1))))) fa_nil)))) (fa_cons (fo_val fe_int) fa_nil)))))))
theorem sc_law_take : FnScope ["_law_box_here", "_law_many", "_law_found", "_law_reach"] ["_law_box_here", "_law_many"] (defScope s_law_take) := ⟨rfl, rfl, rfl, by decide +kernel, rfl, by decide +kernel, by decide +kernel⟩
theorem ok_law_take {f_law_take : Addr} {fd_law_take : FuncData} {f_law_mixed : Addr} {fd_law_mixed : FuncData} {k : Nat} (D_law_take : Df K mg "_law_take" s_law_take ["_law_box_here", "_law_many"] f_law_take fd_law_take) (D_law_mixed : Df K mg "_law_mixed" s_law_mixed ["_law_number_here", "_law_k"] f_law_mixed fd_law_mixed) {r_law_mixed : FSpec} (F_law_mixed : FnOk P w K mg base (L2.CX P w) k f_law_mixed fd_law_mixed ["_law_number_here", "_law_k"] (FnD K 2 [] r_law_mixed)) {r : FSpec} (hrd : RD_law_take r r_law_mixed) :
    FnOk P w K mg base (L2.CX P w) (k + 1) f_law_take fd_law_take ["_law_box_here", "_law_many"] (FnD K 2 [0] r) := by
  refine fl_fn D_law_take.fn sc_law_take (by rfl) (fun cdv A outer s H E hr => ?_) hrd
  have tk := takes_of (X := cxOf (L2.CX P w) P w K mg base ["_law_box_here", "_law_many", "_law_found", "_law_reach"] "_law_take" (defScope s_law_take) f_law_take cdv A outer s H E) rfl rfl rfl rfl
  exact (fss_cons (fs_if (ft_cmp fop_gt (fo_val (fe_ix (hu_of hr) (fo_brw (i := 0)) (fo_val fe_int))) (fo_val fe_int)) (fss_cons (fs_setF 2 (fe_op fop_mod (fo_val (fe_ix (hu_of hr) (fo_brw (i := 0)) (fo_val fe_int))) (fo_val (fe_var (i := 1)))) sc_law_take.nd) (fss_cons (fs_setL 0 (fe_op fop_fdiv (fo_val (fe_ix (hu_of hr) (fo_brw (i := 0)) (fo_val fe_int))) (fo_val (fe_var (i := 1)))) (fo_val fe_int)) (fss_one (fs_ret (fe_var (i := 2)))))) fss_nil) (fss_cons (fs_asg [3, 2] (fe_tup (fa_cons (fo_val fe_int) (fa_cons (fo_val fe_int) fa_nil))) (fg_tup (fgs_cons (fg_name 2 sc_law_take.nd) (fgs_cons (fg_name 3 sc_law_take.nd) fgs_nil)))) (fss_cons (fs_while PassesOwn.leaving (ft_cmp fop_lt (fo_val (fe_var (i := 3))) (fo_val (fe_var (i := 1)))) (fss_cons (fs_setL 0 (fe_addC (fo_val (fe_ix (hu_of hr) (fo_brw (i := 0)) (fo_val fe_int)))) (fo_val fe_int)) (fss_cons (fs_setF 2 (fe_op fop_add (fo_val (fe_mulC (fo_val (fe_var (i := 2))))) (fo_val (fe_call tk F_law_mixed hr D_law_mixed.mg D_law_mixed.fn.kp D_law_mixed.b (fa_cons (fo_val (fe_ix (hu_of hr) (fo_brw (i := 0)) (fo_val fe_int))) (fa_cons (fo_val (fe_ix (hu_of hr) (fo_brw (i := 0)) (fo_val fe_int))) fa_nil))))) sc_law_take.nd) (fss_one (fs_setF 3 (fe_mulC (fo_val (fe_var (i := 3)))) sc_law_take.nd))))) (fss_one (fs_ret (fe_op fop_mod (fo_val (fe_var (i := 2))) (fo_val (fe_var (i := 1)))))))))
theorem sc_law_number : FnScope ["_law_box_here", "_law_way"] ["_law_box_here"] (defScope s_law_number) := ⟨rfl, rfl, rfl, by decide +kernel, rfl, by decide +kernel, by decide +kernel⟩
theorem ok_law_number {f_law_number : Addr} {fd_law_number : FuncData} {f_law_take : Addr} {fd_law_take : FuncData} {k : Nat} (D_law_number : Df K mg "_law_number" s_law_number ["_law_box_here"] f_law_number fd_law_number) (D_law_take : Df K mg "_law_take" s_law_take ["_law_box_here", "_law_many"] f_law_take fd_law_take) {r_law_take : FSpec} (F_law_take : FnOk P w K mg base (L2.CX P w) k f_law_take fd_law_take ["_law_box_here", "_law_many"] (FnD K 2 [0] r_law_take)) {r : FSpec} (hrd : RD_law_number r r_law_take) :
    FnOk P w K mg base (L2.CX P w) (k + 1) f_law_number fd_law_number ["_law_box_here"] (FnD K 1 [0] r) := by
  refine fl_fn D_law_number.fn sc_law_number (by rfl) (fun cdv A outer s H E hr => ?_) hrd
  have tk := takes_of (X := cxOf (L2.CX P w) P w K mg base ["_law_box_here", "_law_way"] "_law_number" (defScope s_law_number) f_law_number cdv A outer s H E) rfl rfl rfl rfl
  exact (fss_cons (fs_setF 1 (fe_call tk F_law_take hr D_law_take.mg D_law_take.fn.kp D_law_take.b (fa_cons (fo_brw (i := 0)) (fa_cons (fo_val fe_int) fa_nil))) sc_law_number.nd) (fss_cons (fs_if (ft_cmp (fop_eq hr.units) (fo_val (fe_var (i := 1))) (fo_val fe_int)) (fss_one (fs_ret (fe_subC (fo_val (fe_call tk F_law_take hr D_law_take.mg D_law_take.fn.kp D_law_take.b (fa_cons (fo_brw (i := 0)) (fa_cons (fo_val fe_int) fa_nil))))))) fss_nil) (fss_one (fs_ret (fe_ix (hu_of hr) (fo_val (fe_lst (fa_cons (fo_val fe_int) (fa_cons (fo_val fe_int) (fa_cons (fo_val fe_int) (fa_cons (fo_val fe_int) (fa_cons (fo_val fe_int) (fa_cons (fo_val fe_int) (fa_cons (fo_val fe_negC) (fa_cons (fo_val fe_negC) (fa_cons (fo_val fe_int) fa_nil))))))))))) (fo_val (fe_var (i := 1))))))))
theorem sc_law_row : FnScope ["_law_box_here", "_law_length", "_law_most", "_law_k"] ["_law_box_here", "_law_length"] (defScope s_law_row) := ⟨rfl, rfl, rfl, by decide +kernel, rfl, by decide +kernel, by decide +kernel⟩
theorem ok_law_row {f_law_row : Addr} {fd_law_row : FuncData} {f_law_take : Addr} {fd_law_take : FuncData} {k : Nat} (D_law_row : Df K mg "_law_row" s_law_row ["_law_box_here", "_law_length"] f_law_row fd_law_row) (D_law_take : Df K mg "_law_take" s_law_take ["_law_box_here", "_law_many"] f_law_take fd_law_take) {r_law_take : FSpec} (F_law_take : FnOk P w K mg base (L2.CX P w) k f_law_take fd_law_take ["_law_box_here", "_law_many"] (FnD K 2 [0] r_law_take)) (z_range : mg "range" = none) {r : FSpec} (hrd : RD_law_row r r_law_take) :
    FnOk P w K mg base (L2.CX P w) (k + 1) f_law_row fd_law_row ["_law_box_here", "_law_length"] (FnD K 2 [0] r) := by
  refine fl_fn D_law_row.fn sc_law_row (by rfl) (fun cdv A outer s H E hr => ?_) hrd
  have tk := takes_of (X := cxOf (L2.CX P w) P w K mg base ["_law_box_here", "_law_length", "_law_most", "_law_k"] "_law_row" (defScope s_law_row) f_law_row cdv A outer s H E) rfl rfl rfl rfl
  exact (fss_cons (fs_setF 2 (fe_ix (hu_of hr) (fo_val (fe_lst (fa_cons (fo_val fe_int) (fa_cons (fo_val fe_int) (fa_cons (fo_val fe_int) (fa_cons (fo_val fe_powC) fa_nil)))))) (fo_val (fe_call tk F_law_take hr D_law_take.mg D_law_take.fn.kp D_law_take.b (fa_cons (fo_brw (i := 0)) (fa_cons (fo_val fe_int) fa_nil))))) sc_law_row.nd) (fss_one (fs_ret (fe_lc [3] (own := [("_law_k", 3)]) sc_law_row.nd (fi_range1 (fa_cons (fo_val (fe_var (i := 1))) fa_nil) z_range) (blkOk_by (own := [("_law_k", 3)]) (N := ["_law_box_here", "_law_length", "_law_most", "_law_k"]) (sc := defScope s_law_row) (by decide +kernel)) (fun _ => (fg_name 3 sc_law_row.nd)) (fun _ => fts_nil) (fun _ => (fe_op fop_sub (fo_val (fe_call takes0 F_law_take hr D_law_take.mg D_law_take.fn.kp D_law_take.b (fa_cons (fo_brw (i := 0)) (fa_cons (fo_val (fe_addC (fo_val (fe_mulCl (fo_val (fe_var (i := 2))))))) fa_nil)))) (fo_val (fe_var (i := 2)))))))))
theorem sc_law_lengths : FnScope ["_law_box_here", "_law_most", "_law_side"] ["_law_box_here", "_law_most"] (defScope s_law_lengths) := ⟨rfl, rfl, rfl, by decide +kernel, rfl, by decide +kernel, by decide +kernel⟩
theorem ok_law_lengths {f_law_lengths : Addr} {fd_law_lengths : FuncData} {f_law_take : Addr} {fd_law_take : FuncData} {k : Nat} (D_law_lengths : Df K mg "_law_lengths" s_law_lengths ["_law_box_here", "_law_most"] f_law_lengths fd_law_lengths) (D_law_take : Df K mg "_law_take" s_law_take ["_law_box_here", "_law_many"] f_law_take fd_law_take) {r_law_take : FSpec} (F_law_take : FnOk P w K mg base (L2.CX P w) k f_law_take fd_law_take ["_law_box_here", "_law_many"] (FnD K 2 [0] r_law_take)) (z_range : mg "range" = none) {r : FSpec} (hrd : RD_law_lengths r r_law_take) :
    FnOk P w K mg base (L2.CX P w) (k + 1) f_law_lengths fd_law_lengths ["_law_box_here", "_law_most"] (FnD K 2 [0] r) := by
  refine fl_fn D_law_lengths.fn sc_law_lengths (by rfl) (fun cdv A outer s H E hr => ?_) hrd
  have tk := takes_of (X := cxOf (L2.CX P w) P w K mg base ["_law_box_here", "_law_most", "_law_side"] "_law_lengths" (defScope s_law_lengths) f_law_lengths cdv A outer s H E) rfl rfl rfl rfl
  exact (fss_one (fs_ret (fe_lc [2] (own := [("_law_side", 2)]) sc_law_lengths.nd (fi_range1 (fa_cons (fo_val fe_int) fa_nil) z_range) (blkOk_by (own := [("_law_side", 2)]) (N := ["_law_box_here", "_law_most", "_law_side"]) (sc := defScope s_law_lengths) (by decide +kernel)) (fun _ => (fg_name 2 sc_law_lengths.nd)) (fun _ => fts_nil) (fun _ => (fe_addCl (fo_val (fe_call takes0 F_law_take hr D_law_take.mg D_law_take.fn.kp D_law_take.b (fa_cons (fo_brw (i := 0)) (fa_cons (fo_val (fe_var (i := 1))) fa_nil)))))))))
theorem sc_law_program : FnScope ["_law_box_here", "_law_lengths_here", "_law_size", "_law_sorts", "_law_held", "_law_told", "_law_steps", "_law_turn", "_law_step_here", "_law_many", "_law_one"] ["_law_box_here", "_law_lengths_here", "_law_size", "_law_sorts"] (defScope s_law_program) := ⟨rfl, rfl, rfl, by decide +kernel, rfl, by decide +kernel, by decide +kernel⟩
theorem ok_law_program {f_law_program : Addr} {fd_law_program : FuncData} {f_law_step : Addr} {fd_law_step : FuncData} {f_law_kept : Addr} {fd_law_kept : FuncData} {k : Nat} (D_law_program : Df K mg "_law_program" s_law_program ["_law_box_here", "_law_lengths_here", "_law_size", "_law_sorts"] f_law_program fd_law_program) (D_law_step : Df K mg "_law_step" s_law_step ["_law_box_here", "_law_lengths_here", "_law_held", "_law_told", "_law_sorts"] f_law_step fd_law_step) (D_law_kept : Df K mg "_law_kept" s_law_kept ["_law_step_here", "_law_held", "_law_told"] f_law_kept fd_law_kept) {r_law_step : FSpec} (F_law_step : FnOk P w K mg base (L2.CX P w) k f_law_step fd_law_step ["_law_box_here", "_law_lengths_here", "_law_held", "_law_told", "_law_sorts"] (FnD K 5 [0] r_law_step)) {r_law_kept : FSpec} (F_law_kept : FnOk P w K mg base (L2.CX P w) k f_law_kept fd_law_kept ["_law_step_here", "_law_held", "_law_told"] (FnD K 3 [1, 2] r_law_kept)) (z_len : mg "len" = none) (z_range : mg "range" = none) {r : FSpec} (hrd : RD_law_program r r_law_step r_law_kept) :
    FnOk P w K mg base (L2.CX P w) (k + 1) f_law_program fd_law_program ["_law_box_here", "_law_lengths_here", "_law_size", "_law_sorts"] (FnD K 4 [0] r) := by
  refine fl_fn D_law_program.fn sc_law_program (by rfl) (fun cdv A outer s H E hr => ?_) hrd
  have tk := takes_of (X := cxOf (L2.CX P w) P w K mg base ["_law_box_here", "_law_lengths_here", "_law_size", "_law_sorts", "_law_held", "_law_told", "_law_steps", "_law_turn", "_law_step_here", "_law_many", "_law_one"] "_law_program" (defScope s_law_program) f_law_program cdv A outer s H E) rfl rfl rfl rfl
  exact (fss_cons (fs_set 4 (fe_dnew false) sc_law_program.nd) (fss_cons (fs_set 5 (fe_lst fa_nil) sc_law_program.nd) (fss_cons (fs_set 6 (fe_lst fa_nil) sc_law_program.nd) (fss_cons (fs_for [7] PassesOwn.leaving (fi_range1 (fa_cons (fo_val (fe_var (i := 2))) fa_nil) z_range) (fg_name 7 sc_law_program.nd) (fss_cons (fs_setF 8 (fe_hide 6 (fe_thaw 4 (fe_thaw 5 (fe_call tk F_law_step hr D_law_step.mg D_law_step.fn.kp D_law_step.b (fa_cons (fo_brw (i := 0)) (fa_cons (fo_val (fe_var (i := 1))) (fa_cons (fo_val (fe_var (i := 4))) (fa_cons (fo_val (fe_var (i := 5))) (fa_cons (fo_val (fe_var (i := 3))) fa_nil))))))))) sc_law_program.nd) (fss_cons (fs_setF 9 (fe_thaw 6 (fe_callB fc_len z_len (by decide +kernel) (fa_cons (fo_val (fe_lc [10] (own := [("_law_one", 10)]) sc_law_program.nd (fi_row (fe_var (i := 6))) (blkOk_by (own := [("_law_one", 10)]) (N := ["_law_box_here", "_law_lengths_here", "_law_size", "_law_sorts", "_law_held", "_law_told", "_law_steps", "_law_turn", "_law_step_here", "_law_many", "_law_one"]) (sc := defScope s_law_program) (by decide +kernel)) (fun _ => (fg_name 10 sc_law_program.nd)) (fun _ => (fts_one (ft_cmp (fop_eq hr.units) (fo_val (fe_ix (hu_of hr) (fo_val (fe_var (i := 10))) (fo_val fe_int))) (fo_val fe_str)))) (fun _ => (fe_var (i := 10))))) fa_nil))) sc_law_program.nd) (fss_one (fs_if (FW.ft (fw_or (ft_cmp (fop_ne hr.units) (fo_val (fe_ix (hu_of hr) (fo_val (fe_var (i := 8))) (fo_val fe_int))) (fo_val fe_str)) (fw_or (ft_val (fe_var (i := 3))) (fw_or1 (ft_cmp fop_lt (fo_val (fe_var (i := 9))) (fo_val fe_int)))))) (fss_cons (fs_expr (fe_app 6 (fe_var (i := 8)))) (fss_one (fs_expr (fe_call tk F_law_kept hr D_law_kept.mg D_law_kept.fn.kp D_law_kept.b (fa_cons (fo_val (fe_var (i := 8))) (fa_cons (fo_brw (i := 4)) (fa_cons (fo_brw (i := 5)) fa_nil))))))) fss_nil))))) (fss_one (fs_ret (fe_var (i := 6))))))))
theorem sc_law_kept : FnScope ["_law_step_here", "_law_held", "_law_told"] ["_law_step_here", "_law_held", "_law_told"] (defScope s_law_kept) := ⟨rfl, rfl, rfl, by decide +kernel, rfl, by decide +kernel, by decide +kernel⟩
theorem ok_law_kept {f_law_kept : Addr} {fd_law_kept : FuncData} {k : Nat} (D_law_kept : Df K mg "_law_kept" s_law_kept ["_law_step_here", "_law_held", "_law_told"] f_law_kept fd_law_kept) {r : FSpec} (hrd : RD_law_kept r) :
    FnOk P w K mg base (L2.CX P w) (k + 1) f_law_kept fd_law_kept ["_law_step_here", "_law_held", "_law_told"] (FnD K 3 [1, 2] r) := by
  refine fl_fn D_law_kept.fn sc_law_kept (by rfl) (fun cdv A outer s H E hr => ?_) hrd
  have tk := takes_of (X := cxOf (L2.CX P w) P w K mg base ["_law_step_here", "_law_held", "_law_told"] "_law_kept" (defScope s_law_kept) f_law_kept cdv A outer s H E) rfl rfl rfl rfl
  exact (fss_one (fs_if (ft_cmp (fop_in (hu_of hr)) (fo_val (fe_ix (hu_of hr) (fo_val (fe_var (i := 0))) (fo_val fe_int))) (fo_val (fe_tup (fa_cons (fo_val fe_str) (fa_cons (fo_val fe_str) fa_nil))))) (fss_one (fs_setD 1 (fe_ix (hu_of hr) (fo_val (fe_var (i := 0))) (fo_val fe_int)) (fo_val (fe_ix (hu_of hr) (fo_val (fe_var (i := 0))) (fo_val fe_int))) (hu_of hr))) (fss_one (fs_if (ft_cmp (fop_eq hr.units) (fo_val (fe_ix (hu_of hr) (fo_val (fe_var (i := 0))) (fo_val fe_int))) (fo_val fe_str)) (fss_one (fs_setD 1 fe_str (fo_val (fe_ix (hu_of hr) (fo_val (fe_var (i := 0))) (fo_val fe_int))) (hu_of hr))) (fss_one (fs_if (ft_cmp (fop_eq hr.units) (fo_val (fe_ix (hu_of hr) (fo_val (fe_var (i := 0))) (fo_val fe_int))) (fo_val fe_str)) (fss_one (fs_setD 1 (fe_ix (hu_of hr) (fo_brw (i := 1)) (fo_val (fe_ix (hu_of hr) (fo_val (fe_var (i := 0))) (fo_val fe_int)))) (fo_val (fe_ix (hu_of hr) (fo_val (fe_var (i := 0))) (fo_val fe_int))) (hu_of hr))) (fss_one (fs_if (ft_cmp (fop_eq hr.units) (fo_val (fe_ix (hu_of hr) (fo_val (fe_var (i := 0))) (fo_val fe_int))) (fo_val fe_str)) (fss_one (fs_expr (fe_popD1 (fp_name 1) (fe_ix (hu_of hr) (fo_val (fe_var (i := 0))) (fo_val fe_int))))) (fss_one (fs_if (ft_cmp (fop_eq hr.units) (fo_val (fe_ix (hu_of hr) (fo_val (fe_var (i := 0))) (fo_val fe_int))) (fo_val fe_str)) (fss_cons (fs_expr (fe_app 2 (fe_ix (hu_of hr) (fo_val (fe_var (i := 0))) (fo_val fe_int)))) (fss_one (fs_expr (fe_popD1 (fp_name 1) (fe_ix (hu_of hr) (fo_val (fe_var (i := 0))) (fo_val fe_int)))))) fss_nil))))))))))
theorem sc_law_room : FnScope ["_law_box_here", "_law_way"] ["_law_box_here"] (defScope s_law_room) := ⟨rfl, rfl, rfl, by decide +kernel, rfl, by decide +kernel, by decide +kernel⟩
theorem ok_law_room {f_law_room : Addr} {fd_law_room : FuncData} {f_law_take : Addr} {fd_law_take : FuncData} {k : Nat} (D_law_room : Df K mg "_law_room" s_law_room ["_law_box_here"] f_law_room fd_law_room) (D_law_take : Df K mg "_law_take" s_law_take ["_law_box_here", "_law_many"] f_law_take fd_law_take) {r_law_take : FSpec} (F_law_take : FnOk P w K mg base (L2.CX P w) k f_law_take fd_law_take ["_law_box_here", "_law_many"] (FnD K 2 [0] r_law_take)) {r : FSpec} (hrd : RD_law_room r r_law_take) :
    FnOk P w K mg base (L2.CX P w) (k + 1) f_law_room fd_law_room ["_law_box_here"] (FnD K 1 [0] r) := by
  refine fl_fn D_law_room.fn sc_law_room (by rfl) (fun cdv A outer s H E hr => ?_) hrd
  have tk := takes_of (X := cxOf (L2.CX P w) P w K mg base ["_law_box_here", "_law_way"] "_law_room" (defScope s_law_room) f_law_room cdv A outer s H E) rfl rfl rfl rfl
  exact (fss_cons (fs_setF 1 (fe_call tk F_law_take hr D_law_take.mg D_law_take.fn.kp D_law_take.b (fa_cons (fo_brw (i := 0)) (fa_cons (fo_val fe_int) fa_nil))) sc_law_room.nd) (fss_cons (fs_if (ft_cmp fop_lt (fo_val (fe_var (i := 1))) (fo_val fe_int)) (fss_one (fs_ret (fe_call tk F_law_take hr D_law_take.mg D_law_take.fn.kp D_law_take.b (fa_cons (fo_brw (i := 0)) (fa_cons (fo_val fe_int) fa_nil))))) fss_nil) (fss_one (fs_ret (fe_ifE (ft_cmp fop_lt (fo_val (fe_var (i := 1))) (fo_val fe_int)) (fe_call tk F_law_take hr D_law_take.mg D_law_take.fn.kp D_law_take.b (fa_cons (fo_brw (i := 0)) (fa_cons (fo_val fe_int) fa_nil))) (fe_op fop_sub (fo_val fe_int) (fo_val (fe_call tk F_law_take hr D_law_take.mg D_law_take.fn.kp D_law_take.b (fa_cons (fo_brw (i := 0)) (fa_cons (fo_val fe_int) fa_nil))))))))))
theorem sc_law_parts : FnScope ["_law_box_here", "_law_length", "_law_some", "_law_k"] ["_law_box_here", "_law_length"] (defScope s_law_parts) := ⟨rfl, rfl, rfl, by decide +kernel, rfl, by decide +kernel, by decide +kernel⟩
theorem ok_law_parts {f_law_parts : Addr} {fd_law_parts : FuncData} {f_law_take : Addr} {fd_law_take : FuncData} {f_law_value : Addr} {fd_law_value : FuncData} {k : Nat} (D_law_parts : Df K mg "_law_parts" s_law_parts ["_law_box_here", "_law_length"] f_law_parts fd_law_parts) (D_law_take : Df K mg "_law_take" s_law_take ["_law_box_here", "_law_many"] f_law_take fd_law_take) (D_law_value : Df K mg "_law_value" s_law_value ["_law_box_here"] f_law_value fd_law_value) {r_law_take : FSpec} (F_law_take : FnOk P w K mg base (L2.CX P w) k f_law_take fd_law_take ["_law_box_here", "_law_many"] (FnD K 2 [0] r_law_take)) {r_law_value : FSpec} (F_law_value : FnOk P w K mg base (L2.CX P w) k f_law_value fd_law_value ["_law_box_here"] (FnD K 1 [0] r_law_value)) (z_range : mg "range" = none) {r : FSpec} (hrd : RD_law_parts r r_law_take r_law_value) :
    FnOk P w K mg base (L2.CX P w) (k + 1) f_law_parts fd_law_parts ["_law_box_here", "_law_length"] (FnD K 2 [0] r) := by
  refine fl_fn D_law_parts.fn sc_law_parts (by rfl) (fun cdv A outer s H E hr => ?_) hrd
  have tk := takes_of (X := cxOf (L2.CX P w) P w K mg base ["_law_box_here", "_law_length", "_law_some", "_law_k"] "_law_parts" (defScope s_law_parts) f_law_parts cdv A outer s H E) rfl rfl rfl rfl
  exact (fss_cons (fs_set 2 (fe_lst fa_nil) sc_law_parts.nd) (fss_cons (fs_for [3] PassesOwn.leaving (fi_range1 (fa_cons (fo_val (fe_addCl (fo_val (fe_call tk F_law_take hr D_law_take.mg D_law_take.fn.kp D_law_take.b (fa_cons (fo_brw (i := 0)) (fa_cons (fo_val (fe_ix (hu_of hr) (fo_val (fe_lst (fa_cons (fo_val fe_int) (fa_cons (fo_val fe_int) (fa_cons (fo_val fe_int) (fa_cons (fo_val fe_int) fa_nil)))))) (fo_val (fe_call tk F_law_take hr D_law_take.mg D_law_take.fn.kp D_law_take.b (fa_cons (fo_brw (i := 0)) (fa_cons (fo_val fe_int) fa_nil)))))) fa_nil)))))) fa_nil) z_range) (fg_name 3 sc_law_parts.nd) (fss_one (fs_expr (fe_app 2 (fe_tup (fa_cons (fo_val (fe_call tk F_law_value hr D_law_value.mg D_law_value.fn.kp D_law_value.b (fa_cons (fo_brw (i := 0)) fa_nil))) (fa_cons (fo_val (fe_call tk F_law_take hr D_law_take.mg D_law_take.fn.kp D_law_take.b (fa_cons (fo_brw (i := 0)) (fa_cons (fo_val (fe_var (i := 1))) fa_nil)))) fa_nil))))))) (fss_one (fs_ret (fe_var (i := 2))))))
theorem sc_law_value : FnScope ["_law_box_here", "_law_way"] ["_law_box_here"] (defScope s_law_value) := ⟨rfl, rfl, rfl, by decide +kernel, rfl, by decide +kernel, by decide +kernel⟩
theorem ok_law_value {f_law_value : Addr} {fd_law_value : FuncData} {f_law_take : Addr} {fd_law_take : FuncData} {f_law_number : Addr} {fd_law_number : FuncData} {k : Nat} (D_law_value : Df K mg "_law_value" s_law_value ["_law_box_here"] f_law_value fd_law_value) (D_law_take : Df K mg "_law_take" s_law_take ["_law_box_here", "_law_many"] f_law_take fd_law_take) (D_law_number : Df K mg "_law_number" s_law_number ["_law_box_here"] f_law_number fd_law_number) {r_law_take : FSpec} (F_law_take : FnOk P w K mg base (L2.CX P w) k f_law_take fd_law_take ["_law_box_here", "_law_many"] (FnD K 2 [0] r_law_take)) {r_law_number : FSpec} (F_law_number : FnOk P w K mg base (L2.CX P w) k f_law_number fd_law_number ["_law_box_here"] (FnD K 1 [0] r_law_number)) {r : FSpec} (hrd : RD_law_value r r_law_take r_law_number) :
    FnOk P w K mg base (L2.CX P w) (k + 1) f_law_value fd_law_value ["_law_box_here"] (FnD K 1 [0] r) := by
  refine fl_fn D_law_value.fn sc_law_value (by rfl) (fun cdv A outer s H E hr => ?_) hrd
  have tk := takes_of (X := cxOf (L2.CX P w) P w K mg base ["_law_box_here", "_law_way"] "_law_value" (defScope s_law_value) f_law_value cdv A outer s H E) rfl rfl rfl rfl
  exact (fss_cons (fs_setF 1 (fe_call tk F_law_take hr D_law_take.mg D_law_take.fn.kp D_law_take.b (fa_cons (fo_brw (i := 0)) (fa_cons (fo_val fe_int) fa_nil))) sc_law_value.nd) (fss_cons (fs_if (ft_cmp (fop_eq hr.units) (fo_val (fe_var (i := 1))) (fo_val fe_int)) (fss_one (fs_ret (fe_op fop_sub (fo_val (fe_call tk F_law_take hr D_law_take.mg D_law_take.fn.kp D_law_take.b (fa_cons (fo_brw (i := 0)) (fa_cons (fo_val (fe_mulCl (fo_val fe_powC))) fa_nil)))) (fo_val fe_powC)))) fss_nil) (fss_one (fs_ret (fe_ifE (ft_cmp (fop_eq hr.units) (fo_val (fe_var (i := 1))) (fo_val fe_int)) (fe_call tk F_law_number hr D_law_number.mg D_law_number.fn.kp D_law_number.b (fa_cons (fo_brw (i := 0)) fa_nil)) (fe_subC (fo_val (fe_call tk F_law_take hr D_law_take.mg D_law_take.fn.kp D_law_take.b (fa_cons (fo_brw (i := 0)) (fa_cons (fo_val fe_int) fa_nil))))))))))
theorem sc_law_of_sort : FnScope ["_law_held", "_law_sort", "_law_sorts", "_law_room_here"] ["_law_held", "_law_sort", "_law_sorts"] (defScope s_law_of_sort) := ⟨rfl, rfl, rfl, by decide +kernel, rfl, by decide +kernel, by decide +kernel⟩
theorem ok_law_of_sort {f_law_of_sort : Addr} {fd_law_of_sort : FuncData} {k : Nat} (D_law_of_sort : Df K mg "_law_of_sort" s_law_of_sort ["_law_held", "_law_sort", "_law_sorts"] f_law_of_sort fd_law_of_sort) (z_sorted : mg "sorted" = none) {r : FSpec} (hrd : RD_law_of_sort r) :
    FnOk P w K mg base (L2.CX P w) (k + 1) f_law_of_sort fd_law_of_sort ["_law_held", "_law_sort", "_law_sorts"] (FnD K 3 [] r) := by
  refine fl_fn D_law_of_sort.fn sc_law_of_sort (by rfl) (fun cdv A outer s H E hr => ?_) hrd
  have tk := takes_of (X := cxOf (L2.CX P w) P w K mg base ["_law_held", "_law_sort", "_law_sorts", "_law_room_here"] "_law_of_sort" (defScope s_law_of_sort) f_law_of_sort cdv A outer s H E) rfl rfl rfl rfl
  exact (fss_one (fs_ret (fe_lc [3] (own := [("_law_room_here", 3)]) sc_law_of_sort.nd (fi_row (fe_callB (fc_sortDK hr.units) z_sorted (by decide +kernel) (fa_cons (fo_val (fe_var (i := 0))) fa_nil))) (blkOk_by (own := [("_law_room_here", 3)]) (N := ["_law_held", "_law_sort", "_law_sorts", "_law_room_here"]) (sc := defScope s_law_of_sort) (by decide +kernel)) (fun _ => (fg_name 3 sc_law_of_sort.nd)) (fun _ => (fts_one (FW.ft (fw_or (ft_not (ft_val (fe_var (i := 2)))) (fw_or1 (ft_cmp (fop_eq hr.units) (fo_val (fe_ix (hu_of hr) (fo_val (fe_var (i := 0))) (fo_val (fe_var (i := 3))))) (fo_val (fe_var (i := 1))))))))) (fun _ => (fe_var (i := 3))))))
theorem sc_law_step : FnScope ["_law_box_here", "_law_lengths_here", "_law_held", "_law_told", "_law_sorts", "_law_way", "_law_room_here", "_law_lefts", "_law_rights", "_law_products", "_law_free", "_law_side", "_law_one", "_law_k"] ["_law_box_here", "_law_lengths_here", "_law_held", "_law_told", "_law_sorts"] (defScope s_law_step) := ⟨rfl, rfl, rfl, by decide +kernel, rfl, by decide +kernel, by decide +kernel⟩
theorem ok_law_step {f_law_step : Addr} {fd_law_step : FuncData} {f_law_take : Addr} {fd_law_take : FuncData} {f_law_room : Addr} {fd_law_room : FuncData} {f_law_of_sort : Addr} {fd_law_of_sort : FuncData} {f_law_parts : Addr} {fd_law_parts : FuncData} {f_law_value : Addr} {fd_law_value : FuncData} {k : Nat} (D_law_step : Df K mg "_law_step" s_law_step ["_law_box_here", "_law_lengths_here", "_law_held", "_law_told", "_law_sorts"] f_law_step fd_law_step) (D_law_take : Df K mg "_law_take" s_law_take ["_law_box_here", "_law_many"] f_law_take fd_law_take) (D_law_room : Df K mg "_law_room" s_law_room ["_law_box_here"] f_law_room fd_law_room) (D_law_of_sort : Df K mg "_law_of_sort" s_law_of_sort ["_law_held", "_law_sort", "_law_sorts"] f_law_of_sort fd_law_of_sort) (D_law_parts : Df K mg "_law_parts" s_law_parts ["_law_box_here", "_law_length"] f_law_parts fd_law_parts) (D_law_value : Df K mg "_law_value" s_law_value ["_law_box_here"] f_law_value fd_law_value) {r_law_take : FSpec} (F_law_take : FnOk P w K mg base (L2.CX P w) k f_law_take fd_law_take ["_law_box_here", "_law_many"] (FnD K 2 [0] r_law_take)) {r_law_room : FSpec} (F_law_room : FnOk P w K mg base (L2.CX P w) k f_law_room fd_law_room ["_law_box_here"] (FnD K 1 [0] r_law_room)) {r_law_of_sort : FSpec} (F_law_of_sort : FnOk P w K mg base (L2.CX P w) k f_law_of_sort fd_law_of_sort ["_law_held", "_law_sort", "_law_sorts"] (FnD K 3 [] r_law_of_sort)) {r_law_parts : FSpec} (F_law_parts : FnOk P w K mg base (L2.CX P w) k f_law_parts fd_law_parts ["_law_box_here", "_law_length"] (FnD K 2 [0] r_law_parts)) {r_law_value : FSpec} (F_law_value : FnOk P w K mg base (L2.CX P w) k f_law_value fd_law_value ["_law_box_here"] (FnD K 1 [0] r_law_value)) (z_len : mg "len" = none) (z_range : mg "range" = none) (z_sorted : mg "sorted" = none) {r : FSpec} (hrd : RD_law_step r r_law_take r_law_room r_law_of_sort r_law_parts r_law_value) :
    FnOk P w K mg base (L2.CX P w) (k + 1) f_law_step fd_law_step ["_law_box_here", "_law_lengths_here", "_law_held", "_law_told", "_law_sorts"] (FnD K 5 [0] r) := by
  refine fl_fn D_law_step.fn sc_law_step (by rfl) (fun cdv A outer s H E hr => ?_) hrd
  have tk := takes_of (X := cxOf (L2.CX P w) P w K mg base ["_law_box_here", "_law_lengths_here", "_law_held", "_law_told", "_law_sorts", "_law_way", "_law_room_here", "_law_lefts", "_law_rights", "_law_products", "_law_free", "_law_side", "_law_one", "_law_k"] "_law_step" (defScope s_law_step) f_law_step cdv A outer s H E) rfl rfl rfl rfl
  exact (fss_cons (fs_setF 5 (fe_call tk F_law_take hr D_law_take.mg D_law_take.fn.kp D_law_take.b (fa_cons (fo_brw (i := 0)) (fa_cons (fo_val fe_int) fa_nil))) sc_law_step.nd) (fss_cons (fs_setF 6 (fe_call tk F_law_room hr D_law_room.mg D_law_room.fn.kp D_law_room.b (fa_cons (fo_brw (i := 0)) fa_nil)) sc_law_step.nd) (fss_cons (fs_setF 7 (fe_call tk F_law_of_sort hr D_law_of_sort.mg D_law_of_sort.fn.kp D_law_of_sort.b (fa_cons (fo_val (fe_var (i := 2))) (fa_cons (fo_val fe_str) (fa_cons (fo_val (fe_var (i := 4))) fa_nil)))) sc_law_step.nd) (fss_cons (fs_setF 8 (fe_call tk F_law_of_sort hr D_law_of_sort.mg D_law_of_sort.fn.kp D_law_of_sort.b (fa_cons (fo_val (fe_var (i := 2))) (fa_cons (fo_val fe_str) (fa_cons (fo_val (fe_var (i := 4))) fa_nil)))) sc_law_step.nd) (fss_cons (fs_setF 9 (fe_call tk F_law_of_sort hr D_law_of_sort.mg D_law_of_sort.fn.kp D_law_of_sort.b (fa_cons (fo_val (fe_var (i := 2))) (fa_cons (fo_val fe_str) (fa_cons (fo_val (fe_var (i := 4))) fa_nil)))) sc_law_step.nd) (fss_cons (fs_cut (fs_if (FW.ft (fw_and (ft_cmp (fop_eq hr.units) (fo_val (fe_var (i := 5))) (fo_val fe_int)) (fw_and (ft_cmp (fop_ne hr.units) (fo_val (fe_var (i := 7))) (fo_val (fe_lst fa_nil))) (fw_and1 (ft_cmp (fop_ne hr.units) (fo_val (fe_var (i := 8))) (fo_val (fe_lst fa_nil))))))) (fss_cons (fs_setF 12 (fe_ix (hu_of hr) (fo_val (fe_var (i := 7))) (fo_val (fe_call tk F_law_take hr D_law_take.mg D_law_take.fn.kp D_law_take.b (fa_cons (fo_brw (i := 0)) (fa_cons (fo_val (fe_callB fc_len z_len (by decide +kernel) (fa_cons (fo_val (fe_var (i := 7))) fa_nil))) fa_nil))))) sc_law_step.nd) (fss_one (fs_ret (fe_tup (fa_cons (fo_val fe_str) (fa_cons (fo_val (fe_var (i := 6))) (fa_cons (fo_val (fe_var (i := 12))) (fa_cons (fo_val (fe_ix (hu_of hr) (fo_val (fe_var (i := 8))) (fo_val (fe_call tk F_law_take hr D_law_take.mg D_law_take.fn.kp D_law_take.b (fa_cons (fo_brw (i := 0)) (fa_cons (fo_val (fe_callB fc_len z_len (by decide +kernel) (fa_cons (fo_val (fe_var (i := 8))) fa_nil))) fa_nil)))))) fa_nil)))))))) fss_nil)) (fss_cons (fs_cut (fs_if (FW.ft (fw_and (ft_cmp (fop_eq hr.units) (fo_val (fe_var (i := 5))) (fo_val fe_int)) (fw_and1 (ft_cmp (fop_ne hr.units) (fo_val (fe_var (i := 9))) (fo_val (fe_lst fa_nil)))))) (fss_one (fs_ret (fe_tup (fa_cons (fo_val fe_str) (fa_cons (fo_val (fe_var (i := 6))) (fa_cons (fo_val (fe_call tk F_law_value hr D_law_value.mg D_law_value.fn.kp D_law_value.b (fa_cons (fo_brw (i := 0)) fa_nil))) (fa_cons (fo_val (fe_ix (hu_of hr) (fo_val (fe_var (i := 9))) (fo_val (fe_call tk F_law_take hr D_law_take.mg D_law_take.fn.kp D_law_take.b (fa_cons (fo_brw (i := 0)) (fa_cons (fo_val (fe_callB fc_len z_len (by decide +kernel) (fa_cons (fo_val (fe_var (i := 9))) fa_nil))) fa_nil)))))) fa_nil))))))) fss_nil)) (fss_cons (fs_cut (fs_if (FW.ft (fw_and (FW.ft (fw_or (ft_cmp (fop_eq hr.units) (fo_val (fe_var (i := 5))) (fo_val fe_int)) (fw_or1 (ft_cmp (fop_eq hr.units) (fo_val (fe_var (i := 5))) (fo_val fe_int))))) (fw_and1 (ft_cmp (fop_ne hr.units) (fo_val (fe_var (i := 9))) (fo_val (fe_lst fa_nil)))))) (fss_cons (fs_setF 12 (fe_ix (hu_of hr) (fo_val (fe_var (i := 9))) (fo_val (fe_call tk F_law_take hr D_law_take.mg D_law_take.fn.kp D_law_take.b (fa_cons (fo_brw (i := 0)) (fa_cons (fo_val (fe_callB fc_len z_len (by decide +kernel) (fa_cons (fo_val (fe_var (i := 9))) fa_nil))) fa_nil))))) sc_law_step.nd) (fss_one (fs_ret (fe_tup (fa_cons (fo_val fe_str) (fa_cons (fo_val (fe_var (i := 12))) (fa_cons (fo_val (fe_call tk F_law_value hr D_law_value.mg D_law_value.fn.kp D_law_value.b (fa_cons (fo_brw (i := 0)) fa_nil))) (fa_cons (fo_val (fe_ix (hu_of hr) (fo_val (fe_var (i := 9))) (fo_val (fe_call tk F_law_take hr D_law_take.mg D_law_take.fn.kp D_law_take.b (fa_cons (fo_brw (i := 0)) (fa_cons (fo_val (fe_callB fc_len z_len (by decide +kernel) (fa_cons (fo_val (fe_var (i := 9))) fa_nil))) fa_nil)))))) fa_nil)))))))) fss_nil)) (fss_cons (fs_cut (fs_if (FW.ft (fw_and (ft_cmp (fop_eq hr.units) (fo_val (fe_var (i := 5))) (fo_val fe_int)) (fw_and1 (ft_cmp (fop_ne0 hr.units) (fo_val (fe_var (i := 2))) (fo_val (fe_dnew false)))))) (fss_one (fs_ret (fe_tup (fa_cons (fo_val fe_str) (fa_cons (fo_val (fe_ix (hu_of hr) (fo_val (fe_callB (fc_sortDK hr.units) z_sorted (by decide +kernel) (fa_cons (fo_val (fe_var (i := 2))) fa_nil))) (fo_val (fe_call tk F_law_take hr D_law_take.mg D_law_take.fn.kp D_law_take.b (fa_cons (fo_brw (i := 0)) (fa_cons (fo_val (fe_callB fc_lenD z_len (by decide +kernel) (fa_cons (fo_val (fe_var (i := 2))) fa_nil))) fa_nil)))))) fa_nil))))) fss_nil)) (fss_cons (fs_setLcF 10 [13] (own := [("_law_k", 13)]) sc_law_step.nd (fi_range1 (fa_cons (fo_val (fe_ix (hu_of hr) (fo_val (fe_var (i := 1))) (fo_val fe_int))) fa_nil) z_range) (blkOk_by (own := [("_law_k", 13)]) (N := ["_law_box_here", "_law_lengths_here", "_law_held", "_law_told", "_law_sorts", "_law_way", "_law_room_here", "_law_lefts", "_law_rights", "_law_products", "_law_free", "_law_side", "_law_one", "_law_k"]) (sc := defScope s_law_step) (by decide +kernel)) (fun _ => (fg_name 13 sc_law_step.nd)) (fun _ => (fts_one (ft_cmp (fop_notin (hu_of hr)) (fo_val (fe_var (i := 13))) (fo_val (fe_var (i := 3)))))) (fun _ => (fe_var (i := 13)))) (fss_cons (fs_cut (fs_if (FW.ft (fw_and (ft_cmp fop_gt (fo_val (fe_var (i := 5))) (fo_val fe_int)) (fw_and (ft_cmp (fop_ne hr.units) (fo_val (fe_var (i := 9))) (fo_val (fe_lst fa_nil))) (fw_and1 (ft_cmp (fop_ne hr.units) (fo_val (fe_var (i := 10))) (fo_val (fe_lst fa_nil))))))) (fss_cons (fs_setF 13 (fe_ix (hu_of hr) (fo_val (fe_var (i := 10))) (fo_val (fe_call tk F_law_take hr D_law_take.mg D_law_take.fn.kp D_law_take.b (fa_cons (fo_brw (i := 0)) (fa_cons (fo_val (fe_callB fc_len z_len (by decide +kernel) (fa_cons (fo_val (fe_var (i := 10))) fa_nil))) fa_nil))))) sc_law_step.nd) (fss_one (fs_ret (fe_tup (fa_cons (fo_val fe_str) (fa_cons (fo_val (fe_var (i := 13))) (fa_cons (fo_val (fe_ix (hu_of hr) (fo_val (fe_var (i := 9))) (fo_val (fe_call tk F_law_take hr D_law_take.mg D_law_take.fn.kp D_law_take.b (fa_cons (fo_brw (i := 0)) (fa_cons (fo_val (fe_callB fc_len z_len (by decide +kernel) (fa_cons (fo_val (fe_var (i := 9))) fa_nil))) fa_nil)))))) fa_nil))))))) fss_nil)) (fss_cons (fs_setF 11 (fe_call tk F_law_take hr D_law_take.mg D_law_take.fn.kp D_law_take.b (fa_cons (fo_brw (i := 0)) (fa_cons (fo_val fe_int) fa_nil))) sc_law_step.nd) (fss_one (fs_ret (fe_tup (fa_cons (fo_val (fe_ix (hu_of hr) (fo_val (fe_lst (fa_cons (fo_val fe_str) (fa_cons (fo_val fe_str) fa_nil)))) (fo_val (fe_var (i := 11))))) (fa_cons (fo_val (fe_var (i := 6))) (fa_cons (fo_val (fe_call tk F_law_parts hr D_law_parts.mg D_law_parts.fn.kp D_law_parts.b (fa_cons (fo_brw (i := 0)) (fa_cons (fo_val (fe_ix (hu_of hr) (fo_val (fe_var (i := 1))) (fo_val (fe_var (i := 11))))) fa_nil)))) fa_nil))))))))))))))))))
theorem sc_law_sizes : FnScope ["_law_box_here"] ["_law_box_here"] (defScope s_law_sizes) := ⟨rfl, rfl, rfl, by decide +kernel, rfl, by decide +kernel, by decide +kernel⟩
def rb_law_sizes (r_law_lengths : FSpec) : RS := (rRet (rCall [0] r_law_lengths (rAC (oN 0) (rAC (oV (rC (.int 5))) rA0))))
abbrev RD_law_sizes (r : FSpec) (r_law_lengths : FSpec) : Prop := ∀ ds ED QD, ds.length = 1 → r ds ED QD → (rb_law_sizes r_law_lengths) (startD ["_law_box_here"] ds) (fun c fs ρ => ED c fs (ρ.take 1)) (finD 1 QD)
theorem ok_law_sizes {f_law_sizes : Addr} {fd_law_sizes : FuncData} {f_law_lengths : Addr} {fd_law_lengths : FuncData} {k : Nat} (D_law_sizes : Df K mg "_law_sizes" s_law_sizes ["_law_box_here"] f_law_sizes fd_law_sizes) (D_law_lengths : Df K mg "_law_lengths" s_law_lengths ["_law_box_here", "_law_most"] f_law_lengths fd_law_lengths) {r_law_lengths : FSpec} (F_law_lengths : FnOk P w K mg base (L2.CX P w) k f_law_lengths fd_law_lengths ["_law_box_here", "_law_most"] (FnD K 2 [0] r_law_lengths)) {r : FSpec} (hrd : RD_law_sizes r r_law_lengths) :
    FnOk P w K mg base (L2.CX P w) (k + 1) f_law_sizes fd_law_sizes ["_law_box_here"] (FnD K 1 [0] r) := by
  refine fl_fn D_law_sizes.fn sc_law_sizes (by rfl) (fun cdv A outer s H E hr => ?_) hrd
  have tk := takes_of (X := cxOf (L2.CX P w) P w K mg base ["_law_box_here"] "_law_sizes" (defScope s_law_sizes) f_law_sizes cdv A outer s H E) rfl rfl rfl rfl
  exact (fss_one (fs_ret (fe_call tk F_law_lengths hr D_law_lengths.mg D_law_lengths.fn.kp D_law_lengths.b (fa_cons (fo_brw (i := 0)) (fa_cons (fo_val fe_int) fa_nil)))))
theorem sc_law_odd : FnScope ["_law_box_here", "_law_lengths_here", "_law_far", "_law_at", "_law_some", "_law_empty", "_law_room_here", "_law_k"] ["_law_box_here", "_law_lengths_here"] (defScope s_law_odd) := ⟨rfl, rfl, rfl, by decide +kernel, rfl, by decide +kernel, by decide +kernel⟩
def rb_law_odd (r_law_take : FSpec) : RS := (rSeq (rParN [5, 6, 7] [false, false, false] (rAC (oV (rIc (fun i => 500 + i) (oV (rCall [0] r_law_take (rAC (oN 0) (rAC (oV (rC (.int 9))) rA0)))))) (rAC (oV (rCall [0] r_law_take (rAC (oN 0) (rAC (oV (rC (.int 4))) rA0)))) (rAC (oV (rCall [0] r_law_take (rAC (oN 0) (rAC (oV (rBin dIx (oV (rVar 1)) (oV (rC (.int 2))))) rA0)))) rA0))))
  (rSeq (rSetF 2 (rLst (rAC (oV (rLst (rAC (oV (rBin dIx (oV (rVar 1)) (oV (rC (.int 0))))) (rAC (oV (rC (.int (-1)))) (rAC (oV (rIc (fun i => i + 3) (oV (rBin dIx (oV (rVar 1)) (oV (rC (.int 0))))))) rA0))))) (rAC (oV (rLst (rAC (oV (rBin dIx (oV (rVar 1)) (oV (rC (.int 1))))) (rAC (oV (rC (.int (-1)))) (rAC (oV (rIc (fun i => i + 3) (oV (rBin dIx (oV (rVar 1)) (oV (rC (.int 1))))))) rA0))))) (rAC (oV (rLst (rAC (oV (rBin dIx (oV (rVar 1)) (oV (rC (.int 2))))) (rAC (oV (rC (.int (-1)))) (rAC (oV (rC (.int 99))) rA0))))) rA0)))))
  (rSeq (rSetF 3 (rCall [0] r_law_take (rAC (oN 0) (rAC (oV (rC (.int 3))) rA0))))
  (rSeq (rSetF 4 (rLst (rAC (oV (rTup (rAC (oV (rC (.str "times"))) (rAC (oV (rVar 6)) (rAC (oV (rVar 5)) (rAC (oV (rVar 6)) rA0)))))) (rAC (oV (rTup (rAC (oV (rC (.str "times"))) (rAC (oV (rVar 6)) (rAC (oV (rVar 6)) (rAC (oV (rVar 5)) rA0)))))) (rAC (oV (rTup (rAC (oV (rC (.str "put"))) (rAC (oV (rVar 6)) (rAC (oV (rC (.int 2))) (rAC (oV (rVar 5)) rA0)))))) rA0)))))
  (rSeq (rSetF 4 (rBin dAdd (oV (rVar 4)) (oV (rFrz (rLst (rAC (oV (rTup (rAC (oV (rC (.str "add"))) (rAC (oV (rVar 5)) (rAC (oV (rC (.int 1))) (rAC (oV (rVar 6)) rA0)))))) (rAC (oV (rTup (rAC (oV (rC (.str "add"))) (rAC (oV (rVar 6)) (rAC (oV (rC (.int 1))) (rAC (oV (rVar 5)) rA0)))))) (rAC (oV (rTup (rAC (oV (rC (.str "empty"))) (rAC (oV (rVar 5)) rA0)))) rA0))))))))
  (rSeq (rSetF 4 (rBin dAdd (oV (rVar 4)) (oV (rFrz (rLst (rAC (oV (rTup (rAC (oV (rC (.str "tell"))) (rAC (oV (rVar 7)) (rAC (oV (rVar 5)) rA0))))) (rAC (oV (rTup (rAC (oV (rC (.str "tell"))) (rAC (oV (rBin dIx (oV (rBin dIx (oV (rVar 2)) (oV (rC (.int 2))))) (oV (rVar 3)))) (rAC (oV (rVar 6)) rA0))))) rA0)))))))
  (rSeq (rSetF 4 (rBin dAdd (oV (rVar 4)) (oV (rFrz (rLst (rAC (oV (rTup (rAC (oV (rC (.str "left"))) (rAC (oV (rVar 6)) (rAC (oV (rLst (rAC (oV (rTup (rAC (oV (rC (.int 1))) (rAC (oV (rC (.int 0))) rA0)))) (rAC (oV (rTup (rAC (oV (rC (.int 0))) (rAC (oV (rBin dIx (oV (rBin dIx (oV (rVar 2)) (oV (rC (.int 0))))) (oV (rVar 3)))) rA0)))) rA0)))) rA0))))) (rAC (oV (rTup (rAC (oV (rC (.str "right"))) (rAC (oV (rVar 6)) (rAC (oV (rLst (rAC (oV (rTup (rAC (oV (rC (.int 1))) (rAC (oV (rBin dIx (oV (rBin dIx (oV (rVar 2)) (oV (rC (.int 1))))) (oV (rVar 3)))) rA0)))) rA0))) rA0))))) (rAC (oV (rTup (rAC (oV (rC (.str "tell"))) (rAC (oV (rVar 7)) (rAC (oV (rVar 6)) rA0))))) rA0))))))))
  (rRet (rBin dIx (oV (rVar 4)) (oV (rCall [0] r_law_take (rAC (oN 0) (rAC (oV (rCB dLen (rAC (oV (rVar 4)) rA0))) rA0)))))))))))))
abbrev RD_law_odd (r : FSpec) (r_law_take : FSpec) : Prop := ∀ ds ED QD, ds.length = 2 → r ds ED QD → (rb_law_odd r_law_take) (startD ["_law_box_here", "_law_lengths_here", "_law_far", "_law_at", "_law_some", "_law_empty", "_law_room_here", "_law_k"] ds) (fun c fs ρ => ED c fs (ρ.take 2)) (finD 2 QD)
theorem ok_law_odd {f_law_odd : Addr} {fd_law_odd : FuncData} {f_law_take : Addr} {fd_law_take : FuncData} {k : Nat} (D_law_odd : Df K mg "_law_odd" s_law_odd ["_law_box_here", "_law_lengths_here"] f_law_odd fd_law_odd) (D_law_take : Df K mg "_law_take" s_law_take ["_law_box_here", "_law_many"] f_law_take fd_law_take) {r_law_take : FSpec} (F_law_take : FnOk P w K mg base (L2.CX P w) k f_law_take fd_law_take ["_law_box_here", "_law_many"] (FnD K 2 [0] r_law_take)) (z_len : mg "len" = none) {r : FSpec} (hrd : RD_law_odd r r_law_take) :
    FnOk P w K mg base (L2.CX P w) (k + 1) f_law_odd fd_law_odd ["_law_box_here", "_law_lengths_here"] (FnD K 2 [0] r) := by
  refine fl_fn D_law_odd.fn sc_law_odd (by rfl) (fun cdv A outer s H E hr => ?_) hrd
  have tk := takes_of (X := cxOf (L2.CX P w) P w K mg base ["_law_box_here", "_law_lengths_here", "_law_far", "_law_at", "_law_some", "_law_empty", "_law_room_here", "_law_k"] "_law_odd" (defScope s_law_odd) f_law_odd cdv A outer s H E) rfl rfl rfl rfl
  exact (fss_cons (fs_par3 5 6 7 [false, false, false] (fa_cons (fo_val (fe_addCl (fo_val (fe_call tk F_law_take hr D_law_take.mg D_law_take.fn.kp D_law_take.b (fa_cons (fo_brw (i := 0)) (fa_cons (fo_val fe_int) fa_nil)))))) (fa_cons (fo_val (fe_call tk F_law_take hr D_law_take.mg D_law_take.fn.kp D_law_take.b (fa_cons (fo_brw (i := 0)) (fa_cons (fo_val fe_int) fa_nil)))) (fa_cons (fo_val (fe_call tk F_law_take hr D_law_take.mg D_law_take.fn.kp D_law_take.b (fa_cons (fo_brw (i := 0)) (fa_cons (fo_val (fe_ix (hu_of hr) (fo_val (fe_var (i := 1))) (fo_val fe_int))) fa_nil)))) fa_nil))) sc_law_odd.nd) (fss_cons (fs_setF 2 (fe_lst (fa_cons (fo_val (fe_lst (fa_cons (fo_val (fe_ix (hu_of hr) (fo_val (fe_var (i := 1))) (fo_val fe_int))) (fa_cons (fo_val fe_negC) (fa_cons (fo_val (fe_addC (fo_val (fe_ix (hu_of hr) (fo_val (fe_var (i := 1))) (fo_val fe_int))))) fa_nil))))) (fa_cons (fo_val (fe_lst (fa_cons (fo_val (fe_ix (hu_of hr) (fo_val (fe_var (i := 1))) (fo_val fe_int))) (fa_cons (fo_val fe_negC) (fa_cons (fo_val (fe_addC (fo_val (fe_ix (hu_of hr) (fo_val (fe_var (i := 1))) (fo_val fe_int))))) fa_nil))))) (fa_cons (fo_val (fe_lst (fa_cons (fo_val (fe_ix (hu_of hr) (fo_val (fe_var (i := 1))) (fo_val fe_int))) (fa_cons (fo_val fe_negC) (fa_cons (fo_val fe_int) fa_nil))))) fa_nil)))) sc_law_odd.nd) (fss_cons (fs_setF 3 (fe_call tk F_law_take hr D_law_take.mg D_law_take.fn.kp D_law_take.b (fa_cons (fo_brw (i := 0)) (fa_cons (fo_val fe_int) fa_nil))) sc_law_odd.nd) (fss_cons (fs_setF 4 (fe_lst (fa_cons (fo_val (fe_tup (fa_cons (fo_val fe_str) (fa_cons (fo_val (fe_var (i := 6))) (fa_cons (fo_val (fe_var (i := 5))) (fa_cons (fo_val (fe_var (i := 6))) fa_nil)))))) (fa_cons (fo_val (fe_tup (fa_cons (fo_val fe_str) (fa_cons (fo_val (fe_var (i := 6))) (fa_cons (fo_val (fe_var (i := 6))) (fa_cons (fo_val (fe_var (i := 5))) fa_nil)))))) (fa_cons (fo_val (fe_tup (fa_cons (fo_val fe_str) (fa_cons (fo_val (fe_var (i := 6))) (fa_cons (fo_val fe_int) (fa_cons (fo_val (fe_var (i := 5))) fa_nil)))))) fa_nil)))) sc_law_odd.nd) (fss_cons (fs_setF 4 (fe_op fop_add (fo_val (fe_var (i := 4))) (fo_val (fe_frz (fe_lst (fa_cons (fo_val (fe_tup (fa_cons (fo_val fe_str) (fa_cons (fo_val (fe_var (i := 5))) (fa_cons (fo_val fe_int) (fa_cons (fo_val (fe_var (i := 6))) fa_nil)))))) (fa_cons (fo_val (fe_tup (fa_cons (fo_val fe_str) (fa_cons (fo_val (fe_var (i := 6))) (fa_cons (fo_val fe_int) (fa_cons (fo_val (fe_var (i := 5))) fa_nil)))))) (fa_cons (fo_val (fe_tup (fa_cons (fo_val fe_str) (fa_cons (fo_val (fe_var (i := 5))) fa_nil)))) fa_nil))))))) sc_law_odd.nd) (fss_cons (fs_setF 4 (fe_op fop_add (fo_val (fe_var (i := 4))) (fo_val (fe_frz (fe_lst (fa_cons (fo_val (fe_tup (fa_cons (fo_val fe_str) (fa_cons (fo_val (fe_var (i := 7))) (fa_cons (fo_val (fe_var (i := 5))) fa_nil))))) (fa_cons (fo_val (fe_tup (fa_cons (fo_val fe_str) (fa_cons (fo_val (fe_ix (hu_of hr) (fo_val (fe_ix (hu_of hr) (fo_val (fe_var (i := 2))) (fo_val fe_int))) (fo_val (fe_var (i := 3))))) (fa_cons (fo_val (fe_var (i := 6))) fa_nil))))) fa_nil)))))) sc_law_odd.nd) (fss_cons (fs_setF 4 (fe_op fop_add (fo_val (fe_var (i := 4))) (fo_val (fe_frz (fe_lst (fa_cons (fo_val (fe_tup (fa_cons (fo_val fe_str) (fa_cons (fo_val (fe_var (i := 6))) (fa_cons (fo_val (fe_lst (fa_cons (fo_val (fe_tup (fa_cons (fo_val fe_int) (fa_cons (fo_val fe_int) fa_nil)))) (fa_cons (fo_val (fe_tup (fa_cons (fo_val fe_int) (fa_cons (fo_val (fe_ix (hu_of hr) (fo_val (fe_ix (hu_of hr) (fo_val (fe_var (i := 2))) (fo_val fe_int))) (fo_val (fe_var (i := 3))))) fa_nil)))) fa_nil)))) fa_nil))))) (fa_cons (fo_val (fe_tup (fa_cons (fo_val fe_str) (fa_cons (fo_val (fe_var (i := 6))) (fa_cons (fo_val (fe_lst (fa_cons (fo_val (fe_tup (fa_cons (fo_val fe_int) (fa_cons (fo_val (fe_ix (hu_of hr) (fo_val (fe_ix (hu_of hr) (fo_val (fe_var (i := 2))) (fo_val fe_int))) (fo_val (fe_var (i := 3))))) fa_nil)))) fa_nil))) fa_nil))))) (fa_cons (fo_val (fe_tup (fa_cons (fo_val fe_str) (fa_cons (fo_val (fe_var (i := 7))) (fa_cons (fo_val (fe_var (i := 6))) fa_nil))))) fa_nil))))))) sc_law_odd.nd) (fss_one (fs_ret (fe_ix (hu_of hr) (fo_val (fe_var (i := 4))) (fo_val (fe_call tk F_law_take hr D_law_take.mg D_law_take.fn.kp D_law_take.b (fa_cons (fo_brw (i := 0)) (fa_cons (fo_val (fe_callB fc_len z_len (by decide +kernel) (fa_cons (fo_val (fe_var (i := 4))) fa_nil))) fa_nil))))))))))))))
theorem sc_law_first : FnScope ["_law_program_here", "_law_lengths_here", "_law_held", "_law_told", "_law_place", "_law_step_here", "_law_reads", "_law_length", "_law_at", "_law_number_here"] ["_law_program_here", "_law_lengths_here"] (defScope s_law_first) := ⟨rfl, rfl, rfl, by decide +kernel, rfl, by decide +kernel, by decide +kernel⟩
def rb_law_first_l1 (r_law_kept : FSpec) : RS := (rSeq (rSetF 6 (rGet2 (oV (rDisp ["times", "put", "add", "empty", "tell"] (rAC (oV (rFrz (rLst (rAC (oV (rC (.int 2))) (rAC (oV (rC (.int 3))) rA0))))) (rAC (oV (rFrz (rLst (rAC (oV (rC (.int 3))) rA0)))) (rAC (oV (rFrz (rLst (rAC (oV (rC (.int 1))) (rAC (oV (rC (.int 3))) rA0))))) (rAC (oV (rFrz (rLst (rAC (oV (rC (.int 1))) rA0)))) (rAC (oV (rFrz (rLst (rAC (oV (rC (.int 2))) rA0)))) rA0))))))) (oV (rBin dIx (oV (rVar 5)) (oV (rC (.int 0))))) (rFrz (rLst rA0))))
  (rSeq (rIf (rNot (rTst (rCB dAll (rAC (oV (rComp (rItA (rVar 6)) (gNm 8) rYes (rBin (dIn false) (oV (rBin dIx (oV (rVar 5)) (oV (rVar 8)))) (oN 2)) [8])) rA0)))) (rRet (rVar 4)) rNx)
  (rSeq (rIf (rAnd (rTst (rBin dEq (oV (rBin dIx (oV (rVar 5)) (oV (rC (.int 0))))) (oV (rC (.str "tell"))))) (rOr (rTst (rBin (dIn false) (oV (rBin dIx (oV (rVar 5)) (oV (rC (.int 1))))) (oN 3))) (rNot (rTst (rChain dLe dLt (oV (rC (.int 0))) (oV (rBin dIx (oV (rVar 5)) (oV (rC (.int 1))))) (oV (rBin dIx (oV (rVar 1)) (oV (rC (.int 2)))))))))) (rRet (rVar 4)) rNx)
  (rSeq (rCut (rIf (rTst (rBin (dIn false) (oV (rBin dIx (oV (rVar 5)) (oV (rC (.int 0))))) (oV (rTup (rAC (oV (rC (.str "left"))) (rAC (oV (rC (.str "right"))) rA0)))))) (rSeq (rSetF 7 (rBin dIx (oV (rVar 1)) (oV (rCB dInt (rAC (oV (rBin dEq (oV (rBin dIx (oV (rVar 5)) (oV (rC (.int 0))))) (oV (rC (.str "right"))))) rA0)))))
  (rIf (rNot (rTst (rCB dAll (rAC (oV (rComp (rItA (rBin dIx (oV (rVar 5)) (oV (rC (.int 2))))) (gTp 2 (gCs (gNm 9) (gCs (gNm 8) gNl))) rYes (rChain dLe dLt (oV (rC (.int 0))) (oV (rVar 8)) (oV (rVar 7))) [8, 9])) rA0)))) (rRet (rVar 4)) rNx)) rNx))
  (rDrop (rCall [1, 2] r_law_kept (rAC (oV (rVar 5)) (rAC (oN 2) (rAC (oN 3) rA0)))))))))
def rb_law_first (r_law_kept : FSpec) : RS := (rSeq (rParN [2, 3] [true, true] (rAC (oV (rDNew false)) (rAC (oV (rLst rA0)) rA0)))
  (rSeq (rFor (rEn (rAC (oV (rVar 0)) rA0)) (gTp 2 (gCs (gNm 4) (gCs (gNm 5) gNl))) (rb_law_first_l1 r_law_kept))
  (rRet (rC .non))))
abbrev RD_law_first (r : FSpec) (r_law_kept : FSpec) : Prop := ∀ ds ED QD, ds.length = 2 → r ds ED QD → (rb_law_first r_law_kept) (startD ["_law_program_here", "_law_lengths_here", "_law_held", "_law_told", "_law_place", "_law_step_here", "_law_reads", "_law_length", "_law_at", "_law_number_here"] ds) (fun c fs ρ => ED c fs (ρ.take 2)) (finD 2 QD)
theorem ok_law_first {f_law_first : Addr} {fd_law_first : FuncData} {f_law_kept : Addr} {fd_law_kept : FuncData} {k : Nat} (D_law_first : Df K mg "_law_first" s_law_first ["_law_program_here", "_law_lengths_here"] f_law_first fd_law_first) (D_law_kept : Df K mg "_law_kept" s_law_kept ["_law_step_here", "_law_held", "_law_told"] f_law_kept fd_law_kept) {r_law_kept : FSpec} (F_law_kept : FnOk P w K mg base (L2.CX P w) k f_law_kept fd_law_kept ["_law_step_here", "_law_held", "_law_told"] (FnD K 3 [1, 2] r_law_kept)) (z_all : mg "all" = none) (z_enumerate : mg "enumerate" = none) (z_int : mg "int" = none) {r : FSpec} (hrd : RD_law_first r r_law_kept) :
    FnOk P w K mg base (L2.CX P w) (k + 1) f_law_first fd_law_first ["_law_program_here", "_law_lengths_here"] (FnD K 2 [] r) := by
  refine fl_fn D_law_first.fn sc_law_first (by rfl) (fun cdv A outer s H E hr => ?_) hrd
  have tk := takes_of (X := cxOf (L2.CX P w) P w K mg base ["_law_program_here", "_law_lengths_here", "_law_held", "_law_told", "_law_place", "_law_step_here", "_law_reads", "_law_length", "_law_at", "_law_number_here"] "_law_first" (defScope s_law_first) f_law_first cdv A outer s H E) rfl rfl rfl rfl
  exact (fss_cons (fs_parC 2 3 [true, true] (fa_cons (fo_val (fe_dnew false)) (fa_cons (fo_val (fe_lst fa_nil)) fa_nil)) sc_law_first.nd) (fss_cons (fs_for [5, 4] PassesOwn.leaving (fi_enum (fa_cons (fo_val (fe_var (i := 0))) fa_nil) z_enumerate) (fg_tup (fgs_cons (fg_name 4 sc_law_first.nd) (fgs_cons (fg_name 5 sc_law_first.nd) fgs_nil))) (fss_cons (fs_setF 6 (fe_get2 (fo_val (fe_disp (fd_cons (fo_val (fe_frz (fe_lst (fa_cons (fo_val fe_int) (fa_cons (fo_val fe_int) fa_nil))))) (fd_cons (fo_val (fe_frz (fe_lst (fa_cons (fo_val fe_int) fa_nil)))) (fd_cons (fo_val (fe_frz (fe_lst (fa_cons (fo_val fe_int) (fa_cons (fo_val fe_int) fa_nil))))) (fd_cons (fo_val (fe_frz (fe_lst (fa_cons (fo_val fe_int) fa_nil)))) (fd_cons (fo_val (fe_frz (fe_lst (fa_cons (fo_val fe_int) fa_nil)))) fd_nil))))))) (fo_val (fe_ix (hu_of hr) (fo_val (fe_var (i := 5))) (fo_val fe_int))) (fe_frz (fe_lst fa_nil)) (hu_of hr)) sc_law_first.nd) (fss_cons (fs_if (ft_not (ft_val (fe_callB fc_all z_all (by decide +kernel) (fa_cons (fo_val (fe_lc [8] (own := [("_law_at", 8)]) sc_law_first.nd (fi_row (fe_var (i := 6))) (blkOk_by (own := [("_law_at", 8)]) (N := ["_law_program_here", "_law_lengths_here", "_law_held", "_law_told", "_law_place", "_law_step_here", "_law_reads", "_law_length", "_law_at", "_law_number_here"]) (sc := defScope s_law_first) (by decide +kernel)) (fun _ => (fg_name 8 sc_law_first.nd)) (fun _ => fts_nil) (fun _ => (fe_cmp (fop_in (hu_of hr)) (fo_val (fe_ix (hu_of hr) (fo_val (fe_var (i := 5))) (fo_val (fe_var (i := 8))))) (fo_brw (i := 2)))))) fa_nil)))) (fss_one (fs_ret (fe_var (i := 4)))) fss_nil) (fss_cons (fs_if (FW.ft (fw_and (ft_cmp (fop_eq hr.units) (fo_val (fe_ix (hu_of hr) (fo_val (fe_var (i := 5))) (fo_val fe_int))) (fo_val fe_str)) (fw_and1 (FW.ft (fw_or (ft_cmp (fop_in (hu_of hr)) (fo_val (fe_ix (hu_of hr) (fo_val (fe_var (i := 5))) (fo_val fe_int))) (fo_brw (i := 3))) (fw_or1 (ft_not (ft_chain fop_le fop_lt (fo_val fe_int) (fo_val (fe_ix (hu_of hr) (fo_val (fe_var (i := 5))) (fo_val fe_int))) (fo_val (fe_ix (hu_of hr) (fo_val (fe_var (i := 1))) (fo_val fe_int))))))))))) (fss_one (fs_ret (fe_var (i := 4)))) fss_nil) (fss_cons (fs_cut (fs_if (ft_cmp (fop_in (hu_of hr)) (fo_val (fe_ix (hu_of hr) (fo_val (fe_var (i := 5))) (fo_val fe_int))) (fo_val (fe_tup (fa_cons (fo_val fe_str) (fa_cons (fo_val fe_str) fa_nil))))) (fss_cons (fs_setF 7 (fe_ix (hu_of hr) (fo_val (fe_var (i := 1))) (fo_val (fe_callTy fc_int z_int (by decide +kernel) (fa_cons (fo_val (fe_cmp (fop_eq hr.units) (fo_val (fe_ix (hu_of hr) (fo_val (fe_var (i := 5))) (fo_val fe_int))) (fo_val fe_str))) fa_nil)))) sc_law_first.nd) (fss_one (fs_if (ft_not (ft_val (fe_callB fc_all z_all (by decide +kernel) (fa_cons (fo_val (fe_lc [8, 9] (own := [("_law_at", 8), ("_law_number_here", 9)]) sc_law_first.nd (fi_row (fe_ix (hu_of hr) (fo_val (fe_var (i := 5))) (fo_val fe_int))) (blkOk_by (own := [("_law_at", 8), ("_law_number_here", 9)]) (N := ["_law_program_here", "_law_lengths_here", "_law_held", "_law_told", "_law_place", "_law_step_here", "_law_reads", "_law_length", "_law_at", "_law_number_here"]) (sc := defScope s_law_first) (by decide +kernel)) (fun _ => (fg_tup (fgs_cons (fg_name 9 sc_law_first.nd) (fgs_cons (fg_name 8 sc_law_first.nd) fgs_nil)))) (fun _ => fts_nil) (fun _ => (fe_chain fop_le fop_lt (fo_val fe_int) (fo_val (fe_var (i := 8))) (fo_val (fe_var (i := 7))))))) fa_nil)))) (fss_one (fs_ret (fe_var (i := 4)))) fss_nil))) fss_nil)) (fss_one (fs_expr (fe_call tk F_law_kept hr D_law_kept.mg D_law_kept.fn.kp D_law_kept.b (fa_cons (fo_val (fe_var (i := 5))) (fa_cons (fo_brw (i := 2)) (fa_cons (fo_brw (i := 3)) fa_nil))))))))))) (fss_one (fs_ret fe_non))))
theorem sc_law_refused : FnScope ["_law_program_here", "_law_lengths_here", "_law_rows", "_law_caught", "error"] ["_law_program_here", "_law_lengths_here", "_law_rows"] (defScope s_law_refused) := ⟨rfl, rfl, rfl, by decide +kernel, rfl, by decide +kernel, by decide +kernel⟩
def rb_law_refused (r_run_program : FSpec) (cv_TimesError : Addr) (cv_BadStep : Addr) (cv_NoFlip : Addr) (cv_BadRow : Addr) : RS := (rSeq (rSetF 3 (rC .non))
  (rRefused 4 3 cv_BadStep "step" (rDrop (rCall [] r_run_program (rAC (oV (rVar 0)) (rAC (oV (rBin dIx (oV (rVar 2)) (oV (rC (.int 0))))) (rAC (oV (rBin dIx (oV (rVar 2)) (oV (rC (.int 1))))) (rAC (oV (rBin dIx (oV (rVar 1)) (oV (rC (.int 2))))) rA0))))))))
abbrev RD_law_refused (r : FSpec) (r_run_program : FSpec) (cv_TimesError : Addr) (cv_BadStep : Addr) (cv_NoFlip : Addr) (cv_BadRow : Addr) : Prop := ∀ ds ED QD, ds.length = 3 → r ds ED QD → (rb_law_refused r_run_program cv_TimesError cv_BadStep cv_NoFlip cv_BadRow) (startD ["_law_program_here", "_law_lengths_here", "_law_rows", "_law_caught", "error"] ds) (fun c fs ρ => ED c fs (ρ.take 3)) (finD 3 QD)
theorem ok_law_refused {f_law_refused : Addr} {fd_law_refused : FuncData} {f_run_program : Addr} {fd_run_program : FuncData} {cv_TimesError : Addr} {cv_BadStep : Addr} {cv_NoFlip : Addr} {cv_BadRow : Addr} {k : Nat} (D_law_refused : Df K mg "_law_refused" s_law_refused ["_law_program_here", "_law_lengths_here", "_law_rows"] f_law_refused fd_law_refused) (D_run_program : Df K mg "run_program" s_run_program ["program", "one", "other", "many"] f_run_program fd_run_program) {r_run_program : FSpec} (F_run_program : FnOk P w K mg base (L2.CX P w) k f_run_program fd_run_program ["program", "one", "other", "many"] (FnD K 4 [] r_run_program)) (z_ValueError : mg "ValueError" = none) (z_isinstance : mg "isinstance" = none) (xk_BadStep : EK K cv_BadStep "step") (gc_BadRow : mg "BadRow" = some (.ref cv_BadRow)) (gc_BadStep : mg "BadStep" = some (.ref cv_BadStep)) (gc_NoFlip : mg "NoFlip" = some (.ref cv_NoFlip)) (gc_TimesError : mg "TimesError" = some (.ref cv_TimesError)) (xm_BadStep_TimesError : PySem.W.exmOne K (.ref cv_BadStep) (.ref cv_TimesError) = some true) (ka_BadStep_NoFlip_BadRow : PySem.W.kitAny K (.ref cv_BadStep) [(.ref cv_NoFlip), (.ref cv_BadRow)] = some false) (ki_BadStep_ValueError : PySem.W.kitOne K (.ref cv_BadStep) (.type "ValueError") = some true) (ki_BadStep_BadStep : PySem.W.kitOne K (.ref cv_BadStep) (.ref cv_BadStep) = some true) {r : FSpec} (hrd : RD_law_refused r r_run_program cv_TimesError cv_BadStep cv_NoFlip cv_BadRow) :
    FnOk P w K mg base (L2.CX P w) (k + 1) f_law_refused fd_law_refused ["_law_program_here", "_law_lengths_here", "_law_rows"] (FnD K 3 [] r) := by
  refine fl_fn D_law_refused.fn sc_law_refused (by rfl) (fun cdv A outer s H E hr => ?_) hrd
  have tk := takes_of (X := cxOf (L2.CX P w) P w K mg base ["_law_program_here", "_law_lengths_here", "_law_rows", "_law_caught", "error"] "_law_refused" (defScope s_law_refused) f_law_refused cdv A outer s H E) rfl rfl rfl rfl
  exact (fss_cons (fs_setF 3 fe_non sc_law_refused.nd) (fss_refused (i := 4) (j := 3) tk xk_BadStep gc_TimesError xm_BadStep_TimesError sc_law_refused.nd (fun W' pn xe tk' po => (fss_one (fs_expr (fe_call tk' F_run_program hr D_run_program.mg D_run_program.fn.kp D_run_program.b (fa_cons (fo_val (fe_var (i := 0))) (fa_cons (fo_val (fe_ix (hu_of hr) (fo_val (fe_var (i := 2))) (fo_val fe_int))) (fa_cons (fo_val (fe_ix (hu_of hr) (fo_val (fe_var (i := 2))) (fo_val fe_int))) (fa_cons (fo_val (fe_ix (hu_of hr) (fo_val (fe_var (i := 1))) (fo_val fe_int))) fa_nil)))))))) (fun a pn => pss_one (ps_set sc_law_refused.nd rfl (.inl rfl) (pe_var rfl (.inl rfl)) rfl (.inr rfl))) (fs_if (ft_cmp fop_isN0 (fo_val (fe_var (i := 3))) (fo_val fe_non)) (fss_one (fs_ret fe_non)) fss_nil) (KW.kt (kw_or (kt0_not (kt0_is (b := true) xk_BadStep.ex (pe_glob (v := V.ref cv_BadStep) (by rfl) gc_BadStep rfl) (fun u r => r) ki_BadStep_BadStep z_isinstance)) (kw_or (kt0_not (kt0_is (b := true) xk_BadStep.ex (pe_bltn (v := V.ty "ValueError") (u := .type "ValueError") (by rfl) z_ValueError (by decide +kernel) rfl) (fun u r => r) ki_BadStep_ValueError z_isinstance)) (kw_or1 (kt_isT (cs := [cv_NoFlip, cv_BadRow]) (b := false) xk_BadStep.ex (pa_cons (pe_glob (v := V.ref cv_NoFlip) (by rfl) gc_NoFlip rfl) (pa_cons (pe_glob (v := V.ref cv_BadRow) (by rfl) gc_BadRow rfl) pa_nil)) (fun σ H Q q => q) (by show 2 ≤ 100; decide) ka_BadStep_NoFlip_BadRow z_isinstance))))) pe_str))
theorem sc_law : FnScope ["_law_script", "_law_k", "_law_box_here", "_law_lengths_here", "_law_program_here", "_law_rows", "_law_turn", "_law_bent", "_law_more", "_law_handed", "_law_found"] ["_law_script"] (defScope s_law) := ⟨rfl, rfl, rfl, by decide +kernel, rfl, by decide +kernel, by decide +kernel⟩
def rb_law_l1 (r_law_box : FSpec) (r_law_sizes : FSpec) (r_law_program : FSpec) (r_law_take : FSpec) (r_law_row : FSpec) (r_law_refused : FSpec) (r_law_odd : FSpec) (r_law_first : FSpec) : RS := (rDrop (rIns 7 (rAC (oV (rCall [0] r_law_take (rAC (oN 2) (rAC (oV (rIc (fun i => i + 1) (oV (rCB dLen (rAC (oN 7) rA0))))) rA0)))) (rAC (oV (rCall [0] r_law_odd (rAC (oN 2) (rAC (oV (rVar 3)) rA0)))) rA0))))
def rb_law_l2 (r_law_box : FSpec) (r_law_sizes : FSpec) (r_law_program : FSpec) (r_law_take : FSpec) (r_law_row : FSpec) (r_law_refused : FSpec) (r_law_odd : FSpec) (r_law_first : FSpec) : RS := (rSeq (rSet 7 (rCB dList (rAC (oV (rVar 4)) rA0)))
  (rSeq (rFor (rRg1 (rAC (oV (rIc (fun i => 1 + i) (oV (rCB dInt (rAC (oV (rBin dEq (oV (rCall [0] r_law_take (rAC (oN 2) (rAC (oV (rC (.int 4))) rA0)))) (oV (rC (.int 0))))) rA0))))) rA0)) (gNm 8) (rb_law_l1 r_law_box r_law_sizes r_law_program r_law_take r_law_row r_law_refused r_law_odd r_law_first))
  (rSeq (rSetF 9 (rCB dList (rAC (oN 7) rA0)))
  (rSeq (rSetF 10 (rCall [] r_law_refused (rAC (oV (rVar 9)) (rAC (oV (rVar 3)) (rAC (oV (rVar 5)) rA0)))))
  (rIf (rOr (rTst (rCB dIsi (rAC (oV (rVar 10)) (rAC (oV (rC (.ty "bool"))) rA0)))) (rOr (rTst (rBin dNe (oV (rVar 10)) (oV (rCall [] r_law_first (rAC (oN 7) (rAC (oV (rVar 3)) rA0)))))) (rTst (rBin dNe (oV (rVar 9)) (oN 7))))) (rRet (rC (.bl false))) rNx)))))
def rb_law_l3 (r_law_box : FSpec) (r_law_sizes : FSpec) (r_law_program : FSpec) (r_law_take : FSpec) (r_law_row : FSpec) (r_law_refused : FSpec) (r_law_odd : FSpec) (r_law_first : FSpec) : RS := (rSeq (rSet 2 (rCall [] r_law_box (rAC (oV (rVar 0)) (rAC (oV (rVar 1)) rA0))))
  (rSeq (rSetF 3 (rCall [0] r_law_sizes (rAC (oN 2) rA0)))
  (rSeq (rSetF 4 (rCall [0] r_law_program (rAC (oN 2) (rAC (oV (rVar 3)) (rAC (oV (rCall [0] r_law_take (rAC (oN 2) (rAC (oV (rC (.int 21))) rA0)))) (rAC (oV (rC (.bl false))) rA0))))))
  (rSeq (rSetF 5 (rLst (rAC (oV (rCall [0] r_law_row (rAC (oN 2) (rAC (oV (rBin dIx (oV (rVar 3)) (oV (rC (.int 0))))) rA0)))) (rAC (oV (rCall [0] r_law_row (rAC (oN 2) (rAC (oV (rBin dIx (oV (rVar 3)) (oV (rC (.int 1))))) rA0)))) rA0))))
  (rSeq (rIf (rTst (rBin (dIsN0 true) (oV (rCall [] r_law_refused (rAC (oV (rVar 4)) (rAC (oV (rVar 3)) (rAC (oV (rVar 5)) rA0))))) (oV (rC .non)))) (rRet (rC (.bl false))) rNx)
  (rFor (rRg1 (rAC (oV (rC (.int 4))) rA0)) (gNm 6) (rb_law_l2 r_law_box r_law_sizes r_law_program r_law_take r_law_row r_law_refused r_law_odd r_law_first)))))))
def rb_law (r_law_box : FSpec) (r_law_sizes : FSpec) (r_law_program : FSpec) (r_law_take : FSpec) (r_law_row : FSpec) (r_law_refused : FSpec) (r_law_odd : FSpec) (r_law_first : FSpec) : RS := (rSeq (rFor (rRg1 (rAC (oV (rCB dMax2 (rAC (oV (rC (.int 1))) (rAC (oV (rCB dMin2 (rAC (oV (rCB dLen (rAC (oV (rVar 0)) rA0))) (rAC (oV (rC (.int 6))) rA0)))) rA0)))) rA0)) (gNm 1) (rb_law_l3 r_law_box r_law_sizes r_law_program r_law_take r_law_row r_law_refused r_law_odd r_law_first))
  (rRet (rC (.bl true))))
abbrev RD_law (r : FSpec) (r_law_box : FSpec) (r_law_sizes : FSpec) (r_law_program : FSpec) (r_law_take : FSpec) (r_law_row : FSpec) (r_law_refused : FSpec) (r_law_odd : FSpec) (r_law_first : FSpec) : Prop := ∀ ds ED QD, ds.length = 1 → r ds ED QD → (rb_law r_law_box r_law_sizes r_law_program r_law_take r_law_row r_law_refused r_law_odd r_law_first) (startD ["_law_script", "_law_k", "_law_box_here", "_law_lengths_here", "_law_program_here", "_law_rows", "_law_turn", "_law_bent", "_law_more", "_law_handed", "_law_found"] ds) (fun c fs ρ => ED c fs (ρ.take 1)) (finD 1 QD)
theorem ok_law {f_law : Addr} {fd_law : FuncData} {f_law_box : Addr} {fd_law_box : FuncData} {f_law_sizes : Addr} {fd_law_sizes : FuncData} {f_law_program : Addr} {fd_law_program : FuncData} {f_law_take : Addr} {fd_law_take : FuncData} {f_law_row : Addr} {fd_law_row : FuncData} {f_law_refused : Addr} {fd_law_refused : FuncData} {f_law_odd : Addr} {fd_law_odd : FuncData} {f_law_first : Addr} {fd_law_first : FuncData} {k : Nat} (D_law : Df K mg "law" s_law ["_law_script"] f_law fd_law) (D_law_box : Df K mg "_law_box" s_law_box ["_law_script", "_law_k"] f_law_box fd_law_box) (D_law_sizes : Df K mg "_law_sizes" s_law_sizes ["_law_box_here"] f_law_sizes fd_law_sizes) (D_law_program : Df K mg "_law_program" s_law_program ["_law_box_here", "_law_lengths_here", "_law_size", "_law_sorts"] f_law_program fd_law_program) (D_law_take : Df K mg "_law_take" s_law_take ["_law_box_here", "_law_many"] f_law_take fd_law_take) (D_law_row : Df K mg "_law_row" s_law_row ["_law_box_here", "_law_length"] f_law_row fd_law_row) (D_law_refused : Df K mg "_law_refused" s_law_refused ["_law_program_here", "_law_lengths_here", "_law_rows"] f_law_refused fd_law_refused) (D_law_odd : Df K mg "_law_odd" s_law_odd ["_law_box_here", "_law_lengths_here"] f_law_odd fd_law_odd) (D_law_first : Df K mg "_law_first" s_law_first ["_law_program_here", "_law_lengths_here"] f_law_first fd_law_first) {r_law_box : FSpec} (F_law_box : FnOk P w K mg base (L2.CX P w) k f_law_box fd_law_box ["_law_script", "_law_k"] (FnD K 2 [] r_law_box)) {r_law_sizes : FSpec} (F_law_sizes : FnOk P w K mg base (L2.CX P w) k f_law_sizes fd_law_sizes ["_law_box_here"] (FnD K 1 [0] r_law_sizes)) {r_law_program : FSpec} (F_law_program : FnOk P w K mg base (L2.CX P w) k f_law_program fd_law_program ["_law_box_here", "_law_lengths_here", "_law_size", "_law_sorts"] (FnD K 4 [0] r_law_program)) {r_law_take : FSpec} (F_law_take : FnOk P w K mg base (L2.CX P w) k f_law_take fd_law_take ["_law_box_here", "_law_many"] (FnD K 2 [0] r_law_take)) {r_law_row : FSpec} (F_law_row : FnOk P w K mg base (L2.CX P w) k f_law_row fd_law_row ["_law_box_here", "_law_length"] (FnD K 2 [0] r_law_row)) {r_law_refused : FSpec} (F_law_refused : FnOk P w K mg base (L2.CX P w) k f_law_refused fd_law_refused ["_law_program_here", "_law_lengths_here", "_law_rows"] (FnD K 3 [] r_law_refused)) {r_law_odd : FSpec} (F_law_odd : FnOk P w K mg base (L2.CX P w) k f_law_odd fd_law_odd ["_law_box_here", "_law_lengths_here"] (FnD K 2 [0] r_law_odd)) {r_law_first : FSpec} (F_law_first : FnOk P w K mg base (L2.CX P w) k f_law_first fd_law_first ["_law_program_here", "_law_lengths_here"] (FnD K 2 [] r_law_first)) (z_bool : mg "bool" = none) (z_int : mg "int" = none) (z_isinstance : mg "isinstance" = none) (z_len : mg "len" = none) (z_list : mg "list" = none) (z_max : mg "max" = none) (z_min : mg "min" = none) (z_range : mg "range" = none) {r : FSpec} (hrd : RD_law r r_law_box r_law_sizes r_law_program r_law_take r_law_row r_law_refused r_law_odd r_law_first) :
    FnOk P w K mg base (L2.CX P w) (k + 1) f_law fd_law ["_law_script"] (FnD K 1 [] r) := by
  refine fl_fn D_law.fn sc_law (by rfl) (fun cdv A outer s H E hr => ?_) hrd
  have tk := takes_of (X := cxOf (L2.CX P w) P w K mg base ["_law_script", "_law_k", "_law_box_here", "_law_lengths_here", "_law_program_here", "_law_rows", "_law_turn", "_law_bent", "_law_more", "_law_handed", "_law_found"] "law" (defScope s_law) f_law cdv A outer s H E) rfl rfl rfl rfl
  exact (fss_cons (fs_for [1] PassesOwn.leaving (fi_range1 (fa_cons (fo_val (fe_callB fc_max2 z_max (by decide +kernel) (fa_cons (fo_val fe_int) (fa_cons (fo_val (fe_callB fc_min2 z_min (by decide +kernel) (fa_cons (fo_val (fe_callB fc_len z_len (by decide +kernel) (fa_cons (fo_val (fe_var (i := 0))) fa_nil))) (fa_cons (fo_val fe_int) fa_nil)))) fa_nil)))) fa_nil) z_range) (fg_name 1 sc_law.nd) (fss_cons (fs_set 2 (fe_call tk F_law_box hr D_law_box.mg D_law_box.fn.kp D_law_box.b (fa_cons (fo_val (fe_var (i := 0))) (fa_cons (fo_val (fe_var (i := 1))) fa_nil))) sc_law.nd) (fss_cons (fs_setF 3 (fe_call tk F_law_sizes hr D_law_sizes.mg D_law_sizes.fn.kp D_law_sizes.b (fa_cons (fo_brw (i := 2)) fa_nil)) sc_law.nd) (fss_cons (fs_setF 4 (fe_call tk F_law_program hr D_law_program.mg D_law_program.fn.kp D_law_program.b (fa_cons (fo_brw (i := 2)) (fa_cons (fo_val (fe_var (i := 3))) (fa_cons (fo_val (fe_call tk F_law_take hr D_law_take.mg D_law_take.fn.kp D_law_take.b (fa_cons (fo_brw (i := 2)) (fa_cons (fo_val fe_int) fa_nil)))) (fa_cons (fo_val fe_bl) fa_nil))))) sc_law.nd) (fss_cons (fs_setF 5 (fe_lst (fa_cons (fo_val (fe_call tk F_law_row hr D_law_row.mg D_law_row.fn.kp D_law_row.b (fa_cons (fo_brw (i := 2)) (fa_cons (fo_val (fe_ix (hu_of hr) (fo_val (fe_var (i := 3))) (fo_val fe_int))) fa_nil)))) (fa_cons (fo_val (fe_call tk F_law_row hr D_law_row.mg D_law_row.fn.kp D_law_row.b (fa_cons (fo_brw (i := 2)) (fa_cons (fo_val (fe_ix (hu_of hr) (fo_val (fe_var (i := 3))) (fo_val fe_int))) fa_nil)))) fa_nil))) sc_law.nd) (fss_cons (fs_if (ft_cmp fop_notN0 (fo_val (fe_call tk F_law_refused hr D_law_refused.mg D_law_refused.fn.kp D_law_refused.b (fa_cons (fo_val (fe_var (i := 4))) (fa_cons (fo_val (fe_var (i := 3))) (fa_cons (fo_val (fe_var (i := 5))) fa_nil))))) (fo_val fe_non)) (fss_one (fs_ret fe_bl)) fss_nil) (fss_one (fs_for [6] PassesOwn.leaving (fi_range1 (fa_cons (fo_val fe_int) fa_nil) z_range) (fg_name 6 sc_law.nd) (fss_cons (fs_set 7 (fe_callTy fc_list z_list (by decide +kernel) (fa_cons (fo_val (fe_var (i := 4))) fa_nil)) sc_law.nd) (fss_cons (fs_for [8] PassesOwn.leaving (fi_range1 (fa_cons (fo_val (fe_addCl (fo_val (fe_callTy fc_int z_int (by decide +kernel) (fa_cons (fo_val (fe_cmp (fop_eq hr.units) (fo_val (fe_call tk F_law_take hr D_law_take.mg D_law_take.fn.kp D_law_take.b (fa_cons (fo_brw (i := 2)) (fa_cons (fo_val fe_int) fa_nil)))) (fo_val fe_int))) fa_nil))))) fa_nil) z_range) (fg_name 8 sc_law.nd) (fss_one (fs_expr (fe_ins 7 (fa_cons (fo_val (fe_call tk F_law_take hr D_law_take.mg D_law_take.fn.kp D_law_take.b (fa_cons (fo_brw (i := 2)) (fa_cons (fo_val (fe_addC (fo_val (fe_callB fc_len z_len (by decide +kernel) (fa_cons (fo_brw (i := 7)) fa_nil))))) fa_nil)))) (fa_cons (fo_val (fe_call tk F_law_odd hr D_law_odd.mg D_law_odd.fn.kp D_law_odd.b (fa_cons (fo_brw (i := 2)) (fa_cons (fo_val (fe_var (i := 3))) fa_nil)))) fa_nil)))))) (fss_cons (fs_setF 9 (fe_callTy fc_list z_list (by decide +kernel) (fa_cons (fo_brw (i := 7)) fa_nil)) sc_law.nd) (fss_cons (fs_setF 10 (fe_call tk F_law_refused hr D_law_refused.mg D_law_refused.fn.kp D_law_refused.b (fa_cons (fo_val (fe_var (i := 9))) (fa_cons (fo_val (fe_var (i := 3))) (fa_cons (fo_val (fe_var (i := 5))) fa_nil)))) sc_law.nd) (fss_one (fs_if (FW.ft (fw_or (ft_val (fe_callB fc_isi z_isinstance (by decide +kernel) (fa_cons (fo_val (fe_var (i := 10))) (fa_cons (fo_val (fe_ty (n := "bool") z_bool (by decide +kernel))) fa_nil)))) (fw_or (ft_cmp (fop_ne hr.units) (fo_val (fe_var (i := 10))) (fo_val (fe_call tk F_law_first hr D_law_first.mg D_law_first.fn.kp D_law_first.b (fa_cons (fo_brw (i := 7)) (fa_cons (fo_val (fe_var (i := 3))) fa_nil))))) (fw_or1 (ft_cmp (fop_ne hr.units) (fo_val (fe_var (i := 9))) (fo_brw (i := 7))))))) (fss_one (fs_ret fe_bl)) fss_nil)))))))))))))) (fss_one (fs_ret fe_bl)))
structure Ad where
  f_BadStep_init : Addr
  fd_BadStep_init : FuncData
  f_rooms_read : Addr
  fd_rooms_read : FuncData
  f_is_doable : Addr
  fd_is_doable : FuncData
  f_Run_init : Addr
  fd_Run_init : FuncData
  f_Run_go : Addr
  fd_Run_go : FuncData
  f_run_program : Addr
  fd_run_program : FuncData
  f_law_cell_at : Addr
  fd_law_cell_at : FuncData
  f_law_mixed : Addr
  fd_law_mixed : FuncData
  f_law_box : Addr
  fd_law_box : FuncData
  f_law_take : Addr
  fd_law_take : FuncData
  f_law_number : Addr
  fd_law_number : FuncData
  f_law_row : Addr
  fd_law_row : FuncData
  f_law_lengths : Addr
  fd_law_lengths : FuncData
  f_law_program : Addr
  fd_law_program : FuncData
  f_law_kept : Addr
  fd_law_kept : FuncData
  f_law_room : Addr
  fd_law_room : FuncData
  f_law_parts : Addr
  fd_law_parts : FuncData
  f_law_value : Addr
  fd_law_value : FuncData
  f_law_of_sort : Addr
  fd_law_of_sort : FuncData
  f_law_step : Addr
  fd_law_step : FuncData
  f_law_sizes : Addr
  fd_law_sizes : FuncData
  f_law_odd : Addr
  fd_law_odd : FuncData
  f_law_first : Addr
  fd_law_first : FuncData
  f_law_refused : Addr
  fd_law_refused : FuncData
  f_law : Addr
  fd_law : FuncData
  t_ROWS : Value
  cv_BadStep : Addr
  cv_TimesError : Addr
  cv_Run : Addr
  cv_NoFlip : Addr
  cv_BadRow : Addr
structure Tb (K : PySem.W.Frag) (mg : Str → Option Value) (A : Ad) : Prop where
  D_BadStep_init : DfM K "__init__" "BadStep.__init__" s_BadStep_init ["self", "step"] A.f_BadStep_init A.fd_BadStep_init
  D_rooms_read : Df K mg "rooms_read" s_rooms_read ["step"] A.f_rooms_read A.fd_rooms_read
  D_is_doable : Df K mg "is_doable" s_is_doable ["step", "held", "told", "lengths"] A.f_is_doable A.fd_is_doable
  D_Run_init : DfM K "__init__" "Run.__init__" s_Run_init ["self", "one", "other"] A.f_Run_init A.fd_Run_init
  D_Run_go : DfM K "go" "Run.go" s_Run_go ["self", "step"] A.f_Run_go A.fd_Run_go
  D_run_program : Df K mg "run_program" s_run_program ["program", "one", "other", "many"] A.f_run_program A.fd_run_program
  D_law_cell_at : Df K mg "_law_cell_at" s_law_cell_at ["_law_script", "_law_k"] A.f_law_cell_at A.fd_law_cell_at
  D_law_mixed : Df K mg "_law_mixed" s_law_mixed ["_law_number_here", "_law_k"] A.f_law_mixed A.fd_law_mixed
  D_law_box : Df K mg "_law_box" s_law_box ["_law_script", "_law_k"] A.f_law_box A.fd_law_box
  D_law_take : Df K mg "_law_take" s_law_take ["_law_box_here", "_law_many"] A.f_law_take A.fd_law_take
  D_law_number : Df K mg "_law_number" s_law_number ["_law_box_here"] A.f_law_number A.fd_law_number
  D_law_row : Df K mg "_law_row" s_law_row ["_law_box_here", "_law_length"] A.f_law_row A.fd_law_row
  D_law_lengths : Df K mg "_law_lengths" s_law_lengths ["_law_box_here", "_law_most"] A.f_law_lengths A.fd_law_lengths
  D_law_program : Df K mg "_law_program" s_law_program ["_law_box_here", "_law_lengths_here", "_law_size", "_law_sorts"] A.f_law_program A.fd_law_program
  D_law_kept : Df K mg "_law_kept" s_law_kept ["_law_step_here", "_law_held", "_law_told"] A.f_law_kept A.fd_law_kept
  D_law_room : Df K mg "_law_room" s_law_room ["_law_box_here"] A.f_law_room A.fd_law_room
  D_law_parts : Df K mg "_law_parts" s_law_parts ["_law_box_here", "_law_length"] A.f_law_parts A.fd_law_parts
  D_law_value : Df K mg "_law_value" s_law_value ["_law_box_here"] A.f_law_value A.fd_law_value
  D_law_of_sort : Df K mg "_law_of_sort" s_law_of_sort ["_law_held", "_law_sort", "_law_sorts"] A.f_law_of_sort A.fd_law_of_sort
  D_law_step : Df K mg "_law_step" s_law_step ["_law_box_here", "_law_lengths_here", "_law_held", "_law_told", "_law_sorts"] A.f_law_step A.fd_law_step
  D_law_sizes : Df K mg "_law_sizes" s_law_sizes ["_law_box_here"] A.f_law_sizes A.fd_law_sizes
  D_law_odd : Df K mg "_law_odd" s_law_odd ["_law_box_here", "_law_lengths_here"] A.f_law_odd A.fd_law_odd
  D_law_first : Df K mg "_law_first" s_law_first ["_law_program_here", "_law_lengths_here"] A.f_law_first A.fd_law_first
  D_law_refused : Df K mg "_law_refused" s_law_refused ["_law_program_here", "_law_lengths_here", "_law_rows"] A.f_law_refused A.fd_law_refused
  D_law : Df K mg "law" s_law ["_law_script"] A.f_law A.fd_law
  xi_BadStep : EI K A.cv_BadStep A.f_BadStep_init "step"
  xt_TimesError : InT0 K A.cv_TimesError
  cl_Run : Cls K A.cv_Run
  na_Run_held : NoAttr K A.cv_Run "held"
  na_Run_most : NoAttr K A.cv_Run "most"
  na_Run_rows : NoAttr K A.cv_Run "rows"
  na_Run_sums : NoAttr K A.cv_Run "sums"
  na_Run_times : NoAttr K A.cv_Run "times"
  na_Run_told : NoAttr K A.cv_Run "told"
  me_Run_go : Meth K A.cv_Run "go" A.f_Run_go
  mk_Run : Mk K A.cv_Run A.f_Run_init
  xk_BadStep : EK K A.cv_BadStep "step"
  z_ValueError : mg "ValueError" = none
  z_abs : mg "abs" = none
  z_all : mg "all" = none
  z_bool : mg "bool" = none
  z_enumerate : mg "enumerate" = none
  z_int : mg "int" = none
  z_isinstance : mg "isinstance" = none
  z_len : mg "len" = none
  z_list : mg "list" = none
  z_max : mg "max" = none
  z_min : mg "min" = none
  z_range : mg "range" = none
  z_sorted : mg "sorted" = none
  z_sum : mg "sum" = none
  g_ROWS : mg "ROWS" = some A.t_ROWS ∧ KV K (.ro true [(.str "left"), (.str "right")]) A.t_ROWS
  gc_TimesError : mg "TimesError" = some (.ref A.cv_TimesError)
  gc_BadStep : mg "BadStep" = some (.ref A.cv_BadStep)
  gc_Run : mg "Run" = some (.ref A.cv_Run)
  gc_BadRow : mg "BadRow" = some (.ref A.cv_BadRow)
  gc_NoFlip : mg "NoFlip" = some (.ref A.cv_NoFlip)
  xm_BadStep_TimesError : PySem.W.exmOne K (.ref A.cv_BadStep) (.ref A.cv_TimesError) = some true
  ka_BadStep_NoFlip_BadRow : PySem.W.kitAny K (.ref A.cv_BadStep) [(.ref A.cv_NoFlip), (.ref A.cv_BadRow)] = some false
  ki_BadStep_ValueError : PySem.W.kitOne K (.ref A.cv_BadStep) (.type "ValueError") = some true
  ki_BadStep_BadStep : PySem.W.kitOne K (.ref A.cv_BadStep) (.ref A.cv_BadStep) = some true
end
end K26
namespace Cm
open PySem PySem.Spec PyProof.Rows L2 FL
set_option maxHeartbeats 0
section
variable {β γ : Type}
theorem pu_keys {k : Int} {v : β} {w : γ} : ∀ {r : List (Int × β)} {q : List (Int × γ)}, r.map (·.1) = q.map (·.1) → (puA r k v).map (·.1) = (puA q k w).map (·.1)
  | [], [], _ => rfl
  | [], _ :: _, h => by simp at h
  | _ :: _, [], h => by simp at h
  | (a, b) :: r, (c, d) :: q, h => by
    simp only [List.map_cons, List.cons.injEq] at h
    obtain ⟨rfl, h⟩ := h
    simp only [puA]
    split
    · simp only [List.map_cons, h]
    · simp only [List.map_cons]; rw [pu_keys h]
theorem er_keys {k : Int} : ∀ {r : List (Int × β)} {q : List (Int × γ)}, r.map (·.1) = q.map (·.1) → (erA r k).map (·.1) = (erA q k).map (·.1)
  | [], [], _ => rfl
  | [], _ :: _, h => by simp at h
  | _ :: _, [], h => by simp at h
  | (a, b) :: r, (c, d) :: q, h => by
    simp only [List.map_cons, List.cons.injEq] at h
    obtain ⟨rfl, h⟩ := h
    simp only [erA]
    split
    · exact h
    · simp only [List.map_cons]; rw [er_keys h]
theorem pu_new {k : Int} {v : β} : ∀ {r : List (Int × β)}, k ∉ r.map (·.1) → (puA r k v).map (·.1) = r.map (·.1) ++ [k]
  | [], _ => rfl
  | (a, b) :: r, h => by
    simp only [List.map_cons, List.mem_cons, not_or] at h
    simp only [puA]
    rw [if_neg (Ne.symm h.1)]
    simp only [List.map_cons, List.cons_append]
    rw [pu_new h.2]
theorem pu_old {k : Int} {v : β} : ∀ {r : List (Int × β)}, k ∈ r.map (·.1) → (puA r k v).map (·.1) = r.map (·.1)
  | [], h => by simp at h
  | (a, b) :: r, h => by
    simp only [puA]
    split
    · rfl
    · rename_i e
      simp only [List.map_cons, List.mem_cons] at h
      simp only [List.map_cons]
      rw [pu_old (h.resolve_left (Ne.symm e))]
end
theorem at_bt {s : RunS} {b : Nat} (h : ∀ p ∈ s.held, Bt b p.2) (a : Int) : Bt b (s.at a) := by
  unfold RunS.at
  cases e : lkA s.held a with
  | none => exact Bt.zero
  | some v => exact h _ (lkA_mem e)
theorem e30_bt {x : Int} (h : -E30 ≤ x ∧ x ≤ E30) : Bt 100 x := bt_in (n := 100) (B := E30) h.1 h.2 (by decide +kernel)
/-- the keys agree -/
structure Agr (k : KS) (s : RunS) : Prop where
  h : k.1.map (·.1) = s.held.map (·.1)
  t : k.2 = s.told.map (·.1)
/-- without kinds: few multiplications -/
def bitsU (n t : Nat) : Nat := (160 + 110 * n) * 2 ^ t
theorem bitsU_step (n t : Nat) : bitsU n t + 110 ≤ bitsU (n + 1) t := by
  have h1 : 1 ≤ 2 ^ t := Nat.one_le_two_pow
  have h2 : (160 + 110 * (n + 1)) * 2 ^ t = (160 + 110 * n) * 2 ^ t + 110 * 2 ^ t := by
    rw [← Nat.add_mul]; congr 1
  show (160 + 110 * n) * 2 ^ t + 110 ≤ (160 + 110 * (n + 1)) * 2 ^ t
  rw [h2]
  omega
theorem bitsU_times (n t : Nat) : bitsU n t + bitsU n t = bitsU n (t + 1) := by
  unfold bitsU
  rw [Nat.pow_succ, ← Nat.mul_assoc]
  omega
theorem bitsU_pos (n t : Nat) : 160 ≤ bitsU n t := by
  have h1 : 1 ≤ 2 ^ t := Nat.one_le_two_pow
  unfold bitsU
  calc 160 ≤ 160 + 110 * n := by omega
    _ = (160 + 110 * n) * 1 := by omega
    _ ≤ _ := Nat.mul_le_mul_left _ h1
end Cm
namespace K26
open PySem PySem.Spec PyProof.Rows L2 FL Cm
set_option maxHeartbeats 0
/-- the numbers of a step are small -/
def Nm : Stp → Prop
  | .row _ _ ps => ps.length ≤ 9 ∧ ∀ p ∈ ps, -E30 ≤ p.1 ∧ p.1 ≤ E30
  | .put _ n _ => -E30 ≤ n ∧ n ≤ E30
  | .add _ n _ => -E30 ≤ n ∧ n ≤ E30
  | _ => True
def okK (nl nr nt : Int) (k : KS) (st : Stp) : Bool := st.ok (k.1.map (·.1)) k.2 nl nr nt
def fb (nl nr nt : Int) : KS → List Stp → Option Nat
  | _, [] => none
  | k, st :: r => match okK nl nr nt k st with
    | true => (fb nl nr nt (keptS k.1 k.2 st) r).map (· + 1)
    | false => some 0
theorem drawn_nm {sorts : Bool} {nl nr nt : Int} {kd : List (Int × Str)} {tl : List Int} {st : Stp} (h : Drawn sorts nl nr nt kd tl st) : Nm st := by
  cases st with
  | row rt r ps => exact ⟨h.2.1.2, fun p hp => by cases rt <;> exact (h.2.2 p hp).1⟩
  | put r n a => exact h.2.1
  | add r n a => exact h.1
  | _ => exact trivial
theorem all_nm {sorts : Bool} {nl nr nt : Int} : ∀ {P : List Stp} {k : KS}, DrawnAll sorts nl nr nt k P → ∀ st ∈ P, Nm st
  | [], _, _, _, h => nomatch h
  | a :: P, k, d, st, h => by
    rcases List.mem_cons.mp h with rfl | h
    · exact drawn_nm d.1
    · exact all_nm d.2 st h
theorem ok_of' {sorts : Bool} {nl nr nt : Int} {k : KS} {st : Stp} (d : Drawn sorts nl nr nt k.1 k.2 st) : okK nl nr nt k st = true := by
  have hs : ∀ {a : Int} {x : Str}, lkA k.1 a = some x → has (k.1.map (·.1)) a = true := fun {a x} h => decide_eq_true (lkA_some.mp (by rw [h]; rfl))
  unfold okK
  cases st with
  | row rt r ps =>
    obtain ⟨_, _, hp⟩ := d
    cases rt <;> (simp only [Stp.ok]; exact List.all_eq_true.mpr fun p h => by obtain ⟨_, h1, h2⟩ := hp p h; rw [decide_eq_true h1, decide_eq_true h2]; rfl)
  | times r a b =>
    obtain ⟨_, x, y, h1, h2, _⟩ := d
    simp only [Stp.ok, Stp.reads, List.all_cons, List.all_nil, Bool.and_true, Bool.and_eq_true]
    exact ⟨hs h1, hs h2⟩
  | put r n a =>
    obtain ⟨_, _, x, h1, _⟩ := d
    simp only [Stp.ok, Stp.reads, List.all_cons, List.all_nil, Bool.and_true, Bool.and_eq_true]
    exact hs h1
  | add r n a =>
    obtain ⟨_, x, y, h1, h2, _⟩ := d
    simp only [Stp.ok, Stp.reads, List.all_cons, List.all_nil, Bool.and_true, Bool.and_eq_true]
    exact ⟨hs h1, hs h2⟩
  | emp r =>
    obtain ⟨x, h1⟩ := d
    simp only [Stp.ok, Stp.reads, List.all_cons, List.all_nil, Bool.and_true, Bool.and_eq_true]
    exact hs h1
  | tell j r =>
    obtain ⟨⟨h0, h1⟩, hn, x, h2, _⟩ := d
    simp only [Stp.ok, Bool.and_eq_true]
    refine ⟨⟨?_, decide_eq_true h0, decide_eq_true h1⟩, hs h2⟩
    show (!decide (j ∈ k.2)) = true
    rw [decide_eq_false hn]; rfl
theorem fb_drawn {sorts : Bool} {nl nr nt : Int} : ∀ {P : List Stp} {k : KS}, DrawnAll sorts nl nr nt k P → fb nl nr nt k P = none
  | [], _, _ => rfl
  | st :: P, k, d => by
    unfold fb
    rw [ok_of' d.1]
    show (fb nl nr nt (keptS k.1 k.2 st) P).map _ = none
    rw [fb_drawn d.2]; rfl
theorem ok_has {st : Stp} {hk tk : List Int} {nl nr nt : Int} (h : st.ok hk tk nl nr nt = true) : ∀ r ∈ st.reads, r ∈ hk := fun r hr => by
  cases st with
  | row rt room ps => cases hr
  | tell k r' =>
    simp only [Stp.ok, Bool.and_eq_true] at h
    rw [List.mem_singleton.mp hr]
    exact of_decide_eq_true h.2
  | times a b c => exact of_decide_eq_true (List.all_eq_true.mp (show (Stp.times a b c).reads.all (has hk) = true from h) r hr)
  | put a b c => exact of_decide_eq_true (List.all_eq_true.mp (show (Stp.put a b c).reads.all (has hk) = true from h) r hr)
  | add a b c => exact of_decide_eq_true (List.all_eq_true.mp (show (Stp.add a b c).reads.all (has hk) = true from h) r hr)
  | emp a => exact of_decide_eq_true (List.all_eq_true.mp (show (Stp.emp a).reads.all (has hk) = true from h) r hr)
theorem agr_ok {nl nr nt : Int} {k : KS} {s : RunS} {st : Stp} {xs ys : List Int} (g : Agr k s) (h : okK nl nr nt k st = true) : Agr (keptS k.1 k.2 st) (s.go xs ys st) := by
  have hr := ok_has h
  cases st with
  | row rt r ps => exact ⟨pu_keys g.h, g.t⟩
  | times r a b => exact ⟨pu_keys g.h, g.t⟩
  | put r n a => exact ⟨pu_keys g.h, g.t⟩
  | add r n a =>
    refine ⟨?_, g.t⟩
    show k.1.map (·.1) = (puA s.held r _).map (·.1)
    have h1 := hr r List.mem_cons_self
    rw [g.h] at h1
    rw [pu_old h1, g.h]
  | emp r => exact ⟨er_keys g.h, g.t⟩
  | tell j r =>
    refine ⟨er_keys g.h, ?_⟩
    show k.2 ++ [j] = (puA s.told j _).map (·.1)
    have hn : j ∉ k.2 := by
      unfold okK at h
      simp only [Stp.ok, Bool.and_eq_true] at h
      have h1 := h.1.1
      intro z
      rw [show has k.2 j = true from decide_eq_true z] at h1
      cases h1
    rw [g.t] at hn ⊢
    rw [pu_new hn]
theorem keeps_ok {nl nr nt : Int} {k : KS} {st : Stp} (h : okK nl nr nt k st = true) : Keeps k.1 st := by
  have hr := ok_has h
  have ex : ∀ {r : Int}, r ∈ k.1.map (·.1) → ∃ x, lkA k.1 r = some x := fun h => Option.isSome_iff_exists.mp (lkA_some.mpr h)
  cases st with
  | put r n a => exact ex (hr a List.mem_cons_self)
  | emp r => exact ex (hr r List.mem_cons_self)
  | tell j r => exact ex (hr r List.mem_cons_self)
  | _ => exact trivial
theorem bitsU_le6 {n t : Nat} (hn : n ≤ 40) (ht : t ≤ 6) : bitsU n t ≤ 300000 := by
  have h1 : 2 ^ t ≤ 2 ^ 6 := Nat.pow_le_pow_right (by decide) ht
  have h2 : (160 + 110 * n) * 2 ^ t ≤ 4560 * 2 ^ 6 := Nat.mul_le_mul (by omega) h1
  unfold bitsU
  omega
/-- a program of small numbers is run up to the first step that can't be done -/
theorem run_fb {xs ys : List Int} {nl nr nt : Int} (hx : (xs.length : Int) = nl) (hy : (ys.length : Int) = nr) (bx : Bts 40 xs) (bY : Bts 40 ys) : ∀ (P : List Stp) (k : KS) (s : RunS) (n t : Nat), (∀ st ∈ P, Nm st) → Agr k s → (∀ p ∈ s.held, Bt (bitsU n t) p.2) →
    n + P.length ≤ 40 → t + (P.filter Stp.isT).length ≤ 6 → match fb nl nr nt k P with
      | none => runOk xs ys nt s P
      | some i => runOk xs ys nt s (P.take i) ∧ ∃ st, P[i]? = some st ∧ st.ok ((runTo xs ys s (P.take i)).held.map (·.1)) ((runTo xs ys s (P.take i)).told.map (·.1)) nl nr nt = false
  | [], _, _, _, _, _, _, _, _, _ => trivial
  | st :: P, k, s, n, t, d, g, hb, hn, ht => by
    have hn' : n + 1 + P.length ≤ 40 := by rw [List.length_cons] at hn; omega
    have bl := bitsU_le6 (n := n) (t := t) (by omega) (by omega)
    have bp := bitsU_pos n t
    have bs := bitsU_step n t
    have ab := at_bt hb
    have mo : ∀ {x : Int}, Bt (bitsU n t + 110) x → Bt (bitsU (n + 1) t) x := fun h => h.mono bs
    have put : ∀ {r v : Int}, Bt (bitsU n t + 110) v → ∀ p ∈ puA s.held r v, Bt (bitsU (n + 1) t) p.2 := fun {r v} h p hp => by
      rcases puA_mem hp with rfl | hp
      · exact mo h
      · exact (hb p hp).mono (by omega)
    have era : ∀ {r : Int}, ∀ p ∈ erA s.held r, Bt (bitsU (n + 1) t) p.2 := fun {r} p hp => (hb p (erA_mem hp)).mono (by omega)
    have dr : ∀ u ∈ P, Nm u := fun u hu => d u (List.mem_cons_of_mem _ hu)
    cases ok : okK nl nr nt k st with
    | false =>
      have e : fb nl nr nt k (st :: P) = some 0 := by unfold fb; rw [ok]
      rw [e]
      refine ⟨trivial, st, rfl, ?_⟩
      show st.ok (s.held.map (·.1)) (s.told.map (·.1)) nl nr nt = false
      rw [← g.h, ← g.t]; exact ok
    | true =>
      have e : fb nl nr nt k (st :: P) = (fb nl nr nt (keptS k.1 k.2 st) P).map (· + 1) := by
        show (match okK nl nr nt k st with | true => _ | false => _) = _
        rw [ok]
      rw [e]
      have gg := agr_ok (xs := xs) (ys := ys) g ok
      have rest := run_fb (nt := nt) hx hy bx bY P (keptS k.1 k.2 st) (s.go xs ys st)
      have okr : st.ok (s.held.map (·.1)) (s.told.map (·.1)) xs.length ys.length nt = true := by rw [hx, hy, ← g.h, ← g.t]; exact ok
      have bside : ∀ rt, Bts 40 (sideX rt xs ys) := fun rt => by cases rt; exact bx; exact bY
      have key : ∀ n' t', s.can xs ys nt st → (∀ p ∈ (s.go xs ys st).held, Bt (bitsU n' t') p.2) → n' + P.length ≤ 40 → t' + (P.filter Stp.isT).length ≤ 6 → match (fb nl nr nt (keptS k.1 k.2 st) P).map (· + 1) with
          | none => runOk xs ys nt s (st :: P)
          | some i => runOk xs ys nt s ((st :: P).take i) ∧ ∃ u, (st :: P)[i]? = some u ∧ u.ok ((runTo xs ys s ((st :: P).take i)).held.map (·.1)) ((runTo xs ys s ((st :: P).take i)).told.map (·.1)) nl nr nt = false := fun n' t' cn h1 h2 h3 => by
        have r := rest n' t' dr gg h1 h2 h3
        cases f : fb nl nr nt (keptS k.1 k.2 st) P with
        | none => rw [f] at r; exact ⟨cn, r⟩
        | some i =>
          rw [f] at r
          obtain ⟨r1, u, r2, r3⟩ := r
          exact ⟨⟨cn, r1⟩, u, by simpa using r2, r3⟩
      have dn := d st List.mem_cons_self
      cases st with
      | row rt r ps =>
        obtain ⟨hl, hp⟩ := dn
        refine key (n + 1) t ⟨okr, fun p h => (e30_bt (hp p h)).ok ((bside rt).getD _)⟩ (put ?_) hn' (by simpa [Stp.isT] using ht)
        have : Bt (100 + 40 + 4) (partsV (sideX rt xs ys) ps) := by
          refine Bt.sumB (fun z hz => ?_) (by rw [List.length_map]; omega)
          obtain ⟨p, h, rfl⟩ := List.mem_map.mp hz
          exact (e30_bt (hp p h)).mul ((bside rt).getD _)
        exact this.mono (by omega)
      | times r a b =>
        refine key n (t + 1) ⟨okr, (ab a).ok (ab b) (by omega) (by omega) (by omega)⟩ (fun p hp => ?_) (by omega) (by rw [List.filter_cons_of_pos rfl, List.length_cons] at ht; omega)
        rw [← bitsU_times]
        rcases puA_mem hp with rfl | hp
        · exact (ab a).mul (ab b)
        · exact (hb p hp).mono (by omega)
      | put r m a => exact key (n + 1) t ⟨okr, (e30_bt dn).ok (ab a) (by decide) (by omega) (by omega)⟩ (put (((e30_bt dn).mul (ab a)).mono (by omega))) hn' (by simpa [Stp.isT] using ht)
      | add r m a => exact key (n + 1) t ⟨okr, (e30_bt dn).ok (ab a) (by decide) (by omega) (by omega)⟩ (put ((((ab r).mono (by omega : bitsU n t ≤ bitsU n t + 100)).add (((e30_bt dn).mul (ab a)).mono (by omega))).mono (by omega))) hn' (by simpa [Stp.isT] using ht)
      | emp r => exact key (n + 1) t ⟨okr, trivial⟩ era hn' (by simpa [Stp.isT] using ht)
      | tell j r => exact key (n + 1) t ⟨okr, trivial⟩ era hn' (by simpa [Stp.isT] using ht)
end K26
namespace K26
open PySem PySem.Spec PyProof.Rows L2 FL Cm
set_option maxHeartbeats 0
/-- n: the number of the first step that can't be done, or beyond -/
def r_run_program (cvB : Addr) : FSpec := fun ds E Q => ∃ (P : List Stp) (xs ys : List Int) (m n : Nat), ds = [.lst .ice (P.map stD), .lst .ice (xs.map D.int), .lst .ice (ys.map D.int), .int m] ∧ runOk xs ys m run0 (P.take n) ∧ P.length ≤ 1000000 ∧ m ≤ 1000000 ∧
  ((P.length ≤ n ∧ ∀ os, Q (resD true .flat (runTo xs ys run0 P) m) os) ∨ ∃ st, P[n]? = some st ∧ st.ok ((runTo xs ys run0 (P.take n)).held.map (·.1)) ((runTo xs ys run0 (P.take n)).told.map (·.1)) xs.length ys.length m = false ∧ ∀ os, E (.ref cvB) (some [("step", .int n)]) os)
theorem rd_run_program {cvB cv : Addr} : RD_run_program (r_run_program cvB) (r_Run_init cv) (r_Run_go cv) r_is_doable cvB cv := by
  rintro ds ED QD - ⟨P, xs, ys, m, n, rfl, ok, hP, hm, hq⟩
  refine ⟨xs, ys, rfl, fun tl => ⟨rfl, _, rfl, ?_⟩⟩
  refine ⟨rfl, ?_⟩
  conv => whnf
  refine ⟨forR_on [4, 6, 7] [] (fun k s => ∃ g1 g2, s = [some (runD cv xs ys (runTo xs ys run0 (P.take k))), g1, g2] ∧ isF g1 ∧ isF g2 ∧ k ≤ n) _ _ ⟨_, _, rfl, isF_none, isF_none, Nat.zero_le _⟩ ?_ ?_⟩
  · rintro k d s j hd hj ⟨g1, g2, rfl, hg1, hg2, hn⟩
    cases len0 hj
    rw [enD_get, List.getElem?_map] at hd
    obtain ⟨dv, hdv, rfl⟩ := Option.map_eq_some_iff.mp hd
    obtain ⟨st, hp, rfl⟩ := Option.map_eq_some_iff.mp hdv
    have hl := runTo_len xs ys (P.take k) run0
    have hk : (P.take k).length ≤ P.length := by rw [List.length_take]; omega
    have tws : ∀ st : Stp, tw (some (stD st)) (some (stD st)) := fun st => tw_isF (isF_some (by cases st <;> rfl))
    by_cases hkn : k < n
    · have hn' : k + 1 ≤ n := hkn
      have cn := runOk_at (k := k) ok (by rw [List.getElem?_take_of_lt hkn]; exact hp)
      rw [List.take_take, Nat.min_eq_left (Nat.le_of_lt hkn)] at cn
      rw [runTo_succ hp]
      generalize runTo xs ys run0 (P.take k) = s at cn hl ⊢
      have h1 : s.held.length ≤ 1000000 := by have : run0.held.length = 0 := rfl; omega
      have h2 : s.told.length ≤ 1000000 := by have : run0.told.length = 0 := rfl; omega
      refine ⟨rfl, ?_⟩
      cases st with
      | row b1 b2 b3 =>
        refine ⟨rfl, rfl, rfl, rfl, _, _, _, _, _, _, _, _, dbl_arg (s := s) (st := (Stp.row b1 b2 b3)) (xs := xs) (ys := ys) (m := m), fun os => ?_⟩
        rw [cn.1]
        refine ⟨⟨tw_isF isF_some, tw_isF isF_some, tw_isF isF_some, tw_isF isF_some, tw_isF isF_some, tw_isF isF_some, tw_isF isF_some, tws (Stp.row b1 b2 b3), tw_isF isF_none, True.intro⟩, fun h => (nomatch h), fun _ => ?_⟩
        exact ⟨⟨_, _, rfl⟩, xs, ys, s, _, _, rfl, cn, h1, h2, fun tl => ⟨rfl, _, _, rfl, isF_some, isF_some, hn'⟩⟩
      | times b1 b2 b3 =>
        refine ⟨rfl, rfl, rfl, rfl, _, _, _, _, _, _, _, _, dbl_arg (s := s) (st := (Stp.times b1 b2 b3)) (xs := xs) (ys := ys) (m := m), fun os => ?_⟩
        rw [cn.1]
        refine ⟨⟨tw_isF isF_some, tw_isF isF_some, tw_isF isF_some, tw_isF isF_some, tw_isF isF_some, tw_isF isF_some, tw_isF isF_some, tws (Stp.times b1 b2 b3), tw_isF isF_none, True.intro⟩, fun h => (nomatch h), fun _ => ?_⟩
        exact ⟨⟨_, _, rfl⟩, xs, ys, s, _, _, rfl, cn, h1, h2, fun tl => ⟨rfl, _, _, rfl, isF_some, isF_some, hn'⟩⟩
      | put b1 b2 b3 =>
        refine ⟨rfl, rfl, rfl, rfl, _, _, _, _, _, _, _, _, dbl_arg (s := s) (st := (Stp.put b1 b2 b3)) (xs := xs) (ys := ys) (m := m), fun os => ?_⟩
        rw [cn.1]
        refine ⟨⟨tw_isF isF_some, tw_isF isF_some, tw_isF isF_some, tw_isF isF_some, tw_isF isF_some, tw_isF isF_some, tw_isF isF_some, tws (Stp.put b1 b2 b3), tw_isF isF_none, True.intro⟩, fun h => (nomatch h), fun _ => ?_⟩
        exact ⟨⟨_, _, rfl⟩, xs, ys, s, _, _, rfl, cn, h1, h2, fun tl => ⟨rfl, _, _, rfl, isF_some, isF_some, hn'⟩⟩
      | add b1 b2 b3 =>
        refine ⟨rfl, rfl, rfl, rfl, _, _, _, _, _, _, _, _, dbl_arg (s := s) (st := (Stp.add b1 b2 b3)) (xs := xs) (ys := ys) (m := m), fun os => ?_⟩
        rw [cn.1]
        refine ⟨⟨tw_isF isF_some, tw_isF isF_some, tw_isF isF_some, tw_isF isF_some, tw_isF isF_some, tw_isF isF_some, tw_isF isF_some, tws (Stp.add b1 b2 b3), tw_isF isF_none, True.intro⟩, fun h => (nomatch h), fun _ => ?_⟩
        exact ⟨⟨_, _, rfl⟩, xs, ys, s, _, _, rfl, cn, h1, h2, fun tl => ⟨rfl, _, _, rfl, isF_some, isF_some, hn'⟩⟩
      | emp b1 =>
        refine ⟨rfl, rfl, rfl, rfl, _, _, _, _, _, _, _, _, dbl_arg (s := s) (st := (Stp.emp b1)) (xs := xs) (ys := ys) (m := m), fun os => ?_⟩
        rw [cn.1]
        refine ⟨⟨tw_isF isF_some, tw_isF isF_some, tw_isF isF_some, tw_isF isF_some, tw_isF isF_some, tw_isF isF_some, tw_isF isF_some, tws (Stp.emp b1), tw_isF isF_none, True.intro⟩, fun h => (nomatch h), fun _ => ?_⟩
        exact ⟨⟨_, _, rfl⟩, xs, ys, s, _, _, rfl, cn, h1, h2, fun tl => ⟨rfl, _, _, rfl, isF_some, isF_some, hn'⟩⟩
      | tell b1 b2 =>
        refine ⟨rfl, rfl, rfl, rfl, _, _, _, _, _, _, _, _, dbl_arg (s := s) (st := (Stp.tell b1 b2)) (xs := xs) (ys := ys) (m := m), fun os => ?_⟩
        rw [cn.1]
        refine ⟨⟨tw_isF isF_some, tw_isF isF_some, tw_isF isF_some, tw_isF isF_some, tw_isF isF_some, tw_isF isF_some, tw_isF isF_some, tws (Stp.tell b1 b2), tw_isF isF_none, True.intro⟩, fun h => (nomatch h), fun _ => ?_⟩
        exact ⟨⟨_, _, rfl⟩, xs, ys, s, _, _, rfl, cn, h1, h2, fun tl => ⟨rfl, _, _, rfl, isF_some, isF_some, hn'⟩⟩
    · have hkn : k = n := by omega
      subst hkn
      rcases hq with ⟨z, _⟩ | ⟨st', e, nok, q⟩
      · have := (List.getElem?_eq_some_iff.mp hp).1
        omega
      cases hp.symm.trans e
      generalize runTo xs ys run0 (P.take k) = s at nok hl ⊢
      refine ⟨rfl, ?_⟩
      cases st with
      | row b1 b2 b3 =>
        refine ⟨rfl, rfl, rfl, rfl, _, _, _, _, _, _, _, _, dbl_arg (s := s) (st := (Stp.row b1 b2 b3)) (xs := xs) (ys := ys) (m := m), fun os => ?_⟩
        rw [nok]
        refine ⟨⟨tw_isF isF_some, tw_isF isF_some, tw_isF isF_some, tw_isF isF_some, tw_isF isF_some, tw_isF isF_some, tw_isF isF_some, tws (Stp.row b1 b2 b3), tw_isF isF_none, True.intro⟩, fun _ => ?_, fun h => (nomatch h)⟩
        exact ⟨rfl, by rw [Nat.zero_add]; exact q _⟩
      | times b1 b2 b3 =>
        refine ⟨rfl, rfl, rfl, rfl, _, _, _, _, _, _, _, _, dbl_arg (s := s) (st := (Stp.times b1 b2 b3)) (xs := xs) (ys := ys) (m := m), fun os => ?_⟩
        rw [nok]
        refine ⟨⟨tw_isF isF_some, tw_isF isF_some, tw_isF isF_some, tw_isF isF_some, tw_isF isF_some, tw_isF isF_some, tw_isF isF_some, tws (Stp.times b1 b2 b3), tw_isF isF_none, True.intro⟩, fun _ => ?_, fun h => (nomatch h)⟩
        exact ⟨rfl, by rw [Nat.zero_add]; exact q _⟩
      | put b1 b2 b3 =>
        refine ⟨rfl, rfl, rfl, rfl, _, _, _, _, _, _, _, _, dbl_arg (s := s) (st := (Stp.put b1 b2 b3)) (xs := xs) (ys := ys) (m := m), fun os => ?_⟩
        rw [nok]
        refine ⟨⟨tw_isF isF_some, tw_isF isF_some, tw_isF isF_some, tw_isF isF_some, tw_isF isF_some, tw_isF isF_some, tw_isF isF_some, tws (Stp.put b1 b2 b3), tw_isF isF_none, True.intro⟩, fun _ => ?_, fun h => (nomatch h)⟩
        exact ⟨rfl, by rw [Nat.zero_add]; exact q _⟩
      | add b1 b2 b3 =>
        refine ⟨rfl, rfl, rfl, rfl, _, _, _, _, _, _, _, _, dbl_arg (s := s) (st := (Stp.add b1 b2 b3)) (xs := xs) (ys := ys) (m := m), fun os => ?_⟩
        rw [nok]
        refine ⟨⟨tw_isF isF_some, tw_isF isF_some, tw_isF isF_some, tw_isF isF_some, tw_isF isF_some, tw_isF isF_some, tw_isF isF_some, tws (Stp.add b1 b2 b3), tw_isF isF_none, True.intro⟩, fun _ => ?_, fun h => (nomatch h)⟩
        exact ⟨rfl, by rw [Nat.zero_add]; exact q _⟩
      | emp b1 =>
        refine ⟨rfl, rfl, rfl, rfl, _, _, _, _, _, _, _, _, dbl_arg (s := s) (st := (Stp.emp b1)) (xs := xs) (ys := ys) (m := m), fun os => ?_⟩
        rw [nok]
        refine ⟨⟨tw_isF isF_some, tw_isF isF_some, tw_isF isF_some, tw_isF isF_some, tw_isF isF_some, tw_isF isF_some, tw_isF isF_some, tws (Stp.emp b1), tw_isF isF_none, True.intro⟩, fun _ => ?_, fun h => (nomatch h)⟩
        exact ⟨rfl, by rw [Nat.zero_add]; exact q _⟩
      | tell b1 b2 =>
        refine ⟨rfl, rfl, rfl, rfl, _, _, _, _, _, _, _, _, dbl_arg (s := s) (st := (Stp.tell b1 b2)) (xs := xs) (ys := ys) (m := m), fun os => ?_⟩
        rw [nok]
        refine ⟨⟨tw_isF isF_some, tw_isF isF_some, tw_isF isF_some, tw_isF isF_some, tw_isF isF_some, tw_isF isF_some, tw_isF isF_some, tws (Stp.tell b1 b2), tw_isF isF_none, True.intro⟩, fun _ => ?_, fun h => (nomatch h)⟩
        exact ⟨rfl, by rw [Nat.zero_add]; exact q _⟩
  · rintro s j hj ⟨g1, g2, rfl, hg1, hg2, hn⟩
    cases len0 hj
    have eP : (P.map stD).length = P.length := List.length_map _
    rw [enD_len, eP] at hn
    rw [enD_len, eP, List.take_length]
    rcases hq with ⟨_, q⟩ | ⟨st', e, _⟩
    · generalize hS : runTo xs ys run0 P = S
      rw [hS] at q
      have lk : ∀ k : Int, dLook false (S.told.map fun p => D.int p.1) (S.told.map fun p => D.int p.2) (.int k) = (lkA S.told k).map D.int := fun k => mp_look ky_int k S.told
      have el : ((m : Int) - 0).toNat = m := by omega
      refine ⟨⟨by decide, by omega, by omega⟩, ⟨compR_allE (List.range ((m : Int) - 0).toNat) _ (fun k => .int ((lkA S.told (0 + (k : Int))).getD 0)) rfl (fun k hk => ⟨fun _ => ⟨rfl, rfl, ?_⟩, fun h => (nomatch h)⟩) (fun _ => rfl) ?_⟩⟩
      · refine ⟨rfl, rfl, rfl, pickOr_of (y := .int ((lkA S.told (0 + (k : Int))).getD 0)) ?_ rfl ⟨rfl, rfl⟩⟩
        rw [lk]
        cases lkA S.told (0 + (k : Int)) with
        | none => exact .inr ⟨rfl, rfl⟩
        | some v => exact .inl rfl
      · refine ⟨rfl, rfl, rfl, rfl, rfl, rfl, ⟨tw_isF isF_some, tw_isF isF_some, tw_isF isF_some, tw_isF isF_some, tw_isF isF_some, tw_isF isF_some, tw_isF hg1, tw_isF hg2, tw_isF isF_none, True.intro⟩, ?_⟩
        have er : ((List.range ((m : Int) - 0).toNat).map fun k : Nat => D.int ((lkA S.told (0 + (k : Int))).getD 0)) = (toldRow S m).map D.int := by
          rw [el]; unfold toldRow; rw [List.map_map]
          exact List.map_congr_left fun k _ => by simp
        rw [er]
        refine ⟨?_, q _⟩
        have : ∀ xs : List Int, cleanL (xs.map D.int) = true := fun xs => cleanL_all.mpr fun d hd => by obtain ⟨i, _, rfl⟩ := List.mem_map.mp hd; rfl
        show cleanL [.lst .flat ((toldRow S m).map D.int), .int S.times, .int S.sums, .int S.most] = true
        simp only [cleanL, D.clean, this, Bool.and_self]
    · have := (List.getElem?_eq_some_iff.mp e).1
      omega
def fbD : Option Nat → D
  | none => .non
  | some i => .int i
def r_law_refused : FSpec := fun ds _ Q => ∃ (P : List Stp) (xs ys : List Int) (a b m : Nat), ds = [.lst .ice (P.map stD), .lst .ice [.int a, .int b, .int m], .lst .ice [.lst .ice (xs.map D.int), .lst .ice (ys.map D.int)]] ∧ xs.length = a ∧ ys.length = b ∧ m ≤ 1000 ∧ Bts 40 xs ∧ Bts 40 ys ∧ P.length ≤ 40 ∧ (P.filter Stp.isT).length ≤ 6 ∧ (∀ st ∈ P, Nm st) ∧
  ∀ os, Q (fbD (fb a b m ([], []) P)) os
theorem rd_law_refused {cvT cvB cvN cvR : Addr} : RD_law_refused r_law_refused (r_run_program cvB) cvT cvB cvN cvR := by
  rintro ds ED QD - ⟨P, xs, ys, _, _, m, rfl, rfl, rfl, hm, bx, bY, hl, ht, hN, q⟩
  have r := run_fb (nl := xs.length) (nr := ys.length) (nt := m) rfl rfl bx bY P ([], []) run0 0 0 hN ⟨rfl, rfl⟩ (fun p hp => by cases hp) (by omega) (by omega)
  cases f : fb xs.length ys.length m ([], []) P with
  | none =>
    rw [f] at r q
    refine ⟨P, xs, ys, m, P.length, rfl, by rw [List.take_length]; exact r, by omega, by omega, .inl ⟨Nat.le_refl _, fun os => ?_⟩⟩
    exact ⟨rfl, q _⟩
  | some i =>
    rw [f] at r q
    obtain ⟨r1, st, r2, r3⟩ := r
    refine ⟨P, xs, ys, m, i, rfl, r1, by omega, by omega, .inr ⟨st, r2, r3, fun os => ?_⟩⟩
    exact ⟨rfl, by show 3 < 5; decide, _, rfl, fun a => q _⟩
def r_law_sizes : FSpec := fun ds _ Q => ∃ b : Bx, ds = [bxD b] ∧ ∀ (n1 n2 n3 : Nat) (b' : Bx) t, ((1 ≤ n1 ∧ n1 ≤ 5) ∧ (1 ≤ n2 ∧ n2 ≤ 5) ∧ (1 ≤ n3 ∧ n3 ≤ 5)) → Q (.lst .flat [.int n1, .int n2, .int n3]) (some (bxD b') :: t)
theorem rd_law_sizes : RD_law_sizes r_law_sizes r_law_lengths := by
  rintro ds ED QD - ⟨b, rfl, q⟩
  exact ⟨b, 5, rfl, by decide, fun n1 n2 n3 b t h => q n1 n2 n3 b _ h⟩
def odds (r e k x0 x1 x2 : Int) : List Stp := [.times r e r, .times r r e, .put r 2 e, .add e 1 r, .add r 1 e, .emp e, .tell k e, .tell x2 r, .row false r [(1, 0), (0, x0)], .row true r [(1, x1)], .tell k r]
def r_law_odd : FSpec := fun ds _ Q => ∃ (b : Bx) (n1 n2 n3 : Nat), ds = [bxD b, .lst .ice [.int n1, .int n2, .int n3]] ∧ ((1 ≤ n1 ∧ n1 ≤ 5) ∧ (1 ≤ n2 ∧ n2 ≤ 5) ∧ (1 ≤ n3 ∧ n3 ≤ 5)) ∧ ∀ (st : Stp) (b' : Bx) t, Nm st → Q (stD st) (some (bxD b') :: t)
theorem rd_law_odd : RD_law_odd r_law_odd r_law_take := by
  rintro ds ED QD - ⟨b, n1, n2, n3, rfl, hn, q⟩
  refine ⟨b, 9, rfl, by decide, fun e b _ e0 e1 => ?_⟩
  refine ⟨b, 4, rfl, by decide, fun r b _ r0 r1 => ?_⟩
  refine ⟨b, n3, rfl, by omega, fun k b _ k0 k1 => ?_⟩
  refine ⟨b, 3, rfl, by decide, fun a b _ a0 a1 => ?_⟩
  have ha : a = 0 ∨ a = 1 ∨ a = 2 := by omega
  have nm : ∀ x0 x1 x2 : Int, ∀ st ∈ odds r (500 + e) k x0 x1 x2, Nm st := fun x0 x1 x2 st h => by
    unfold odds at h
    have e1 : -E30 ≤ (1 : Int) ∧ (1 : Int) ≤ E30 := by decide +kernel
    have e2 : -E30 ≤ (2 : Int) ∧ (2 : Int) ≤ E30 := by decide +kernel
    have e0 : -E30 ≤ (0 : Int) ∧ (0 : Int) ≤ E30 := by decide +kernel
    simp only [List.mem_cons, List.not_mem_nil, or_false] at h
    rcases h with rfl | rfl | rfl | rfl | rfl | rfl | rfl | rfl | rfl | rfl | rfl
    all_goals first
      | exact trivial
      | exact e1
      | exact e2
      | skip
    · refine ⟨by show 2 ≤ 9; decide, fun p hp => ?_⟩
      rcases List.mem_cons.mp hp with rfl | hp
      · exact e1
      · rw [List.mem_singleton.mp hp]; exact e0
    · refine ⟨by show 1 ≤ 9; decide, fun p hp => ?_⟩
      rw [List.mem_singleton.mp hp]; exact e1
  rcases ha with rfl | rfl | rfl
  · refine ⟨by rw [sizeLine_eq]; show 6 ≤ _; decide, ?_⟩
    refine ⟨by rw [sizeLine_eq]; show 8 ≤ _; decide, ?_⟩
    refine ⟨by rw [sizeLine_eq]; show 11 ≤ _; decide, ?_⟩
    refine ⟨b, 11, rfl, by decide, fun v b _ v0 v1 => ?_⟩
    exact pick_at (f := stD) (xs := odds r (500 + e) k n1 n2 n3) v0 v1 (fun st => by cases st <;> rfl) fun st hst => q st b _ (nm _ _ _ st (List.mem_of_getElem? hst))
  · refine ⟨by rw [sizeLine_eq]; show 6 ≤ _; decide, ?_⟩
    refine ⟨by rw [sizeLine_eq]; show 8 ≤ _; decide, ?_⟩
    refine ⟨by rw [sizeLine_eq]; show 11 ≤ _; decide, ?_⟩
    refine ⟨b, 11, rfl, by decide, fun v b _ v0 v1 => ?_⟩
    exact pick_at (f := stD) (xs := odds r (500 + e) k (-1) (-1) (-1)) v0 v1 (fun st => by cases st <;> rfl) fun st hst => q st b _ (nm _ _ _ st (List.mem_of_getElem? hst))
  · refine ⟨by rw [sizeLine_eq]; show 6 ≤ _; decide, ?_⟩
    refine ⟨by rw [sizeLine_eq]; show 8 ≤ _; decide, ?_⟩
    refine ⟨by rw [sizeLine_eq]; show 11 ≤ _; decide, ?_⟩
    refine ⟨b, 11, rfl, by decide, fun v b _ v0 v1 => ?_⟩
    exact pick_at (f := stD) (xs := odds r (500 + e) k (n1 + 3) (n2 + 3) 99) v0 v1 (fun st => by cases st <;> rfl) fun st hst => q st b _ (nm _ _ _ st (List.mem_of_getElem? hst))
end K26
namespace K26
open PySem PySem.Spec PyProof.Rows L2 FL Cm
set_option maxHeartbeats 0
def r_law_first : FSpec := fun ds _ Q => ∃ (P : List Stp) (a b c : Int), ds = [.lst .ice (P.map stD), .lst .ice [.int a, .int b, .int c]] ∧ P.length ≤ 1000 ∧ ∀ os, Q (fbD (fb a b c ([], []) P)) os
theorem fb_cons {nl nr nt : Int} {k : KS} {st : Stp} {r : List Stp} : fb nl nr nt k (st :: r) = if okK nl nr nt k st = true then (fb nl nr nt (keptS k.1 k.2 st) r).map (· + 1) else some 0 := by
  show (match okK nl nr nt k st with | true => _ | false => _) = _
  cases okK nl nr nt k st <;> rfl
theorem fb_step {nl nr nt : Int} {k0 : KS} {P : List Stp} {k : Nat} {st : Stp} (hp : P[k]? = some st) (h : fb nl nr nt k0 P = (fb nl nr nt (keptA k0 (P.take k)) (P.drop k)).map (k + ·)) :
    (okK nl nr nt (keptA k0 (P.take k)) st = false → fb nl nr nt k0 P = some k) ∧ (okK nl nr nt (keptA k0 (P.take k)) st = true → fb nl nr nt k0 P = (fb nl nr nt (keptA k0 (P.take (k + 1))) (P.drop (k + 1))).map (k + 1 + ·)) := by
  obtain ⟨hl, he⟩ := List.getElem?_eq_some_iff.mp hp
  have ed : P.drop k = st :: P.drop (k + 1) := by rw [← he]; exact List.drop_eq_getElem_cons hl
  have et : keptA k0 (P.take (k + 1)) = keptS (keptA k0 (P.take k)).1 (keptA k0 (P.take k)).2 st := by
    rw [List.take_succ, hp]; exact keptA_snoc _ _ _
  rw [ed, fb_cons] at h
  refine ⟨fun z => ?_, fun z => ?_⟩
  · rw [if_neg (by rw [z]; decide)] at h
    rw [h]; rfl
  · rw [if_pos z] at h
    rw [h, et, Option.map_map]
    congr 1
    funext i
    show k + (i + 1) = k + 1 + i
    omega
theorem first_end {st : Stp} {k : KS} {a b c : Int} {s0 s6 s7 : Option D} {n : Int} {E : EE} {F : FL.Fin} (h1 : k.1.length ≤ 1000) (h2 : k.2.length ≤ 1000) (ok : okK a b c k st = true)
    (yes : F.nx [s0, some (.lst .ice [.int a, .int b, .int c]), some (isD .flat (keptS k.1 k.2 st).1), some (.lst .flat ((keptS k.1 k.2 st).2.map D.int)), some (.int n), some (stD st), s6, s7, none, none]) :
    rDrop (rCall [1, 2] r_law_kept (rAC (oV (rVar 5)) (rAC (oN 2) (rAC (oN 3) rA0)))) [s0, some (.lst .ice [.int a, .int b, .int c]), some (isD .flat k.1), some (.lst .flat (k.2.map D.int)), some (.int n), some (stD st), s6, s7, none, none] E F := by
  have kp := keeps_ok (k := k) ok
  cases st <;> exact ⟨_, k.1, k.2, rfl, kp, h1, h2, fun o t => yes⟩
theorem in_keys (kd : List (Int × Str)) (rs : List Int) : (rs.map fun r => (false ^^ (kIdx false (kd.map fun q => D.int q.1) (.int r)).isSome)).all id = rs.all (has (kd.map (·.1))) := by
  have := all_has (kd.map (·.1)) rs
  rw [List.map_map] at this
  exact this
abbrev rdsB (kd : List (Int × Str)) (p : Int × Int) : D := .bl (false ^^ (kIdx false (kd.map fun q => D.int q.1) (.int p.2)).isSome)
theorem bnt {b : Bool} (h : (!b) = true) : b = false := by cases b; rfl; cases h
theorem bnf {b : Bool} (h : (!b) = false) : b = true := by cases b; cases h; rfl
theorem first_step {st : Stp} {k : KS} {a b c : Int} {s0 s6 s7 : Option D} {n : Int} {E : EE} {F : FL.Fin} (h1 : k.1.length ≤ 1000) (h2 : k.2.length ≤ 1000) (no : okK a b c k st = false → ∀ ρ, F.rt (.int n) ρ)
    (yes : okK a b c k st = true → ∀ y6 y7, F.nx [s0, some (.lst .ice [.int a, .int b, .int c]), some (isD .flat (keptS k.1 k.2 st).1), some (.lst .flat ((keptS k.1 k.2 st).2.map D.int)), some (.int n), some (stD st), y6, y7, none, none]) :
    rb_law_first_l1 r_law_kept [s0, some (.lst .ice [.int a, .int b, .int c]), some (isD .flat k.1), some (.lst .flat (k.2.map D.int)), some (.int n), some (stD st), s6, s7, none, none] E F := by
  cases st with
  | times r x y =>
    refine ⟨rfl, rfl, rfl, rfl, rfl, ?_⟩
    refine ⟨compR_allE [((2 : Int), x), (3, y)] (fun p => D.int p.1) (rdsB k.1) rfl (fun p hp => ?_) (fun _ => rfl) ?_⟩
    · rcases List.mem_cons.mp hp with rfl | hp
      · refine ⟨fun _ => ⟨rfl, rfl, rfl⟩, fun h => nomatch h⟩
      · rw [List.mem_singleton.mp hp]
        refine ⟨fun _ => ⟨rfl, rfl, rfl⟩, fun h => nomatch h⟩
    · refine ⟨[x, y].map fun r => (false ^^ (kIdx false (k.1.map fun q => D.int q.1) (.int r)).isSome), rfl, ?_⟩
      rw [in_keys]
      refine ⟨fun h => no (bnt h) _, fun h => ?_⟩
      have ok : okK a b c k (.times r x y) = true := bnf h
      refine ⟨(fun h => absurd h (by decide +kernel)), fun _ => ⟨(fun h => nomatch h), fun _ => ?_⟩⟩
      exact cut_keep ⟨rfl, rfl, (fun h => absurd h (by decide +kernel)), fun _ => rfl⟩ (first_end (E := E) h1 h2 ok (yes ok _ _))
  | put r m x =>
    refine ⟨rfl, rfl, rfl, rfl, rfl, ?_⟩
    refine ⟨compR_allE [((3 : Int), x)] (fun p => D.int p.1) (rdsB k.1) rfl (fun p hp => ?_) (fun _ => rfl) ?_⟩
    · rw [List.mem_singleton.mp hp]
      refine ⟨fun _ => ⟨rfl, rfl, rfl⟩, fun h => nomatch h⟩
    · refine ⟨[x].map fun r => (false ^^ (kIdx false (k.1.map fun q => D.int q.1) (.int r)).isSome), rfl, ?_⟩
      rw [in_keys]
      refine ⟨fun h => no (bnt h) _, fun h => ?_⟩
      have ok : okK a b c k (.put r m x) = true := bnf h
      refine ⟨(fun h => absurd h (by decide +kernel)), fun _ => ⟨(fun h => nomatch h), fun _ => ?_⟩⟩
      exact cut_keep ⟨rfl, rfl, (fun h => absurd h (by decide +kernel)), fun _ => rfl⟩ (first_end (E := E) h1 h2 ok (yes ok _ _))
  | add r m x =>
    refine ⟨rfl, rfl, rfl, rfl, rfl, ?_⟩
    refine ⟨compR_allE [((1 : Int), r), ((3 : Int), x)] (fun p => D.int p.1) (rdsB k.1) rfl (fun p hp => ?_) (fun _ => rfl) ?_⟩
    · rcases List.mem_cons.mp hp with rfl | hp
      · refine ⟨fun _ => ⟨rfl, rfl, rfl⟩, fun h => nomatch h⟩
      · rw [List.mem_singleton.mp hp]
        refine ⟨fun _ => ⟨rfl, rfl, rfl⟩, fun h => nomatch h⟩
    · refine ⟨[r, x].map fun r => (false ^^ (kIdx false (k.1.map fun q => D.int q.1) (.int r)).isSome), rfl, ?_⟩
      rw [in_keys]
      refine ⟨fun h => no (bnt h) _, fun h => ?_⟩
      have ok : okK a b c k (.add r m x) = true := bnf h
      refine ⟨(fun h => absurd h (by decide +kernel)), fun _ => ⟨(fun h => nomatch h), fun _ => ?_⟩⟩
      exact cut_keep ⟨rfl, rfl, (fun h => absurd h (by decide +kernel)), fun _ => rfl⟩ (first_end (E := E) h1 h2 ok (yes ok _ _))
  | emp r =>
    refine ⟨rfl, rfl, rfl, rfl, rfl, ?_⟩
    refine ⟨compR_allE [((1 : Int), r)] (fun p => D.int p.1) (rdsB k.1) rfl (fun p hp => ?_) (fun _ => rfl) ?_⟩
    · rw [List.mem_singleton.mp hp]
      refine ⟨fun _ => ⟨rfl, rfl, rfl⟩, fun h => nomatch h⟩
    · refine ⟨[r].map fun r => (false ^^ (kIdx false (k.1.map fun q => D.int q.1) (.int r)).isSome), rfl, ?_⟩
      rw [in_keys]
      refine ⟨fun h => no (bnt h) _, fun h => ?_⟩
      have ok : okK a b c k (.emp r) = true := bnf h
      refine ⟨(fun h => absurd h (by decide +kernel)), fun _ => ⟨(fun h => nomatch h), fun _ => ?_⟩⟩
      exact cut_keep ⟨rfl, rfl, (fun h => absurd h (by decide +kernel)), fun _ => rfl⟩ (first_end (E := E) h1 h2 ok (yes ok _ _))
  | tell j r =>
    refine ⟨rfl, rfl, rfl, rfl, rfl, ?_⟩
    refine ⟨compR_allE [((2 : Int), r)] (fun p => D.int p.1) (rdsB k.1) rfl (fun p hp => ?_) (fun _ => rfl) ?_⟩
    · rw [List.mem_singleton.mp hp]
      refine ⟨fun _ => ⟨rfl, rfl, rfl⟩, fun h => nomatch h⟩
    · refine ⟨[r].map fun r => (false ^^ (kIdx false (k.1.map fun q => D.int q.1) (.int r)).isSome), rfl, ?_⟩
      rw [in_keys]
      have et : okK a b c k (.tell j r) = (!(has k.2 j) && (decide (0 ≤ j) && decide (j < c)) && has (k.1.map (·.1)) r) := rfl
      refine ⟨fun h => no ?_ _, fun h => ?_⟩
      · have hr : has (k.1.map (·.1)) r = false := by simpa using bnt h
        rw [et, hr, Bool.and_false]
      · have hr : has (k.1.map (·.1)) r = true := by simpa using bnf h
        have fall : (k.2.map D.int).all isFlat = true := by rw [List.all_map]; exact List.all_eq_true.mpr fun _ _ => rfl
        refine ⟨fun _ => ⟨rfl, fall, fun hin => ⟨fun _ => no ?_ _, (fun h => nomatch h)⟩, fun hin => ⟨fun h0 => ?_, fun h0 => ?_⟩⟩, (fun h => absurd h (by decide +kernel))⟩
        · have hin : (false ^^ inD (.int j) (k.2.map D.int)) = true := hin
          rw [inD_int, Bool.false_xor] at hin
          rw [et, show has k.2 j = true from hin]; rfl
        · have hin : (false ^^ inD (.int j) (k.2.map D.int)) = false := hin
          rw [inD_int, Bool.false_xor] at hin
          have h0 : decide (0 ≤ j) = true := h0
          refine ⟨fun z => no ?_ _, fun z => ?_⟩
          · have z : decide (j < c) = false := bnt z
            rw [et, z, Bool.and_false, Bool.and_false, Bool.false_and]
          · have z : decide (j < c) = true := bnf z
            have ok : okK a b c k (.tell j r) = true := by rw [et, show has k.2 j = false from hin, h0, z, hr]; rfl
            exact cut_keep ⟨rfl, rfl, (fun h => absurd h (by decide +kernel)), fun _ => rfl⟩ (first_end (E := E) h1 h2 ok (yes ok _ _))
        · have h0 : decide (0 ≤ j) = false := h0
          refine ⟨fun z => no ?_ _, fun z => nomatch z⟩
          rw [et, h0, Bool.false_and, Bool.and_false, Bool.false_and]
  | row rt r ps =>
    have e1 : ∀ (nn : Int), (ps.map fun p => (decide (0 ≤ p.2) && decide (p.2 < nn))).all id = ps.all fun p => decide (0 ≤ p.2) && decide (p.2 < nn) := fun nn => by rw [List.all_map]; rfl
    cases rt with
    | false =>
      refine ⟨rfl, rfl, rfl, rfl, ?_⟩
      refine ⟨compR_allE ([] : List (Int × Int)) (fun p => D.int p.1) (rdsB k.1) rfl (fun p hp => nomatch hp) (fun _ => rfl) ?_⟩
      refine ⟨[], rfl, ?_⟩
      refine ⟨(fun h => nomatch h), fun h => ?_⟩
      refine ⟨(fun h => absurd h (by decide +kernel)), fun _ => ⟨(fun h => nomatch h), fun _ => ?_⟩⟩
      refine cut_on [7] [] (fun z => okK a b c k (.row false r ps) = true ∧ ∃ y, z = [y]) ⟨rfl, rfl, fun _ => ?_, (fun h => absurd h (by decide +kernel))⟩ ?_
      · refine ⟨compR_allE ps prtD (fun p => .bl (decide (0 ≤ p.2) && decide (p.2 < a))) rfl (fun p _ => ⟨rfl, fun _ => ⟨fun h => ⟨ch_t h, rfl⟩, fun h => ⟨ch_f h, rfl⟩⟩, fun h => nomatch h⟩) (fun _ => rfl) ?_⟩
        refine ⟨ps.map fun p => (decide (0 ≤ p.2) && decide (p.2 < a)), by rw [List.map_map]; rfl, ?_⟩
        rw [e1]
        exact ⟨fun h => no (bnt h) _, fun h => ⟨rfl, bnf h, _, rfl⟩⟩
      · rintro z j hj ⟨ok, y, rfl⟩
        cases len0 hj
        exact first_end (E := E) h1 h2 ok (yes ok _ _)
    | true =>
      refine ⟨rfl, rfl, rfl, rfl, ?_⟩
      refine ⟨compR_allE ([] : List (Int × Int)) (fun p => D.int p.1) (rdsB k.1) rfl (fun p hp => nomatch hp) (fun _ => rfl) ?_⟩
      refine ⟨[], rfl, ?_⟩
      refine ⟨(fun h => nomatch h), fun h => ?_⟩
      refine ⟨(fun h => absurd h (by decide +kernel)), fun _ => ⟨(fun h => nomatch h), fun _ => ?_⟩⟩
      refine cut_on [7] [] (fun z => okK a b c k (.row true r ps) = true ∧ ∃ y, z = [y]) ⟨rfl, rfl, fun _ => ?_, (fun h => absurd h (by decide +kernel))⟩ ?_
      · refine ⟨compR_allE ps prtD (fun p => .bl (decide (0 ≤ p.2) && decide (p.2 < b))) rfl (fun p _ => ⟨rfl, fun _ => ⟨fun h => ⟨ch_t h, rfl⟩, fun h => ⟨ch_f h, rfl⟩⟩, fun h => nomatch h⟩) (fun _ => rfl) ?_⟩
        refine ⟨ps.map fun p => (decide (0 ≤ p.2) && decide (p.2 < b)), by rw [List.map_map]; rfl, ?_⟩
        rw [e1]
        exact ⟨fun h => no (bnt h) _, fun h => ⟨rfl, bnf h, _, rfl⟩⟩
      · rintro z j hj ⟨ok, y, rfl⟩
        cases len0 hj
        exact first_end (E := E) h1 h2 ok (yes ok _ _)
theorem rd_law_first : RD_law_first r_law_first r_law_kept := by
  rintro ds ED QD - ⟨P, a, b, c, rfl, hl, q⟩
  show rb_law_first r_law_kept [some (.lst .ice (P.map stD)), some (.lst .ice [.int a, .int b, .int c]), none, none, none, none, none, none, none, none] _ _
  refine ⟨forR_on [2, 3] [4, 5, 6, 7] (fun k s => s = [some (isD .flat (keptA ([], []) (P.take k)).1), some (.lst .flat ((keptA ([], []) (P.take k)).2.map D.int))] ∧ fb a b c ([], []) P = (fb a b c (keptA ([], []) (P.take k)) (P.drop k)).map (k + ·) ∧ (keptA ([], []) (P.take k)).1.length ≤ k ∧ (keptA ([], []) (P.take k)).2.length ≤ k) _ _ ⟨rfl, ?_, Nat.le_refl _, Nat.le_refl _⟩ ?_ ?_⟩
  · show fb a b c ([], []) P = (fb a b c ([], []) P).map (0 + ·)
    rw [show ((0 : Nat) + · : Nat → Nat) = id from funext fun i => Nat.zero_add i, Option.map_id]; rfl
  · rintro k d s j hd hj ⟨rfl, hf, l1, l2⟩
    obtain ⟨a1, a2, a3, a4, rfl⟩ := len4 hj
    rw [enD_get, List.getElem?_map] at hd
    obtain ⟨dv, hdv, rfl⟩ := Option.map_eq_some_iff.mp hd
    obtain ⟨st, hp, rfl⟩ := Option.map_eq_some_iff.mp hdv
    have hk : k < P.length := (List.getElem?_eq_some_iff.mp hp).1
    obtain ⟨f1, f2⟩ := fb_step hp hf
    have et : keptA ([], []) (P.take (k + 1)) = keptS (keptA ([], []) (P.take k)).1 (keptA ([], []) (P.take k)).2 st := by
      rw [List.take_succ, hp]; exact keptA_snoc _ _ _
    have kl := kept_len (keptA ([], []) (P.take k)).1 (keptA ([], []) (P.take k)).2 st
    have main := @first_step st (keptA ([], []) (P.take k)) a b c
    refine ⟨rfl, ?_⟩
    refine main (s0 := some (.lst .ice (P.map stD))) (n := ((0 + k : Nat) : Int)) (by omega) (by omega) (fun no ρ => ?_) fun yes y6 y7 => ⟨rfl, ?_⟩
    · have := q (ρ.take 2)
      rw [f1 no] at this
      rw [Nat.zero_add]
      exact this
    · rw [et]
      refine ⟨rfl, ?_, by omega, by omega⟩
      rw [f2 yes, et]
  · rintro s j hj ⟨rfl, hf, l1, l2⟩
    obtain ⟨a1, a2, a3, a4, rfl⟩ := len4 hj
    have eP : (P.map stD).length = P.length := List.length_map _
    rw [enD_len, eP, List.drop_length] at hf
    have := q (([some (.lst .ice (P.map stD)), some (.lst .ice [.int a, .int b, .int c])] : En))
    rw [hf] at this
    exact this
end K26
namespace K26
open PySem PySem.Spec PyProof.Rows L2 FL Cm
set_option maxHeartbeats 0
abbrev Rs (f : FSpec → FSpec → FSpec → FSpec → FSpec → FSpec → FSpec → FSpec → RS) : RS :=
  f r_law_box r_law_sizes r_law_program r_law_take r_law_row r_law_refused r_law_odd r_law_first
theorem stD_own (st : Stp) : (stD st).own = false := by cases st <;> rfl
theorem stD_sm (st : Stp) : Sm (stD st) 3 := by
  have hp : ∀ ps : List (Int × Int), Sm (D.lst .ice (ps.map prtD)) 2 := fun ps => .lst (.map fun p _ => .tup (.cons .int (.cons .int .nil)))
  cases st with
  | row rt r ps => exact .tup (.cons .str (.cons .int (.cons (hp ps) .nil)))
  | times r a b => exact (Sm.tup (n := 0) (.cons .str (.cons .int (.cons .int (.cons .int .nil))))).mono (by decide)
  | put r a b => exact (Sm.tup (n := 0) (.cons .str (.cons .int (.cons .int (.cons .int .nil))))).mono (by decide)
  | add r a b => exact (Sm.tup (n := 0) (.cons .str (.cons .int (.cons .int (.cons .int .nil))))).mono (by decide)
  | emp r => exact (Sm.tup (n := 0) (.cons .str (.cons .int .nil))).mono (by decide)
  | tell k r => exact (Sm.tup (n := 0) (.cons .str (.cons .int (.cons .int .nil)))).mono (by decide)
abbrev lnD3 (a b c : Nat) : D := .lst .ice [.int a, .int b, .int c]
/-- a program with at most i odd steps -/
structure Bent (P : List Stp) (i : Nat) : Prop where
  nm : ∀ st ∈ P, Nm st
  len : P.length ≤ 20 + i
  ts : (P.filter Stp.isT).length ≤ 4 + i
theorem Bent.ins {P : List Stp} {i n : Nat} {st : Stp} (h : Bent P i) (hs : Nm st) : Bent (P.take n ++ [st] ++ P.drop n) (i + 1) := by
  refine ⟨fun u hu => ?_, ?_, ?_⟩
  · rcases List.mem_append.mp hu with hu | hu
    · rcases List.mem_append.mp hu with hu | hu
      · exact h.nm u (List.mem_of_mem_take hu)
      · rw [List.mem_singleton.mp hu]; exact hs
    · exact h.nm u (List.mem_of_mem_drop hu)
  · have := h.len
    simp only [List.length_append, List.length_take, List.length_drop, List.length_singleton]
    omega
  · have e : (P.filter Stp.isT).length = ((P.take n).filter Stp.isT).length + ((P.drop n).filter Stp.isT).length := by
      rw [← List.length_append, ← List.filter_append, List.take_append_drop]
    have h1 : ([st].filter Stp.isT).length ≤ 1 := List.length_filter_le _ _
    have := h.ts
    rw [List.filter_append, List.filter_append, List.length_append, List.length_append]
    omega
theorem l1_ok {x : Bx} {a b c : Nat} {P : List Stp} {i : Nat} {s0 s1 s4 s5 s6 s8 s9 s10 : Option D} {E : EE} {F : FL.Fin} (hn : (1 ≤ a ∧ a ≤ 5) ∧ (1 ≤ b ∧ b ≤ 5) ∧ (1 ≤ c ∧ c ≤ 5)) (h : Bent P i) (hi : i ≤ 10)
    (q : ∀ (x' : Bx) (P' : List Stp), Bent P' (i + 1) → F.nx [s0, s1, some (bxD x'), some (lnD3 a b c), s4, s5, s6, some (.lst .flat (P'.map stD)), s8, s9, s10]) :
    Rs rb_law_l1 [s0, s1, some (bxD x), some (lnD3 a b c), s4, s5, s6, some (.lst .flat (P.map stD)), s8, s9, s10] E F := by
  have hl := h.len
  refine ⟨x, P.length + 1, (by show [_, D.int (((P.map stD).length : Int) + 1)] = _; rw [List.length_map]), by omega, fun v x _ v0 v1 => ?_⟩
  refine ⟨x, a, b, c, rfl, hn, fun st x _ hs => ?_⟩
  refine ⟨stD_own st, ⟨v0, by omega⟩, by rw [List.length_map, sizeLine_eq]; omega, ?_⟩
  rw [nf_eq]
  have em : List.take v.toNat (P.map stD) ++ [stD st] ++ List.drop v.toNat (P.map stD) = (P.take v.toNat ++ [st] ++ P.drop v.toNat).map stD := by
    rw [List.map_append, List.map_append, List.map_take, List.map_drop]; rfl
  have := q x _ (h.ins (n := v.toNat) hs)
  rw [← em] at this
  exact this
theorem l2_ok {x : Bx} {a b c : Nat} {P : List Stp} {xs ys : List Int} {s0 s1 s6 s7 s8 s9 s10 : Option D} {E : EE} {F : FL.Fin} (hn : (1 ≤ a ∧ a ≤ 5) ∧ (1 ≤ b ∧ b ≤ 5) ∧ (1 ≤ c ∧ c ≤ 5)) (h : Bent P 0) (hx : xs.length = a) (hy : ys.length = b) (bx : Bts 40 xs) (bY : Bts 40 ys)
    (q : ∀ (x' : Bx) y7 y8 y9 y10, F.nx [s0, s1, some (bxD x'), some (lnD3 a b c), some (.lst .ice (P.map stD)), some (.lst .ice [.lst .ice (xs.map D.int), .lst .ice (ys.map D.int)]), s6, y7, y8, y9, y10]) :
    Rs rb_law_l2 [s0, s1, some (bxD x), some (lnD3 a b c), some (.lst .ice (P.map stD)), some (.lst .ice [.lst .ice (xs.map D.int), .lst .ice (ys.map D.int)]), s6, s7, s8, s9, s10] E F := by
  refine ⟨x, 4, rfl, by decide, fun v x _ v0 v1 => ?_⟩
  refine ⟨⟨by decide, ?_, ?_⟩, ⟨forR_on [2, 7] [8] (fun k s => ∃ x P', s = [some (bxD x), some (.lst .flat (P'.map stD))] ∧ Bent P' k) _ _ ⟨_, _, rfl, h⟩ ?_ ?_⟩⟩
  · (try dsimp only); split <;> omega
  · (try dsimp only); split <;> omega
  · rintro k d s j hd hj ⟨x, P', rfl, h'⟩
    obtain ⟨e1, rfl⟩ := len1 hj
    have hk : k < 2 := by
      have h1 := (List.getElem?_eq_some_iff.mp hd).1
      rw [rgD_len] at h1
      revert h1
      (try dsimp only); split <;> intro h1 <;> omega
    obtain ⟨rfl, _⟩ := rgD_at hd
    exact l1_ok hn h' (by omega) fun x' P' h2 => ⟨rfl, _, _, rfl, h2⟩
  · rintro s j hj ⟨x, P', rfl, h'⟩
    obtain ⟨e1, rfl⟩ := len1 hj
    rw [rgD_len] at h'
    have h2 : Bent P' 2 := ⟨h'.nm, Nat.le_trans h'.len (by (try dsimp only); split <;> decide), Nat.le_trans h'.ts (by (try dsimp only); split <;> decide)⟩
    have hl := h2.len
    have ht := h2.ts
    refine ⟨P', xs, ys, a, b, c, rfl, hx, hy, by omega, bx, bY, by omega, by omega, h2.nm, fun _ => ?_⟩
    have smP : Sm (D.lst .ice (P'.map stD)) 4 := .lst (.map fun st _ => stD_sm st)
    have smQ : Sm (D.lst .flat (P'.map stD)) 4 := .lst (.map fun st _ => stD_sm st)
    cases hf : fb a b c ([], []) P' with
    | none =>
      refine ⟨(fun h => nomatch h), fun _ => ?_⟩
      refine ⟨P', a, b, c, rfl, by omega, fun _ => ?_⟩
      rw [hf]
      refine ⟨rfl, rfl, Nat.zero_le _, fun z => (ne_no z rfl rfl).elim, fun _ => ?_⟩
      refine ⟨smP.dat, smQ.dat, smP.min, fun z => (ne_no z smP.dat rfl).elim, fun _ => ?_⟩
      exact q _ _ _ _ _
    | some i =>
      refine ⟨(fun h => nomatch h), fun _ => ?_⟩
      refine ⟨P', a, b, c, rfl, by omega, fun _ => ?_⟩
      rw [hf]
      refine ⟨fun z => absurd z (by simp), fun _ => ?_⟩
      refine ⟨smP.dat, smQ.dat, smP.min, fun z => (ne_no z smP.dat rfl).elim, fun _ => ?_⟩
      exact q _ _ _ _ _
theorem l3_ok {ns : List Int} {i : Nat} {s2 s3 s4 s5 s6 s7 s8 s9 s10 : Option D} {E : EE} {F : FL.Fin}
    (q : ∀ y2 y3 y4 y5 y6 y7 y8 y9 y10, F.nx [some (.ro false (ns.map D.int)), some (.int (0 + i)), y2, y3, y4, y5, y6, y7, y8, y9, y10]) :
    Rs rb_law_l3 [some (.ro false (ns.map D.int)), some (.int (0 + i)), s2, s3, s4, s5, s6, s7, s8, s9, s10] E F := by
  refine ⟨ns, _, rfl, by omega, fun x _ => ?_⟩
  refine ⟨x, rfl, fun a b c x _ hn => ?_⟩
  refine ⟨x, 21, rfl, by decide, fun v x _ v0 v1 => ⟨false, x, a, b, c, v, false, rfl, by omega, by omega, fun P x _ hP hp => ?_⟩⟩
  refine ⟨x, a, rfl, by omega, fun xs x _ hx ix => ⟨x, b, rfl, by omega, fun ys x _ hy iy => ?_⟩⟩
  have hx : xs.length = a := by omega
  have hy : ys.length = b := by omega
  have h0 : Bent P 0 := ⟨all_nm hp.1, by omega, hp.2 rfl⟩
  have hl := h0.len
  have ht := h0.ts
  refine ⟨P, xs, ys, a, b, c, rfl, hx, hy, by omega, ix.bts, iy.bts, by omega, by omega, h0.nm, fun _ => ?_⟩
  rw [fb_drawn hp.1]
  refine ⟨(fun h => absurd h (by decide +kernel)), fun _ => ?_⟩
  refine ⟨⟨by decide, by decide, by decide⟩, ⟨forR_on [2] [6, 7, 8, 9, 10] (fun _ s => ∃ x, s = [some (bxD x)]) _ _ ⟨_, rfl⟩ ?_ ?_⟩⟩
  · rintro k d s j hd hj ⟨x, rfl⟩
    obtain ⟨e1, e2, e3, e4, e5, rfl⟩ := len5 hj
    obtain ⟨rfl, _⟩ := rgD_at hd
    exact l2_ok (s7 := e2) hn h0 hx hy ix.bts iy.bts fun x' _ _ _ _ => ⟨rfl, _, rfl⟩
  · rintro s j hj ⟨x, rfl⟩
    obtain ⟨e1, e2, e3, e4, e5, rfl⟩ := len5 hj
    exact q _ _ _ _ _ _ _ _ _
def r_law : FSpec := fun ds _ Q => ∃ ns : List Int, ds = [.ro false (ns.map D.int)] ∧ ∀ os, Q (.bl true) os
theorem rd_law : RD_law r_law r_law_box r_law_sizes r_law_program r_law_take r_law_row r_law_refused r_law_odd r_law_first := by
  rintro ds ED QD - ⟨ns, rfl, q⟩
  show Rs rb_law [some (.ro false (ns.map D.int)), none, none, none, none, none, none, none, none, none, none] _ _
  refine ⟨⟨by decide, ?_, ?_⟩, ⟨forR_on [] [1, 2, 3, 4, 5, 6, 7, 8, 9, 10] (fun _ s => s = []) _ _ rfl ?_ ?_⟩⟩
  · (try dsimp only); split <;> split <;> omega
  · (try dsimp only); split <;> split <;> omega
  · rintro i x s j hx hj rfl
    obtain ⟨e1, e2, e3, e4, e5, e6, e7, e8, e9, e10, rfl⟩ := len10 hj
    obtain ⟨rfl, _⟩ := rgD_at hx
    exact l3_ok fun _ _ _ _ _ _ _ _ _ => ⟨rfl, rfl⟩
  · rintro s j hj rfl
    obtain ⟨e1, e2, e3, e4, e5, e6, e7, e8, e9, e10, rfl⟩ := len10 hj
    exact q _
end K26
namespace K26
open PySem PySem.Spec PyProof.Rows L2 FL Cm
set_option maxHeartbeats 0
section
variable {P : Program} {w : World} {K : PySem.W.Frag} {mg : Str → Option Value} {base : Heap} {A : Ad}
theorem A_law_cell_at (t : Tb K mg A) : FnOk P w K mg base (L2.CX P w) 1 A.f_law_cell_at A.fd_law_cell_at ["_law_script", "_law_k"] (FnD K 2 [] r_law_cell_at) := ok_law_cell_at (k := 0) t.D_law_cell_at t.z_len rd_law_cell_at
theorem A_law_mixed (t : Tb K mg A) : FnOk P w K mg base (L2.CX P w) 1 A.f_law_mixed A.fd_law_mixed ["_law_number_here", "_law_k"] (FnD K 2 [] r_law_mixed) := ok_law_mixed (k := 0) t.D_law_mixed rd_law_mixed
theorem A_law_box (t : Tb K mg A) : FnOk P w K mg base (L2.CX P w) 2 A.f_law_box A.fd_law_box ["_law_script", "_law_k"] (FnD K 2 [] r_law_box) := ok_law_box (k := 1) t.D_law_box t.D_law_cell_at t.D_law_mixed ((A_law_cell_at t).mono (by decide)) ((A_law_mixed t).mono (by decide)) t.z_abs t.z_int rd_law_box
theorem A_law_take (t : Tb K mg A) : FnOk P w K mg base (L2.CX P w) 2 A.f_law_take A.fd_law_take ["_law_box_here", "_law_many"] (FnD K 2 [0] r_law_take) := ok_law_take (k := 1) t.D_law_take t.D_law_mixed ((A_law_mixed t).mono (by decide)) rd_law_take
theorem A_law_lengths (t : Tb K mg A) : FnOk P w K mg base (L2.CX P w) 3 A.f_law_lengths A.fd_law_lengths ["_law_box_here", "_law_most"] (FnD K 2 [0] r_law_lengths) := ok_law_lengths (k := 2) t.D_law_lengths t.D_law_take ((A_law_take t).mono (by decide)) t.z_range rd_law_lengths
theorem A_law_sizes (t : Tb K mg A) : FnOk P w K mg base (L2.CX P w) 4 A.f_law_sizes A.fd_law_sizes ["_law_box_here"] (FnD K 1 [0] r_law_sizes) := ok_law_sizes (k := 3) t.D_law_sizes t.D_law_lengths ((A_law_lengths t).mono (by decide)) rd_law_sizes
theorem A_law_room (t : Tb K mg A) : FnOk P w K mg base (L2.CX P w) 3 A.f_law_room A.fd_law_room ["_law_box_here"] (FnD K 1 [0] r_law_room) := ok_law_room (k := 2) t.D_law_room t.D_law_take ((A_law_take t).mono (by decide)) rd_law_room
theorem A_law_of_sort (t : Tb K mg A) : FnOk P w K mg base (L2.CX P w) 1 A.f_law_of_sort A.fd_law_of_sort ["_law_held", "_law_sort", "_law_sorts"] (FnD K 3 [] r_law_of_sort) := ok_law_of_sort (k := 0) t.D_law_of_sort t.z_sorted rd_law_of_sort
theorem A_law_number (t : Tb K mg A) : FnOk P w K mg base (L2.CX P w) 3 A.f_law_number A.fd_law_number ["_law_box_here"] (FnD K 1 [0] r_law_number) := ok_law_number (k := 2) t.D_law_number t.D_law_take ((A_law_take t).mono (by decide)) rd_law_number
theorem A_law_take_wide (t : Tb K mg A) : FnOk P w K mg base (L2.CX P w) 2 A.f_law_take A.fd_law_take ["_law_box_here", "_law_many"] (FnD K 2 [0] r_law_take_wide) := ok_law_take (k := 1) t.D_law_take t.D_law_mixed ((A_law_mixed t).mono (by decide)) rd_law_take_wide
theorem A_law_value (t : Tb K mg A) : FnOk P w K mg base (L2.CX P w) 4 A.f_law_value A.fd_law_value ["_law_box_here"] (FnD K 1 [0] r_law_value) := ok_law_value (k := 3) t.D_law_value t.D_law_take t.D_law_number ((A_law_take_wide t).mono (by decide)) ((A_law_number t).mono (by decide)) rd_law_value
theorem A_law_parts (t : Tb K mg A) : FnOk P w K mg base (L2.CX P w) 5 A.f_law_parts A.fd_law_parts ["_law_box_here", "_law_length"] (FnD K 2 [0] r_law_parts) := ok_law_parts (k := 4) t.D_law_parts t.D_law_take t.D_law_value ((A_law_take t).mono (by decide)) ((A_law_value t).mono (by decide)) t.z_range rd_law_parts
theorem A_law_step (t : Tb K mg A) : FnOk P w K mg base (L2.CX P w) 6 A.f_law_step A.fd_law_step ["_law_box_here", "_law_lengths_here", "_law_held", "_law_told", "_law_sorts"] (FnD K 5 [0] r_law_step) := ok_law_step (k := 5) t.D_law_step t.D_law_take t.D_law_room t.D_law_of_sort t.D_law_parts t.D_law_value ((A_law_take t).mono (by decide)) ((A_law_room t).mono (by decide)) ((A_law_of_sort t).mono (by decide)) ((A_law_parts t).mono (by decide)) ((A_law_value t).mono (by decide)) t.z_len t.z_range t.z_sorted rd_law_step
theorem A_law_kept (t : Tb K mg A) : FnOk P w K mg base (L2.CX P w) 1 A.f_law_kept A.fd_law_kept ["_law_step_here", "_law_held", "_law_told"] (FnD K 3 [1, 2] r_law_kept) := ok_law_kept (k := 0) t.D_law_kept rd_law_kept
theorem A_law_program (t : Tb K mg A) : FnOk P w K mg base (L2.CX P w) 7 A.f_law_program A.fd_law_program ["_law_box_here", "_law_lengths_here", "_law_size", "_law_sorts"] (FnD K 4 [0] r_law_program) := ok_law_program (k := 6) t.D_law_program t.D_law_step t.D_law_kept ((A_law_step t).mono (by decide)) ((A_law_kept t).mono (by decide)) t.z_len t.z_range rd_law_program
theorem A_law_row (t : Tb K mg A) : FnOk P w K mg base (L2.CX P w) 3 A.f_law_row A.fd_law_row ["_law_box_here", "_law_length"] (FnD K 2 [0] r_law_row) := ok_law_row (k := 2) t.D_law_row t.D_law_take ((A_law_take t).mono (by decide)) t.z_range rd_law_row
theorem A_Run_init (t : Tb K mg A) : FnOk P w K mg base (L2.CX P w) 1 A.f_Run_init A.fd_Run_init ["self", "one", "other"] (FnD K 3 [0] (r_Run_init A.cv_Run)) := ok_Run_init (k := 0) t.D_Run_init t.cl_Run t.na_Run_held t.na_Run_most t.na_Run_rows t.na_Run_sums t.na_Run_times t.na_Run_told rd_Run_init
theorem A_Run_go (t : Tb K mg A) : FnOk P w K mg base (L2.CX P w) 1 A.f_Run_go A.fd_Run_go ["self", "step"] (FnD K 2 [0] (r_Run_go A.cv_Run)) := ok_Run_go (k := 0) t.D_Run_go t.z_len t.z_max t.z_sum t.g_ROWS t.cl_Run t.na_Run_held t.na_Run_most t.na_Run_rows t.na_Run_sums t.na_Run_times t.na_Run_told rd_Run_go
theorem A_rooms_read (t : Tb K mg A) : FnOk P w K mg base (L2.CX P w) 1 A.f_rooms_read A.fd_rooms_read ["step"] (FnD K 1 [] r_rooms_read) := ok_rooms_read (k := 0) t.D_rooms_read t.g_ROWS rd_rooms_read
theorem A_is_doable (t : Tb K mg A) : FnOk P w K mg base (L2.CX P w) 2 A.f_is_doable A.fd_is_doable ["step", "held", "told", "lengths"] (FnD K 4 [] r_is_doable) := ok_is_doable (k := 1) t.D_is_doable t.D_rooms_read ((A_rooms_read t).mono (by decide)) t.z_all t.g_ROWS rd_is_doable
theorem A_BadStep_init (t : Tb K mg A) : FnOk P w K mg base (L2.CX P w) 1 A.f_BadStep_init A.fd_BadStep_init ["self", "step"] (spI A.cv_BadStep "step") := ok_BadStep_init t.D_BadStep_init t.xi_BadStep t.xt_TimesError t.gc_TimesError
theorem A_run_program (t : Tb K mg A) : FnOk P w K mg base (L2.CX P w) 3 A.f_run_program A.fd_run_program ["program", "one", "other", "many"] (FnD K 4 [] (r_run_program A.cv_BadStep)) := ok_run_program (k := 2) t.D_run_program t.D_Run_init t.D_Run_go t.D_is_doable t.D_BadStep_init (A_Run_init t) (by decide) ((A_Run_go t).mono (by decide)) ((A_is_doable t).mono (by decide)) (A_BadStep_init t) (by decide) t.z_enumerate t.z_len t.z_range t.cl_Run t.na_Run_held t.na_Run_most t.na_Run_sums t.na_Run_times t.na_Run_told t.me_Run_go t.mk_Run t.xi_BadStep t.gc_BadStep t.gc_Run rd_run_program
theorem A_law_refused (t : Tb K mg A) : FnOk P w K mg base (L2.CX P w) 4 A.f_law_refused A.fd_law_refused ["_law_program_here", "_law_lengths_here", "_law_rows"] (FnD K 3 [] r_law_refused) := ok_law_refused (k := 3) t.D_law_refused t.D_run_program ((A_run_program t).mono (by decide)) t.z_ValueError t.z_isinstance t.xk_BadStep t.gc_BadRow t.gc_BadStep t.gc_NoFlip t.gc_TimesError t.xm_BadStep_TimesError t.ka_BadStep_NoFlip_BadRow t.ki_BadStep_ValueError t.ki_BadStep_BadStep rd_law_refused
theorem A_law_odd (t : Tb K mg A) : FnOk P w K mg base (L2.CX P w) 3 A.f_law_odd A.fd_law_odd ["_law_box_here", "_law_lengths_here"] (FnD K 2 [0] r_law_odd) := ok_law_odd (k := 2) t.D_law_odd t.D_law_take ((A_law_take t).mono (by decide)) t.z_len rd_law_odd
theorem A_law_first (t : Tb K mg A) : FnOk P w K mg base (L2.CX P w) 2 A.f_law_first A.fd_law_first ["_law_program_here", "_law_lengths_here"] (FnD K 2 [] r_law_first) := ok_law_first (k := 1) t.D_law_first t.D_law_kept ((A_law_kept t).mono (by decide)) t.z_all t.z_enumerate t.z_int rd_law_first
theorem A_law (t : Tb K mg A) : FnOk P w K mg base (L2.CX P w) 8 A.f_law A.fd_law ["_law_script"] (FnD K 1 [] r_law) := ok_law (k := 7) t.D_law t.D_law_box t.D_law_sizes t.D_law_program t.D_law_take t.D_law_row t.D_law_refused t.D_law_odd t.D_law_first ((A_law_box t).mono (by decide)) ((A_law_sizes t).mono (by decide)) ((A_law_program t).mono (by decide)) ((A_law_take t).mono (by decide)) ((A_law_row t).mono (by decide)) ((A_law_refused t).mono (by decide)) ((A_law_odd t).mono (by decide)) ((A_law_first t).mono (by decide)) t.z_bool t.z_int t.z_isinstance t.z_len t.z_list t.z_max t.z_min t.z_range rd_law
theorem all_mk {l : PySem.W.OpenLaw} {h : Heap} {fa : Addr} (X : K.In h) (G : h.Ns mainGlobals mg) (hfa : mg "law" = some (.ref fa))
    {cv_BadStep : Addr}
    {cv_TimesError : Addr}
    {cv_Run : Addr}
    {cv_NoFlip : Addr}
    {cv_BadRow : Addr}
    (gc_Run : PySem.W.nsIn K mainGlobals "Run" = some (some (.ref cv_Run))) (pg_Run : PySem.W.plainGet K cv_Run Str.empty = true) (hd_Run : PySem.W.hasDictIn K cv_Run = true) (po_Run : PySem.W.plainOver K cv_Run = true) (sa_Run : PySem.W.findIn K (.ref cv_Run) "__setattr__" = some (some (.builtin "object.__setattr__"))) (mkc_Run : PySem.W.makesIn K cv_Run = true) (kc_Run : PySem.W.keepIn K (.ref cv_Run) = true)
    (na_Run_held : PySem.W.findIn K (.ref cv_Run) "held" = some none)
    (na_Run_most : PySem.W.findIn K (.ref cv_Run) "most" = some none)
    (na_Run_rows : PySem.W.findIn K (.ref cv_Run) "rows" = some none)
    (na_Run_sums : PySem.W.findIn K (.ref cv_Run) "sums" = some none)
    (na_Run_times : PySem.W.findIn K (.ref cv_Run) "times" = some none)
    (na_Run_told : PySem.W.findIn K (.ref cv_Run) "told" = some none)
    {f0 : Addr} {od0 an0 : Option Addr} {sl0 : Array (Option Value)} {oc0 kV0 dc0 pm0 cd0 ct0 : Value}
    (a0 : PySem.W.findIn K (.ref cv_BadStep) "__init__" = some (some (.ref f0))) (i0 : PySem.W.isFn K (.ref f0) = true) (l0 : K.lookup f0 = some ⟨oc0, od0, .func (PySem.W.fnOf "__init__" "BadStep.__init__" (defArgs s_BadStep_init) (defBody s_BadStep_init) (defScope s_BadStep_init) .none kV0 dc0 pm0 an0 cd0 ct0), sl0⟩) (c0 : PySem.W.codeIn K cd0 "BadStep.__init__" = true) (k0 : PySem.W.keepIn K (.ref f0) = true)
    {f1 : Addr} {od1 an1 : Option Addr} {sl1 : Array (Option Value)} {oc1 kV1 dc1 pm1 cd1 ct1 : Value}
    (a1 : PySem.W.nsIn K mainGlobals "rooms_read" = some (some (.ref f1))) (l1 : K.lookup f1 = some ⟨oc1, od1, .func (PySem.W.fnOf "rooms_read" "rooms_read" (defArgs s_rooms_read) (defBody s_rooms_read) (defScope s_rooms_read) .none kV1 dc1 pm1 an1 cd1 ct1), sl1⟩) (c1 : PySem.W.codeIn K cd1 "rooms_read" = true) (k1 : PySem.W.keepIn K (.ref f1) = true)
    {f2 : Addr} {od2 an2 : Option Addr} {sl2 : Array (Option Value)} {oc2 kV2 dc2 pm2 cd2 ct2 : Value}
    (a2 : PySem.W.nsIn K mainGlobals "is_doable" = some (some (.ref f2))) (l2 : K.lookup f2 = some ⟨oc2, od2, .func (PySem.W.fnOf "is_doable" "is_doable" (defArgs s_is_doable) (defBody s_is_doable) (defScope s_is_doable) .none kV2 dc2 pm2 an2 cd2 ct2), sl2⟩) (c2 : PySem.W.codeIn K cd2 "is_doable" = true) (k2 : PySem.W.keepIn K (.ref f2) = true)
    {f3 : Addr} {od3 an3 : Option Addr} {sl3 : Array (Option Value)} {oc3 kV3 dc3 pm3 cd3 ct3 : Value}
    (a3 : PySem.W.findIn K (.ref cv_Run) "__init__" = some (some (.ref f3))) (i3 : PySem.W.isFn K (.ref f3) = true) (l3 : K.lookup f3 = some ⟨oc3, od3, .func (PySem.W.fnOf "__init__" "Run.__init__" (defArgs s_Run_init) (defBody s_Run_init) (defScope s_Run_init) .none kV3 dc3 pm3 an3 cd3 ct3), sl3⟩) (c3 : PySem.W.codeIn K cd3 "Run.__init__" = true) (k3 : PySem.W.keepIn K (.ref f3) = true)
    {f4 : Addr} {od4 an4 : Option Addr} {sl4 : Array (Option Value)} {oc4 kV4 dc4 pm4 cd4 ct4 : Value}
    (a4 : PySem.W.findIn K (.ref cv_Run) "go" = some (some (.ref f4))) (i4 : PySem.W.isFn K (.ref f4) = true) (l4 : K.lookup f4 = some ⟨oc4, od4, .func (PySem.W.fnOf "go" "Run.go" (defArgs s_Run_go) (defBody s_Run_go) (defScope s_Run_go) .none kV4 dc4 pm4 an4 cd4 ct4), sl4⟩) (c4 : PySem.W.codeIn K cd4 "Run.go" = true) (k4 : PySem.W.keepIn K (.ref f4) = true)
    {f5 : Addr} {od5 an5 : Option Addr} {sl5 : Array (Option Value)} {oc5 kV5 dc5 pm5 cd5 ct5 : Value}
    (a5 : PySem.W.nsIn K mainGlobals "run_program" = some (some (.ref f5))) (l5 : K.lookup f5 = some ⟨oc5, od5, .func (PySem.W.fnOf "run_program" "run_program" (defArgs s_run_program) (defBody s_run_program) (defScope s_run_program) .none kV5 dc5 pm5 an5 cd5 ct5), sl5⟩) (c5 : PySem.W.codeIn K cd5 "run_program" = true) (k5 : PySem.W.keepIn K (.ref f5) = true)
    {f6 : Addr} {od6 an6 : Option Addr} {sl6 : Array (Option Value)} {oc6 kV6 dc6 pm6 cd6 ct6 : Value}
    (a6 : PySem.W.nsIn K mainGlobals "_law_cell_at" = some (some (.ref f6))) (l6 : K.lookup f6 = some ⟨oc6, od6, .func (PySem.W.fnOf "_law_cell_at" "_law_cell_at" (defArgs s_law_cell_at) (defBody s_law_cell_at) (defScope s_law_cell_at) .none kV6 dc6 pm6 an6 cd6 ct6), sl6⟩) (c6 : PySem.W.codeIn K cd6 "_law_cell_at" = true) (k6 : PySem.W.keepIn K (.ref f6) = true)
    {f7 : Addr} {od7 an7 : Option Addr} {sl7 : Array (Option Value)} {oc7 kV7 dc7 pm7 cd7 ct7 : Value}
    (a7 : PySem.W.nsIn K mainGlobals "_law_mixed" = some (some (.ref f7))) (l7 : K.lookup f7 = some ⟨oc7, od7, .func (PySem.W.fnOf "_law_mixed" "_law_mixed" (defArgs s_law_mixed) (defBody s_law_mixed) (defScope s_law_mixed) .none kV7 dc7 pm7 an7 cd7 ct7), sl7⟩) (c7 : PySem.W.codeIn K cd7 "_law_mixed" = true) (k7 : PySem.W.keepIn K (.ref f7) = true)
    {f8 : Addr} {od8 an8 : Option Addr} {sl8 : Array (Option Value)} {oc8 kV8 dc8 pm8 cd8 ct8 : Value}
    (a8 : PySem.W.nsIn K mainGlobals "_law_box" = some (some (.ref f8))) (l8 : K.lookup f8 = some ⟨oc8, od8, .func (PySem.W.fnOf "_law_box" "_law_box" (defArgs s_law_box) (defBody s_law_box) (defScope s_law_box) .none kV8 dc8 pm8 an8 cd8 ct8), sl8⟩) (c8 : PySem.W.codeIn K cd8 "_law_box" = true) (k8 : PySem.W.keepIn K (.ref f8) = true)
    {f9 : Addr} {od9 an9 : Option Addr} {sl9 : Array (Option Value)} {oc9 kV9 dc9 pm9 cd9 ct9 : Value}
    (a9 : PySem.W.nsIn K mainGlobals "_law_take" = some (some (.ref f9))) (l9 : K.lookup f9 = some ⟨oc9, od9, .func (PySem.W.fnOf "_law_take" "_law_take" (defArgs s_law_take) (defBody s_law_take) (defScope s_law_take) .none kV9 dc9 pm9 an9 cd9 ct9), sl9⟩) (c9 : PySem.W.codeIn K cd9 "_law_take" = true) (k9 : PySem.W.keepIn K (.ref f9) = true)
    {f10 : Addr} {od10 an10 : Option Addr} {sl10 : Array (Option Value)} {oc10 kV10 dc10 pm10 cd10 ct10 : Value}
    (a10 : PySem.W.nsIn K mainGlobals "_law_number" = some (some (.ref f10))) (l10 : K.lookup f10 = some ⟨oc10, od10, .func (PySem.W.fnOf "_law_number" "_law_number" (defArgs s_law_number) (defBody s_law_number) (defScope s_law_number) .none kV10 dc10 pm10 an10 cd10 ct10), sl10⟩) (c10 : PySem.W.codeIn K cd10 "_law_number" = true) (k10 : PySem.W.keepIn K (.ref f10) = true)
    {f11 : Addr} {od11 an11 : Option Addr} {sl11 : Array (Option Value)} {oc11 kV11 dc11 pm11 cd11 ct11 : Value}
    (a11 : PySem.W.nsIn K mainGlobals "_law_row" = some (some (.ref f11))) (l11 : K.lookup f11 = some ⟨oc11, od11, .func (PySem.W.fnOf "_law_row" "_law_row" (defArgs s_law_row) (defBody s_law_row) (defScope s_law_row) .none kV11 dc11 pm11 an11 cd11 ct11), sl11⟩) (c11 : PySem.W.codeIn K cd11 "_law_row" = true) (k11 : PySem.W.keepIn K (.ref f11) = true)
    {f12 : Addr} {od12 an12 : Option Addr} {sl12 : Array (Option Value)} {oc12 kV12 dc12 pm12 cd12 ct12 : Value}
    (a12 : PySem.W.nsIn K mainGlobals "_law_lengths" = some (some (.ref f12))) (l12 : K.lookup f12 = some ⟨oc12, od12, .func (PySem.W.fnOf "_law_lengths" "_law_lengths" (defArgs s_law_lengths) (defBody s_law_lengths) (defScope s_law_lengths) .none kV12 dc12 pm12 an12 cd12 ct12), sl12⟩) (c12 : PySem.W.codeIn K cd12 "_law_lengths" = true) (k12 : PySem.W.keepIn K (.ref f12) = true)
    {f13 : Addr} {od13 an13 : Option Addr} {sl13 : Array (Option Value)} {oc13 kV13 dc13 pm13 cd13 ct13 : Value}
    (a13 : PySem.W.nsIn K mainGlobals "_law_program" = some (some (.ref f13))) (l13 : K.lookup f13 = some ⟨oc13, od13, .func (PySem.W.fnOf "_law_program" "_law_program" (defArgs s_law_program) (defBody s_law_program) (defScope s_law_program) .none kV13 dc13 pm13 an13 cd13 ct13), sl13⟩) (c13 : PySem.W.codeIn K cd13 "_law_program" = true) (k13 : PySem.W.keepIn K (.ref f13) = true)
    {f14 : Addr} {od14 an14 : Option Addr} {sl14 : Array (Option Value)} {oc14 kV14 dc14 pm14 cd14 ct14 : Value}
    (a14 : PySem.W.nsIn K mainGlobals "_law_kept" = some (some (.ref f14))) (l14 : K.lookup f14 = some ⟨oc14, od14, .func (PySem.W.fnOf "_law_kept" "_law_kept" (defArgs s_law_kept) (defBody s_law_kept) (defScope s_law_kept) .none kV14 dc14 pm14 an14 cd14 ct14), sl14⟩) (c14 : PySem.W.codeIn K cd14 "_law_kept" = true) (k14 : PySem.W.keepIn K (.ref f14) = true)
    {f15 : Addr} {od15 an15 : Option Addr} {sl15 : Array (Option Value)} {oc15 kV15 dc15 pm15 cd15 ct15 : Value}
    (a15 : PySem.W.nsIn K mainGlobals "_law_room" = some (some (.ref f15))) (l15 : K.lookup f15 = some ⟨oc15, od15, .func (PySem.W.fnOf "_law_room" "_law_room" (defArgs s_law_room) (defBody s_law_room) (defScope s_law_room) .none kV15 dc15 pm15 an15 cd15 ct15), sl15⟩) (c15 : PySem.W.codeIn K cd15 "_law_room" = true) (k15 : PySem.W.keepIn K (.ref f15) = true)
    {f16 : Addr} {od16 an16 : Option Addr} {sl16 : Array (Option Value)} {oc16 kV16 dc16 pm16 cd16 ct16 : Value}
    (a16 : PySem.W.nsIn K mainGlobals "_law_parts" = some (some (.ref f16))) (l16 : K.lookup f16 = some ⟨oc16, od16, .func (PySem.W.fnOf "_law_parts" "_law_parts" (defArgs s_law_parts) (defBody s_law_parts) (defScope s_law_parts) .none kV16 dc16 pm16 an16 cd16 ct16), sl16⟩) (c16 : PySem.W.codeIn K cd16 "_law_parts" = true) (k16 : PySem.W.keepIn K (.ref f16) = true)
    {f17 : Addr} {od17 an17 : Option Addr} {sl17 : Array (Option Value)} {oc17 kV17 dc17 pm17 cd17 ct17 : Value}
    (a17 : PySem.W.nsIn K mainGlobals "_law_value" = some (some (.ref f17))) (l17 : K.lookup f17 = some ⟨oc17, od17, .func (PySem.W.fnOf "_law_value" "_law_value" (defArgs s_law_value) (defBody s_law_value) (defScope s_law_value) .none kV17 dc17 pm17 an17 cd17 ct17), sl17⟩) (c17 : PySem.W.codeIn K cd17 "_law_value" = true) (k17 : PySem.W.keepIn K (.ref f17) = true)
    {f18 : Addr} {od18 an18 : Option Addr} {sl18 : Array (Option Value)} {oc18 kV18 dc18 pm18 cd18 ct18 : Value}
    (a18 : PySem.W.nsIn K mainGlobals "_law_of_sort" = some (some (.ref f18))) (l18 : K.lookup f18 = some ⟨oc18, od18, .func (PySem.W.fnOf "_law_of_sort" "_law_of_sort" (defArgs s_law_of_sort) (defBody s_law_of_sort) (defScope s_law_of_sort) .none kV18 dc18 pm18 an18 cd18 ct18), sl18⟩) (c18 : PySem.W.codeIn K cd18 "_law_of_sort" = true) (k18 : PySem.W.keepIn K (.ref f18) = true)
    {f19 : Addr} {od19 an19 : Option Addr} {sl19 : Array (Option Value)} {oc19 kV19 dc19 pm19 cd19 ct19 : Value}
    (a19 : PySem.W.nsIn K mainGlobals "_law_step" = some (some (.ref f19))) (l19 : K.lookup f19 = some ⟨oc19, od19, .func (PySem.W.fnOf "_law_step" "_law_step" (defArgs s_law_step) (defBody s_law_step) (defScope s_law_step) .none kV19 dc19 pm19 an19 cd19 ct19), sl19⟩) (c19 : PySem.W.codeIn K cd19 "_law_step" = true) (k19 : PySem.W.keepIn K (.ref f19) = true)
    {f20 : Addr} {od20 an20 : Option Addr} {sl20 : Array (Option Value)} {oc20 kV20 dc20 pm20 cd20 ct20 : Value}
    (a20 : PySem.W.nsIn K mainGlobals "_law_sizes" = some (some (.ref f20))) (l20 : K.lookup f20 = some ⟨oc20, od20, .func (PySem.W.fnOf "_law_sizes" "_law_sizes" (defArgs s_law_sizes) (defBody s_law_sizes) (defScope s_law_sizes) .none kV20 dc20 pm20 an20 cd20 ct20), sl20⟩) (c20 : PySem.W.codeIn K cd20 "_law_sizes" = true) (k20 : PySem.W.keepIn K (.ref f20) = true)
    {f21 : Addr} {od21 an21 : Option Addr} {sl21 : Array (Option Value)} {oc21 kV21 dc21 pm21 cd21 ct21 : Value}
    (a21 : PySem.W.nsIn K mainGlobals "_law_odd" = some (some (.ref f21))) (l21 : K.lookup f21 = some ⟨oc21, od21, .func (PySem.W.fnOf "_law_odd" "_law_odd" (defArgs s_law_odd) (defBody s_law_odd) (defScope s_law_odd) .none kV21 dc21 pm21 an21 cd21 ct21), sl21⟩) (c21 : PySem.W.codeIn K cd21 "_law_odd" = true) (k21 : PySem.W.keepIn K (.ref f21) = true)
    {f22 : Addr} {od22 an22 : Option Addr} {sl22 : Array (Option Value)} {oc22 kV22 dc22 pm22 cd22 ct22 : Value}
    (a22 : PySem.W.nsIn K mainGlobals "_law_first" = some (some (.ref f22))) (l22 : K.lookup f22 = some ⟨oc22, od22, .func (PySem.W.fnOf "_law_first" "_law_first" (defArgs s_law_first) (defBody s_law_first) (defScope s_law_first) .none kV22 dc22 pm22 an22 cd22 ct22), sl22⟩) (c22 : PySem.W.codeIn K cd22 "_law_first" = true) (k22 : PySem.W.keepIn K (.ref f22) = true)
    {f23 : Addr} {od23 an23 : Option Addr} {sl23 : Array (Option Value)} {oc23 kV23 dc23 pm23 cd23 ct23 : Value}
    (a23 : PySem.W.nsIn K mainGlobals "_law_refused" = some (some (.ref f23))) (l23 : K.lookup f23 = some ⟨oc23, od23, .func (PySem.W.fnOf "_law_refused" "_law_refused" (defArgs s_law_refused) (defBody s_law_refused) (defScope s_law_refused) .none kV23 dc23 pm23 an23 cd23 ct23), sl23⟩) (c23 : PySem.W.codeIn K cd23 "_law_refused" = true) (k23 : PySem.W.keepIn K (.ref f23) = true)
    {f24 : Addr} {od24 an24 : Option Addr} {sl24 : Array (Option Value)} {oc24 kV24 dc24 pm24 cd24 ct24 : Value}
    (a24 : PySem.W.nsIn K mainGlobals "law" = some (some (.ref f24))) (l24 : K.lookup f24 = some ⟨oc24, od24, .func (PySem.W.fnOf "law" "law" (defArgs s_law) (defBody s_law) (defScope s_law) .none kV24 dc24 pm24 an24 cd24 ct24), sl24⟩) (c24 : PySem.W.codeIn K cd24 "law" = true) (k24 : PySem.W.keepIn K (.ref f24) = true)
    (z_ValueError : PySem.W.nsIn K mainGlobals "ValueError" = some none)
    (z_abs : PySem.W.nsIn K mainGlobals "abs" = some none)
    (z_all : PySem.W.nsIn K mainGlobals "all" = some none)
    (z_bool : PySem.W.nsIn K mainGlobals "bool" = some none)
    (z_enumerate : PySem.W.nsIn K mainGlobals "enumerate" = some none)
    (z_int : PySem.W.nsIn K mainGlobals "int" = some none)
    (z_isinstance : PySem.W.nsIn K mainGlobals "isinstance" = some none)
    (z_len : PySem.W.nsIn K mainGlobals "len" = some none)
    (z_list : PySem.W.nsIn K mainGlobals "list" = some none)
    (z_max : PySem.W.nsIn K mainGlobals "max" = some none)
    (z_min : PySem.W.nsIn K mainGlobals "min" = some none)
    (z_range : PySem.W.nsIn K mainGlobals "range" = some none)
    (z_sorted : PySem.W.nsIn K mainGlobals "sorted" = some none)
    (z_sum : PySem.W.nsIn K mainGlobals "sum" = some none)
    {t_ROWS : Value} (g_ROWS : PySem.W.nsIn K mainGlobals "ROWS" = some (some t_ROWS)) (v_ROWS : KV K (.ro true [(.str "left"), (.str "right")]) t_ROWS)
    (gc_TimesError : PySem.W.nsIn K mainGlobals "TimesError" = some (some (.ref cv_TimesError)))
    (gc_BadStep : PySem.W.nsIn K mainGlobals "BadStep" = some (some (.ref cv_BadStep)))
    (gc_BadRow : PySem.W.nsIn K mainGlobals "BadRow" = some (some (.ref cv_BadRow)))
    (gc_NoFlip : PySem.W.nsIn K mainGlobals "NoFlip" = some (some (.ref cv_NoFlip)))
    (xm_BadStep_TimesError : PySem.W.exmOne K (.ref cv_BadStep) (.ref cv_TimesError) = some true)
    (ka_BadStep_NoFlip_BadRow : PySem.W.kitAny K (.ref cv_BadStep) [(.ref cv_NoFlip), (.ref cv_BadRow)] = some false)
    (ki_BadStep_ValueError : PySem.W.kitOne K (.ref cv_BadStep) (.type "ValueError") = some true)
    (ki_BadStep_BadStep : PySem.W.kitOne K (.ref cv_BadStep) (.ref cv_BadStep) = some true)
    {xnm_BadStep xqn_BadStep : Str} {xN_BadStep : Addr} {xbs_BadStep xbm_BadStep : List Value} {xsn_BadStep : List Str} {xsub_BadStep : List Value} {xab_BadStep : Bool} {xcol_BadStep : Option Bool} {xdd_BadStep : Option Addr} {x0_BadStep x1_BadStep x2_BadStep x3_BadStep x5_BadStep : Option Value}
    (xl_BadStep : K.lookup cv_BadStep = some (excClassObj xnm_BadStep xqn_BadStep cv_BadStep xN_BadStep xbs_BadStep xbm_BadStep true xsn_BadStep xsub_BadStep xab_BadStep xcol_BadStep xdd_BadStep x0_BadStep x1_BadStep x2_BadStep x3_BadStep x5_BadStep "ValueError.__new__"))
    (xr_BadStep : PySem.HandSPX.refsVE xbm_BadStep = true)
    (xs_BadStep : PySem.W.findIn K (.ref cv_BadStep) "__setattr__" = some (some (.builtin "object.__setattr__")))
    (xb_BadStep : PySem.W.subIn K (.ref cv_BadStep) (.type "BaseException") = some true)
    (xy_BadStep : PySem.W.typeIn K (.ref cv_BadStep) = some (.type "type"))
    (xp_BadStep : PySem.W.keepIn K (.ref cv_BadStep) = true)
    (xn_BadStep : PySem.W.findIn K (.ref cv_BadStep) "step" = some none)
    (xtr_TimesError : PySem.W.readsIn K cv_TimesError (.type "type") = true)
    (xtf_TimesError : PySem.W.findCls K (.ref cv_TimesError) (.type "type") "__init__" = some (.val (.builtin "ValueError.__init__")))
    (xts_TimesError : PySem.W.specialIn K (.ref cv_TimesError) "__getattribute__" = some (some (.builtin "type.__getattribute__")))
    (xkn_BadStep : PySem.W.findIn K (.ref cv_BadStep) "step" = some none)
    (xehg_BadStep : PySem.W.findIn K (.ref cv_BadStep) "__getattribute__" = some (some (.builtin "BaseException.__getattribute__")))
    (xehk_BadStep : PySem.W.findIn K (.ref cv_BadStep) "__getattr__" = some none)
    (xehs_BadStep : PySem.W.subIn K (.ref cv_BadStep) (.type "BaseException") = some true)
    (xehd_BadStep : PySem.W.hasDictIn K cv_BadStep = true)
    (xeha_BadStep : PySem.W.findIn K (.ref cv_BadStep) "__class__" = some (some (.builtin "object.__class__")))
    (xehn_BadStep : PySem.W.specialIn K (.builtin "object.__class__") "__get__" = some (some (.builtin "getset_descriptor.__get__")))
    (xeht_BadStep : PySem.W.takesIn K (.builtin "object.__class__") = some true)
    (xehm_BadStep : PySem.W.mroIn K cv_BadStep (.type "object") = some true)
    : ∃ fd : FuncData, (∀ (s : Shared) (v : Value), BindsTo s fd ⟨[v], []⟩ [("_law_script", v)]) ∧ ∀ base : Heap, K.In base → base.Ns mainGlobals mg → FnOk l.prog w K mg base (L2.CX l.prog w) 8 fa fd ["_law_script"] (FnD K 1 [] r_law) := by
  have e := hfa.symm.trans (PySem.W.mg_of X G a24)
  cases e
  have F0 := fun_mk (st := s_BadStep_init) l0 c0 k0
  have B0 := F0.binds (ps := ["self", "step"]) fun _ _ _ _ _ _ us hl => match us, hl with | [_, _], _ => rfl
  have F1 := fun_mk (st := s_rooms_read) l1 c1 k1
  have B1 := F1.binds (ps := ["step"]) fun _ _ _ _ _ _ us hl => match us, hl with | [_], _ => rfl
  have F2 := fun_mk (st := s_is_doable) l2 c2 k2
  have B2 := F2.binds (ps := ["step", "held", "told", "lengths"]) fun _ _ _ _ _ _ us hl => match us, hl with | [_, _, _, _], _ => rfl
  have F3 := fun_mk (st := s_Run_init) l3 c3 k3
  have B3 := F3.binds (ps := ["self", "one", "other"]) fun _ _ _ _ _ _ us hl => match us, hl with | [_, _, _], _ => rfl
  have F4 := fun_mk (st := s_Run_go) l4 c4 k4
  have B4 := F4.binds (ps := ["self", "step"]) fun _ _ _ _ _ _ us hl => match us, hl with | [_, _], _ => rfl
  have F5 := fun_mk (st := s_run_program) l5 c5 k5
  have B5 := F5.binds (ps := ["program", "one", "other", "many"]) fun _ _ _ _ _ _ us hl => match us, hl with | [_, _, _, _], _ => rfl
  have F6 := fun_mk (st := s_law_cell_at) l6 c6 k6
  have B6 := F6.binds (ps := ["_law_script", "_law_k"]) fun _ _ _ _ _ _ us hl => match us, hl with | [_, _], _ => rfl
  have F7 := fun_mk (st := s_law_mixed) l7 c7 k7
  have B7 := F7.binds (ps := ["_law_number_here", "_law_k"]) fun _ _ _ _ _ _ us hl => match us, hl with | [_, _], _ => rfl
  have F8 := fun_mk (st := s_law_box) l8 c8 k8
  have B8 := F8.binds (ps := ["_law_script", "_law_k"]) fun _ _ _ _ _ _ us hl => match us, hl with | [_, _], _ => rfl
  have F9 := fun_mk (st := s_law_take) l9 c9 k9
  have B9 := F9.binds (ps := ["_law_box_here", "_law_many"]) fun _ _ _ _ _ _ us hl => match us, hl with | [_, _], _ => rfl
  have F10 := fun_mk (st := s_law_number) l10 c10 k10
  have B10 := F10.binds (ps := ["_law_box_here"]) fun _ _ _ _ _ _ us hl => match us, hl with | [_], _ => rfl
  have F11 := fun_mk (st := s_law_row) l11 c11 k11
  have B11 := F11.binds (ps := ["_law_box_here", "_law_length"]) fun _ _ _ _ _ _ us hl => match us, hl with | [_, _], _ => rfl
  have F12 := fun_mk (st := s_law_lengths) l12 c12 k12
  have B12 := F12.binds (ps := ["_law_box_here", "_law_most"]) fun _ _ _ _ _ _ us hl => match us, hl with | [_, _], _ => rfl
  have F13 := fun_mk (st := s_law_program) l13 c13 k13
  have B13 := F13.binds (ps := ["_law_box_here", "_law_lengths_here", "_law_size", "_law_sorts"]) fun _ _ _ _ _ _ us hl => match us, hl with | [_, _, _, _], _ => rfl
  have F14 := fun_mk (st := s_law_kept) l14 c14 k14
  have B14 := F14.binds (ps := ["_law_step_here", "_law_held", "_law_told"]) fun _ _ _ _ _ _ us hl => match us, hl with | [_, _, _], _ => rfl
  have F15 := fun_mk (st := s_law_room) l15 c15 k15
  have B15 := F15.binds (ps := ["_law_box_here"]) fun _ _ _ _ _ _ us hl => match us, hl with | [_], _ => rfl
  have F16 := fun_mk (st := s_law_parts) l16 c16 k16
  have B16 := F16.binds (ps := ["_law_box_here", "_law_length"]) fun _ _ _ _ _ _ us hl => match us, hl with | [_, _], _ => rfl
  have F17 := fun_mk (st := s_law_value) l17 c17 k17
  have B17 := F17.binds (ps := ["_law_box_here"]) fun _ _ _ _ _ _ us hl => match us, hl with | [_], _ => rfl
  have F18 := fun_mk (st := s_law_of_sort) l18 c18 k18
  have B18 := F18.binds (ps := ["_law_held", "_law_sort", "_law_sorts"]) fun _ _ _ _ _ _ us hl => match us, hl with | [_, _, _], _ => rfl
  have F19 := fun_mk (st := s_law_step) l19 c19 k19
  have B19 := F19.binds (ps := ["_law_box_here", "_law_lengths_here", "_law_held", "_law_told", "_law_sorts"]) fun _ _ _ _ _ _ us hl => match us, hl with | [_, _, _, _, _], _ => rfl
  have F20 := fun_mk (st := s_law_sizes) l20 c20 k20
  have B20 := F20.binds (ps := ["_law_box_here"]) fun _ _ _ _ _ _ us hl => match us, hl with | [_], _ => rfl
  have F21 := fun_mk (st := s_law_odd) l21 c21 k21
  have B21 := F21.binds (ps := ["_law_box_here", "_law_lengths_here"]) fun _ _ _ _ _ _ us hl => match us, hl with | [_, _], _ => rfl
  have F22 := fun_mk (st := s_law_first) l22 c22 k22
  have B22 := F22.binds (ps := ["_law_program_here", "_law_lengths_here"]) fun _ _ _ _ _ _ us hl => match us, hl with | [_, _], _ => rfl
  have F23 := fun_mk (st := s_law_refused) l23 c23 k23
  have B23 := F23.binds (ps := ["_law_program_here", "_law_lengths_here", "_law_rows"]) fun _ _ _ _ _ _ us hl => match us, hl with | [_, _, _], _ => rfl
  have F24 := fun_mk (st := s_law) l24 c24 k24
  have B24 := F24.binds (ps := ["_law_script"]) fun _ _ _ _ _ _ us hl => match us, hl with | [_], _ => rfl
  exact ⟨_, fun s v => .of_eq rfl, fun base _ _ => A_law (A := ⟨_, _, _, _, _, _, _, _, _, _, _, _, _, _, _, _, _, _, _, _, _, _, _, _, _, _, _, _, _, _, _, _, _, _, _, _, _, _, _, _, _, _, _, _, _, _, _, _, _, _, t_ROWS, cv_BadStep, cv_TimesError, cv_Run, cv_NoFlip, cv_BadRow⟩) ⟨⟨F0, B0⟩, ⟨F1, PySem.W.mg_of X G a1, B1⟩, ⟨F2, PySem.W.mg_of X G a2, B2⟩, ⟨F3, B3⟩, ⟨F4, B4⟩, ⟨F5, PySem.W.mg_of X G a5, B5⟩, ⟨F6, PySem.W.mg_of X G a6, B6⟩, ⟨F7, PySem.W.mg_of X G a7, B7⟩, ⟨F8, PySem.W.mg_of X G a8, B8⟩, ⟨F9, PySem.W.mg_of X G a9, B9⟩, ⟨F10, PySem.W.mg_of X G a10, B10⟩, ⟨F11, PySem.W.mg_of X G a11, B11⟩, ⟨F12, PySem.W.mg_of X G a12, B12⟩, ⟨F13, PySem.W.mg_of X G a13, B13⟩, ⟨F14, PySem.W.mg_of X G a14, B14⟩, ⟨F15, PySem.W.mg_of X G a15, B15⟩, ⟨F16, PySem.W.mg_of X G a16, B16⟩, ⟨F17, PySem.W.mg_of X G a17, B17⟩, ⟨F18, PySem.W.mg_of X G a18, B18⟩, ⟨F19, PySem.W.mg_of X G a19, B19⟩, ⟨F20, PySem.W.mg_of X G a20, B20⟩, ⟨F21, PySem.W.mg_of X G a21, B21⟩, ⟨F22, PySem.W.mg_of X G a22, B22⟩, ⟨F23, PySem.W.mg_of X G a23, B23⟩, ⟨F24, PySem.W.mg_of X G a24, B24⟩, ⟨⟨⟨_, _, _, _, _, _, _, _, _, _, _, _, _, _, _, xl_BadStep, xr_BadStep⟩, xs_BadStep, xb_BadStep, xy_BadStep, xp_BadStep⟩, xn_BadStep, a0, fn_ty i0⟩, ⟨xtr_TimesError, xtf_TimesError, xts_TimesError⟩, ⟨pg_Run, hd_Run, po_Run, sa_Run⟩, na_Run_held, na_Run_most, na_Run_rows, na_Run_sums, na_Run_times, na_Run_told, ⟨a4, i4, k4⟩, ⟨mkc_Run, a3, i3, kc_Run⟩, ⟨xkn_BadStep, ⟨xehg_BadStep, xehk_BadStep, xehs_BadStep, xehd_BadStep⟩, ⟨xehg_BadStep, xehk_BadStep, xehs_BadStep, xehd_BadStep, xeha_BadStep, xehn_BadStep, xeht_BadStep, xehm_BadStep⟩⟩, PySem.W.mg_none_of X G z_ValueError, PySem.W.mg_none_of X G z_abs, PySem.W.mg_none_of X G z_all, PySem.W.mg_none_of X G z_bool, PySem.W.mg_none_of X G z_enumerate, PySem.W.mg_none_of X G z_int, PySem.W.mg_none_of X G z_isinstance, PySem.W.mg_none_of X G z_len, PySem.W.mg_none_of X G z_list, PySem.W.mg_none_of X G z_max, PySem.W.mg_none_of X G z_min, PySem.W.mg_none_of X G z_range, PySem.W.mg_none_of X G z_sorted, PySem.W.mg_none_of X G z_sum, ⟨PySem.W.mg_of X G g_ROWS, v_ROWS⟩, PySem.W.mg_of X G gc_TimesError, PySem.W.mg_of X G gc_BadStep, PySem.W.mg_of X G gc_Run, PySem.W.mg_of X G gc_BadRow, PySem.W.mg_of X G gc_NoFlip, xm_BadStep_TimesError, ka_BadStep_NoFlip_BadRow, ki_BadStep_ValueError, ki_BadStep_BadStep⟩⟩
end
end K26
open PySem PySem.W PyProof.Rows
set_option maxHeartbeats 0 in
theorem PySem.Challenge.cw_fewtimes_k26_steps_that_can_not_be_done_holds : PySem.Challenge.rw_fewtimes_k26_steps_that_can_not_be_done.Holds := by
  w_on; o_law; k_head; (case hw => w_witness2)
  k_fill
  refine L2.walk_of (l := PySem.Challenge.rw_fewtimes_k26_steps_that_can_not_be_done) (n := 63) (k := 8) (x := "_law_script") (CX := fun w => L2.CX PySem.Challenge.rw_fewtimes_k26_steps_that_can_not_be_done.prog w) (sp := fun w => FL.FnD _ 1 [] K26.r_law) rfl (by decide) rfl ⟨rfl, by decide, by decide⟩ (fun w h Y => PySem.W.kIn_of Y) ?F (fun _ _ a ns hl _ hS => FL.law_end hl hS ⟨ns, rfl, fun _ => rfl⟩) (fun _ _ _ _ _ h => FL.cx_none h)
  case F =>
    intro w mg fa h KX G hmg
    refine' K26.all_mk KX G hmg ?gc_Run ?pg_Run ?hd_Run ?po_Run ?sa_Run ?mkc_Run ?kc_Run ?na_Run_held ?na_Run_most ?na_Run_rows ?na_Run_sums ?na_Run_times ?na_Run_told ?a0 ?i0 ?l0 ?c0 ?k0 ?a1 ?l1 ?c1 ?k1 ?a2 ?l2 ?c2 ?k2 ?a3 ?i3 ?l3 ?c3 ?k3 ?a4 ?i4 ?l4 ?c4 ?k4 ?a5 ?l5 ?c5 ?k5 ?a6 ?l6 ?c6 ?k6 ?a7 ?l7 ?c7 ?k7 ?a8 ?l8 ?c8 ?k8 ?a9 ?l9 ?c9 ?k9 ?a10 ?l10 ?c10 ?k10 ?a11 ?l11 ?c11 ?k11 ?a12 ?l12 ?c12 ?k12 ?a13 ?l13 ?c13 ?k13 ?a14 ?l14 ?c14 ?k14 ?a15 ?l15 ?c15 ?k15 ?a16 ?l16 ?c16 ?k16 ?a17 ?l17 ?c17 ?k17 ?a18 ?l18 ?c18 ?k18 ?a19 ?l19 ?c19 ?k19 ?a20 ?l20 ?c20 ?k20 ?a21 ?l21 ?c21 ?k21 ?a22 ?l22 ?c22 ?k22 ?a23 ?l23 ?c23 ?k23 ?a24 ?l24 ?c24 ?k24 ?z_ValueError ?z_abs ?z_all ?z_bool ?z_enumerate ?z_int ?z_isinstance ?z_len ?z_list ?z_max ?z_min ?z_range ?z_sorted ?z_sum ?g_ROWS ?v_ROWS ?gc_TimesError ?gc_BadStep ?gc_BadRow ?gc_NoFlip ?xm_BadStep_TimesError ?ka_BadStep_NoFlip_BadRow ?ki_BadStep_ValueError ?ki_BadStep_BadStep ?xl_BadStep ?xr_BadStep ?xs_BadStep ?xb_BadStep ?xy_BadStep ?xp_BadStep ?xn_BadStep ?xtr_TimesError ?xtf_TimesError ?xts_TimesError ?xkn_BadStep ?xehg_BadStep ?xehk_BadStep ?xehs_BadStep ?xehd_BadStep ?xeha_BadStep ?xehn_BadStep ?xeht_BadStep ?xehm_BadStep
    (case gc_Run => k_is); (case gc_TimesError => k_is); (case gc_BadStep => k_is); (case gc_BadRow => k_is); (case gc_NoFlip => k_is); (case pg_Run => k_is); (case hd_Run => k_is); (case po_Run => k_is); (case sa_Run => k_is); (case mkc_Run => k_is); (case kc_Run => k_is); (case na_Run_held => k_is); (case na_Run_most => k_is); (case na_Run_rows => k_is); (case na_Run_sums => k_is); (case na_Run_times => k_is); (case na_Run_told => k_is); (case a0 => k_is); (case i0 => k_is); (case l0 => k_is); (case c0 => k_is); (case k0 => k_is); (case a1 => k_is); (case l1 => k_is); (case c1 => k_is); (case k1 => k_is); (case a2 => k_is); (case l2 => k_is); (case c2 => k_is); (case k2 => k_is); (case a3 => k_is); (case i3 => k_is); (case l3 => k_is); (case c3 => k_is); (case k3 => k_is); (case a4 => k_is); (case i4 => k_is); (case l4 => k_is); (case c4 => k_is); (case k4 => k_is); (case a5 => k_is); (case l5 => k_is); (case c5 => k_is); (case k5 => k_is); (case a6 => k_is); (case l6 => k_is); (case c6 => k_is); (case k6 => k_is); (case a7 => k_is); (case l7 => k_is); (case c7 => k_is); (case k7 => k_is); (case a8 => k_is); (case l8 => k_is); (case c8 => k_is); (case k8 => k_is); (case a9 => k_is); (case l9 => k_is); (case c9 => k_is); (case k9 => k_is); (case a10 => k_is); (case l10 => k_is); (case c10 => k_is); (case k10 => k_is); (case a11 => k_is); (case l11 => k_is); (case c11 => k_is); (case k11 => k_is); (case a12 => k_is); (case l12 => k_is); (case c12 => k_is); (case k12 => k_is); (case a13 => k_is); (case l13 => k_is); (case c13 => k_is); (case k13 => k_is); (case a14 => k_is); (case l14 => k_is); (case c14 => k_is); (case k14 => k_is); (case a15 => k_is); (case l15 => k_is); (case c15 => k_is); (case k15 => k_is); (case a16 => k_is); (case l16 => k_is); (case c16 => k_is); (case k16 => k_is); (case a17 => k_is); (case l17 => k_is); (case c17 => k_is); (case k17 => k_is); (case a18 => k_is); (case l18 => k_is); (case c18 => k_is); (case k18 => k_is); (case a19 => k_is); (case l19 => k_is); (case c19 => k_is); (case k19 => k_is); (case a20 => k_is); (case l20 => k_is); (case c20 => k_is); (case k20 => k_is); (case a21 => k_is); (case l21 => k_is); (case c21 => k_is); (case k21 => k_is); (case a22 => k_is); (case l22 => k_is); (case c22 => k_is); (case k22 => k_is); (case a23 => k_is); (case l23 => k_is); (case c23 => k_is); (case k23 => k_is); (case a24 => k_is); (case l24 => k_is); (case c24 => k_is); (case k24 => k_is); (case z_ValueError => k_is); (case z_abs => k_is); (case z_all => k_is); (case z_bool => k_is); (case z_enumerate => k_is); (case z_int => k_is); (case z_isinstance => k_is); (case z_len => k_is); (case z_list => k_is); (case z_max => k_is); (case z_min => k_is); (case z_range => k_is); (case z_sorted => k_is); (case z_sum => k_is); (case g_ROWS => k_is); (case v_ROWS => (refine' FL.KV.mk ?l3 ?z3 ?v3; (case l3 => k_is); (case z3 => decide +kernel); (case v3 => (refine' FL.KVL.cons' ?x2 ?r2; (case x2 => (exact FL.KV.str')); (case r2 => (refine' FL.KVL.cons' ?x1 ?r1; (case x1 => (exact FL.KV.str')); (case r1 => (exact FL.KVL.nil')))))))); (case xm_BadStep_TimesError => kts_exm); (case ka_BadStep_NoFlip_BadRow => kit_is); (case ki_BadStep_ValueError => kit_is); (case ki_BadStep_BadStep => kit_is); (case xl_BadStep => k_is); (case xr_BadStep => decide +kernel); (case xs_BadStep => k_is); (case xb_BadStep => k_is); (case xy_BadStep => k_is); (case xp_BadStep => k_is); (case xn_BadStep => k_is); (case xtr_TimesError => k_is); (case xtf_TimesError => k_is); (case xts_TimesError => k_is); (case xkn_BadStep => k_is); (case xehg_BadStep => k_is); (case xehk_BadStep => k_is); (case xehs_BadStep => k_is); (case xehd_BadStep => k_is); (case xeha_BadStep => k_is); (case xehn_BadStep => k_is); (case xeht_BadStep => k_is); (case xehm_BadStep => k_is)
