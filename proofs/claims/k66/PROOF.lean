import PyProof.Rows.All
import Wide.All
import OpenK.AllK
import Wide.FinOn
import HandS.ForMost
import HandS.ForExc
import HandS.Wide
import HandS.Flow
import HandS.ExcCtx
import KE.KDictKeyed
import HandS.Gcd
import HandS.Style
import HandS.Deep
import HandS.RaiseMore
import HandS.Head0
import HandS.Head1
import HandS.Head2
import HandS.Head3
import HandS.HeadHook1
import KE.DataAny
import KE.SortData
import HandS.Nested
import HandS.ExcInit
import HandS.ExcSuper
import KE.KExcSuper
import KE.KSuper
import HandS.Hot
import HandS.HotCalls
import HandS.ExcIs
import KE.KExcIs
import HandS.ExcField
import HandS.Text
import HandS.Star
import HandS.Conv
import KE.DataFind
import HandS.TryOnly
import KE.GoesComp2
import HandS.SetFor
import HandS.Strs
import KE.DataCmp
import HandS.TupAny
import HandS.More
import HandS.DictComp
import PyProof.SumWalkG
import PyProof.ListOps
import PyProof.Rows.SumAny
import KE.GoesZip
import KE.GoesEnum
import KE.KDictZip
import HandS.Zip
import HandS.WideBits
import PySem.Challenge.RW_bargainstold_k66_errors_of_packing
set_option Elab.async false
set_option linter.all false
set_option maxRecDepth 100000
set_option maxHeartbeats 4000000
/-! Mir: mirrors of defs as plain functions of data, and the rules by which a body's text is mirrored. -/
namespace Mir
open PySem PySem.Spec PyProof.Rows L2

abbrev D := PyData
abbrev St := L2.St

/-! ### what a value stands for -/
def kD : Key → D
  | .inl i => .int i
  | .inr x => .str x
mutual
inductive Rp (K : PySem.W.Frag) (F : Hp) : V → D → Prop
  | non : Rp K F .non .none
  | bl (b : Bool) : Rp K F (.bl b) (.bool b)
  | int (i : Int) : Rp K F (.int i) (.int i)
  | str (x : Str) : Rp K F (.str x) (.str x)
  | lst {a : Addr} {xs : List V} {ds : List D} : F a = some (.lst xs) → RpA K F xs ds → Rp K F (.ref a) (.list ds)
  | tup {a : Addr} {xs : List V} {ds : List D} : SqT K F a xs → RpA K F xs ds → Rp K F (.ref a) (.tuple ds)
  | dct {a : Addr} {o : Obj} {kvs : List (Key × V)} {ds : List (D × D)} : F a = some (.frz o (.dK kvs)) → RpK K F kvs ds → Rp K F (.ref a) (.dict ds)
inductive RpA (K : PySem.W.Frag) (F : Hp) : List V → List D → Prop
  | nil : RpA K F [] []
  | cons {v : V} {vs : List V} {d : D} {ds : List D} : Rp K F v d → RpA K F vs ds → RpA K F (v :: vs) (d :: ds)
inductive RpK (K : PySem.W.Frag) (F : Hp) : List (Key × V) → List (D × D) → Prop
  | nil : RpK K F [] []
  | cons {k : Key} {v : V} {r : List (Key × V)} {d : D} {ds : List (D × D)} : Rp K F v d → RpK K F r ds → RpK K F ((k, v) :: r) ((kD k, d) :: ds)
end

def Le (F F' : Hp) : Prop := ∀ a o, F a = some o → F' a = some o
theorem Le.refl (F : Hp) : Le F F := fun _ _ h => h
theorem Le.trans {F G H : Hp} (a : Le F G) (b : Le G H) : Le F H := fun c o h => b c o (a c o h)
theorem Le.none {F G : Hp} (a : Le F G) {c : Addr} (h : G c = Option.none) : F c = Option.none := by
  cases q : F c with
  | none => rfl
  | some o => rw [a c o q] at h; cases h
theorem Le.upd {F G : Hp} (a : Le F G) {p : Addr} {o : HO} (h : F p = Option.none) : Le F (upd G p o) := fun c u q => by
  rw [upd_ne (ne_of_none q h)]; exact a c u q
theorem Le.sql {K : PySem.W.Frag} {F G : Hp} (e : Le F G) {a : Addr} {xs : List V} (h : SqL K F a xs) : SqL K G a xs := by
  rcases h with (h | ⟨o, h⟩) | h
  · exact .inl (.inl (e _ _ h))
  · exact .inl (.inr ⟨o, e _ _ h⟩)
  · exact .inr h
theorem Le.sqt {K : PySem.W.Frag} {F G : Hp} (e : Le F G) {a : Addr} {xs : List V} (h : SqT K F a xs) : SqT K G a xs := by
  rcases h with (h | ⟨o, h⟩) | h
  · exact .inl (.inl (e _ _ h))
  · exact .inl (.inr ⟨o, e _ _ h⟩)
  · exact .inr h
theorem Le.rd {F G : Hp} (e : Le F G) {a : Addr} {u : HO} (h : Rd F a u) : Rd G a u := by
  rcases h with h | ⟨o, h⟩
  · exact .inl (e _ _ h)
  · exact .inr ⟨o, e _ _ h⟩
mutual
theorem Rp.mono {K : PySem.W.Frag} {F G : Hp} (e : Le F G) : ∀ {v : V} {d : D}, Rp K F v d → Rp K G v d
  | _, _, .non => .non
  | _, _, .bl b => .bl b
  | _, _, .int i => .int i
  | _, _, .str x => .str x
  | _, _, .lst h r => .lst (e _ _ h) (RpA.mono e r)
  | _, _, .tup h r => .tup (e.sqt h) (RpA.mono e r)
  | _, _, .dct h r => .dct (e _ _ h) (RpK.mono e r)
theorem RpA.mono {K : PySem.W.Frag} {F G : Hp} (e : Le F G) : ∀ {vs : List V} {ds : List D}, RpA K F vs ds → RpA K G vs ds
  | _, _, .nil => .nil
  | _, _, .cons h r => .cons (Rp.mono e h) (RpA.mono e r)
theorem RpK.mono {K : PySem.W.Frag} {F G : Hp} (e : Le F G) : ∀ {vs : List (Key × V)} {ds : List (D × D)}, RpK K F vs ds → RpK K G vs ds
  | _, _, .nil => .nil
  | _, _, .cons h r => .cons (Rp.mono e h) (RpK.mono e r)
end
section
variable {K : PySem.W.Frag} {F : Hp}
theorem RpA.length : ∀ {vs : List V} {ds : List D}, RpA K F vs ds → vs.length = ds.length
  | _, _, .nil => rfl
  | _, _, .cons _ r => by rw [List.length_cons, List.length_cons, RpA.length r]
theorem RpA.append : ∀ {vs ws : List V} {ds es : List D}, RpA K F vs ds → RpA K F ws es → RpA K F (vs ++ ws) (ds ++ es)
  | _, _, _, _, .nil, s => s
  | _, _, _, _, .cons h r, s => .cons h (RpA.append r s)
theorem RpA.get : ∀ {vs : List V} {ds : List D} {i : Nat} {v : V}, RpA K F vs ds → vs[i]? = some v → ∃ d, ds[i]? = some d ∧ Rp K F v d
  | _, _, _, _, .nil, e => by simp at e
  | _, _, 0, _, .cons h _, e => by simp at e; subst e; exact ⟨_, rfl, h⟩
  | _, _, i + 1, _, .cons _ r, e => by
    obtain ⟨d, h1, h2⟩ := RpA.get (i := i) r (by simpa using e)
    exact ⟨d, by simpa using h1, h2⟩
theorem RpA.getD : ∀ {vs : List V} {ds : List D} {i : Nat} {d : D}, RpA K F vs ds → ds[i]? = some d → ∃ v, vs[i]? = some v ∧ Rp K F v d
  | _, _, _, _, .nil, e => by simp at e
  | _, _, 0, _, .cons h _, e => by simp at e; subst e; exact ⟨_, rfl, h⟩
  | _, _, i + 1, _, .cons _ r, e => by
    obtain ⟨d, h1, h2⟩ := RpA.getD (i := i) r (by simpa using e)
    exact ⟨d, by simpa using h1, h2⟩
theorem RpA.set : ∀ {vs : List V} {ds : List D} (i : Nat) {v : V} {d : D}, RpA K F vs ds → Rp K F v d → RpA K F (vs.set i v) (ds.set i d)
  | _, _, _, _, _, .nil, _ => .nil
  | _, _, 0, _, _, .cons _ r, q => .cons q r
  | _, _, i + 1, _, _, .cons h r, q => .cons h (RpA.set i r q)
theorem RpA.take : ∀ {vs : List V} {ds : List D} (n : Nat), RpA K F vs ds → RpA K F (vs.take n) (ds.take n)
  | _, _, 0, _ => .nil
  | _, _, _ + 1, .nil => .nil
  | _, _, n + 1, .cons h r => .cons h (RpA.take n r)
theorem RpA.drop : ∀ {vs : List V} {ds : List D} (n : Nat), RpA K F vs ds → RpA K F (vs.drop n) (ds.drop n)
  | _, _, 0, r => r
  | _, _, _ + 1, .nil => .nil
  | _, _, n + 1, .cons _ r => RpA.drop n r
theorem RpA.reverse : ∀ {vs : List V} {ds : List D}, RpA K F vs ds → RpA K F vs.reverse ds.reverse
  | _, _, .nil => .nil
  | _, _, .cons h r => by
    rw [List.reverse_cons, List.reverse_cons]
    exact RpA.append (RpA.reverse r) (.cons h .nil)
theorem RpA.ints : ∀ (ns : List Int), RpA K F (ns.map V.int) (ns.map PyData.int)
  | [] => .nil
  | n :: r => .cons (.int n) (RpA.ints r)
/-- as the layer's own reading, where no dict stands -/
theorem Rp.inv_int {v : V} {i : Int} (h : Rp K F v (.int i)) : v = .int i := by cases h; rfl
theorem Rp.inv_bool {v : V} {b : Bool} (h : Rp K F v (.bool b)) : v = .bl b := by cases h; rfl
theorem Rp.inv_str {v : V} {x : Str} (h : Rp K F v (.str x)) : v = .str x := by cases h; rfl
theorem Rp.inv_none {v : V} (h : Rp K F v .none) : v = .non := by cases h; rfl
theorem Rp.inv_list {v : V} {ds : List D} (h : Rp K F v (.list ds)) : ∃ a xs, v = .ref a ∧ F a = some (.lst xs) ∧ RpA K F xs ds := by
  cases h with
  | lst a b => exact ⟨_, _, rfl, a, b⟩
theorem Rp.inv_tup {v : V} {ds : List D} (h : Rp K F v (.tuple ds)) : ∃ a xs, v = .ref a ∧ SqT K F a xs ∧ RpA K F xs ds := by
  cases h with
  | tup a b => exact ⟨_, _, rfl, a, b⟩
theorem Rp.inv_dict {v : V} {ds : List (D × D)} (h : Rp K F v (.dict ds)) : ∃ a o kvs, v = .ref a ∧ F a = some (.frz o (.dK kvs)) ∧ RpK K F kvs ds := by
  cases h with
  | dct a b => exact ⟨_, _, _, rfl, a, b⟩
end
mutual
theorem Rp.dp {K : PySem.W.Frag} {F : Hp} : ∀ (d : D) {v : V}, d.canLay0 = true → Rp K F v d → Dp K F v d
  | .none, _, _, h => by cases h; exact .non
  | .bool b, _, _, h => by cases h; exact .bl b
  | .int i, _, _, h => by cases h; exact .int i
  | .str x, _, _, h => by cases h; exact .str x
  | .list ds, _, c, h => by
    cases h with
    | lst a b => exact .lst (.inl (.inl a)) (RpA.dp ds (by simpa [PyData.canLay0] using c) b)
  | .tuple ds, _, c, h => by
    cases h with
    | tup a b => exact .tup a (RpA.dp ds (by simpa [PyData.canLay0] using c) b)
  | .dict ds, _, c, h => by simp [PyData.canLay0] at c
theorem RpA.dp {K : PySem.W.Frag} {F : Hp} : ∀ (ds : List D) {vs : List V}, PyData.canLayAll0 ds = true → RpA K F vs ds → DpAll K F vs ds
  | [], _, _, h => by cases h; exact .nil
  | d :: ds, _, c, h => by
    cases h with
    | cons a b =>
      have c' : d.canLay0 = true ∧ PyData.canLayAll0 ds = true := by simpa [PyData.canLayAll0] using c
      exact .cons (Rp.dp d c'.1 a) (RpA.dp ds c'.2 b)
end

/-! ### the frozen part and the heap grow -/
structure Ext (F H F' H' : Hp) : Prop where
  le : Le F F'
  sub : Le F' H'
  keep : Le H H'
  new : ∀ a o, F' a = some o → F a = some o ∨ H a = none
theorem Ext.refl {F H : Hp} (s : Le F H) : Ext F H F H := ⟨Le.refl _, s, Le.refl _, fun _ _ h => .inl h⟩
theorem Ext.trans {F H F1 H1 F2 H2 : Hp} (a : Ext F H F1 H1) (b : Ext F1 H1 F2 H2) : Ext F H F2 H2 where
  le := a.le.trans b.le
  sub := b.sub
  keep := a.keep.trans b.keep
  new := fun c o h => by
    rcases b.new c o h with q | q
    · exact a.new c o q
    · exact .inr (a.keep.none q)
/-- a new object, not frozen -/
theorem Ext.grow {F H : Hp} (s : Le F H) {p : Addr} {o : HO} (h : H p = none) : Ext F H F (upd H p o) :=
  ⟨Le.refl _, s.upd (s.none h), (Le.refl H).upd h, fun _ _ h => .inl h⟩
/-- what is new is frozen -/
theorem Ext.freeze {F H F' H' : Hp} (e : Ext F H F' H') {p : Addr} {o : HO} (h : H p = none) (h' : H' p = some o) (hf : F' p = none) : Ext F H (upd F' p o) H' where
  le := e.le.upd (e.le.none hf)
  sub := fun a u q => by
    by_cases z : a = p
    · subst z; rw [upd_same] at q; cases q; exact h'
    · rw [upd_ne z] at q; exact e.sub a u q
  keep := e.keep
  new := fun a u q => by
    by_cases z : a = p
    · subst z; exact .inr h
    · rw [upd_ne z] at q; exact e.new a u q

/-! ### results -/
inductive R (α : Type) where
  | ok (a : α)
  | ex (c : String) (n : Int)
  | no
def R.bind {α β : Type} (r : R α) (f : α → R β) : R β := match r with
  | .ok a => f a
  | .ex c n => .ex c n
  | .no => .no
def ofO {α : Type} : Option α → R α
  | some a => .ok a
  | none => .no
/-- nothing may be raised here -/
def R.calm {α : Type} : R α → R α
  | .ok a => .ok a
  | _ => .no
@[simp] theorem R.bind_ok {α β : Type} (a : α) (f : α → R β) : (R.ok a).bind f = f a := rfl
@[simp] theorem R.bind_no {α β : Type} (f : α → R β) : (R.no).bind f = .no := rfl
@[simp] theorem R.bind_ex {α β : Type} (c : String) (n : Int) (f : α → R β) : (R.ex c n).bind f = .ex c n := rfl
@[simp] theorem ofO_some {α : Type} (a : α) : ofO (some a) = .ok a := id rfl
@[simp] theorem R.calm_ok {α : Type} (a : α) : (R.ok a).calm = .ok a := rfl
theorem R.bind_assoc {α β γ : Type} (r : R α) (f : α → R β) (g : β → R γ) : (r.bind f).bind g = r.bind fun a => (f a).bind g := by
  cases r <;> rfl

/-! ### a memo: a dict whose keys are tuples of whole numbers and such tuples -/
mutual
def numK : NestedKey → Bool
  | .none => false
  | .num _ => true
  | .text _ => false
  | .tup ks => numKs ks
def numKs : List NestedKey → Bool
  | [] => true
  | k :: ks => numK k && numKs ks
end
mutual
def hzK : NestedKey → Int
  | .none => 0
  | .num i => hashInt i
  | .text _ => 0
  | .tup ks => reduceHash (Builtin.Tuple.tupleHashOf (hzKs ks))
def hzKs : List NestedKey → List Int
  | [] => []
  | k :: ks => hzK k :: hzKs ks
end
mutual
theorem hz_eq (w : World) : ∀ k : NestedKey, numK k = true → k.hash w = hzK k
  | .none, h => by simp [numK] at h
  | .num i, _ => by simp only [NestedKey.hash, hzK]
  | .text _, h => by simp [numK] at h
  | .tup ks, h => by
    simp only [NestedKey.hash, hzK]
    rw [hz_eqs w ks (by simpa [numK] using h)]
theorem hz_eqs (w : World) : ∀ ks : List NestedKey, numKs ks = true → NestedKey.hashes w ks = hzKs ks
  | [], _ => by simp only [NestedKey.hashes, hzKs]
  | k :: ks, h => by
    have h : numK k = true ∧ numKs ks = true := by simpa [numKs] using h
    simp only [NestedKey.hashes, hzKs]
    rw [hz_eq w k h.1, hz_eqs w ks h.2]
end
/-- the object at a is a dict with these entries -/
def TbAt (a : Addr) (es : List (NestedKey × Addr × Value)) (h : Heap) : Prop := ∃ (o : Obj) (ea : Array DictEntry) (ep : Nat), h.get? a = some o ∧ o.ExactDict ∧ o.data = .dict ea ep ∧ ea.toList = es.map fun x => ⟨hzK x.1, .ref x.2.1, x.2.2⟩
def mapO {α β : Type} (f : α → Option β) : List α → Option (List β)
  | [] => some []
  | x :: xs => match f x with
    | some y => match mapO f xs with
      | some ys => some (y :: ys)
      | none => none
    | none => none
/-- a datum as such a key -/
def nkD : Nat → D → Option NestedKey
  | 0, _ => none
  | n + 1, d => match d with
    | .int i => some (.num i)
    | .tuple ds => match mapO (nkD n) ds with
      | some ks => some (.tup ks)
      | none => none
    | _ => none
theorem mapO_ok {f : D → Option NestedKey} {n : Nat} (hf : ∀ d k, f d = some k → numK k = true ∧ k.depth ≤ n ∧ k.data = d) : ∀ {ds : List D} {ks : List NestedKey}, mapO f ds = some ks → numKs ks = true ∧ NestedKey.depthAll ks ≤ n ∧ NestedKey.datas ks = ds
  | [], ks, h => by
    cases h
    exact ⟨by simp [numKs], by simp [NestedKey.depthAll], by simp [NestedKey.datas]⟩
  | d :: ds, ks, h => by
    simp only [mapO] at h
    cases e1 : f d with
    | none => rw [e1] at h; cases h
    | some y =>
      rw [e1] at h
      simp only at h
      cases e2 : mapO f ds with
      | none => rw [e2] at h; cases h
      | some ys =>
        rw [e2] at h
        simp only at h
        cases h
        obtain ⟨a1, a2, a3⟩ := hf d y e1
        obtain ⟨b1, b2, b3⟩ := mapO_ok hf e2
        refine ⟨by simp [numKs, a1, b1], ?_, by simp [NestedKey.datas, a3, b3]⟩
        simp only [NestedKey.depthAll]
        exact Nat.max_le.mpr ⟨a2, b2⟩
theorem nkD_ok : ∀ (n : Nat) (d : D) (k : NestedKey), nkD n d = some k → numK k = true ∧ k.depth ≤ n ∧ k.data = d := by
  intro n
  induction n with
  | zero => intro d k h; cases h
  | succ n ih =>
    intro d k h
    cases d with
    | int i => cases h; exact ⟨by simp [numK], by simp [NestedKey.depth], by simp [NestedKey.data]⟩
    | tuple ds =>
      simp only [nkD] at h
      cases e : mapO (nkD n) ds with
      | none => rw [e] at h; cases h
      | some ks =>
        rw [e] at h
        simp only at h
        cases h
        obtain ⟨a1, a2, a3⟩ := mapO_ok ih e
        refine ⟨by simpa [numK] using a1, ?_, by simp [NestedKey.data, a3]⟩
        simp only [NestedKey.depth]
        omega
    | _ => cases h
structure TbRel (K : PySem.W.Frag) (F : Hp) (p : D × D) (x : NestedKey × Addr × Value) : Prop where
  nk : nkD 8 p.1 = some x.1
  kr : Rp K F (.ref x.2.1) p.1
  val : ∃ v, RelV v x.2.2 ∧ Rp K F v p.2
def DkAt (K : PySem.W.Frag) (F H : Hp) (a : Addr) (kvs : List (D × D)) : Prop := (a == sysModules) = false ∧ ∃ es, H a = some (.ext (TbAt a es)) ∧ Paired (TbRel K F) kvs es ∧ (es.map (·.1)).Nodup
theorem TbRel.mono {K : PySem.W.Frag} {F G : Hp} (e : Le F G) {p : D × D} {x : NestedKey × Addr × Value} (h : TbRel K F p x) : TbRel K G p x :=
  ⟨h.nk, h.kr.mono e, let ⟨v, a, b⟩ := h.val; ⟨v, a, b.mono e⟩⟩
theorem DkAt.mono {K : PySem.W.Frag} {F G H H' : Hp} {a : Addr} {kvs : List (D × D)} (e : Le F G) (h : DkAt K F H a kvs) (k : H' a = H a) : DkAt K G H' a kvs := by
  obtain ⟨h0, es, h1, h2, h3⟩ := h
  exact ⟨h0, es, by rw [k]; exact h1, L2.Paired.mapP h2 fun p x q => q.mono e, h3⟩
/-! ### slots -/
inductive Sl where
  | un
  | da (d : D)
  | ce (xs : List D)
  | er (a dx : Addr) (n : Int)
  | sc (ns : List Int)
  | dk (a : Addr) (kvs : List (D × D))
  | dd (kvs : List (D × D))
  | ow (d : D)
  | cc (xss : List (List D))
abbrev En := List Sl

def SlOk (K : PySem.W.Frag) (H0 F H : Hp) (s : Sl) (o : Option (Option V)) : Prop := match s with
  | .un => True
  | .da d => ∃ v, o = some (some v) ∧ Rp K F v d
  | .ce xs => ∃ a vs, o = some (some (.ref a)) ∧ H a = some (.lst vs) ∧ F a = none ∧ H0 a = none ∧ RpA K F vs xs
  | .er a dx n => o = some (some (.ref a)) ∧ F dx = some (.xd [(("at" : Str), .int n)])
  | .sc ns => ∃ a, o = some (some (.ref a)) ∧ SqL K F a (ns.map V.int)
  | .dk a kvs => o = some (some (.ref a)) ∧ H0 a = none ∧ F a = none ∧ DkAt K F H a kvs
  | .dd kvs => ∃ a ks, o = some (some (.ref a)) ∧ H a = some (.dK ks) ∧ F a = none ∧ H0 a = none ∧ RpK K F ks kvs
  | .ow _ => True
  | .cc _ => True
/-- the lists within an own list -/
def CcOk (K : PySem.W.Frag) (H0 F H : Hp) (f : Addr → Nat) (i : Nat) : List Addr → List (List D) → Prop := Paired fun b xs => ∃ vs, H b = some (.lst vs) ∧ RpA K F vs xs ∧ F b = none ∧ H0 b = none ∧ f b = i
/-- the slot's own address -/
def adrS : Sl → Option (Option V) → Addr → Prop
  | .ce _, o, a => o = some (some (.ref a))
  | .dd _, o, a => o = some (some (.ref a))
  | .dk b _, _, a => a = b
  | _, _, _ => False
/-- what a slot owns: f tells the owner of an address -/
def OwnOk (K : PySem.W.Frag) (H0 F H : Hp) (f : Addr → Nat) (i : Nat) (s : Sl) (o : Option (Option V)) : Prop := match s with
  | .ow d => ∃ v G, o = some (some v) ∧ Rp K G v d ∧ Le G H ∧ ∀ a u, G a = some u → F a = none ∧ H0 a = none ∧ f a = i
  | .cc xss => ∃ a bs, o = some (some (.ref a)) ∧ H a = some (.lst (bs.map V.ref)) ∧ F a = none ∧ H0 a = none ∧ f a = i ∧ a ∉ bs ∧ bs.Nodup ∧ CcOk K H0 F H f i bs xss
  | s => ∀ a, adrS s o a → f a = i
theorem OwnOk.to {K : PySem.W.Frag} {H0 H0' F F' H H' : Hp} {f f' : Addr → Nat} {i : Nat} {s : Sl} {o : Option (Option V)} (h : OwnOk K H0 F H f i s o) (lf : Le F F')
    (k : ∀ a u, f a = i → F a = none → H0 a = none → H a = some u → H' a = some u ∧ F' a = none ∧ H0' a = none ∧ f' a = i) (c : ∀ a, adrS s o a → f a = i → f' a = i) : OwnOk K H0' F' H' f' i s o := by
  cases s with
  | ow d =>
    obtain ⟨v, G, h1, h2, h3, h4⟩ := h
    refine ⟨v, G, h1, h2, fun a u q => ?_, fun a u q => ?_⟩
    · obtain ⟨x1, x2, x3⟩ := h4 a u q
      exact (k a u x3 x1 x2 (h3 a u q)).1
    · obtain ⟨x1, x2, x3⟩ := h4 a u q
      exact (k a u x3 x1 x2 (h3 a u q)).2
  | cc xss =>
    obtain ⟨a, bs, h1, h2, h3, h4, h5, h6, h7, h8⟩ := h
    obtain ⟨k1, k2, k3, k4⟩ := k a _ h5 h3 h4 h2
    refine ⟨a, bs, h1, k1, k2, k3, k4, h6, h7, L2.Paired.mapP h8 fun b xs ⟨vs, x1, x2, x3, x4, x5⟩ => ?_⟩
    obtain ⟨y1, y2, y3, y4⟩ := k b _ x5 x3 x4 x1
    exact ⟨vs, y1, x2.mono lf, y2, y3, y4⟩
  | _ => exact fun a e => c a e (h a e)

structure Ok (K : PySem.W.Frag) (F0 H0 : Hp) (ρ : En) (F : Hp) (σ : St) (H : Hp) : Prop where
  len : ρ.length = σ.length
  ext : Ext F0 H0 F H
  low : Le F0 H0
  sl : ∀ (i : Nat) (s : Sl), ρ[i]? = some s → SlOk K H0 F H s σ[i]?
  own : ∃ f : Addr → Nat, ∀ (i : Nat) (s : Sl), ρ[i]? = some s → OwnOk K H0 F H f i s σ[i]?
theorem Ok.apart {K : PySem.W.Frag} {F0 H0 : Hp} {ρ : En} {F : Hp} {σ : St} {H : Hp} (h : Ok K F0 H0 ρ F σ H) (i j : Nat) (xs ys : List D) (a : Addr) (h1 : ρ[i]? = some (.ce xs)) (h2 : ρ[j]? = some (.ce ys)) (h3 : σ[i]? = some (some (.ref a))) (h4 : σ[j]? = some (some (.ref a))) : i = j := by
  obtain ⟨f, hf⟩ := h.own
  exact ((hf i _ h1) a h3).symm.trans ((hf j _ h2) a h4)
section
variable {K : PySem.W.Frag} {F0 H0 F H F' H' : Hp} {ρ ρ' : En} {σ σ' : St}
theorem Ok.sub (h : Ok K F0 H0 ρ F σ H) : Le F H := h.ext.sub
theorem SlOk.grow {s : Sl} {o : Option (Option V)} (e : Ext F H F' H') (h : SlOk K H0 F H s o) : SlOk K H0 F' H' s o := by
  cases s with
  | un => trivial
  | da d => obtain ⟨v, a, b⟩ := h; exact ⟨v, a, b.mono e.le⟩
  | ce xs =>
    obtain ⟨a, vs, h1, h2, h3, h4, h5⟩ := h
    refine ⟨a, vs, h1, e.keep a _ h2, ?_, h4, h5.mono e.le⟩
    cases q : F' a with
    | none => rfl
    | some o =>
      rcases e.new a o q with z | z
      · rw [h3] at z; cases z
      · rw [h2] at z; cases z
  | er a dx n => exact ⟨h.1, e.le _ _ h.2⟩
  | sc ns => obtain ⟨a, h1, h2⟩ := h; exact ⟨a, h1, e.le.sql h2⟩
  | dd kvs =>
    obtain ⟨a, vs, h1, h2, h3, h4, h5⟩ := h
    refine ⟨a, vs, h1, e.keep a _ h2, ?_, h4, h5.mono e.le⟩
    cases q : F' a with
    | none => rfl
    | some o =>
      rcases e.new a o q with z | z
      · rw [h3] at z; cases z
      · rw [h2] at z; cases z
  | dk a kvs =>
    obtain ⟨h1, h2, h3, h4⟩ := h
    have h4' := h4
    obtain ⟨_, es, h5, _⟩ := h4'
    refine ⟨h1, h2, ?_, h4.mono e.le ((e.keep a _ h5).trans h5.symm)⟩
    cases q : F' a with
    | none => rfl
    | some o =>
      rcases e.new a o q with z | z
      · rw [h3] at z; cases z
      · rw [h5] at z; cases z
  | ow d => trivial
  | cc d => trivial
theorem Ext.still {a : Addr} {u : HO} (e : Ext F H F' H') (h : H a = some u) (f : F a = none) : F' a = none := by
  cases q : F' a with
  | none => rfl
  | some o =>
    rcases e.new a o q with z | z
    · rw [f] at z; cases z
    · rw [h] at z; cases z
theorem Ok.grow (h : Ok K F0 H0 ρ F σ H) (e : Ext F H F' H') : Ok K F0 H0 ρ F' σ H' :=
  ⟨h.len, h.ext.trans e, h.low, fun i s q => (h.sl i s q).grow e, let ⟨f, hf⟩ := h.own; ⟨f, fun i s q => (hf i s q).to e.le (fun a u x1 x2 x3 x4 => ⟨e.keep a u x4, e.still x4 x2, x3, x1⟩) fun _ _ x => x⟩⟩
theorem Ok.da (h : Ok K F0 H0 ρ F σ H) {i : Nat} {d : D} (q : ρ[i]? = some (.da d)) : ∃ v, σ[i]? = some (some v) ∧ Rp K F v d := h.sl i _ q
theorem Ok.ce (h : Ok K F0 H0 ρ F σ H) {i : Nat} {xs : List D} (q : ρ[i]? = some (.ce xs)) : ∃ a vs, σ[i]? = some (some (.ref a)) ∧ H a = some (.lst vs) ∧ F a = none ∧ H0 a = none ∧ RpA K F vs xs := h.sl i _ q
/-- a slot that owns nothing -/
def calmS : Sl → Prop
  | .ce _ => False
  | .ow _ => False
  | .cc _ => False
  | .dd _ => False
  | .dk _ _ => False
  | _ => True
theorem own_calm {K : PySem.W.Frag} {H0 F H : Hp} {ρ : En} {σ : St} (h : ∀ (i : Nat) (s : Sl), ρ[i]? = some s → calmS s) : ∃ f : Addr → Nat, ∀ (i : Nat) (s : Sl), ρ[i]? = some s → OwnOk K H0 F H f i s σ[i]? :=
  ⟨fun _ => 0, fun i s q => by
    have z := h i s q
    cases s <;> first | exact z.elim | exact fun _ y => y.elim⟩
/-- slots as they were, one anew -/
theorem own_set {K : PySem.W.Frag} {F0 H0 F H : Hp} {ρ : En} {σ : St} {f : Addr → Nat} {i : Nat} {t : Sl} {o : Option V} (hf : ∀ (j : Nat) (s : Sl), ρ[j]? = some s → OwnOk K H0 F H f j s σ[j]?) (hl : ρ.length = σ.length) (ht : i < ρ.length → OwnOk K H0 F H f i t (some o)) :
    ∀ (j : Nat) (s : Sl), (ρ.set i t)[j]? = some s → OwnOk K H0 F H f j s (σ.set i o)[j]? := fun j s q => by
  by_cases hj : i = j
  · subst hj
    have hi : i < ρ.length := by
      have := (List.getElem?_eq_some_iff.mp q).1
      simpa using this
    rw [List.getElem?_set_self hi] at q
    cases q
    rw [List.getElem?_set_self (by rw [← hl]; exact hi)]
    exact ht hi
  · rw [List.getElem?_set_ne hj] at q
    rw [List.getElem?_set_ne hj]
    exact hf j s q
/-- a slot is set to data -/
theorem Ok.set (h : Ok K F0 H0 ρ F σ H) (i : Nat) {v : V} {d : D} (r : Rp K F v d) : Ok K F0 H0 (ρ.set i (.da d)) F (σ.set i (some v)) H := by
  refine ⟨by simpa using h.len, h.ext, h.low, fun j s q => ?_, let ⟨f, hf⟩ := h.own; ⟨f, own_set (F0 := F0) hf h.len fun _ _ z => z.elim⟩⟩
  by_cases hj : i = j
  · subst hj
    have hi : i < ρ.length := by
      have := (List.getElem?_eq_some_iff.mp q).1
      simpa using this
    rw [List.getElem?_set_self hi] at q
    cases q
    exact ⟨v, by rw [List.getElem?_set_self (by rw [← h.len]; exact hi)], r⟩
  · rw [List.getElem?_set_ne hj] at q
    rw [List.getElem?_set_ne hj]
    exact h.sl j s q
/-- the owner of a new address -/
theorem own_new {f : Addr → Nat} {i : Nat} {p : Addr} {s : Sl} {o : Option (Option V)} {j : Nat} (h : OwnOk K H0 F H f j s o) (hs : SlOk K H0 F H s o) (np : H p = none) : OwnOk K H0 F H (fun a => if a = p then i else f a) j s o :=
  h.to (Le.refl F) (fun a u x1 x2 x3 x4 => ⟨x4, x2, x3, by
    have n : a ≠ p := fun z => by rw [z, np] at x4; cases x4
    simp only [if_neg n]; exact x1⟩) fun a x y => by
    have n : a ≠ p := by
      cases s with
      | ce xs =>
        obtain ⟨b, vs, k1, k2, _⟩ := hs
        have x : o = some (some (.ref a)) := x
        rw [x] at k1; cases k1
        exact fun z => by rw [z, np] at k2; cases k2
      | dd xs =>
        obtain ⟨b, vs, k1, k2, _⟩ := hs
        have x : o = some (some (.ref a)) := x
        rw [x] at k1; cases k1
        exact fun z => by rw [z, np] at k2; cases k2
      | dk b kvs =>
        obtain ⟨_, _, _, _, es, k2, _⟩ := hs
        have x : a = b := x
        rw [← x] at k2
        exact fun z => by rw [z, np] at k2; cases k2
      | _ => exact x.elim
    simp only [if_neg n]; exact y
/-- a slot is set to a new own list -/
theorem Ok.newc (h : Ok K F0 H0 ρ F σ H) (e : Ext F H F' H') (i : Nat) {p : Addr} {vs : List V} {xs : List D} (np : H p = none) (hf : F' p = none) (hp : H' p = some (.lst vs)) (r : RpA K F' vs xs) : Ok K F0 H0 (ρ.set i (.ce xs)) F' (σ.set i (some (.ref p))) H' := by
  have g := h.grow e
  have h0 := h.ext.keep.none np
  obtain ⟨f, hw⟩ := h.own
  refine ⟨by simpa using h.len, g.ext, g.low, fun j s q => ?_, fun a => if a = p then i else f a, own_set (F0 := F0) (fun j s q => ?_) h.len fun _ a (z : some (some (V.ref p)) = some (some (V.ref a))) => by cases z; simp⟩
  · by_cases hj : i = j
    · subst hj
      have hi : i < ρ.length := by
        have := (List.getElem?_eq_some_iff.mp q).1
        simpa using this
      rw [List.getElem?_set_self hi] at q
      cases q
      exact ⟨p, vs, by rw [List.getElem?_set_self (by rw [← h.len]; exact hi)], hp, hf, h0, r⟩
    · rw [List.getElem?_set_ne hj] at q
      rw [List.getElem?_set_ne hj]
      exact g.sl j s q
  · have z := own_new (i := i) (hw j s q) (h.sl j s q) np
    exact z.to e.le (fun a u x1 x2 x3 x4 => ⟨e.keep a u x4, e.still x4 x2, x3, x1⟩) fun _ _ x => x
/-- an own list is changed -/
theorem Ok.write (h : Ok K F0 H0 ρ F σ H) {i : Nat} {a : Addr} {xs ys : List D} {ws : List V} (hi : ρ[i]? = some (.ce xs)) (ha : σ[i]? = some (some (.ref a))) (r : RpA K F ws ys) :
    Ok K F0 H0 (ρ.set i (.ce ys)) F σ (upd H a (.lst ws)) := by
  obtain ⟨a', vs, e1, e2, e3, e4, e5⟩ := h.ce hi
  rw [ha] at e1; cases e1
  have hlt : i < ρ.length := (List.getElem?_eq_some_iff.mp hi).1
  refine ⟨by simpa using h.len, ⟨h.ext.le, h.ext.sub.upd e3, h.ext.keep.upd e4, h.ext.new⟩, h.low, fun j s q => ?_, ?_⟩
  · by_cases hj : i = j
    · subst hj
      rw [List.getElem?_set_self hlt] at q
      cases q
      exact ⟨a, ws, ha, upd_same, e3, e4, r⟩
    · rw [List.getElem?_set_ne hj] at q
      have z := h.sl j s q
      cases s with
      | un => trivial
      | da d => exact z
      | ce us =>
        obtain ⟨b, vs', f1, f2, f3, f4, f5⟩ := z
        refine ⟨b, vs', f1, ?_, f3, f4, f5⟩
        have : b ≠ a := fun e => by subst e; exact hj (h.apart i j xs us b hi q ha f1)
        rw [upd_ne this]; exact f2
      | er a dx n => exact z
      | sc ns => exact z
      | dd kvs =>
        obtain ⟨b, ks, f1, f2, f3, f4, f5⟩ := z
        refine ⟨b, ks, f1, ?_, f3, f4, f5⟩
        have : b ≠ a := fun e => by subst e; rw [e2] at f2; cases f2
        rw [upd_ne this]; exact f2
      | ow d => trivial
      | cc d => trivial
      | dk b kvs =>
        obtain ⟨f1, f2, f3, f4⟩ := z
        refine ⟨f1, f2, f3, f4.mono (Le.refl _) ?_⟩
        have : b ≠ a := fun e => by
          subst e
          obtain ⟨_, es, f5, _⟩ := f4
          rw [e2] at f5; cases f5
        rw [upd_ne this]
  · obtain ⟨f, hf⟩ := h.own
    have fa : f a = i := (hf i _ hi) a ha
    have hσ : σ = σ.set i (some (.ref a)) := by
      refine List.ext_getElem? fun j => ?_
      by_cases hj : i = j
      · subst hj
        rw [ha, List.getElem?_set_self (by rw [← h.len]; exact hlt)]
      · rw [List.getElem?_set_ne hj]
    refine ⟨f, fun j s q => ?_⟩
    by_cases hj : i = j
    · subst hj
      rw [List.getElem?_set_self hlt] at q
      cases q
      exact fun b (z : σ[i]? = some (some (.ref b))) => by rw [ha] at z; cases z; exact fa
    · rw [List.getElem?_set_ne hj] at q
      refine (hf j s q).to (Le.refl F) (fun b u x1 x2 x3 x4 => ⟨?_, x2, x3, x1⟩) fun _ _ x => x
      have n : b ≠ a := fun z => by subst z; exact hj (fa.symm.trans x1)
      rw [upd_ne n]; exact x4
/-- an own list is frozen -/
theorem Ok.frz (h : Ok K F0 H0 ρ F σ H) {i : Nat} {xs : List D} (hi : ρ[i]? = some (.ce xs)) : ∃ F', Le F F' ∧ Ok K F0 H0 (ρ.set i (.da (.list xs))) F' σ H := by
  obtain ⟨a, vs, e1, e2, e3, e4, e5⟩ := h.ce hi
  have hlt : i < ρ.length := (List.getElem?_eq_some_iff.mp hi).1
  have le : Le F (upd F a (.lst vs)) := (Le.refl F).upd e3
  refine ⟨upd F a (.lst vs), le, by simpa using h.len, ⟨h.ext.le.trans le, fun b o q => ?_, h.ext.keep, fun b o q => ?_⟩, h.low, fun j s q => ?_, ?_⟩
  · by_cases z : b = a
    · subst z; rw [upd_same] at q; cases q; exact e2
    · rw [upd_ne z] at q; exact h.ext.sub b o q
  · by_cases z : b = a
    · subst z; exact .inr e4
    · rw [upd_ne z] at q; exact h.ext.new b o q
  · by_cases hj : i = j
    · subst hj
      rw [List.getElem?_set_self hlt] at q
      cases q
      exact ⟨_, e1, .lst upd_same (e5.mono le)⟩
    · rw [List.getElem?_set_ne hj] at q
      have z := h.sl j s q
      cases s with
      | un => trivial
      | da d => obtain ⟨v, f1, f2⟩ := z; exact ⟨v, f1, f2.mono le⟩
      | ce us =>
        obtain ⟨b, vs', f1, f2, f3, f4, f5⟩ := z
        refine ⟨b, vs', f1, f2, ?_, f4, f5.mono le⟩
        have : b ≠ a := fun e => by subst e; exact hj (h.apart i j xs us b hi q e1 f1)
        rw [upd_ne this]; exact f3
      | er a dx n => exact ⟨z.1, le _ _ z.2⟩
      | sc ns => obtain ⟨b, f1, f2⟩ := z; exact ⟨b, f1, le.sql f2⟩
      | dd kvs =>
        obtain ⟨b, ks, f1, f2, f3, f4, f5⟩ := z
        refine ⟨b, ks, f1, f2, ?_, f4, f5.mono le⟩
        have : b ≠ a := fun e => by subst e; rw [e2] at f2; cases f2
        rw [upd_ne this]; exact f3
      | ow d => trivial
      | cc d => trivial
      | dk b kvs =>
        obtain ⟨f1, f2, f3, f4⟩ := z
        refine ⟨f1, f2, ?_, f4.mono le rfl⟩
        have : b ≠ a := fun e => by
          subst e
          obtain ⟨_, es, f5, _⟩ := f4
          rw [e2] at f5; cases f5
        rw [upd_ne this]; exact f3
  · obtain ⟨f, hf⟩ := h.own
    have fa : f a = i := (hf i _ hi) a e1
    refine ⟨f, fun j s q => ?_⟩
    by_cases hj : i = j
    · subst hj
      rw [List.getElem?_set_self hlt] at q
      cases q
      exact fun _ z => z.elim
    · rw [List.getElem?_set_ne hj] at q
      refine (hf j s q).to le (fun b u x1 x2 x3 x4 => ⟨x4, ?_, x3, x1⟩) fun _ _ x => x
      have n : b ≠ a := fun z => by subst z; exact hj (fa.symm.trans x1)
      rw [upd_ne n]; exact x2
/-- a slot is set, as the kernel runs it fast -/
noncomputable def setE (ρ : En) : Nat → Sl → En := List.rec (fun _ _ => []) (fun s r ih i x => Nat.rec (x :: r) (fun j _ => s :: ih j x) i) ρ
theorem setE_eq (ρ : En) (i : Nat) (x : Sl) : setE ρ i x = ρ.set i x := by
  induction ρ generalizing i with
  | nil => rfl
  | cons s r ih =>
    cases i with
    | zero => rfl
    | succ j => exact congrArg (s :: ·) (ih j)
/-- slots are forgotten -/
noncomputable def wipeE (ρ : En) : List Nat → En
  | [] => ρ
  | v :: vs => setE (wipeE ρ vs) v .un
theorem Ok.forget (h : Ok K F0 H0 ρ F σ H) (i : Nat) (o : Option V) : Ok K F0 H0 (ρ.set i .un) F (σ.set i o) H := by
  refine ⟨by simpa using h.len, h.ext, h.low, fun j s q => ?_, let ⟨f, hf⟩ := h.own; ⟨f, own_set (F0 := F0) hf h.len fun _ _ z => z.elim⟩⟩
  by_cases hj : i = j
  · subst hj
    have hi : i < ρ.length := by
      have := (List.getElem?_eq_some_iff.mp q).1
      simpa using this
    rw [List.getElem?_set_self hi] at q
    cases q
    trivial
  · rw [List.getElem?_set_ne hj] at q
    rw [List.getElem?_set_ne hj]
    exact h.sl j s q
theorem Ok.wipe (h : Ok K F0 H0 ρ F σ H) : ∀ vs : List Nat, Ok K F0 H0 (wipeE ρ vs) F (L2.wipe σ vs) H
  | [] => h
  | v :: vs => by
    show Ok K F0 H0 (setE (wipeE ρ vs) v .un) F _ H
    rw [setE_eq]
    exact (Ok.wipe h vs).forget v none
end
end Mir
namespace Mir
open PySem PySem.Spec PyProof.Rows L2

/-! ### the judgements -/
/-- what is wished of an exception of the class c with the number n: its own dict is new, all of H is kept -/
noncomputable def ExW (W : XK) (cl : String → Addr) (c : String) (n : Int) (H : Hp) : Prop := ∀ H' dx, Le H H' → H dx = none → H' dx = some (.xd [(("at" : Str), .int n)]) → W (.ref (cl c)) (some dx) H'
theorem ExW.grow {W : XK} {cl : String → Addr} {c : String} {n : Int} {H H1 : Hp} (h : ExW W cl c n H) (e : Le H H1) : ExW W cl c n H1 :=
  fun H' dx a b q => h H' dx (e.trans a) (e.none b) q

abbrev Po (α : Type) := Hp → α → V → Hp → Hp → Prop
noncomputable def poD (K : PySem.W.Frag) : Po D := fun _ d v F' _ => Rp K F' v d
noncomputable def poW (K : PySem.W.Frag) : Po D := fun _ d v _ H' => Rp K H' v d
noncomputable def poL (K : PySem.W.Frag) : Po (List D) := fun _ xs v F' H' => ∃ a vs, v = .ref a ∧ SqL K H' a vs ∧ RpA K F' vs xs
noncomputable def poF (K : PySem.W.Frag) : Po (List D) := fun H xs v F' H' => ∃ p vs, v = .ref p ∧ H p = none ∧ F' p = none ∧ H' p = some (.lst vs) ∧ RpA K F' vs xs

section
variable (cl : String → Addr) (W : XK)
/-- what a result asks -/
noncomputable def tR {α : Type} (P : Po α) (r : R α) (F H : Hp) (Q : VK) : Prop := match r with
  | .ok a => ∀ v F' H', Ext F H F' H' → P H a v F' H' → Q v H'
  | .ex c n => ExW W cl c n H
  | .no => False
noncomputable def tM (K : PySem.W.Frag) {α : Type} (P : Po α) (m : En → R α) : TE := fun σ H Q => ∃ F0 H0 ρ F, Ok K F0 H0 ρ F σ H ∧ tR cl W P (m ρ) F H Q
/-- a test's -/
noncomputable def tRB (r : R Bool) (F H : Hp) (Q : Bool → Hp → Prop) : Prop := match r with
  | .ok a => ∀ F' H', Ext F H F' H' → Q a H'
  | .ex c n => ExW W cl c n H
  | .no => False
noncomputable def tMB (K : PySem.W.Frag) (m : En → R Bool) : TT := fun σ H Q => ∃ F0 H0 ρ F, Ok K F0 H0 ρ F σ H ∧ tRB cl W (m ρ) F H Q
/-- arguments' -/
noncomputable def tRA (K : PySem.W.Frag) (r : R (List D)) (F H : Hp) (Q : List V → Hp → Prop) : Prop := match r with
  | .ok ds => ∀ vs F' H', Ext F H F' H' → RpA K F' vs ds → Q vs H'
  | .ex c n => ExW W cl c n H
  | .no => False
noncomputable def tMA (K : PySem.W.Frag) (m : En → R (List D)) : TA := fun σ H Q => ∃ F0 H0 ρ F, Ok K F0 H0 ρ F σ H ∧ tRA cl W K (m ρ) F H Q
end
section
variable {cl : String → Addr} {W : XK} {K : PySem.W.Frag} {α β : Type} {F H : Hp}
theorem tR.imp {P : Po α} {r : R α} {Q Q' : VK} (h : tR cl W P r F H Q) (i : ∀ v H', Q v H' → Q' v H') : tR cl W P r F H Q' := by
  cases r with
  | ok a => exact fun v F' H' e p => i _ _ (h v F' H' e p)
  | ex c n => exact h
  | no => exact h
/-- what is asked at the end may speak of the start's heap by what is new alone -/
noncomputable def Anti (P : Po α) : Prop := ∀ H H1 a v F' H', Le H H1 → P H1 a v F' H' → P H a v F' H'
theorem anti_D : Anti (poD K) := fun _ _ _ _ _ _ _ h => h
theorem anti_W : Anti (poW K) := fun _ _ _ _ _ _ _ h => h
theorem anti_L : Anti (poL K) := fun _ _ _ _ _ _ _ h => h
theorem anti_F : Anti (poF K) := fun _ _ _ _ _ _ e h => by
  obtain ⟨p, vs, a, b, c⟩ := h
  exact ⟨p, vs, a, e.none b, c⟩
theorem tR.grow {P : Po α} (an : Anti P) {r : R α} {F1 H1 : Hp} {Q : VK} (h : tR cl W P r F H Q) (e : Ext F H F1 H1) : tR cl W P r F1 H1 Q := by
  cases r with
  | ok a => exact fun v F' H' e' p => h v F' H' (e.trans e') (an _ _ _ _ _ _ e.keep p)
  | ex c n => exact ExW.grow h e.keep
  | no => exact h
/-- a value first, then the rest -/
theorem tR.bind {P : Po α} {P2 : Po β} (an : Anti P2) {r : R α} {f : α → R β} {Q : VK} (h : tR cl W P2 (r.bind f) F H Q) :
    tR cl W P r F H (fun v H1 => ∃ F1 a, Ext F H F1 H1 ∧ P H a v F1 H1 ∧ tR cl W P2 (f a) F1 H1 Q) := by
  cases r with
  | ok a => exact fun v F' H' e p => ⟨F', a, e, p, tR.grow an h e⟩
  | ex c n => exact h
  | no => exact h
theorem tRB.imp {r : R Bool} {Q Q' : Bool → Hp → Prop} (h : tRB cl W r F H Q) (i : ∀ v H', Q v H' → Q' v H') : tRB cl W r F H Q' := by
  cases r with
  | ok a => exact fun F' H' e => i _ _ (h F' H' e)
  | ex c n => exact h
  | no => exact h
theorem tRB.grow {r : R Bool} {F1 H1 : Hp} {Q : Bool → Hp → Prop} (h : tRB cl W r F H Q) (e : Ext F H F1 H1) : tRB cl W r F1 H1 Q := by
  cases r with
  | ok a => exact fun F' H' e' => h F' H' (e.trans e')
  | ex c n => exact ExW.grow h e.keep
  | no => exact h
/-- a value, then a test's end -/
theorem tRB.bind {P : Po α} {r : R α} {f : α → R Bool} {Q : Bool → Hp → Prop} (h : tRB cl W (r.bind f) F H Q) :
    tR cl W P r F H (fun v H1 => ∃ F1 a, Ext F H F1 H1 ∧ P H a v F1 H1 ∧ tRB cl W (f a) F1 H1 Q) := by
  cases r with
  | ok a => exact fun v F' H' e p => ⟨F', a, e, p, tRB.grow h e⟩
  | ex c n => exact h
  | no => exact h
/-- a test, then a value -/
theorem tR.bindB {P2 : Po β} (an : Anti P2) {r : R Bool} {f : Bool → R β} {Q : VK} (h : tR cl W P2 (r.bind f) F H Q) :
    tRB cl W r F H (fun b H1 => ∃ F1, Ext F H F1 H1 ∧ tR cl W P2 (f b) F1 H1 Q) := by
  cases r with
  | ok a => exact fun F' H' e => ⟨F', e, tR.grow an h e⟩
  | ex c n => exact h
  | no => exact h
theorem tRB.bindB {r : R Bool} {f : Bool → R Bool} {Q : Bool → Hp → Prop} (h : tRB cl W (r.bind f) F H Q) :
    tRB cl W r F H (fun b H1 => ∃ F1, Ext F H F1 H1 ∧ tRB cl W (f b) F1 H1 Q) := by
  cases r with
  | ok a => exact fun F' H' e => ⟨F', e, tRB.grow h e⟩
  | ex c n => exact h
  | no => exact h
theorem tRA.imp {r : R (List D)} {Q Q' : List V → Hp → Prop} (h : tRA cl W K r F H Q) (i : ∀ v H', Q v H' → Q' v H') : tRA cl W K r F H Q' := by
  cases r with
  | ok a => exact fun vs F' H' e p => i _ _ (h vs F' H' e p)
  | ex c n => exact h
  | no => exact h
theorem tRA.grow {r : R (List D)} {F1 H1 : Hp} {Q : List V → Hp → Prop} (h : tRA cl W K r F H Q) (e : Ext F H F1 H1) : tRA cl W K r F1 H1 Q := by
  cases r with
  | ok a => exact fun vs F' H' e' p => h vs F' H' (e.trans e') p
  | ex c n => exact ExW.grow h e.keep
  | no => exact h
/-- arguments, then a value -/
theorem tR.bindA {P2 : Po β} (an : Anti P2) {r : R (List D)} {f : List D → R β} {Q : VK} (h : tR cl W P2 (r.bind f) F H Q) :
    tRA cl W K r F H (fun vs H1 => ∃ F1 ds, Ext F H F1 H1 ∧ RpA K F1 vs ds ∧ tR cl W P2 (f ds) F1 H1 Q) := by
  cases r with
  | ok a => exact fun vs F' H' e p => ⟨F', a, e, p, tR.grow an h e⟩
  | ex c n => exact h
  | no => exact h
theorem tRA.bind {P : Po α} {r : R α} {f : α → R (List D)} {Q : List V → Hp → Prop} (h : tRA cl W K (r.bind f) F H Q) :
    tR cl W P r F H (fun v H1 => ∃ F1 a, Ext F H F1 H1 ∧ P H a v F1 H1 ∧ tRA cl W K (f a) F1 H1 Q) := by
  cases r with
  | ok a => exact fun v F' H' e p => ⟨F', a, e, p, tRA.grow h e⟩
  | ex c n => exact h
  | no => exact h
theorem tRA.bindA {r : R (List D)} {f : List D → R (List D)} {Q : List V → Hp → Prop} (h : tRA cl W K (r.bind f) F H Q) :
    tRA cl W K r F H (fun vs H1 => ∃ F1 ds, Ext F H F1 H1 ∧ RpA K F1 vs ds ∧ tRA cl W K (f ds) F1 H1 Q) := by
  cases r with
  | ok a => exact fun vs F' H' e p => ⟨F', a, e, p, tRA.grow h e⟩
  | ex c n => exact h
  | no => exact h
end

theorem PE.imp {X : Cx} {e : Expr} {t t' : TE} (h : PE X e t) (i : ∀ σ H Q, t' σ H Q → t σ H Q) : PE X e t' := ⟨fun p s σ H Q I w => h.run p s σ H Q I (i σ H Q w)⟩
theorem PT.imp {X : Cx} {e : Expr} {t t' : TT} (h : PT X e t) (i : ∀ σ H Q, t' σ H Q → t σ H Q) : PT X e t' := ⟨fun p s σ H Q I w => h.run p s σ H Q I (i σ H Q w)⟩
theorem PW.imp {X : Cx} {e : Expr} {t t' : TT} (h : PW X e t) (i : ∀ σ H Q, t' σ H Q → t σ H Q) : PW X e t' := ⟨fun wh p s σ H Q I w => h.run wh p s σ H Q I (i σ H Q w)⟩
theorem PA.imp {X : Cx} {e : List Expr} {t t' : TA} (h : PA X e t) (i : ∀ σ H Q, t' σ H Q → t σ H Q) : PA X e t' := ⟨fun pos p s σ H Q I w => h.run pos p s σ H Q I (i σ H Q w)⟩
theorem PS.imp {X : Cx} {st : Stmt} {t t' : TS} (h : PS X st t) (i : ∀ σ H Q, t' Q σ H → t Q σ H) : PS X st t' := ⟨fun p s σ H Q I w => h.run p s σ H Q I (i σ H Q w)⟩
theorem PSs.imp {X : Cx} {st : List Stmt} {t t' : TS} (h : PSs X st t) (i : ∀ σ H Q, t' Q σ H → t Q σ H) : PSs X st t' := ⟨fun p s σ H Q I w => h.run p s σ H Q I (i σ H Q w)⟩
theorem PI.imp {X : Cx} {tg e : Expr} {t t' : TI} (h : PI X tg e t) (i : ∀ σ H Q, t' σ H Q → t σ H Q) : PI X tg e t' := ⟨fun p s σ H Q I w => h.run p s σ H Q I (i σ H Q w)⟩
theorem PG.imp {X : Cx} {e : Expr} {t t' : TG} (h : PG X e t) (i : ∀ v σ H Q, t' v σ H Q → t v σ H Q) : PG X e t' := ⟨fun p s σ H v u Q I r w => h.run p s σ H v u Q I r (i v σ H Q w)⟩

/-- an expression's value is data; is to be read; is a list whose items are data; is a new list -/
noncomputable def PD (X : Cx) (cl : String → Addr) (W : XK) (e : Expr) (m : En → R D) : Prop := PE X e (tM cl W X.K (poD X.K) m)
noncomputable def PVw (X : Cx) (cl : String → Addr) (W : XK) (e : Expr) (m : En → R D) : Prop := PE X e (tM cl W X.K (poW X.K) m)
noncomputable def PL (X : Cx) (cl : String → Addr) (W : XK) (e : Expr) (m : En → R (List D)) : Prop := PE X e (tM cl W X.K (poL X.K) m)
noncomputable def PF (X : Cx) (cl : String → Addr) (W : XK) (e : Expr) (m : En → R (List D)) : Prop := PE X e (tM cl W X.K (poF X.K) m)
noncomputable def PB (X : Cx) (cl : String → Addr) (W : XK) (e : Expr) (m : En → R Bool) : Prop := PT X e (tMB cl W X.K m)
noncomputable def PWB (X : Cx) (cl : String → Addr) (W : XK) (e : Expr) (m : En → R Bool) : Prop := PW X e (tMB cl W X.K m)
noncomputable def PAs (X : Cx) (cl : String → Addr) (W : XK) (es : List Expr) (m : En → R (List D)) : Prop := PA X es (tMA cl W X.K m)

section
variable {X : Cx} {cl : String → Addr} {W : XK} {e a b : Expr} {pos : Pos}
/-! ### between them -/
theorem tM.imp {K : PySem.W.Frag} {α β : Type} {P : Po α} {P' : Po β} {m : En → R α} {m' : En → R β} {σ : St} {H : Hp} {Q : VK} (h : tM cl W K P' m' σ H Q)
    (i : ∀ ρ F, Le F H → tR cl W P' (m' ρ) F H Q → tR cl W P (m ρ) F H Q) : tM cl W K P m σ H Q := by
  obtain ⟨F0, H0, ρ, F, ok, h⟩ := h
  exact ⟨F0, H0, ρ, F, ok, i ρ F ok.sub h⟩
theorem PD.vw {m : En → R D} (h : PD X cl W e m) : PVw X cl W e m := PE.imp h fun σ H Q q => tM.imp q fun ρ F s q => by
  cases hr : m ρ with
  | ok d => rw [hr] at q; exact fun v F' H' e p => q v F' H' e (p.mono e.sub)
  | ex c n => rw [hr] at q; exact q
  | no => rw [hr] at q; exact q
noncomputable def asList : D → R (List D)
  | .list xs => .ok xs
  | _ => .no
theorem PD.l {m : En → R D} (h : PD X cl W e m) : PL X cl W e (fun ρ => (m ρ).bind asList) := PE.imp h fun σ H Q q => tM.imp q fun ρ F s q => by
  cases hr : m ρ with
  | ok d =>
    rw [hr] at q
    intro v F' H' e p
    cases d with
    | list xs =>
      obtain ⟨a, vs, rfl, s1, r1⟩ := Rp.inv_list p
      exact q _ F' H' e ⟨a, vs, rfl, .inl (.inl (e.sub _ _ s1)), r1⟩
    | _ => exact False.elim q
  | ex c n => rw [hr] at q; exact q
  | no => rw [hr] at q; exact q
noncomputable def toList (r : R (List D)) : R D := r.bind fun xs => .ok (.list xs)
theorem PF.l {m : En → R (List D)} (h : PF X cl W e m) : PL X cl W e m := PE.imp h fun σ H Q q => tM.imp q fun ρ F s q => by
  cases hr : m ρ with
  | ok d =>
    rw [hr] at q
    exact fun v F' H' e ⟨p, vs, hv, h0, hf, hp, r⟩ => q v F' H' e ⟨p, vs, hv, .inl (.inl hp), r⟩
  | ex c n => rw [hr] at q; exact q
  | no => rw [hr] at q; exact q
theorem PF.d {m : En → R (List D)} (h : PF X cl W e m) : PD X cl W e (fun ρ => toList (m ρ)) := PE.imp h fun σ H Q q => tM.imp q fun ρ F s q => by
  cases hr : m ρ with
  | ok d =>
    rw [hr] at q
    intro v F' H' e ⟨p, vs, hv, h0, hf, hp, r⟩
    subst hv
    exact q _ _ H' (e.freeze h0 hp hf) (.lst upd_same (r.mono ((Le.refl F').upd hf)))
  | ex c n => rw [hr] at q; exact q
  | no => rw [hr] at q; exact q

/-! ### names and constants -/
noncomputable def nth (ρ : En) : Nat → Sl := List.rec (fun _ => .un) (fun s _ ih i => Nat.rec s (fun j _ => ih j) i) ρ
theorem nth_eq (ρ : En) (i : Nat) : nth ρ i = (ρ[i]?).getD .un := by
  induction ρ generalizing i with
  | nil => rfl
  | cons s r ih =>
    cases i with
    | zero => rfl
    | succ j =>
      rw [List.getElem?_cons_succ]
      exact ih j
noncomputable def getd (i : Nat) : En → R D := fun ρ => match nth ρ i with
  | .da d => .ok d
  | _ => .no
noncomputable def gets (i : Nat) : En → R (List D) := fun ρ => match nth ρ i with
  | .sc ns => .ok (ns.map PyData.int)
  | _ => .no
theorem nth_sc {ρ : En} {i : Nat} {d : List Int} (h : nth ρ i = .sc d) : ρ[i]? = some (.sc d) := by
  rw [nth_eq] at h
  cases q : ρ[i]? with
  | none => rw [q] at h; cases h
  | some s => rw [q] at h; exact congrArg some h
noncomputable def getc (i : Nat) : En → R (List D) := fun ρ => match nth ρ i with
  | .ce xs => .ok xs
  | _ => .no
theorem nth_da {ρ : En} {i : Nat} {d : D} (h : nth ρ i = .da d) : ρ[i]? = some (.da d) := by
  rw [nth_eq] at h
  cases q : ρ[i]? with
  | none => rw [q] at h; cases h
  | some s => rw [q] at h; exact congrArg some h
theorem nth_ce {ρ : En} {i : Nat} {d : List D} (h : nth ρ i = .ce d) : ρ[i]? = some (.ce d) := by
  rw [nth_eq] at h
  cases q : ρ[i]? with
  | none => rw [q] at h; cases h
  | some s => rw [q] at h; exact congrArg some h
theorem pd_v {i : Nat} (h : PE X e (tVar i)) : PD X cl W e (getd i) := PE.imp h fun σ H Q ⟨F0, H0, ρ, F, ok, q⟩ => by
  unfold getd at q
  split at q
  · rename_i d hd
    obtain ⟨v, h1, h2⟩ := ok.da (nth_da hd)
    exact ⟨v, h1, q v F H (Ext.refl ok.sub) h2⟩
  · exact False.elim q
theorem pl_v {i : Nat} (h : PE X e (tVar i)) : PL X cl W e (getc i) := PE.imp h fun σ H Q ⟨F0, H0, ρ, F, ok, q⟩ => by
  unfold getc at q
  split at q
  · rename_i d hd
    obtain ⟨a, vs, h1, h2, h3, h4, h5⟩ := ok.ce (nth_ce hd)
    exact ⟨_, h1, q _ F H (Ext.refl ok.sub) ⟨a, vs, rfl, .inl (.inl h2), h5⟩⟩
  · exact False.elim q
/-- an own list, as what it is now -/
theorem pw_v {i : Nat} (h : PE X e (tVar i)) : PVw X cl W e (fun ρ => toList (getc i ρ)) := PE.imp h fun σ H Q ⟨F0, H0, ρ, F, ok, q⟩ => by
  have q : tR cl W (poW X.K) (toList (getc i ρ)) F H Q := q
  unfold getc at q
  cases hx : nth ρ i with
  | ce d =>
    rw [hx] at q
    obtain ⟨a, vs, h1, h2, h3, h4, h5⟩ := ok.ce (nth_ce hx)
    exact ⟨_, h1, q _ F H (Ext.refl ok.sub) (.lst h2 (h5.mono ok.sub))⟩
  | _ => rw [hx] at q; exact False.elim q
/-- the script -/
theorem pl_s {i : Nat} (h : PE X e (tVar i)) : PL X cl W e (gets i) := PE.imp h fun σ H Q ⟨F0, H0, ρ, F, ok, q⟩ => by
  unfold gets at q
  split at q
  · rename_i d hd
    obtain ⟨a, h1, h2⟩ : ∃ a, σ[i]? = some (some (.ref a)) ∧ SqL X.K F a (d.map V.int) := ok.sl i _ (nth_sc hd)
    exact ⟨_, h1, q _ F H (Ext.refl ok.sub) ⟨a, _, rfl, ok.sub.sql h2, RpA.ints d⟩⟩
  · exact False.elim q
noncomputable def cst (d : D) : En → R D := fun _ => .ok d
theorem pd_c {v : V} {d : D} (h : PE X e (tC v)) (r : ∀ F, Rp X.K F v d) : PD X cl W e (cst d) := PE.imp h fun σ H Q ⟨F0, H0, ρ, F, ok, q⟩ => q v F H (Ext.refl ok.sub) (r F)
theorem pd_int {i j pos} : PD X cl W (.Constant (.int i) j pos) (cst (.int i)) := pd_c pe_int fun _ => .int i
theorem pd_bl {i j pos} : PD X cl W (.Constant (.bool i) j pos) (cst (.bool i)) := pd_c pe_bl fun _ => .bl i
theorem pd_str {i j pos} : PD X cl W (.Constant (.str i) j pos) (cst (.str i)) := pd_c pe_str fun _ => .str i
theorem pd_non {j pos} : PD X cl W (.Constant .none j pos) (cst .none) := pd_c pe_non fun _ => .non
/-- a module's number, text -/
theorem pd_gint {x : Str} {i : Int} {t : Tok} {pos : Pos} (hg : Gl X x) (hm : X.mg x = some (.int i t)) (hd : (x == ("__debug__" : Str)) = false := by decide) : PD X cl W (.Name x pos) (cst (.int i)) := pd_c (pe_glob (v := .int i) hg hm ⟨_, rfl⟩ hd) fun _ => .int i
theorem pd_gstr {x : Str} {i : Str} {t : Tok} {pos : Pos} (hg : Gl X x) (hm : X.mg x = some (.str i t)) (hd : (x == ("__debug__" : Str)) = false := by decide) : PD X cl W (.Name x pos) (cst (.str i)) := pd_c (pe_glob (v := .str i) hg hm ⟨_, rfl⟩ hd) fun _ => .str i

/-! ### operators -/
/-- an operator by a function of data -/
noncomputable def OpS (K : PySem.W.Frag) (rd : R2) (f : D → D → Option D) : Prop := ∀ d e r, f d e = some r → ∀ F H x y Q, Le F H → Rp K F x d → Rp K F y e → (∀ v F' H', Ext F H F' H' → Rp K F' v r → Q v H') → rd x y H Q
noncomputable def bin2 {α β γ : Type} (f : α → β → Option γ) (ma : En → R α) (mb : En → R β) : En → R γ := fun ρ => (ma ρ).bind fun x => (mb ρ).bind fun y => ofO (f x y)
theorem pd_op {op : Operator} {rd : R2} {f : D → D → Option D} {ma mb : En → R D} (ho : OpR X (binaryOp op) rd) (hf : OpS X.K rd f) (ha : PD X cl W a ma) (hb : PD X cl W b mb) : PD X cl W (.BinOp a op b pos) (bin2 f ma mb) := by
  refine PE.imp (pe_op ho ha hb) fun σ H Q ⟨F0, H0, ρ, F, ok, h⟩ => ?_
  refine ⟨F0, H0, ρ, F, ok, (tR.bind anti_D h).imp fun v H1 ⟨F1, x, e1, p1, h1⟩ => ?_⟩
  refine ⟨F0, H0, ρ, F1, ok.grow e1, (tR.bind anti_D h1).imp fun u H2 ⟨F2, y, e2, p2, h2⟩ => ?_⟩
  cases hr : f x y with
  | none => rw [hr] at h2; exact False.elim h2
  | some r => rw [hr] at h2; exact hf x y r hr F2 H2 v u Q e2.sub (p1.mono e2.le) p2 h2
/-- comparisons: a bool comes; what is compared is only read -/
noncomputable def CmS (K : PySem.W.Frag) (rd : R2) (f : D → D → Option Bool) : Prop := ∀ d e r, f d e = some r → ∀ H x y Q, Rp K H x d → Rp K H y e → Q (.bl r) H → rd x y H Q
theorem pb_cmp {op : CmpOp} {rd : R2} {f : D → D → Option Bool} {ma mb : En → R D} (ho : OpR X (compareOp op) rd) (hf : CmS X.K rd f) (ha : PVw X cl W a ma) (hb : PVw X cl W b mb) (hm : behindInMarks op b = false) : PB X cl W (.Compare a [op] [b] pos) (bin2 f ma mb) := by
  refine PT.imp (pt_cmpR ho ha hb hm) fun σ H Q ⟨F0, H0, ρ, F, ok, h⟩ => ?_
  refine ⟨F0, H0, ρ, F, ok, (tRB.bind h).imp fun v H1 ⟨F1, x, e1, p1, h1⟩ => ?_⟩
  refine ⟨F0, H0, ρ, F1, ok.grow e1, (tRB.bind h1).imp fun u H2 ⟨F2, y, e2, p2, h2⟩ => ?_⟩
  cases hr : f x y with
  | none => rw [hr] at h2; exact False.elim h2
  | some r => rw [hr] at h2; exact hf x y r hr H2 v u _ (p1.mono e2.keep) p2 ⟨r, rfl, h2 F2 H2 (Ext.refl e2.sub)⟩
noncomputable def toB (r : R Bool) : R D := r.bind fun b => .ok (.bool b)
theorem pd_cmp {op : CmpOp} {rd : R2} {f : D → D → Option Bool} {ma mb : En → R D} (ho : OpR X (compareOp op) rd) (hf : CmS X.K rd f) (ha : PVw X cl W a ma) (hb : PVw X cl W b mb) (hm : behindInMarks op b = false) : PD X cl W (.Compare a [op] [b] pos) (fun ρ => toB (bin2 f ma mb ρ)) := by
  refine PE.imp (pe_cmpR ho ha hb hm) fun σ H Q ⟨F0, H0, ρ, F, ok, h⟩ => ?_
  have h : tR cl W (poD X.K) ((bin2 f ma mb ρ).bind fun b => .ok (.bool b)) F H Q := h
  unfold bin2 at h
  rw [R.bind_assoc] at h
  refine ⟨F0, H0, ρ, F, ok, (tR.bind anti_D h).imp fun v H1 ⟨F1, x, e1, p1, h1⟩ => ?_⟩
  rw [R.bind_assoc] at h1
  refine ⟨F0, H0, ρ, F1, ok.grow e1, (tR.bind anti_D h1).imp fun u H2 ⟨F2, y, e2, p2, h2⟩ => ?_⟩
  cases hr : f x y with
  | none => rw [hr] at h2; exact False.elim h2
  | some r => rw [hr] at h2; exact hf x y r hr H2 v u _ (p1.mono e2.keep) p2 (h2 _ F2 H2 (Ext.refl e2.sub) (.bl r))
/-- a < b < c -/
noncomputable def chain {α β γ : Type} (f : α → β → Option Bool) (g : β → γ → Option Bool) (ma : En → R α) (mb : En → R β) (mc : En → R γ) : En → R Bool := fun ρ =>
  (ma ρ).bind fun x => (mb ρ).bind fun y => (ofO (f x y)).bind fun k => if k = true then (mc ρ).bind fun z => ofO (g y z) else .ok false
theorem pb_chain {op op' : CmpOp} {rd rd' : R2} {f g : D → D → Option Bool} {c : Expr} {ma mb mc : En → R D} (ho : OpR X (compareOp op) rd) (ho' : OpR X (compareOp op') rd') (hf : CmS X.K rd f) (hg : CmS X.K rd' g)
    (ha : PVw X cl W a ma) (hb : PVw X cl W b mb) (hc : PVw X cl W c mc) (hm : lastMarks [op, op'] [b, c] = false := by rfl) : PB X cl W (.Compare a [op, op'] [b, c] pos) (chain f g ma mb mc) := by
  refine PT.imp (pt_chain ho ho' ha hb hc hm) fun σ H Q ⟨F0, H0, ρ, F, ok, h⟩ => ?_
  refine ⟨F0, H0, ρ, F, ok, (tRB.bind h).imp fun v H1 ⟨F1, x, e1, p1, h1⟩ => ?_⟩
  refine ⟨F0, H0, ρ, F1, ok.grow e1, (tRB.bind h1).imp fun u H2 ⟨F2, y, e2, p2, h2⟩ => ?_⟩
  cases hr : f x y with
  | none => rw [hr] at h2; exact False.elim h2
  | some r =>
    rw [hr] at h2
    refine hf x y r hr H2 v u _ (p1.mono e2.keep) p2 ⟨r, rfl, ?_⟩
    cases r with
    | false => exact ⟨false, rfl, h2 F2 H2 (Ext.refl e2.sub)⟩
    | true =>
      have h2 : tRB cl W ((mc ρ).bind fun z => ofO (g y z)) F2 H2 Q := h2
      rw [if_pos rfl]
      refine ⟨F0, H0, ρ, F2, (ok.grow e1).grow e2, (tRB.bind h2).imp fun w' H3 ⟨F3, z, e3, p3, h3⟩ => ?_⟩
      cases hr2 : g y z with
      | none => rw [hr2] at h3; exact False.elim h3
      | some r2 => rw [hr2] at h3; exact hg y z r2 hr2 H3 u w' _ (p2.mono e3.keep) p3 ⟨r2, rfl, h3 F3 H3 (Ext.refl e3.sub)⟩
theorem pd_chain {op op' : CmpOp} {rd rd' : R2} {f g : D → D → Option Bool} {c : Expr} {ma mb mc : En → R D} (ho : OpR X (compareOp op) rd) (ho' : OpR X (compareOp op') rd') (hf : CmS X.K rd f) (hg : CmS X.K rd' g)
    (ha : PVw X cl W a ma) (hb : PVw X cl W b mb) (hc : PVw X cl W c mc) (hm : lastMarks [op, op'] [b, c] = false := by rfl) : PD X cl W (.Compare a [op, op'] [b, c] pos) (fun ρ => toB (chain f g ma mb mc ρ)) := by
  refine PE.imp (pe_chain ho ho' ha hb hc hm) fun σ H Q ⟨F0, H0, ρ, F, ok, h⟩ => ?_
  have h : tR cl W (poD X.K) ((chain f g ma mb mc ρ).bind fun b => .ok (.bool b)) F H Q := h
  unfold chain at h
  rw [R.bind_assoc] at h
  refine ⟨F0, H0, ρ, F, ok, (tR.bind anti_D h).imp fun v H1 ⟨F1, x, e1, p1, h1⟩ => ?_⟩
  rw [R.bind_assoc] at h1
  refine ⟨F0, H0, ρ, F1, ok.grow e1, (tR.bind anti_D h1).imp fun u H2 ⟨F2, y, e2, p2, h2⟩ => ?_⟩
  cases hr : f x y with
  | none => rw [hr] at h2; exact False.elim h2
  | some r =>
    rw [hr] at h2
    refine hf x y r hr H2 v u _ (p1.mono e2.keep) p2 ⟨r, rfl, ?_⟩
    cases r with
    | false => exact h2 _ F2 H2 (Ext.refl e2.sub) (.bl false)
    | true =>
      have h2 : tR cl W (poD X.K) (((mc ρ).bind fun z => ofO (g y z)).bind fun b => .ok (.bool b)) F2 H2 Q := h2
      rw [R.bind_assoc] at h2
      rw [if_pos rfl]
      refine ⟨F0, H0, ρ, F2, (ok.grow e1).grow e2, (tR.bind anti_D h2).imp fun w' H3 ⟨F3, z, e3, p3, h3⟩ => ?_⟩
      cases hr2 : g y z with
      | none => rw [hr2] at h3; exact False.elim h3
      | some r2 => rw [hr2] at h3; exact hg y z r2 hr2 H3 u w' _ (p2.mono e3.keep) p3 (h3 _ F3 H3 (Ext.refl e3.sub) (.bl r2))
/-- a unary operator -/
noncomputable def UnS (K : PySem.W.Frag) (rd : V → Hp → VK → Prop) (f : D → Option D) : Prop := ∀ d r, f d = some r → ∀ F H x Q, Le F H → Rp K F x d → (∀ v F' H', Ext F H F' H' → Rp K F' v r → Q v H') → rd x H Q
noncomputable def un1 {α γ : Type} (f : α → Option γ) (ma : En → R α) : En → R γ := fun ρ => (ma ρ).bind fun x => ofO (f x)
theorem pd_un {op : UnaryOp} {rd : V → Hp → VK → Prop} {f : D → Option D} {ma : En → R D} (ho : UnR X (unaryOp op) rd) (hf : UnS X.K rd f) (ha : PD X cl W a ma) : PD X cl W (.UnaryOp op a pos) (un1 f ma) := by
  refine PE.imp (pe_un ho ha) fun σ H Q ⟨F0, H0, ρ, F, ok, h⟩ => ?_
  refine ⟨F0, H0, ρ, F, ok, (tR.bind anti_D h).imp fun v H1 ⟨F1, x, e1, p1, h1⟩ => ?_⟩
  cases hr : f x with
  | none => rw [hr] at h1; exact False.elim h1
  | some r => rw [hr] at h1; exact hf x r hr F1 H1 v Q e1.sub p1 h1

/-! ### truth, and, or, not, if -/
noncomputable def truth : D → Option Bool
  | .none => some false
  | .bool b => some b
  | .int i => some (i != 0)
  | .str y => if y.length ≤ sizeLine then some ((y.length : Int) != 0) else none
  | .list xs => some (!xs.isEmpty)
  | .tuple xs => some (!xs.isEmpty)
  | .dict _ => none
theorem RpA.isEmpty {K : PySem.W.Frag} {F : Hp} {vs : List V} {ds : List D} (r : RpA K F vs ds) : vs.isEmpty = ds.isEmpty := by
  cases r <;> rfl
theorem truth_ok {K : PySem.W.Frag} {H : Hp} {v : V} {d : D} {k : Bool} (h : truth d = some k) (r : Rp K H v d) : TruV K v H k := by
  cases d with
  | none => cases r; simp only [truth, Option.some.injEq] at h; exact h.symm
  | bool b => cases r; simp only [truth, Option.some.injEq] at h; exact h.symm
  | int b => cases r; simp only [truth, Option.some.injEq] at h; exact h.symm
  | str y =>
    cases r
    have h : (if y.length ≤ sizeLine then some ((y.length : Int) != 0) else none) = some k := h
    split at h
    · rename_i hy
      simp only [Option.some.injEq] at h
      exact ⟨hy, h.symm⟩
    · cases h
  | list xs =>
    obtain ⟨a, vs, rfl, s, q⟩ := Rp.inv_list r
    simp only [truth, Option.some.injEq] at h
    exact .inl ⟨vs, .inl (.inl s), by rw [q.isEmpty]; exact h.symm⟩
  | tuple xs =>
    obtain ⟨a, vs, rfl, s, q⟩ := Rp.inv_tup r
    simp only [truth, Option.some.injEq] at h
    exact .inr (.inl ⟨vs, s, by rw [q.isEmpty]; exact h.symm⟩)
  | dict xs => cases h
theorem pb_tr {ma : En → R D} (ha : PVw X cl W a ma) (he : ∀ whole, isTrue a X.env whole = (do let v ← whole; standAt a.pos; holding [v] (truthy v)) := by intro _; rfl) : PB X cl W a (un1 truth ma) := by
  refine PT.imp (pt_truth ha he) fun σ H Q ⟨F0, H0, ρ, F, ok, h⟩ => ?_
  refine ⟨F0, H0, ρ, F, ok, (tRB.bind h).imp fun v H1 ⟨F1, x, e1, p1, h1⟩ => ?_⟩
  cases hr : truth x with
  | none => rw [hr] at h1; exact False.elim h1
  | some r => rw [hr] at h1; exact ⟨r, truth_ok hr p1, h1 F1 H1 (Ext.refl e1.sub)⟩
noncomputable def andB (ma mb : En → R Bool) : En → R Bool := fun ρ => (ma ρ).bind fun k => if k = true then mb ρ else .ok false
noncomputable def orB (ma mb : En → R Bool) : En → R Bool := fun ρ => (ma ρ).bind fun k => if k = true then .ok true else mb ρ
noncomputable def notB (ma : En → R Bool) : En → R Bool := fun ρ => (ma ρ).bind fun k => .ok (!k)
variable {rest : List Expr} {ma mb : En → R Bool}
theorem pwb_and1 (ha : PB X cl W a ma) : PWB X cl W (.BoolOp .And [a] pos) ma := pw_and1 ha
theorem pwb_or1 (ha : PB X cl W a ma) : PWB X cl W (.BoolOp .Or [a] pos) ma := pw_or1 ha
theorem pwb_and (ha : PB X cl W a ma) (hb : PWB X cl W (.BoolOp .And (b :: rest) pos) mb) : PWB X cl W (.BoolOp .And (a :: b :: rest) pos) (andB ma mb) :=
  PW.imp (pw_and ha hb) fun σ H Q ⟨F0, H0, ρ, F, ok, h⟩ => ⟨F0, H0, ρ, F, ok, (tRB.bindB h).imp fun k H1 ⟨F1, e1, h1⟩ => by
    cases k with
    | true => exact ⟨F0, H0, ρ, F1, ok.grow e1, h1⟩
    | false => exact h1 F1 H1 (Ext.refl e1.sub)⟩
theorem pwb_or (ha : PB X cl W a ma) (hb : PWB X cl W (.BoolOp .Or (b :: rest) pos) mb) : PWB X cl W (.BoolOp .Or (a :: b :: rest) pos) (orB ma mb) :=
  PW.imp (pw_or ha hb) fun σ H Q ⟨F0, H0, ρ, F, ok, h⟩ => ⟨F0, H0, ρ, F, ok, (tRB.bindB h).imp fun k H1 ⟨F1, e1, h1⟩ => by
    cases k with
    | false => exact ⟨F0, H0, ρ, F1, ok.grow e1, h1⟩
    | true => exact h1 F1 H1 (Ext.refl e1.sub)⟩
theorem PWB.t (h : PWB X cl W a ma) : PB X cl W a ma := PW.pt h
theorem pb_not (ha : PB X cl W a ma) : PB X cl W (.UnaryOp .Not a pos) (notB ma) :=
  PT.imp (pt_not ha) fun σ H Q ⟨F0, H0, ρ, F, ok, h⟩ => ⟨F0, H0, ρ, F, ok, (tRB.bindB h).imp fun k H1 ⟨F1, e1, h1⟩ => h1 F1 H1 (Ext.refl e1.sub)⟩
/-- x or y, x and y, not x as values -/
noncomputable def orV (ma mb : En → R D) : En → R D := fun ρ => (ma ρ).bind fun x => (ofO (truth x)).bind fun k => if k = true then .ok x else mb ρ
noncomputable def andV (ma mb : En → R D) : En → R D := fun ρ => (ma ρ).bind fun x => (ofO (truth x)).bind fun k => if k = true then mb ρ else .ok x
noncomputable def notV (ma : En → R D) : En → R D := fun ρ => (ma ρ).bind fun x => (ofO (truth x)).bind fun k => .ok (.bool (!k))
theorem pd_one {op : BoolOp} {m : En → R D} (h : PD X cl W a m) : PD X cl W (.BoolOp op [a] pos) m := pe_one h
theorem pd_or {ma mb : En → R D} (ha : PD X cl W a ma) (hb : PD X cl W (.BoolOp .Or (b :: rest) pos) mb) : PD X cl W (.BoolOp .Or (a :: b :: rest) pos) (orV ma mb) :=
  PE.imp (pe_orT ha hb) fun σ H Q ⟨F0, H0, ρ, F, ok, h⟩ => ⟨F0, H0, ρ, F, ok, (tR.bind anti_D h).imp fun v H1 ⟨F1, x, e1, p1, h1⟩ => by
    cases hr : truth x with
    | none => rw [hr] at h1; exact False.elim h1
    | some r =>
      rw [hr] at h1
      refine ⟨r, truth_ok hr (p1.mono e1.sub), ?_⟩
      cases r with
      | true => exact h1 v F1 H1 (Ext.refl e1.sub) p1
      | false => exact ⟨F0, H0, ρ, F1, ok.grow e1, h1⟩⟩
theorem pd_and {ma mb : En → R D} (ha : PD X cl W a ma) (hb : PD X cl W (.BoolOp .And (b :: rest) pos) mb) : PD X cl W (.BoolOp .And (a :: b :: rest) pos) (andV ma mb) :=
  PE.imp (pe_andT ha hb) fun σ H Q ⟨F0, H0, ρ, F, ok, h⟩ => ⟨F0, H0, ρ, F, ok, (tR.bind anti_D h).imp fun v H1 ⟨F1, x, e1, p1, h1⟩ => by
    cases hr : truth x with
    | none => rw [hr] at h1; exact False.elim h1
    | some r =>
      rw [hr] at h1
      refine ⟨r, truth_ok hr (p1.mono e1.sub), ?_⟩
      cases r with
      | false => exact h1 v F1 H1 (Ext.refl e1.sub) p1
      | true => exact ⟨F0, H0, ρ, F1, ok.grow e1, h1⟩⟩
theorem pd_not {ma : En → R D} (ha : PVw X cl W a ma) : PD X cl W (.UnaryOp .Not a pos) (notV ma) :=
  PE.imp (pe_notT ha) fun σ H Q ⟨F0, H0, ρ, F, ok, h⟩ => ⟨F0, H0, ρ, F, ok, (tR.bind anti_D h).imp fun v H1 ⟨F1, x, e1, p1, h1⟩ => by
    cases hr : truth x with
    | none => rw [hr] at h1; exact False.elim h1
    | some r => rw [hr] at h1; exact ⟨r, truth_ok hr p1, h1 _ F1 H1 (Ext.refl e1.sub) (.bl _)⟩⟩
noncomputable def ifV {α : Type} (mc : En → R Bool) (ma mb : En → R α) : En → R α := fun ρ => (mc ρ).bind fun k => if k = true then ma ρ else mb ρ
theorem pd_if {c : Expr} {mc : En → R Bool} {ma mb : En → R D} (hc : PB X cl W c mc) (ha : PD X cl W a ma) (hb : PD X cl W b mb) : PD X cl W (.IfExp c a b pos) (ifV mc ma mb) :=
  PE.imp (pe_ifExp hc ha hb) fun σ H Q ⟨F0, H0, ρ, F, ok, h⟩ => ⟨F0, H0, ρ, F, ok, (tR.bindB anti_D h).imp fun k H1 ⟨F1, e1, h1⟩ => by
    cases k with
    | true => exact ⟨F0, H0, ρ, F1, ok.grow e1, h1⟩
    | false => exact ⟨F0, H0, ρ, F1, ok.grow e1, h1⟩⟩

/-! ### arguments, displays -/
noncomputable def argN : En → R (List D) := fun _ => .ok []
noncomputable def argC (m : En → R D) (r : En → R (List D)) : En → R (List D) := fun ρ => (m ρ).bind fun x => (r ρ).bind fun xs => .ok (x :: xs)
theorem pas_nil : PAs X cl W [] argN := PA.imp pa_nil fun σ H Q ⟨F0, H0, ρ, F, ok, h⟩ => h [] F H (Ext.refl ok.sub) .nil
theorem pas_cons {es : List Expr} {m : En → R D} {r : En → R (List D)} (ha : PD X cl W e m) (hr : PAs X cl W es r) (hs : starEach (e :: es) X.env = (false, eval e X.env) :: starEach es X.env := by rfl) : PAs X cl W (e :: es) (argC m r) :=
  PA.imp (pa_cons ha hr hs) fun σ H Q ⟨F0, H0, ρ, F, ok, h⟩ => ⟨F0, H0, ρ, F, ok, (tRA.bind h).imp fun v H1 ⟨F1, x, e1, p1, h1⟩ =>
    ⟨F0, H0, ρ, F1, ok.grow e1, (tRA.bindA h1).imp fun vs H2 ⟨F2, xs, e2, p2, h2⟩ => h2 (v :: vs) F2 H2 (Ext.refl e2.sub) (.cons (p1.mono e2.le) p2)⟩⟩
noncomputable def small (xs : List D) : Bool := decide (xs.length ≤ sizeLine)
noncomputable def tupD (m : En → R (List D)) : En → R D := fun ρ => (m ρ).bind fun xs => if small xs = true then .ok (.tuple xs) else .no
noncomputable def lstF (m : En → R (List D)) : En → R (List D) := fun ρ => (m ρ).bind fun xs => if small xs = true then .ok xs else .no
theorem pd_tup {es : List Expr} {x1 : Nat} {m : En → R (List D)} (h : PAs X cl W es m) : PD X cl W (.Tuple es x1 pos) (tupD m) :=
  PE.imp (pe_tup h) fun σ H Q ⟨F0, H0, ρ, F, ok, h⟩ => ⟨F0, H0, ρ, F, ok, (tR.bindA anti_D h).imp fun vs H1 ⟨F1, xs, e1, p1, h1⟩ => by
    cases hs : small xs with
    | false => rw [hs] at h1; exact False.elim h1
    | true =>
      rw [hs] at h1
      refine ⟨by rw [p1.length]; exact of_decide_eq_true hs, fun p np => ?_⟩
      have g := Ext.grow e1.sub (o := .tup vs) np
      have fp := e1.sub.none np
      exact h1 _ _ _ (g.freeze np upd_same fp) (.tup (.inl (.inl upd_same)) (p1.mono ((Le.refl F1).upd fp)))⟩
theorem pf_lst {es : List Expr} {m : En → R (List D)} (h : PAs X cl W es m) : PF X cl W (.List es pos) (lstF m) :=
  PE.imp (pe_lst h) fun σ H Q ⟨F0, H0, ρ, F, ok, h⟩ => ⟨F0, H0, ρ, F, ok, (tR.bindA anti_F h).imp fun vs H1 ⟨F1, xs, e1, p1, h1⟩ => by
    cases hs : small xs with
    | false => rw [hs] at h1; exact False.elim h1
    | true =>
      rw [hs] at h1
      refine ⟨by rw [p1.length]; exact of_decide_eq_true hs, fun p np => ?_⟩
      exact h1 _ _ _ (Ext.grow e1.sub (o := .lst vs) np) ⟨p, vs, rfl, np, e1.sub.none np, upd_same, p1⟩⟩

/-! ### calls of built-ins by values -/
/-- one argument, read; data comes -/
noncomputable def C1S (K : PySem.W.Frag) (rd : List V → Hp → VK → Prop) (f : D → Option D) : Prop := ∀ d r, f d = some r → ∀ F H x Q, Le F H → Rp K H x d → (∀ v F' H', Ext F H F' H' → Rp K F' v r → Q v H') → rd [x] H Q
theorem pa_one {t : TE} (h : PE X e t) (hs : starEach [e] X.env = (false, eval e X.env) :: starEach [] X.env := by rfl) : PA X [e] (tCons t tNil) := pa_cons h pa_nil hs
theorem pd_b1 {x : Str} {p : Pos} {id : String} {rd : List V → Hp → VK → Prop} {f : D → Option D} {ma : En → R D} (hc : CallR X (.builtin id) rd) (hf : C1S X.K rd f) (hg : Gl X x) (hm : X.mg x = none) (hv : bootBuiltins x = some (.builtin id)) (ha : PVw X cl W a ma)
    (hn : x ≠ "__name__" := by decide) (hd : (x == ("__debug__" : Str)) = false := by decide) (hs : starEach [a] X.env = (false, eval a X.env) :: starEach [] X.env := by rfl) (hpl : (backTo pos (starEach [] X.env)).any (·.1) = false := by rfl) :
    PD X cl W (.Call (.Name x p) [a] [] pos) (un1 f ma) := by
  refine PE.imp (pe_callB hc hg hm hv (pa_one ha hs) hn hd hs hpl) fun σ H Q ⟨F0, H0, ρ, F, ok, h⟩ => ?_
  refine ⟨F0, H0, ρ, F, ok, (tR.bind anti_D h).imp fun v H1 ⟨F1, x, e1, p1, h1⟩ => ?_⟩
  cases hr : f x with
  | none => rw [hr] at h1; exact False.elim h1
  | some r => rw [hr] at h1; exact hf x r hr F1 H1 v Q e1.sub p1 h1
theorem pd_t1 {x : Str} {p : Pos} {id : String} {rd : List V → Hp → VK → Prop} {f : D → Option D} {ma : En → R D} (hc : CallR X (.type id) rd) (hf : C1S X.K rd f) (hg : Gl X x) (hm : X.mg x = none) (hv : bootBuiltins x = some (.type id)) (ha : PVw X cl W a ma)
    (hn : x ≠ "__name__" := by decide) (hd : (x == ("__debug__" : Str)) = false := by decide) (hs : starEach [a] X.env = (false, eval a X.env) :: starEach [] X.env := by rfl) (hpl : (backTo pos (starEach [] X.env)).any (·.1) = false := by rfl) :
    PD X cl W (.Call (.Name x p) [a] [] pos) (un1 f ma) := by
  refine PE.imp (pe_callTy hc hg hm hv (pa_one ha hs) hn hd hs hpl) fun σ H Q ⟨F0, H0, ρ, F, ok, h⟩ => ?_
  refine ⟨F0, H0, ρ, F, ok, (tR.bind anti_D h).imp fun v H1 ⟨F1, x, e1, p1, h1⟩ => ?_⟩
  cases hr : f x with
  | none => rw [hr] at h1; exact False.elim h1
  | some r => rw [hr] at h1; exact hf x r hr F1 H1 v Q e1.sub p1 h1
/-- two arguments, data -/
noncomputable def C2S (K : PySem.W.Frag) (rd : List V → Hp → VK → Prop) (f : D → D → Option D) : Prop := ∀ d e r, f d e = some r → ∀ F H x y Q, Le F H → Rp K F x d → Rp K F y e → (∀ v F' H', Ext F H F' H' → Rp K F' v r → Q v H') → rd [x, y] H Q
theorem pd_b2 {x : Str} {p : Pos} {id : String} {rd : List V → Hp → VK → Prop} {f : D → D → Option D} {ma mb : En → R D} (hc : CallR X (.builtin id) rd) (hf : C2S X.K rd f) (hg : Gl X x) (hm : X.mg x = none) (hv : bootBuiltins x = some (.builtin id)) (ha : PD X cl W a ma) (hb : PD X cl W b mb)
    (hn : x ≠ "__name__" := by decide) (hd : (x == ("__debug__" : Str)) = false := by decide) (hs : starEach [a, b] X.env = (false, eval a X.env) :: starEach [b] X.env := by rfl) (hs2 : starEach [b] X.env = (false, eval b X.env) :: starEach [] X.env := by rfl) (hpl : (backTo pos (starEach [b] X.env)).any (·.1) = false := by rfl) :
    PD X cl W (.Call (.Name x p) [a, b] [] pos) (bin2 f ma mb) := by
  refine PE.imp (pe_callB hc hg hm hv (pa_cons ha (pa_one hb hs2) hs) hn hd hs hpl) fun σ H Q ⟨F0, H0, ρ, F, ok, h⟩ => ?_
  refine ⟨F0, H0, ρ, F, ok, (tR.bind anti_D h).imp fun v H1 ⟨F1, x, e1, p1, h1⟩ => ?_⟩
  refine ⟨F0, H0, ρ, F1, ok.grow e1, (tR.bind anti_D h1).imp fun u H2 ⟨F2, y, e2, p2, h2⟩ => ?_⟩
  cases hr : f x y with
  | none => rw [hr] at h2; exact False.elim h2
  | some r => rw [hr] at h2; exact hf x y r hr F2 H2 v u Q e2.sub (p1.mono e2.le) p2 h2
/-- a subscript: elements of data, or of a list to be read -/
theorem pd_ix {rd : R2} {f : D → D → Option D} {ma mb : En → R D} (hr : IxR X rd) (hf : OpS X.K rd f) (ha : PD X cl W a ma) (hb : PD X cl W b mb) (hs : PlainIx b := by intro _ _; rfl) : PD X cl W (.Subscript a b pos) (bin2 f ma mb) := by
  refine PE.imp (pe_ix hr ha hb hs) fun σ H Q ⟨F0, H0, ρ, F, ok, h⟩ => ?_
  refine ⟨F0, H0, ρ, F, ok, (tR.bind anti_D h).imp fun v H1 ⟨F1, x, e1, p1, h1⟩ => ?_⟩
  refine ⟨F0, H0, ρ, F1, ok.grow e1, (tR.bind anti_D h1).imp fun u H2 ⟨F2, y, e2, p2, h2⟩ => ?_⟩
  cases hr : f x y with
  | none => rw [hr] at h2; exact False.elim h2
  | some r => rw [hr] at h2; exact hf x y r hr F2 H2 v u Q e2.sub (p1.mono e2.le) p2 h2
noncomputable def atF {α : Type} (xs : List α) (i : Int) : Option α := Int.rec (fun n => (List.rec (fun _ => none) (fun x _ ih n => Nat.rec (some x) (fun m _ => ih m) n) xs : Nat → Option α) n) (fun n => atI xs (.negSucc n)) i
theorem atF_eq {α : Type} {xs : List α} {i : Int} : atF xs i = atI xs i := by
  cases i with
  | negSucc n => rfl
  | ofNat n =>
    have e1 : atI xs (Int.ofNat n) = xs[n]? := by
      unfold atI ixN
      have h0 : (0 : Int) ≤ Int.ofNat n := Int.natCast_nonneg n
      rw [if_pos h0]
      by_cases h : Int.ofNat n < (xs.length : Int)
      · rw [if_pos h]; rfl
      · rw [if_neg h]
        have : xs.length ≤ n := by
          have : ¬ ((n : Int) < (xs.length : Int)) := h
          omega
        rw [List.getElem?_eq_none this]; rfl
    rw [e1]
    show (List.rec (fun _ => none) (fun x _ ih n => Nat.rec (some x) (fun m _ => ih m) n) xs : Nat → Option α) n = _
    induction xs generalizing n with
    | nil => rfl
    | cons x r ih =>
      cases n with
      | zero => rfl
      | succ m =>
        rw [List.getElem?_cons_succ]
        refine ih m ?_
        unfold atI ixN
        have h0 : (0 : Int) ≤ Int.ofNat m := Int.natCast_nonneg m
        rw [if_pos h0]
        by_cases h : Int.ofNat m < (r.length : Int)
        · rw [if_pos h]; rfl
        · rw [if_neg h]
          have : r.length ≤ m := by
            have : ¬ ((m : Int) < (r.length : Int)) := h
            omega
          rw [List.getElem?_eq_none this]; rfl
noncomputable def atL (xs : List D) : D → Option D
  | .int i => atF xs i
  | _ => none
theorem pd_ixl {ma : En → R (List D)} {mb : En → R D} (ha : PL X cl W a ma) (hb : PD X cl W b mb) (hs : PlainIx b := by intro _ _; rfl) : PD X cl W (.Subscript a b pos) (bin2 atL ma mb) := by
  refine PE.imp (pe_ix ix_list ha hb hs) fun σ H Q ⟨F0, H0, ρ, F, ok, h⟩ => ?_
  refine ⟨F0, H0, ρ, F, ok, (tR.bind anti_D h).imp fun v H1 ⟨F1, x, e1, ⟨a, vs, hv, s1, r1⟩, h1⟩ => ?_⟩
  refine ⟨F0, H0, ρ, F1, ok.grow e1, (tR.bind anti_D h1).imp fun u H2 ⟨F2, y, e2, p2, h2⟩ => ?_⟩
  cases y with
  | int i =>
    cases hr : atL x (.int i) with
    | none => rw [hr] at h2; exact False.elim h2
    | some r =>
      rw [hr] at h2
      obtain rfl := Rp.inv_int p2
      have hr : (ixN x.length i).bind (fun j => x[j]?) = some r := atF_eq.symm.trans hr
      cases hj : ixN x.length i with
      | none => rw [hj] at hr; cases hr
      | some j =>
        rw [hj] at hr
        obtain ⟨w', g1, g2⟩ := RpA.getD r1 (show x[j]? = some r from hr)
        refine ⟨a, vs, i, w', hv, rfl, e2.keep |> fun k => Le.sql k s1, ?_, h2 w' F2 H2 (Ext.refl e2.sub) (g2.mono e2.le)⟩
        unfold atI
        rw [r1.length, hj]
        exact g1
  | _ => exact False.elim h2
end
end Mir
namespace Mir
open PySem PySem.Spec PyProof.Rows L2

/-! ### statements -/
inductive Fl where
  | nx (ρ : En)
  | rt (d : D)
  | ro (xs : List D)
  | rk (d : D) (a : Addr) (kvs : List (D × D))
  | bk (ρ : En)
  | ct (ρ : En)
section
variable (cl : String → Addr) (W : XK) (K : PySem.W.Frag)
noncomputable def tRS (F0 H0 F : Hp) (r : R Fl) (Dn : Ends) : Prop := match r with
  | .ok (.nx ρ') => ∀ σ' F' H', Ok K F0 H0 ρ' F' σ' H' → Le F F' → Dn.nx σ' H'
  | .ok (.bk ρ') => ∀ σ' F' H', Ok K F0 H0 ρ' F' σ' H' → Le F F' → Dn.bk σ' H'
  | .ok (.ct ρ') => ∀ σ' F' H', Ok K F0 H0 ρ' F' σ' H' → Le F F' → Dn.ct σ' H'
  | .ok (.rt d) => ∀ v F' H', Ext F0 H0 F' H' → Rp K F' v d → Dn.rt v H'
  | .ok (.ro xs) => ∀ p vs F' H', Ext F0 H0 F' H' → H0 p = none → F' p = none → H' p = some (.lst vs) → RpA K F' vs xs → Dn.rt (.ref p) H'
  | .ok (.rk d a kvs) => ∀ v F' H', Ext F0 H0 F' H' → Rp K F' v d → H0 a = none → F' a = none → DkAt K F' H' a kvs → Dn.rt v H'
  | .ex c n => ExW W cl c n H0
  | .no => False
noncomputable def tS (m : En → R Fl) : TS := fun Dn σ H => ∃ F0 H0 ρ F, Ok K F0 H0 ρ F σ H ∧ tRS cl W K F0 H0 F (m ρ) Dn
end
noncomputable def PSt (X : Cx) (cl : String → Addr) (W : XK) (st : Stmt) (m : En → R Fl) : Prop := PS X st (tS cl W X.K m)
noncomputable def PBl (X : Cx) (cl : String → Addr) (W : XK) (sts : List Stmt) (m : En → R Fl) : Prop := PSs X sts (tS cl W X.K m)
section
variable {cl : String → Addr} {W : XK} {K : PySem.W.Frag} {F0 H0 F F' : Hp} {r : R Fl} {Dn Dn' : Ends}
theorem tRS.mono (h : tRS cl W K F0 H0 F r Dn) (e : Le F F') : tRS cl W K F0 H0 F' r Dn := by
  cases r with
  | ok f =>
    cases f with
    | nx ρ => exact fun σ' F2 H' o l => h σ' F2 H' o (e.trans l)
    | bk ρ => exact fun σ' F2 H' o l => h σ' F2 H' o (e.trans l)
    | ct ρ => exact fun σ' F2 H' o l => h σ' F2 H' o (e.trans l)
    | rt d => exact h
    | ro d => exact h
    | rk d a k => exact h
  | ex c n => exact h
  | no => exact h
/-- an expression's result within a statement -/
theorem tRS.expr {α : Type} {P : Po α} {m : R α} {f : α → R Fl} {H : Hp} {Q : VK} (h : tRS cl W K F0 H0 F (m.bind f) Dn) (l0 : Le H0 H)
    (g : ∀ v F1 H1 a, Ext F H F1 H1 → P H a v F1 H1 → tRS cl W K F0 H0 F1 (f a) Dn → Q v H1) : tR cl W P m F H Q := by
  cases m with
  | ok a => exact fun v F1 H1 e p => g v F1 H1 a e p (tRS.mono h e.le)
  | ex c n => exact ExW.grow h l0
  | no => exact h
theorem tRS.test {m : R Bool} {f : Bool → R Fl} {H : Hp} {Q : Bool → Hp → Prop} (h : tRS cl W K F0 H0 F (m.bind f) Dn) (l0 : Le H0 H)
    (g : ∀ b F1 H1, Ext F H F1 H1 → tRS cl W K F0 H0 F1 (f b) Dn → Q b H1) : tRB cl W m F H Q := by
  cases m with
  | ok a => exact fun F1 H1 e => g a F1 H1 e (tRS.mono h e.le)
  | ex c n => exact ExW.grow h l0
  | no => exact h
end

section
variable {X : Cx} {cl : String → Addr} {W : XK} {st : Stmt} {rest : List Stmt} {e a b : Expr} {pos : Pos} {m m1 m2 : En → R Fl}
/-! ### blocks -/
noncomputable def seqS (m1 m2 : En → R Fl) : En → R Fl := fun ρ => (m1 ρ).bind fun f => match f with
  | .nx ρ1 => m2 ρ1
  | f => .ok f
noncomputable def nxS : En → R Fl := fun ρ => .ok (.nx ρ)
theorem bl_nil : PBl X cl W [] nxS := PSs.imp pss_nil fun σ H Q ⟨F0, H0, ρ, F, ok, h⟩ => h σ F H ok (Le.refl F)
theorem bl_one (h : PSt X cl W st m) : PBl X cl W [st] m := pss_one h
theorem bl_cons (h1 : PSt X cl W st m1) (h2 : PBl X cl W rest m2) : PBl X cl W (st :: rest) (seqS m1 m2) := by
  refine PSs.imp (pss_cons h1 h2) fun σ H Q ⟨F0, H0, ρ, F, ok, h⟩ => ⟨F0, H0, ρ, F, ok, ?_⟩
  have h : tRS cl W X.K F0 H0 F ((m1 ρ).bind fun f => match f with
    | .nx ρ1 => m2 ρ1
    | f => .ok f) Q := h
  cases hr : m1 ρ with
  | ok f =>
    rw [hr] at h
    cases f with
    | nx ρ1 => exact fun σ' F' H' o l => ⟨F0, H0, ρ1, F', o, tRS.mono h l⟩
    | bk ρ => exact h
    | ct ρ => exact h
    | rt d => exact h
    | ro d => exact h
    | rk d a k => exact h
  | ex c n => rw [hr] at h; exact h
  | no => rw [hr] at h; exact h
/-- an own list is frozen from here on -/
noncomputable def frzE (i : Nat) (ρ : En) : En := match nth ρ i with
  | .ce xs => setE ρ i (.da (.list xs))
  | _ => ρ
theorem bl_frz (i : Nat) (h : PBl X cl W rest m) : PBl X cl W rest (fun ρ => m (frzE i ρ)) := by
  refine PSs.imp h fun σ H Q ⟨F0, H0, ρ, F, ok, h⟩ => ?_
  have h : tRS cl W X.K F0 H0 F (m (frzE i ρ)) Q := h
  unfold frzE at h
  cases hx : nth ρ i with
  | ce xs =>
    rw [hx] at h
    obtain ⟨F', l, ok'⟩ := ok.frz (nth_ce hx)
    have h : tRS cl W X.K F0 H0 F (m (setE ρ i (.da (.list xs)))) Q := h
    rw [setE_eq] at h
    exact ⟨F0, H0, _, F', ok', tRS.mono h l⟩
  | un => rw [hx] at h; exact ⟨F0, H0, ρ, F, ok, h⟩
  | da d => rw [hx] at h; exact ⟨F0, H0, ρ, F, ok, h⟩
  | er d dx n => rw [hx] at h; exact ⟨F0, H0, ρ, F, ok, h⟩
  | sc d => rw [hx] at h; exact ⟨F0, H0, ρ, F, ok, h⟩
  | dk a k => rw [hx] at h; exact ⟨F0, H0, ρ, F, ok, h⟩
  | dd k => rw [hx] at h; exact ⟨F0, H0, ρ, F, ok, h⟩
  | ow k => rw [hx] at h; exact ⟨F0, H0, ρ, F, ok, h⟩
  | cc k => rw [hx] at h; exact ⟨F0, H0, ρ, F, ok, h⟩

/-! ### small statements -/
theorem st_pass : PSt X cl W (.Pass pos) nxS := PS.imp ps_pass fun σ H Q ⟨F0, H0, ρ, F, ok, h⟩ => h σ F H ok (Le.refl F)
theorem st_break : PSt X cl W (.Break pos) (fun ρ => .ok (.bk ρ)) := PS.imp ps_break fun σ H Q ⟨F0, H0, ρ, F, ok, h⟩ => h σ F H ok (Le.refl F)
theorem st_continue : PSt X cl W (.Continue pos) (fun ρ => .ok (.ct ρ)) := PS.imp ps_continue fun σ H Q ⟨F0, H0, ρ, F, ok, h⟩ => h σ F H ok (Le.refl F)
/-- code that the proof never comes to -/
theorem st_never : PSt X cl W st (fun _ => .no) := PS.imp ps_never fun σ H Q ⟨F0, H0, ρ, F, ok, h⟩ => h
noncomputable def setS (i : Nat) (m : En → R D) : En → R Fl := fun ρ => (m ρ).bind fun d => .ok (.nx (setE ρ i (.da d)))
theorem st_set {i : Nat} {x : Str} {m : En → R D} {pos' : Pos} (hN : X.N.Nodup) (hi : X.N[i]? = some x) (hx : Loc X.env.scope x) (he : PD X cl W e m) (hs : swapsWith e (some (.Name x pos')) pos.line X.env = pure false := by rfl) (hf : X.fn x = true ∨ X.env.scope.names.lookup x = some .local := by first | exact .inl rfl | exact .inr rfl | assumption) :
    PSt X cl W (.Assign [.Name x pos'] e pos) (setS i m) := by
  refine PS.imp (ps_set hN hi hx he hs hf) fun σ H Q ⟨F0, H0, ρ, F, ok, h⟩ => ⟨F0, H0, ρ, F, ok, ?_⟩
  exact tRS.expr h ok.ext.keep fun v F1 H1 d e1 p1 h1 => h1 _ F1 H1 (by rw [setE_eq]; exact (ok.grow e1).set i p1) (Le.refl F1)
noncomputable def setC (i : Nat) (m : En → R (List D)) : En → R Fl := fun ρ => (m ρ).bind fun d => .ok (.nx (setE ρ i (.ce d)))
theorem new_cell {K : PySem.W.Frag} {F0 H0 F H F1 H1 : Hp} {ρ : En} {σ : St} {i : Nat} {d : List D} {v : V} (ok : Ok K F0 H0 ρ F σ H) (e1 : Ext F H F1 H1) (p : poF K H d v F1 H1) : Ok K F0 H0 (ρ.set i (.ce d)) F1 (σ.set i (some v)) H1 := by
  obtain ⟨p, vs, rfl, np, fp, hp, r⟩ := p
  exact ok.newc e1 i np fp hp r
theorem st_setc {i : Nat} {x : Str} {m : En → R (List D)} {pos' : Pos} (hN : X.N.Nodup) (hi : X.N[i]? = some x) (hx : Loc X.env.scope x) (he : PF X cl W e m) (hs : swapsWith e (some (.Name x pos')) pos.line X.env = pure false := by rfl) (hf : X.fn x = true ∨ X.env.scope.names.lookup x = some .local := by first | exact .inl rfl | exact .inr rfl | assumption) :
    PSt X cl W (.Assign [.Name x pos'] e pos) (setC i m) := by
  refine PS.imp (ps_set hN hi hx he hs hf) fun σ H Q ⟨F0, H0, ρ, F, ok, h⟩ => ⟨F0, H0, ρ, F, ok, ?_⟩
  exact tRS.expr h ok.ext.keep fun v F1 H1 d e1 p1 h1 => h1 _ F1 H1 (by rw [setE_eq]; exact new_cell ok e1 p1) (Le.refl F1)
/-- a, b = x, y with plain local names -/
noncomputable def parS (i j : Nat) (ma mb : En → R D) : En → R Fl := fun ρ => (ma ρ).bind fun d => (mb ρ).bind fun e => .ok (.nx (setE (setE ρ i (.da d)) j (.da e)))
theorem st_par {i j : Nat} {x y : Str} {ma mb : En → R D} {px py pt : Pos} {kt k2 pt2} (hc : X.calm = true) (hN : X.N.Nodup) (hi : X.N[i]? = some x) (hj : X.N[j]? = some y) (hij : i ≠ j)
    (hx : X.env.scope.names.lookup x = some .local) (hy : X.env.scope.names.lookup y = some .local) (ha : PD X cl W a ma) (hb : PD X cl W b mb)
    (hw : swappedStores [.Tuple [.Name x px, .Name y py] kt pt] (.Tuple [a, b] k2 pt2) X.env = pure (some [x, y]))
    (hs : swapsWithSole [.Tuple [.Name x px, .Name y py] kt pt] (.Tuple [a, b] k2 pt2) pos.line X.env = pure false := by rfl)
    (hs1 : starEach (a :: [b]) X.env = (false, eval a X.env) :: starEach [b] X.env := by rfl) (hs2 : starEach (b :: []) X.env = (false, eval b X.env) :: starEach [] X.env := by rfl) :
    PSt X cl W (.Assign [.Tuple [.Name x px, .Name y py] kt pt] (.Tuple [a, b] k2 pt2) pos) (parS i j ma mb) := by
  refine PS.imp (ps_par hc hN hi hj hij hx hy (pa_cons ha (pa_cons hb pa_nil hs2) hs1) hw hs) fun σ H Q ⟨F0, H0, ρ, F, ok, h⟩ => ⟨F0, H0, ρ, F, ok, ?_⟩
  refine tRS.expr h ok.ext.keep fun v F1 H1 d e1 p1 h1 => ⟨F0, H0, ρ, F1, ok.grow e1, ?_⟩
  refine tRS.expr h1 (ok.ext.keep.trans e1.keep) fun u F2 H2 c e2 p2 h2 => ⟨v, u, rfl, ?_⟩
  exact h2 _ F2 H2 (by rw [setE_eq, setE_eq]; exact (((ok.grow e1).grow e2).set i (p1.mono e2.le)).set j p2) (Le.refl F2)
noncomputable def dropS {α : Type} (m : En → R α) : En → R Fl := fun ρ => (m ρ).bind fun _ => .ok (.nx ρ)
theorem st_expr {m : En → R D} (he : PD X cl W e m) (hs : swapsWith e none pos.line X.env = pure false := by rfl) : PSt X cl W (.Expr e pos) (dropS m) := by
  refine PS.imp (ps_expr he hs) fun σ H Q ⟨F0, H0, ρ, F, ok, h⟩ => ⟨F0, H0, ρ, F, ok, ?_⟩
  exact tRS.expr h ok.ext.keep fun v F1 H1 d e1 p1 h1 => h1 _ F1 H1 (ok.grow e1) (Le.refl F1)
noncomputable def retS (m : En → R D) : En → R Fl := fun ρ => (m ρ).bind fun d => .ok (.rt d)
theorem st_ret {m : En → R D} (he : PD X cl W e m) : PSt X cl W (.Return (some e) pos) (retS m) := by
  refine PS.imp (ps_ret he) fun σ H Q ⟨F0, H0, ρ, F, ok, h⟩ => ⟨F0, H0, ρ, F, ok, ?_⟩
  exact tRS.expr h ok.ext.keep fun v F1 H1 d e1 p1 h1 => h1 v F1 H1 (ok.ext.trans e1) p1
noncomputable def retF (m : En → R (List D)) : En → R Fl := fun ρ => (m ρ).bind fun d => .ok (.ro d)
theorem st_retF {m : En → R (List D)} (he : PF X cl W e m) : PSt X cl W (.Return (some e) pos) (retF m) := by
  refine PS.imp (ps_ret he) fun σ H Q ⟨F0, H0, ρ, F, ok, h⟩ => ⟨F0, H0, ρ, F, ok, ?_⟩
  refine tRS.expr h ok.ext.keep fun v F1 H1 d e1 p1 h1 => ?_
  obtain ⟨p, vs, rfl, np, fp, hp, r⟩ := p1
  exact h1 p vs F1 H1 (ok.ext.trans e1) (ok.ext.keep.none np) fp hp r
/-- an own list is handed back -/
noncomputable def retC (i : Nat) : En → R Fl := fun ρ => (getc i ρ).bind fun d => .ok (.ro d)
theorem st_retC {i : Nat} (h : PE X e (tVar i)) : PSt X cl W (.Return (some e) pos) (retC i) := by
  refine PS.imp (ps_ret h) fun σ H Q ⟨F0, H0, ρ, F, ok, q⟩ => ?_
  unfold retC getc at q
  cases hx : nth ρ i with
  | ce d =>
    rw [hx] at q
    obtain ⟨a, vs, h1, h2, h3, h4, h5⟩ := ok.ce (nth_ce hx)
    exact ⟨_, h1, q a vs F H ok.ext h4 h3 h2 h5⟩
  | _ => rw [hx] at q; exact False.elim q
noncomputable def retN : En → R Fl := fun _ => .ok (.rt .none)
theorem st_retN : PSt X cl W (.Return none pos) retN := PS.imp ps_retN fun σ H Q ⟨F0, H0, ρ, F, ok, h⟩ => h _ F H ok.ext .non
noncomputable def ifS (mc : En → R Bool) (ma mb : En → R Fl) : En → R Fl := fun ρ => (mc ρ).bind fun k => if k = true then ma ρ else mb ρ
theorem st_if {c : Expr} {s1 s2 : List Stmt} {mc : En → R Bool} (hc : PB X cl W c mc) (ha : PBl X cl W s1 m1) (hb : PBl X cl W s2 m2) : PSt X cl W (.If c s1 s2 pos) (ifS mc m1 m2) := by
  refine PS.imp (ps_if hc ha hb) fun σ H Q ⟨F0, H0, ρ, F, ok, h⟩ => ⟨F0, H0, ρ, F, ok, ?_⟩
  refine tRS.test h ok.ext.keep fun k F1 H1 e1 h1 => ?_
  cases k with
  | true => exact ⟨F0, H0, ρ, F1, ok.grow e1, h1⟩
  | false => exact ⟨F0, H0, ρ, F1, ok.grow e1, h1⟩

/-! ### targets -/
abbrev Tg := D → En → Option En
noncomputable def tGp (K : PySem.W.Frag) (g : Tg) (sl : List Nat) : TG := fun v σ H Q => ∃ F0 H0 ρ F d, Ok K F0 H0 ρ F σ H ∧ Rp K F v d ∧ match g d ρ with
  | some ρ' => ∀ σ', Ok K F0 H0 ρ' F σ' H → (∀ vs, (∀ i ∈ sl, i ∈ vs) → L2.wipe σ' vs = L2.wipe σ vs) → Q σ' H
  | none => False
noncomputable def PGp (X : Cx) (e : Expr) (g : Tg) (sl : List Nat) : Prop := PG X e (tGp X.K g sl)
abbrev Tgs := List D → En → Option En
noncomputable def tGps (K : PySem.W.Frag) (g : Tgs) (sl : List Nat) : TGs := fun vs σ H Q => ∃ F0 H0 ρ F ds, Ok K F0 H0 ρ F σ H ∧ RpA K F vs ds ∧ match g ds ρ with
  | some ρ' => ∀ σ', Ok K F0 H0 ρ' F σ' H → (∀ us, (∀ i ∈ sl, i ∈ us) → L2.wipe σ' us = L2.wipe σ us) → Q σ' H
  | none => False
noncomputable def PGps (X : Cx) (es : List Expr) (g : Tgs) (sl : List Nat) : Prop := PGs X es (tGps X.K g sl)
theorem wipe_set_in {σ : St} {i : Nat} {o : Option V} : ∀ {vs : List Nat}, i ∈ vs → L2.wipe (σ.set i o) vs = L2.wipe σ vs
  | [], h => by simp at h
  | v :: vs, h => by
    unfold L2.wipe
    by_cases hv : v = i
    · subst hv
      by_cases hi : v ∈ vs
      · rw [wipe_set_in hi]
      · have key : ∀ (us : List Nat) (σ : St), v ∉ us → L2.wipe (σ.set v o) us = (L2.wipe σ us).set v o := by
          intro us
          induction us with
          | nil => intro σ _; rfl
          | cons u us ih =>
            intro σ hn
            have h1 : v ≠ u := fun z => hn (by simp [z])
            have h2 : v ∉ us := fun z => hn (by simp [z])
            unfold L2.wipe
            rw [ih σ h2, List.set_comm _ _ h1]
        rw [key vs σ hi]
        simp
    · have hi : i ∈ vs := by
        rcases List.mem_cons.mp h with z | z
        · exact absurd z.symm hv
        · exact z
      rw [wipe_set_in hi]
noncomputable def gN (i : Nat) : Tg := fun d ρ => some (setE ρ i (.da d))
theorem pg_n {i : Nat} {x : Str} (hN : X.N.Nodup) (hi : X.N[i]? = some x) (hx : Loc X.env.scope x) (hf : X.fn x = true ∨ X.env.scope.names.lookup x = some .local := by first | exact .inl rfl | exact .inr rfl | assumption) : PGp X (.Name x pos) (gN i) [i] := by
  refine PG.imp (pg_name hN hi hx hf) fun v σ H Q ⟨F0, H0, ρ, F, d, ok, r, h⟩ => ?_
  exact h _ (by rw [setE_eq]; exact ok.set i r) fun vs hv => wipe_set_in (hv i (by simp))
noncomputable def gsN : Tgs := fun ds ρ => match ds with
  | [] => some ρ
  | _ => none
noncomputable def gsC (g : Tg) (gs : Tgs) : Tgs := fun ds ρ => match ds with
  | d :: ds => (g d ρ).bind fun ρ1 => gs ds ρ1
  | [] => none
theorem PGs.imp {X : Cx} {e : List Expr} {t t' : TGs} (h : PGs X e t) (i : ∀ v σ H Q, t' v σ H Q → t v σ H Q) : PGs X e t' := ⟨fun p s σ H v u Q I r w => h.run p s σ H v u Q I r (i v σ H Q w)⟩
theorem pgs_n : PGps X [] gsN [] := by
  refine PGs.imp pgs_nil fun vs σ H Q ⟨F0, H0, ρ, F, ds, ok, r, h⟩ => ?_
  cases r with
  | nil => exact ⟨rfl, h σ ok fun _ _ => rfl⟩
  | cons _ _ => exact False.elim h
theorem pgs_c {es : List Expr} {g : Tg} {gs : Tgs} {sl sl' : List Nat} (h1 : PGp X e g sl) (h2 : PGps X es gs sl') (hs : (assignEach (e :: es) X.env).map (·.2) = assign e X.env :: (assignEach es X.env).map (·.2) := by rfl) : PGps X (e :: es) (gsC g gs) (sl ++ sl') := by
  refine PGs.imp (pgs_cons h1 h2 hs) fun vs σ H Q ⟨F0, H0, ρ, F, ds, ok, r, h⟩ => ?_
  cases r with
  | nil => exact False.elim h
  | @cons v vs d ds rv rr =>
    refine ⟨v, vs, rfl, F0, H0, ρ, F, d, ok, rv, ?_⟩
    have h : match (g d ρ).bind fun ρ1 => gs ds ρ1 with
      | some ρ' => ∀ σ', Ok X.K F0 H0 ρ' F σ' H → (∀ us, (∀ i ∈ sl ++ sl', i ∈ us) → L2.wipe σ' us = L2.wipe σ us) → Q σ' H
      | none => False := h
    cases hr : g d ρ with
    | none => rw [hr] at h; exact h
    | some ρ1 =>
      rw [hr] at h
      intro σ1 ok1 w1
      refine ⟨F0, H0, ρ1, F, ds, ok1, rr, ?_⟩
      have h : match gs ds ρ1 with
        | some ρ' => ∀ σ', Ok X.K F0 H0 ρ' F σ' H → (∀ us, (∀ i ∈ sl ++ sl', i ∈ us) → L2.wipe σ' us = L2.wipe σ us) → Q σ' H
        | none => False := h
      cases hr2 : gs ds ρ1 with
      | none => rw [hr2] at h; exact h
      | some ρ2 =>
        rw [hr2] at h
        intro σ2 ok2 w2
        exact h σ2 ok2 fun us hu => (w2 us fun i hi => hu i (List.mem_append_right _ hi)).trans (w1 us fun i hi => hu i (List.mem_append_left _ hi))
noncomputable def gT (g : Tgs) : Tg := fun d ρ => match d with
  | .tuple ds => g ds ρ
  | _ => none
theorem pg_t {es : List Expr} {k : Nat} {g : Tgs} {sl : List Nat} {n : Nat} (hc : X.calm = true) (h : PGps X es g sl) (hlen : ∀ ds ρ ρ', g ds ρ = some ρ' → ds.length = n)
    (hn : (assignEach es X.env).length = n := by rfl) (hst : (assignEach es X.env).findIdx? (·.1) = none := by rfl) : PGp X (.Tuple es k pos) (gT g) sl := by
  refine PG.imp (pg_tup hc h hn hst) fun v σ H Q ⟨F0, H0, ρ, F, d, ok, r, h⟩ => ?_
  cases d with
  | tuple ds =>
    obtain ⟨a, vs, rfl, s, q⟩ := Rp.inv_tup r
    have h : match g ds ρ with
      | some ρ' => ∀ σ', Ok X.K F0 H0 ρ' F σ' H → (∀ us, (∀ i ∈ sl, i ∈ us) → L2.wipe σ' us = L2.wipe σ us) → Q σ' H
      | none => False := h
    refine ⟨a, vs, rfl, ok.sub.sqt s, ?_, F0, H0, ρ, F, ds, ok, q, h⟩
    cases hr : g ds ρ with
    | none => rw [hr] at h; exact False.elim h
    | some ρ' => rw [q.length]; exact hlen ds ρ ρ' hr
  | _ => exact False.elim h
theorem len_n {ds : List D} {ρ ρ' : En} (h : gsN ds ρ = some ρ') : ds.length = 0 := by
  cases ds with
  | nil => rfl
  | cons _ _ => cases h
theorem len_c {g : Tg} {gs : Tgs} {n : Nat} (i : ∀ ds ρ ρ', gs ds ρ = some ρ' → ds.length = n) : ∀ ds ρ ρ', gsC g gs ds ρ = some ρ' → ds.length = n + 1 := fun ds ρ ρ' h => by
  cases ds with
  | nil => cases h
  | cons d ds =>
    have h : (g d ρ).bind (fun ρ1 => gs ds ρ1) = some ρ' := h
    cases hr : g d ρ with
    | none => rw [hr] at h; cases h
    | some ρ1 => rw [hr] at h; rw [List.length_cons, i ds ρ1 ρ' h]
/-- target = value -/
noncomputable def asgS (g : Tg) (m : En → R D) : En → R Fl := fun ρ => (m ρ).bind fun d => (ofO (g d ρ)).bind fun ρ' => .ok (.nx ρ')
theorem st_asg {tg : Expr} {m : En → R D} {g : Tg} {sl : List Nat} (he : PD X cl W e m) (hg : PGp X tg g sl) (hs : swapsWithSole [tg] e pos.line X.env = pure false := by rfl) (hw : swappedStores [tg] e X.env = pure none := by rfl)
    (h1 : (assignEach [tg] X.env).map (·.2) = [assign tg X.env] := by rfl) : PSt X cl W (.Assign [tg] e pos) (asgS g m) := by
  refine PS.imp (ps_asg he hg hs hw h1) fun σ H Q ⟨F0, H0, ρ, F, ok, h⟩ => ⟨F0, H0, ρ, F, ok, ?_⟩
  refine tRS.expr h ok.ext.keep fun v F1 H1 d e1 p1 h1 => ⟨F0, H0, ρ, F1, d, ok.grow e1, p1, ?_⟩
  cases hr : g d ρ with
  | none => rw [hr] at h1; exact h1
  | some ρ' => rw [hr] at h1; exact fun σ' o w => h1 σ' F1 H1 o (Le.refl F1)

/-! ### what a loop walks -/
structure Walk (K : PySem.W.Frag) (J : It) (F1 G : Hp) (xs : List D) : Prop where
  go : ∀ (i : Nat) (F' H' : Hp), Le F1 F' → Le F' H' → Le G H' → ∀ d, xs[i]? = some d → J.go i H' ∧ ∀ x H'', J.yld i H' x H'' → ∃ F'', Ext F' H' F'' H'' ∧ Rp K F'' x d
  stop : ∀ (i : Nat) (F' H' : Hp), Le F1 F' → Le F' H' → Le G H' → xs.length ≤ i → J.stop i H'
theorem Walk.weak {K : PySem.W.Frag} {J : It} {F1 G G' : Hp} {xs : List D} (w : Walk K J F1 G xs) (l : Le G G') : Walk K J F1 G' xs :=
  ⟨fun i F' H' a b c => w.go i F' H' a b (l.trans c), fun i F' H' a b c => w.stop i F' H' a b (l.trans c)⟩
section
variable (cl : String → Addr) (W : XK) (K : PySem.W.Frag)
/-- own: whether all that stands at the start has to be kept -/
noncomputable def tRI (own : Bool) (r : R (List D)) (F H : Hp) (Rr : It → Hp → Prop) : Prop := match r with
  | .ok xs => ∀ J F1 H1, Ext F H F1 H1 → Walk K J F1 (if own = true then H1 else F1) xs → Rr J H1
  | .ex c n => ExW W cl c n H
  | .no => False
noncomputable def tI (own : Bool) (m : En → R (List D)) : TI := fun σ H Rr => ∃ F0 H0 ρ F, Ok K F0 H0 ρ F σ H ∧ tRI cl W K own (m ρ) F H Rr
end
/-- what a for or a comprehension goes through -/
noncomputable def PSr (X : Cx) (cl : String → Addr) (W : XK) (own : Bool) (tg e : Expr) (m : En → R (List D)) : Prop := PI X tg e (tI cl W X.K own m)
theorem tRI.bind {α : Type} {K : PySem.W.Frag} {P : Po α} {own : Bool} {m : R α} {f : α → R (List D)} {F H : Hp} {Rr : It → Hp → Prop} {Q : VK} (h : tRI cl W K own (m.bind f) F H Rr)
    (g : ∀ v F1 H1 a, Ext F H F1 H1 → P H a v F1 H1 → tRI cl W K own (f a) F1 H1 Rr → Q v H1) : tR cl W P m F H Q := by
  cases m with
  | ok a =>
    refine fun v F1 H1 e p => g v F1 H1 a e p ?_
    have h : tRI cl W K own (f a) F H Rr := h
    cases hr : f a with
    | ok xs => rw [hr] at h; exact fun J F2 H2 e2 w => h J F2 H2 (e.trans e2) w
    | ex c n => rw [hr] at h; exact ExW.grow h e.keep
    | no => rw [hr] at h; exact h
  | ex c n => exact h
  | no => exact h
theorem PSr.weak {tg : Expr} {m : En → R (List D)} (h : PSr X cl W false tg e m) : PSr X cl W true tg e m := PI.imp h fun σ H Rr ⟨F0, H0, ρ, F, ok, q⟩ => ⟨F0, H0, ρ, F, ok, by
  cases hr : m ρ with
  | ok xs => rw [hr] at q; exact fun J F1 H1 e w => q J F1 H1 e (w.weak (show Le F1 H1 from e.sub))
  | ex c n => rw [hr] at q; exact q
  | no => rw [hr] at q; exact q⟩
/-- a list, a tuple by its value -/
noncomputable def iSq (K : PySem.W.Frag) (tl : TE) : TI := fun σ H Rr => tl σ H fun x H1 => ∃ a, x = .ref a ∧ (((∃ xs, SqL K H1 a xs) ∧ Rr (Itl K a) H1) ∨ ((∃ xs, SqT K H1 a xs) ∧ Rr (Itt K a) H1))
theorem pi_sq {tg l : Expr} {tl : TE} (hl : PE X l tl) : PI X tg l (iSq X.K tl) := by
  refine ⟨fun pins s σ H Rr I h => ?_⟩
  refine thn (hl.run pins s σ H _ I h) fun v s1 ⟨x, H1, I1, r1, q1⟩ => ?_
  obtain ⟨a, e, q1⟩ := q1
  subst e
  cases r1
  rcases q1 with ⟨⟨xs, hq⟩, q⟩ | ⟨⟨xs, hq⟩, q⟩
  · obtain ⟨its, rv, p, hz⟩ := I1.list hq
    refine wpAny_pyIter_list p.isList ?_
    refine ⟨s1.heap.objs.size, [s1.heap.objs.size], _, _, H1, rfl, I1.kept (t' := s1.toks) fun b o e => Heap.get?_push_of_some _ e, turn_list a _, ⟨_, Heap.get?_push_size _ rfl, rfl, rfl⟩, fun b hb => ?_, q⟩
    have e : b = s1.heap.objs.size := by simpa using hb
    subst e
    exact I1.fpOk (Nat.le_refl _) (I1.hok.fresh (Nat.le_refl _))
  · obtain ⟨its, rv, p, hz⟩ := I1.tuple hq
    refine wpAny_pyIter_tuple (show s1.heap.IsTuple a its.toArray from p) ?_
    refine ⟨s1.heap.objs.size, [s1.heap.objs.size], _, _, H1, rfl, I1.kept (t' := s1.toks) fun b o e => Heap.get?_push_of_some _ e, turn_tuple a _, ⟨_, Heap.get?_push_size _ rfl, rfl, rfl⟩, fun b hb => ?_, q⟩
    have e : b = s1.heap.objs.size := by simpa using hb
    subst e
    exact I1.fpOk (Nat.le_refl _) (I1.hok.fresh (Nat.le_refl _))
noncomputable def items : D → R (List D)
  | .list xs => .ok xs
  | .tuple xs => .ok xs
  | _ => .no
/-- two readings of one list stand for the same items -/
theorem walk_list {K : PySem.W.Frag} {a : Addr} {vs : List V} {ds : List D} {F1 G : Hp} (s : SqL K G a vs) (r : RpA K F1 vs ds) : Walk K (Itl K a) F1 G ds where
  go := fun i F' H' l1 l2 l3 d hd => by
    obtain ⟨v, hv, rv⟩ := r.getD hd
    refine ⟨⟨vs, v, l3.sql s, hv⟩, fun x H'' y => ?_⟩
    obtain ⟨rfl, y⟩ := y
    have e := y vs (l3.sql s)
    rw [hv] at e; cases e
    exact ⟨F', Ext.refl l2, rv.mono l1⟩
  stop := fun i F' H' l1 l2 l3 hl => ⟨vs, l3.sql s, by rw [r.length]; exact hl⟩
theorem walk_tup {K : PySem.W.Frag} {a : Addr} {vs : List V} {ds : List D} {F1 G : Hp} (s : SqT K G a vs) (r : RpA K F1 vs ds) : Walk K (Itt K a) F1 G ds where
  go := fun i F' H' l1 l2 l3 d hd => by
    obtain ⟨v, hv, rv⟩ := r.getD hd
    refine ⟨⟨vs, v, l3.sqt s, hv⟩, fun x H'' y => ?_⟩
    obtain ⟨rfl, y⟩ := y
    have e := y vs (l3.sqt s)
    rw [hv] at e; cases e
    exact ⟨F', Ext.refl l2, rv.mono l1⟩
  stop := fun i F' H' l1 l2 l3 hl => ⟨vs, l3.sqt s, by rw [r.length]; exact hl⟩
theorem sr_d {tg : Expr} {m : En → R D} (h : PD X cl W e m) : PSr X cl W false tg e (fun ρ => (m ρ).bind items) := by
  refine PI.imp (pi_sq h) fun σ H Rr ⟨F0, H0, ρ, F, ok, q⟩ => ⟨F0, H0, ρ, F, ok, ?_⟩
  refine tRI.bind q fun v F1 H1 d e1 p1 q1 => ?_
  cases d with
  | list xs =>
    obtain ⟨a, vs, rfl, s, r⟩ := Rp.inv_list p1
    exact ⟨a, rfl, .inl ⟨⟨vs, .inl (.inl (e1.sub _ _ s))⟩, q1 _ F1 H1 (Ext.refl e1.sub) (walk_list (.inl (.inl s)) r)⟩⟩
  | tuple xs =>
    obtain ⟨a, vs, rfl, s, r⟩ := Rp.inv_tup p1
    exact ⟨a, rfl, .inr ⟨⟨vs, e1.sub.sqt s⟩, q1 _ F1 H1 (Ext.refl e1.sub) (walk_tup s r)⟩⟩
  | _ => exact False.elim q1
theorem sr_l {tg : Expr} {m : En → R (List D)} (h : PL X cl W e m) : PSr X cl W true tg e m := by
  refine PI.imp (pi_list h) fun σ H Rr ⟨F0, H0, ρ, F, ok, q⟩ => ⟨F0, H0, ρ, F, ok, ?_⟩
  cases hr : m ρ with
  | ok xs =>
    rw [hr] at q
    intro v F1 H1 e1 ⟨a, vs, hv, s, r⟩
    exact ⟨a, hv, ⟨vs, s⟩, q _ F1 H1 e1 (walk_list s r)⟩
  | ex c n => rw [hr] at q; exact q
  | no => rw [hr] at q; exact q
/-- a range -/
noncomputable def rng (lo hi : Int) : List D := (List.range (hi - lo).toNat).map fun (i : Nat) => PyData.int (lo + (i : Int))
noncomputable def rngK : D → R (List D)
  | .int j => if -(2 ^ 62) ≤ j ∧ j < 2 ^ 62 then .ok (rng 0 j) else .no
  | _ => .no
noncomputable def rng1 (m : En → R D) : En → R (List D) := fun ρ => (m ρ).bind rngK
theorem walk_range {K : PySem.W.Frag} {lo hi : Int} {F1 G : Hp} : Walk K (Itr lo (hi - lo).toNat) F1 G (rng lo hi) where
  go := fun i F' H' l1 l2 l3 d hd => by
    unfold rng at hd
    rw [List.getElem?_map] at hd
    cases q : (List.range (hi - lo).toNat)[i]? with
    | none => rw [q] at hd; cases hd
    | some k =>
      rw [q] at hd
      obtain ⟨h1, h2⟩ := List.getElem?_eq_some_iff.mp q
      rw [List.getElem_range] at h2
      subst h2
      have hlt : i < (hi - lo).toNat := by simpa using h1
      refine ⟨hlt, fun x H'' y => ?_⟩
      obtain ⟨rfl, rfl⟩ := y
      have hd : PyData.int (lo + (i : Int)) = d := Option.some.inj hd
      subst hd
      exact ⟨F', Ext.refl l2, .int _⟩
  stop := fun i F' H' l1 l2 l3 hl => by
    have : (rng lo hi).length = (hi - lo).toNat := by unfold rng; simp
    rw [this] at hl
    exact hl
theorem sr_r1 {tg : Expr} {p : Pos} {m : En → R D} (hg : Gl X "range") (hm : X.mg "range" = none) (ha : PD X cl W a m) (hs1 : starEach [a] X.env = (false, eval a X.env) :: starEach [] X.env := by rfl) (hs : starEach [a] X.env = [(false, eval a X.env)] := by rfl) : PSr X cl W false tg (.Call (.Name "range" p) [a] [] pos) (rng1 m) := by
  refine PI.imp (pi_range1 hg hm (pa_one ha hs1) hs) fun σ H Rr ⟨F0, H0, ρ, F, ok, q⟩ => ⟨F0, H0, ρ, F, ok, ?_⟩
  refine tRI.bind q fun v F1 H1 d e1 p1 q1 => ?_
  cases d with
  | int j =>
    obtain rfl := Rp.inv_int p1
    have q1 : tRI cl W X.K false (if -(2 ^ 62) ≤ j ∧ j < 2 ^ 62 then R.ok (rng 0 j) else .no) F1 H1 Rr := q1
    split at q1
    · rename_i hj
      refine ⟨j, rfl, hj.1, hj.2, ?_⟩
      have z := q1 (Itr 0 (j - 0).toNat) F1 H1 (Ext.refl e1.sub) walk_range
      rw [Int.sub_zero] at z
      exact z
    · exact False.elim q1
  | _ => exact False.elim q1
noncomputable def rng2 (ma mb : En → R D) : En → R (List D) := fun ρ => (ma ρ).bind fun d => (mb ρ).bind fun e => match d, e with
  | .int i, .int j => if (-(2 ^ 62) ≤ i ∧ i < 2 ^ 62) ∧ -(2 ^ 62) ≤ j ∧ j < 2 ^ 62 then .ok (rng i j) else .no
  | _, _ => .no
theorem sr_r2 {tg : Expr} {p : Pos} {ma mb : En → R D} (hg : Gl X "range") (hm : X.mg "range" = none) (ha : PD X cl W a ma) (hb : PD X cl W b mb) (hs1 : starEach [a, b] X.env = (false, eval a X.env) :: starEach [b] X.env := by rfl) (hs3 : starEach [b] X.env = (false, eval b X.env) :: starEach [] X.env := by rfl) (hs : starEach [a, b] X.env = [(false, eval a X.env), (false, eval b X.env)] := by rfl)
    (hs2 : starEach [b] X.env = [(false, eval b X.env)] := by rfl) : PSr X cl W false tg (.Call (.Name "range" p) [a, b] [] pos) (rng2 ma mb) := by
  refine PI.imp (pi_range2 hg hm (pa_cons ha (pa_one hb hs3) hs1) hs hs2) fun σ H Rr ⟨F0, H0, ρ, F, ok, q⟩ => ⟨F0, H0, ρ, F, ok, ?_⟩
  refine tRI.bind q fun v F1 H1 d e1 p1 q1 => ⟨F0, H0, ρ, F1, ok.grow e1, ?_⟩
  refine tRI.bind q1 fun u F2 H2 c e2 p2 q2 => ?_
  cases d with
  | int i =>
    cases c with
    | int j =>
      obtain rfl := Rp.inv_int p1
      obtain rfl := Rp.inv_int p2
      have q2 : tRI cl W X.K false (if (-(2 ^ 62) ≤ i ∧ i < 2 ^ 62) ∧ -(2 ^ 62) ≤ j ∧ j < 2 ^ 62 then R.ok (rng i j) else .no) F2 H2 Rr := q2
      split at q2
      · rename_i hj
        exact ⟨i, j, rfl, ⟨hj.1.1, hj.1.2, hj.2.1, hj.2.2⟩, q2 (Itr i (j - i).toNat) F2 H2 (Ext.refl e2.sub) walk_range⟩
      · exact False.elim q2
    | _ => exact False.elim q2
  | _ =>
    cases c <;> exact False.elim q2

/-! ### for -/
noncomputable def forL (g : Tg) (body : En → R Fl) (xs : List D) : En → R Fl :=
  List.rec (fun ρ => .ok (.nx ρ)) (fun x _ ih ρ => (ofO (g x ρ)).bind fun ρ1 => (body ρ1).bind fun f => match f with
    | .nx ρ2 => ih ρ2
    | .ct ρ2 => ih ρ2
    | .bk ρ2 => .ok (.nx ρ2)
    | f => .ok f) xs
theorem forL_nil {g : Tg} {body : En → R Fl} {ρ : En} : forL g body [] ρ = .ok (.nx ρ) := rfl
theorem forL_cons {g : Tg} {body : En → R Fl} {x : D} {xs : List D} {ρ : En} : forL g body (x :: xs) ρ = (ofO (g x ρ)).bind fun ρ1 => (body ρ1).bind fun f => match f with
    | .nx ρ2 => forL g body xs ρ2
    | .ct ρ2 => forL g body xs ρ2
    | .bk ρ2 => .ok (.nx ρ2)
    | f => .ok f := rfl
noncomputable def forS (g : Tg) (src : En → R (List D)) (body : En → R Fl) : En → R Fl := fun ρ => (src ρ).bind fun xs => forL g body xs ρ
theorem st_for {tg iter : Expr} {body : List Stmt} {src : En → R (List D)} {g : Tg} {sl : List Nat} {mb : En → R Fl} (hp : PassesOwn (model X.prog X.w) X.A X.env X.xe) (hc : X.calm = true) (hi : PSr X cl W false tg iter src) (hg : PGp X tg g sl) (hb : PBl X cl W body mb)
    (hs : ∀ x, foldedSetIterable iter X.env x = pure x := by intro _; rfl) : PSt X cl W (.For tg iter body [] pos) (forS g src mb) := by
  refine PS.imp (ps_for hp hc hi hg hb hs) fun σ H Dn ⟨F0, H0, ρ, F, ok, h⟩ => ⟨F0, H0, ρ, F, ok, ?_⟩
  have h : tRS cl W X.K F0 H0 F ((src ρ).bind fun xs => forL g mb xs ρ) Dn := h
  cases hr : src ρ with
  | no => rw [hr] at h; exact h
  | ex c n => rw [hr] at h; exact ExW.grow h ok.ext.keep
  | ok xs =>
    rw [hr] at h
    have h : tRS cl W X.K F0 H0 F (forL g mb xs ρ) Dn := h
    intro J F1 H1 e1 w
    have w : Walk X.K J F1 F1 xs := w
    refine ⟨fun i m σ H => m = xs.length - i ∧ i ≤ xs.length ∧ ∃ ρi Fi, Ok X.K F0 H0 ρi Fi σ H ∧ Le F1 Fi ∧ tRS cl W X.K F0 H0 Fi (forL g mb (xs.drop i) ρi) Dn, ⟨_, rfl, Nat.zero_le _, ρ, F1, ok.grow e1, Le.refl _, tRS.mono h e1.le⟩, ?_⟩
    rintro i m σ H ⟨rfl, hi, ρi, Fi, oki, li, hi2⟩
    by_cases hlt : i < xs.length
    · have hd : xs.drop i = xs[i] :: xs.drop (i + 1) := List.drop_eq_getElem_cons hlt
      rw [hd, forL_cons] at hi2
      obtain ⟨g1, g2⟩ := w.go i Fi H li oki.sub (li.trans oki.sub) xs[i] (by simp [hlt])
      refine .inr ⟨g1, fun σ' H' => ∃ ρ' F', Ok X.K F0 H0 ρ' F' σ' H' ∧ Le F1 F' ∧ tRS cl W X.K F0 H0 F' (forL g mb (xs.drop (i + 1)) ρ') Dn, fun σ' H' ⟨ρ', F', o', l', h'⟩ => ⟨xs.length - (i + 1), by omega, rfl, hlt, ρ', F', o', l', h'⟩, fun x H'' y => ?_⟩
      obtain ⟨F'', e2, rx⟩ := g2 x H'' y
      refine ⟨F0, H0, ρi, F'', xs[i], oki.grow e2, rx, ?_⟩
      cases hg : g xs[i] ρi with
      | none => rw [hg] at hi2; exact hi2
      | some ρ1 =>
        rw [hg] at hi2
        intro σ2 ok2 w2
        refine ⟨F0, H0, ρ1, F'', ok2, ?_⟩
        have hi2 : tRS cl W X.K F0 H0 Fi ((mb ρ1).bind fun f => match f with
          | .nx ρ2 => forL g mb (xs.drop (i + 1)) ρ2
          | .ct ρ2 => forL g mb (xs.drop (i + 1)) ρ2
          | .bk ρ2 => .ok (.nx ρ2)
          | f => .ok f) Dn := hi2
        have l2 : Le F1 F'' := li.trans e2.le
        cases hm : mb ρ1 with
        | no => rw [hm] at hi2; exact hi2
        | ex c n => rw [hm] at hi2; exact hi2
        | ok f =>
          rw [hm] at hi2
          cases f with
          | nx ρ2 => exact fun σ' F' H' o l => ⟨ρ2, F', o, l2.trans l, tRS.mono hi2 (e2.le.trans l)⟩
          | ct ρ2 => exact fun σ' F' H' o l => ⟨ρ2, F', o, l2.trans l, tRS.mono hi2 (e2.le.trans l)⟩
          | bk ρ2 => exact fun σ' F' H' o l => hi2 σ' F' H' o (e2.le.trans l)
          | rt d => exact hi2
          | ro d => exact hi2
          | rk d a k => exact hi2
    · have e : i = xs.length := by omega
      subst e
      rw [List.drop_length] at hi2
      exact .inl ⟨w.stop _ Fi H li oki.sub (li.trans oki.sub) (Nat.le_refl _), hi2 σ Fi H oki (Le.refl _)⟩

/-! ### while -/
noncomputable def whileL (mc : En → R Bool) (body : En → R Fl) (n : Nat) : En → R Fl :=
  Nat.rec (fun _ => .no) (fun _ ih ρ => (mc ρ).bind fun k => if k = true then (body ρ).bind fun f => match f with
    | .nx ρ2 => ih ρ2
    | .ct ρ2 => ih ρ2
    | .bk ρ2 => .ok (.nx ρ2)
    | f => .ok f else .ok (.nx ρ)) n
theorem whileL_succ {mc : En → R Bool} {body : En → R Fl} {n : Nat} {ρ : En} : whileL mc body (n + 1) ρ = (mc ρ).bind fun k => if k = true then (body ρ).bind fun f => match f with
    | .nx ρ2 => whileL mc body n ρ2
    | .ct ρ2 => whileL mc body n ρ2
    | .bk ρ2 => .ok (.nx ρ2)
    | f => .ok f else .ok (.nx ρ) := rfl
theorem st_while {c : Expr} {body : List Stmt} {mc : En → R Bool} {mb : En → R Fl} (n : Nat) (hp : PassesOwn (model X.prog X.w) X.A X.env X.xe) (hc : PB X cl W c mc) (hb : PBl X cl W body mb) : PSt X cl W (.While c body [] pos) (whileL mc mb n) := by
  refine PS.imp (ps_while hp hc hb) fun σ H Dn ⟨F0, H0, ρ, F, ok, h⟩ => ?_
  refine ⟨fun m σ H => ∃ ρi Fi, Ok X.K F0 H0 ρi Fi σ H ∧ tRS cl W X.K F0 H0 Fi (whileL mc mb m ρi) Dn, ⟨n, ρ, F, ok, h⟩, ?_⟩
  rintro m σ H ⟨ρi, Fi, oki, hi⟩
  cases m with
  | zero => exact False.elim hi
  | succ m =>
    rw [whileL_succ] at hi
    refine ⟨F0, H0, ρi, Fi, oki, tRS.test hi oki.ext.keep fun k F1 H1 e1 h1 => ?_⟩
    cases k with
    | false =>
      rw [if_neg Bool.false_ne_true] at h1 ⊢
      exact h1 σ F1 H1 (oki.grow e1) (Le.refl _)
    | true =>
      rw [if_pos rfl] at h1 ⊢
      refine ⟨fun σ' H' => ∃ ρ' F', Ok X.K F0 H0 ρ' F' σ' H' ∧ tRS cl W X.K F0 H0 F' (whileL mc mb m ρ') Dn, fun σ' H' q => ⟨m, Nat.lt_succ_self m, q⟩, F0, H0, ρi, F1, oki.grow e1, ?_⟩
      cases hm : mb ρi with
      | no => rw [hm] at h1; exact h1
      | ex c n => rw [hm] at h1; exact h1
      | ok f =>
        rw [hm] at h1
        cases f with
        | nx ρ2 => exact fun σ' F' H' o l => ⟨ρ2, F', o, tRS.mono h1 l⟩
        | ct ρ2 => exact fun σ' F' H' o l => ⟨ρ2, F', o, tRS.mono h1 l⟩
        | bk ρ2 => exact h1
        | rt d => exact h1
        | ro d => exact h1
        | rk d a k => exact h1

/-! ### comprehensions -/
noncomputable def lcL (g : Tg) (t : En → R Bool) (e : En → R D) (ρ : En) (xs : List D) : R (List D) :=
  List.rec (.ok []) (fun x _ ih => (ofO (g x ρ)).bind fun ρ1 => (t ρ1).bind fun k => if k = true then (e ρ1).bind fun y => ih.bind fun r => .ok (y :: r) else ih) xs
theorem lcL_cons {g : Tg} {t : En → R Bool} {e : En → R D} {ρ : En} {x : D} {xs : List D} : lcL g t e ρ (x :: xs) = (ofO (g x ρ)).bind fun ρ1 => (t ρ1).bind fun k => if k = true then (e ρ1).bind fun y => (lcL g t e ρ xs).bind fun r => .ok (y :: r) else lcL g t e ρ xs := rfl
noncomputable def lcF (g : Tg) (src : En → R (List D)) (t : En → R Bool) (e : En → R D) (vs : List Nat) : En → R (List D) := fun ρ =>
  (src ρ).bind fun xs => (lcL g t e (wipeE ρ vs) xs).calm.bind fun r => if small r = true then .ok r else .no
noncomputable def yesB : En → R Bool := fun _ => .ok true
/-- the tests of a comprehension -/
noncomputable def PTm (X : Cx) (cl : String → Addr) (W : XK) (ifs : List Expr) (t : En → R Bool) : Prop := PTs X ifs (tMB cl W X.K t)
theorem ptm_nil : PTm X cl W [] yesB := ⟨fun pins s σ H Q I ⟨F0, H0, ρ, F, ok, h⟩ => pts_nil.run pins s σ H Q I (h F H (Ext.refl ok.sub))⟩
theorem ptm_one {mc : En → R Bool} (h : PB X cl W e mc) : PTm X cl W [e] mc := pts_one h
/-- what the layer's comprehension asks, from the mirror -/
theorem lc_read {src : En → R (List D)} {g : Tg} {sl : List Nat} {t : En → R Bool} {me : En → R D} {vs : List Nat} {K : PySem.W.Frag} {σ : St} {H : Hp} {Q : VK} (hsl : ∀ i ∈ sl, i ∈ vs) (h : tM cl W K (poF K) (lcF g src t me vs) σ H Q) :
    tLc (tI cl W K true src) (tGp K g sl) (tMB cl E0 K t) (tM cl E0 K (poD K) me) vs σ H Q := by
  obtain ⟨F0, H0, ρ, F, okk, h⟩ := h
  refine ⟨F0, H0, ρ, F, okk, ?_⟩
  have h : tR cl W (poF K) ((src ρ).bind fun xs => (lcL g t me (wipeE ρ vs) xs).calm.bind fun r => if small r = true then .ok r else .no) F H Q := h
  cases hr : src ρ with
  | no => rw [hr] at h; exact h
  | ex c n => rw [hr] at h; exact h
  | ok xs =>
    rw [hr] at h
    have h : tR cl W (poF K) ((lcL g t me (wipeE ρ vs) xs).calm.bind fun r => if small r = true then .ok r else .no) F H Q := h
    intro J F1 H1 e1 w Dd nD
    have w : Walk K J F1 H1 xs := w
    cases hl : lcL g t me (wipeE ρ vs) xs with
    | no => rw [hl] at h; exact False.elim h
    | ex c n => rw [hl] at h; exact False.elim h
    | ok tot =>
      rw [hl] at h
      have h : tR cl W (poF K) (if small tot = true then .ok tot else .no) F H Q := h
      split at h
      case isFalse => exact False.elim h
      case isTrue hsm =>
      have htot : tot.length ≤ sizeLine := of_decide_eq_true hsm
      have okw : ∀ {F' H' : Hp}, Ext F1 H1 F' H' → Ok K F0 H0 (wipeE ρ vs) F' (L2.wipe σ vs) H' := fun ex => ((okk.grow e1).grow ex).wipe vs
      refine ⟨fun i m Hi => m = xs.length - i ∧ i ≤ xs.length ∧ ∃ Fi acc ds r, Ext F1 H1 Fi Hi ∧ Fi Dd = none ∧ Hi Dd = some (.lst acc) ∧ RpA K Fi acc ds ∧ lcL g t me (wipeE ρ vs) (xs.drop i) = .ok r ∧ tot = ds ++ r,
        ⟨_, rfl, Nat.zero_le _, F1, [], [], tot, Ext.grow e1.sub nD, e1.sub.none nD, upd_same, .nil, hl, rfl⟩, ?_⟩
      rintro i m Hi ⟨rfl, hi, Fi, acc, ds, r, ex, fD, hD, ra, hlr, ht⟩
      by_cases hlt : i < xs.length
      · have hd : xs.drop i = xs[i] :: xs.drop (i + 1) := List.drop_eq_getElem_cons hlt
        rw [hd, lcL_cons] at hlr
        obtain ⟨g1, g2⟩ := w.go i Fi Hi ex.le ex.sub ex.keep xs[i] (by simp [hlt])
        refine .inr ⟨g1, fun H' => ∃ Fi acc ds r, Ext F1 H1 Fi H' ∧ Fi Dd = none ∧ H' Dd = some (.lst acc) ∧ RpA K Fi acc ds ∧ lcL g t me (wipeE ρ vs) (xs.drop (i + 1)) = .ok r ∧ tot = ds ++ r, fun H' q => ⟨xs.length - (i + 1), by omega, rfl, hlt, q⟩, fun x H'' y => ?_⟩
        obtain ⟨F'', e2, rx⟩ := g2 x H'' y
        have ex2 := ex.trans e2
        -- the new list is kept, and not frozen
        have keepD : ∀ {Fa Ha Fb Hb : Hp}, Ext Fa Ha Fb Hb → Fa Dd = none → Ha Dd = some (.lst acc) → Fb Dd = none ∧ Hb Dd = some (.lst acc) := fun {Fa Ha Fb Hb} ee n1 n2 => by
          refine ⟨?_, ee.keep _ _ n2⟩
          cases q : Fb Dd with
          | none => rfl
          | some o =>
            rcases ee.new Dd o q with z | z
            · rw [n1] at z; cases z
            · rw [n2] at z; cases z
        obtain ⟨fD2, hD2⟩ := keepD e2 fD hD
        refine ⟨F0, H0, wipeE ρ vs, F'', xs[i], okw ex2, rx, ?_⟩
        cases hg1 : g xs[i] (wipeE ρ vs) with
        | none => rw [hg1] at hlr; cases hlr
        | some ρ1 =>
          rw [hg1] at hlr
          have hlr : ((t ρ1).bind fun k => if k = true then (me ρ1).bind fun y => (lcL g t me (wipeE ρ vs) (xs.drop (i + 1))).bind fun r => .ok (y :: r) else lcL g t me (wipeE ρ vs) (xs.drop (i + 1))) = .ok r := hlr
          intro σ2 ok2 w2
          have ww : L2.wipe (L2.wipe σ vs) vs = L2.wipe σ vs := by
            have key : ∀ (us : List Nat) (τ : St), (∀ i ∈ us, i ∈ vs) → L2.wipe (L2.wipe τ us) vs = L2.wipe τ vs := by
              intro us
              induction us with
              | nil => intro τ _; rfl
              | cons u us ih =>
                intro τ hu
                show L2.wipe ((L2.wipe τ us).set u none) vs = L2.wipe τ vs
                rw [wipe_set_in (hu u (by simp))]
                exact ih τ fun i hi => hu i (by simp [hi])
            exact key vs σ fun _ h => h
          refine ⟨(w2 vs hsl).trans ww, F0, H0, ρ1, F'', ok2, ?_⟩
          cases ht1 : t ρ1 with
          | no => rw [ht1] at hlr; cases hlr
          | ex c n => rw [ht1] at hlr; cases hlr
          | ok k =>
            rw [ht1] at hlr
            intro F3 H3 e3
            obtain ⟨fD3, hD3⟩ := keepD e3 fD2 hD2
            have ex3 := ex2.trans e3
            cases k with
            | false =>
              rw [if_neg Bool.false_ne_true]
              exact ⟨F3, acc, ds, r, ex3, fD3, hD3, ra.mono (e2.le.trans e3.le), hlr, ht⟩
            | true =>
              rw [if_pos rfl]
              have hlr : ((me ρ1).bind fun y => (lcL g t me (wipeE ρ vs) (xs.drop (i + 1))).bind fun r => .ok (y :: r)) = .ok r := hlr
              refine ⟨F0, H0, ρ1, F3, ok2.grow e3, ?_⟩
              cases hme : me ρ1 with
              | no => rw [hme] at hlr; cases hlr
              | ex c n => rw [hme] at hlr; cases hlr
              | ok y =>
                rw [hme] at hlr
                have hlr : ((lcL g t me (wipeE ρ vs) (xs.drop (i + 1))).bind fun r => .ok (y :: r)) = .ok r := hlr
                intro v F4 H4 e4 p4
                obtain ⟨fD4, hD4⟩ := keepD e4 fD3 hD3
                have ex4 := ex3.trans e4
                cases hl2 : lcL g t me (wipeE ρ vs) (xs.drop (i + 1)) with
                | no => rw [hl2] at hlr; cases hlr
                | ex c n => rw [hl2] at hlr; cases hlr
                | ok r2 =>
                  rw [hl2] at hlr
                  have hlr : y :: r2 = r := by
                    have z : R.ok (y :: r2) = R.ok r := hlr
                    injection z
                  have p4 : Rp K F4 v y := p4
                  refine ⟨acc, hD4, ?_, F4, acc ++ [v], ds ++ [y], r2, ⟨ex4.le, ex4.sub.upd fD4, ex4.keep.upd (Le.none (Le.refl H1) nD), ex4.new⟩, fD4, upd_same, (ra.mono ((e2.le.trans e3.le).trans e4.le)).append (.cons p4 .nil), rfl, ?_⟩
                  · rw [ra.length]
                    have : tot.length = ds.length + r.length := by rw [ht, List.length_append]
                    have : r.length = r2.length + 1 := by rw [← hlr]; rfl
                    omega
                  · rw [ht, ← hlr, List.append_assoc]; rfl
      · have e : i = xs.length := by omega
        subst e
        rw [List.drop_length] at hlr
        have hlr : ([] : List D) = r := by
          have z : R.ok ([] : List D) = R.ok r := hlr
          injection z
        subst hlr
        rw [List.append_nil] at ht
        subst ht
        have eh : Ext F H Fi Hi := e1.trans ex
        exact .inl ⟨w.stop _ Fi Hi ex.le ex.sub ex.keep (Nat.le_refl _), h _ Fi Hi eh ⟨Dd, acc, rfl, e1.keep.none nD, fD, hD, ra⟩⟩
theorem pf_lc {elt tg iter : Expr} {ifs : List Expr} {scope : Scope} {own : List (Str × Nat)} {src : En → R (List D)} {g : Tg} {sl : List Nat} {t : En → R Bool} {me : En → R D} (hc : X.calm = true) (hN : X.N.Nodup) (hi : PSr X cl W true tg iter src) (ok : BlkOk X.N X.env.scope scope own)
    (hsl : ∀ i ∈ sl, i ∈ own.map (·.2))
    (hg : ∀ (s : Shared) (H : Hp) (C : Addr) (cs : List (Str × Addr)) (fp : List Addr), PGp (X.blk s H scope (compEnvC scope cs C X.env) fp) tg g sl) (ht : ∀ (s : Shared) (H : Hp) (C : Addr) (cs : List (Str × Addr)) (fp : List Addr), PTm (X.blk s H scope (compEnvC scope cs C X.env) fp) cl E0 ifs t)
    (he : ∀ (s : Shared) (H : Hp) (C : Addr) (cs : List (Str × Addr)) (fp : List Addr), PD (X.blk s H scope (compEnvC scope cs C X.env) fp) cl E0 elt me) (hs : ∀ x, foldedSetIterable iter X.env x = pure x := by intro _; rfl) :
    PF X cl W (.ListComp elt [⟨tg, iter, ifs, 0⟩] scope pos) (lcF g src t me (own.map (·.2))) :=
  PE.imp (pe_lc (g := tGp X.K g sl) (tt := tMB cl E0 X.K t) (te := tM cl E0 X.K (poD X.K) me) hc hN hi ok hg ht he hs) fun σ H Q h => lc_read hsl h
/-- y = [..], where the target is stored within the comprehension's frame -/
theorem st_lc {i : Nat} {y : Str} {py spos : Pos} {elt tg iter : Expr} {ifs : List Expr} {scope : Scope} {own : List (Str × Nat)} {src : En → R (List D)} {g : Tg} {sl : List Nat} {t : En → R Bool} {me : En → R D} (hc : X.calm = true) (hN : X.N.Nodup) (hy : X.N[i]? = some y) (hyl : X.env.scope.names.lookup y = some .local)
    (hsw : swapsWith (.ListComp elt [⟨tg, iter, ifs, 0⟩] scope pos) (some (.Name y py)) spos.line X.env = pure true) (hi : PSr X cl W true tg iter src) (ok : BlkOk X.N X.env.scope scope own)
    (hsl : ∀ i ∈ sl, i ∈ own.map (·.2))
    (hg : ∀ (s : Shared) (H : Hp) (C : Addr) (cs : List (Str × Addr)) (fp : List Addr), PGp (X.blk s H scope (compEnvC scope cs C X.env) fp) tg g sl) (ht : ∀ (s : Shared) (H : Hp) (C : Addr) (cs : List (Str × Addr)) (fp : List Addr), PTm (X.blk s H scope (compEnvC scope cs C X.env) fp) cl E0 ifs t)
    (he : ∀ (s : Shared) (H : Hp) (C : Addr) (cs : List (Str × Addr)) (fp : List Addr), PD (X.blk s H scope (compEnvC scope cs C X.env) fp) cl E0 elt me) (hs : ∀ x, foldedSetIterable iter X.env x = pure x := by intro _; rfl) :
    PSt X cl W (.Assign [.Name y py] (.ListComp elt [⟨tg, iter, ifs, 0⟩] scope pos) spos) (setS i (fun ρ => toList (lcF g src t me (own.map (·.2)) ρ))) := by
  refine PS.imp (ps_setLc (g := tGp X.K g sl) (tt := tMB cl E0 X.K t) (te := tM cl E0 X.K (poD X.K) me) hc hN hy hyl hsw hi ok hg ht he hs) fun σ H Q ⟨F0, H0, ρ, F, ok, h⟩ => lc_read hsl ⟨F0, H0, ρ, F, ok, ?_⟩
  have h : tRS cl W X.K F0 H0 F ((toList (lcF g src t me (own.map (·.2)) ρ)).bind fun d => .ok (.nx (setE ρ i (.da d)))) Q := h
  unfold toList at h
  rw [R.bind_assoc] at h
  refine tRS.expr h ok.ext.keep fun v F1 H1 d e1 p1 h1 => ?_
  obtain ⟨p, vs, rfl, np, fp, hp, r⟩ := p1
  exact h1 _ _ H1 (by rw [setE_eq]; exact (ok.grow (e1.freeze np hp fp)).set i (.lst upd_same (r.mono ((Le.refl F1).upd fp)))) ((Le.refl F1).upd fp)
theorem st_lcc {i : Nat} {y : Str} {py spos : Pos} {elt tg iter : Expr} {ifs : List Expr} {scope : Scope} {own : List (Str × Nat)} {src : En → R (List D)} {g : Tg} {sl : List Nat} {t : En → R Bool} {me : En → R D} (hc : X.calm = true) (hN : X.N.Nodup) (hy : X.N[i]? = some y) (hyl : X.env.scope.names.lookup y = some .local)
    (hsw : swapsWith (.ListComp elt [⟨tg, iter, ifs, 0⟩] scope pos) (some (.Name y py)) spos.line X.env = pure true) (hi : PSr X cl W true tg iter src) (ok : BlkOk X.N X.env.scope scope own)
    (hsl : ∀ i ∈ sl, i ∈ own.map (·.2))
    (hg : ∀ (s : Shared) (H : Hp) (C : Addr) (cs : List (Str × Addr)) (fp : List Addr), PGp (X.blk s H scope (compEnvC scope cs C X.env) fp) tg g sl) (ht : ∀ (s : Shared) (H : Hp) (C : Addr) (cs : List (Str × Addr)) (fp : List Addr), PTm (X.blk s H scope (compEnvC scope cs C X.env) fp) cl E0 ifs t)
    (he : ∀ (s : Shared) (H : Hp) (C : Addr) (cs : List (Str × Addr)) (fp : List Addr), PD (X.blk s H scope (compEnvC scope cs C X.env) fp) cl E0 elt me) (hs : ∀ x, foldedSetIterable iter X.env x = pure x := by intro _; rfl) :
    PSt X cl W (.Assign [.Name y py] (.ListComp elt [⟨tg, iter, ifs, 0⟩] scope pos) spos) (setC i (lcF g src t me (own.map (·.2)))) := by
  refine PS.imp (ps_setLc (g := tGp X.K g sl) (tt := tMB cl E0 X.K t) (te := tM cl E0 X.K (poD X.K) me) hc hN hy hyl hsw hi ok hg ht he hs) fun σ H Q ⟨F0, H0, ρ, F, ok, h⟩ => lc_read hsl ⟨F0, H0, ρ, F, ok, ?_⟩
  exact tRS.expr h ok.ext.keep fun v F1 H1 d e1 p1 h1 => h1 _ F1 H1 (by rw [setE_eq]; exact new_cell ok e1 p1) (Le.refl F1)
/-- enumerate of a list -/
noncomputable def enumD (xs : List D) : List D := xs.zipIdx.map fun p => PyData.tuple [.int (p.2 : Int), p.1]
theorem walk_enum {K : PySem.W.Frag} {a : Addr} {vs : List V} {ds : List D} {F1 G : Hp} (s : SqL K G a vs) (r : RpA K F1 vs ds) : Walk K (Ite K a) F1 G (enumD ds) where
  go := fun i F' H' l1 l2 l3 d hd => by
    unfold enumD at hd
    rw [List.getElem?_map, List.getElem?_zipIdx] at hd
    cases q : ds[i]? with
    | none => rw [q] at hd; cases hd
    | some d0 =>
      rw [q] at hd
      have hd := Option.some.inj hd
      subst hd
      obtain ⟨v, hv, rv⟩ := r.getD q
      refine ⟨⟨vs, v, l3.sql s, hv⟩, fun x H'' y => ?_⟩
      obtain ⟨T, z, rfl, nT, rfl, y⟩ := y
      have e := y vs (l3.sql s)
      rw [hv] at e; cases e
      have fT := l2.none nT
      refine ⟨_, (Ext.grow l2 (o := .tup [.int (i : Nat), v]) nT).freeze nT upd_same fT, .tup (.inl (.inl upd_same)) (.cons ?_ (.cons (rv.mono (l1.trans ((Le.refl F').upd fT))) .nil))⟩
      simp only [Nat.zero_add]
      exact .int _
  stop := fun i F' H' l1 l2 l3 hl => ⟨vs, l3.sql s, by rw [r.length]; simpa [enumD] using hl⟩
noncomputable def enS (m : En → R (List D)) : En → R (List D) := fun ρ => (m ρ).bind fun xs => .ok (enumD xs)
theorem se_d {p tpos : Pos} {elts : List Expr} {kk : Nat} {m : En → R D} (hg : Gl X "enumerate") (hm : X.mg "enumerate" = none) (ha : PD X cl W a m) (hs1 : starEach [a] X.env = (false, eval a X.env) :: starEach [] X.env := by rfl) (hs : starEach [a] X.env = [(false, eval a X.env)] := by rfl) : PSr X cl W false (.Tuple elts kk tpos) (.Call (.Name "enumerate" p) [a] [] pos) (enS (fun ρ => (m ρ).bind asList)) := by
  refine PI.imp (pi_enum hg hm (pa_one ha hs1) hs) fun σ H Rr ⟨F0, H0, ρ, F, ok, q⟩ => ⟨F0, H0, ρ, F, ok, ?_⟩
  have q : tRI cl W X.K false (((m ρ).bind asList).bind fun xs => .ok (enumD xs)) F H Rr := q
  rw [R.bind_assoc] at q
  refine tRI.bind q fun v F1 H1 d e1 p1 q1 => ?_
  cases d with
  | list xs =>
    obtain ⟨b, vs, rfl, s, r⟩ := Rp.inv_list p1
    exact ⟨b, vs, rfl, .inl (.inl (e1.sub _ _ s)), q1 _ F1 H1 (Ext.refl e1.sub) (walk_enum (.inl (.inl s)) r)⟩
  | _ => exact False.elim q1
theorem se_l {p tpos : Pos} {elts : List Expr} {kk : Nat} {m : En → R (List D)} (hg : Gl X "enumerate") (hm : X.mg "enumerate" = none) (ha : PL X cl W a m) (hs1 : starEach [a] X.env = (false, eval a X.env) :: starEach [] X.env := by rfl) (hs : starEach [a] X.env = [(false, eval a X.env)] := by rfl) : PSr X cl W true (.Tuple elts kk tpos) (.Call (.Name "enumerate" p) [a] [] pos) (enS m) := by
  refine PI.imp (pi_enum hg hm (pa_one ha hs1) hs) fun σ H Rr ⟨F0, H0, ρ, F, ok, q⟩ => ⟨F0, H0, ρ, F, ok, ?_⟩
  refine tRI.bind q fun v F1 H1 xs e1 ⟨b, vs, hv, s, r⟩ q1 => ?_
  exact ⟨b, vs, by rw [hv], s, q1 _ F1 H1 (Ext.refl e1.sub) (walk_enum s r)⟩
/-- zip of two lists -/
noncomputable def zipD (xs ys : List D) : List D := (xs.zip ys).map fun p => PyData.tuple [p.1, p.2]
theorem walk_zip {K : PySem.W.Frag} {a b : Addr} {vs ws : List V} {ds es : List D} {F1 G : Hp} (s : SqL K G a vs) (s' : SqL K G b ws) (r : RpA K F1 vs ds) (r' : RpA K F1 ws es) : Walk K (Itz K a b) F1 G (zipD ds es) where
  go := fun i F' H' l1 l2 l3 d hd => by
    unfold zipD at hd
    rw [List.getElem?_map] at hd
    cases q : (ds.zip es)[i]? with
    | none => rw [q] at hd; cases hd
    | some p =>
      rw [q] at hd
      have hd := Option.some.inj hd
      subst hd
      obtain ⟨h1, h2⟩ := List.getElem?_zip_eq_some.mp q
      obtain ⟨v, hv, rv⟩ := r.getD h1
      obtain ⟨u, hu, ru⟩ := r'.getD h2
      refine ⟨⟨vs, ws, v, u, l3.sql s, l3.sql s', hv, hu⟩, fun x H'' y => ?_⟩
      obtain ⟨T, z, z', rfl, nT, rfl, y, y'⟩ := y
      have e := y vs (l3.sql s)
      rw [hv] at e; cases e
      have e := y' ws (l3.sql s')
      rw [hu] at e; cases e
      have fT := l2.none nT
      have l := l1.trans ((Le.refl F').upd (o := .tup [v, u]) fT)
      exact ⟨_, (Ext.grow l2 (o := .tup [v, u]) nT).freeze nT upd_same fT, .tup (.inl (.inl upd_same)) (.cons (rv.mono l) (.cons (ru.mono l) .nil))⟩
  stop := fun i F' H' l1 l2 l3 hl => ⟨vs, ws, l3.sql s, l3.sql s', by
    have hl : min ds.length es.length ≤ i := by simpa [zipD] using hl
    rw [r.length, r'.length]; omega⟩
noncomputable def ziS (m m' : En → R (List D)) : En → R (List D) := fun ρ => (m ρ).bind fun xs => (m' ρ).bind fun ys => .ok (zipD xs ys)
theorem sz_d {p tpos : Pos} {elts : List Expr} {kk : Nat} {m m' : En → R D} (hg : Gl X "zip") (hm : X.mg "zip" = none) (ha : PD X cl W a m) (hb : PD X cl W b m') (hs : starEach [a, b] X.env = (false, eval a X.env) :: starEach [b] X.env := by rfl) (hs1 : starEach [b] X.env = (false, eval b X.env) :: starEach [] X.env := by rfl) (hpl : (backTo pos (starEach [b] X.env)).any (·.1) = false := by rfl) :
    PSr X cl W false (.Tuple elts kk tpos) (.Call (.Name "zip" p) [a, b] [] pos) (ziS (fun ρ => (m ρ).bind asList) (fun ρ => (m' ρ).bind asList)) := by
  refine PI.imp (pi_zip hg hm (pa_cons ha (pa_one hb hs1) hs) hs hpl) fun σ H Rr ⟨F0, H0, ρ, F, ok, q⟩ => ⟨F0, H0, ρ, F, ok, ?_⟩
  have q : tRI cl W X.K false (((m ρ).bind asList).bind fun xs => ((m' ρ).bind asList).bind fun ys => .ok (zipD xs ys)) F H Rr := q
  rw [R.bind_assoc] at q
  refine tRI.bind q fun v F1 H1 d e1 p1 q1 => ⟨F0, H0, ρ, F1, ok.grow e1, ?_⟩
  cases d with
  | list xs =>
    obtain ⟨p, vs, rfl, s, r⟩ := Rp.inv_list p1
    have q1 : tRI cl W X.K false (((m' ρ).bind asList).bind fun ys => .ok (zipD xs ys)) F1 H1 Rr := q1
    rw [R.bind_assoc] at q1
    refine tRI.bind q1 fun u F2 H2 d e2 p2 q2 => ?_
    cases d with
    | list ys =>
      obtain ⟨p', ws, rfl, s', r'⟩ := Rp.inv_list p2
      exact ⟨p, p', vs, ws, rfl, .inl (.inl (e2.sub _ _ (e2.le _ _ s))), .inl (.inl (e2.sub _ _ s')), q2 _ F2 H2 (Ext.refl e2.sub) (walk_zip (.inl (.inl (e2.le _ _ s))) (.inl (.inl s')) (r.mono e2.le) r')⟩
    | _ => exact False.elim q2
  | _ => 
    have q1 : False := q1
    exact q1.elim
end
end Mir
namespace Mir
open PySem PySem.Spec PyProof.Rows L2

/-! ### defs: what they promise, where nothing is being shown (no guard stands) -/
structure FnG (P : Program) (w : World) (K : PySem.W.Frag) (mg : Str → Option Value) (base : Heap) (k : Nat) (f : Addr) (fd : FuncData) (ps : List Str) (sp : Sp) : Prop where
  many : ∀ vs H Q E, sp vs H Q E → vs.length = ps.length
  go : ∀ (A : Around) (fr : List Env) (s : Shared) (H : Hp) (us : List Value) (vs : List V) (Q : VK) (E : XK), Room k A → A.guards = some [] → Env0 P w K mg base A fr s H →
    BindsTo s fd ⟨us, []⟩ (ps.zip us) → Vals vs us → sp vs H Q E → codeAny (model P w) A (.call (.ref f) ⟨us, []⟩) (CR (L2N.CX P w) fr P w H s Q E) s
section
variable {P : Program} {w : World} {K : PySem.W.Frag} {mg : Str → Option Value} {base : Heap}
theorem FnG.mono {j k : Nat} {f : Addr} {fd : FuncData} {ps : List Str} {sp : Sp} (F : FnG P w K mg base j f fd ps sp) (h : j ≤ k) : FnG P w K mg base k f fd ps sp :=
  ⟨F.many, fun A fr s H us vs Q E hr => F.go A fr s H us vs Q E (hr.mono h)⟩
/-- a def by its body -/
theorem fnG_of {x qual : Str} {st : Stmt} {f : Addr} {fd : FuncData} {N ps : List Str} {k : Nat} {sp : Sp} (F : Fun K x qual st f fd) (S : FnScope N ps (defScope st)) (hn : ∀ vs H Q E, sp vs H Q E → vs.length = ps.length)
    (hb : ∀ (cdv : Value) (A : Around) (fr : List Env) (s : Shared) (H : Hp) (vs : List V) (Q : VK) (E : XK), Room k (A.deeper (envOfC qual (defScope st) s.heap.objs.size f cdv)) → A.guards = some [] → sp vs H Q E →
      ∃ t, PSs (cxOf (L2N.CX P w) P w K mg base N qual (defScope st) f cdv A fr s H E) (defBody st) t ∧ t { nx := fun _ H' => Q .non H', rt := Q } (L2.start N vs) H) : FnG P w K mg base (k + 1) f fd ps sp := by
  obtain ⟨oc, od, kV, doc, pm, an, cdv, ct, osl, rfl, lk, hcd⟩ := F.ex
  refine ⟨hn, fun A fr s H us vs Q E hr hg e0 hz rv hsp => ?_⟩
  have old : ∀ b o, base.get? b = some o → s.heap.get? b = some o := fun b o e => (e0.bs b o e).1
  have KX := e0.mod.kin.keeps old
  -- the parameters' names are the scope's
  have par : ∀ y ∈ ps.zip us, (defScope st).names.lookup y.1 = some .local ∨ ((defScope st).names.lookup y.1 = some .cell ∧ ((cellsFrom (s.heap.objs.size + 1) (defScope st).names []).lookup y.1).isSome = true) := by
    rintro ⟨n, v⟩ hy
    exact (S.par n (List.of_mem_zip hy).1).imp_right fun q => ⟨q, PySem.W.cellsFrom_some _ _ _ (.inl q)⟩
  obtain ⟨t, ht, hq⟩ := hb cdv A fr s H vs Q E (hr.deeper _) hg hsp
  refine codeAny_call_function hr.depth (KX _ _ lk) rfl S.co S.gen rfl (PySem.W.codeRec_of KX hcd) (hz _ _ _ _ (wpAny_newFunctionEnv_cells S.kind par fun env he s1 xx => ?_))
  subst he
  have I := inv_start (CX := L2N.CX P w) (E := E) S hr.hd e0 (hn _ _ _ _ hsp) rv xx
  refine ⟨(e0.mod.nolimit.keeps old).keeps xx.toInCall.keep, codeAny_func (wpAny_mono (ht.run [] s1 _ H _ I hq) ?_ fun e s' h => h)⟩
  rintro fl s' h
  cases fl with
  | ret u => obtain ⟨v, σ', H', J, rv', q⟩ := h; exact ⟨v, H', J.os, J.bare, J.base, J.hok, rv', q⟩
  | next => obtain ⟨σ', H', J, q⟩ := h; exact ⟨V.non, H', J.os, J.bare, J.base, J.hok, rfl, q⟩
  | brk => obtain ⟨_, _, _, q⟩ := h; exact q.elim
  | cont => obtain ⟨_, _, _, q⟩ := h; exact q.elim
/-- from the layer's own -/
theorem FnG.of {k : Nat} {f : Addr} {fd : FuncData} {ps : List Str} {sp : Sp} (F : FnOk P w K mg base (L2N.CX P w) k f fd ps sp) : FnG P w K mg base k f fd ps sp :=
  ⟨F.len, fun A fr s H us vs Q E hr _ e0 hz rv hsp => F.run A fr s H ⟨us, []⟩ us vs Q E hr e0 hz rv hsp⟩
end
/-- what a def asks of the place where it is called -/
structure Rm (X : Cx) (k : Nat) : Prop where
  room : Room k X.A
  g : X.A.guards = some []
theorem Rm.mono {X : Cx} {j k : Nat} (r : Rm X k) (h : j ≤ k) : Rm X j := ⟨r.room.mono h, r.g⟩
section
variable {X : Cx} {k : Nat} {f : Addr} {fd : FuncData} {ps : List Str} {sp : Sp} {E : XK} {x : Str} {p pos : Pos} {e : Expr} {es : List Expr} {t : TA}
theorem run_g {pins : List (Addr × Obj)} {σ : St} {H : Hp} {s : Shared} {Q : VK} {us : List Value} {vs : List V} (F : FnG X.prog X.w X.K X.mg X.base k f fd ps sp) (hr : Rm X k) (hb : Binds X.K fd ps []) (hx : Passes (L2N.CX X.prog X.w) X E)
    (I : Inv X pins σ H s) (r : Vals vs us) (h : sp vs H Q E) : wpAny (model X.prog X.w) X.A (call (.ref f) us) (EP X pins σ Q) X.xe s := by
  have hl : us.length = ps.length := by rw [← r.length]; exact F.many _ _ _ _ h
  have hz := hb s us I.kIn (by simpa using hl)
  rw [List.append_nil] at hz
  refine wpAny_call (codeAny_mono (F.go X.A X.stack s H us vs Q E hr.room hr.g I.env0 hz r h) ?_)
  rintro (e | fl) s' hq
  · exact hx pins σ H s e s' I hq
  · cases fl with
    | ret u => exact I.after hq
    | next => exact hq.elim
    | brk => exact hq.elim
    | cont => exact hq.elim
theorem pe_g (F : FnG X.prog X.w X.K X.mg X.base k f fd ps sp) (hr : Rm X k) (hg : Gl X x) (hm : X.mg x = some (.ref f)) (hk : PySem.W.keepIn X.K (.ref f) = true) (hb : Binds X.K fd ps []) (hx : Passes (L2N.CX X.prog X.w) X E)
    (ha : PA X (e :: es) t) (hdb : (x == ("__debug__" : Str)) = false := by decide) (he : starEach (e :: es) X.env = (false, eval e X.env) :: starEach es X.env := by rfl) (hpl : (backTo pos (starEach es X.env)).any (·.1) = false := by rfl) :
    PE X (.Call (.Name x p) (e :: es) [] pos) (fun σ H Q => t σ H fun vs H1 => sp vs H1 Q E) :=
  ⟨fun pins s σ H Q I h => wpAny_Call_Name_kw (ld_glob I hg hm (PySem.W.callWith_K (h₀ := X.base) I.ok.mod.kin hk (thn (ha.run pos pins s σ H _ I h) fun us s1 ⟨vs, H1, I1, r, q⟩ => ⟨I1.kIn, run_g F hr hb hx I1 r q⟩) he hpl) hdb)⟩
theorem pe_g0 (F : FnG X.prog X.w X.K X.mg X.base k f fd ps sp) (hr : Rm X k) (hg : Gl X x) (hm : X.mg x = some (.ref f)) (hk : PySem.W.keepIn X.K (.ref f) = true) (hb : Binds X.K fd ps []) (hx : Passes (L2N.CX X.prog X.w) X E)
    (hdb : (x == ("__debug__" : Str)) = false := by decide) :
    PE X (.Call (.Name x p) [] [] pos) (fun σ H Q => sp [] H Q E) :=
  ⟨fun pins s σ H Q I h => wpAny_Call_Name_kw (ld_glob I hg hm (PySem.W.callWith_K0 I.kIn hk (run_g (us := []) F hr hb hx I .nil h)) hdb)⟩
theorem passF {X : Cx} : Passes (L2N.CX X.prog X.w) X E0 := fun _ _ _ _ _ _ _ ⟨_, _, _, _, _, _, _, _, _, _, _, _, z⟩ => z.elim
end

/-! ### promises by functions of data -/
section
variable (cl : String → Addr) (K : PySem.W.Frag) (n : Nat)
noncomputable def spD (f : List D → R D) : Sp := fun vs H Q E => vs.length = n ∧ ∃ F ds, Le F H ∧ RpA K F vs ds ∧ tR cl E (poD K) (f ds) F H Q
noncomputable def spF (f : List D → R (List D)) : Sp := fun vs H Q E => vs.length = n ∧ ∃ F ds, Le F H ∧ RpA K F vs ds ∧ tR cl E (poF K) (f ds) F H Q
end
noncomputable def enter (m : Nat) (ds : List D) : En := ds.map Sl.da ++ List.replicate (m - ds.length) .un
/-- a body as a function of the arguments: m slots -/
noncomputable def fnM (m : Nat) (b : En → R Fl) : List D → R D := fun ds => (b (enter m ds)).bind fun f => match f with
  | .rt d => .ok d
  | .ro xs => .ok (.list xs)
  | .nx _ => .ok .none
  | _ => .no
noncomputable def fnF (m : Nat) (b : En → R Fl) : List D → R (List D) := fun ds => (b (enter m ds)).bind fun f => match f with
  | .ro xs => .ok xs
  | _ => .no
theorem enter_ok {K : PySem.W.Frag} {F H : Hp} {vs : List V} {ds : List D} {N : List Str} (le : Le F H) (r : RpA K F vs ds) : Ok K F H (enter N.length ds) F (L2.start N vs) H := by
  have hl := r.length
  refine ⟨by unfold enter L2.start; simp [hl], Ext.refl le, le, fun i s q => ?_, own_calm fun i s q => ?_⟩
  · unfold enter at q
    by_cases hi : i < ds.length
    · rw [List.getElem?_append_left (by simpa using hi), List.getElem?_map] at q
      cases e : ds[i]? with
      | none => rw [e] at q; cases q
      | some d =>
        rw [e] at q
        have q : Sl.da d = s := Option.some.inj q
        subst q
        obtain ⟨v, hv, rv⟩ := r.getD e
        refine ⟨v, ?_, rv⟩
        unfold L2.start
        rw [List.getElem?_append_left (by simpa [hl] using hi), List.getElem?_map, hv]
        rfl
    · rw [List.getElem?_append_right (by simpa using hi), List.getElem?_replicate] at q
      split at q
      · cases q; trivial
      · cases q
  · unfold enter at q
    by_cases hi : i < ds.length
    · rw [List.getElem?_append_left (by simpa using hi), List.getElem?_map] at q
      cases e : ds[i]? with
      | none => rw [e] at q; cases q
      | some d => rw [e] at q; cases q; trivial
    · rw [List.getElem?_append_right (by simpa using hi), List.getElem?_replicate] at q
      split at q
      · cases q; trivial
      · cases q
section
variable {P : Program} {w : World} {K : PySem.W.Frag} {mg : Str → Option Value} {base : Heap} {cl : String → Addr}
/-- the context of a body -/
abbrev Bd (P : Program) (w : World) (K : PySem.W.Frag) (mg : Str → Option Value) (base : Heap) (N : List Str) (qual : Str) (sc : Scope) (f : Addr) (cdv : Value) (A : Around) (fr : List Env) (s : Shared) (H : Hp) (E : XK) : Cx := cxOf (L2N.CX P w) P w K mg base N qual sc f cdv A fr s H E
theorem fn_d {x qual : Str} {st : Stmt} {f : Addr} {fd : FuncData} {N ps : List Str} {k n m : Nat} {mb : En → R Fl} (F : Fun K x qual st f fd) (S : FnScope N ps (defScope st)) (hn : n = ps.length) (hm : m = N.length)
    (hb : ∀ (cdv : Value) (A : Around) (fr : List Env) (s : Shared) (H : Hp) (E : XK), Rm (Bd P w K mg base N qual (defScope st) f cdv A fr s H E) k → Passes (L2N.CX P w) (Bd P w K mg base N qual (defScope st) f cdv A fr s H E) E → L2N.Takes (Bd P w K mg base N qual (defScope st) f cdv A fr s H E) (fun c d _ H => E c d H) →
      PBl (Bd P w K mg base N qual (defScope st) f cdv A fr s H E) cl E (defBody st) mb) : FnG P w K mg base (k + 1) f fd ps (spD cl K n (fnM m mb)) := by
  subst hn hm
  refine fnG_of F S (fun vs H Q E h => h.1) fun cdv A fr s H vs Q E hr hg h => ?_
  have tk : L2N.Takes (Bd P w K mg base N qual (defScope st) f cdv A fr s H E) (fun c d _ H => E c d H) := L2N.takes_of rfl rfl rfl rfl
  refine ⟨_, hb cdv A fr s H E ⟨hr, hg⟩ (L2N.passes_call tk fun _ _ _ _ h => h) tk, ?_⟩
  obtain ⟨_, F', ds, le, r, h⟩ := h
  refine ⟨F', H, _, F', enter_ok le r, ?_⟩
  unfold fnM at h
  cases hr : mb (enter N.length ds) with
  | no => rw [hr] at h; exact h
  | ex c n => rw [hr] at h; exact h
  | ok fl =>
    rw [hr] at h
    cases fl with
    | nx ρ' => exact fun σ' F2 H2 o l => h .non F2 H2 o.ext .non
    | rt d => exact h
    | ro xs => exact fun p vs F2 H2 e np fp hp r => h (.ref p) _ H2 (e.freeze np hp fp) (.lst upd_same (r.mono ((Le.refl F2).upd fp)))
    | rk d a k => exact h.elim
    | bk ρ' => exact fun σ' F2 H2 o l => h.elim
    | ct ρ' => exact fun σ' F2 H2 o l => h.elim
theorem fn_f {x qual : Str} {st : Stmt} {f : Addr} {fd : FuncData} {N ps : List Str} {k n m : Nat} {mb : En → R Fl} (F : Fun K x qual st f fd) (S : FnScope N ps (defScope st)) (hn : n = ps.length) (hm : m = N.length)
    (hb : ∀ (cdv : Value) (A : Around) (fr : List Env) (s : Shared) (H : Hp) (E : XK), Rm (Bd P w K mg base N qual (defScope st) f cdv A fr s H E) k → Passes (L2N.CX P w) (Bd P w K mg base N qual (defScope st) f cdv A fr s H E) E → L2N.Takes (Bd P w K mg base N qual (defScope st) f cdv A fr s H E) (fun c d _ H => E c d H) →
      PBl (Bd P w K mg base N qual (defScope st) f cdv A fr s H E) cl E (defBody st) mb) : FnG P w K mg base (k + 1) f fd ps (spF cl K n (fnF m mb)) := by
  subst hn hm
  refine fnG_of F S (fun vs H Q E h => h.1) fun cdv A fr s H vs Q E hr hg h => ?_
  have tk : L2N.Takes (Bd P w K mg base N qual (defScope st) f cdv A fr s H E) (fun c d _ H => E c d H) := L2N.takes_of rfl rfl rfl rfl
  refine ⟨_, hb cdv A fr s H E ⟨hr, hg⟩ (L2N.passes_call tk fun _ _ _ _ h => h) tk, ?_⟩
  obtain ⟨_, F', ds, le, r, h⟩ := h
  refine ⟨F', H, _, F', enter_ok le r, ?_⟩
  unfold fnF at h
  cases hr : mb (enter N.length ds) with
  | no => rw [hr] at h; exact h
  | ex c n => rw [hr] at h; exact h
  | ok fl =>
    rw [hr] at h
    cases fl with
    | nx ρ' => exact fun σ' F2 H2 o l => h.elim
    | rt d => exact h.elim
    | ro xs => exact fun p vs F2 H2 e np fp hp r => h (.ref p) F2 H2 e ⟨p, vs, rfl, np, fp, hp, r⟩
    | rk d a k => exact h.elim
    | bk ρ' => exact fun σ' F2 H2 o l => h.elim
    | ct ρ' => exact fun σ' F2 H2 o l => h.elim
end
section
variable {X : Cx} {cl : String → Addr} {W : XK} {k n : Nat} {f : Addr} {fd : FuncData} {ps : List Str} {x : Str} {p pos : Pos} {e : Expr} {es : List Expr} {ma : En → R (List D)}
/-- how many arguments there are -/
noncomputable def Many (m : En → R (List D)) (n : Nat) : Prop := ∀ ρ ds, m ρ = .ok ds → ds.length = n
theorem many_n : Many argN 0 := fun ρ ds h => by cases h; rfl
theorem many_c {a : En → R D} {r : En → R (List D)} {n : Nat} (h : Many r n) : Many (argC a r) (n + 1) := fun ρ ds q => by
  have q : ((a ρ).bind fun x => (r ρ).bind fun xs => .ok (x :: xs)) = .ok ds := q
  cases ha : a ρ with
  | no => rw [ha] at q; cases q
  | ex c n => rw [ha] at q; cases q
  | ok x =>
    rw [ha] at q
    have q : ((r ρ).bind fun xs => .ok (x :: xs)) = .ok ds := q
    cases hr : r ρ with
    | no => rw [hr] at q; cases q
    | ex c n => rw [hr] at q; cases q
    | ok xs =>
      rw [hr] at q
      have q : R.ok (x :: xs) = R.ok ds := q
      injection q with q
      subst q
      rw [List.length_cons, h ρ xs hr]
noncomputable def appM {α : Type} (f : List D → R α) (ma : En → R (List D)) : En → R α := fun ρ => (ma ρ).bind f
theorem app_go {α : Type} {P : Po α} {f' : List D → R α} (an : Anti P) (hmany : Many ma n) {σ : St} {H : Hp} {Q : VK} (h : tM cl W X.K P (appM f' ma) σ H Q) :
    tMA cl W X.K ma σ H fun vs H1 => vs.length = n ∧ ∃ F ds, Le F H1 ∧ RpA X.K F vs ds ∧ tR cl W P (f' ds) F H1 Q := by
  obtain ⟨F0, H0, ρ, F, ok, h⟩ := h
  refine ⟨F0, H0, ρ, F, ok, ?_⟩
  have hm := hmany ρ
  unfold appM at h
  cases hr : ma ρ with
  | no => rw [hr] at h; exact h
  | ex c n => rw [hr] at h; exact h
  | ok ds =>
    rw [hr] at h
    exact fun vs F1 H1 e1 r => ⟨by rw [r.length]; exact hm ds hr, F1, ds, e1.sub, r, tR.grow an h e1⟩
theorem pd_g {f' : List D → R D} (G : FnG X.prog X.w X.K X.mg X.base k f fd ps (spD cl X.K n f')) (hr : Rm X k) (hg : Gl X x) (hm : X.mg x = some (.ref f)) (hk : PySem.W.keepIn X.K (.ref f) = true) (hb : Binds X.K fd ps []) (hx : Passes (L2N.CX X.prog X.w) X W)
    (ha : PAs X cl W (e :: es) ma) (hmany : Many ma n) (hdb : (x == ("__debug__" : Str)) = false := by decide) (he : starEach (e :: es) X.env = (false, eval e X.env) :: starEach es X.env := by rfl) (hpl : (backTo pos (starEach es X.env)).any (·.1) = false := by rfl) :
    PD X cl W (.Call (.Name x p) (e :: es) [] pos) (appM f' ma) :=
  PE.imp (pe_g G hr hg hm hk hb hx ha hdb he hpl) fun σ H Q h => app_go anti_D hmany h
theorem pf_g {f' : List D → R (List D)} (G : FnG X.prog X.w X.K X.mg X.base k f fd ps (spF cl X.K n f')) (hr : Rm X k) (hg : Gl X x) (hm : X.mg x = some (.ref f)) (hk : PySem.W.keepIn X.K (.ref f) = true) (hb : Binds X.K fd ps []) (hx : Passes (L2N.CX X.prog X.w) X W)
    (ha : PAs X cl W (e :: es) ma) (hmany : Many ma n) (hdb : (x == ("__debug__" : Str)) = false := by decide) (he : starEach (e :: es) X.env = (false, eval e X.env) :: starEach es X.env := by rfl) (hpl : (backTo pos (starEach es X.env)).any (·.1) = false := by rfl) :
    PF X cl W (.Call (.Name x p) (e :: es) [] pos) (appM f' ma) :=
  PE.imp (pe_g G hr hg hm hk hb hx ha hdb he hpl) fun σ H Q h => app_go anti_F hmany h
end

/-! ### the script: a law's own promise, and that of a def that is handed the script -/
noncomputable def spS (K : PySem.W.Frag) (cl : String → Addr) (f : List Int → R D) : Sp := fun vs H Q E => ∃ a F ns, vs = [.ref a] ∧ Le F H ∧ SqL K F a (ns.map V.int) ∧ tR cl E (poD K) (f ns) F H Q
noncomputable def enterS (m : Nat) (ns : List Int) : En := .sc ns :: List.replicate (m - 1) .un
noncomputable def fnS (m : Nat) (b : En → R Fl) : List Int → R D := fun ns => (b (enterS m ns)).bind fun f => match f with
  | .rt d => .ok d
  | .ro xs => .ok (.list xs)
  | .nx _ => .ok .none
  | _ => .no
section
variable {P : Program} {w : World} {K : PySem.W.Frag} {mg : Str → Option Value} {base : Heap} {cl : String → Addr}
theorem fn_s {x qual y : Str} {st : Stmt} {f : Addr} {fd : FuncData} {N : List Str} {k m : Nat} {mb : En → R Fl} (F : Fun K x qual st f fd) (S : FnScope N [y] (defScope st)) (hm : m = N.length)
    (hb : ∀ (cdv : Value) (A : Around) (fr : List Env) (s : Shared) (H : Hp) (E : XK), Rm (Bd P w K mg base N qual (defScope st) f cdv A fr s H E) k → Passes (L2N.CX P w) (Bd P w K mg base N qual (defScope st) f cdv A fr s H E) E → L2N.Takes (Bd P w K mg base N qual (defScope st) f cdv A fr s H E) (fun c d _ H => E c d H) →
      PBl (Bd P w K mg base N qual (defScope st) f cdv A fr s H E) cl E (defBody st) mb) : FnG P w K mg base (k + 1) f fd [y] (spS K cl (fnS m mb)) := by
  subst hm
  refine fnG_of F S (fun vs H Q E h => by obtain ⟨a, F, ns, rfl, _⟩ := h; rfl) fun cdv A fr s H vs Q E hr hg h => ?_
  have tk : L2N.Takes (Bd P w K mg base N qual (defScope st) f cdv A fr s H E) (fun c d _ H => E c d H) := L2N.takes_of rfl rfl rfl rfl
  refine ⟨_, hb cdv A fr s H E ⟨hr, hg⟩ (L2N.passes_call tk fun _ _ _ _ h => h) tk, ?_⟩
  obtain ⟨a, F', ns, rfl, le, sq, h⟩ := h
  refine ⟨F', H, enterS N.length ns, F', ⟨?_, Ext.refl le, le, fun i s q => ?_, own_calm fun i s q => ?_⟩, ?_⟩
  · unfold enterS L2.start; simp only [List.length_cons, List.length_replicate, List.length_append, List.length_map, List.length_nil]; omega
  · cases i with
    | zero => cases q; exact ⟨a, rfl, sq⟩
    | succ i =>
      have q : (List.replicate (N.length - 1) Sl.un)[i]? = some s := q
      rw [List.getElem?_replicate] at q
      split at q
      · cases q; trivial
      · cases q
  · cases i with
    | zero => cases q; trivial
    | succ i =>
      have q : (List.replicate (N.length - 1) Sl.un)[i]? = some s := q
      rw [List.getElem?_replicate] at q
      split at q
      · cases q; trivial
      · cases q
  · unfold fnS at h
    cases hr : mb (enterS N.length ns) with
    | no => rw [hr] at h; exact h
    | ex c n => rw [hr] at h; exact h
    | ok fl =>
      rw [hr] at h
      cases fl with
      | nx ρ' => exact fun σ' F2 H2 o l => h .non F2 H2 o.ext .non
      | rt d => exact h
      | ro xs => exact fun p vs F2 H2 e np fp hp r => h (.ref p) _ H2 (e.freeze np hp fp) (.lst upd_same (r.mono ((Le.refl F2).upd fp)))
      | rk d a k => exact h.elim
      | bk ρ' => exact fun σ' F2 H2 o l => h.elim
      | ct ρ' => exact fun σ' F2 H2 o l => h.elim
/-- f(script) -/
noncomputable def scM (f : List Int → R D) (i : Nat) : En → R D := fun ρ => match nth ρ i with
  | .sc ns => f ns
  | _ => .no
theorem pd_s {X : Cx} {W : XK} {k i : Nat} {f : Addr} {fd : FuncData} {y x : Str} {p pos : Pos} {e : Expr} {f' : List Int → R D} (G : FnG X.prog X.w X.K X.mg X.base k f fd [y] (spS X.K cl f')) (hr : Rm X k) (hg : Gl X x) (hm : X.mg x = some (.ref f)) (hk : PySem.W.keepIn X.K (.ref f) = true) (hb : Binds X.K fd [y] []) (hx : Passes (L2N.CX X.prog X.w) X W)
    (ha : PE X e (tVar i)) (hdb : (x == ("__debug__" : Str)) = false := by decide) (he : starEach (e :: []) X.env = (false, eval e X.env) :: starEach [] X.env := by rfl) (hpl : (backTo pos (starEach [] X.env)).any (·.1) = false := by rfl) :
    PD X cl W (.Call (.Name x p) [e] [] pos) (scM f' i) := by
  refine PE.imp (pe_g G hr hg hm hk hb hx (pa_one ha he) hdb he hpl) fun σ H Q ⟨F0, H0, ρ, F, ok, h⟩ => ?_
  have h : tR cl W (poD X.K) (match nth ρ i with
    | .sc ns => f' ns
    | _ => .no) F H Q := h
  cases hx : nth ρ i with
  | sc ns =>
    rw [hx] at h
    obtain ⟨a, h1, h2⟩ : ∃ a, σ[i]? = some (some (.ref a)) ∧ SqL X.K F a (ns.map V.int) := ok.sl i _ (nth_sc hx)
    exact ⟨_, h1, a, F, ns, rfl, ok.sub, h2, h⟩
  | _ => rw [hx] at h; exact h.elim
end

/-! ### the end -/
theorem law_go {P : Program} {w : World} {K : PySem.W.Frag} {mg mb : Str → Option Value} {k : Nat} {fa a : Addr} {fd : FuncData} {x : Str} {cl : String → Addr} {f : List Int → R D} {s₁ : Shared} {us : List Value} {ns : List Int}
    (KX : K.In s₁.heap) (hns : s₁.heap.Ns mainGlobals mg) (hb : s₁.heap.Ns builtinsNs mb) (hbb : ∀ x : Str, x ≠ "__name__" → mb x = bootBuiltins x) (hlim : s₁.heap.NoLimit) (hgen : s₁.gens = #[])
    (ha : s₁.heap.get? a = some { cls := .type "list", data := .seq us.toArray }) (hi : IntsAre us ns) (hl : ns.length ≤ sizeLine) (hr : Room k callerA)
    (G : ∀ base : Heap, K.In base → base.Ns mainGlobals mg → FnG P w K mg base k fa fd [x] (spS K cl f)) (hz : ∀ (s : Shared) (u : Value), BindsTo s fd ⟨[u], []⟩ [(x, u)]) (ht : f ns = .ok (.bool true)) :
    codeAny (model P w) callerA (.call (.ref fa) ⟨[.ref a], []⟩) (fun r s' => r = .ok (.ret (.bool true)) ∧ OldK s₁.heap s'.heap ∧ s'.os = s₁.os ∧ AllBare s'.gens) s₁ := by
  have rv : Vals (ns.map V.int) us := vals_of_ints hi
  have hlen : us.length ≤ sizeLine := by rw [hi.length]; exact hl
  -- nothing is tracked but the script, and it only where the written part does not have it
  obtain ⟨H, hH, hS⟩ : ∃ H : Hp, (∀ b o, H b = some o → b = a ∧ K.lookup a = none ∧ o = .frz { cls := .type "list", data := .seq us.toArray } (.lst (ns.map V.int))) ∧ SqL K H a (ns.map V.int) := by
    cases hk : K.lookup a with
    | none =>
      refine ⟨fun b => if b = a then some (.frz { cls := .type "list", data := .seq us.toArray } (.lst (ns.map V.int))) else none, fun b o q => ?_, .inl (.inr ⟨_, if_pos rfl⟩)⟩
      by_cases hb : b = a
      · have q := (if_pos hb).symm.trans q
        exact ⟨hb, rfl, (Option.some.inj q).symm⟩
      · have q := (if_neg hb).symm.trans q
        cases q
    | some o =>
      have e := KX a o hk
      rw [ha] at e
      cases e
      exact ⟨fun _ => none, (fun b o q => by cases q), .inr ⟨_, us.toArray, _, hk, rfl, rfl, rfl, by simpa using hlen, by simpa using rv⟩⟩
  have hok : HOk P w H s₁.heap := fun b o q => by
    obtain ⟨rfl, _, rfl⟩ := hH b o q
    exact ⟨ha, by rw [List.length_map]; exact hl, us, _, rv, ha⟩
  have low : ∀ {b : Addr} {o : Obj}, s₁.heap.get? b = some o → (b = a → K.lookup a = none → False) → (hidT s₁.heap H).get? b = some o := fun {b o} e n => by
    refine hidT_get e ?_
    cases q : H b with
    | none => rfl
    | some u =>
      obtain ⟨z1, z2, _⟩ := hH b u q
      exact (n z1 z2).elim
  have nsD : ∀ {b : Addr} {m : Str → Option Value}, s₁.heap.Ns b m → (hidT s₁.heap H).Ns b m := fun {b m} ⟨o, es, ep, e, d, r⟩ => by
    refine ⟨o, es, ep, low e fun z _ => ?_, d, r⟩
    subst z
    rw [ha] at e; cases e; cases d
  have KB : K.In (hidT s₁.heap H) := fun b o e => low (KX b o e) fun z n => by
    subst z
    rw [n] at e; cases e
  obtain ⟨mc, hc1, hc2⟩ := hlim
  have e0 : Env0 P w K mg (hidT s₁.heap H) callerA [] s₁ H := ⟨rfl, ⟨KB, nsD hns, ⟨mb, nsD hb, hbb⟩, ⟨mc, nsD hc1, hc2⟩⟩, fun b o e => of_hidT e, Nat.le_of_eq (hidT_size _ _), trivial, (fun b q => by cases q), hok, .of_eq hgen⟩
  have hsp : spS K cl f [.ref a] H (fun v _ => v = .bl true) (fun _ _ _ => False) := ⟨a, H, ns, rfl, Le.refl H, hS, by
    rw [ht]
    intro v F' H' _ r
    exact Rp.inv_bool r⟩
  refine codeAny_mono ((G _ KB (nsD hns)).go callerA [] s₁ H [.ref a] [.ref a] _ _ hr rfl e0 (hz s₁ (.ref a)) (.cons rfl .nil) hsp) ?_
  rintro (e | fl) s' h
  · obtain ⟨_, _, _, _, _, _, _, _, _, _, _, _, z⟩ := h
    exact z.elim
  · cases fl with
    | next => exact h.elim
    | brk => exact h.elim
    | cont => exact h.elim
    | ret u =>
      obtain ⟨v, H', os, bare, un, hok', r', q⟩ := h
      have q : v = .bl true := q
      subst q
      have r' : u = Value.bool true := r'
      subst r'
      refine ⟨rfl, OldK.of_keep fun b o e => ?_, os, bare⟩
      cases q : H b with
      | none => exact un.keep b o e q (fun z => by cases z) (fun z => by cases z)
      | some u =>
        obtain ⟨z1, z2, rfl⟩ := hH b u q
        have e1 := (hok b _ q).1
        have e2 := (hok' b _ (un.frzs b _ _ q)).1
        rw [e] at e1; cases e1
        exact e2
end Mir
namespace Mir
open PySem PySem.Spec PyProof.Rows L2

/-! ### operators as functions of data -/
noncomputable def addD : D → D → Option D
  | .int a, .int b => some (.int (a + b))
  | .str a, .str b => if a.length + b.length ≤ sizeLine then some (.str (a ++ b)) else none
  | .list a, .list b => if a.length + b.length ≤ sizeLine then some (.list (a ++ b)) else none
  | .tuple a, .tuple b => if a ≠ [] ∧ b ≠ [] ∧ a.length + b.length ≤ sizeLine then some (.tuple (a ++ b)) else none
  | _, _ => none
noncomputable def rAddA (K : PySem.W.Frag) : R2 := fun x y H Q => (rI0 (fun i j => .int (i + j)) x y H Q ∨ (∃ i j, x = .str i ∧ y = .str j ∧ i.length + j.length ≤ sizeLine ∧ Q (.str (i ++ j)) H)) ∨ (rCat x y H Q ∨ rCatT K x y H Q)
theorem op_addA {X : Cx} : OpR X (binaryOp .Add) (rAddA X.K) := (op_add.or op_add_str).or (op_cat.or op_catT)
theorem RpA.ne {K : PySem.W.Frag} {F : Hp} {vs : List V} {ds : List D} (r : RpA K F vs ds) (h : ds ≠ []) : vs ≠ [] := by
  rintro rfl
  cases r
  exact h rfl
theorem s_add {K : PySem.W.Frag} : OpS K (rAddA K) addD := by
  intro d e r h F H x y Q le rx ry q
  cases d with
  | int a =>
    cases e with
    | int b =>
      cases rx; cases ry
      have h : PyData.int (a + b) = r := Option.some.inj h
      subst h
      exact .inl (.inl ⟨_, _, rfl, rfl, q _ F H (Ext.refl le) (.int _)⟩)
    | _ => cases h
  | str a =>
    cases e with
    | str b =>
      cases rx; cases ry
      have h : (if a.length + b.length ≤ sizeLine then some (PyData.str (a ++ b)) else none) = some r := h
      split at h
      · rename_i hz
        have h := Option.some.inj h
        subst h
        exact .inl (.inr ⟨_, _, rfl, rfl, hz, q _ F H (Ext.refl le) (.str _)⟩)
      · cases h
    | _ => cases h
  | list a =>
    cases e with
    | list b =>
      obtain ⟨p, vs, rfl, s1, r1⟩ := Rp.inv_list rx
      obtain ⟨p', vs', rfl, s2, r2⟩ := Rp.inv_list ry
      have h : (if a.length + b.length ≤ sizeLine then some (PyData.list (a ++ b)) else none) = some r := h
      split at h
      · rename_i hz
        have h := Option.some.inj h
        subst h
        refine .inr (.inl ⟨p, p', vs, vs', rfl, rfl, le _ _ s1, le _ _ s2, by rw [r1.length, r2.length]; exact hz, fun o no => ?_⟩)
        have fo := le.none no
        exact q _ _ _ ((Ext.grow le (o := .lst (vs ++ vs')) no).freeze no upd_same fo) (.lst upd_same ((r1.append r2).mono ((Le.refl F).upd fo)))
      · cases h
    | _ => cases h
  | tuple a =>
    cases e with
    | tuple b =>
      obtain ⟨p, vs, rfl, s1, r1⟩ := Rp.inv_tup rx
      obtain ⟨p', vs', rfl, s2, r2⟩ := Rp.inv_tup ry
      have h : (if a ≠ [] ∧ b ≠ [] ∧ a.length + b.length ≤ sizeLine then some (PyData.tuple (a ++ b)) else none) = some r := h
      split at h
      · rename_i hz
        have h := Option.some.inj h
        subst h
        refine .inr (.inr ⟨p, p', vs, vs', rfl, rfl, le.sqt s1, le.sqt s2, r1.ne hz.1, by rw [r1.length, r2.length]; exact hz.2.2, fun z => (r2.ne hz.2.1 z).elim, fun z o no => ?_⟩)
        have fo := le.none no
        exact q _ _ _ ((Ext.grow le (o := .tup (vs ++ vs')) no).freeze no upd_same fo) (.tup (.inl (.inl upd_same)) ((r1.append r2).mono ((Le.refl F).upd fo)))
      · cases h
    | _ => cases h
  | _ => cases h
/-- of two ints -/
noncomputable def iiD (C : Int → Int → Bool) (g : Int → Int → Int) : D → D → Option D
  | .int a, .int b => if C a b = true then some (.int (g a b)) else none
  | _, _ => none
theorem s_ii {K : PySem.W.Frag} {C : Int → Int → Bool} {Cp : Int → Int → Prop} {g : Int → Int → Int} (hc : ∀ a b, C a b = true → Cp a b) : OpS K (rI Cp fun i j => .int (g i j)) (iiD C g) := by
  intro d e r h F H x y Q le rx ry q
  cases d with
  | int a =>
    cases e with
    | int b =>
      cases rx; cases ry
      have h : (if C a b = true then some (PyData.int (g a b)) else none) = some r := h
      split at h
      · rename_i hz
        have h := Option.some.inj h
        subst h
        exact ⟨_, _, rfl, rfl, hc a b hz, q _ F H (Ext.refl le) (.int _)⟩
      · cases h
    | _ => cases h
  | _ => cases h
noncomputable def ii0D (g : Int → Int → Int) : D → D → Option D
  | .int a, .int b => some (.int (g a b))
  | _, _ => none
theorem s_ii0 {K : PySem.W.Frag} {g : Int → Int → Int} : OpS K (rI0 fun i j => .int (g i j)) (ii0D g) := by
  intro d e r h F H x y Q le rx ry q
  cases d with
  | int a =>
    cases e with
    | int b =>
      cases rx; cases ry
      have h : PyData.int (g a b) = r := Option.some.inj h
      subst h
      exact ⟨_, _, rfl, rfl, q _ F H (Ext.refl le) (.int _)⟩
    | _ => cases h
  | _ => cases h
noncomputable def subD : D → D → Option D := ii0D fun i j => i - j
noncomputable def okMul (a b : Int) : Bool := decide (a.natAbs.log2 + b.natAbs.log2 < 1000000)
noncomputable def mulD : D → D → Option D := iiD okMul fun i j => i * j
noncomputable def okDiv (_ b : Int) : Bool := decide (0 < b ∧ b.natAbs.log2 < 9000)
noncomputable def fdivD : D → D → Option D := iiD okDiv fun i j => i / j
noncomputable def okMod (_ b : Int) : Bool := decide (0 < b)
noncomputable def modD : D → D → Option D := iiD okMod fun i j => i % j
noncomputable def okPow (a b : Int) : Bool := decide (0 ≤ b ∧ b ≤ 1000 ∧ a.natAbs < 2 ^ 64)
noncomputable def powD : D → D → Option D := iiD okPow fun i j => i ^ j.toNat
theorem s_sub {K : PySem.W.Frag} : OpS K (rI0 fun i j => .int (i - j)) subD := s_ii0
theorem s_mul {K : PySem.W.Frag} : OpS K (rI CMulW fun i j => .int (i * j)) mulD := s_ii fun a b h => by
  unfold okMul at h
  have h := of_decide_eq_true h
  exact h
theorem s_fdiv {K : PySem.W.Frag} : OpS K (rI CDivW fun i j => .int (i / j)) fdivD := s_ii fun a b h => by
  unfold okDiv at h
  have h := of_decide_eq_true h
  exact h
theorem s_mod {K : PySem.W.Frag} : OpS K (rI (fun _ j => 0 < j) fun i j => .int (i % j)) modD := s_ii fun a b h => by unfold okMod at h; exact of_decide_eq_true h
theorem s_pow {K : PySem.W.Frag} : OpS K (rI CPow fun i j => .int (i ^ j.toNat)) powD := s_ii fun a b h => by
  unfold okPow at h
  have h := of_decide_eq_true h
  exact ⟨h.1, by omega, h.2.2⟩
/-- [..] * n -/
noncomputable def repL (xs : List D) (n : Int) : List D := (List.replicate n.toNat xs).flatten
noncomputable def negD : D → Option D
  | .int a => some (.int (-a))
  | _ => none
theorem s_neg {K : PySem.W.Frag} : UnS K (rU fun i => .int (-i)) negD := by
  intro d r h F H x Q le rx q
  cases d with
  | int a =>
    cases rx
    have h := Option.some.inj h
    subst h
    exact ⟨_, rfl, q _ F H (Ext.refl le) (.int _)⟩
  | _ => cases h

/-! ### comparisons -/
noncomputable def cmpI (p : Int → Int → Bool) : D → D → Option Bool
  | .int a, .int b => some (p a b)
  | _, _ => none
theorem s_cmpI {K : PySem.W.Frag} {p : Int → Int → Bool} : CmS K (rI0 fun i j => .bl (p i j)) (cmpI p) := by
  intro d e r h H x y Q rx ry q
  cases d with
  | int a =>
    cases e with
    | int b =>
      cases rx; cases ry
      have h := Option.some.inj h
      subst h
      exact ⟨_, _, rfl, rfl, q⟩
    | _ => cases h
  | _ => cases h
noncomputable abbrev ltI := cmpI fun i j => decide (i < j)
noncomputable abbrev leI := cmpI fun i j => decide (i ≤ j)
noncomputable abbrev gtI := cmpI fun i j => decide (j < i)
noncomputable abbrev geI := cmpI fun i j => decide (j ≤ i)
/-- data without dicts, not too deep -/
noncomputable def eqI (a b : Int) : Bool := Int.rec (fun n => Int.rec (fun m => Nat.beq n m) (fun _ => false) b) (fun n => Int.rec (fun _ => false) (fun m => Nat.beq n m) b) a
theorem eqI_eq (a b : Int) : eqI a b = (a == b) := by
  have nb : ∀ n m : Nat, Nat.beq n m = decide (n = m) := fun n m => by
    by_cases h : n = m
    · subst h; simp
    · rw [decide_eq_false h]
      cases z : Nat.beq n m with
      | false => rfl
      | true => exact absurd (Nat.eq_of_beq_eq_true z) h
  cases a with
  | ofNat n =>
    cases b with
    | ofNat m =>
      show Nat.beq n m = _
      rw [nb, Bool.eq_iff_iff, decide_eq_true_eq, beq_iff_eq]
      exact ⟨fun h => by rw [h], fun h => Int.ofNat.inj h⟩
    | negSucc m =>
      show false = _
      rw [eq_comm, beq_eq_false_iff_ne]
      exact fun h => by cases h
  | negSucc n =>
    cases b with
    | ofNat m =>
      show false = _
      rw [eq_comm, beq_eq_false_iff_ne]
      exact fun h => by cases h
    | negSucc m =>
      show Nat.beq n m = _
      rw [nb, Bool.eq_iff_iff, decide_eq_true_eq, beq_iff_eq]
      exact ⟨fun h => by rw [h], fun h => Int.negSucc.inj h⟩
noncomputable def eqD (d e : D) : Option Bool := match d, e with
  | .str x, .str y => some (decide (x = y))
  | .int x, .int y => some (eqI x y)
  | d, e => if SeqAt.shaped d = true ∧ SeqAt.shaped e = true then some (PyData.eqv d e) else none
noncomputable def neD (d e : D) : Option Bool := (eqD d e).map (!·)
theorem lay_of {d : D} (h : SeqAt.shaped d = true) : d.canLay0 = true := SeqAt.canLay_of_shaped h
noncomputable def rEqE (K : PySem.W.Frag) : R2 := fun x y H Q => rEqD K x y H Q ∨ rEq x y H Q
noncomputable def rNeE (K : PySem.W.Frag) : R2 := fun x y H Q => rNeD K x y H Q ∨ rNe x y H Q
theorem op_eqE {X : Cx} (hu : X.A.units + 64 < cLine) : OpR X (compareOp .Eq) (rEqE X.K) := by
  intro pins s σ H x y v u Q I rx ry h
  rcases h with h | h
  · exact op_eqD hu pins s σ H x y v u Q I rx ry h
  · exact op_eq pins s σ H x y v u Q I rx ry h
theorem op_neE {X : Cx} (hu : X.A.units + 64 < cLine) : OpR X (compareOp .NotEq) (rNeE X.K) := by
  intro pins s σ H x y v u Q I rx ry h
  rcases h with h | h
  · exact op_neD hu pins s σ H x y v u Q I rx ry h
  · exact op_ne pins s σ H x y v u Q I rx ry h
theorem eqD_cases (d e : D) : (∃ x y, d = .str x ∧ e = .str y ∧ eqD d e = some (decide (x = y))) ∨ eqD d e = if SeqAt.shaped d = true ∧ SeqAt.shaped e = true then some (PyData.eqv d e) else none := by
  cases d <;> cases e <;> first | exact .inr rfl | exact .inl ⟨_, _, rfl, rfl, rfl⟩ | skip
  rename_i a b
  refine .inr ?_
  have q : ∀ i : Int, SeqAt.shaped (.int i) = true := fun i => by simp [SeqAt.shaped, PyData.canLay0, PyData.depth]
  rw [if_pos ⟨q a, q b⟩]
  show some (eqI a b) = _
  rw [eqI_eq]
  simp only [PyData.eqv]
theorem s_eq {K : PySem.W.Frag} : CmS K (rEqE K) eqD := by
  intro d e r h H x y Q rx ry q
  rcases eqD_cases d e with ⟨a, b, rfl, rfl, z⟩ | z
  · cases rx
    cases ry
    rw [z] at h
    have h := Option.some.inj h
    subst h
    refine .inr ⟨rfl, ?_⟩
    simpa using q
  · rw [z] at h
    split at h
    · rename_i hz
      have h := Option.some.inj h
      subst h
      exact .inl ⟨d, e, rx.dp d (lay_of hz.1), ry.dp e (lay_of hz.2), hz.1, hz.2, q⟩
    · cases h
theorem s_ne {K : PySem.W.Frag} : CmS K (rNeE K) neD := by
  intro d e r h H x y Q rx ry q
  unfold neD at h
  rcases eqD_cases d e with ⟨a, b, rfl, rfl, z⟩ | z
  · cases rx
    cases ry
    rw [z] at h
    have h : (!decide (a = b)) = r := Option.some.inj h
    subst h
    refine .inr ⟨rfl, ?_⟩
    simpa using q
  · rw [z] at h
    split at h
    · rename_i hz
      have h : (!PyData.eqv d e) = r := Option.some.inj h
      subst h
      exact .inl ⟨d, e, rx.dp d (lay_of hz.1), ry.dp e (lay_of hz.2), hz.1, hz.2, q⟩
    · cases h
theorem hu_rm {X : Cx} {k : Nat} (r : Rm X k) : X.A.units + 64 < cLine := r.room.units
theorem hu_rm5 {X : Cx} {k : Nat} (r : Rm X k) : X.A.units + 65 < cLine := by have := r.room.un; omega
/-- is None, is True, is False -/
noncomputable def isNone : D → Bool
  | .none => true
  | _ => false
noncomputable def isD : D → D → Option Bool
  | d, .none => some (isNone d)
  | .bool a, .bool b => some (decide (a = b))
  | _, _ => none
noncomputable def isntD (d e : D) : Option Bool := (isD d e).map (!·)
theorem isNone_of {K : PySem.W.Frag} {H : Hp} {v : V} {d : D} (r : Rp K H v d) : isNone d = decide (v = .non) := by
  cases r <;> rfl
noncomputable def rIsA : R2 := fun x y H Q => (y = .non ∧ Q (.bl (decide (x = .non))) H) ∨ rIsB x y H Q
noncomputable def rNotA : R2 := fun x y H Q => (y = .non ∧ Q (.bl (!decide (x = .non))) H) ∨ rNotB x y H Q
theorem op_isA {X : Cx} : OpR X (compareOp .Is) rIsA := op_isN.or op_isBl
theorem op_notA {X : Cx} : OpR X (compareOp .IsNot) rNotA := op_notN.or op_notBl
theorem s_is {K : PySem.W.Frag} : CmS K rIsA isD := by
  intro d e r h H x y Q rx ry q
  cases e with
  | none =>
    cases ry
    have h : some (isNone d) = some r := by cases d <;> exact h
    have h := Option.some.inj h
    subst h
    rw [isNone_of rx] at q
    exact .inl ⟨rfl, q⟩
  | bool b =>
    cases d with
    | bool a =>
      cases rx; cases ry
      have h : decide (a = b) = r := Option.some.inj h
      subst h
      exact .inr ⟨_, _, rfl, rfl, q⟩
    | _ => cases h
  | _ => cases d <;> cases h
theorem s_isnt {K : PySem.W.Frag} : CmS K rNotA isntD := by
  intro d e r h H x y Q rx ry q
  unfold isntD at h
  cases e with
  | none =>
    cases ry
    have h : (some (isNone d)).map (!·) = some r := by cases d <;> exact h
    have h : (!isNone d) = r := Option.some.inj h
    subst h
    rw [isNone_of rx] at q
    exact .inl ⟨rfl, q⟩
  | bool b =>
    cases d with
    | bool a =>
      cases rx; cases ry
      have h : (!decide (a = b)) = r := Option.some.inj h
      subst h
      exact .inr ⟨_, _, rfl, rfl, q⟩
    | _ => cases h
  | _ => cases d <;> cases h
/-- x in a list of data -/
noncomputable def inD (d : D) : D → Option Bool
  | .list ds => if SeqAt.shaped d = true ∧ SeqAt.shaped (.list ds) = true then some (ds.any fun z => PyData.eqv z d) else none
  | _ => none
noncomputable def notInD (d e : D) : Option Bool := (inD d e).map (!·)
theorem s_in {K : PySem.W.Frag} : CmS K (rInD K) inD := by
  intro d e r h H x y Q rx ry q
  cases e with
  | list ds =>
    have h : (if SeqAt.shaped d = true ∧ SeqAt.shaped (.list ds) = true then some (ds.any fun z => PyData.eqv z d) else none) = some r := h
    split at h
    · rename_i hz
      have h := Option.some.inj h
      subst h
      exact ⟨d, ds, rx.dp d (lay_of hz.1), ry.dp _ (lay_of hz.2), hz.1, hz.2, q⟩
    · cases h
  | _ => cases h
theorem s_notIn {K : PySem.W.Frag} : CmS K (rNotInD K) notInD := by
  intro d e r h H x y Q rx ry q
  cases e with
  | list ds =>
    have h : (if SeqAt.shaped d = true ∧ SeqAt.shaped (.list ds) = true then some (ds.any fun z => PyData.eqv z d) else none).map (!·) = some r := h
    split at h
    · rename_i hz
      have h := Option.some.inj h
      subst h
      exact ⟨d, ds, rx.dp d (lay_of hz.1), ry.dp _ (lay_of hz.2), hz.1, hz.2, q⟩
    · cases h
  | _ => cases h

/-! ### built-ins -/
noncomputable def lenD : D → Option D
  | .str y => if y.length ≤ sizeLine then some (.int y.length) else none
  | .list xs => some (.int xs.length)
  | .tuple xs => some (.int xs.length)
  | _ => none
theorem s_len {K : PySem.W.Frag} : C1S K (fun xs H Q => ∃ x n, xs = [x] ∧ LenV K x H n ∧ Q (.int n) H) lenD := by
  intro d r h F H x Q le rx q
  cases d with
  | str y =>
    cases rx
    have h : (if y.length ≤ sizeLine then some (PyData.int y.length) else none) = some r := h
    split at h
    · rename_i hz
      have h := Option.some.inj h
      subst h
      exact ⟨_, y.length, rfl, ⟨hz, rfl⟩, q _ F H (Ext.refl le) (.int _)⟩
    · cases h
  | list xs =>
    obtain ⟨p, vs, rfl, s1, r1⟩ := Rp.inv_list rx
    have h := Option.some.inj h
    subst h
    exact ⟨_, vs.length, rfl, .inl ⟨vs, .inl (.inl s1), rfl⟩, q _ F H (Ext.refl le) (by rw [r1.length]; exact .int _)⟩
  | tuple xs =>
    obtain ⟨p, vs, rfl, s1, r1⟩ := Rp.inv_tup rx
    have h := Option.some.inj h
    subst h
    exact ⟨_, vs.length, rfl, .inr ⟨vs, s1, rfl⟩, q _ F H (Ext.refl le) (by rw [r1.length]; exact .int _)⟩
  | _ => cases h
/-- len of a list that is only read (an own one, the script) -/
theorem pd_lenL {X : Cx} {cl : String → Addr} {W : XK} {a : Expr} {p pos : Pos} {m : En → R (List D)} (hg : Gl X "len") (hm : X.mg "len" = none) (ha : PL X cl W a m) (hs : starEach [a] X.env = (false, eval a X.env) :: starEach [] X.env := by rfl) (hpl : (backTo pos (starEach [] X.env)).any (·.1) = false := by rfl) :
    PD X cl W (.Call (.Name "len" p) [a] [] pos) (fun ρ => (m ρ).bind fun xs => .ok (.int xs.length)) := by
  refine PE.imp (pe_callB call_len hg hm PySem.boot_len (pa_one ha hs) (by decide) (by decide) hs hpl) fun σ H Q ⟨F0, H0, ρ, F, ok, h⟩ => ?_
  refine ⟨F0, H0, ρ, F, ok, (tR.bind anti_D h).imp fun v H1 ⟨F1, xs, e1, ⟨b, vs, hv, s1, r1⟩, h1⟩ => ?_⟩
  subst hv
  exact ⟨_, vs.length, rfl, .inl ⟨vs, s1, rfl⟩, h1 _ F1 H1 (Ext.refl e1.sub) (by rw [r1.length]; exact .int _)⟩
noncomputable def intD : D → Option D
  | .int i => some (.int i)
  | .bool b => some (.int (if b then 1 else 0))
  | _ => none
theorem s_int {K : PySem.W.Frag} : C1S K (fun xs H Q => (∃ i, xs = [.int i] ∧ Q (.int i) H) ∨ ∃ k, xs = [.bl k] ∧ Q (.int (if k then 1 else 0)) H) intD := by
  intro d r h F H x Q le rx q
  cases d with
  | int i =>
    cases rx
    have h := Option.some.inj h
    subst h
    exact .inl ⟨i, rfl, q _ F H (Ext.refl le) (.int _)⟩
  | bool b =>
    cases rx
    have h := Option.some.inj h
    subst h
    exact .inr ⟨b, rfl, q _ F H (Ext.refl le) (.int _)⟩
  | _ => cases h
noncomputable def absD : D → Option D
  | .int i => some (.int (if i < 0 then -i else i))
  | _ => none
theorem s_abs {K : PySem.W.Frag} : C1S K (fun xs H Q => ∃ i, xs = [.int i] ∧ Q (.int (if i < 0 then -i else i)) H) absD := by
  intro d r h F H x Q le rx q
  cases d with
  | int i =>
    cases rx
    have h := Option.some.inj h
    subst h
    exact ⟨i, rfl, q _ F H (Ext.refl le) (.int _)⟩
  | _ => cases h
noncomputable def min2D : D → D → Option D := ii0D fun i j => if j < i then j else i
noncomputable def max2D : D → D → Option D := ii0D fun i j => if j > i then j else i
theorem s_c2 {K : PySem.W.Frag} {g : Int → Int → Int} : C2S K (fun xs H Q => ∃ i j, xs = [.int i, .int j] ∧ Q (.int (g i j)) H) (ii0D g) := by
  intro d e r h F H x y Q le rx ry q
  cases d with
  | int a =>
    cases e with
    | int b =>
      cases rx; cases ry
      have h := Option.some.inj h
      subst h
      exact ⟨_, _, rfl, q _ F H (Ext.refl le) (.int _)⟩
    | _ => cases h
  | _ => cases h
noncomputable def gcdD : D → D → Option D := ii0D fun i j => ((Nat.gcd i.natAbs j.natAbs : Nat) : Int)
/-- math.gcd, by the module's name -/
theorem pd_gcd {X : Cx} {cl : String → Addr} {W : XK} {a b : Expr} {x : Str} {p pos : Pos} {ma mb : En → R D} (hg : Gl X x) (hm : X.mg x = some (.builtin "math.gcd")) (ha : PD X cl W a ma) (hb : PD X cl W b mb) (hd : (x == ("__debug__" : Str)) = false := by decide)
    (hs : starEach [a, b] X.env = (false, eval a X.env) :: starEach [b] X.env := by rfl) (hs2 : starEach [b] X.env = (false, eval b X.env) :: starEach [] X.env := by rfl) (hpl : (backTo pos (starEach [b] X.env)).any (·.1) = false := by rfl) :
    PD X cl W (.Call (.Name x p) [a, b] [] pos) (bin2 gcdD ma mb) := by
  refine PE.imp (pe_callBfun cr_gcd hg hm (pa_cons ha (pa_one hb hs2) hs) hd hs hpl) fun σ H Q ⟨F0, H0, ρ, F, ok, h⟩ => ?_
  refine ⟨F0, H0, ρ, F, ok, (tR.bind anti_D h).imp fun v H1 ⟨F1, x, e1, p1, h1⟩ => ?_⟩
  refine ⟨F0, H0, ρ, F1, ok.grow e1, (tR.bind anti_D h1).imp fun u H2 ⟨F2, y, e2, p2, h2⟩ => ?_⟩
  cases hr : gcdD x y with
  | none => rw [hr] at h2; exact False.elim h2
  | some r =>
    rw [hr] at h2
    exact s_c2 (K := X.K) (g := fun i j => ((Nat.gcd i.natAbs j.natAbs : Nat) : Int)) x y r hr F2 H2 v u Q e2.sub (p1.mono e2.le) p2 h2
/-- sum of ints -/
noncomputable def intsD : List D → Option (List Int)
  | [] => some []
  | .int i :: r => (intsD r).map (i :: ·)
  | _ :: _ => none
theorem ints_of {K : PySem.W.Frag} {F : Hp} : ∀ {vs : List V} {ds : List D} {ns : List Int}, RpA K F vs ds → intsD ds = some ns → vs = ns.map V.int
  | _, _, ns, .nil, h => by
    have h : ([] : List Int) = ns := Option.some.inj h
    subst h; rfl
  | _, _, ns, @RpA.cons _ _ v vs d ds h1 h2, h => by
    cases d with
    | int i =>
      have h : (intsD ds).map (i :: ·) = some ns := h
      cases e : intsD ds with
      | none => rw [e] at h; cases h
      | some ms =>
        rw [e] at h
        have h : i :: ms = ns := Option.some.inj h
        subst h
        cases h1
        rw [ints_of h2 e]; rfl
    | _ => cases h
noncomputable def sumL (xs : List D) : Option D := (intsD xs).map fun ns => .int ns.sum
theorem pd_sumL {X : Cx} {cl : String → Addr} {W : XK} {a : Expr} {p pos : Pos} {m : En → R (List D)} (hc : X.calm = true) (hg : Gl X "sum") (hm : X.mg "sum" = none) (ha : PL X cl W a m) (hs : starEach [a] X.env = (false, eval a X.env) :: starEach [] X.env := by rfl) (hpl : (backTo pos (starEach [] X.env)).any (·.1) = false := by rfl) :
    PD X cl W (.Call (.Name "sum" p) [a] [] pos) (un1 sumL m) := by
  refine PE.imp (pe_callB (cr_sum hc) hg hm (by decide +kernel) (pa_one ha hs) (by decide) (by decide) hs hpl) fun σ H Q ⟨F0, H0, ρ, F, ok, h⟩ => ?_
  refine ⟨F0, H0, ρ, F, ok, (tR.bind anti_D h).imp fun v H1 ⟨F1, xs, e1, ⟨b, vs, hv, s1, r1⟩, h1⟩ => ?_⟩
  subst hv
  cases hr : sumL xs with
  | none => rw [hr] at h1; exact False.elim h1
  | some r =>
    rw [hr] at h1
    unfold sumL at hr
    cases e : intsD xs with
    | none => rw [e] at hr; cases hr
    | some ns =>
      rw [e] at hr
      have hr := Option.some.inj hr
      subst hr
      have ev := ints_of r1 e
      subst ev
      exact ⟨b, ns, rfl, s1, h1 _ F1 H1 (Ext.refl e1.sub) (.int _)⟩
/-! ### subscripts -/
noncomputable def ixD : D → D → Option D
  | .list xs, .int i => atF xs i
  | .tuple xs, .int i => atF xs i
  | .str z, .int i => if z.length ≤ sizeLine then (atI z.cps.toList i).map fun c => .str ⟨#[c]⟩ else none
  | _, _ => none
theorem atI_rp {K : PySem.W.Frag} {F : Hp} {vs : List V} {ds : List D} {i : Int} {r : D} (h : RpA K F vs ds) (e : atI ds i = some r) : ∃ v, atI vs i = some v ∧ Rp K F v r := by
  have e : (ixN ds.length i).bind (fun j => ds[j]?) = some r := e
  cases hj : ixN ds.length i with
  | none => rw [hj] at e; cases e
  | some j =>
    rw [hj] at e
    obtain ⟨v, g1, g2⟩ := RpA.getD h (show ds[j]? = some r from e)
    exact ⟨v, by unfold atI; rw [h.length, hj]; exact g1, g2⟩
theorem s_ix {K : PySem.W.Frag} : OpS K (rIx K) ixD := by
  intro d e r h F H x y Q le rx ry q
  cases e with
  | int i =>
    cases ry
    cases d with
    | list xs =>
      obtain ⟨p, vs, rfl, s1, r1⟩ := Rp.inv_list rx
      obtain ⟨v, g1, g2⟩ := atI_rp r1 (atF_eq.symm.trans (show atF xs i = some r from h))
      exact .inl ⟨p, vs, i, v, rfl, rfl, .inl (.inl (le _ _ s1)), g1, q v F H (Ext.refl le) g2⟩
    | tuple xs =>
      obtain ⟨p, vs, rfl, s1, r1⟩ := Rp.inv_tup rx
      obtain ⟨v, g1, g2⟩ := atI_rp r1 (atF_eq.symm.trans (show atF xs i = some r from h))
      exact .inr (.inl ⟨p, vs, i, v, rfl, rfl, le.sqt s1, g1, q v F H (Ext.refl le) g2⟩)
    | str z =>
      cases rx
      have h : (if z.length ≤ sizeLine then (atI z.cps.toList i).map (fun c => PyData.str ⟨#[c]⟩) else none) = some r := h
      split at h
      · rename_i hz
        cases e : atI z.cps.toList i with
        | none => rw [e] at h; cases h
        | some c =>
          rw [e] at h
          have h := Option.some.inj h
          subst h
          exact .inr (.inr ⟨z, i, c, rfl, rfl, hz, e, q _ F H (Ext.refl le) (.str _)⟩)
      · cases h
    | _ => cases h
  | _ => cases d <;> cases h
/-! ### append, a store, extend on an own list -/
section
variable {X : Cx} {cl : String → Addr} {W : XK} {o e : Expr} {pos cpos apos p2 : Pos} {i : Nat}
noncomputable def appS (i : Nat) (m : En → R D) : En → R Fl := fun ρ => match nth ρ i with
  | .ce xs => (m ρ).bind fun d => if xs.length < sizeLine then .ok (.nx (setE ρ i (.ce (xs ++ [d])))) else .no
  | _ => .no
theorem st_app {m : En → R D} (ho : PE X o (tVar i)) (he : PD X cl W e m) (hbase : attributeBase o "append" X.env (eval o X.env) = eval o X.env := by rfl)
    (hfew : ((backTo cpos (starEach (e :: []) X.env)).all (fun x => !x.1) && (backToKw cpos (keywordEach [] X.env)).all (fun x => x.1.isSome)
      && decide ((e :: []).length + ([] : List Keyword).length + (if ([] : List Keyword).isEmpty then 0 else 1) < 30)) = true := by rfl)
    (hline : (apos.endLine == cpos.line) = true := by rfl) (hs : starEach (e :: []) X.env = (false, eval e X.env) :: starEach [] X.env := by rfl) (hplain : (backTo cpos (starEach [] X.env)).any (·.1) = false := by rfl)
    (hsw : swapsWith (.Call (.Attribute o "append" apos) [e] [] cpos) none p2.line X.env = pure false := by rfl) :
    PSt X cl W (.Expr (.Call (.Attribute o "append" apos) [e] [] cpos) p2) (appS i m) := by
  refine PS.imp (ps_expr (pe_bm PySem.F.plainAttrs_list PySem.F.slot_list_append PySem.F.type_list_append mt_append ho (pa_one he hs) hbase hfew hline hs hplain) hsw) fun σ H Q ⟨F0, H0, ρ, F, ok, h⟩ => ?_
  unfold appS at h
  cases hx : nth ρ i with
  | ce xs =>
    rw [hx] at h
    obtain ⟨a, vs, h1, h2, h3, h4, h5⟩ := ok.ce (nth_ce hx)
    refine ⟨_, h1, .inl ⟨rfl, _, .inl (.inl h2)⟩, F0, H0, ρ, F, ok, tRS.expr h ok.ext.keep fun v F1 H1 d e1 p1 h1' => ?_⟩
    have h1' : tRS cl W X.K F0 H0 F1 (if xs.length < sizeLine then .ok (.nx (setE ρ i (.ce (xs ++ [d])))) else .no) Q := h1'
    split at h1'
    · rename_i hz
      refine ⟨a, vs, v, rfl, rfl, e1.keep _ _ h2, by rw [h5.length]; exact hz, ?_⟩
      exact h1' σ F1 _ (by rw [setE_eq]; exact ((ok.grow e1).write (nth_ce hx) h1 ((h5.mono e1.le).append (.cons p1 .nil)))) (Le.refl _)
    · exact h1'.elim
  | _ => rw [hx] at h; exact h.elim
noncomputable def extS (i : Nat) (m : En → R (List D)) : En → R Fl := fun ρ => match nth ρ i with
  | .ce xs => (m ρ).bind fun ds => if xs.length + ds.length ≤ sizeLine then .ok (.nx (setE ρ i (.ce (xs ++ ds)))) else .no
  | _ => .no
theorem st_ext {m : En → R (List D)} (ho : PE X o (tVar i)) (he : PF X cl W e m) (hbase : attributeBase o "extend" X.env (eval o X.env) = eval o X.env := by rfl)
    (hfew : ((backTo cpos (starEach (e :: []) X.env)).all (fun x => !x.1) && (backToKw cpos (keywordEach [] X.env)).all (fun x => x.1.isSome)
      && decide ((e :: []).length + ([] : List Keyword).length + (if ([] : List Keyword).isEmpty then 0 else 1) < 30)) = true := by rfl)
    (hline : (apos.endLine == cpos.line) = true := by rfl) (hs : starEach (e :: []) X.env = (false, eval e X.env) :: starEach [] X.env := by rfl) (hplain : (backTo cpos (starEach [] X.env)).any (·.1) = false := by rfl)
    (hsw : swapsWith (.Call (.Attribute o "extend" apos) [e] [] cpos) none p2.line X.env = pure false := by rfl) :
    PSt X cl W (.Expr (.Call (.Attribute o "extend" apos) [e] [] cpos) p2) (extS i m) := by
  refine PS.imp (ps_expr (pe_bm PySem.F.plainAttrs_list PySem.F.slot_list_extend PySem.F.type_list_extend mt_extend ho (pa_one he hs) hbase hfew hline hs hplain) hsw) fun σ H Q ⟨F0, H0, ρ, F, ok, h⟩ => ?_
  unfold extS at h
  cases hx : nth ρ i with
  | ce xs =>
    rw [hx] at h
    obtain ⟨a, vs, h1, h2, h3, h4, h5⟩ := ok.ce (nth_ce hx)
    refine ⟨_, h1, .inl ⟨rfl, _, .inl (.inl h2)⟩, F0, H0, ρ, F, ok, tRS.expr h ok.ext.keep fun v F1 H1 ds e1 ⟨p, ws, hv, np, fp, hp, r⟩ h1' => ?_⟩
    have h1' : tRS cl W X.K F0 H0 F1 (if xs.length + ds.length ≤ sizeLine then .ok (.nx (setE ρ i (.ce (xs ++ ds)))) else .no) Q := h1'
    split at h1'
    · rename_i hz
      refine ⟨a, p, vs, ws, rfl, by rw [hv], e1.keep _ _ h2, hp, by rw [h5.length, r.length]; exact hz, ?_⟩
      exact h1' σ F1 _ (by rw [setE_eq]; exact ((ok.grow e1).write (nth_ce hx) h1 ((h5.mono e1.le).append r))) (Le.refl _)
    · exact h1'.elim
  | _ => rw [hx] at h; exact h.elim
/-- x[k] = e -/
noncomputable def stoS (i : Nat) (mk me : En → R D) : En → R Fl := fun ρ => match nth ρ i with
  | .ce xs => (me ρ).bind fun d => (mk ρ).bind fun k => match k with
    | .int z => match ixN xs.length z with
      | some q => .ok (.nx (setE ρ i (.ce (xs.set q d))))
      | none => .no
    | _ => .no
  | _ => .no
theorem st_sto {b : Expr} {tpos : Pos} {mk me : En → R D} (ho : PE X o (tVar i)) (hk : PD X cl W b mk) (he : PD X cl W e me)
    (ha : ∀ v, assign (.Subscript o b tpos) X.env v = (do
      let ov ← holding [v] (eval o X.env)
      let iv ← holding [v, ov] (eval b X.env)
      standAt tpos
      holding [v, ov, iv] (setItem ov iv v)
      release [v, ov, iv] []) := by intro _; rfl)
    (hs : swapsWithSole [.Subscript o b tpos] e pos.line X.env = pure false := by rfl) (hw : swappedStores [.Subscript o b tpos] e X.env = pure none := by rfl)
    (h1 : (assignEach [.Subscript o b tpos] X.env).map (·.2) = [assign (.Subscript o b tpos) X.env] := by rfl) : PSt X cl W (.Assign [.Subscript o b tpos] e pos) (stoS i mk me) := by
  refine PS.imp (ps_asg he (pg_sub ho hk set_list ha) hs hw h1) fun σ H Q ⟨F0, H0, ρ, F, ok, h⟩ => ?_
  unfold stoS at h
  cases hx : nth ρ i with
  | ce xs =>
    rw [hx] at h
    obtain ⟨a, vs, h1, h2, h3, h4, h5⟩ := ok.ce (nth_ce hx)
    refine ⟨F0, H0, ρ, F, ok, tRS.expr h ok.ext.keep fun v F1 H1 d e1 p1 h1' => ⟨_, h1, F0, H0, ρ, F1, ok.grow e1, ?_⟩⟩
    refine tRS.expr h1' (ok.ext.keep.trans e1.keep) fun u F2 H2 k e2 p2 h2' => ?_
    cases k with
    | int z =>
      obtain rfl := Rp.inv_int p2
      have h2' : tRS cl W X.K F0 H0 F2 (match ixN xs.length z with
        | some q => .ok (.nx (setE ρ i (.ce (xs.set q d))))
        | none => .no) Q := h2'
      cases hq : ixN xs.length z with
      | none => rw [hq] at h2'; exact h2'.elim
      | some q =>
        rw [hq] at h2'
        refine ⟨a, vs, z, q, rfl, rfl, e2.keep _ _ (e1.keep _ _ h2), by rw [h5.length]; exact hq, ?_⟩
        exact h2' σ F2 _ (by rw [setE_eq]; exact (((ok.grow e1).grow e2).write (nth_ce hx) h1 ((h5.mono (e1.le.trans e2.le)).set q (p1.mono e2.le)))) (Le.refl _)
    | _ => exact h2'.elim
  | _ => rw [hx] at h; exact h.elim
end
end Mir
namespace Mir
open PySem PySem.Spec PyProof.Rows L2

/-! ### short names for what a printer writes -/
noncomputable def tL (m : En → R (List D)) : En → R D := fun ρ => toList (m ρ)
noncomputable def asL (m : En → R D) : En → R (List D) := fun ρ => (m ρ).bind asList
noncomputable def itD (m : En → R D) : En → R (List D) := fun ρ => (m ρ).bind items
noncomputable def bD (m : En → R Bool) : En → R D := fun ρ => toB (m ρ)
noncomputable def lenL (m : En → R (List D)) : En → R D := fun ρ => (m ρ).bind fun xs => .ok (.int xs.length)
noncomputable def noS : En → R Fl := fun _ => .no
noncomputable def frzS (i : Nat) (m : En → R Fl) : En → R Fl := fun ρ => m (frzE i ρ)
noncomputable def fuel : Nat := 100000
section
variable {X : Cx} {cl : String → Addr} {W : XK} {e a b : Expr} {pos : Pos}
theorem pd_f {m : En → R (List D)} (h : PF X cl W e m) : PD X cl W e (tL m) := PF.d h
theorem pl_f {m : En → R (List D)} (h : PF X cl W e m) : PL X cl W e m := PF.l h
theorem pl_d {m : En → R D} (h : PD X cl W e m) : PL X cl W e (asL m) := PD.l h
theorem pw_d {m : En → R D} (h : PD X cl W e m) : PVw X cl W e m := PD.vw h
theorem pw_c {i : Nat} (h : PE X e (tVar i)) : PVw X cl W e (tL (getc i)) := pw_v h
theorem si_d {tg : Expr} {m : En → R D} (h : PD X cl W e m) : PSr X cl W false tg e (itD m) := sr_d h
theorem sw_d {tg : Expr} {m : En → R D} (h : PD X cl W e m) : PSr X cl W true tg e (itD m) := (sr_d h).weak
theorem sw_r1 {tg : Expr} {p : Pos} {m : En → R D} (hg : Gl X "range") (hm : X.mg "range" = none) (ha : PD X cl W a m) (hs1 : starEach [a] X.env = (false, eval a X.env) :: starEach [] X.env := by rfl) (hs : starEach [a] X.env = [(false, eval a X.env)] := by rfl) : PSr X cl W true tg (.Call (.Name "range" p) [a] [] pos) (rng1 m) := (sr_r1 hg hm ha hs1 hs).weak
theorem sw_r2 {tg : Expr} {p : Pos} {ma mb : En → R D} (hg : Gl X "range") (hm : X.mg "range" = none) (ha : PD X cl W a ma) (hb : PD X cl W b mb) (hs1 : starEach [a, b] X.env = (false, eval a X.env) :: starEach [b] X.env := by rfl) (hs3 : starEach [b] X.env = (false, eval b X.env) :: starEach [] X.env := by rfl) (hs : starEach [a, b] X.env = [(false, eval a X.env), (false, eval b X.env)] := by rfl)
    (hs2 : starEach [b] X.env = [(false, eval b X.env)] := by rfl) : PSr X cl W true tg (.Call (.Name "range" p) [a, b] [] pos) (rng2 ma mb) := (sr_r2 hg hm ha hb hs1 hs3 hs hs2).weak
theorem sb_never {st : Stmt} : PSt X cl W st noS := st_never
theorem sb_frz {rest : List Stmt} {m : En → R Fl} (i : Nat) (h : PBl X cl W rest m) : PBl X cl W rest (frzS i m) := bl_frz i h
theorem bd_cmp {op : CmpOp} {rd : R2} {f : D → D → Option Bool} {ma mb : En → R D} (ho : OpR X (compareOp op) rd) (hf : CmS X.K rd f) (ha : PVw X cl W a ma) (hb : PVw X cl W b mb) (hm : behindInMarks op b = false) : PD X cl W (.Compare a [op] [b] pos) (bD (bin2 f ma mb)) := pd_cmp ho hf ha hb hm
theorem bd_chain {op op' : CmpOp} {rd rd' : R2} {f g : D → D → Option Bool} {c : Expr} {ma mb mc : En → R D} (ho : OpR X (compareOp op) rd) (ho' : OpR X (compareOp op') rd') (hf : CmS X.K rd f) (hg : CmS X.K rd' g)
    (ha : PVw X cl W a ma) (hb : PVw X cl W b mb) (hc : PVw X cl W c mc) (hm : lastMarks [op, op'] [b, c] = false := by rfl) : PD X cl W (.Compare a [op, op'] [b, c] pos) (bD (chain f g ma mb mc)) := pd_chain ho ho' hf hg ha hb hc hm
theorem pd_len {p : Pos} {m : En → R D} (hg : Gl X "len") (hm : X.mg "len" = none) (ha : PVw X cl W a m) (hs : starEach [a] X.env = (false, eval a X.env) :: starEach [] X.env := by rfl) (hpl : (backTo pos (starEach [] X.env)).any (·.1) = false := by rfl) : PD X cl W (.Call (.Name "len" p) [a] [] pos) (un1 lenD m) :=
  pd_b1 call_len s_len hg hm PySem.boot_len ha (by decide) (by decide) hs hpl
theorem pd_lenl {p : Pos} {m : En → R (List D)} (hg : Gl X "len") (hm : X.mg "len" = none) (ha : PL X cl W a m) (hs : starEach [a] X.env = (false, eval a X.env) :: starEach [] X.env := by rfl) (hpl : (backTo pos (starEach [] X.env)).any (·.1) = false := by rfl) : PD X cl W (.Call (.Name "len" p) [a] [] pos) (lenL m) := pd_lenL hg hm ha hs hpl
theorem pd_int1 {p : Pos} {m : En → R D} (hg : Gl X "int") (hm : X.mg "int" = none) (ha : PVw X cl W a m) (hs : starEach [a] X.env = (false, eval a X.env) :: starEach [] X.env := by rfl) (hpl : (backTo pos (starEach [] X.env)).any (·.1) = false := by rfl) : PD X cl W (.Call (.Name "int" p) [a] [] pos) (un1 intD m) :=
  pd_t1 call_int1 s_int hg hm (by decide +kernel) ha (by decide) (by decide) hs hpl
theorem pd_abs {p : Pos} {m : En → R D} (hg : Gl X "abs") (hm : X.mg "abs" = none) (ha : PVw X cl W a m) (hs : starEach [a] X.env = (false, eval a X.env) :: starEach [] X.env := by rfl) (hpl : (backTo pos (starEach [] X.env)).any (·.1) = false := by rfl) : PD X cl W (.Call (.Name "abs" p) [a] [] pos) (un1 absD m) :=
  pd_b1 call_abs s_abs hg hm (by decide +kernel) ha (by decide) (by decide) hs hpl
theorem pd_min2 {p : Pos} {ma mb : En → R D} (hc : X.calm = true) (hg : Gl X "min") (hm : X.mg "min" = none) (ha : PD X cl W a ma) (hb : PD X cl W b mb) (hs : starEach [a, b] X.env = (false, eval a X.env) :: starEach [b] X.env := by rfl) (hs2 : starEach [b] X.env = (false, eval b X.env) :: starEach [] X.env := by rfl) (hpl : (backTo pos (starEach [b] X.env)).any (·.1) = false := by rfl) :
    PD X cl W (.Call (.Name "min" p) [a, b] [] pos) (bin2 min2D ma mb) := pd_b2 (call_min2 hc) s_c2 hg hm (by decide +kernel) ha hb (by decide) (by decide) hs hs2 hpl
theorem pd_max2 {p : Pos} {ma mb : En → R D} (hc : X.calm = true) (hg : Gl X "max") (hm : X.mg "max" = none) (ha : PD X cl W a ma) (hb : PD X cl W b mb) (hs : starEach [a, b] X.env = (false, eval a X.env) :: starEach [b] X.env := by rfl) (hs2 : starEach [b] X.env = (false, eval b X.env) :: starEach [] X.env := by rfl) (hpl : (backTo pos (starEach [b] X.env)).any (·.1) = false := by rfl) :
    PD X cl W (.Call (.Name "max" p) [a, b] [] pos) (bin2 max2D ma mb) := pd_b2 (call_max2 hc) s_c2 hg hm (by decide +kernel) ha hb (by decide) (by decide) hs hs2 hpl
theorem rm_blk {k : Nat} {s : Shared} {H : Hp} {sc : Scope} {env : Env} {fp : List Addr} (r : Rm X k) : Rm (X.blk s H sc env fp) k := ⟨r.room, r.g⟩

/-! ### repr -/
end
mutual
noncomputable def shLen : D → Nat
  | .none => 4
  | .bool _ => 5
  | .int i => i.natAbs.log2 + 2
  | .str x => 10 * x.length + 2
  | .list xs => shLens xs + 3
  | .tuple xs => shLens xs + 3
  | .dict _ => 0
noncomputable def shLens : List D → Nat
  | [] => 0
  | x :: xs => shLen x + 2 + shLens xs
end
mutual
theorem shown_le : ∀ d : D, d.canLay0 = true → d.shown.length ≤ shLen d
  | .none, _ => by simp only [PyData.shown, shLen]; decide
  | .bool b, _ => by cases b <;> (simp only [PyData.shown, shLen]; decide)
  | .int i, _ => by
    simp only [PyData.shown, shLen]
    have h := int_text_length_le (a := i) (k := i.natAbs.log2 + 1) (by omega) (by omega)
    rw [PySem.ofString_length]
    exact h
  | .str x, h => by
    have h : PyData.strOk x = true := by simpa [PyData.canLay0] using h
    rw [PyData.shown_str]
    refine StrLaws.reprText_len x fun c hc => ?_
    have h0 : x.cps.all (· < 0x110000) = true := by simpa only [PyData.strOk] using h
    have := (Array.all_eq_true_iff_forall_mem.mp h0) c (Array.mem_toList_iff.mp hc)
    simp only [decide_eq_true_eq] at this
    omega
  | .list xs, h => by
    have h2 := shownAll_le xs (by simpa [PyData.canLay0] using h)
    have h3 := listText_len_le (PyData.shownAll xs)
    simp only [PyData.shown, shLen]
    omega
  | .tuple xs, h => by
    have h2 := shownAll_le xs (by simpa [PyData.canLay0] using h)
    have h3 := tupleText_len_le (PyData.shownAll xs)
    simp only [PyData.shown, shLen]
    omega
  | .dict _, h => by simp [PyData.canLay0] at h
theorem shownAll_le : ∀ xs : List D, PyData.canLayAll0 xs = true → ((PyData.shownAll xs).map (·.length)).sum + 2 * (PyData.shownAll xs).length ≤ shLens xs
  | [], _ => by simp [PyData.shownAll, shLens]
  | x :: xs, h => by
    have h : x.canLay0 = true ∧ PyData.canLayAll0 xs = true := by simpa [PyData.canLayAll0] using h
    have h1 := shown_le x h.1
    have h2 := shownAll_le xs h.2
    simp only [PyData.shownAll, shLens, List.map_cons, List.sum_cons, List.length_cons]
    omega
end
noncomputable def reprD (d : D) : Option D := if SeqAt.shaped d = true ∧ d.showable = true ∧ shLen d ≤ sizeLine then some (.str d.shown) else none
noncomputable def rRepr (K : PySem.W.Frag) : List V → Hp → VK → Prop := fun xs H Q => ∃ v d, xs = [v] ∧ Dp K H v d ∧ SeqAt.shaped d = true ∧ d.showable = true ∧ shLen d ≤ sizeLine ∧ Q (.str d.shown) H
theorem call_reprA {X : Cx} {k : Nat} (r : Rm X k) : CallR X (.builtin "repr") (rRepr X.K) := by
  intro pins s σ H xs us Q I rv h
  obtain ⟨v, d, rfl, hd, hs, hw, hz, q⟩ := h
  obtain ⟨u, rfl, ru⟩ := vals1 rv
  obtain ⟨as, rd⟩ := Dp.reads I d v u hd ru
  have hlay : d.canLay0 = true := SeqAt.canLay_of_shaped hs
  have hlen := Nat.le_trans (shown_le d hlay) hz
  have hnd := PyData.hasDict_of_canLay d hlay
  have hdep : d.depth ≤ 64 := by
    have h : (d.canLay0 && decide (d.depth ≤ 64)) = true := hs
    rw [Bool.and_eq_true] at h
    exact of_decide_eq_true h.2
  have fin : ∀ {h' : Heap} {tk : Nat} {t : Tok}, (∀ b o, s.heap.get? b = some o → h'.get? b = some o) → EP X pins σ Q (.str d.shown t) { s with heap := h', toks := tk } := fun {h' tk t} k => ⟨.str d.shown, H, I.kept k, ⟨_, rfl⟩, q⟩
  cases hd with
  | non => cases ru; exact PySem.P.repr_of_none (fin fun _ _ e => e)
  | bl b => cases ru; exact PySem.P.repr_of_bool (by cases b <;> exact fin fun _ _ e => e)
  | int i =>
    obtain ⟨t, rfl⟩ := ru
    exact PySem.P.repr_of_int (by simpa [PyData.showable] using hw) (fin fun _ _ e => e)
  | str x =>
    obtain ⟨t, rfl⟩ := ru
    rw [PyData.shown_str] at hlen q
    exact PySem.P.repr_of_str ⟨.str (reprText x), H, I.tok _, ⟨_, rfl⟩, q⟩ hlen
  | lst hs' ha =>
    cases ru
    exact repr_of_reads' rd hw (fun z => by rw [hnd] at z; cases z) r.g (by have := r.room.un; omega) (fun _ _ e => e) (fun h' t tk k => fin k) hlen
  | tup hs' ha =>
    cases ru
    exact repr_of_reads' rd hw (fun z => by rw [hnd] at z; cases z) r.g (by have := r.room.un; omega) (fun _ _ e => e) (fun h' t tk k => fin k) hlen
theorem s_repr {K : PySem.W.Frag} : C1S K (rRepr K) reprD := by
  intro d r h F H x Q le rx q
  unfold reprD at h
  split at h
  · rename_i hz
    have h := Option.some.inj h
    subst h
    exact ⟨x, d, rfl, rx.dp d (lay_of hz.1), hz.1, hz.2.1, hz.2.2, q _ F H (Ext.refl le) (.str _)⟩
  · cases h
section
variable {X : Cx} {cl : String → Addr} {W : XK} {e a b : Expr} {pos : Pos}
theorem pd_repr {k : Nat} {p : Pos} {m : En → R D} (r : Rm X k) (hg : Gl X "repr") (hm : X.mg "repr" = none) (ha : PVw X cl W a m) (hs : starEach [a] X.env = (false, eval a X.env) :: starEach [] X.env := by rfl) (hpl : (backTo pos (starEach [] X.env)).any (·.1) = false := by rfl) : PD X cl W (.Call (.Name "repr" p) [a] [] pos) (un1 reprD m) :=
  pd_b1 (call_reprA r) s_repr hg hm (by decide +kernel) ha (by decide) (by decide) hs hpl
end
end Mir
namespace Mir
open PySem PySem.Spec PyProof.Rows L2
section
variable {X : Cx} {cl : String → Addr} {W : XK} {e a b : Expr} {pos : Pos}
/-- xs[::-1] -/
noncomputable def revF (m : En → R (List D)) : En → R (List D) := fun ρ => (m ρ).bind fun xs => .ok xs.reverse
theorem pf_rev {k : Nat} {p1 p2 p3 : Pos} {m : En → R (List D)} (ha : PL X cl W e m) : PF X cl W (.Subscript e (.Slice none none (some (.UnaryOp .USub (.Constant (.int 1) k p1) p2)) p3) pos) (revF m) := by
  refine PE.imp (pe_revL ha) fun σ H Q ⟨F0, H0, ρ, F, ok, h⟩ => ?_
  refine ⟨F0, H0, ρ, F, ok, (tR.bind anti_F h).imp fun v H1 ⟨F1, xs, e1, ⟨b, vs, hv, s1, r1⟩, h1⟩ => ?_⟩
  exact ⟨b, vs, hv, s1, fun p np => h1 _ _ _ (Ext.grow e1.sub (o := .lst vs.reverse) np) ⟨p, _, rfl, np, e1.sub.none np, upd_same, r1.reverse⟩⟩
end
/-- a def of the top -/
structure TF (K : PySem.W.Frag) (mg : Str → Option Value) (x : Str) (st : Stmt) (ps : List Str) (f : Addr) (fd : FuncData) : Prop where
  fn : Fun K x x st f fd
  gm : mg x = some (.ref f)
  bd : Binds K fd ps []
theorem PassesOwn.leaving_ {P : Program} {w : World} {K : PySem.W.Frag} {mg : Str → Option Value} {base : Heap} {N : List Str} {qual : Str} {sc : Scope} {f : Addr} {cdv : Value} {A : Around} {fr : List Env} {s : Shared} {H : Hp} {E : XK} :
    PassesOwn (model P w) (Bd P w K mg base N qual sc f cdv A fr s H E).A (Bd P w K mg base N qual sc f cdv A fr s H E).env (Bd P w K mg base N qual sc f cdv A fr s H E).xe := PassesOwn.leaving
/-- the end of a law's row -/
theorem walk_go {l : PySem.W.OpenLaw} {n k : Nat} {q : Program} {loose : List Str} {XP : (Str → Option Value) → Heap → Prop} {YP : World → Heap → Prop} {d : DefRec} {K : Params → PySem.W.Frag} {cl : String → Addr} {f : List Int → R D} {x : Str}
    (hn : l.most = some n) (hn2 : n ≤ sizeLine) (hdf : d.params.defaults = []) (hr : Room k callerA) (hY : ∀ (w : World) (h : Heap), YP w h → (K w.params).In h)
    (G : ∀ (w : World) (mg : Str → Option Value) (fa : Addr) (h : Heap), (K w.params).In h → h.Ns mainGlobals mg → mg d.name = some (.ref fa) →
      ∃ fd : FuncData, (∀ (s : Shared) (u : Value), BindsTo s fd ⟨[u], []⟩ [(x, u)]) ∧ ∀ base : Heap, FnG l.prog w (K w.params) mg base k fa fd [x] (spS (K w.params) cl f))
    (ht : ∀ ns : List Int, ns.length ≤ n → f ns = .ok (.bool true)) : PySem.W.WalkO q loose XP YP l.row.toRowW d [] (fun f vs => PySem.call f vs) := by
  refine Att.attach_call hn hdf fun w s₀ s₁ mg mb fa o pm cd doc a vs ns C Y ho hd hcd hmg hobj hints hlen hg => ?_
  have KX := hY w _ Y
  obtain ⟨fd, hb, hG⟩ := G w mg fa _ KX C.T.g hmg
  exact law_go KX C.T.g C.T.b C.T.builtins C.T.nolimit hg hobj hints (Nat.le_trans hlen hn2) hr (fun base _ _ => hG base) hb (ht ns hlen)
end Mir
namespace Mir
open PySem PySem.Spec PyProof.Rows L2
/-! ### the head: what the top has written, read by one run -/
/-- a built-in function under a module's name -/
noncomputable def isBlt (K : PySem.W.Frag) (x : Str) (id : String) : Bool := He.eqO (PySem.W.nsIn K mainGlobals x) (some (some (.builtin id)))
/-- the defs (their places among the names, their texts), the facts, the built-in functions -/
structure Want where
  fn : List He.FnD
  fa : List He.Fa
  bl : List (Str × String)
noncomputable def Want.ok (t : Want) (K : PySem.W.Frag) : Bool := (K.lookup sysModules).isSome && ((t.fa.all fun f => f.ok K) && ((t.fn.all fun d => (He.Fa.code d.at_ d.qual).ok K && PySem.W.keepIn K (.ref (He.fAd K d.at_))) && t.bl.all fun p => isBlt K p.1 p.2))
noncomputable def Want.obs (t : Want) (K : PySem.W.Frag) : He.Al := (t.ok K, t.fn.map fun d => He.fnObs K d.at_)
noncomputable def Want.val (t : Want) : He.Al := (true, t.fn.map He.FnD.val)
noncomputable def Want.Says (t : Want) (K : PySem.W.Frag) : Prop := t.obs K = t.val
noncomputable def Want.obsG (t : Want) (n : Nat) (g : Addr → Option Obj) : He.Al := t.obs (He.frG g (sysModules :: He.asG g n))
noncomputable def Want.hook (t : Want) (n : Nat) : PySem.W.Hook where
  α := He.Al
  obs := fun s => t.obsG n s.heap.get?
  val := fun _ => t.val
  says := fun _ h => ∃ K : PySem.W.Frag, K.In h ∧ t.Says K
  of := fun _ _ e => ⟨_, He.frG_in, e⟩
  keeps := fun _ _ _ ⟨K, hK, c⟩ k => ⟨K, PySem.W.Frag.In.keeps hK k, c⟩
theorem Want.obsG_eq {t : Want} {n : Nat} {g : Addr → Option Obj} {s : Shared} (h : ∀ a, g a = s.heap.get? a) : t.obsG n g = (t.hook n).obs s := by
  have e : g = s.heap.get? := funext h
  rw [e] <;> rfl
section
variable {t : Want} {K : PySem.W.Frag} {h : Heap} {mg : Str → Option Value}
theorem Want.Says.parts (c : t.Says K) : (∀ f ∈ t.fa, f.ok K = true) ∧ (∀ d ∈ t.fn, (He.Fa.code d.at_ d.qual).ok K = true ∧ PySem.W.keepIn K (.ref (He.fAd K d.at_)) = true) ∧ ∀ p ∈ t.bl, isBlt K p.1 p.2 = true := by
  have c1 : t.ok K = true := congrArg (fun z : He.Al => z.1) c
  unfold Want.ok at c1
  rw [Bool.and_eq_true, Bool.and_eq_true, Bool.and_eq_true] at c1
  obtain ⟨_, a, b, d⟩ := c1
  refine ⟨fun f hf => List.all_eq_true.mp a f hf, fun f hf => ?_, fun p hp => List.all_eq_true.mp d p hp⟩
  have z := List.all_eq_true.mp b f hf
  rw [Bool.and_eq_true] at z
  exact z
theorem Want.Says.sys (c : t.Says K) : (K.lookup sysModules).isSome = true := by
  have c1 : t.ok K = true := congrArg (fun z : He.Al => z.1) c
  unfold Want.ok at c1
  rw [Bool.and_eq_true] at c1
  exact c1.1
theorem Want.Says.fact (c : t.Says K) (i : Nat) {f : He.Fa} (hi : t.fa[i]? = some f := by rfl) : f.ok K = true := c.parts.1 f (List.mem_of_getElem? hi)
theorem Want.Says.blt (c : t.Says K) (X : K.In h) (G : h.Ns mainGlobals mg) (i : Nat) {x : Str} {id : String} (hi : t.bl[i]? = some (x, id) := by rfl) : mg x = some (.builtin id) :=
  PySem.W.mg_of X G (He.eqO_ok (c.parts.2.2 _ (List.mem_of_getElem? hi)))
/-- a def of the top by its name -/
theorem Want.Says.def_ (c : t.Says K) (X : K.In h) (G : h.Ns mainGlobals mg) (i : Nat) {x : Str} {st : Stmt} (hi : t.fn[i]? = some ⟨(x, none), x, x, defArgs st, defBody st, defScope st⟩ := by rfl) (hg : (He.Fa.glo x).ok K = true) :
    ∃ fd, Fun K x x st (He.ga K x) fd ∧ mg x = some (.ref (He.ga K x)) := by
  have c2 : t.fn.map (fun d => He.fnObs K d.at_) = t.fn.map He.FnD.val := congrArg (fun z : He.Al => z.2) c
  have e2 : (t.fn.map fun d => He.fnObs K d.at_)[i]? = (t.fn.map He.FnD.val)[i]? := by rw [c2]
  rw [List.getElem?_map, List.getElem?_map, hi] at e2
  obtain ⟨k1, k2⟩ := c.parts.2.1 _ (List.mem_of_getElem? hi)
  obtain ⟨oc, od, osl, kV, doc, pm, an, cdv, ct, l, cc⟩ := He.fn_ok (Option.some.inj e2) k1
  exact ⟨_, ⟨⟨oc, od, kV, doc, pm, an, cdv, ct, osl, rfl, l, cc⟩, k2⟩, He.glo_ok X G hg⟩
end
/-- as TF.mk, the arguments' binding told by the text -/
theorem tf_of {K : PySem.W.Frag} {mg : Str → Option Value} {x : Str} {st : Stmt} {ps : List Str} {f : Addr} {fd : FuncData} (h : Fun K x x st f fd ∧ mg x = some (.ref f))
    (b : ∀ (kV doc pm : Value) (an : Option Addr) (cdv ct : Value) (us : List Value), us.length = ps.length → bindArgs (PySem.W.fnOf x x (defArgs st) (defBody st) (defScope st) .none kV doc pm an cdv ct) ⟨us, []⟩ = pure (ps.zip us)) : TF K mg x st ps f fd :=
  ⟨h.1, h.2, h.1.binds b⟩
/-- the end of a law's row, over such a head -/
theorem walk_goE {l : PySem.W.OpenLaw} {n k : Nat} {q : Program} {loose : List Str} {XP : (Str → Option Value) → Heap → Prop} {YP : World → Heap → Prop} {d : DefRec} {f : List Int → R D} {x : Str}
    (hn : l.most = some n) (hn2 : n ≤ sizeLine) (hdf : d.params.defaults = []) (hr : Room k callerA)
    (G : ∀ (w : World) (mg : Str → Option Value) (fa : Addr) (h : Heap), YP w h → h.Ns mainGlobals mg → mg d.name = some (.ref fa) →
      ∃ (K : PySem.W.Frag) (cl : String → Addr) (fd : FuncData), K.In h ∧ (∀ (s : Shared) (u : Value), BindsTo s fd ⟨[u], []⟩ [(x, u)]) ∧ ∀ base : Heap, FnG l.prog w K mg base k fa fd [x] (spS K cl f))
    (ht : ∀ ns : List Int, ns.length ≤ n → f ns = .ok (.bool true)) : PySem.W.WalkO q loose XP YP l.row.toRowW d [] (fun f vs => PySem.call f vs) := by
  refine Att.attach_call hn hdf fun w s₀ s₁ mg mb fa o pm cd doc a vs ns C Y ho hd hcd hmg hobj hints hlen hg => ?_
  obtain ⟨K, cl, fd, KX, hb, hG⟩ := G w mg fa _ Y C.T.g hmg
  exact law_go KX C.T.g C.T.b C.T.builtins C.T.nolimit hg hobj hints (Nat.le_trans hlen hn2) hr (fun base _ _ => hG base) hb (ht ns hlen)
end Mir
namespace Mir
open PySem PySem.Spec PyProof.Rows L2
/-! ### running a mirror by rewriting -/
section
variable {α β γ : Type}
theorem b_ok {a : α} {f : α → R β} : (R.ok a).bind f = f a := id rfl
theorem b_ex {c : String} {n : Int} {f : α → R β} : (R.ex c n : R α).bind f = .ex c n := id rfl
theorem b_no {f : α → R β} : (R.no : R α).bind f = .no := id rfl
theorem setE_0 {a x : Sl} {l : En} : setE (a :: l) 0 x = x :: l := id rfl
theorem setE_s {a x : Sl} {l : En} {n : Nat} : setE (a :: l) (n + 1) x = a :: setE l n x := id rfl
theorem nth_0 {a : Sl} {l : En} : nth (a :: l) 0 = a := id rfl
theorem nth_s {a : Sl} {l : En} {n : Nat} : nth (a :: l) (n + 1) = nth l n := id rfl
/-! integers within sixty digits and more -/
noncomputable def Lim (a : Int) : Prop := -1000000000000000000000000000000000000000000000000000000000000 ≤ a ∧ a ≤ 1000000000000000000000000000000000000000000000000000000000000
theorem Lim.lt {a : Int} (h : Lim a) : a.natAbs < 2 ^ 250 := by
  have : a.natAbs ≤ 1000000000000000000000000000000000000000000000000000000000000 := by have := h.1; have := h.2; omega
  exact Nat.lt_of_le_of_lt this (by decide)
theorem log2_lt {a b : Nat} (h : a < 2 ^ b) (hb : 0 < b) : a.log2 < b := by
  by_cases z : a = 0
  · subst z; simpa using hb
  · exact (Nat.log2_lt z).mpr h
theorem mul_i {a b : Int} (h1 : -1000000000000000000000000000000000000000000000000000000000000 ≤ a) (h2 : a ≤ 1000000000000000000000000000000000000000000000000000000000000)
    (h3 : -1000000000000000000000000000000000000000000000000000000000000 ≤ b) (h4 : b ≤ 1000000000000000000000000000000000000000000000000000000000000) : mulD (.int a) (.int b) = some (.int (a * b)) := by
  have e : okMul a b = true := by
    unfold okMul
    have := log2_lt (Lim.lt ⟨h1, h2⟩) (by decide)
    have := log2_lt (Lim.lt ⟨h3, h4⟩) (by decide)
    exact decide_eq_true (by omega)
  unfold mulD iiD
  simp only [e, if_true]
theorem fdiv_i {a b : Int} (h : 0 < b) (h2 : b ≤ 1000000000000000000000000000000000000000000000000000000000000) : fdivD (.int a) (.int b) = some (.int (a / b)) := by
  have e : okDiv a b = true := by
    unfold okDiv
    have := log2_lt (Lim.lt ⟨by omega, h2⟩) (by decide)
    exact decide_eq_true ⟨h, by omega⟩
  unfold fdivD iiD
  simp only [e, if_true]
theorem mod_i {a b : Int} (h : 0 < b) : modD (.int a) (.int b) = some (.int (a % b)) := by
  unfold modD iiD okMod
  simp only [h, decide_true, if_true]
theorem add_i {a b : Int} : addD (.int a) (.int b) = some (.int (a + b)) := id rfl
theorem sub_i {a b : Int} : subD (.int a) (.int b) = some (.int (a - b)) := id rfl
theorem neg_i {a : Int} : negD (.int a) = some (.int (-a)) := id rfl
theorem int_i {a : Int} : intD (.int a) = some (.int a) := id rfl
theorem abs_i {a : Int} : absD (.int a) = some (.int (if a < 0 then -a else a)) := id rfl
theorem lt_i {a b : Int} : ltI (.int a) (.int b) = some (decide (a < b)) := id rfl
theorem le_i {a b : Int} : leI (.int a) (.int b) = some (decide (a ≤ b)) := id rfl
theorem gt_i {a b : Int} : gtI (.int a) (.int b) = some (decide (b < a)) := id rfl
theorem ge_i {a b : Int} : geI (.int a) (.int b) = some (decide (b ≤ a)) := id rfl
theorem len_l {xs : List D} : lenD (.list xs) = some (.int xs.length) := id rfl
theorem small_of {xs : List D} (h : xs.length ≤ 100000) : small xs = true := by
  unfold small
  exact decide_eq_true (Nat.le_trans h (by decide))
end
/-! ### the equations by which a mirror is run -/
section
variable {m ma mb mk me : En → R D} {ml : En → R (List D)} {ρ : En} {a : Sl} {l : En} {d : D} {n i : Nat}
noncomputable def forX (g : Tg) (body : En → R Fl) (ρ : En) (xs : List D) : R Fl := forL g body xs ρ
theorem getd_0 : getd 0 (.da d :: l) = .ok d := id rfl
theorem getd_s : getd (n + 1) (a :: l) = getd n l := id rfl
theorem gets_0 {ns : List Int} : gets 0 (.sc ns :: l) = .ok (ns.map PyData.int) := id rfl
theorem gets_s : gets (n + 1) (a :: l) = gets n l := id rfl
theorem getc_0 {xs : List D} : getc 0 (.ce xs :: l) = .ok xs := id rfl
theorem getc_s : getc (n + 1) (a :: l) = getc n l := id rfl
theorem scM_0 {f : List Int → R D} {ns : List Int} : scM f 0 (.sc ns :: l) = f ns := id rfl
theorem scM_s {f : List Int → R D} : scM f (n + 1) (a :: l) = scM f n l := id rfl
noncomputable def seqK (m2 : En → R Fl) : Fl → R Fl
  | .nx ρ1 => m2 ρ1
  | f => .ok f
theorem seqS_e {m1 m2 : En → R Fl} : seqS m1 m2 ρ = (m1 ρ).bind (seqK m2) := by
  unfold seqS
  refine congrArg _ ?_
  funext f
  cases f <;> rfl
theorem seqK_nx {m2 : En → R Fl} : seqK m2 (.nx ρ) = m2 ρ := id rfl
theorem seqK_ct {m2 : En → R Fl} : seqK m2 (.ct ρ) = .ok (.ct ρ) := id rfl
theorem seqK_bk {m2 : En → R Fl} : seqK m2 (.bk ρ) = .ok (.bk ρ) := id rfl
theorem seqK_rt {m2 : En → R Fl} : seqK m2 (.rt d) = .ok (.rt d) := id rfl
theorem seqK_ro {m2 : En → R Fl} {xs : List D} : seqK m2 (.ro xs) = .ok (.ro xs) := id rfl
theorem sizeLine_e : sizeLine = 16777216 := id rfl
noncomputable def appL (i : Nat) (ρ : En) (xs : List D) (d : D) : R Fl := if xs.length < 16777216 then .ok (.nx (setE ρ i (.ce (xs ++ [d])))) else .no
noncomputable def appK (i : Nat) (m : En → R D) (ρ : En) (xs : List D) : R Fl := (m ρ).bind (appL i ρ xs)
theorem appS_e : appS i m ρ = (getc i ρ).bind (appK i m ρ) := by
  unfold appS getc
  cases nth ρ i <;> rfl
theorem appK_e {xs : List D} : appK i m ρ xs = (m ρ).bind (appL i ρ xs) := id rfl
theorem appL_i {xs : List D} (h : xs.length < 16777216) : appL i ρ xs d = .ok (.nx (setE ρ i (.ce (xs ++ [d])))) := by
  unfold appL
  rw [if_pos h]
noncomputable def extL (i : Nat) (ρ : En) (xs ds : List D) : R Fl := if xs.length + ds.length ≤ 16777216 then .ok (.nx (setE ρ i (.ce (xs ++ ds)))) else .no
noncomputable def extK (i : Nat) (ml : En → R (List D)) (ρ : En) (xs : List D) : R Fl := (ml ρ).bind (extL i ρ xs)
theorem extS_e : extS i ml ρ = (getc i ρ).bind (extK i ml ρ) := by
  unfold extS getc
  cases nth ρ i <;> rfl
theorem extK_e {xs : List D} : extK i ml ρ xs = (ml ρ).bind (extL i ρ xs) := id rfl
theorem extL_i {xs ds : List D} (h : xs.length + ds.length ≤ 16777216) : extL i ρ xs ds = .ok (.nx (setE ρ i (.ce (xs ++ ds)))) := by
  unfold extL
  rw [if_pos h]
noncomputable def stoK (i : Nat) (ρ : En) (xs : List D) (d : D) : D → R Fl
  | .int z => (ofO (ixN xs.length z)).bind fun q => .ok (.nx (setE ρ i (.ce (xs.set q d))))
  | _ => .no
noncomputable def stoL (i : Nat) (mk : En → R D) (ρ : En) (xs : List D) (d : D) : R Fl := (mk ρ).bind (stoK i ρ xs d)
noncomputable def stoM (i : Nat) (mk me : En → R D) (ρ : En) (xs : List D) : R Fl := (me ρ).bind (stoL i mk ρ xs)
theorem stoM_e {xs : List D} : stoM i mk me ρ xs = (me ρ).bind (stoL i mk ρ xs) := id rfl
theorem stoL_e {xs : List D} : stoL i mk ρ xs d = (mk ρ).bind (stoK i ρ xs d) := id rfl
theorem stoS_e : stoS i mk me ρ = (getc i ρ).bind (stoM i mk me ρ) := by
  unfold stoS getc
  cases nth ρ i <;> try rfl
  rename_i xs
  show (me ρ).bind _ = (me ρ).bind _
  refine congrArg _ ?_
  funext d
  show (mk ρ).bind _ = (mk ρ).bind _
  refine congrArg _ ?_
  funext k
  cases k <;> try rfl
  rename_i z
  show (match ixN xs.length z with | some q => _ | none => _) = (ofO (ixN xs.length z)).bind _
  cases ixN xs.length z <;> rfl
theorem ixN_i {n : Nat} {z : Int} (h : 0 ≤ z) (h2 : z < n) : ixN n z = some z.toNat := by
  unfold ixN
  rw [if_pos h, if_pos h2]
theorem stoK_i {xs : List D} {z : Int} (h : 0 ≤ z) (h2 : z < xs.length) : stoK i ρ xs d (.int z) = .ok (.nx (setE ρ i (.ce (xs.set z.toNat d)))) := by
  show (ofO (ixN xs.length z)).bind _ = _
  rw [ixN_i h h2]
  rfl
theorem frzE_0 {xs : List D} : frzE 0 (.ce xs :: l) = .da (.list xs) :: l := id rfl
theorem frzE_0d : frzE 0 (.da d :: l) = .da d :: l := id rfl
theorem frzE_0u : frzE 0 (.un :: l) = .un :: l := id rfl
theorem frzE_s : frzE (n + 1) (a :: l) = a :: frzE n l := by
  unfold frzE
  rw [nth_s]
  cases nth l n <;> rfl
theorem small_e {xs : List D} : small xs = decide (xs.length ≤ 16777216) := id rfl
theorem rngK_i {j : Int} (h1 : -4611686018427387904 ≤ j) (h2 : j < 4611686018427387904) : rngK (.int j) = .ok (rng 0 j) := by
  show (if _ then _ else _) = _
  rw [if_pos ⟨by omega, by omega⟩]
theorem rng2_i {i j : Int} (h : ma ρ = .ok (.int i)) (h' : mb ρ = .ok (.int j)) (h1 : -4611686018427387904 ≤ i) (h2 : i < 4611686018427387904) (h3 : -4611686018427387904 ≤ j) (h4 : j < 4611686018427387904) : rng2 ma mb ρ = .ok (rng i j) := by
  unfold rng2
  rw [h, h']
  show (if _ then _ else _) = _
  rw [if_pos (by omega)]
theorem forS_e {g : Tg} {body : En → R Fl} : forS g ml body ρ = (ml ρ).bind (forX g body ρ) := id rfl
theorem forX_e {g : Tg} {body : En → R Fl} {xs : List D} : forX g body ρ xs = forL g body xs ρ := id rfl
noncomputable def forK (k : En → R Fl) : Fl → R Fl
  | .nx ρ2 => k ρ2
  | .ct ρ2 => k ρ2
  | .bk ρ2 => .ok (.nx ρ2)
  | f => .ok f
noncomputable def forG (g : Tg) (body : En → R Fl) (xs : List D) (ρ1 : En) : R Fl := (body ρ1).bind (forK (forL g body xs))
theorem forL_c {g : Tg} {body : En → R Fl} {x : D} {xs : List D} : forL g body (x :: xs) ρ = (ofO (g x ρ)).bind (forG g body xs) := by
  rw [forL_cons]
  refine congrArg _ ?_
  funext ρ1
  show (body ρ1).bind _ = (body ρ1).bind _
  refine congrArg _ ?_
  funext f
  cases f <;> rfl
theorem forG_e {g : Tg} {body : En → R Fl} {xs : List D} : forG g body xs ρ = (body ρ).bind (forK (forL g body xs)) := id rfl
theorem forK_nx {k : En → R Fl} : forK k (.nx ρ) = k ρ := id rfl
theorem forK_ct {k : En → R Fl} : forK k (.ct ρ) = k ρ := id rfl
theorem forK_bk {k : En → R Fl} : forK k (.bk ρ) = .ok (.nx ρ) := id rfl
theorem forK_rt {k : En → R Fl} : forK k (.rt d) = .ok (.rt d) := id rfl
theorem forK_ro {k : En → R Fl} {xs : List D} : forK k (.ro xs) = .ok (.ro xs) := id rfl
noncomputable def whlK (mc : En → R Bool) (b : En → R Fl) (n : Nat) (ρ : En) (c : Bool) : R Fl := if c = true then (b ρ).bind (forK (whileL mc b n)) else .ok (.nx ρ)
theorem whileL_c {mc : En → R Bool} {b : En → R Fl} : whileL mc b (n + 1) ρ = (mc ρ).bind (whlK mc b n ρ) := by
  rw [whileL_succ]
  refine congrArg _ ?_
  funext c
  cases c
  · rfl
  · show (b ρ).bind _ = (b ρ).bind _
    refine congrArg _ ?_
    funext f
    cases f <;> rfl
theorem whlK_t {mc : En → R Bool} {b : En → R Fl} : whlK mc b n ρ true = (b ρ).bind (forK (whileL mc b n)) := id rfl
theorem whlK_f {mc : En → R Bool} {b : En → R Fl} : whlK mc b n ρ false = .ok (.nx ρ) := id rfl
theorem gN_e : gN i d ρ = some (setE ρ i (.da d)) := id rfl
theorem gT_e {g : Tgs} {ds : List D} : gT g (.tuple ds) ρ = g ds ρ := id rfl
theorem gsN_e : gsN [] ρ = some ρ := id rfl
theorem gsC_e {g : Tg} {gs : Tgs} {ds : List D} : gsC g gs (d :: ds) ρ = (g d ρ).bind (gs ds) := id rfl
theorem items_l {xs : List D} : items (.list xs) = .ok xs := id rfl
theorem items_t {xs : List D} : items (.tuple xs) = .ok xs := id rfl
theorem asList_l {xs : List D} : asList (.list xs) = .ok xs := id rfl
theorem truth_b {b : Bool} : truth (.bool b) = some b := id rfl
theorem isN_n : isD .none .none = some true := id rfl
theorem isB_b {b c : Bool} : isD (.bool b) (.bool c) = some (decide (b = c)) := id rfl
theorem isntN_n : isntD .none .none = some false := id rfl
theorem isntB_b {b c : Bool} : isntD (.bool b) (.bool c) = some (!decide (b = c)) := id rfl
theorem isntN_i {i : Int} : isntD (.int i) .none = some true := id rfl
theorem isntN_t {xs : List D} : isntD (.tuple xs) .none = some true := id rfl
theorem isntN_l {xs : List D} : isntD (.list xs) .none = some true := id rfl
theorem isN_i {i : Int} : isD (.int i) .none = some false := id rfl
theorem isN_t {xs : List D} : isD (.tuple xs) .none = some false := id rfl
theorem isN_l {xs : List D} : isD (.list xs) .none = some false := id rfl
theorem min2_i {a b : Int} : min2D (.int a) (.int b) = some (.int (if b < a then b else a)) := id rfl
theorem max2_i {a b : Int} : max2D (.int a) (.int b) = some (.int (if b > a then b else a)) := id rfl
theorem gcd_i {a b : Int} : gcdD (.int a) (.int b) = some (.int (Nat.gcd a.natAbs b.natAbs : Nat)) := id rfl
theorem ix_l {xs : List D} {i : Int} : ixD (.list xs) (.int i) = atI xs i := atF_eq
theorem ix_t {xs : List D} {i : Int} : ixD (.tuple xs) (.int i) = atI xs i := atF_eq
theorem atL_i {xs : List D} {i : Int} : atL xs (.int i) = atI xs i := atF_eq
theorem len_t {xs : List D} : lenD (.tuple xs) = some (.int xs.length) := id rfl
end
noncomputable def setK (i : Nat) (ρ : En) (d : D) : R Fl := .ok (.nx (setE ρ i (.da d)))
noncomputable def setCK (i : Nat) (ρ : En) (d : List D) : R Fl := .ok (.nx (setE ρ i (.ce d)))
noncomputable def parL (i j : Nat) (ρ : En) (d e : D) : R Fl := .ok (.nx (setE (setE ρ i (.da d)) j (.da e)))
noncomputable def parK (i j : Nat) (mb : En → R D) (ρ : En) (d : D) : R Fl := (mb ρ).bind (parL i j ρ d)
noncomputable def ifK {α : Type} (xa xb : En → R α) (ρ : En) (k : Bool) : R α := if k = true then xa ρ else xb ρ
noncomputable def retK (d : D) : R Fl := .ok (.rt d)
noncomputable def roK (d : List D) : R Fl := .ok (.ro d)
noncomputable def dropK {α : Type} (ρ : En) (_ : α) : R Fl := .ok (.nx ρ)
noncomputable def nxK (ρ : En) : R Fl := .ok (.nx ρ)
noncomputable def asgK (g : Tg) (ρ : En) (d : D) : R Fl := (ofO (g d ρ)).bind nxK
noncomputable def b2L {α β γ : Type} (f : α → β → Option γ) (x : α) (y : β) : R γ := ofO (f x y)
noncomputable def b2K {α β γ : Type} (f : α → β → Option γ) (xb : En → R β) (ρ : En) (x : α) : R γ := (xb ρ).bind (b2L f x)
noncomputable def u1K {α γ : Type} (f : α → Option γ) (x : α) : R γ := ofO (f x)
noncomputable def liK (xs : List D) : R D := .ok (.list xs)
noncomputable def boK (b : Bool) : R D := .ok (.bool b)
noncomputable def lnK (xs : List D) : R D := .ok (.int xs.length)
noncomputable def anK (mc2 : En → R Bool) (ρ : En) (k : Bool) : R Bool := if k = true then mc2 ρ else .ok false
noncomputable def orK (mc2 : En → R Bool) (ρ : En) (k : Bool) : R Bool := if k = true then .ok true else mc2 ρ
noncomputable def noK (k : Bool) : R Bool := .ok (!k)
noncomputable def chN {β γ : Type} (g : β → γ → Option Bool) (xc : En → R γ) (ρ : En) (y : β) (k : Bool) : R Bool := if k = true then (xc ρ).bind (b2L g y) else .ok false
noncomputable def chL {α β γ : Type} (f : α → β → Option Bool) (g : β → γ → Option Bool) (xc : En → R γ) (ρ : En) (x : α) (y : β) : R Bool := (ofO (f x y)).bind (chN g xc ρ y)
noncomputable def chK {α β γ : Type} (f : α → β → Option Bool) (g : β → γ → Option Bool) (xb : En → R β) (xc : En → R γ) (ρ : En) (x : α) : R Bool := (xb ρ).bind (chL f g xc ρ x)
noncomputable def ovL (mb : En → R D) (ρ : En) (x : D) (k : Bool) : R D := if k = true then .ok x else mb ρ
noncomputable def ovK (mb : En → R D) (ρ : En) (x : D) : R D := (ofO (truth x)).bind (ovL mb ρ x)
noncomputable def avL (mb : En → R D) (ρ : En) (x : D) (k : Bool) : R D := if k = true then mb ρ else .ok x
noncomputable def avK (mb : En → R D) (ρ : En) (x : D) : R D := (ofO (truth x)).bind (avL mb ρ x)
noncomputable def nvL (k : Bool) : R D := .ok (.bool (!k))
noncomputable def nvK (x : D) : R D := (ofO (truth x)).bind nvL
noncomputable def acL (x : D) (xs : List D) : R (List D) := .ok (x :: xs)
noncomputable def acK (ml : En → R (List D)) (ρ : En) (x : D) : R (List D) := (ml ρ).bind (acL x)
noncomputable def lsK (xs : List D) : R (List D) := if small xs = true then .ok xs else .no
noncomputable def tuK (xs : List D) : R D := if small xs = true then .ok (.tuple xs) else .no
noncomputable def rvK (xs : List D) : R (List D) := .ok xs.reverse
section
variable {α β γ : Type} {m ma mb : En → R D} {ml : En → R (List D)} {mc mc2 : En → R Bool} {xa xb : En → R Fl} {ya yb : En → R α} {mx : En → R α} {my : En → R β} {mz : En → R γ} {f1 : α → Option γ} {f2 : α → β → Option γ} {g1 : α → β → Option Bool} {g2 : β → γ → Option Bool} {fa : List D → R α} {g : Tg} {ρ σ : En} {d e : D} {ds : List D} {ax : α} {ay : β} {i j : Nat} {k : Bool}
theorem setS_e : setS i m ρ = (m ρ).bind (setK i ρ) := id rfl
theorem setK_e : setK i ρ d = .ok (.nx (setE ρ i (.da d))) := id rfl
theorem setC_e : setC i ml ρ = (ml ρ).bind (setCK i ρ) := id rfl
theorem setCK_e : setCK i ρ ds = .ok (.nx (setE ρ i (.ce ds))) := id rfl
theorem parS_e : parS i j ma mb ρ = (ma ρ).bind (parK i j mb ρ) := id rfl
theorem parK_e : parK i j mb ρ d = (mb ρ).bind (parL i j ρ d) := id rfl
theorem parL_e : parL i j ρ d e = .ok (.nx (setE (setE ρ i (.da d)) j (.da e))) := id rfl
theorem ifS_e : ifS mc xa xb ρ = (mc ρ).bind (ifK xa xb ρ) := id rfl
theorem ifK_t : ifK ya yb ρ true = ya ρ := id rfl
theorem ifK_f : ifK ya yb ρ false = yb ρ := id rfl
theorem ifV_e : ifV mc ya yb ρ = (mc ρ).bind (ifK ya yb ρ) := id rfl
theorem retS_e : retS m ρ = (m ρ).bind retK := id rfl
theorem retK_e : retK d = .ok (.rt d) := id rfl
theorem retF_e : retF ml ρ = (ml ρ).bind roK := id rfl
theorem retC_e : retC i ρ = (getc i ρ).bind roK := id rfl
theorem roK_e : roK ds = .ok (.ro ds) := id rfl
theorem retN_e : retN ρ = .ok (.rt .none) := id rfl
theorem nxS_e : nxS ρ = .ok (.nx ρ) := id rfl
theorem dropS_e : dropS mx ρ = (mx ρ).bind (dropK ρ) := id rfl
theorem dropK_e : dropK ρ ax = .ok (.nx ρ) := id rfl
theorem asgS_e : asgS g m ρ = (m ρ).bind (asgK g ρ) := id rfl
theorem asgK_e : asgK g ρ d = (ofO (g d ρ)).bind nxK := id rfl
theorem nxK_e : nxK σ = .ok (.nx σ) := id rfl
theorem bin2_e : bin2 f2 mx my ρ = (mx ρ).bind (b2K f2 my ρ) := id rfl
theorem b2K_e : b2K f2 my ρ ax = (my ρ).bind (b2L f2 ax) := id rfl
theorem b2L_e : b2L f2 ax ay = ofO (f2 ax ay) := id rfl
theorem un1_e : un1 f1 mx ρ = (mx ρ).bind (u1K f1) := id rfl
theorem u1K_e : u1K f1 ax = ofO (f1 ax) := id rfl
theorem cst_e : cst d ρ = .ok d := id rfl
theorem tL_e : tL ml ρ = (ml ρ).bind liK := id rfl
theorem liK_e : liK ds = .ok (.list ds) := id rfl
theorem asL_e : asL m ρ = (m ρ).bind asList := id rfl
theorem itD_e : itD m ρ = (m ρ).bind items := id rfl
theorem bD_e : bD mc ρ = (mc ρ).bind boK := id rfl
theorem boK_e : boK k = .ok (.bool k) := id rfl
theorem lenL_e : lenL ml ρ = (ml ρ).bind lnK := id rfl
theorem lnK_e : lnK ds = .ok (.int ds.length) := id rfl
theorem andB_e : andB mc mc2 ρ = (mc ρ).bind (anK mc2 ρ) := id rfl
theorem anK_t : anK mc ρ true = mc ρ := id rfl
theorem anK_f : anK mc ρ false = .ok false := id rfl
theorem orB_e : orB mc mc2 ρ = (mc ρ).bind (orK mc2 ρ) := id rfl
theorem orK_t : orK mc ρ true = .ok true := id rfl
theorem orK_f : orK mc ρ false = mc ρ := id rfl
theorem notB_e : notB mc ρ = (mc ρ).bind noK := id rfl
theorem noK_e : noK k = .ok (!k) := id rfl
theorem chain_e : chain g1 g2 mx my mz ρ = (mx ρ).bind (chK g1 g2 my mz ρ) := id rfl
theorem chK_e : chK g1 g2 my mz ρ ax = (my ρ).bind (chL g1 g2 mz ρ ax) := id rfl
theorem chL_e : chL g1 g2 mz ρ ax ay = (ofO (g1 ax ay)).bind (chN g2 mz ρ ay) := id rfl
theorem chN_t : chN g2 mz ρ ay true = (mz ρ).bind (b2L g2 ay) := id rfl
theorem chN_f : chN g2 mz ρ ay false = .ok false := id rfl
theorem orV_e : orV ma mb ρ = (ma ρ).bind (ovK mb ρ) := id rfl
theorem ovK_e : ovK mb ρ d = (ofO (truth d)).bind (ovL mb ρ d) := id rfl
theorem ovL_t : ovL mb ρ d true = .ok d := id rfl
theorem ovL_f : ovL mb ρ d false = mb ρ := id rfl
theorem andV_e : andV ma mb ρ = (ma ρ).bind (avK mb ρ) := id rfl
theorem avK_e : avK mb ρ d = (ofO (truth d)).bind (avL mb ρ d) := id rfl
theorem avL_t : avL mb ρ d true = mb ρ := id rfl
theorem avL_f : avL mb ρ d false = .ok d := id rfl
theorem notV_e : notV m ρ = (m ρ).bind nvK := id rfl
theorem nvK_e : nvK d = (ofO (truth d)).bind nvL := id rfl
theorem nvL_e : nvL k = .ok (.bool (!k)) := id rfl
theorem argN_e : argN ρ = .ok [] := id rfl
theorem argC_e : argC m ml ρ = (m ρ).bind (acK ml ρ) := id rfl
theorem acK_e : acK ml ρ d = (ml ρ).bind (acL d) := id rfl
theorem acL_e : acL d ds = .ok (d :: ds) := id rfl
theorem lstF_e : lstF ml ρ = (ml ρ).bind lsK := id rfl
theorem tupD_e : tupD ml ρ = (ml ρ).bind tuK := id rfl
theorem appM_e : appM fa ml ρ = (ml ρ).bind fa := id rfl
theorem frzS_e : frzS i xa ρ = xa (frzE i ρ) := id rfl
theorem yesB_e : yesB ρ = .ok true := id rfl
theorem revF_e : revF ml ρ = (ml ρ).bind rvK := id rfl
theorem rvK_e : rvK ds = .ok ds.reverse := id rfl
theorem rng1_e : rng1 m ρ = (m ρ).bind rngK := id rfl
theorem ls_i (h : ds.length ≤ 16777216) : lsK ds = .ok ds := by
  unfold lsK
  rw [small_e, decide_eq_true h]
  rfl
theorem tu_i (h : ds.length ≤ 16777216) : tuK ds = .ok (.tuple ds) := by
  unfold tuK
  rw [small_e, decide_eq_true h]
  rfl
theorem ls_0 : lsK [] = .ok [] := id rfl
theorem tu_0 : tuK [] = .ok (.tuple []) := id rfl
theorem ls_1 {x0 : D} : lsK [x0] = .ok [x0] := id rfl
theorem tu_1 {x0 : D} : tuK [x0] = .ok (.tuple [x0]) := id rfl
theorem ls_2 {x0 x1 : D} : lsK [x0, x1] = .ok [x0, x1] := id rfl
theorem tu_2 {x0 x1 : D} : tuK [x0, x1] = .ok (.tuple [x0, x1]) := id rfl
theorem ls_3 {x0 x1 x2 : D} : lsK [x0, x1, x2] = .ok [x0, x1, x2] := id rfl
theorem tu_3 {x0 x1 x2 : D} : tuK [x0, x1, x2] = .ok (.tuple [x0, x1, x2]) := id rfl
theorem ls_4 {x0 x1 x2 x3 : D} : lsK [x0, x1, x2, x3] = .ok [x0, x1, x2, x3] := id rfl
theorem tu_4 {x0 x1 x2 x3 : D} : tuK [x0, x1, x2, x3] = .ok (.tuple [x0, x1, x2, x3]) := id rfl
theorem ls_5 {x0 x1 x2 x3 x4 : D} : lsK [x0, x1, x2, x3, x4] = .ok [x0, x1, x2, x3, x4] := id rfl
theorem tu_5 {x0 x1 x2 x3 x4 : D} : tuK [x0, x1, x2, x3, x4] = .ok (.tuple [x0, x1, x2, x3, x4]) := id rfl
theorem ls_6 {x0 x1 x2 x3 x4 x5 : D} : lsK [x0, x1, x2, x3, x4, x5] = .ok [x0, x1, x2, x3, x4, x5] := id rfl
theorem tu_6 {x0 x1 x2 x3 x4 x5 : D} : tuK [x0, x1, x2, x3, x4, x5] = .ok (.tuple [x0, x1, x2, x3, x4, x5]) := id rfl
theorem ls_7 {x0 x1 x2 x3 x4 x5 x6 : D} : lsK [x0, x1, x2, x3, x4, x5, x6] = .ok [x0, x1, x2, x3, x4, x5, x6] := id rfl
theorem tu_7 {x0 x1 x2 x3 x4 x5 x6 : D} : tuK [x0, x1, x2, x3, x4, x5, x6] = .ok (.tuple [x0, x1, x2, x3, x4, x5, x6]) := id rfl
theorem ls_8 {x0 x1 x2 x3 x4 x5 x6 x7 : D} : lsK [x0, x1, x2, x3, x4, x5, x6, x7] = .ok [x0, x1, x2, x3, x4, x5, x6, x7] := id rfl
theorem tu_8 {x0 x1 x2 x3 x4 x5 x6 x7 : D} : tuK [x0, x1, x2, x3, x4, x5, x6, x7] = .ok (.tuple [x0, x1, x2, x3, x4, x5, x6, x7]) := id rfl
end
/-- a comprehension by items -/
theorem lcL_map {g : Tg} {t : En → R Bool} {e : En → R D} {ρ : En} {xs : List D} (k : D → Bool) (f : D → D)
    (h : ∀ x ∈ xs, ∃ ρ1, g x ρ = some ρ1 ∧ t ρ1 = .ok (k x) ∧ (k x = true → e ρ1 = .ok (f x))) : lcL g t e ρ xs = .ok ((xs.filter k).map f) := by
  induction xs with
  | nil => rfl
  | cons x xs ih =>
    obtain ⟨ρ1, e1, e2, e3⟩ := h x (List.mem_cons_self ..)
    rw [lcL_cons, e1]
    show ((t ρ1).bind _) = _
    rw [e2, ih fun y hy => h y (List.mem_cons_of_mem _ hy)]
    cases q : k x with
    | true =>
      have e3 := e3 q
      simp only [b_ok, if_true, e3, List.filter_cons, q, List.map_cons]
    | false => simp only [b_ok, List.filter_cons, q, Bool.false_eq_true, if_false]
theorem lcF_map {g : Tg} {src : En → R (List D)} {t : En → R Bool} {e : En → R D} {vs : List Nat} {ρ : En} {xs : List D} (k : D → Bool) (f : D → D) (hs : src ρ = .ok xs)
    (h : ∀ x ∈ xs, ∃ ρ1, g x (wipeE ρ vs) = some ρ1 ∧ t ρ1 = .ok (k x) ∧ (k x = true → e ρ1 = .ok (f x))) (hl : xs.length ≤ 16777216) : lcF g src t e vs ρ = .ok ((xs.filter k).map f) := by
  unfold lcF
  rw [hs]
  show ((lcL g t e (wipeE ρ vs) xs).calm.bind _) = _
  rw [lcL_map k f h]
  show (if small _ = true then _ else _) = _
  rw [if_pos]
  rw [small_e]
  refine decide_eq_true (Nat.le_trans ?_ hl)
  rw [List.length_map]
  exact List.length_filter_le ..
/-- a comprehension over coded items -/
theorem lcF_enc {α β : Type} (ei : α → D) (eo : β → D) {g : Tg} {src : En → R (List D)} {t : En → R Bool} {e : En → R D} {vs : List Nat} {ρ : En} {xs : List α} (k : α → Bool) (f : α → β) (hs : src ρ = .ok (xs.map ei))
    (h : ∀ x ∈ xs, ∃ ρ1, g (ei x) (wipeE ρ vs) = some ρ1 ∧ t ρ1 = .ok (k x) ∧ (k x = true → e ρ1 = .ok (eo (f x)))) (hl : xs.length ≤ 16777216) : lcF g src t e vs ρ = .ok (((xs.filter k).map f).map eo) := by
  unfold lcF
  rw [hs]
  show ((lcL g t e (wipeE ρ vs) (xs.map ei)).calm.bind _) = _
  have q : ∀ xs : List α, (∀ x ∈ xs, ∃ ρ1, g (ei x) (wipeE ρ vs) = some ρ1 ∧ t ρ1 = .ok (k x) ∧ (k x = true → e ρ1 = .ok (eo (f x)))) → lcL g t e (wipeE ρ vs) (xs.map ei) = .ok (((xs.filter k).map f).map eo) := by
    intro xs h
    induction xs with
    | nil => rfl
    | cons x xs ih =>
      obtain ⟨ρ1, e1, e2, e3⟩ := h x (List.mem_cons_self ..)
      rw [List.map_cons, lcL_cons, e1]
      show ((t ρ1).bind _) = _
      rw [e2, ih fun y hy => h y (List.mem_cons_of_mem _ hy)]
      cases q : k x with
      | true =>
        have e3 := e3 q
        simp only [b_ok, if_true, e3, List.filter_cons, q, List.map_cons]
      | false => simp only [b_ok, List.filter_cons, q, Bool.false_eq_true, if_false]
  rw [q xs h]
  show (if small _ = true then _ else _) = _
  rw [if_pos]
  rw [small_e]
  refine decide_eq_true (Nat.le_trans ?_ hl)
  rw [List.length_map, List.length_map]
  exact List.length_filter_le ..
/-! ### data of bounded depth and text -/
structure Nk (k n : Nat) (d : D) : Prop where
  lay : d.canLay0 = true
  dep : d.depth ≤ k
  show_ : d.showable = true
  len : shLen d ≤ n
theorem Nk.mono {k n k' n' : Nat} {d : D} (h : Nk k n d) (hk : k ≤ k') (hn : n ≤ n') : Nk k' n' d := ⟨h.lay, Nat.le_trans h.dep hk, h.show_, Nat.le_trans h.len hn⟩
theorem nk_int {i : Int} (h1 : -1000000000000000000000000000000000000000000000000000000000000 ≤ i) (h2 : i ≤ 1000000000000000000000000000000000000000000000000000000000000) : Nk 0 300 (.int i) := by
  have := log2_lt (Lim.lt ⟨h1, h2⟩) (by decide)
  refine ⟨by simp [PyData.canLay0], by simp [PyData.depth], ?_, ?_⟩
  · simp only [PyData.showable]
    exact decide_eq_true (by omega)
  · simp only [shLen]; omega
theorem nk_bool {b : Bool} : Nk 0 300 (.bool b) := ⟨by simp [PyData.canLay0], by simp [PyData.depth], rfl, by simp [shLen]⟩
theorem nk_none : Nk 0 300 .none := ⟨by simp [PyData.canLay0], by simp [PyData.depth], rfl, by simp [shLen]⟩
theorem nk_all {k n : Nat} : ∀ {xs : List D}, (∀ x ∈ xs, Nk k n x) → PyData.canLayAll0 xs = true ∧ PyData.depthAll xs ≤ k ∧ PyData.showableAll xs = true ∧ shLens xs ≤ xs.length * (n + 2)
  | [], _ => ⟨rfl, by simp [PyData.depthAll], rfl, by simp [shLens]⟩
  | x :: xs, h => by
    obtain ⟨a, b, c, d⟩ := nk_all (fun y hy => h y (List.mem_cons_of_mem _ hy))
    have q := h x (List.mem_cons_self ..)
    refine ⟨by simp [PyData.canLayAll0, q.lay, a], by rw [PyData.depthAll]; exact Nat.max_le.mpr ⟨q.dep, b⟩, by simp [PyData.showableAll, q.show_, c], ?_⟩
    rw [shLens, List.length_cons, Nat.succ_mul]
    have := q.len
    omega
theorem nk_list {k n L : Nat} {xs : List D} (h : ∀ x ∈ xs, Nk k n x) (hl : xs.length ≤ L) : Nk (k + 1) (L * (n + 2) + 3) (.list xs) := by
  obtain ⟨a, b, c, d⟩ := nk_all h
  have := Nat.mul_le_mul_right (n + 2) hl
  exact ⟨by simpa [PyData.canLay0] using a, by simp only [PyData.depth]; omega, by simpa [PyData.showable] using c, by simp only [shLen]; omega⟩
theorem nk_tup {k n L : Nat} {xs : List D} (h : ∀ x ∈ xs, Nk k n x) (hl : xs.length ≤ L) : Nk (k + 1) (L * (n + 2) + 3) (.tuple xs) := by
  obtain ⟨a, b, c, d⟩ := nk_all h
  have := Nat.mul_le_mul_right (n + 2) hl
  exact ⟨by simpa [PyData.canLay0] using a, by simp only [PyData.depth]; omega, by simpa [PyData.showable] using c, by simp only [shLen]; omega⟩
theorem Nk.shaped {k n : Nat} {d : D} (h : Nk k n d) (hk : k ≤ 64) : SeqAt.shaped d = true := by
  unfold SeqAt.shaped
  rw [h.lay, Bool.true_and]
  exact decide_eq_true (Nat.le_trans h.dep hk)
theorem repr_nk {k n : Nat} {d : D} (h : Nk k n d) (hk : k ≤ 64) (hn : n ≤ 16777216) : reprD d = some (.str d.shown) := by
  unfold reprD
  rw [if_pos ⟨h.shaped hk, h.show_, Nat.le_trans h.len hn⟩]
theorem eq_nk {k n k' n' : Nat} {d e : D} (h : Nk k n d) (h' : Nk k' n' e) (hk : k ≤ 64) (hk' : k' ≤ 64) : eqD d e = some (PyData.eqv d e) := by
  rcases eqD_cases d e with ⟨a, b, rfl, rfl, z⟩ | z
  · rw [z]
    simp only [PyData.eqv]
    refine congrArg some ?_
    rw [Bool.eq_iff_iff, beq_iff_eq, decide_eq_true_eq]
  · rw [z, if_pos ⟨h.shaped hk, h'.shaped hk'⟩]
theorem ne_nk {k n k' n' : Nat} {d e : D} (h : Nk k n d) (h' : Nk k' n' e) (hk : k ≤ 64) (hk' : k' ≤ 64) : neD d e = some (!PyData.eqv d e) := by
  unfold neD
  rw [eq_nk h h' hk hk']
  rfl
theorem dec_beq {a b : Int} : (a == b) = decide (a = b) := by
  rw [Bool.eq_iff_iff, beq_iff_eq, decide_eq_true_eq]
theorem eq_i {a b : Int} : eqD (.int a) (.int b) = some (decide (a = b)) := by
  show some (eqI a b) = _
  rw [eqI_eq, dec_beq]
theorem ne_i {a b : Int} : neD (.int a) (.int b) = some (!decide (a = b)) := by
  unfold neD
  rw [eq_i]
  rfl
theorem eqv_i {a b : Int} : PyData.eqv (.int a) (.int b) = decide (a = b) := by
  simp only [PyData.eqv]
  exact dec_beq
/-- texts of one datum are equal -/
theorem ne_b {a b : Bool} : neD (.bool a) (.bool b) = some (!decide (a = b)) := by cases a <;> cases b <;> kernel_rfl
theorem eq_b {a b : Bool} : eqD (.bool a) (.bool b) = some (decide (a = b)) := by cases a <;> cases b <;> kernel_rfl
theorem add_l {xs ys : List D} (h : xs.length + ys.length ≤ 16777216) : addD (.list xs) (.list ys) = some (.list (xs ++ ys)) := by
  exact if_pos (show xs.length + ys.length ≤ sizeLine from h)
theorem ne_s {x y : Str} : neD (.str x) (.str y) = some (!decide (x = y)) := id rfl
theorem eq_s {x y : Str} : eqD (.str x) (.str y) = some (decide (x = y)) := id rfl
/-! ### what the laws share: the numbers drawn, their mixing -/
noncomputable def drawsB : En → R Fl :=
  (seqS (setC 1 (lstF argN))
  (seqS (forS (gN 2) (rng1 (bin2 min2D (cst (.int 63)) (lenL (gets 0))))
  (seqS (setS 3 (un1 absD (bin2 atL (gets 0) (getd 2))))
  (ifS (bin2 geI (getd 3) (bin2 powD (cst (.int 10)) (cst (.int 18))))
  (forS (gN 4) (rng1 (cst (.int 60)))
  (ifS (bin2 gtI (getd 3) (cst (.int 0)))
  (seqS (appS 1 (bin2 modD (un1 intD (getd 3)) (cst (.int 65536))))
  (setS 3 (bin2 fdivD (getd 3) (cst (.int 65536)))))
  nxS))
  (seqS (setS 5 (bin2 modD (un1 intD (bin2 addD (bin2 mulD (getd 3) (cst (.int 48271))) (bin2 mulD (bin2 addD (getd 2) (cst (.int 1))) (cst (.int 69621))))) (cst (.int 2147483647))))
  (seqS (setS 5 (bin2 modD (un1 intD (bin2 addD (bin2 addD (bin2 mulD (getd 5) (cst (.int 16807))) (bin2 mulD (cst (.int 11)) (getd 2))) (cst (.int 5)))) (cst (.int 2147483629))))
  (seqS (appS 1 (bin2 modD (un1 intD (getd 5)) (cst (.int 65536))))
  (appS 1 (bin2 modD (un1 intD (bin2 fdivD (getd 5) (cst (.int 65536)))) (cst (.int 32768))))))))))
  (retC 1)))
noncomputable def mixB : En → R Fl :=
  (seqS (setS 3 (cst (.int 0)))
  (seqS (ifS (bin2 gtI (un1 lenD (getd 0)) (cst (.int 0)))
  (setS 3 (bin2 ixD (getd 0) (bin2 modD (un1 intD (getd 1)) (un1 lenD (getd 0)))))
  nxS)
  (seqS (ifS (bin2 ltI (getd 1) (un1 lenD (getd 0)))
  (retS (bin2 modD (un1 intD (getd 3)) (getd 2)))
  nxS)
  (retS (bin2 modD (un1 intD (bin2 fdivD (un1 intD (bin2 addD (bin2 mulD (getd 3) (cst (.int 7919))) (bin2 mulD (getd 1) (cst (.int 104729))))) (cst (.int 3)))) (getd 2))))))
noncomputable def drawsM : List Int → R D := fnS 6 drawsB
noncomputable def mixM : List D → R D := fnM 4 mixB

theorem forL_inv {g : Tg} {body : En → R Fl} (I : Nat → En → Prop) : ∀ {xs : List D} (k : Nat), (∀ i x, xs[i]? = some x → ∀ ρ, I (k + i) ρ → ∃ ρ1 ρ2, g x ρ = some ρ1 ∧ (body ρ1 = .ok (.nx ρ2) ∨ body ρ1 = .ok (.ct ρ2)) ∧ I (k + i + 1) ρ2) →
    ∀ ρ, I k ρ → ∃ ρ', forL g body xs ρ = .ok (.nx ρ') ∧ I (k + xs.length) ρ'
  | [], k, _, ρ, h0 => ⟨ρ, rfl, h0⟩
  | x :: xs, k, h, ρ, h0 => by
    obtain ⟨ρ1, ρ2, e1, e2, e3⟩ := h 0 x rfl ρ h0
    obtain ⟨ρ', q1, q2⟩ := forL_inv I (xs := xs) (k + 1) (fun i y hy ρ hi => by
      have := h (i + 1) y (by simpa using hy) ρ (by rw [show k + (i + 1) = k + 1 + i by omega]; exact hi)
      rw [show k + (i + 1) = k + 1 + i by omega] at this
      exact this) ρ2 (by simpa using e3)
    refine ⟨ρ', ?_, by rw [List.length_cons, show k + (xs.length + 1) = k + 1 + xs.length by omega]; exact q2⟩
    rw [forL_cons, e1]
    show ((body ρ1).bind _) = _
    rcases e2 with e2 | e2 <;> rw [e2] <;> exact q1
theorem rng1_i {m : En → R D} {ρ : En} {j : Int} (h : m ρ = .ok (.int j)) (h1 : -4611686018427387904 ≤ j) (h2 : j < 4611686018427387904) : rng1 m ρ = .ok (rng 0 j) := by
  unfold rng1
  rw [h]
  show (if _ then _ else _) = _
  rw [if_pos ⟨by omega, by omega⟩]
theorem rng_len {a b : Int} : (rng a b).length = (b - a).toNat := by simp [rng]
theorem rng_at {a b : Int} {i : Nat} {x : D} (h : (rng a b)[i]? = some x) : x = .int (a + i) ∧ a + (i : Int) < b := by
  unfold rng at h
  rw [List.getElem?_map] at h
  cases e : (List.range (b - a).toNat)[i]? with
  | none => rw [e] at h; cases h
  | some k =>
    obtain ⟨h1, h2⟩ := List.getElem?_eq_some_iff.mp e
    rw [List.getElem_range] at h2
    subst h2
    rw [e] at h
    have := Option.some.inj h
    refine ⟨this.symm, ?_⟩
    simp at h1
    omega
theorem get_sc {ns : List Int} {l : En} : gets 0 (.sc ns :: l) = .ok (ns.map PyData.int) := id rfl
end Mir
namespace Mir
open PySem PySem.Spec PyProof.Rows L2
theorem atI_nat {xs : List D} {i : Nat} {d : D} (h : xs[i]? = some d) : atI xs (i : Int) = some d := by
  have hl : i < xs.length := by
    obtain ⟨h1, _⟩ := List.getElem?_eq_some_iff.mp h
    exact h1
  unfold atI ixN
  rw [if_pos (by omega), if_pos (by omega)]
  exact h
def Dig (ds : List Int) : Prop := ∀ d ∈ ds, 0 ≤ d ∧ d < 65536
theorem Dig.add {ds : List Int} {d : Int} (h : Dig ds) (h1 : 0 ≤ d) (h2 : d < 65536) : Dig (ds ++ [d]) := by
  intro x hx
  rcases List.mem_append.mp hx with q | q
  · exact h x q
  · rw [List.mem_singleton] at q; subst q; exact ⟨h1, h2⟩
theorem draws_inner {s0 s2 s5 : Sl} {n : Nat} {xs : List D} {k : Nat} (hl : xs.length ≤ 100) : ∀ ρ, (∃ (ds : List Int) (r : Int) (s4 : Sl), ρ = [s0, .ce (ds.map PyData.int), s2, .da (.int r), s4, s5] ∧ Dig ds ∧ ds.length ≤ k ∧ 0 ≤ r) → k ≤ 10000 →
    ∃ ρ', forL (gN 4) (ifS (bin2 gtI (getd 3) (cst (.int 0)))
  (seqS (appS 1 (bin2 modD (un1 intD (getd 3)) (cst (.int 65536))))
  (setS 3 (bin2 fdivD (getd 3) (cst (.int 65536)))))
  nxS) xs ρ = .ok (.nx ρ') ∧ ∃ (ds : List Int) (r : Int) (s4 : Sl), ρ' = [s0, .ce (ds.map PyData.int), s2, .da (.int r), s4, s5] ∧ Dig ds ∧ ds.length ≤ k + 100 := by
  intro ρ hρ hk
  obtain ⟨ρ', e, h⟩ := forL_inv (fun i ρ => ∃ (ds : List Int) (r : Int) (s4 : Sl), ρ = [s0, .ce (ds.map PyData.int), s2, .da (.int r), s4, s5] ∧ Dig ds ∧ ds.length ≤ k + i ∧ 0 ≤ r) (xs := xs)
    (g := gN 4) (body := (ifS (bin2 gtI (getd 3) (cst (.int 0)))
  (seqS (appS 1 (bin2 modD (un1 intD (getd 3)) (cst (.int 65536))))
  (setS 3 (bin2 fdivD (getd 3) (cst (.int 65536)))))
  nxS)) 0 (fun i x hx ρ hI => by
      obtain ⟨ds, r, s4, rfl, hd, hn, hr⟩ := hI
      have hi : i < xs.length := (List.getElem?_eq_some_iff.mp hx).1
      have hz : (ds.map PyData.int).length < 16777216 := by
        rw [List.length_map]
        omega
      refine ⟨[s0, .ce (ds.map PyData.int), s2, .da (.int r), .da x, s5], ?_⟩
      by_cases q : 0 < r
      · refine ⟨[s0, .ce ((ds ++ [r % 65536]).map PyData.int), s2, .da (.int (r / 65536)), .da x, s5], rfl, .inl ?_, ds ++ [r % 65536], r / 65536, .da x, rfl, hd.add (by omega) (by omega), by simp; omega, by omega⟩
        simp (disch := omega) only [↓setS_e, ↓setC_e, ↓parS_e, ↓ifS_e, ↓ifV_e, ↓retS_e, ↓retF_e, ↓retC_e, ↓retN_e, ↓nxS_e, ↓dropS_e, ↓asgS_e, ↓bin2_e, ↓un1_e, ↓cst_e, ↓tL_e, ↓asL_e, ↓itD_e, ↓bD_e, ↓lenL_e, ↓andB_e, ↓orB_e, ↓notB_e, ↓chain_e, ↓orV_e, ↓andV_e, ↓notV_e, ↓argN_e, ↓argC_e, ↓lstF_e, ↓tupD_e, ↓appM_e, ↓frzS_e, ↓yesB_e, ↓revF_e, ↓rng1_e, ↓seqS_e, ↓appS_e, ↓extS_e, ↓stoS_e, ↓forS_e, setK_e, setCK_e, parK_e, parL_e, ifK_t, ifK_f, retK_e, roK_e, dropK_e, asgK_e, nxK_e, b2K_e, b2L_e, u1K_e, liK_e, boK_e, lnK_e, anK_t, anK_f, orK_t, orK_f, noK_e, chK_e, chL_e, chN_t, chN_f, ovK_e, ovL_t, ovL_f, avK_e, avL_t, avL_f, nvK_e, nvL_e, acK_e, acL_e, rvK_e, ls_0, ls_1, ls_2, ls_3, ls_4, ls_5, ls_6, ls_7, ls_8, tu_0, tu_1, tu_2, tu_3, tu_4, tu_5, tu_6, tu_7, tu_8, seqK_nx, seqK_ct, seqK_bk, seqK_rt, seqK_ro, appK_e, appL_i, extK_e, extL_i, stoM_e, stoL_e, stoK_i, forX_e, forG_e, getd_0, getd_s, gets_0, gets_s, getc_0, getc_s, scM_0, scM_s, nth_0, nth_s, setE_0, setE_s, List.set_cons_zero, List.set_cons_succ, b_ok, b_ex, b_no, ofO_some, asList_l, items_l, items_t, add_i, sub_i, neg_i, int_i, abs_i, lt_i, le_i, gt_i, ge_i, min2_i, max2_i, gcd_i, ix_l, ix_t, atL_i, len_l, len_t, truth_b, isN_n, isB_b, isntN_n, isntB_b, isntN_i, isntN_t, isntN_l, isN_i, isN_t, isN_l, frzE_0, frzE_0d, frzE_0u, frzE_s, rngK_i, forK_nx, forK_ct, forK_bk, forK_rt, forK_ro, whlK_t, whlK_f, gN_e, gT_e, gsN_e, gsC_e, Option.bind_some, mul_i, fdiv_i, mod_i, eq_i, ne_i, ne_s, eq_s, decide_true, decide_false, if_true, if_false, Bool.false_eq_true, Bool.not_true, Bool.not_false, reduceIte, Nat.zero_le, q, hz, List.map_append, List.map_cons, List.map_nil]
      · refine ⟨_, rfl, .inl ?_, ds, r, .da x, rfl, hd, by omega, hr⟩
        simp (disch := omega) only [↓setS_e, ↓setC_e, ↓parS_e, ↓ifS_e, ↓ifV_e, ↓retS_e, ↓retF_e, ↓retC_e, ↓retN_e, ↓nxS_e, ↓dropS_e, ↓asgS_e, ↓bin2_e, ↓un1_e, ↓cst_e, ↓tL_e, ↓asL_e, ↓itD_e, ↓bD_e, ↓lenL_e, ↓andB_e, ↓orB_e, ↓notB_e, ↓chain_e, ↓orV_e, ↓andV_e, ↓notV_e, ↓argN_e, ↓argC_e, ↓lstF_e, ↓tupD_e, ↓appM_e, ↓frzS_e, ↓yesB_e, ↓revF_e, ↓rng1_e, ↓seqS_e, ↓appS_e, ↓extS_e, ↓stoS_e, ↓forS_e, setK_e, setCK_e, parK_e, parL_e, ifK_t, ifK_f, retK_e, roK_e, dropK_e, asgK_e, nxK_e, b2K_e, b2L_e, u1K_e, liK_e, boK_e, lnK_e, anK_t, anK_f, orK_t, orK_f, noK_e, chK_e, chL_e, chN_t, chN_f, ovK_e, ovL_t, ovL_f, avK_e, avL_t, avL_f, nvK_e, nvL_e, acK_e, acL_e, rvK_e, ls_0, ls_1, ls_2, ls_3, ls_4, ls_5, ls_6, ls_7, ls_8, tu_0, tu_1, tu_2, tu_3, tu_4, tu_5, tu_6, tu_7, tu_8, seqK_nx, seqK_ct, seqK_bk, seqK_rt, seqK_ro, appK_e, appL_i, extK_e, extL_i, stoM_e, stoL_e, stoK_i, forX_e, forG_e, getd_0, getd_s, gets_0, gets_s, getc_0, getc_s, scM_0, scM_s, nth_0, nth_s, setE_0, setE_s, List.set_cons_zero, List.set_cons_succ, b_ok, b_ex, b_no, ofO_some, asList_l, items_l, items_t, add_i, sub_i, neg_i, int_i, abs_i, lt_i, le_i, gt_i, ge_i, min2_i, max2_i, gcd_i, ix_l, ix_t, atL_i, len_l, len_t, truth_b, isN_n, isB_b, isntN_n, isntB_b, isntN_i, isntN_t, isntN_l, isN_i, isN_t, isN_l, frzE_0, frzE_0d, frzE_0u, frzE_s, rngK_i, forK_nx, forK_ct, forK_bk, forK_rt, forK_ro, whlK_t, whlK_f, gN_e, gT_e, gsN_e, gsC_e, Option.bind_some, mul_i, fdiv_i, mod_i, eq_i, ne_i, ne_s, eq_s, decide_true, decide_false, if_true, if_false, Bool.false_eq_true, Bool.not_true, Bool.not_false, reduceIte, Nat.zero_le, q]) ρ (by obtain ⟨a, b, c, d, e, f⟩ := hρ; exact ⟨a, b, c, d, e, by simpa using f⟩)
  obtain ⟨a, b, c, d, e', f, g⟩ := h
  exact ⟨ρ', e, a, b, c, d, e', by omega⟩
theorem drawsM_is (ns : List Int) : ∃ ds : List Int, drawsM ns = .ok (.list (ds.map PyData.int)) ∧ Dig ds := by
  have hlen : ∃ m : Nat, (if (ns.length : Int) < 63 then (ns.length : Int) else 63) = m ∧ m ≤ 63 ∧ m ≤ ns.length := by
    by_cases q : (ns.length : Int) < 63
    · exact ⟨ns.length, by rw [if_pos q], by omega, Nat.le_refl _⟩
    · exact ⟨63, by rw [if_neg q]; rfl, Nat.le_refl _, by omega⟩
  obtain ⟨m, em, hm, hm2⟩ := hlen
  obtain ⟨ρ', e, ds, s2, s3, s4, s5, rfl, hd, hn⟩ := forL_inv (fun i ρ => ∃ (ds : List Int) (s2 s3 s4 s5 : Sl), ρ = [.sc ns, .ce (ds.map PyData.int), s2, s3, s4, s5] ∧ Dig ds ∧ ds.length ≤ 100 * i) (xs := rng 0 (m : Int))
    (g := gN 2) (body := (seqS (setS 3 (un1 absD (bin2 atL (gets 0) (getd 2))))
  (ifS (bin2 geI (getd 3) (bin2 powD (cst (.int 10)) (cst (.int 18))))
  (forS (gN 4) (rng1 (cst (.int 60)))
  (ifS (bin2 gtI (getd 3) (cst (.int 0)))
  (seqS (appS 1 (bin2 modD (un1 intD (getd 3)) (cst (.int 65536))))
  (setS 3 (bin2 fdivD (getd 3) (cst (.int 65536)))))
  nxS))
  (seqS (setS 5 (bin2 modD (un1 intD (bin2 addD (bin2 mulD (getd 3) (cst (.int 48271))) (bin2 mulD (bin2 addD (getd 2) (cst (.int 1))) (cst (.int 69621))))) (cst (.int 2147483647))))
  (seqS (setS 5 (bin2 modD (un1 intD (bin2 addD (bin2 addD (bin2 mulD (getd 5) (cst (.int 16807))) (bin2 mulD (cst (.int 11)) (getd 2))) (cst (.int 5)))) (cst (.int 2147483629))))
  (seqS (appS 1 (bin2 modD (un1 intD (getd 5)) (cst (.int 65536))))
  (appS 1 (bin2 modD (un1 intD (bin2 fdivD (getd 5) (cst (.int 65536)))) (cst (.int 32768))))))))) ) 0 (fun i x hx ρ hI => by
      obtain ⟨ds, s2, s3, s4, s5, rfl, hd, hn⟩ := hI
      obtain ⟨rfl, hi⟩ := rng_at hx
      have hi' : i < m := by omega
      have hx2 : (ns.map PyData.int)[i]? = some (.int (ns[i]'(by omega))) := by
        rw [List.getElem?_map, List.getElem?_eq_getElem (by omega)]; rfl
      have hat : atI (ns.map PyData.int) (0 + (i : Int)) = some (.int (ns[i]'(by omega))) := by
        rw [Int.zero_add]
        exact atI_nat hx2
      generalize (ns[i]'(by omega)) = v at hat
      have hpow : powD (.int 10) (.int 18) = some (.int 1000000000000000000) := by
        unfold powD iiD okPow
        simp
      have hr : ∃ r : Int, (if v < 0 then -v else v) = r ∧ 0 ≤ r := by
        by_cases q : v < 0
        · exact ⟨-v, by rw [if_pos q], by omega⟩
        · exact ⟨v, by rw [if_neg q], by omega⟩
      obtain ⟨r, er, hr⟩ := hr
      refine ⟨[.sc ns, .ce (ds.map PyData.int), .da (.int (0 + (i : Int))), s3, s4, s5], ?_⟩
      by_cases q : 1000000000000000000 ≤ r
      · obtain ⟨ρ', e, ds', r', s4', rfl, hd', hn'⟩ := draws_inner (s0 := .sc ns) (s2 := .da (.int (0 + (i : Int)))) (s5 := s5) (n := 0) (xs := rng 0 60) (k := 100 * i) (by rw [rng_len]; decide) [.sc ns, .ce (ds.map PyData.int), .da (.int (0 + (i : Int))), .da (.int r), s4, s5] ⟨ds, r, s4, rfl, hd, by omega, hr⟩ (by omega)
        refine ⟨[.sc ns, .ce (ds'.map PyData.int), .da (.int (0 + (i : Int))), .da (.int r'), s4', s5], rfl, .inl ?_, ds', _, _, _, _, rfl, hd', by omega⟩
        simp (disch := omega) only [↓setS_e, ↓setC_e, ↓parS_e, ↓ifS_e, ↓ifV_e, ↓retS_e, ↓retF_e, ↓retC_e, ↓retN_e, ↓nxS_e, ↓dropS_e, ↓asgS_e, ↓bin2_e, ↓un1_e, ↓cst_e, ↓tL_e, ↓asL_e, ↓itD_e, ↓bD_e, ↓lenL_e, ↓andB_e, ↓orB_e, ↓notB_e, ↓chain_e, ↓orV_e, ↓andV_e, ↓notV_e, ↓argN_e, ↓argC_e, ↓lstF_e, ↓tupD_e, ↓appM_e, ↓frzS_e, ↓yesB_e, ↓revF_e, ↓rng1_e, ↓seqS_e, ↓appS_e, ↓extS_e, ↓stoS_e, ↓forS_e, setK_e, setCK_e, parK_e, parL_e, ifK_t, ifK_f, retK_e, roK_e, dropK_e, asgK_e, nxK_e, b2K_e, b2L_e, u1K_e, liK_e, boK_e, lnK_e, anK_t, anK_f, orK_t, orK_f, noK_e, chK_e, chL_e, chN_t, chN_f, ovK_e, ovL_t, ovL_f, avK_e, avL_t, avL_f, nvK_e, nvL_e, acK_e, acL_e, rvK_e, ls_0, ls_1, ls_2, ls_3, ls_4, ls_5, ls_6, ls_7, ls_8, tu_0, tu_1, tu_2, tu_3, tu_4, tu_5, tu_6, tu_7, tu_8, seqK_nx, seqK_ct, seqK_bk, seqK_rt, seqK_ro, appK_e, appL_i, extK_e, extL_i, stoM_e, stoL_e, stoK_i, forX_e, forG_e, getd_0, getd_s, gets_0, gets_s, getc_0, getc_s, scM_0, scM_s, nth_0, nth_s, setE_0, setE_s, List.set_cons_zero, List.set_cons_succ, b_ok, b_ex, b_no, ofO_some, asList_l, items_l, items_t, add_i, sub_i, neg_i, int_i, abs_i, lt_i, le_i, gt_i, ge_i, min2_i, max2_i, gcd_i, ix_l, ix_t, atL_i, len_l, len_t, truth_b, isN_n, isB_b, isntN_n, isntB_b, isntN_i, isntN_t, isntN_l, isN_i, isN_t, isN_l, frzE_0, frzE_0d, frzE_0u, frzE_s, rngK_i, forK_nx, forK_ct, forK_bk, forK_rt, forK_ro, whlK_t, whlK_f, gN_e, gT_e, gsN_e, gsC_e, Option.bind_some, mul_i, fdiv_i, mod_i, eq_i, ne_i, ne_s, eq_s, decide_true, decide_false, if_true, if_false, Bool.false_eq_true, Bool.not_true, Bool.not_false, reduceIte, Nat.zero_le, hat, er, hpow, q]
        exact e
      · have hz : (ds.map PyData.int).length < 16777216 := by
          rw [List.length_map]
          omega
        have hz2 : ∀ a : Int, ((ds.map PyData.int) ++ [PyData.int a]).length < 16777216 := by
          intro a
          rw [List.length_append, List.length_map]
          simp only [List.length_cons, List.length_nil]
          omega
        refine ⟨[.sc ns, .ce ((ds ++ [(((r * 48271 + (0 + (i : Int) + 1) * 69621) % 2147483647) * 16807 + 11 * (0 + (i : Int)) + 5) % 2147483629 % 65536] ++ [(((r * 48271 + (0 + (i : Int) + 1) * 69621) % 2147483647) * 16807 + 11 * (0 + (i : Int)) + 5) % 2147483629 / 65536 % 32768]).map PyData.int), .da (.int (0 + (i : Int))), .da (.int r), s4, .da (.int ((((r * 48271 + (0 + (i : Int) + 1) * 69621) % 2147483647) * 16807 + 11 * (0 + (i : Int)) + 5) % 2147483629))], rfl, .inl ?_, ds ++ [(((r * 48271 + (0 + (i : Int) + 1) * 69621) % 2147483647) * 16807 + 11 * (0 + (i : Int)) + 5) % 2147483629 % 65536] ++ [(((r * 48271 + (0 + (i : Int) + 1) * 69621) % 2147483647) * 16807 + 11 * (0 + (i : Int)) + 5) % 2147483629 / 65536 % 32768], _, _, _, _, rfl, (hd.add (by omega) (by omega)).add (by omega) (by omega), by simp; omega⟩
        simp (disch := first | omega | (simp only [List.length_append, List.length_map, List.length_cons, List.length_nil]; omega)) only [↓setS_e, ↓setC_e, ↓parS_e, ↓ifS_e, ↓ifV_e, ↓retS_e, ↓retF_e, ↓retC_e, ↓retN_e, ↓nxS_e, ↓dropS_e, ↓asgS_e, ↓bin2_e, ↓un1_e, ↓cst_e, ↓tL_e, ↓asL_e, ↓itD_e, ↓bD_e, ↓lenL_e, ↓andB_e, ↓orB_e, ↓notB_e, ↓chain_e, ↓orV_e, ↓andV_e, ↓notV_e, ↓argN_e, ↓argC_e, ↓lstF_e, ↓tupD_e, ↓appM_e, ↓frzS_e, ↓yesB_e, ↓revF_e, ↓rng1_e, ↓seqS_e, ↓appS_e, ↓extS_e, ↓stoS_e, ↓forS_e, setK_e, setCK_e, parK_e, parL_e, ifK_t, ifK_f, retK_e, roK_e, dropK_e, asgK_e, nxK_e, b2K_e, b2L_e, u1K_e, liK_e, boK_e, lnK_e, anK_t, anK_f, orK_t, orK_f, noK_e, chK_e, chL_e, chN_t, chN_f, ovK_e, ovL_t, ovL_f, avK_e, avL_t, avL_f, nvK_e, nvL_e, acK_e, acL_e, rvK_e, ls_0, ls_1, ls_2, ls_3, ls_4, ls_5, ls_6, ls_7, ls_8, tu_0, tu_1, tu_2, tu_3, tu_4, tu_5, tu_6, tu_7, tu_8, seqK_nx, seqK_ct, seqK_bk, seqK_rt, seqK_ro, appK_e, appL_i, extK_e, extL_i, stoM_e, stoL_e, stoK_i, forX_e, forG_e, getd_0, getd_s, gets_0, gets_s, getc_0, getc_s, scM_0, scM_s, nth_0, nth_s, setE_0, setE_s, List.set_cons_zero, List.set_cons_succ, b_ok, b_ex, b_no, ofO_some, asList_l, items_l, items_t, add_i, sub_i, neg_i, int_i, abs_i, lt_i, le_i, gt_i, ge_i, min2_i, max2_i, gcd_i, ix_l, ix_t, atL_i, len_l, len_t, truth_b, isN_n, isB_b, isntN_n, isntB_b, isntN_i, isntN_t, isntN_l, isN_i, isN_t, isN_l, frzE_0, frzE_0d, frzE_0u, frzE_s, rngK_i, forK_nx, forK_ct, forK_bk, forK_rt, forK_ro, whlK_t, whlK_f, gN_e, gT_e, gsN_e, gsC_e, Option.bind_some, mul_i, fdiv_i, mod_i, eq_i, ne_i, ne_s, eq_s, decide_true, decide_false, if_true, if_false, Bool.false_eq_true, Bool.not_true, Bool.not_false, reduceIte, Nat.zero_le, hat, er, hpow, q, List.map_append, List.map_cons, List.map_nil]) [.sc ns, .ce [], .un, .un, .un, .un] ⟨[], _, _, _, _, rfl, fun _ h => by simp at h, by simp⟩
  refine ⟨ds, ?_, hd⟩
  have e0 : enterS 6 ns = [.sc ns, .un, .un, .un, .un, .un] := rfl
  unfold drawsM fnS drawsB
  rw [e0]
  have hr : rng1 (bin2 min2D (cst (.int 63)) (lenL (gets 0))) [.sc ns, .ce [], .un, .un, .un, .un] = .ok (rng 0 (m : Int)) := by
    refine rng1_i ?_ (by omega) (by omega)
    simp only [bin2, cst, b_ok, lenL, gets_0, List.length_map, min2_i, em, ofO_some]
  simp (disch := omega) only [↓seqS_e, ↓setC_e, ↓lstF_e, ↓argN_e, ls_0, setCK_e, b_ok, setE_0, setE_s, List.set_cons_zero, List.set_cons_succ, seqK_nx, ↓forS_e, forX_e, ↓hr, e, ↓retC_e, roK_e, getc_0, getc_s]
/-! ### the mixing -/
def cellO (ds : List Int) (k : Int) : Int := (ds[(k % ds.length).toNat]?).getD 0
def mixO (ds : List Int) (k n : Int) : Int := if k < ds.length then cellO ds k % n else (cellO ds k * 7919 + k * 104729) / 3 % n
theorem mixO_lo {ds : List Int} {k n : Int} (hn : 0 < n) : 0 ≤ mixO ds k n := by
  unfold mixO
  split <;> exact Int.emod_nonneg _ (by omega)
theorem mixO_hi {ds : List Int} {k n : Int} (hn : 0 < n) : mixO ds k n < n := by
  unfold mixO
  split <;> exact Int.emod_lt_of_pos _ hn
theorem mix_is {ds : List Int} {k n : Int} (hd : Dig ds) (hk : 0 ≤ k) (hk2 : k ≤ 1000000000) (hn : 0 < n) : mixM [.list (ds.map PyData.int), .int k, .int n] = .ok (.int (mixO ds k n)) := by
  have hc : 0 ≤ cellO ds k ∧ cellO ds k < 65536 := by
    unfold cellO
    cases e : ds[(k % ds.length).toNat]? with
    | none => exact ⟨by decide, by decide⟩
    | some v => exact hd v (List.mem_of_getElem? e)
  unfold mixM fnM mixB
  have e0 : enter 4 [.list (ds.map PyData.int), .int k, .int n] = [.da (.list (ds.map PyData.int)), .da (.int k), .da (.int n), .un] := rfl
  rw [e0]
  by_cases z : 0 < (ds.length : Int)
  · have h1 : 0 ≤ k % ds.length := Int.emod_nonneg _ (by omega)
    have h2 : k % ds.length < ds.length := Int.emod_lt_of_pos _ z
    have hat : atI (ds.map PyData.int) (k % ds.length) = some (.int (cellO ds k)) := by
      have e : k % ds.length = ((k % ds.length).toNat : Int) := by omega
      rw [e]
      refine atI_nat ?_
      rw [List.getElem?_map]
      unfold cellO
      have hl : (k % ds.length).toNat < ds.length := by omega
      rw [List.getElem?_eq_getElem hl]
      rfl
    unfold mixO
    by_cases q : k < ds.length
    · simp (disch := omega) only [↓setS_e, ↓setC_e, ↓parS_e, ↓ifS_e, ↓ifV_e, ↓retS_e, ↓retF_e, ↓retC_e, ↓retN_e, ↓nxS_e, ↓dropS_e, ↓asgS_e, ↓bin2_e, ↓un1_e, ↓cst_e, ↓tL_e, ↓asL_e, ↓itD_e, ↓bD_e, ↓lenL_e, ↓andB_e, ↓orB_e, ↓notB_e, ↓chain_e, ↓orV_e, ↓andV_e, ↓notV_e, ↓argN_e, ↓argC_e, ↓lstF_e, ↓tupD_e, ↓appM_e, ↓frzS_e, ↓yesB_e, ↓revF_e, ↓rng1_e, ↓seqS_e, ↓appS_e, ↓extS_e, ↓stoS_e, ↓forS_e, setK_e, setCK_e, parK_e, parL_e, ifK_t, ifK_f, retK_e, roK_e, dropK_e, asgK_e, nxK_e, b2K_e, b2L_e, u1K_e, liK_e, boK_e, lnK_e, anK_t, anK_f, orK_t, orK_f, noK_e, chK_e, chL_e, chN_t, chN_f, ovK_e, ovL_t, ovL_f, avK_e, avL_t, avL_f, nvK_e, nvL_e, acK_e, acL_e, rvK_e, ls_0, ls_1, ls_2, ls_3, ls_4, ls_5, ls_6, ls_7, ls_8, tu_0, tu_1, tu_2, tu_3, tu_4, tu_5, tu_6, tu_7, tu_8, seqK_nx, seqK_ct, seqK_bk, seqK_rt, seqK_ro, appK_e, appL_i, extK_e, extL_i, stoM_e, stoL_e, stoK_i, forX_e, forG_e, getd_0, getd_s, gets_0, gets_s, getc_0, getc_s, scM_0, scM_s, nth_0, nth_s, setE_0, setE_s, List.set_cons_zero, List.set_cons_succ, b_ok, b_ex, b_no, ofO_some, asList_l, items_l, items_t, add_i, sub_i, neg_i, int_i, abs_i, lt_i, le_i, gt_i, ge_i, min2_i, max2_i, gcd_i, ix_l, ix_t, atL_i, len_l, len_t, truth_b, isN_n, isB_b, isntN_n, isntB_b, isntN_i, isntN_t, isntN_l, isN_i, isN_t, isN_l, frzE_0, frzE_0d, frzE_0u, frzE_s, rngK_i, forK_nx, forK_ct, forK_bk, forK_rt, forK_ro, whlK_t, whlK_f, gN_e, gT_e, gsN_e, gsC_e, Option.bind_some, mul_i, fdiv_i, mod_i, eq_i, ne_i, ne_s, eq_s, decide_true, decide_false, if_true, if_false, Bool.false_eq_true, Bool.not_true, Bool.not_false, reduceIte, Nat.zero_le, List.length_map, z, hat, q]
    · simp (disch := omega) only [↓setS_e, ↓setC_e, ↓parS_e, ↓ifS_e, ↓ifV_e, ↓retS_e, ↓retF_e, ↓retC_e, ↓retN_e, ↓nxS_e, ↓dropS_e, ↓asgS_e, ↓bin2_e, ↓un1_e, ↓cst_e, ↓tL_e, ↓asL_e, ↓itD_e, ↓bD_e, ↓lenL_e, ↓andB_e, ↓orB_e, ↓notB_e, ↓chain_e, ↓orV_e, ↓andV_e, ↓notV_e, ↓argN_e, ↓argC_e, ↓lstF_e, ↓tupD_e, ↓appM_e, ↓frzS_e, ↓yesB_e, ↓revF_e, ↓rng1_e, ↓seqS_e, ↓appS_e, ↓extS_e, ↓stoS_e, ↓forS_e, setK_e, setCK_e, parK_e, parL_e, ifK_t, ifK_f, retK_e, roK_e, dropK_e, asgK_e, nxK_e, b2K_e, b2L_e, u1K_e, liK_e, boK_e, lnK_e, anK_t, anK_f, orK_t, orK_f, noK_e, chK_e, chL_e, chN_t, chN_f, ovK_e, ovL_t, ovL_f, avK_e, avL_t, avL_f, nvK_e, nvL_e, acK_e, acL_e, rvK_e, ls_0, ls_1, ls_2, ls_3, ls_4, ls_5, ls_6, ls_7, ls_8, tu_0, tu_1, tu_2, tu_3, tu_4, tu_5, tu_6, tu_7, tu_8, seqK_nx, seqK_ct, seqK_bk, seqK_rt, seqK_ro, appK_e, appL_i, extK_e, extL_i, stoM_e, stoL_e, stoK_i, forX_e, forG_e, getd_0, getd_s, gets_0, gets_s, getc_0, getc_s, scM_0, scM_s, nth_0, nth_s, setE_0, setE_s, List.set_cons_zero, List.set_cons_succ, b_ok, b_ex, b_no, ofO_some, asList_l, items_l, items_t, add_i, sub_i, neg_i, int_i, abs_i, lt_i, le_i, gt_i, ge_i, min2_i, max2_i, gcd_i, ix_l, ix_t, atL_i, len_l, len_t, truth_b, isN_n, isB_b, isntN_n, isntB_b, isntN_i, isntN_t, isntN_l, isN_i, isN_t, isN_l, frzE_0, frzE_0d, frzE_0u, frzE_s, rngK_i, forK_nx, forK_ct, forK_bk, forK_rt, forK_ro, whlK_t, whlK_f, gN_e, gT_e, gsN_e, gsC_e, Option.bind_some, mul_i, fdiv_i, mod_i, eq_i, ne_i, ne_s, eq_s, decide_true, decide_false, if_true, if_false, Bool.false_eq_true, Bool.not_true, Bool.not_false, reduceIte, Nat.zero_le, List.length_map, z, hat, q]
  · have e : ds = [] := by
      cases ds with
      | nil => rfl
      | cons a b => simp at z
    subst e
    have q : ¬ k < (([] : List Int).length : Int) := by simp; omega
    have q2 : ¬ k < (([] : List PyData).length : Int) := by simp; omega
    have z2 : ¬ 0 < (([] : List PyData).length : Int) := by simp
    unfold mixO
    rw [show cellO [] k = 0 from rfl]
    simp (disch := omega) only [↓setS_e, ↓setC_e, ↓parS_e, ↓ifS_e, ↓ifV_e, ↓retS_e, ↓retF_e, ↓retC_e, ↓retN_e, ↓nxS_e, ↓dropS_e, ↓asgS_e, ↓bin2_e, ↓un1_e, ↓cst_e, ↓tL_e, ↓asL_e, ↓itD_e, ↓bD_e, ↓lenL_e, ↓andB_e, ↓orB_e, ↓notB_e, ↓chain_e, ↓orV_e, ↓andV_e, ↓notV_e, ↓argN_e, ↓argC_e, ↓lstF_e, ↓tupD_e, ↓appM_e, ↓frzS_e, ↓yesB_e, ↓revF_e, ↓rng1_e, ↓seqS_e, ↓appS_e, ↓extS_e, ↓stoS_e, ↓forS_e, setK_e, setCK_e, parK_e, parL_e, ifK_t, ifK_f, retK_e, roK_e, dropK_e, asgK_e, nxK_e, b2K_e, b2L_e, u1K_e, liK_e, boK_e, lnK_e, anK_t, anK_f, orK_t, orK_f, noK_e, chK_e, chL_e, chN_t, chN_f, ovK_e, ovL_t, ovL_f, avK_e, avL_t, avL_f, nvK_e, nvL_e, acK_e, acL_e, rvK_e, ls_0, ls_1, ls_2, ls_3, ls_4, ls_5, ls_6, ls_7, ls_8, tu_0, tu_1, tu_2, tu_3, tu_4, tu_5, tu_6, tu_7, tu_8, seqK_nx, seqK_ct, seqK_bk, seqK_rt, seqK_ro, appK_e, appL_i, extK_e, extL_i, stoM_e, stoL_e, stoK_i, forX_e, forG_e, getd_0, getd_s, gets_0, gets_s, getc_0, getc_s, scM_0, scM_s, nth_0, nth_s, setE_0, setE_s, List.set_cons_zero, List.set_cons_succ, b_ok, b_ex, b_no, ofO_some, asList_l, items_l, items_t, add_i, sub_i, neg_i, int_i, abs_i, lt_i, le_i, gt_i, ge_i, min2_i, max2_i, gcd_i, ix_l, ix_t, atL_i, len_l, len_t, truth_b, isN_n, isB_b, isntN_n, isntB_b, isntN_i, isntN_t, isntN_l, isN_i, isN_t, isN_l, frzE_0, frzE_0d, frzE_0u, frzE_s, rngK_i, forK_nx, forK_ct, forK_bk, forK_rt, forK_ro, whlK_t, whlK_f, gN_e, gT_e, gsN_e, gsC_e, Option.bind_some, mul_i, fdiv_i, mod_i, eq_i, ne_i, ne_s, eq_s, decide_true, decide_false, if_true, if_false, Bool.false_eq_true, Bool.not_true, Bool.not_false, reduceIte, Nat.zero_le, List.map_nil, z2, q, q2]
/-! ### running a block, statement by statement -/
def Nx (r : R Fl) (P : En → Prop) : Prop := ∃ ρ', r = .ok (.nx ρ') ∧ P ρ'
section
variable {m m' : En → R D} {ml : En → R (List D)} {m1 m2 a b : En → R Fl} {mc : En → R Bool} {ρ ρ1 : En} {P : En → Prop} {d e : D} {xs : List D} {i j : Nat}
theorem nx_seq (h : m1 ρ = .ok (.nx ρ1)) (k : Nx (m2 ρ1) P) : Nx (seqS m1 m2 ρ) P := by
  obtain ⟨ρ', e, p⟩ := k
  exact ⟨ρ', by rw [seqS_e, h]; exact e, p⟩
theorem nx_seqN (h : Nx (m1 ρ) fun ρ1 => Nx (m2 ρ1) P) : Nx (seqS m1 m2 ρ) P := by
  obtain ⟨ρ1, e, k⟩ := h
  exact nx_seq e k
theorem nx_set (h : m ρ = .ok d) (k : Nx (m2 (setE ρ i (.da d))) P) : Nx (seqS (setS i m) m2 ρ) P := nx_seq (by unfold setS; rw [h]; rfl) k
theorem nx_setc (h : ml ρ = .ok xs) (k : Nx (m2 (setE ρ i (.ce xs))) P) : Nx (seqS (setC i ml) m2 ρ) P := nx_seq (by unfold setC; rw [h]; rfl) k
theorem nx_par (h : m ρ = .ok d) (h' : m' ρ = .ok e) (k : Nx (m2 (setE (setE ρ i (.da d)) j (.da e))) P) : Nx (seqS (parS i j m m') m2 ρ) P := nx_seq (by unfold parS; rw [h]; show ((m' ρ).bind _) = _; rw [h']; rfl) k
theorem nx_skip (h : mc ρ = .ok false) (k : Nx (m2 ρ) P) : Nx (seqS (ifS mc a nxS) m2 ρ) P := nx_seq (by unfold ifS; rw [h]; rfl) k
theorem nx_skipE (h : mc ρ = .ok false) (p : P ρ) : Nx (ifS mc a nxS ρ) P := ⟨ρ, by unfold ifS; rw [h]; rfl, p⟩
theorem nx_app (h : getc i ρ = .ok xs) (h' : m ρ = .ok d) (hl : xs.length < 16777216) (k : Nx (m2 (setE ρ i (.ce (xs ++ [d])))) P) : Nx (seqS (appS i m) m2 ρ) P := nx_seq (by rw [appS_e, h]; show ((m ρ).bind _) = _; rw [h']; show (if _ then _ else _) = _; rw [if_pos hl]) k
theorem nx_for {g : Tg} {body : En → R Fl} (I : Nat → En → Prop) (h : ml ρ = .ok xs) (h0 : I 0 ρ) (hs : ∀ i x, xs[i]? = some x → ∀ ρ, I i ρ → ∃ ρ1, g x ρ = some ρ1 ∧ Nx (body ρ1) (I (i + 1))) (k : ∀ ρ', I xs.length ρ' → P ρ') : Nx (forS g ml body ρ) P := by
  obtain ⟨ρ', e, p⟩ := forL_inv I (xs := xs) (g := g) (body := body) 0 (fun i x hx ρ hI => by
    rw [Nat.zero_add] at hI ⊢
    obtain ⟨ρ1, e1, ρ2, e2, e3⟩ := hs i x hx ρ hI
    exact ⟨ρ1, ρ2, e1, .inl e2, e3⟩) ρ h0
  rw [Nat.zero_add] at p
  exact ⟨ρ', by rw [forS_e, h]; exact e, k ρ' p⟩
theorem nx_setE (h : m ρ = .ok d) (p : P (setE ρ i (.da d))) : Nx (setS i m ρ) P := ⟨_, by unfold setS; rw [h]; rfl, p⟩
theorem nx_if_t (h : mc ρ = .ok true) (k : Nx (a ρ) P) : Nx (ifS mc a b ρ) P := by
  obtain ⟨ρ', e, p⟩ := k
  exact ⟨ρ', by unfold ifS; rw [h]; exact e, p⟩
theorem nx_if_f (h : mc ρ = .ok false) (k : Nx (b ρ) P) : Nx (ifS mc a b ρ) P := by
  obtain ⟨ρ', e, p⟩ := k
  exact ⟨ρ', by unfold ifS; rw [h]; exact e, p⟩
theorem nx_nx (p : P ρ) : Nx (nxS ρ) P := ⟨ρ, rfl, p⟩
theorem nx_asg {g : Tg} (h : m ρ = .ok d) (hg : g d ρ = some ρ1) (k : Nx (m2 ρ1) P) : Nx (seqS (asgS g m) m2 ρ) P := nx_seq (by unfold asgS; rw [h]; show ((ofO (g d ρ)).bind _) = _; rw [hg]; rfl) k
theorem nx_end (p : P ρ) : Nx (.ok (.nx ρ)) P := ⟨ρ, rfl, p⟩
theorem Nx.imp {r : R Fl} {P' : En → Prop} (h : Nx r P) (i : ∀ ρ, P ρ → P' ρ) : Nx r P' := by
  obtain ⟨ρ, e, p⟩ := h
  exact ⟨ρ, e, i ρ p⟩
end
/-! ### whole numbers in a row -/
def irange (a b : Int) : List Int := (List.range (b - a).toNat).map fun (i : Nat) => a + (i : Int)
theorem rng_e {a b : Int} : rng a b = (irange a b).map PyData.int := by
  unfold rng irange
  rw [List.map_map]
  rfl
theorem irange_mem {a b x : Int} : x ∈ irange a b ↔ a ≤ x ∧ x < b := by
  unfold irange
  rw [List.mem_map]
  constructor
  · rintro ⟨i, hi, rfl⟩
    rw [List.mem_range] at hi
    omega
  · intro h
    exact ⟨(x - a).toNat, List.mem_range.mpr (by omega), by omega⟩
theorem irange_len {a b : Int} : (irange a b).length = (b - a).toNat := by simp [irange]
theorem irange_nil {a b : Int} (h : b ≤ a) : irange a b = [] := by
  unfold irange
  rw [show (b - a).toNat = 0 by omega]
  rfl
theorem irange_cons {a b : Int} (h : a < b) : irange a b = a :: irange (a + 1) b := by
  unfold irange
  rw [show (b - a).toNat = (b - (a + 1)).toNat + 1 by omega, List.range_succ_eq_map, List.map_cons, List.map_map]
  congr 1
  · simp
  · refine List.map_congr_left fun i _ => ?_
    simp
    omega
theorem irange_snoc {a b : Int} (h : a ≤ b) : irange a (b + 1) = irange a b ++ [b] := by
  unfold irange
  rw [show (b + 1 - a).toNat = (b - a).toNat + 1 by omega, List.range_succ, List.map_append]
  congr 1
  simp
  omega
theorem irange_split {a b c : Int} (h1 : a ≤ b) (h2 : b ≤ c) : irange a c = irange a b ++ irange b c := by
  unfold irange
  rw [show (c - a).toNat = (b - a).toNat + (c - b).toNat by omega, List.range_add, List.map_append, List.map_map]
  congr 1
  refine List.map_congr_left fun i _ => ?_
  simp
  omega
theorem nk_ints {xs : List Int} {L : Nat} (h : ∀ x ∈ xs, -1000000000000000000000000000000000000000000000000000000000000 ≤ x ∧ x ≤ 1000000000000000000000000000000000000000000000000000000000000) (hl : xs.length ≤ L) : Nk 1 (L * 302 + 3) (.list (xs.map PyData.int)) := by
  refine nk_list (k := 0) (n := 300) (fun x hx => ?_) (by rw [List.length_map]; exact hl)
  obtain ⟨y, hy, rfl⟩ := List.mem_map.mp hx
  exact nk_int (h y hy).1 (h y hy).2
theorem nk_pair {a b : Int} (h1 : -1000000000000000000000000000000000000000000000000000000000000 ≤ a) (h2 : a ≤ 1000000000000000000000000000000000000000000000000000000000000) (h3 : -1000000000000000000000000000000000000000000000000000000000000 ≤ b) (h4 : b ≤ 1000000000000000000000000000000000000000000000000000000000000) : Nk 1 (2 * 302 + 3) (.tuple [.int a, .int b]) :=
  nk_tup (k := 0) (n := 300) (L := 2) (fun x hx => by
    simp only [List.mem_cons, List.not_mem_nil, or_false] at hx
    rcases hx with rfl | rfl
    · exact nk_int h1 h2
    · exact nk_int h3 h4) (by simp)
theorem eq_pair {a b c d : Int} (h1 : -1000000000000000000000000000000000000000000000000000000000000 ≤ a) (h2 : a ≤ 1000000000000000000000000000000000000000000000000000000000000) (h3 : -1000000000000000000000000000000000000000000000000000000000000 ≤ b) (h4 : b ≤ 1000000000000000000000000000000000000000000000000000000000000)
    (k1 : -1000000000000000000000000000000000000000000000000000000000000 ≤ c) (k2 : c ≤ 1000000000000000000000000000000000000000000000000000000000000) (k3 : -1000000000000000000000000000000000000000000000000000000000000 ≤ d) (k4 : d ≤ 1000000000000000000000000000000000000000000000000000000000000) :
    eqD (.tuple [.int a, .int b]) (.tuple [.int c, .int d]) = some (decide (a = c) && decide (b = d)) := by
  rw [eq_nk (nk_pair h1 h2 h3 h4) (nk_pair k1 k2 k3 k4) (by decide) (by decide)]
  simp only [PyData.eqv, PyData.eqvAll, dec_beq, Bool.and_true]
theorem repr_i {i : Int} (h1 : -1000000000000000000000000000000000000000000000000000000000000 ≤ i) (h2 : i ≤ 1000000000000000000000000000000000000000000000000000000000000) : reprD (.int i) = some (.str (PyData.int i).shown) := repr_nk (nk_int h1 h2) (by decide) (by decide)
theorem repr_b {b : Bool} : reprD (.bool b) = some (.str (PyData.bool b).shown) := repr_nk nk_bool (by decide) (by decide)
theorem repr_ints {xs : List Int} (h : ∀ x ∈ xs, -1000000000000000000000000000000000000000000000000000000000000 ≤ x ∧ x ≤ 1000000000000000000000000000000000000000000000000000000000000) (hl : xs.length ≤ 50000) : reprD (.list (xs.map PyData.int)) = some (.str (PyData.list (xs.map PyData.int)).shown) := repr_nk (nk_ints h hl) (by decide) (by decide)
theorem eqv_self {k n : Nat} {d : D} (h : Nk k n d) : PyData.eqv d d = true := PySem.SeqAt.eqv_refl d h.lay
theorem ne_self {k n : Nat} {d : D} (h : Nk k n d) (hk : k ≤ 64) : neD d d = some false := by
  rw [ne_nk h h hk hk, eqv_self h]
  rfl
theorem eq_self {k n : Nat} {d : D} (h : Nk k n d) (hk : k ≤ 64) : eqD d d = some true := by
  rw [eq_nk h h hk hk, eqv_self h]
theorem in_ints {xs : List Int} {a : Int} (h : ∀ x ∈ xs, -1000000000000000000000000000000000000000000000000000000000000 ≤ x ∧ x ≤ 1000000000000000000000000000000000000000000000000000000000000) : inD (.int a) (.list (xs.map PyData.int)) = some (decide (a ∈ xs)) := by
  have h1 : SeqAt.shaped (.int a) = true := by simp [SeqAt.shaped, PyData.canLay0, PyData.depth]
  have h2 := (nk_ints h (Nat.le_refl _)).shaped (by decide)
  show (if _ then _ else _) = _
  rw [if_pos ⟨h1, h2⟩]
  congr 1
  rw [Bool.eq_iff_iff, List.any_eq_true, decide_eq_true_eq]
  constructor
  · rintro ⟨z, hz, e⟩
    obtain ⟨y, hy, rfl⟩ := List.mem_map.mp hz
    rw [eqv_i, decide_eq_true_eq] at e
    subst e
    exact hy
  · intro hm
    exact ⟨_, List.mem_map.mpr ⟨a, hm, rfl⟩, by rw [eqv_i]; simp⟩
end Mir
namespace Mir
open PySem PySem.Spec PyProof.Rows L2
/-! ### built-ins of one list -/
/-- a built-in's reading of a list whose items are frozen -/
noncomputable def LS (K : PySem.W.Frag) (rd : List V → Hp → VK → Prop) (f : List D → Option D) : Prop := ∀ ds r, f ds = some r → ∀ F H a vs Q, Le F H → SqL K H a vs → RpA K F vs ds → (∀ v F' H', Ext F H F' H' → Rp K F' v r → Q v H') → rd [.ref a] H Q
theorem pd_L1 {X : Cx} {cl : String → Addr} {W : XK} {a : Expr} {p pos : Pos} {x : Str} {id : String} {rd : List V → Hp → VK → Prop} {f : List D → Option D} {m : En → R (List D)} (hc : CallR X (.builtin id) rd) (hf : LS X.K rd f) (hg : Gl X x) (hm : X.mg x = none) (hv : bootBuiltins x = some (.builtin id)) (ha : PL X cl W a m)
    (hn : x ≠ "__name__" := by decide) (hd : (x == ("__debug__" : Str)) = false := by decide) (hs : starEach [a] X.env = (false, eval a X.env) :: starEach [] X.env := by rfl) (hpl : (backTo pos (starEach [] X.env)).any (·.1) = false := by rfl) :
    PD X cl W (.Call (.Name x p) [a] [] pos) (un1 f m) := by
  refine PE.imp (pe_callB hc hg hm hv (pa_one ha hs) hn hd hs hpl) fun σ H Q ⟨F0, H0, ρ, F, ok, h⟩ => ?_
  refine ⟨F0, H0, ρ, F, ok, (tR.bind anti_D h).imp fun v H1 ⟨F1, xs, e1, ⟨b, vs, hv, s1, r1⟩, h1⟩ => ?_⟩
  subst hv
  cases hr : f xs with
  | none => rw [hr] at h1; exact False.elim h1
  | some r => rw [hr] at h1; exact hf xs r hr F1 H1 b vs Q e1.sub s1 r1 h1
/-! any, all: lists of truth values -/
noncomputable def isBo : D → Bool
  | .bool _ => true
  | _ => false
noncomputable def allL (ds : List D) : Option D := if ds.all isBo = true then some (.bool (ds.all PyData.truthy)) else none
noncomputable def anyL (ds : List D) : Option D := if ds.all isBo = true then some (.bool (ds.any PyData.truthy)) else none
theorem bo_plain : ∀ {ds : List D}, ds.all isBo = true → PyData.plainAll ds = true ∧ PyData.canLayAll0 ds = true ∧ ∀ x ∈ ds, x.fits63
  | [], _ => ⟨by simp [PyData.plainAll], by simp [PyData.canLayAll0], fun _ h => by simp at h⟩
  | d :: ds, h => by
    rw [List.all_cons, Bool.and_eq_true] at h
    obtain ⟨a, b, c⟩ := bo_plain h.2
    cases d with
    | bool k =>
      refine ⟨by simp [PyData.plainAll, PyData.plain, a], by simp [PyData.canLayAll0, PyData.canLay0, b], fun x hx => ?_⟩
      rcases List.mem_cons.mp hx with rfl | hx
      · exact trivial
      · exact c x hx
    | _ => exact absurd h.1 (by simp [isBo])
noncomputable def rAA (K : PySem.W.Frag) (g : List D → Bool) : List V → Hp → VK → Prop := fun xs H Q => ∃ a vs ds, xs = [.ref a] ∧ SqL K H a vs ∧ DpAll K H vs ds ∧ ds.all isBo = true ∧ Q (.bl (g ds)) H
theorem call_allA {X : Cx} (hc : X.calm = true) : CallR X (.builtin "all") (rAA X.K fun ds => ds.all PyData.truthy) := by
  intro pins s σ H xs us Q I r q
  obtain ⟨a, vs, ds, rfl, hs, hd, hb, q⟩ := q
  obtain ⟨u, rfl, ru⟩ := vals1 r
  cases ru
  obtain ⟨its, rv, ht, _⟩ := I.list hs
  obtain ⟨as, hr⟩ := Dp.readsAll I ds vs its hd rv
  obtain ⟨p1, p2, p3⟩ := bo_plain hb
  exact PySem.W.all_list_data (I.ok.hd hc) ht.isList (by simpa using hr) p1 p3 fun h' tk k => ⟨.bl (ds.all PyData.truthy), H, I.kept (t' := tk) k, rfl, q⟩
theorem call_anyA {X : Cx} (hc : X.calm = true) : CallR X (.builtin "any") (rAA X.K fun ds => ds.any PyData.truthy) := by
  intro pins s σ H xs us Q I r q
  obtain ⟨a, vs, ds, rfl, hs, hd, hb, q⟩ := q
  obtain ⟨u, rfl, ru⟩ := vals1 r
  cases ru
  obtain ⟨its, rv, ht, _⟩ := I.list hs
  obtain ⟨as, hr⟩ := Dp.readsAll I ds vs its hd rv
  obtain ⟨p1, p2, p3⟩ := bo_plain hb
  exact PySem.W.any_list_data (I.ok.hd hc) ht.isList (by simpa using hr) p1 p3 fun h' tk k => ⟨.bl (ds.any PyData.truthy), H, I.kept (t' := tk) k, rfl, q⟩
theorem s_all {K : PySem.W.Frag} : LS K (rAA K fun ds => ds.all PyData.truthy) allL := by
  intro ds r h F H a vs Q le hs rv q
  unfold allL at h
  split at h
  · rename_i hb
    have h := Option.some.inj h
    subst h
    exact ⟨a, vs, ds, rfl, hs, RpA.dp ds (bo_plain hb).2.1 (rv.mono le), hb, q _ F H (Ext.refl le) (.bl _)⟩
  · cases h
theorem s_any {K : PySem.W.Frag} : LS K (rAA K fun ds => ds.any PyData.truthy) anyL := by
  intro ds r h F H a vs Q le hs rv q
  unfold anyL at h
  split at h
  · rename_i hb
    have h := Option.some.inj h
    subst h
    exact ⟨a, vs, ds, rfl, hs, RpA.dp ds (bo_plain hb).2.1 (rv.mono le), hb, q _ F H (Ext.refl le) (.bl _)⟩
  · cases h
/-! data of one sample's kind: alike, in one walk -/
noncomputable def kdL (f : D → D → Bool) : List D → List D → Bool
  | [], [] => true
  | x :: xs, y :: ys => f x y && kdL f xs ys
  | _, _ => false
noncomputable def kdN : Nat → D → D → Bool
  | 0, _, _ => false
  | n + 1, s, d => match s, d with
    | .none, .none => true
    | .bool _, .bool _ => true
    | .int _, .int _ => true
    | .str _, .str _ => true
    | .list (s :: _), .list ys => ys.all fun y => kdN n s y
    | .list [], .list [] => true
    | .tuple xs, .tuple ys => kdL (kdN n) xs ys
    | _, _ => false
noncomputable def smp : List D → D
  | [] => .none
  | d :: ds => match d with
    | .list (x :: xs) => .list (x :: xs)
    | d => match ds with
      | [] => d
      | e :: es => smp (e :: es)
noncomputable def kdF (ds : List D) : Bool := ds.all fun d => kdN 5 (smp ds) d
theorem alikeAll_same {f : D → D → Bool} (hf : ∀ s x y, f s x = true → f s y = true → PySem.W.alike x y = true) : ∀ {ss xs ys : List D}, kdL f ss xs = true → kdL f ss ys = true → PySem.W.alikeAll xs ys = true
  | [], [], _, _, _ => by rw [PySem.W.alikeAll]
  | s :: ss, x :: xs, y :: ys, h1, h2 => by
    have h1 : (f s x && kdL f ss xs) = true := h1
    have h2 : (f s y && kdL f ss ys) = true := h2
    rw [Bool.and_eq_true] at h1 h2
    rw [PySem.W.alikeAll, hf s x y h1.1 h2.1, alikeAll_same hf h1.2 h2.2]
    rfl
  | [], _ :: _, _, h, _ => by cases h
  | _ :: _, [], _, h, _ => by cases h
  | _ :: _, _ :: _, [], _, h => by cases h
theorem alikeAll_of {f : D → Bool} (hf : ∀ x y, f x = true → f y = true → PySem.W.alike x y = true) : ∀ {xs ys : List D}, xs.all f = true → ys.all f = true → PySem.W.alikeAll xs ys = true
  | [], _, _, _ => by rw [PySem.W.alikeAll]
  | _ :: _, [], _, _ => by rw [PySem.W.alikeAll]
  | x :: xs, y :: ys, h1, h2 => by
    rw [List.all_cons, Bool.and_eq_true] at h1 h2
    rw [PySem.W.alikeAll, hf x y h1.1 h2.1, alikeAll_of hf h1.2 h2.2]
    rfl
theorem kdN_alike : ∀ (n : Nat) (s x y : D), kdN n s x = true → kdN n s y = true → PySem.W.alike x y = true := by
  intro n
  induction n with
  | zero => intro s x y h; cases h
  | succ n ih =>
    intro s x y h1 h2
    cases s with
    | none => cases x <;> cases y <;> first | (cases h1; done) | (cases h2; done) | simp only [PySem.W.alike]
    | bool b => cases x <;> cases y <;> first | (cases h1; done) | (cases h2; done) | simp only [PySem.W.alike]
    | int b => cases x <;> cases y <;> first | (cases h1; done) | (cases h2; done) | simp only [PySem.W.alike]
    | str b => cases x <;> cases y <;> first | (cases h1; done) | (cases h2; done) | simp only [PySem.W.alike]
    | list ss =>
      cases ss with
      | nil =>
        cases x <;> cases y <;> first | (cases h1; done) | (cases h2; done) | skip
        rename_i xs ys
        cases xs <;> cases ys <;> first | (cases h1; done) | (cases h2; done) | simp only [PySem.W.alike, PySem.W.alikeAll]
      | cons s ss =>
        cases x <;> cases y <;> first | (cases h1; done) | (cases h2; done) | skip
        rename_i xs ys
        rw [PySem.W.alike]
        exact alikeAll_of (fun a b => ih s a b) (show xs.all (fun y => kdN n s y) = true from h1) (show ys.all (fun y => kdN n s y) = true from h2)
    | tuple ss =>
      cases x <;> cases y <;> first | (cases h1; done) | (cases h2; done) | skip
      rename_i xs ys
      rw [PySem.W.alike]
      exact alikeAll_same (fun a b c => ih a b c) (show kdL (kdN n) ss xs = true from h1) (show kdL (kdN n) ss ys = true from h2)
    | dict ss => cases x <;> first | (cases h1; done) | skip
theorem kdF_of {ds : List D} (h : kdF ds = true) : ∀ x ∈ ds, ∀ y ∈ ds, PySem.W.alike x y = true := fun x hx y hy =>
  kdN_alike 5 (smp ds) x y (List.all_eq_true.mp h x hx) (List.all_eq_true.mp h y hy)
noncomputable def alike2 (ds : List D) : Bool := ds.all fun x => ds.all fun y => PySem.W.alike x y
/-- all alike: by one walk, or, where that does not tell, two by two -/
noncomputable def alikeA (ds : List D) : Bool := kdF ds || alike2 ds
theorem alikeA_eq (ds : List D) : alikeA ds = alike2 ds := by
  unfold alikeA
  cases h : kdF ds with
  | false => rfl
  | true =>
    have h2 : alike2 ds = true := List.all_eq_true.mpr fun x hx => List.all_eq_true.mpr fun y hy => kdF_of h x hx y hy
    rw [h2]
    rfl
/-! min, max: alike data -/
noncomputable def alikeB (ds : List D) : Bool := alikeA ds && ds.all fun x => !isNone x
noncomputable def okS (ds : List D) : Bool := PyData.canLayAll0 ds && decide (PyData.depthAll ds ≤ 60)
theorem alikeB_of {ds : List D} (h : alikeB ds = true) : PySem.W.AlikeAll ds := by
  unfold alikeB at h
  rw [alikeA_eq, Bool.and_eq_true] at h
  unfold alike2 at h
  refine ⟨fun x hx y hy => List.all_eq_true.mp (List.all_eq_true.mp h.1 x hx) y hy, fun x hx e => ?_⟩
  have := List.all_eq_true.mp h.2 x hx
  subst e
  simp [isNone] at this
theorem okS_of {ds : List D} (h : okS ds = true) : PyData.canLayAll0 ds = true ∧ PyData.depthAll ds ≤ 60 := by
  unfold okS at h
  rw [Bool.and_eq_true, decide_eq_true_eq] at h
  exact h
noncomputable def minL : List D → Option D
  | [] => none
  | x :: xs => if okS (x :: xs) = true ∧ alikeB (x :: xs) = true then some (PySem.W.minD x xs) else none
noncomputable def maxL : List D → Option D
  | [] => none
  | x :: xs => if okS (x :: xs) = true ∧ alikeB (x :: xs) = true then some (PySem.W.maxD x xs) else none
noncomputable def rMM (K : PySem.W.Frag) (g : D → List D → D) : List V → Hp → VK → Prop := fun xs H Q => ∃ a vs d ds F, xs = [.ref a] ∧ SqL K H a vs ∧ Le F H ∧ RpA K F vs (d :: ds) ∧ okS (d :: ds) = true ∧ alikeB (d :: ds) = true ∧ ∀ v, Rp K F v (g d ds) → Q v H
theorem canLay_mem : ∀ {ds : List D} {d : D}, PyData.canLayAll0 ds = true → d ∈ ds → d.canLay0 = true
  | [], _, _, h => by simp at h
  | x :: xs, d, c, h => by
    have c : x.canLay0 = true ∧ PyData.canLayAll0 xs = true := by simpa [PyData.canLayAll0] using c
    rcases List.mem_cons.mp h with rfl | h
    · exact c.1
    · exact canLay_mem c.2 h
theorem mm_pick {X : Cx} {pins : List (Addr × Obj)} {σ : St} {H F : Hp} {s : Shared} {vs : List V} {its : List Value} {ds : List D} {h' : Heap} {bs : List Addr} {d : D} {i : Nat} {v : Value} (I : Inv X pins σ H s) (le : Le F H) (hd : RpA X.K F vs ds) (c : PyData.canLayAll0 ds = true)
    (rv : Vals vs its) (e : its[i]? = some v) (r : Reads h' v d bs) (k : ∀ b o, s.heap.get? b = some o → h'.get? b = some o) : ∃ x, Rp X.K F x d ∧ RelV x v := by
  obtain ⟨x, ex, rx⟩ : ∃ x, vs[i]? = some x ∧ RelV x v := by
    have : ∀ {vs : List V} {its : List Value} {i : Nat} {v : Value}, Vals vs its → its[i]? = some v → ∃ x, vs[i]? = some x ∧ RelV x v := by
      intro vs its i v rv e
      induction rv generalizing i with
      | nil => simp at e
      | cons r1 r2 ih =>
        cases i with
        | zero => simp at e; subst e; exact ⟨_, rfl, r1⟩
        | succ i => simpa using ih (by simpa using e)
    exact this rv e
  obtain ⟨y, ey, ry⟩ := hd.get ex
  have cy : y.canLay0 = true := canLay_mem c (List.mem_of_getElem? ey)
  obtain ⟨as, r2⟩ := Dp.reads I y x v ((ry.mono le).dp y cy) rx
  have e2 := PySem.SeqAt.Reads.unique y d v as bs cy (PyProof.Rows.Reads.keeps k r2) r
  subst e2
  exact ⟨x, ry, rx⟩
theorem call_minA {X : Cx} (hc : X.calm = true) (hu : X.A.units + 65 < cLine) : CallR X (.builtin "min") (rMM X.K PySem.W.minD) := by
  intro pins s σ H xs us Q I r q
  obtain ⟨a, vs, d, ds, F, rfl, hs, le, hd, hk, ha, q⟩ := q
  obtain ⟨u, rfl, ru⟩ := vals1 r
  cases ru
  obtain ⟨its, rv, ht, _⟩ := I.list hs
  obtain ⟨c1, c2⟩ := okS_of hk
  obtain ⟨as, hr⟩ := Dp.readsAll I _ vs its (RpA.dp _ c1 (hd.mono le)) rv
  refine PySem.W.min_list_data (I.ok.hd hc) ht.isList (by simpa using hr) (alikeB_of ha) (by omega) fun i v h' tk bs e r k => ?_
  obtain ⟨x, rx, rl⟩ := mm_pick I le hd c1 rv (by simpa using e) r k
  exact ⟨x, H, I.kept (t' := tk) k, rl, q x rx⟩
theorem call_maxA {X : Cx} (hc : X.calm = true) (hu : X.A.units + 65 < cLine) : CallR X (.builtin "max") (rMM X.K PySem.W.maxD) := by
  intro pins s σ H xs us Q I r q
  obtain ⟨a, vs, d, ds, F, rfl, hs, le, hd, hk, ha, q⟩ := q
  obtain ⟨u, rfl, ru⟩ := vals1 r
  cases ru
  obtain ⟨its, rv, ht, _⟩ := I.list hs
  obtain ⟨c1, c2⟩ := okS_of hk
  obtain ⟨as, hr⟩ := Dp.readsAll I _ vs its (RpA.dp _ c1 (hd.mono le)) rv
  refine PySem.W.max_list_data (I.ok.hd hc) ht.isList (by simpa using hr) (alikeB_of ha) (by omega) fun i v h' tk bs e r k => ?_
  obtain ⟨x, rx, rl⟩ := mm_pick I le hd c1 rv (by simpa using e) r k
  exact ⟨x, H, I.kept (t' := tk) k, rl, q x rx⟩
theorem s_minL {K : PySem.W.Frag} : LS K (rMM K PySem.W.minD) minL := by
  intro ds r h F H a vs Q le hs rv q
  cases ds with
  | nil => cases h
  | cons d ds =>
    have h : (if okS (d :: ds) = true ∧ alikeB (d :: ds) = true then some (PySem.W.minD d ds) else none) = some r := h
    split at h
    · rename_i hb
      have h := Option.some.inj h
      subst h
      exact ⟨a, vs, d, ds, F, rfl, hs, le, rv, hb.1, hb.2, fun v rv => q v F H (Ext.refl le) rv⟩
    · cases h
theorem s_maxL {K : PySem.W.Frag} : LS K (rMM K PySem.W.maxD) maxL := by
  intro ds r h F H a vs Q le hs rv q
  cases ds with
  | nil => cases h
  | cons d ds =>
    have h : (if okS (d :: ds) = true ∧ alikeB (d :: ds) = true then some (PySem.W.maxD d ds) else none) = some r := h
    split at h
    · rename_i hb
      have h := Option.some.inj h
      subst h
      exact ⟨a, vs, d, ds, F, rfl, hs, le, rv, hb.1, hb.2, fun v rv => q v F H (Ext.refl le) rv⟩
    · cases h
section
variable {X : Cx} {cl : String → Addr} {W : XK} {a : Expr} {p pos : Pos} {m : En → R (List D)} {k : Nat}
theorem pd_all (hc : X.calm = true) (hg : Gl X "all") (hm : X.mg "all" = none) (ha : PL X cl W a m) (hs : starEach [a] X.env = (false, eval a X.env) :: starEach [] X.env := by rfl) (hpl : (backTo pos (starEach [] X.env)).any (·.1) = false := by rfl) :
    PD X cl W (.Call (.Name "all" p) [a] [] pos) (un1 allL m) := pd_L1 (call_allA hc) s_all hg hm (by decide +kernel) ha (by decide) (by decide) hs hpl
theorem pd_any (hc : X.calm = true) (hg : Gl X "any") (hm : X.mg "any" = none) (ha : PL X cl W a m) (hs : starEach [a] X.env = (false, eval a X.env) :: starEach [] X.env := by rfl) (hpl : (backTo pos (starEach [] X.env)).any (·.1) = false := by rfl) :
    PD X cl W (.Call (.Name "any" p) [a] [] pos) (un1 anyL m) := pd_L1 (call_anyA hc) s_any hg hm (by decide +kernel) ha (by decide) (by decide) hs hpl
theorem pd_minl (r : Rm X k) (hc : X.calm = true) (hg : Gl X "min") (hm : X.mg "min" = none) (ha : PL X cl W a m) (hs : starEach [a] X.env = (false, eval a X.env) :: starEach [] X.env := by rfl) (hpl : (backTo pos (starEach [] X.env)).any (·.1) = false := by rfl) :
    PD X cl W (.Call (.Name "min" p) [a] [] pos) (un1 minL m) := pd_L1 (call_minA hc (hu_rm5 r)) s_minL hg hm (by decide +kernel) ha (by decide) (by decide) hs hpl
theorem pd_maxl (r : Rm X k) (hc : X.calm = true) (hg : Gl X "max") (hm : X.mg "max" = none) (ha : PL X cl W a m) (hs : starEach [a] X.env = (false, eval a X.env) :: starEach [] X.env := by rfl) (hpl : (backTo pos (starEach [] X.env)).any (·.1) = false := by rfl) :
    PD X cl W (.Call (.Name "max" p) [a] [] pos) (un1 maxL m) := pd_L1 (call_maxA hc (hu_rm5 r)) s_maxL hg hm (by decide +kernel) ha (by decide) (by decide) hs hpl
end
/-! ### built-ins of one list that give a new list -/
noncomputable def LF (K : PySem.W.Frag) (rd : List V → Hp → VK → Prop) (f : List D → Option (List D)) : Prop := ∀ ds r, f ds = some r → ∀ F H a vs Q, Le F H → SqL K H a vs → RpA K F vs ds → (∀ p ws, H p = none → RpA K F ws r → Q (.ref p) (upd H p (.lst ws))) → rd [.ref a] H Q
section
variable {X : Cx} {cl : String → Addr} {W : XK} {a : Expr} {p pos : Pos} {x : Str} {id : String} {rd : List V → Hp → VK → Prop} {f : List D → Option (List D)} {m : En → R (List D)}
theorem pf_L1 (hc : CallR X (.builtin id) rd) (hf : LF X.K rd f) (hg : Gl X x) (hm : X.mg x = none) (hv : bootBuiltins x = some (.builtin id)) (ha : PL X cl W a m)
    (hn : x ≠ "__name__" := by decide) (hd : (x == ("__debug__" : Str)) = false := by decide) (hs : starEach [a] X.env = (false, eval a X.env) :: starEach [] X.env := by rfl) (hpl : (backTo pos (starEach [] X.env)).any (·.1) = false := by rfl) :
    PF X cl W (.Call (.Name x p) [a] [] pos) (un1 f m) := by
  refine PE.imp (pe_callB hc hg hm hv (pa_one ha hs) hn hd hs hpl) fun σ H Q ⟨F0, H0, ρ, F, ok, h⟩ => ?_
  refine ⟨F0, H0, ρ, F, ok, (tR.bind anti_F h).imp fun v H1 ⟨F1, xs, e1, ⟨b, vs, hv, s1, r1⟩, h1⟩ => ?_⟩
  subst hv
  cases hr : f xs with
  | none => rw [hr] at h1; exact False.elim h1
  | some r =>
    rw [hr] at h1
    exact hf xs r hr F1 H1 b vs Q e1.sub s1 r1 fun p ws np rw => h1 _ _ _ (Ext.grow e1.sub (o := .lst ws) np) ⟨p, ws, rfl, np, e1.sub.none np, upd_same, rw⟩
theorem pf_T1 (hc : CallR X (.type id) rd) (hf : LF X.K rd f) (hg : Gl X x) (hm : X.mg x = none) (hv : bootBuiltins x = some (.type id)) (ha : PL X cl W a m)
    (hn : x ≠ "__name__" := by decide) (hd : (x == ("__debug__" : Str)) = false := by decide) (hs : starEach [a] X.env = (false, eval a X.env) :: starEach [] X.env := by rfl) (hpl : (backTo pos (starEach [] X.env)).any (·.1) = false := by rfl) :
    PF X cl W (.Call (.Name x p) [a] [] pos) (un1 f m) := by
  refine PE.imp (pe_callTy hc hg hm hv (pa_one ha hs) hn hd hs hpl) fun σ H Q ⟨F0, H0, ρ, F, ok, h⟩ => ?_
  refine ⟨F0, H0, ρ, F, ok, (tR.bind anti_F h).imp fun v H1 ⟨F1, xs, e1, ⟨b, vs, hv, s1, r1⟩, h1⟩ => ?_⟩
  subst hv
  cases hr : f xs with
  | none => rw [hr] at h1; exact False.elim h1
  | some r =>
    rw [hr] at h1
    exact hf xs r hr F1 H1 b vs Q e1.sub s1 r1 fun p ws np rw => h1 _ _ _ (Ext.grow e1.sub (o := .lst ws) np) ⟨p, ws, rfl, np, e1.sub.none np, upd_same, rw⟩
end
/-! sorted: by insertion -/
noncomputable def insD {α : Type} (le : α → α → Bool) (x : α) : List α → List α
  | [] => [x]
  | y :: ys => if le x y = true then x :: y :: ys else y :: insD le x ys
noncomputable def isort {α : Type} (le : α → α → Bool) : List α → List α
  | [] => []
  | x :: xs => insD le x (isort le xs)
section
variable {α : Type} {le : α → α → Bool}
theorem ins_mem {x : α} : ∀ {ys : List α} {z : α}, z ∈ insD le x ys ↔ z = x ∨ z ∈ ys
  | [], z => by simp [insD]
  | y :: ys, z => by
    unfold insD
    split
    · simp
    · rw [List.mem_cons, ins_mem, List.mem_cons]
      constructor
      · rintro (h | h | h)
        · exact .inr (.inl h)
        · exact .inl h
        · exact .inr (.inr h)
      · rintro (h | h | h)
        · exact .inr (.inl h)
        · exact .inl h
        · exact .inr (.inr h)
theorem ins_sorted (T : PySem.W.TotalLe le) {x : α} : ∀ {ys : List α}, ys.Pairwise (fun a b => le a b = true) → (insD le x ys).Pairwise (fun a b => le a b = true)
  | [], _ => by simp [insD]
  | y :: ys, h => by
    rw [List.pairwise_cons] at h
    unfold insD
    split
    · rename_i q
      rw [List.pairwise_cons]
      refine ⟨fun z hz => ?_, List.pairwise_cons.mpr h⟩
      rcases List.mem_cons.mp hz with rfl | hz
      · exact q
      · exact T.trans _ _ _ q (h.1 z hz)
    · rename_i q
      rw [List.pairwise_cons]
      refine ⟨fun z hz => ?_, ins_sorted T h.2⟩
      rcases ins_mem.mp hz with rfl | hz
      · exact (T.total z y).resolve_left q
      · exact h.1 z hz
theorem ins_rank (T : PySem.W.TotalLe le) {x c : α} : ∀ {ys : List α}, (insD le x ys).filter (PySem.W.sameRank le c) = (x :: ys).filter (PySem.W.sameRank le c)
  | [] => rfl
  | y :: ys => by
    unfold insD
    split
    · rfl
    · rename_i q
      have ih := ins_rank T (x := x) (c := c) (ys := ys)
      rw [List.filter_cons, ih]
      cases hx : PySem.W.sameRank le c x with
      | false => simp [List.filter_cons, hx]
      | true =>
        cases hy : PySem.W.sameRank le c y with
        | false => simp [List.filter_cons, hx, hy]
        | true =>
          unfold PySem.W.sameRank at hx hy
          rw [Bool.and_eq_true] at hx hy
          exact absurd (T.trans _ _ _ hx.2 hy.1) q
theorem isort_eq (T : PySem.W.TotalLe le) (l : List α) : isort le l = l.mergeSort le := by
  refine PySem.W.sort_unique T ?_ ?_
  · induction l with
    | nil => exact List.Pairwise.nil
    | cons x xs ih => exact ins_sorted T ih
  · intro c
    induction l with
    | nil => rfl
    | cons x xs ih =>
      show (insD le x (isort le xs)).filter _ = _
      rw [ins_rank T, List.filter_cons, List.filter_cons, ih]
end
/-! a longer list: by halves -/
noncomputable def mrg {α : Type} (le : α → α → Bool) : Nat → List α → List α → List α
  | 0, xs, ys => xs ++ ys
  | _ + 1, [], ys => ys
  | _ + 1, x :: xs, [] => x :: xs
  | n + 1, x :: xs, y :: ys => if le x y = true then x :: mrg le n xs (y :: ys) else y :: mrg le n (x :: xs) ys
noncomputable def msrt {α : Type} (le : α → α → Bool) : Nat → List α → List α
  | 0, l => isort le l
  | n + 1, l => if l.length ≤ 8 then isort le l else mrg le l.length (msrt le n (l.take (l.length / 2))) (msrt le n (l.drop (l.length / 2)))
noncomputable def sortF {α : Type} (le : α → α → Bool) (l : List α) : List α := msrt le 12 l
section
variable {α : Type} {le : α → α → Bool}
theorem mrg_mem : ∀ {n : Nat} {xs ys : List α} {z : α}, z ∈ mrg le n xs ys ↔ z ∈ xs ∨ z ∈ ys
  | 0, xs, ys, z => by simp [mrg]
  | _ + 1, [], ys, z => by simp [mrg]
  | _ + 1, x :: xs, [], z => by simp [mrg]
  | n + 1, x :: xs, y :: ys, z => by
    unfold mrg
    split
    · rw [List.mem_cons, mrg_mem]
      simp only [List.mem_cons]
      constructor
      · rintro (h | h | h | h) <;> simp [h]
      · rintro ((h | h) | h | h) <;> simp [h]
    · rw [List.mem_cons, mrg_mem]
      simp only [List.mem_cons]
      constructor
      · rintro (h | (h | h) | h) <;> simp [h]
      · rintro ((h | h) | h | h) <;> simp [h]
theorem mrg_sorted (T : PySem.W.TotalLe le) : ∀ {n : Nat} {xs ys : List α}, xs.length + ys.length ≤ n → xs.Pairwise (fun a b => le a b = true) → ys.Pairwise (fun a b => le a b = true) → (mrg le n xs ys).Pairwise (fun a b => le a b = true)
  | 0, xs, ys, hn, _, _ => by
    have e1 : xs = [] := List.eq_nil_of_length_eq_zero (by omega)
    have e2 : ys = [] := List.eq_nil_of_length_eq_zero (by omega)
    subst e1; subst e2
    exact List.Pairwise.nil
  | _ + 1, [], ys, _, _, h => h
  | _ + 1, x :: xs, [], _, h, _ => h
  | n + 1, x :: xs, y :: ys, hn, h1, h2 => by
    simp only [List.length_cons] at hn
    rw [List.pairwise_cons] at h1 h2
    unfold mrg
    split
    · rename_i q
      rw [List.pairwise_cons]
      refine ⟨fun z hz => ?_, mrg_sorted T (by simp only [List.length_cons]; omega) h1.2 (List.pairwise_cons.mpr h2)⟩
      rcases mrg_mem.mp hz with hz | hz
      · exact h1.1 z hz
      · rcases List.mem_cons.mp hz with rfl | hz
        · exact q
        · exact T.trans _ _ _ q (h2.1 z hz)
    · rename_i q
      have q' : le y x = true := (T.total y x).resolve_right q
      rw [List.pairwise_cons]
      refine ⟨fun z hz => ?_, mrg_sorted T (by simp only [List.length_cons]; omega) (List.pairwise_cons.mpr h1) h2.2⟩
      rcases mrg_mem.mp hz with hz | hz
      · rcases List.mem_cons.mp hz with rfl | hz
        · exact q'
        · exact T.trans _ _ _ q' (h1.1 z hz)
      · exact h2.1 z hz
theorem mrg_rank (T : PySem.W.TotalLe le) {c : α} : ∀ {n : Nat} {xs ys : List α}, xs.length + ys.length ≤ n → xs.Pairwise (fun a b => le a b = true) → (mrg le n xs ys).filter (PySem.W.sameRank le c) = (xs ++ ys).filter (PySem.W.sameRank le c)
  | 0, xs, ys, _, _ => rfl
  | _ + 1, [], ys, _, _ => rfl
  | _ + 1, x :: xs, [], _, _ => by unfold mrg; rw [List.append_nil]
  | n + 1, x :: xs, y :: ys, hn, h1 => by
    simp only [List.length_cons] at hn
    unfold mrg
    split
    · rw [List.pairwise_cons] at h1
      rw [List.cons_append, List.filter_cons, List.filter_cons, mrg_rank T (by simp only [List.length_cons]; omega) h1.2]
    · rename_i q
      rw [List.filter_cons, mrg_rank T (by simp only [List.length_cons]; omega) h1, List.filter_append, List.filter_append, List.filter_cons (x := y)]
      cases hy : PySem.W.sameRank le c y with
      | false => rfl
      | true =>
        have none_ : (x :: xs).filter (PySem.W.sameRank le c) = [] := by
          rw [List.filter_eq_nil_iff]
          intro z hz hzr
          unfold PySem.W.sameRank at hy hzr
          rw [Bool.and_eq_true] at hy hzr
          have hxz : le x z = true := by
            rw [List.pairwise_cons] at h1
            rcases List.mem_cons.mp hz with rfl | hz
            · rcases T.total z z with h | h <;> exact h
            · exact h1.1 z hz
          exact q (T.trans _ _ _ hxz (T.trans _ _ _ hzr.2 hy.1))
        rw [none_]
        rfl
theorem isort_sorted (T : PySem.W.TotalLe le) : ∀ l : List α, (isort le l).Pairwise (fun a b => le a b = true)
  | [] => List.Pairwise.nil
  | x :: xs => ins_sorted T (isort_sorted T xs)
theorem isort_rank (T : PySem.W.TotalLe le) {c : α} : ∀ l : List α, (isort le l).filter (PySem.W.sameRank le c) = l.filter (PySem.W.sameRank le c)
  | [] => rfl
  | x :: xs => by
    show (insD le x (isort le xs)).filter _ = _
    rw [ins_rank T, List.filter_cons, List.filter_cons, isort_rank T xs]
theorem isort_len (T : PySem.W.TotalLe le) (l : List α) : (isort le l).length = l.length := by rw [isort_eq T]; exact List.length_mergeSort ..
theorem mrg_len : ∀ {n : Nat} {xs ys : List α}, (mrg le n xs ys).length = xs.length + ys.length
  | 0, xs, ys => by simp [mrg]
  | _ + 1, [], ys => by simp [mrg]
  | _ + 1, x :: xs, [] => by simp [mrg]
  | n + 1, x :: xs, y :: ys => by
    unfold mrg
    split <;> rw [List.length_cons, mrg_len] <;> simp only [List.length_cons] <;> omega
theorem msrt_all (T : PySem.W.TotalLe le) : ∀ (n : Nat) (l : List α), (msrt le n l).Pairwise (fun a b => le a b = true) ∧ (msrt le n l).length = l.length ∧ ∀ c, (msrt le n l).filter (PySem.W.sameRank le c) = l.filter (PySem.W.sameRank le c)
  | 0, l => ⟨isort_sorted T l, isort_len T l, fun c => isort_rank T l⟩
  | n + 1, l => by
    unfold msrt
    split
    · exact ⟨isort_sorted T l, isort_len T l, fun c => isort_rank T l⟩
    · obtain ⟨a1, a2, a3⟩ := msrt_all T n (l.take (l.length / 2))
      obtain ⟨b1, b2, b3⟩ := msrt_all T n (l.drop (l.length / 2))
      have hl : (msrt le n (l.take (l.length / 2))).length + (msrt le n (l.drop (l.length / 2))).length = l.length := by
        rw [a2, b2, List.length_take, List.length_drop]
        omega
      refine ⟨mrg_sorted T (by omega) a1 b1, by rw [mrg_len]; exact hl, fun c => ?_⟩
      rw [mrg_rank T (by omega) a1, List.filter_append, a3, b3, ← List.filter_append, List.take_append_drop]
theorem sortF_eq (T : PySem.W.TotalLe le) (l : List α) : sortF le l = isort le l := by
  obtain ⟨a, _, c⟩ := msrt_all T 12 l
  rw [isort_eq T]
  exact PySem.W.sort_unique T a c
end
noncomputable def leD (x y : D) : Bool := !PySem.W.dataLt y x
noncomputable def sortB (ds : List D) : Bool := (ds.all fun d => match d with | .tuple (_ :: _) => true | _ => false) || ds.all fun d => match d with | .none => false | .tuple _ => false | _ => true
noncomputable def sortL (ds : List D) : Option (List D) := if okS ds = true ∧ alikeA ds = true ∧ sortB ds = true ∧ ds.length ≤ sizeLine then some (sortF leD ds) else none
theorem sortB_of {ds : List D} (h : sortB ds = true) : PySem.W.Sortable ds := by
  unfold sortB at h
  rw [Bool.or_eq_true] at h
  rcases h with h | h
  · left
    intro d hd
    have := List.all_eq_true.mp h d hd
    cases d with
    | tuple xs =>
      cases xs with
      | nil => simp at this
      | cons x r => exact ⟨x, r, rfl⟩
    | _ => simp at this
  · right
    intro d hd
    have := List.all_eq_true.mp h d hd
    cases d <;> simp at this ⊢
theorem leD_total : PySem.W.TotalLe leD := PySem.W.sortLe_total (PyProof.Rows.listOrd PyProof.Rows.itemOrd) false fun d : D => PySem.W.keyToks d
theorem depth_mem : ∀ {ds : List D} {d : D}, d ∈ ds → d.depth ≤ PyData.depthAll ds
  | [], _, h => by simp at h
  | x :: xs, d, h => by
    rw [PyData.depthAll]
    rcases List.mem_cons.mp h with rfl | h
    · exact Nat.le_max_left ..
    · exact Nat.le_trans (depth_mem h) (Nat.le_max_right ..)
noncomputable def rSo (K : PySem.W.Frag) : List V → Hp → VK → Prop := fun xs H Q => ∃ a vs ds F, xs = [.ref a] ∧ SqL K H a vs ∧ Le F H ∧ RpA K F vs ds ∧ okS ds = true ∧ alikeA ds = true ∧ sortB ds = true ∧ ds.length ≤ sizeLine ∧ ∀ p ws, H p = none → RpA K F ws (isort leD ds) → Q (.ref p) (upd H p (.lst ws))
theorem each_of {K : PySem.W.Frag} {F : Hp} : ∀ {vs : List V} {us : List Value} {ds : List D}, RpA K F vs ds → Vals vs us → PySem.W.EachIs (fun u d => ∃ v, RelV v u ∧ Rp K F v d) us ds
  | _, _, _, .nil, .nil => .nil
  | _, _, _, .cons h r, .cons h' r' => .cons ⟨_, h', h⟩ (each_of r r')
theorem of_each {K : PySem.W.Frag} {F : Hp} : ∀ {us : List Value} {ds : List D}, PySem.W.EachIs (fun u d => ∃ v, RelV v u ∧ Rp K F v d) us ds → ∃ vs, RpA K F vs ds ∧ Vals vs us
  | _, _, .nil => ⟨[], .nil, .nil⟩
  | _, _, .cons ⟨v, h1, h2⟩ r => by
    obtain ⟨vs, a, b⟩ := of_each r
    exact ⟨v :: vs, .cons h2 a, .cons h1 b⟩
theorem each_reads {X : Cx} {pins : List (Addr × Obj)} {σ : St} {H F : Hp} {s : Shared} (I : Inv X pins σ H s) (le : Le F H) : ∀ {vs : List V} {us : List Value} {ds : List D}, RpA X.K F vs ds → Vals vs us → PyData.canLayAll0 ds = true → PySem.W.EachIs (fun u d => ∃ as, Reads s.heap u d as) us ds
  | _, _, _, .nil, .nil, _ => .nil
  | _, _, _, @RpA.cons _ _ v _ d ds h r, .cons h' r', c => by
    have c : d.canLay0 = true ∧ PyData.canLayAll0 ds = true := by simpa [PyData.canLayAll0] using c
    exact .cons (Dp.reads I d v _ ((h.mono le).dp d c.1) h') (each_reads I le r r' c.2)
theorem call_sortA {X : Cx} (hu : X.A.units + 65 < cLine) : CallR X (.builtin "sorted") (rSo X.K) := by
  intro pins s σ H xs us Q I r q
  obtain ⟨a, vs, ds, F, rfl, hs, le, hd, hk, ha, hb, hz, q⟩ := q
  obtain ⟨u, rfl, ru⟩ := vals1 r
  cases ru
  obtain ⟨its, rv, ht, _⟩ := I.list hs
  obtain ⟨c1, c2⟩ := okS_of hk
  have e1 := each_of hd rv
  have e2 := each_reads I le hd rv c1
  refine PySem.W.sorted_data (enc := fun d : D => d) (bs := ds) ht.isList e1 e2 (by rw [List.map_id']; exact fun x hx y hy => List.all_eq_true.mp (List.all_eq_true.mp ((alikeA_eq _).symm.trans ha) x hx) y hy) (by rw [List.map_id']; exact sortB_of hb) hz
    (fun d hd => by have := depth_mem hd; omega) fun out ho eo => ?_
  have em : ds.mergeSort (PySem.W.dataLe false fun d : D => d) = isort leD ds := (isort_eq leD_total ds).symm
  rw [em] at eo
  obtain ⟨ws, w1, w2⟩ := of_each eo
  obtain ⟨c, hc⟩ := sortedAll_at s.heap its out.toArray
  refine ⟨.ref (s.heap.objs.size + 1), _, I.laid (t' := s.toks) (fun b o e => sortedAll_old e) (Nat.le_succ _) (show ObjOk X.prog X.w _ _ _ (.lst ws) from ⟨?_, out, c, w2, hc⟩), rfl, q _ ws (I.hok.fresh (Nat.le_succ _)) w1⟩
  have := w1.length
  have h2 : (isort leD ds).length = ds.length := by rw [isort_eq leD_total]; exact List.length_mergeSort ..
  omega
theorem sortL_old (ds : List D) : sortL ds = if okS ds = true ∧ alikeA ds = true ∧ sortB ds = true ∧ ds.length ≤ sizeLine then some (isort leD ds) else none := by
  unfold sortL
  rw [sortF_eq leD_total]
theorem s_sortL {K : PySem.W.Frag} : LF K (rSo K) sortL := by
  intro ds r h F H a vs Q le hs rv q
  rw [sortL_old] at h
  split at h
  · rename_i hb
    have h := Option.some.inj h
    subst h
    exact ⟨a, vs, ds, F, rfl, hs, le, rv, hb.1, hb.2.1, hb.2.2.1, hb.2.2.2, q⟩
  · cases h
/-! list, tuple of a list -/
noncomputable def rLi (K : PySem.W.Frag) : List V → Hp → VK → Prop := fun xs H Q => ∃ p ys, xs = [.ref p] ∧ (SqL K H p ys ∨ SqT K H p ys) ∧ ∀ l, H l = none → Q (.ref l) (upd H l (.lst ys))
theorem s_listL {K : PySem.W.Frag} : LF K (rLi K) some := by
  intro ds r h F H a vs Q le hs rv q
  have h := Option.some.inj h
  subst h
  exact ⟨a, vs, rfl, .inl hs, fun l nl => q l vs nl rv⟩
section
variable {X : Cx} {cl : String → Addr} {W : XK} {a : Expr} {p pos : Pos} {m : En → R (List D)} {k : Nat}
theorem pf_sorted (r : Rm X k) (hg : Gl X "sorted") (hm : X.mg "sorted" = none) (ha : PL X cl W a m) (hs : starEach [a] X.env = (false, eval a X.env) :: starEach [] X.env := by rfl) (hpl : (backTo pos (starEach [] X.env)).any (·.1) = false := by rfl) :
    PF X cl W (.Call (.Name "sorted" p) [a] [] pos) (un1 sortL m) := pf_L1 (call_sortA (hu_rm5 r)) s_sortL hg hm (by decide +kernel) ha (by decide) (by decide) hs hpl
theorem pf_list (hg : Gl X "list") (hm : X.mg "list" = none) (ha : PL X cl W a m) (hs : starEach [a] X.env = (false, eval a X.env) :: starEach [] X.env := by rfl) (hpl : (backTo pos (starEach [] X.env)).any (·.1) = false := by rfl) :
    PF X cl W (.Call (.Name "list" p) [a] [] pos) (un1 some m) := pf_T1 call_list_of s_listL hg hm (by decide +kernel) ha (by decide) (by decide) hs hpl
end
end Mir
namespace Mir
open PySem PySem.Spec PyProof.Rows L2
/-! ### errors of the program: one base over ValueError, its __init__ by super() -/
/-- what the written part says of the base class D, of its __init__ at fI -/
structure IniK (P : Program) (K : PySem.W.Frag) (mg : Str → Option Value) (D fI cc : Addr) (F : NdefX.NF) (doc pm ct : Value) : Prop where
  cl : F.cl = [(("__class__" : Str), cc)]
  lk : ∃ oc od osl, K.lookup fI = some ⟨oc, od, .func (F.fd doc pm ct), osl⟩
  cd : PySem.W.codeIn K (.ref F.c) F.qual = true
  cod : ∃ ccl cdd vs ccs file tf, K.lookup F.c = some ⟨ccl, cdd, .fields vs, ccs⟩ ∧ vs[2]? = some (.str file tf) ∧ ((P.main.file : Str) == file) = true
  cell : ∃ cl cld csl, K.lookup cc = some ⟨cl, cld, .cell (some (.ref D)), csl⟩
  cls : ∃ cdD, PySem.W.clsIn K D = some cdD
  opq : PySem.W.nsIn K cStatics "thirdparty.any" = some none
  sup : mg "super" = none
  top : (P.main.scope.names.lookup ("super" : Str)).isSome = false
/-- what it says of a class C below it -/
structure ErrC (K : PySem.W.Frag) (D C : Addr) : Prop where
  oex : OexC K C
  mro : PySem.W.mroIn K C (.ref D) = some true
  sub : PySem.W.subIn K (.ref C) (.type "ValueError") = some true
  ini : PySem.W.ks_superIn K C D "__init__" = some (some (.builtin "ValueError.__init__"))
  noat : PySem.W.findIn K (.ref C) "at" = some none
noncomputable def spIni (K : PySem.W.Frag) (D : Addr) : Sp := fun vs H Q E => ∃ a C y, vs = [.ref a, y] ∧ ErrC K D C ∧ H a = some (exo a C none) ∧ ∀ dx, H dx = none → dx ≠ a → Q .non (upd (upd H dx (exd dx [(("at" : Str), y)])) a (exo a C (some dx)))
/-- its text -/
noncomputable def iniBody (p0 p1 p2 p3 p4 p5 p6 p7 p8 p9 : Pos) : List Stmt :=
  [.Expr (.Call (.Attribute (.Call (.Name "super" p0) [] [] p1) "__init__" p2) [.Name "at" p3] [] p4) p5, .Assign [.Attribute (.Name "self" p6) "at" p7] (.Name "at" p8) p9]
abbrev iniN : List Str := ["self", "at", "__class__"]
abbrev iniP : List Str := ["self", "at"]
theorem ini_ok {CX : CXT} {P : Program} {w : World} {K : PySem.W.Frag} {mg : Str → Option Value} {base : Heap} {k : Nat} {D fI cc : Addr} {F : NdefX.NF} {doc pm ct : Value} {p0 p1 p2 p3 p4 p5 p6 p7 p8 p9 : Pos} {ar : Arg} {ars : List Arg}
    (k1 : IniK P K mg D fI cc F doc pm ct) (hbody : F.body = iniBody p0 p1 p2 p3 p4 p5 p6 p7 p8 p9) (hpar : F.params.posonlyargs ++ F.params.args = ar :: ars) (har : ar.arg = "self") (S : NdefX.NScope iniN iniP ["__class__"] F.scope)
    (hks : F.scope.names.lookup ("super" : Str) = some .globalImplicit) (hint : ∀ f L, interactive (NdefX.envF F f L) = false)
    (hsw : ∀ f L, swapsWith (.Call (.Attribute (.Call (.Name "super" p0) [] [] p1) "__init__" p2) [.Name "at" p3] [] p4) none p5.line (NdefX.envF F f L) = pure false)
    (hev : ∀ f L, ∃ pl, eval (.Call (.Attribute (.Call (.Name "super" p0) [] [] p1) "__init__" p2) [.Name "at" p3] [] p4) (NdefX.envF F f L) = (do
      let ov ← attributeBase (.Call (.Name "super" p0) [] [] p1) "__init__" (NdefX.envF F f L) (eval (.Call (.Name "super" p0) [] [] p1) (NdefX.envF F f L))
      standAt p2.atName
      let (fn, first) ← holding [ov] (getMethod ov "__init__" pl)
      callWith p4 fn first (backTo p4 (starEach [.Name "at" p3] (NdefX.envF F f L))) [])) :
    FnOk P w K mg base CX k fI (F.fd doc pm ct) iniP (spIni K D) := by
  refine ⟨fun vs H Q E ⟨a, C, y, e, _⟩ => by subst e; rfl, fun A outer s H args us vs Q E hr e0 hbind r hsp => ?_⟩
  obtain ⟨a, C, y, rfl, T, ea, q⟩ := hsp
  obtain ⟨oc, od, osl, hlk⟩ := k1.lk
  obtain ⟨ccl, cdd, cvs, ccs, file, tf, hcod, hvs, hfile⟩ := k1.cod
  obtain ⟨cl, cld, csl, hcell⟩ := k1.cell
  obtain ⟨cdD, hD⟩ := k1.cls
  obtain ⟨u1, u2, rfl, r1, r2⟩ := vals2 r
  obtain rfl : u1 = Value.ref a := r1
  have X0 : K.In s.heap := e0.mod.kin.keeps fun b o e => (e0.bs b o e).1
  have lim : s.heap.NoLimit := e0.mod.nolimit.keeps fun b o e => (e0.bs b o e).1
  have hHcc : H cc = none := (e0.bs cc _ (e0.mod.kin _ _ hcell)).2
  have CA : NdefX.CellsAt F.cl ["__class__"] [some (V.ref D)] s.heap H := by
    have look : ∀ y c, F.cl.lookup y = some c → y = ("__class__" : Str) ∧ c = cc := by
      intro y c h
      rw [k1.cl] at h
      by_cases z : y = ("__class__" : Str)
      · subst z
        refine ⟨rfl, ?_⟩
        simpa using h.symm
      · have e : (y == ("__class__" : Str)) = false := by simpa using z
        simp [List.lookup, e] at h
    refine ⟨rfl, fun y c h => ?_, fun x y c h1 h2 => (look x c h1).1.trans (look y c h2).1.symm, fun i y h => ?_⟩
    · obtain ⟨rfl, rfl⟩ := look y c h
      exact ⟨hHcc, _, ⟨_, X0 _ _ hcell, rfl⟩⟩
    · match i, h with
      | 0, h =>
        have h := Option.some.inj h
        subst h
        refine ⟨cc, by rw [k1.cl]; rfl, fun v hv => ?_⟩
        have hv := Option.some.inj (Option.some.inj hv)
        subst hv
        exact ⟨.ref D, rfl, ⟨_, X0 _ _ hcell, rfl⟩⟩
      | i + 1, h => simp at h
  have hnocell : ∀ x ∈ F.scope.names, x.2 ≠ .cell := S.nocell
  refine PySem.ks_codeAny_call_defAt (fd := F.fd doc pm ct) (body := F.body) (binds := iniP.zip [Value.ref a, u2]) hr.depth (X0 _ _ hlk) rfl lim (PySem.W.codeRec_of X0 k1.cd) rfl hbind hnocell (fun x hx => ?_) (fun h₁ hns kp => ?_) S.co S.gen S.kind
  · have hx : x = (("self" : Str), Value.ref a) ∨ x = (("at" : Str), u2) := by simpa using hx
    rcases hx with rfl | rfl
    · exact S.par _ (by simp)
    · exact S.par _ (by simp)
  have I : Inv (NdefX.ncx CX P w K mg base iniN F fI A outer s H E) [] (NdefX.startF iniN [V.ref a, y] [some (V.ref D)]) H { s with heap := h₁, toks := s.toks + (iniP.zip [Value.ref a, u2]).length } :=
    NdefX.inv_startN (ps := iniP) S hr.hd e0 rfl (.cons rfl (.cons r2 .nil)) CA hns kp
  show _root_.PySem.wpAt (model P w) (A.deeper (NdefX.envF F fI s.heap.objs.size)) (.func F.body (NdefX.envF F fI s.heap.objs.size)) (execs F.body (NdefX.envF F fI s.heap.objs.size)) _ _ _
  rw [hbody]
  unfold iniBody
  have X1 : K.In h₁ := X0.keeps kp
  obtain ⟨oD, hD1, hD2⟩ : ∃ oD, h₁.get? D = some oD ∧ oD.data = .cls cdD := by
    unfold PySem.W.clsIn at hD
    split at hD
    · rename_i c d cd' sl ho
      cases hD
      exact ⟨_, X1 _ _ ho, rfl⟩
    · cases hD
  obtain ⟨t1, hx⟩ := exo_at I.hok ea
  have hx : h₁.get? a = some ({ cls := .ref C, dict := none, data := .fields #[.ref t1, .none, .none, .none, .bool false, .none] } : Obj) := hx
  obtain ⟨cdC, hC⟩ : ∃ cd, PySem.W.clsIn K C = some cd := by
    have := T.ini
    unfold PySem.W.ks_superIn at this
    cases z : PySem.W.clsIn K C with
    | none => rw [z] at this; cases this
    | some cd => exact ⟨cd, rfl⟩
  have hini : PySem.W.alongIn K "__init__" ((cdC.mro.dropWhile (· != .ref D)).drop 1) = some (some (.builtin "ValueError.__init__")) := by
    have := T.ini
    unfold PySem.W.ks_superIn at this
    rw [hC] at this
    exact this
  have hkc : F.scope.names.lookup ("__class__" : Str) = some .free := S.frk _ (by simp)
  have hself : F.scope.names.lookup ("self" : Str) = some .local := S.par _ (by simp)
  have hat_ : F.scope.names.lookup ("at" : Str) = some .local := S.par _ (by simp)
  obtain ⟨mb, hb1, hb2⟩ := I.mod.blt
  obtain ⟨pl, he⟩ := hev fI s.heap.objs.size
  refine PySem.ks_wpAt_execs_cons (PySem.ks_wpAt_Expr_any (PySem.ks_wpAt_MethodCall (PySem.ks_wpAt_super_base (ar := ar) (env := NdefX.envF F fI s.heap.objs.size) hks hkc (by decide) rfl (kp _ _ (X0 _ _ hlk)) rfl (by show (F.params.posonlyargs ++ F.params.args).head? = some ar; rw [hpar]; rfl) rfl (kp _ _ (X0 _ _ hcod)) rfl hvs hfile k1.top ?_) he) (hint _ _) (hsw _ _))
  refine PySem.W.ks_loadName_global S.kind hks (PySem.Calls.loadGlobal_builtin (mb := mb) (show h₁.Ns mainGlobals mg from I.mod.glob.keeps I.bk) k1.sup (show h₁.Ns builtinsNs mb from hb1.keeps I.bk) ((hb2 _ (by decide)).trans (by decide +kernel)) ⟨rfl, ?_⟩)
  refine wpAny_loadName_free S.kind hkc (show F.cl.lookup (("__class__" : Str)) = some cc by rw [k1.cl]; rfl) ⟨_, X1 _ _ hcell, rfl⟩ ?_
  rw [har]
  refine wpAny_loadName_local S.kind hself hns rfl ?_
  refine PySem.ks_wpAny_isType_cls hD1 hD2 ⟨rfl, ?_⟩
  refine PySem.ks_wpAny_call_super hD1 hD2 hx rfl (fun c => by simp) (PySem.W.looks_mroIn X1 T.mro) (fun h2 e2 kp2 => ?_)
  have X2 : K.In h2 := X1.keeps kp2
  have hx2 := kp2 _ _ hx
  have IA : PySem.W.InstAt h2 a ({ cls := .ref C, dict := none, data := .fields #[.ref t1, .none, .none, .none, .bool false, .none] } : Obj) C none := ⟨hx2, rfl, rfl, trivial⟩
  refine PySem.W.kxs_getMethod PySem.W.kxs_ValueError e2 (PySem.W.looks_opaque X2 k1.opq) (l₀ := cdC.mro) (fun A Q E s k q => wpAny_bind ((PySem.W.looks_clsIn X2 hC) A _ E s k (wpAny_pure q))) rfl X2 hini (IA.type.andThen (PySem.W.looks_subIn X2 T.sub)) (PySem.W.ks_ne X2 IA hC) (by decide) ?_
  refine PySem.W.kxs_callWith (i := "ValueError.__init__") (x := a) (by rfl) (PySem.Calls.evalArgs_plain (PySem.Calls.spliced_cons (PySem.ESX.ldL (m := fun y => (iniP.zip [Value.ref a, u2]).reverse.lookup y) (v := u2) ?_ rfl (PySem.Calls.spliced_nil ⟨?_, ?_⟩) S.kind hat_)))
  · exact hns.keeps fun b o e => Heap.get?_push_of_some _ (kp2 _ _ e)
  · exact Heap.get?_push_size _ rfl
  have hx3 : (h2.push (PySem.W.kxs_mw "ValueError.__init__" a)).get? a = some ({ cls := .ref C, dict := none, data := .fields #[.ref t1, .none, .none, .none, .bool false, .none] } : Obj) := Heap.get?_push_of_some _ hx2
  have kp3 : ∀ b o, h₁.get? b = some o → (h2.push (PySem.W.kxs_mw "ValueError.__init__" a)).get? b = some o := fun b o e => Heap.get?_push_of_some _ (kp2 _ _ e)
  obtain ⟨nm, q0, N, bs, bm, sn, sub, ab, col, dd, j0, j1, j2, j3, j5, hCo, hbm⟩ := T.oex.cls
  have hC3 := kp3 _ _ (X1 _ _ hCo)
  refine wpAny_call (codeAny_of_tree ?_)
  show wpAny _ _ (callAny (.ref h2.objs.size) ⟨[u2], []⟩) _ _ _
  simp only [callAny]
  refine wpAny_bind (wpAny_load (Heap.get?_push_size _ rfl) ?_)
  simp only [PySem.W.kxs_mw, show (Value.type "method-wrapper" == Value.type "method" || Value.type "method-wrapper" == Value.type "builtin_function_or_method" || Value.type "method-wrapper" == Value.type "method-wrapper") = true by decide, if_true]
  refine PySem.W.KFB.if_so (by decide) ?_
  refine wpAny_bind (PySem.W.check_bound_init PySem.F.excBase_ValueError.toExcCallFacts hC3 hx3 rfl ?_)
  refine wpAny_bind (wpAny_pure (wpAny_pure ?_))
  refine ⟨plainId_quiet PySem.F.excBase_ValueError.init.plain _, codeAny_builtin PySem.F.excBase_ValueError.initEntry ?_⟩
  refine PySem.W.exc_init_tree (cls := .ref C) (t0 := t1) (dv := none) (c2 := .none) (c3 := .none) (b4 := .bool false) hx3 (by simp [sizeLine]) (fun h4 k4 e4 _ => ?_)
  have eu : upd H a (exo a C none) = H := by
    funext b
    by_cases hb : b = a
    · rw [hb, upd_same, ea]
    · rw [upd_ne hb]
  have J0 := (I.kept (t' := s.toks + (iniP.zip [Value.ref a, u2]).length + 1) kp3).write (t' := s.toks + (iniP.zip [Value.ref a, u2]).length + 1) (x := a) (e := a) (o := exo a C none) (by rw [ea]; exact True.intro) (.inl rfl) k4 ⟨_, e4⟩ (exo_ok e4)
  rw [eu] at J0
  have ht : PSs (NdefX.ncx CX P w K mg base iniN F fI A outer s H E) [.Assign [.Attribute (.Name "self" p6) "at" p7] (.Name "at" p8) p9] (tOst K "at" (tVar 0) (tVar 1)) := pss_one (ps_ost (pv 0 rfl (.inl hself)) (pv 1 rfl (.inl hat_)))
  refine wpAt_of_wpAny (wpAny_mono (ht.run [] _ (NdefX.startF iniN [V.ref a, y] [some (V.ref D)]) H { nx := fun _ H' => Q .non H', rt := Q } J0 ?_) (fun fl s' hs => ?_) fun e s' hs => hs)
  · refine ⟨y, rfl, V.ref a, rfl, a, C, rfl, T.oex, T.noat, .inl ⟨ea, fun dx n ne => q dx n ne⟩⟩
  · have fin : ∀ {σ' : L2.St} {H' : Hp} {v : V} {u : Value}, Inv (NdefX.ncx CX P w K mg base iniN F fI A outer s H E) [] σ' H' s' → L2.RelV v u → Q v H' → CE outer P w H s Q u s' :=
      fun {σ' H' v u} J rv q => ⟨v, H', J.os, J.bare, J.base, J.hok, rv, q⟩
    cases fl with
    | ret u =>
      obtain ⟨v, σ', H', J, rv, q⟩ := hs
      exact fin J rv q
    | next =>
      obtain ⟨σ', H', J, q⟩ := hs
      exact fin (v := V.non) (u := Value.none) J rfl q
    | brk =>
      obtain ⟨_, _, _, q⟩ := hs
      exact False.elim q
    | cont =>
      obtain ⟨_, _, _, q⟩ := hs
      exact False.elim q
end Mir
namespace Mir
open PySem PySem.Spec PyProof.Rows L2
/-- the end of C(e): as the library's, its context told -/
theorem mk_endN {X : Cx} {pins : List (Addr × Obj)} {σ : St} {H1 H2 : Hp} {Q : XK} {hp hp2 h2 : Heap} {g1 g2 : Array GenState} {d1 d2 : Drawn} {t1 t2 : Nat} {os1 os2 : OsState} {a C d : Addr} {fs : List (Str × V)} (T : Raises X (.ref C)) (I1 : Inv X pins σ H1 ⟨hp, g1, d1, t1, os1⟩)
    (ha : hp.objs.size ≤ a) (k : ∀ b o, hp.get? b = some o → hp2.get? b = some o) (un : Un (frs X.stack) [] (upd H1 a (exo a C none)) H2 hp2 h2) (hok : HOk X.prog X.w H2 h2) (ho : os2 = os1) (hb : AllBare g2)
    (ea : H2 a = some (exo a C (some d))) (ed : H2 d = some (exd d fs)) (hd1 : H1 d = none) (q : Q (.ref C) (some d) (upd (del H2 a) d (.xd fs))) : L2N.MkP X pins σ Q (.ref a) ⟨h2, g2, d2, t2, os2⟩ := by
  obtain ⟨t0, G, J, kG, ge, hoe, na⟩ := mk_end0 (d2 := d2) (t2 := t2) I1 ha k un hok ho hb ea ed hd1
  exact ⟨a, _, _, ⟨G, g2, d2, t2, os2⟩, _, .ref C, some d, rfl, J, kG, ge, hoe, ⟨rfl, rfl, fun vs e => by cases e; rfl⟩, rfl, rfl, na, rfl, hb, T, q⟩
theorem pmk_err {X : Cx} {e : Expr} {es : List Expr} {ta : TA} {x : Str} {C fI : Addr} {k : Nat} {fd : FuncData} {ps : List Str} {sp : Sp} {ds : List Value} {dvs : List V} {p pos : Pos} (T : OexC X.K C) (iC : PySem.W.findIn X.K (.ref C) "__init__" = some (some (.ref fI))) (tI : PySem.W.typeIn X.K (.ref fI) = some (.type "function"))
    (F1 : FnOk X.prog X.w X.K X.mg X.base CX0 k fI fd ps sp) (hr : Room (k + 1) X.A) (hb : Binds X.K fd ps ds) (hd : Vals dvs ds) (hg : Gl X x) (hm : X.mg x = some (.ref C)) (ha : PA X (e :: es) ta)
    (hdb : (x == ("__debug__" : Str)) = false := by decide) (he : starEach (e :: es) X.env = (false, eval e X.env) :: starEach es X.env := by rfl) (hpl : (backTo pos (starEach es X.env)).any (·.1) = false := by rfl) :
    L2N.PMk X (.Call (.Name x p) (e :: es) [] pos) (tMkO C sp dvs ta) := by
  intro pins s σ H Q I h
  obtain ⟨nm, q, N, bs, bm, sn, sub, ab, col, dd, k0, k1, k2, k3, k5, hC, hbm⟩ := T.cls
  refine wpAny_Call_Name_kw (ld_glob I hg hm ?_ hdb)
  refine PySem.W.callWith_K (h₀ := X.base) I.ok.mod.kin T.kC (thn (ha.run pos pins s σ H _ I h) fun us s1 ⟨vs, H1, I1, r1, hz, q1⟩ => ⟨I1.kIn, ?_⟩) he hpl
  show wpAny _ _ (call (.ref C) us) _ _ _
  obtain ⟨hp, g, dr, tk, os⟩ := s1
  have hsz : hp.objs.size ≤ hp.objs.size + 1 := Nat.le_succ _
  have hn : H1 (hp.objs.size + 1) = none := I1.hok.fresh hsz
  have hq := q1 (hp.objs.size + 1) hn
  have kk : ∀ b o, hp.get? b = some o → ((hp.push (PySem.W.kdv_tup us)).push (PySem.HandSPX.excO C hp.objs.size)).get? b = some o := fun b o e => Heap.get?_push_of_some _ (Heap.get?_push_of_some _ e)
  have hget : ((hp.push (PySem.W.kdv_tup us)).push (PySem.HandSPX.excO C hp.objs.size)).get? (hp.objs.size + 1) = some (PySem.HandSPX.excO C hp.objs.size) := by heap_get
  have I2 : Inv X pins σ (upd H1 (hp.objs.size + 1) (exo (hp.objs.size + 1) C none)) ⟨(hp.push (PySem.W.kdv_tup us)).push (PySem.HandSPX.excO C hp.objs.size), g, dr, tk, os⟩ :=
    I1.laid (t' := tk) (a := hp.objs.size + 1) (o := exo (hp.objs.size + 1) C none) (h' := (hp.push (PySem.W.kdv_tup us)).push (PySem.HandSPX.excO C hp.objs.size)) kk hsz (exo_ok hget)
  have r2 : Vals (V.ref (hp.objs.size + 1) :: (vs ++ dvs)) (Value.ref (hp.objs.size + 1) :: (us ++ ds)) := .cons rfl (r1.append hd)
  have hl : (Value.ref (hp.objs.size + 1) :: us ++ ds).length = ps.length := by
    have e := r2.length
    rw [F1.len _ _ _ _ hq] at e
    exact e.symm
  have hus : us.length ≤ sizeLine := by
    rw [← Paired.length r1, sizeLine_eq]
    omega
  refine wpAny_call (PySem.HandSPX.call_own PySem.F.excBase_ValueError (fun Y => PySem.HandSPX.refsVE_contains Y bm hbm) (I1.kIn _ _ hC) (PySem.W.looks_findIn I1.kIn iC) (fun self => PySem.W.bind_fn I1.kIn self tI) hus
    (codeAny_mono (F1.run _ X.stack _ _ ⟨Value.ref (hp.objs.size + 1) :: us, []⟩ (Value.ref (hp.objs.size + 1) :: (us ++ ds)) _ _ (fun _ _ _ => False) (hr.make C us []) (I2.env0.make C us []) (hb _ (Value.ref (hp.objs.size + 1) :: us) I2.kIn hl) r2 hq) fun r s' hq' => ?_))
  cases r with
  | error er => exact False.elim hq'
  | ok fl =>
    cases fl with
    | ret u =>
      obtain ⟨v, H2, os2, bare2, un2, hok2, rv, ev, d, fs, ea, ed, hd1, q2⟩ := hq'
      subst ev
      obtain ⟨h2, g2, d2, t2, os'⟩ := s'
      exact ⟨rv, mk_endN (raises_own T.exC T.tyC) I1 hsz kk un2 hok2 os2 bare2 ea ed hd1 q2⟩
    | next => exact False.elim hq'
    | brk => exact False.elim hq'
    | cont => exact False.elim hq'
/-- the base class's __init__, wherever it stands -/
structure IniOk (P : Program) (w : World) (K : PySem.W.Frag) (mg : Str → Option Value) (base : Heap) (D fI : Addr) : Prop where
  ok : ∃ fd, (∀ k, FnOk P w K mg base CX0 k fI fd iniP (spIni K D)) ∧ Binds K fd iniP []
  ty : PySem.W.typeIn K (.ref fI) = some (.type "function")
/-- a class of the program's errors: its name, what the written part says -/
structure ErrAt (K : PySem.W.Frag) (mg : Str → Option Value) (D fI C : Addr) (x : Str) : Prop where
  er : ErrC K D C
  ic : PySem.W.findIn K (.ref C) "__init__" = some (some (.ref fI))
  gm : mg x = some (.ref C)
noncomputable def rzS (c : String) (m : En → R D) : En → R Fl := fun ρ => (m ρ).bind fun d => match d with
  | .int n => .ex c n
  | _ => .no
theorem st_raise {X : Cx} {cl : String → Addr} {W : XK} {c : String} {x : Str} {e : Expr} {m : En → R D} {D fI : Addr} {k : Nat} {p pos pos2 : Pos} (hc : X.calm = true) (tk : L2N.Takes X (fun c d _ H => W c d H)) (hr : Rm X (k + 1)) (B : IniOk X.prog X.w X.K X.mg X.base D fI) (T : ErrAt X.K X.mg D fI (cl c) x) (hg : Gl X x)
    (he : PD X cl W e m) (hdb : (x == ("__debug__" : Str)) = false := by decide) (hs : starEach [e] X.env = (false, eval e X.env) :: starEach [] X.env := by rfl) (hpl : (backTo pos (starEach [] X.env)).any (·.1) = false := by rfl) :
    PSt X cl W (.Raise (some (.Call (.Name x p) [e] [] pos)) none pos2) (rzS c m) := by
  obtain ⟨fd, hF, hb⟩ := B.ok
  refine PS.imp (L2N.ps_raise hc tk (pmk_err T.er.oex T.ic B.ty (hF k) hr.room hb .nil hg T.gm (pa_one he hs) hdb hs hpl)) fun σ H Q ⟨F0, H0, ρ, F, ok, h⟩ => ?_
  refine ⟨F0, H0, ρ, F, ok, tRS.expr h ok.ext.keep fun v F1 H1 d e1 p1 h1 => ?_⟩
  cases d with
  | int n =>
    have h1 : ExW W cl c n H0 := h1
    have ev := p1.inv_int
    subst ev
    have l1 : Le H0 H1 := ok.ext.keep.trans e1.keep
    refine ⟨by simp, fun a na => ⟨a, cl c, .int n, rfl, T.er, upd_same, fun dx nd ne => ⟨rfl, dx, [(("at" : Str), .int n)], upd_same, ?_, ?_, ?_⟩⟩⟩
    · rw [upd_ne ne, upd_same]
    · rw [upd_ne ne] at nd; exact nd
    · have nd1 : H1 dx = none := by rw [upd_ne ne] at nd; exact nd
      refine h1 _ dx (fun b o hb => ?_) (l1.none nd1) upd_same
      have hb1 := l1 b o hb
      have ba : b ≠ a := fun z => by rw [z, na] at hb1; cases hb1
      have bd : b ≠ dx := fun z => by rw [z, nd1] at hb1; cases hb1
      rw [upd_ne bd, del_ne ba, upd_ne ba, upd_ne bd, upd_ne ba]
      exact hb1
  | _ => exact False.elim h1
end Mir
namespace Mir
open PySem PySem.Spec PyProof.Rows L2 HotX
/-! ### iterators' ends while an error is handled -/
section
variable {prog : Program} {w : World} {A : Around} {E : Value → Shared → Prop} {s : Shared}
theorem list_end_hot {it t x1 : Addr} {i : Nat} {items : Array Value} {Q : Option Value → Shared → Prop} (hot : HotAt A x1 s.heap) (hne : x1 ≠ it)
    (hit : s.heap.IsListIter it t i) (ht : s.heap.IsList t items) (hx : items[i]? = none)
    (hQ : ∀ h', Heap.ExtBut it s.heap h' → Q none { s with heap := h' }) : wpAny (model prog w) A (pyNext (.ref it)) Q E s := by
  obtain ⟨hh, o1, vs1, g1, d1, c1⟩ := hot
  obtain ⟨o, ho, hc, hd⟩ := id hit
  obtain ⟨ol, hol, _, nl, hdl⟩ := ht
  have hlt : it < s.heap.objs.size := Heap.lt_size ho
  unfold pyNext
  refine wpAny_bind (wpAny_attempt (wpAny_callSpecial?_slot (name := Str.ofString "__next__") hit.typeIs slot_listiter_next
    (wpAny_call_entry slot_listiter_next hit.typeIs entry_listiter_next ?_ (args_listiter_next _))))
  show wpAny _ _ (field (.ref it) 0 >>= _) _ _ s
  refine wpAny_bind (wpAny_field ho hd (x := .ref t) rfl ?_)
  show wpAny _ _ (if (Value.ref t == Value.none) = true then _ else _) _ _ s
  rw [if_neg (show ¬ ((Value.ref t == Value.none) = true) from Bool.false_ne_true)]
  show wpAny _ _ (field (.ref it) 1 >>= _) _ _ s
  refine wpAny_bind (wpAny_field ho hd (x := .int i 0) rfl ?_)
  show wpAny _ _ (seqItems? (.ref t) >>= _) _ _ s
  refine wpAny_bind (wpAny_seqItems hol hdl ?_)
  simp only [Int.toNat_natCast, hx]
  refine wpAny_bind (wpAny_rule (wpAny_bind (wpAny_setField ho hd (by simp) ?_)))
  show wpAny _ _ (newExc (.type "StopIteration") [] >>= _) _ _ _
  refine wpAny_bind ?_
  simp only [newExc, newTuple]
  refine wpAny_bind (wpAny_newObj_type ?_ (by size_fits))
  refine wpAny_bind (m := firstArgMember _ _) (wpAny_of_eq (a := Value.none) (by first | rfl | (simp only [firstArgMember]; rfl)) ?_)
  refine wpAny_newObj_type ?_ (by size_fits)
  refine raiseNew_hot (x1 := x1) ⟨hh, o1, vs1, Heap.get?_push_of_some _ (Heap.get?_push_of_some _ ((Heap.get?_update_other _ _ (Ne.symm hne)).trans g1)), d1, c1⟩
    (Nat.ne_of_lt (Heap.lt_size (Heap.get?_push_of_some _ ((Heap.get?_update_other _ _ (Ne.symm hne)).trans g1)))) (Heap.get?_push_size _ rfl) rfl (by simp only [Array.size_append]; simp; omega) ?_
  refine wpAny_bind (wpAny_isInstance (T := "StopIteration") (b := true) ⟨_, Heap.get?_update_self _ (Heap.get?_push_size _ rfl) rfl, rfl⟩ isSubtype_stop ?_)
  refine wpAny_pure (hQ _ fun b u hb e => ?_)
  have e1 := (Heap.get?_update_other s.heap (Obj.mapFields (·.setIfInBounds 0 .none)) (Ne.symm hb)).trans e
  rw [Heap.get?_update_other _ _ (Nat.ne_of_gt (Heap.lt_size (Heap.get?_push_of_some _ e1)))]
  exact Heap.get?_push_of_some _ (Heap.get?_push_of_some _ e1)

theorem tup_end_hot {it t x1 : Addr} {i : Nat} {items : Array Value} {Q : Option Value → Shared → Prop} (hot : HotAt A x1 s.heap) (hne : x1 ≠ it)
    (hit : IsTupIter s.heap it t i) (ht : IsTup s.heap t items) (hx : items[i]? = none)
    (hQ : ∀ h', Heap.ExtBut it s.heap h' → Q none { s with heap := h' }) : wpAny (model prog w) A (pyNext (.ref it)) Q E s := by
  obtain ⟨hh, o1, vs1, g1, d1, c1⟩ := hot
  obtain ⟨o, ho, hc, hd⟩ := id hit
  obtain ⟨ol, hol, _, nl, hdl⟩ := ht
  have hlt : it < s.heap.objs.size := Heap.lt_size ho
  unfold pyNext
  refine wpAny_bind (wpAny_attempt (wpAny_callSpecial?_slot (name := Str.ofString "__next__") hit.typeIs slot_tupleiter_next
    (wpAny_call_entry slot_tupleiter_next hit.typeIs entry_tupleiter_next ?_ (args_tupleiter_next _))))
  show wpAny _ _ (field (.ref it) 0 >>= _) _ _ s
  refine wpAny_bind (wpAny_field ho hd (x := .ref t) rfl ?_)
  show wpAny _ _ (if (Value.ref t == Value.none) = true then _ else _) _ _ s
  rw [if_neg (show ¬ ((Value.ref t == Value.none) = true) from Bool.false_ne_true)]
  show wpAny _ _ (field (.ref it) 1 >>= _) _ _ s
  refine wpAny_bind (wpAny_field ho hd (x := .int i 0) rfl ?_)
  show wpAny _ _ (seqItems? (.ref t) >>= _) _ _ s
  refine wpAny_bind (wpAny_seqItems hol hdl ?_)
  simp only [Int.toNat_natCast, hx]
  refine wpAny_bind (wpAny_rule (wpAny_bind (wpAny_setField ho hd (by simp) ?_)))
  show wpAny _ _ (newExc (.type "StopIteration") [] >>= _) _ _ _
  refine wpAny_bind ?_
  simp only [newExc, newTuple]
  refine wpAny_bind (wpAny_newObj_type ?_ (by size_fits))
  refine wpAny_bind (m := firstArgMember _ _) (wpAny_of_eq (a := Value.none) (by first | rfl | (simp only [firstArgMember]; rfl)) ?_)
  refine wpAny_newObj_type ?_ (by size_fits)
  refine raiseNew_hot (x1 := x1) ⟨hh, o1, vs1, Heap.get?_push_of_some _ (Heap.get?_push_of_some _ ((Heap.get?_update_other _ _ (Ne.symm hne)).trans g1)), d1, c1⟩
    (Nat.ne_of_lt (Heap.lt_size (Heap.get?_push_of_some _ ((Heap.get?_update_other _ _ (Ne.symm hne)).trans g1)))) (Heap.get?_push_size _ rfl) rfl (by simp only [Array.size_append]; simp; omega) ?_
  refine wpAny_bind (wpAny_isInstance (T := "StopIteration") (b := true) ⟨_, Heap.get?_update_self _ (Heap.get?_push_size _ rfl) rfl, rfl⟩ isSubtype_stop ?_)
  refine wpAny_pure (hQ _ fun b u hb e => ?_)
  have e1 := (Heap.get?_update_other s.heap (Obj.mapFields (·.setIfInBounds 0 .none)) (Ne.symm hb)).trans e
  rw [Heap.get?_update_other _ _ (Nat.ne_of_gt (Heap.lt_size (Heap.get?_push_of_some _ e1)))]
  exact Heap.get?_push_of_some _ (Heap.get?_push_of_some _ e1)

theorem unpackItems_hot {t x1 : Addr} {items : Array Value} {Q : List Value → Shared → Prop} (hot : HotAt A x1 s.heap) (ht : IsTup s.heap t items)
    (hQ : ∀ h', Heap.ExtBut s.heap.objs.size s.heap h' → Q items.toList { s with heap := h' }) : wpAny (model prog w) A (unpackItems (.ref t) items.size none) Q E s := by
  have hlt : t ≠ s.heap.objs.size := by obtain ⟨o, ho, _⟩ := ht; exact Nat.ne_of_lt (Heap.lt_size ho)
  have hx1 : x1 ≠ s.heap.objs.size := by obtain ⟨_, o, _, e, _⟩ := hot; exact Nat.ne_of_lt (Heap.lt_size e)
  unfold unpackItems
  refine wpAny_bind ?_
  unfold notIterableAtAll
  refine wpAny_bind (wpAny_specialOf ht.typeIs slot_tuple_iter.lookup ?_)
  refine wpAny_pure ?_
  simp only [Bool.false_eq_true, if_false]
  refine wpAny_bind (wpAny_holding (iter_tuple ht ?_))
  refine wpAny_bind (wpAny_holding (draw_tuple hlt items.size 0 _ _ ⟨_, Heap.get?_push_size _ rfl, rfl, rfl⟩ (ht.push _) (by omega) fun h₁ hit₁ hs₁ => ?_))
  have hall : List.take items.size (List.drop 0 items.toList) = items.toList := by
    rw [List.drop_zero]; exact List.take_of_length_le (by simp)
  rw [hall]
  rw [if_neg (by simp)]
  have ht₁ : IsTup h₁ t items := (ht.push _).extBut hs₁.extBut hlt
  have hot₁ : HotAt A x1 h₁ := by
    obtain ⟨hh, o1, vs1, g1, d1, c1⟩ := hot
    exact ⟨hh, o1, vs1, hs₁.extBut _ _ hx1 (Heap.get?_push_of_some _ g1), d1, c1⟩
  refine wpAny_bind (wpAny_holding (tup_end_hot (s := { s with heap := h₁ }) hot₁ hx1 hit₁ ht₁ (by simp) fun h₂ he₂ => ?_))
  simp only [Option.isSome_none, Bool.false_eq_true, if_false]
  refine wpAny_pure (hQ h₂ fun b o hb e => he₂ b o hb (hs₁.extBut b o hb (Heap.get?_push_of_some _ e)))
theorem assign_Tuple_hot {env : Env} {elts : List Expr} {k} {pos : Pos} {t x1 : Addr} {items : Array Value} {Q : Unit → Shared → Prop} (hot : HotAt A x1 s.heap) (ht : IsTup s.heap t items)
    (hn : (assignEach elts env).length = items.size) (hstar : (assignEach elts env).findIdx? (·.1) = none)
    (h : ∀ h', Heap.ExtBut s.heap.objs.size s.heap h' → wpAny (model prog w) A (assignInOrder ((assignEach elts env).map (·.2)) items.toList) Q E { s with heap := h' }) :
    wpAny (model prog w) A (assign (.Tuple elts k pos) env (.ref t)) Q E s := by
  rw [assign_Tuple]
  refine wpAny_bind (wpAny_standAt ?_)
  unfold unpack
  rw [hn, hstar]
  exact wpAny_bind (wpAny_holding (unpackItems_hot hot ht h))
end
end Mir
namespace Mir
open PySem PySem.Spec PyProof.Rows L2 HotX
/-! ### a list walked while an error is handled -/
theorem turn_listH {P : Program} {w : World} {K : PySem.W.Frag} {tg : Expr} (a it : Addr) : L2H.TurnH P w K tg (Itl K a) [it] it (fun i h => h.IsListIter it a i) where
  mem := List.mem_singleton.mpr rfl
  obj := fun i h st b hb => by
    cases List.mem_singleton.mp hb
    obtain ⟨o, e, _, d⟩ := st
    exact ⟨o, e, fun v z => by rw [d] at z; cases z⟩
  keep := fun i h h' st k => st.at fun o e => k it (List.mem_singleton.mpr rfl) o e
  item := by
    rintro X rfl rfl rfl hc i pins s σ H E I hf st ⟨xs, x, hq, hx⟩
    obtain ⟨its, rv, p, _⟩ := I.list hq
    obtain ⟨u, hu, ru⟩ := rv.get hx
    obtain ⟨f0, f1, f2, f3, f4, f5⟩ := hf it (List.mem_singleton.mpr rfl)
    refine wpAny_pyNext_list_item st p.isList (x := u) (by simpa using hu) fun h' st' sb => ?_
    have J : Inv X pins σ H { s with heap := h' } := I.turned (t' := s.toks) (fun b o hb e => (sb.2 b hb).trans e) f0 f1 f3 f4 f5
    obtain ⟨o, e, c, d⟩ := id st'
    exact ⟨u, rfl, go_of (s := { s with heap := h' }) e c d (by decide) ⟨x, H, J, ru, ⟨rfl, fun ys hy => by rw [I.list_inj hy hq]; exact hx⟩, st', fun b hb => (hf b hb).1⟩⟩
  done := by
    rintro X rfl rfl rfl hc i pins s σ H E I hf st ⟨xs, hq, hx⟩
    obtain ⟨its, rv, p, _⟩ := I.list hq
    obtain ⟨f0, f1, f2, f3, f4, f5⟩ := hf it (List.mem_singleton.mpr rfl)
    have hl := rv.length
    obtain ⟨p1, ⟨hh, v1, e1, c1⟩, hp⟩ := hc
    have hot : HotAt X.A p1.1 s.heap := ⟨hh, p1.2, v1, (I.pin p1 (List.mem_append_left _ hp)).1, e1, c1⟩
    exact list_end_hot hot (f5 p1 (List.mem_append_left _ hp)) st p.isList (by simp; omega) fun h' eb => ⟨rfl, I.turned (t' := s.toks) (fun b o hb e => eb b o hb e) f0 f1 f3 f4 f5⟩
  self := fun _ _ _ _ _ st h => wpAny_pyIter_listiter st h
theorem pih_list {X : Cx} {tg l : Expr} {tl : TE} (hl : PE X l tl) : L2H.PIH X tg l (iList X.K tl) := by
  refine ⟨fun pins s σ H R I h => thn (hl.run pins s σ H _ I h) fun v s1 ⟨x, H1, I1, r1, a, ex, ⟨xs, hq⟩, q⟩ => ?_⟩
  subst ex
  cases r1
  obtain ⟨its, rv, p, _⟩ := I1.list hq
  refine wpAny_pyIter_list p.isList ⟨s1.heap.objs.size, [s1.heap.objs.size], _, _, H1, rfl, I1.kept (t' := s1.toks) fun b o e => Heap.get?_push_of_some _ e, turn_listH a _, ⟨_, Heap.get?_push_size _ rfl, rfl, rfl⟩, fun b hb => ?_, q⟩
  cases List.mem_singleton.mp hb
  exact I1.fpOk (Nat.le_refl _) (I1.hok.fresh (Nat.le_refl _))
/-- (a, b) = a tuple, while an error is handled -/
theorem pg_tupH {X : Cx} {es : List Expr} {k : Nat} {t : TGs} {n : Nat} {pos : Pos} (hc : L2H.HotC X) (h : PGs X es t)
    (hn : (assignEach es X.env).length = n := by rfl) (hst : (assignEach es X.env).findIdx? (·.1) = none := by rfl) : PG X (.Tuple es k pos) (gTup X.K n t) := by
  refine ⟨fun pins s σ H v u Q I r ⟨a, xs, e1, hq, hl, hw⟩ => ?_⟩
  subst e1
  cases r
  obtain ⟨its, rv, ht, _⟩ := I.tuple hq
  obtain ⟨x1, hot⟩ := hc.at I
  refine assign_Tuple_hot hot ht (by simp [hn, ← hl, rv.length]) hst fun h' hx => ?_
  exact h.run pins _ σ H xs _ Q (I.kept (t' := s.toks) fun b o e => hx b o (Nat.ne_of_lt (Heap.lt_size e)) e) (by simpa using rv) hw
/-- a context that bears a pin -/
noncomputable def pinX (X : Cx) (p : Addr × Obj) : Cx := { X with pn := [p] }
theorem inv_pinX {X : Cx} {p : Addr × Obj} {pins : List (Addr × Obj)} {σ : L2.St} {H : Hp} {s : Shared} (I : Inv X pins σ H s) (h0 : X.pn = [])
    (hp : s.heap.get? p.1 = some p.2 ∧ H p.1 = none ∧ p.1 ≠ X.env.locals ∧ p.1 ∉ X.fs ∧ ∀ v, p.2.data ≠ .cell v) : Inv (pinX X p) pins σ H s := by
  obtain ⟨⟨a1, a2, a3, a4, a5, a6, a7, a8, a9, a10, a11, a12, a13, a14, a15, a16, a17, a18⟩, b, c, d, e, f, g, h, i, j, k⟩ := I
  refine ⟨⟨a1, a2, a3, a4, a5, a6, a7, a8, a9, a10, a11, a12, a13, a14, a15, a16, a17, a18⟩, b, c, d, e, f, g, h, fun q hq => ?_, j, k⟩
  rcases List.mem_append.mp hq with z | z
  · have z : q ∈ [p] := z
    cases List.mem_singleton.mp z
    exact hp
  · exact i q (List.mem_append_right _ z)
section
variable {X : Cx} {p : Addr × Obj}
/-- [elt for target in iter if ..] while an error is handled: as Comp.lc_core, the block bears the error's pin -/
theorem pe_lcH {elt tg iter : Expr} {ifs : List Expr} {scope : Scope} {own : List (Str × Nat)} {pos : Pos} {wi : TI} {g : TG} {tt : TT} {te : TE} (hp : L2H.Hot1 X.A p) (hpn : p ∈ X.pn) (hN : X.N.Nodup) (hi : L2H.PIH X tg iter wi) (ok : BlkOk X.N X.env.scope scope own)
    (hg : ∀ (s : Shared) (H : Hp) (C : Addr) (cl : List (Str × Addr)) (fp : List Addr), PG (pinX (X.blk s H scope (compEnvC scope cl C X.env) fp) p) tg g)
    (ht : ∀ (s : Shared) (H : Hp) (C : Addr) (cl : List (Str × Addr)) (fp : List Addr), PTs (pinX (X.blk s H scope (compEnvC scope cl C X.env) fp) p) ifs tt)
    (he : ∀ (s : Shared) (H : Hp) (C : Addr) (cl : List (Str × Addr)) (fp : List Addr), PE (pinX (X.blk s H scope (compEnvC scope cl C X.env) fp) p) elt te) (hs : ∀ x, foldedSetIterable iter X.env x = pure x := by intro _; rfl) :
    PE X (.ListComp elt [⟨tg, iter, ifs, 0⟩] scope pos) (tLc wi g tt te (own.map (·.2))) := by
  refine ⟨fun pins s σ H Q I h => ?_⟩
  rw [eval_ListComp]
  have fr : ∀ y ∈ scope.names, y.2 = .free → ∃ c, X.env.cells.lookup y.1 = some c := fun y hy e => (ok.free y hy e).elim (fun k => I.ok.has _ (.inl k)) fun k => I.ok.has _ (.inr k)
  refine wpAny_comprehension_free (use := none) rfl hs (closure_ok fr) ok.kind (fun y hy e => by rw [ok.uniq y hy, e]) (thn (hi.run pins s σ H _ I h) fun xv s1 hx => thn hx fun itv s2 ⟨it, fp, tn, J, H2, e, I2, T, st2, f2, q⟩ => ?_)
  subst e
  refine wpAny_newObj_type (newEnv_comp ?_) (by show 0 ≤ sizeLine; decide)
  have hDn : H2 s2.heap.objs.size = none := I2.hok.fresh (Nat.le_refl _)
  obtain ⟨W, ⟨m0, w0⟩, turn⟩ := q s2.heap.objs.size hDn
  generalize hD : s2.heap.objs.size = D at *
  obtain ⟨s3, hs3⟩ : ∃ s3 : Shared, s3 = { s2 with heap := s2.heap.push { cls := .type "list", data := .seq ([] : List Value).toArray } } := ⟨_, rfl⟩
  have h3 : s3.heap = s2.heap.push { cls := .type "list", data := .seq ([] : List Value).toArray } := by rw [hs3]
  have I3 : Inv X pins σ (upd H2 D (.lst [])) s3 := by
    rw [hs3]
    exact I2.laid (t' := s2.toks) (fun b o e => Heap.get?_push_of_some _ e) (Nat.le_of_eq hD) ⟨Nat.zero_le _, [], 0, .nil, by rw [← hD]; exact Heap.get?_push_size _ rfl⟩
  have f3 : ∀ b ∈ fp, FpOk X pins (upd H2 D (.lst [])) b ∧ b < s3.heap.objs.size := fun b hb => by
    obtain ⟨o, e, _⟩ := T.obj _ _ st2 b hb
    have lt := Heap.lt_size e
    exact ⟨⟨by rw [upd_ne (by rw [← hD]; exact Nat.ne_of_lt lt)]; exact (f2 b hb).1, (f2 b hb).2⟩, by rw [h3, Heap.size_push]; exact Nat.lt_succ_of_lt lt⟩
  have st3 : tn 0 s3.heap := T.keep _ _ _ st2 fun b _ o e => by rw [h3]; exact Heap.get?_push_of_some _ e
  have I4 := block_start I3 ok hN f3
  have pg := hg s3 (upd H2 D (.lst [])) s3.heap.objs.size (cellsFrom (s3.heap.objs.size + 1) scope.names (cloFrom X.env.cells scope.names [])) fp
  have pt := ht s3 (upd H2 D (.lst [])) s3.heap.objs.size (cellsFrom (s3.heap.objs.size + 1) scope.names (cloFrom X.env.cells scope.names [])) fp
  have pe := he s3 (upd H2 D (.lst [])) s3.heap.objs.size (cellsFrom (s3.heap.objs.size + 1) scope.names (cloFrom X.env.cells scope.names [])) fp
  have pin3 := I3.pin p (List.mem_append_left _ hpn)
  have lt3 : p.1 < s3.heap.objs.size := Heap.lt_size pin3.1
  have goal : codeAny (model X.prog X.w) X.A (.compStart (.ListComp elt [⟨tg, iter, ifs, 0⟩] scope pos) 0 (.ref it) (.ref D) (compEnvC scope (cellsFrom (s3.heap.objs.size + 1) scope.names (cloFrom X.env.cells scope.names [])) s3.heap.objs.size X.env))
      (compPost (model X.prog X.w) X.A X.xe none (EP X pins σ Q) (.ref D) s3.heap.objs.size) { s3 with heap := pushCells (s3.heap.push { cls := .type "dict", data := .dict #[] }) scope.names } := by
    have kp4 : ∀ b o, s3.heap.get? b = some o → (pushCells (s3.heap.push { cls := .type "dict", data := .dict #[] }) scope.names).get? b = some o := fun b o e => pushCells_keeps _ _ _ _ (Heap.get?_push_of_some _ e)
    have I5 : Inv (pinX (X.blk s3 (upd H2 D (.lst [])) scope (compEnvC scope (cellsFrom (s3.heap.objs.size + 1) scope.names (cloFrom X.env.cells scope.names [])) s3.heap.objs.size X.env) fp) p) [] (wipe σ (own.map (·.2))) (upd H2 D (.lst []))
        { s3 with heap := pushCells (s3.heap.push { cls := .type "dict", data := .dict #[] }) scope.names } :=
      inv_pinX I4 rfl ⟨kp4 _ _ pin3.1, pin3.2.1, Nat.ne_of_lt lt3, fun z => (List.mem_cons.mp (I3.stkSub _ z)).elim pin3.2.2.1 pin3.2.2.2.1, pin3.2.2.2.2⟩
    have nfp : ∀ b ∈ fp, (upd H2 D (.lst [])) b = none := fun b hb => (f3 b hb).1.1
    have cL : (compEnvC scope (cellsFrom (s3.heap.objs.size + 1) scope.names (cloFrom X.env.cells scope.names [])) s3.heap.objs.size X.env).locals = s3.heap.objs.size := rfl
    generalize compEnvC scope (cellsFrom (s3.heap.objs.size + 1) scope.names (cloFrom X.env.cells scope.names [])) s3.heap.objs.size X.env = ce at I5 pg pt pe cL ⊢
    obtain ⟨s4, hs4⟩ : ∃ s4 : Shared, s4 = { s3 with heap := pushCells (s3.heap.push { cls := .type "dict", data := .dict #[] }) scope.names } := ⟨_, rfl⟩
    rw [← hs4] at I5 ⊢
    generalize hH3 : upd H2 D (.lst []) = H3 at I3 I5 pg pt pe w0 nfp f3
    have hB : L2H.HotC (pinX (X.blk s3 H3 scope ce fp) p) := ⟨p, hp, List.mem_singleton.mpr rfl⟩
    have st4 : tn 0 s4.heap := T.keep _ _ _ st3 fun b _ o e => by rw [hs4]; exact kp4 _ _ e
    have stat : ∀ {σ' : L2.St} {H' : Hp} {s' : Shared}, Inv (pinX (X.blk s3 H3 scope ce fp) p) [] σ' H' s' → (∀ b ∈ fp, H' b = none) → ∀ b ∈ fp, FpOk (pinX (X.blk s3 H3 scope ce fp) p) [] H' b := fun {σ' H' s'} J hn b hb =>
      ⟨hn b hb, (J.ok.exf b hb).1, J.ok.exfs b hb, .inl hb, fun x c e => (J.ok.exf b hb).2 x c e, fun q hq => by
        have hq : q ∈ [p] ++ [] := hq
        rw [List.append_nil] at hq
        cases List.mem_singleton.mp hq
        exact (f3 b hb).1.2.2.2.2.2 p (List.mem_append_left _ hpn)⟩
    have loop : codeAny (model X.prog X.w) X.A (.compLoop (.ListComp elt [⟨tg, iter, ifs, 0⟩] scope pos) 0 (.ref it) (.ref D) ce) (compPost (model X.prog X.w) X.A X.xe none (EP X pins σ Q) (.ref D) s3.heap.objs.size) s4 := by
      refine compLoop_any (fun n s' => ∃ i H', Inv (pinX (X.blk s3 H3 scope ce fp) p) [] (wipe σ (own.map (·.2))) H' s' ∧ tn i s'.heap ∧ (∀ b ∈ fp, H' b = none) ∧ W i n H') ?_ m0 ⟨0, H3, I5, st4, nfp, w0⟩
      rintro n s5 ⟨i, H5, J5, st5, n5, w5⟩
      rcases turn i n H5 w5 with ⟨stop, qq⟩ | ⟨go, Nx, hNx, step⟩
      · refine thnF (T.done (pinX (X.blk s3 H3 scope ce fp) p) rfl rfl rfl hB i [] s5 _ H5 (fun _ _ => False) J5 (stat J5 n5) st5 stop) fun r s6 ⟨hr, J6⟩ => ?_
        subst hr
        have J7 : Inv X pins σ H5 s6 := I3.call' (ch := fp) J6.os J6.base J6.hok J6.bare fun b hb => ⟨(f3 b hb).1.2.2.2.1, (f3 b hb).1.2.1, (f3 b hb).1.2.2.2.2.1, (f3 b hb).1.2.2.2.2.2⟩
        have nC : H5 s3.heap.objs.size = none := by rw [← cL]; exact J6.free
        obtain ⟨m, hn, _⟩ := J6.loc
        have hn : s6.heap.Ns ce.locals m := hn
        rw [cL] at hn
        refine ⟨m, hn, fun h'' sb => ?_⟩
        obtain ⟨g0, g1, g2, g3, g4, g5⟩ := I3.fpOk (H' := H5) (Nat.le_refl _) nC
        exact ⟨.ref D, H5, J7.turned (t' := s6.toks) (fun b o hb e => (sb.2 b hb).trans e) g0 g1 g3 g4 g5, rfl, qq⟩
      · refine thnF (T.item (pinX (X.blk s3 H3 scope ce fp) p) rfl rfl rfl hB i [] s5 _ H5 (fun _ _ => False) J5 (stat J5 n5) st5 go) fun r s6 ⟨u, hr, h6⟩ => ?_
        subst hr
        refine thnF h6 fun _ s7 ⟨x, H7, J7, r7, y7, st7, n7⟩ => ?_
        have P7 := J7.pinned (stat J7 n7) (T.obj _ _ st7)
        refine thnF (pg.run _ s7 _ H7 x u _ P7 r7 (step x H7 y7)) fun _ s8 ⟨σ8, H8, J8, hw8, q8⟩ => ?_
        refine thnF (pt.run _ s8 σ8 H8 _ J8 q8) fun b s9 ⟨H9, J9, q9⟩ => ?_
        have fin : ∀ {s' : Shared} {H' : Hp}, Inv (pinX (X.blk s3 H3 scope ce fp) p) ([] ++ pinsAt fp s7.heap) σ8 H' s' → Nx H' → ∃ m, m < n ∧ ∃ i H', Inv (pinX (X.blk s3 H3 scope ce fp) p) [] (wipe σ (own.map (·.2))) H' s' ∧ tn i s'.heap ∧ (∀ b ∈ fp, H' b = none) ∧ W i m H' := fun {s' H'} J nx => by
          obtain ⟨m', hm, w'⟩ := hNx H' nx
          have keep : ∀ b ∈ fp, ∀ o, s7.heap.get? b = some o → s'.heap.get? b = some o ∧ H' b = none := fun b hb o e =>
            let z := J.pin (b, o) (List.mem_append_right _ (List.mem_append_right _ (mem_pinsAt hb e)))
            ⟨z.1, z.2.1⟩
          refine ⟨m', hm, i + 1, H', (J.unpinned (pins := [])).weak (by rw [← hw8, wipe_length]) (fun j v e => ?_), T.keep _ _ _ st7 fun b hb o e => (keep b hb o e).1, fun b hb => ?_, w'⟩
          · rw [← hw8] at e
            exact (wipe_some e).1
          · obtain ⟨o, e, _⟩ := T.obj _ _ st7 b hb
            exact (keep b hb o e).2
        cases b with
        | false =>
          simp only [Bool.false_eq_true, if_false] at q9 ⊢
          exact fin J9 q9
        | true =>
          simp only [if_true] at q9 ⊢
          refine thnF (pe.run _ s9 σ8 H9 _ J9 q9) fun z s10 ⟨yv, H10, J10, r10, acc, hD10, hz10, nx⟩ => ?_
          exact app_ok (X := pinX (X.blk s3 H3 scope ce fp) p) J10 hD10 hz10 r10 fun s11 J11 => fin J11 nx
    exact codeAny_compStart_list loop (T.self X.A 0 _ _ _ st4 loop)
  subst hs3
  exact goal
end
end Mir
namespace Mir
open PySem PySem.Spec PyProof.Rows L2 HotX
/-! ### the handled error, looked at -/
/-- isinstance(e, C), e a pinned error with its dict -/
theorem call_isP {X : Cx} {a C dx : Addr} {oe : Obj} (hpn : (a, oe) ∈ X.pn) (E : ExcC X.K C) (hz : Zc (.ref C) (some dx) oe) (hf : ∃ vs, oe.data = .fields vs) :
    CallR X (.builtin "isinstance") (fun xs H Q => ∃ (cv : Addr) (b : Bool) (fs : List (Str × V)), xs = [.ref a, .ref cv] ∧ H dx = some (.xd fs) ∧ PySem.W.kitOne X.K (.ref C) (.ref cv) = some b ∧ Q (.bl b) H) := by
  intro pins s σ H xs us Q I r ⟨cv, b, fs, e1, ex, e, q⟩
  subst e1
  obtain ⟨u1, u2, rfl, r1, r2⟩ := vals2 r
  cases r1
  cases r2
  obtain ⟨hget, _⟩ := I.pin (a, oe) (List.mem_append_left _ hpn)
  obtain ⟨vs, hv⟩ := hf
  have hx : ObjOk X.prog X.w H s.heap dx (.xd fs) := I.hok dx _ ex
  obtain ⟨mA, hns, _⟩ := hx
  obtain ⟨od, es, ep, ho, _⟩ := hns
  have J : PySem.W.InstAt s.heap a oe C (some od) := by
    obtain ⟨oc, od', oda, osl⟩ := oe
    obtain ⟨h1, h2⟩ := hz
    dsimp only at h1 h2 hv
    subst h1 h2 hv
    exact ⟨hget, rfl, rfl, ho⟩
  exact PySem.W.kia_one (PySem.W.kitx_exc (by obtain ⟨cd, hc, _⟩ := PySem.W.any_some E.hd; rw [hc]; rfl) E.hg E.hk E.hs E.ha E.hn E.ht E.hm) I.kIn J e (fun z => nomatch z) fun tk => ⟨.bl b, H, I.kept (t' := tk) fun _ _ z => z, rfl, q⟩
/-- e.f, e a pinned error with its dict -/
theorem pe_xfP {X : Cx} {a C dx : Addr} {oe : Obj} {e : Expr} {te : TE} {pos : Pos} {n : Str} (hpn : (a, oe) ∈ X.pn) (T : XfC X.K C) (hno : PySem.W.findIn X.K (.ref C) n = some none) (hz : Zc (.ref C) (some dx) oe) (hf : ∃ vs, oe.data = .fields vs)
    (he : PE X e te) (hb : attributeBase e n X.env (eval e X.env) = eval e X.env := by rfl) :
    PE X (.Attribute e n pos) (fun σ H Q => te σ H fun x H1 => x = .ref a ∧ ∃ (fs : List (Str × V)) (v : V), H1 dx = some (.xd fs) ∧ fs.lookup n = some v ∧ Q v H1) := by
  refine ⟨fun pins s σ H Q I h => attr_of hb (thn (he.run pins s σ H _ I h) fun u s1 ⟨x, H1, I1, rx, ex, fs, v, ea, l, q⟩ => ?_)⟩
  subst ex
  obtain rfl : u = Value.ref a := rx
  obtain ⟨ha, _⟩ := I1.pin (a, oe) (List.mem_append_left _ hpn)
  obtain ⟨vs, hd⟩ := hf
  have hx : ObjOk X.prog X.w H1 s1.heap dx (.xd fs) := I1.hok dx _ ea
  obtain ⟨mA, hns, hr⟩ := hx
  obtain ⟨od, ho, hl⟩ := lookIn_ns hns
  obtain ⟨u, hu, ru⟩ := RelO.some_of (v := v) (o := mA n) (by rw [← l]; exact hr n)
  have J : PySem.W.InstAt s1.heap a oe C (some od) := ⟨ha, hz.1, by unfold PySem.W.notCls; rw [hd] <;> rfl, by rw [hz.2]; exact ho⟩
  exact HandSPX.exc_get I1.kIn J T.ga T.gg T.exC (PySem.W.findObj_own T.hdC hno rfl (by rw [hl, hu])) (handed_of ru) ⟨v, H1, I1.tok _, ru, q⟩
end Mir
namespace Mir
open PySem PySem.Spec PyProof.Rows L2 HotX
/-! ### mirrors while an error is handled -/
theorem PIH.imp {X : Cx} {tg e : Expr} {t t' : TI} (h : L2H.PIH X tg e t) (i : ∀ σ H Rr, t' σ H Rr → t σ H Rr) : L2H.PIH X tg e t' := ⟨fun pins s σ H R I q => h.run pins s σ H R I (i σ H R q)⟩
section
variable {X : Cx} {cl : String → Addr} {W : XK} {p : Addr × Obj}
theorem srh_l {tg e : Expr} {m : En → R (List D)} (h : PL X cl W e m) : L2H.PIH X tg e (tI cl W X.K true m) := by
  refine PIH.imp (pih_list h) fun σ H Rr ⟨F0, H0, ρ, F, ok, q⟩ => ⟨F0, H0, ρ, F, ok, ?_⟩
  cases hr : m ρ with
  | ok xs =>
    rw [hr] at q
    intro v F1 H1 e1 ⟨a, vs, hv, s, r⟩
    exact ⟨a, hv, ⟨vs, s⟩, q _ F1 H1 e1 (walk_list s r)⟩
  | ex c n => rw [hr] at q; exact q
  | no => rw [hr] at q; exact q
theorem pf_lcH {elt tg iter : Expr} {ifs : List Expr} {scope : Scope} {own : List (Str × Nat)} {src : En → R (List D)} {g : Tg} {sl : List Nat} {t : En → R Bool} {me : En → R D} {pos : Pos} (hp : L2H.Hot1 X.A p) (hpn : p ∈ X.pn) (hN : X.N.Nodup) (hi : L2H.PIH X tg iter (tI cl W X.K true src)) (ok : BlkOk X.N X.env.scope scope own)
    (hsl : ∀ i ∈ sl, i ∈ own.map (·.2))
    (hg : ∀ (s : Shared) (H : Hp) (C : Addr) (cs : List (Str × Addr)) (fp : List Addr), PGp (pinX (X.blk s H scope (compEnvC scope cs C X.env) fp) p) tg g sl)
    (ht : ∀ (s : Shared) (H : Hp) (C : Addr) (cs : List (Str × Addr)) (fp : List Addr), PTm (pinX (X.blk s H scope (compEnvC scope cs C X.env) fp) p) cl E0 ifs t)
    (he : ∀ (s : Shared) (H : Hp) (C : Addr) (cs : List (Str × Addr)) (fp : List Addr), PD (pinX (X.blk s H scope (compEnvC scope cs C X.env) fp) p) cl E0 elt me) (hs : ∀ x, foldedSetIterable iter X.env x = pure x := by intro _; rfl) :
    PF X cl W (.ListComp elt [⟨tg, iter, ifs, 0⟩] scope pos) (lcF g src t me (own.map (·.2))) :=
  PE.imp (pe_lcH (g := tGp X.K g sl) (tt := tMB cl E0 X.K t) (te := tM cl E0 X.K (poD X.K) me) hp hpn hN hi ok hg ht he hs) fun σ H Q h => lc_read hsl h
/-! the handled error in a slot -/
noncomputable def isiM (i a dx : Nat) (b : Bool) : En → R D := fun ρ => match nth ρ i with
  | .er a' dx' _ => if a' = a ∧ dx' = dx then .ok (.bool b) else .no
  | _ => .no
noncomputable def atM (i a dx : Nat) : En → R D := fun ρ => match nth ρ i with
  | .er a' dx' n => if a' = a ∧ dx' = dx then .ok (.int n) else .no
  | _ => .no
theorem nth_er {ρ : En} {i : Nat} {a dx : Addr} {n : Int} (h : nth ρ i = .er a dx n) : ρ[i]? = some (.er a dx n) := by
  rw [nth_eq] at h
  cases q : ρ[i]? with
  | none => rw [q] at h; cases h
  | some s => rw [q] at h; exact congrArg some h
/-- the facts of the error that is handled -/
structure Err1 (X : Cx) (C a dx : Addr) (oe : Obj) : Prop where
  pn : (a, oe) ∈ X.pn
  hot : L2H.Hot1 X.A (a, oe)
  ec : ExcC X.K C
  xf : XfC X.K C
  noat : PySem.W.findIn X.K (.ref C) "at" = some none
  z : Zc (.ref C) (some dx) oe
theorem Err1.fields {X : Cx} {C a dx : Addr} {oe : Obj} (h : Err1 X C a dx oe) : ∃ vs, oe.data = .fields vs := by
  obtain ⟨_, vs, e, _⟩ := h.hot
  exact ⟨vs, e⟩
theorem pd_isi {C a dx C' : Addr} {oe : Obj} {i : Nat} {b : Bool} {e : Expr} {x : Str} {p0 p1 pos : Pos} (h : Err1 X C a dx oe) (hg : Gl X "isinstance") (hm : X.mg "isinstance" = none) (he : PE X e (tVar i)) (hgx : Gl X x) (hmx : X.mg x = some (.ref C')) (hk : PySem.W.kitOne X.K (.ref C) (.ref C') = some b)
    (hdb : (x == ("__debug__" : Str)) = false := by decide) (hs : starEach [e, .Name x p1] X.env = (false, eval e X.env) :: starEach [.Name x p1] X.env := by rfl) (hs2 : starEach [.Name x p1] X.env = (false, eval (.Name x p1) X.env) :: starEach [] X.env := by rfl) (hpl : (backTo pos (starEach [.Name x p1] X.env)).any (·.1) = false := by rfl) :
    PD X cl W (.Call (.Name "isinstance" p0) [e, .Name x p1] [] pos) (isiM i a dx b) := by
  refine PE.imp (pe_callB (call_isP h.pn h.ec h.z h.fields) hg hm (by decide +kernel) (pa_cons he (pa_one (pe_glob hgx hmx (v := .ref C') rfl hdb) hs2) hs) (by decide) (by decide) hs hpl) fun σ H Q ⟨F0, H0, ρ, F, ok, q⟩ => ?_
  have q : tR cl W (poD X.K) (match nth ρ i with
    | .er a' dx' _ => if a' = a ∧ dx' = dx then .ok (.bool b) else .no
    | _ => .no) F H Q := q
  cases hx : nth ρ i with
  | er a' dx' n =>
    rw [hx] at q
    have q2 : tR cl W (poD X.K) (if a' = a ∧ dx' = dx then .ok (.bool b) else .no) F H Q := q
    by_cases hh : a' = a ∧ dx' = dx
    · rw [if_pos hh] at q2
      obtain ⟨h1, h2⟩ : σ[i]? = some (some (.ref a')) ∧ F dx' = some (.xd [(("at" : Str), .int n)]) := ok.sl i _ (nth_er hx)
      rw [hh.1] at h1
      rw [hh.2] at h2
      exact ⟨_, h1, C', b, _, rfl, ok.sub _ _ h2, hk, q2 _ F H (Ext.refl ok.sub) (.bl b)⟩
    · rw [if_neg hh] at q2
      exact q2.elim
  | _ => rw [hx] at q; exact q.elim
theorem pd_at {C a dx : Addr} {oe : Obj} {i : Nat} {e : Expr} {pos : Pos} (h : Err1 X C a dx oe) (he : PE X e (tVar i)) (hb : attributeBase e "at" X.env (eval e X.env) = eval e X.env := by rfl) : PD X cl W (.Attribute e "at" pos) (atM i a dx) := by
  refine PE.imp (pe_xfP h.pn h.xf h.noat h.z h.fields he hb) fun σ H Q ⟨F0, H0, ρ, F, ok, q⟩ => ?_
  have q : tR cl W (poD X.K) (match nth ρ i with
    | .er a' dx' n => if a' = a ∧ dx' = dx then .ok (.int n) else .no
    | _ => .no) F H Q := q
  cases hx : nth ρ i with
  | er a' dx' n =>
    rw [hx] at q
    have q2 : tR cl W (poD X.K) (if a' = a ∧ dx' = dx then .ok (.int n) else .no) F H Q := q
    by_cases hh : a' = a ∧ dx' = dx
    · rw [if_pos hh] at q2
      obtain ⟨h1, h2⟩ : σ[i]? = some (some (.ref a')) ∧ F dx' = some (.xd [(("at" : Str), .int n)]) := ok.sl i _ (nth_er hx)
      rw [hh.1] at h1
      rw [hh.2] at h2
      exact ⟨_, h1, rfl, _, .int n, ok.sub _ _ h2, rfl, q2 _ F H (Ext.refl ok.sub) (.int n)⟩
    · rw [if_neg hh] at q2
      exact q2.elim
  | _ => rw [hx] at q; exact q.elim
/-- (a, b) = a tuple, while an error is handled -/
theorem pg_tH {es : List Expr} {k : Nat} {g : Tgs} {sl : List Nat} {n : Nat} {pos : Pos} (hc : L2H.HotC X) (h : PGps X es g sl) (hlen : ∀ ds ρ ρ', g ds ρ = some ρ' → ds.length = n)
    (hn : (assignEach es X.env).length = n := by rfl) (hst : (assignEach es X.env).findIdx? (·.1) = none := by rfl) : PGp X (.Tuple es k pos) (gT g) sl := by
  refine PG.imp (pg_tupH hc h hn hst) fun v σ H Q ⟨F0, H0, ρ, F, d, ok, r, q⟩ => ?_
  cases d with
  | tuple ds =>
    obtain ⟨a, vs, rfl, s, r2⟩ := Rp.inv_tup r
    have q2 : match g ds ρ with
      | some ρ' => ∀ σ', Ok X.K F0 H0 ρ' F σ' H → (∀ us, (∀ i ∈ sl, i ∈ us) → L2.wipe σ' us = L2.wipe σ us) → Q σ' H
      | none => False := q
    refine ⟨a, vs, rfl, ok.sub.sqt s, ?_, F0, H0, ρ, F, ds, ok, r2, q2⟩
    cases hr : g ds ρ with
    | none => rw [hr] at q2; exact False.elim q2
    | some ρ' => rw [r2.length]; exact hlen ds ρ ρ' hr
  | _ => exact False.elim q
/-- sep.join(list of texts) -/
noncomputable def strsD : List D → Option (List Str)
  | [] => some []
  | .str x :: r => (strsD r).map (x :: ·)
  | _ :: _ => none
theorem strs_of {K : PySem.W.Frag} {F : Hp} : ∀ {vs : List V} {ds : List D} {xs : List Str}, RpA K F vs ds → strsD ds = some xs → vs = xs.map V.str
  | _, [], _, .nil, h => by
    have h := Option.some.inj h
    subst h
    rfl
  | _, .str x :: r, _, .cons h1 h2, h => by
    have h : (strsD r).map (x :: ·) = some _ := h
    cases q : strsD r with
    | none => rw [q] at h; cases h
    | some ys =>
      rw [q] at h
      have h := Option.some.inj h
      subst h
      rw [h1.inv_str, strs_of h2 q]
      rfl
  | _, .none :: _, _, .cons _ _, h => by cases h
  | _, .bool _ :: _, _, .cons _ _, h => by cases h
  | _, .int _ :: _, _, .cons _ _, h => by cases h
  | _, .list _ :: _, _, .cons _ _, h => by cases h
  | _, .tuple _ :: _, _, .cons _ _, h => by cases h
  | _, .dict _ :: _, _, .cons _ _, h => by cases h
noncomputable def joinL (a : Str) (ds : List D) : Option D := (strsD ds).bind fun ys => if (ys.map (·.length)).sum + ys.length * a.length ≤ 16777216 then some (.str (Txt.join a ys)) else none
noncomputable def joinM (mo : En → R D) (m : En → R (List D)) : En → R D := fun ρ => (mo ρ).bind fun d => match d with
  | .str a => (m ρ).bind fun xs => ofO (joinL a xs)
  | _ => .no
theorem pd_join {o e : Expr} {mo : En → R D} {m : En → R (List D)} {apos pos : Pos} (ho : PD X cl W o mo) (he : PL X cl W e m) (hs : starEach [e] X.env = [(false, eval e X.env)] := by rfl) (hbase : attributeBase o "join" X.env (eval o X.env) = eval o X.env := by rfl) (hline : (apos.endLine == pos.line) = true := by rfl) :
    PD X cl W (.Call (.Attribute o "join" apos) [e] [] pos) (joinM mo m) := by
  refine PE.imp (pe_join ho he hs hbase hline) fun σ H Q ⟨F0, H0, ρ, F, ok, h⟩ => ?_
  refine ⟨F0, H0, ρ, F, ok, (tR.bind anti_D h).imp fun v H1 ⟨F1, x, e1, p1, h1⟩ => ?_⟩
  cases x with
  | str a =>
    have h1 : tR cl W (poD X.K) ((m ρ).bind fun xs => ofO (joinL a xs)) F1 H1 Q := h1
    refine ⟨⟨a, p1.inv_str⟩, F0, H0, ρ, F1, ok.grow e1, (tR.bind anti_D h1).imp fun u H2 ⟨F2, xs, e2, ⟨b, vs, hv, s2, r2⟩, h2⟩ => ?_⟩
    subst hv
    cases hr : joinL a xs with
    | none => rw [hr] at h2; exact False.elim h2
    | some r =>
      rw [hr] at h2
      have hr : (strsD xs).bind (fun ys => if (ys.map (·.length)).sum + ys.length * a.length ≤ 16777216 then some (PyData.str (Txt.join a ys)) else none) = some r := hr
      cases q : strsD xs with
      | none => rw [q] at hr; cases hr
      | some ys =>
        rw [q] at hr
        have hr : (if (ys.map (·.length)).sum + ys.length * a.length ≤ 16777216 then some (PyData.str (Txt.join a ys)) else none) = some r := hr
        by_cases z : (ys.map (·.length)).sum + ys.length * a.length ≤ 16777216
        · rw [if_pos z] at hr
          have hr := Option.some.inj hr
          subst hr
          have ev := strs_of r2 q
          subst ev
          exact ⟨a, b, ys, p1.inv_str, rfl, .inl s2, z, h2 _ F2 H2 (Ext.refl e2.sub) (.str _)⟩
        · rw [if_neg z] at hr; cases hr
  | _ => exact False.elim h1
end
end Mir
namespace Mir
open PySem PySem.Spec PyProof.Rows L2 HotX
/-! ### a def that is handed the handled error: what it answers by the error's class and number -/
structure FnN (P : Program) (w : World) (K : PySem.W.Frag) (mg : Str → Option Value) (base : Heap) (cl : String → Addr) (k : Nat) (f : Addr) (fd : FuncData) (y : Str) (nm : String → Int → R D) : Prop where
  run : ∀ (A : Around) (outer : List Env) (s : Shared) (H : Hp) (args : Args) (Q : VK) (E : XK) (F : Hp) (a dx : Addr) (oe : Obj) (c : String) (n : Int), L2H.RoomH k A → L2H.Hot1 A (a, oe) → L2H.PinOk outer H s (a, oe) → Env0 P w K mg base A outer s H →
    BindsTo s fd args [(y, .ref a)] → ExcC K (cl c) → XfC K (cl c) → PySem.W.findIn K (.ref (cl c)) "at" = some none → Zc (.ref (cl c)) (some dx) oe → Le F H → F dx = some (.xd [(("at" : Str), .int n)]) → tR cl E (poD K) (nm c n) F H Q →
    codeAny (model P w) A (.call (.ref f) args) (CR (L2N.CX P w) outer P w H s Q E) s
noncomputable def enterN (m : Nat) (a dx : Addr) (n : Int) : En := .er a dx n :: List.replicate (m - 1) .un
section
variable {P : Program} {w : World} {K : PySem.W.Frag} {mg : Str → Option Value} {base : Heap} {cl : String → Addr}
theorem fnN_of {x qual y : Str} {st : Stmt} {f : Addr} {fd : FuncData} {N : List Str} {k : Nat} {nm : String → Int → R D} {mb : String → Addr → Addr → En → R Fl} (G : Fun K x qual st f fd) (S : FnScope N [y] (defScope st))
    (hb : ∀ (cdv : Value) (A : Around) (fr : List Env) (s : Shared) (H : Hp) (E : XK) (a dx : Addr) (oe : Obj) (c : String), L2H.RoomH k (A.deeper (envOfC qual (defScope st) s.heap.objs.size f cdv)) →
      Err1 (L2H.cxH (L2N.CX P w) P w K mg base N qual (defScope st) f cdv A fr s H E (a, oe)) (cl c) a dx oe →
      PBl (L2H.cxH (L2N.CX P w) P w K mg base N qual (defScope st) f cdv A fr s H E (a, oe)) cl E (defBody st) (mb c a dx))
    (hm : ∀ (c : String) (n : Int) (a dx : Addr), nm c n = (mb c a dx (enterN N.length a dx n)).bind fun fl => match fl with
      | .rt d => .ok d
      | _ => .no) : FnN P w K mg base cl (k + 1) f fd y nm := by
  obtain ⟨oc, od, kV, doc, pm, an, cdv, ct, osl, rfl, lk, hcd⟩ := G.ex
  refine ⟨fun A outer s H args Q E F a dx oe c n hr hot hpin e0 hbind ec xf na hz le hx hq => ?_⟩
  have KX : K.In s.heap := e0.mod.kin.keeps fun b o e => (e0.bs b o e).1
  have lim : s.heap.NoLimit := e0.mod.nolimit.keeps fun b o e => (e0.bs b o e).1
  have hkind : ∀ z ∈ [(y, Value.ref a)], (defScope st).names.lookup z.1 = some .local ∨ ((defScope st).names.lookup z.1 = some .cell ∧ ((cellsFrom (s.heap.objs.size + 1) (defScope st).names []).lookup z.1).isSome = true) := fun z hz => by
    cases List.mem_singleton.mp hz
    rcases S.par y (List.mem_singleton.mpr rfl) with q | q
    · exact .inl q
    · exact .inr ⟨q, PySem.W.cellsFrom_some _ _ _ (.inl q)⟩
  refine codeAny_call_function hr.depth (KX _ _ lk) rfl S.co S.gen rfl (PySem.W.codeRec_of KX hcd) (hbind _ _ _ _ ?_)
  refine wpAny_newFunctionEnv_cells S.kind hkind fun env he s1 xx => ?_
  subst he
  refine ⟨lim.keeps xx.toInCall.keep, codeAny_func ?_⟩
  have hE : Err1 (L2H.cxH (L2N.CX P w) P w K mg base N qual (defScope st) f cdv A outer s H E (a, oe)) (cl c) a dx oe := ⟨List.mem_singleton.mpr rfl, hot, ec, xf, na, hz⟩
  have ht := hb cdv A outer s H E a dx oe c (hr.deeper _) hE
  have I : Inv (L2H.cxH (L2N.CX P w) P w K mg base N qual (defScope st) f cdv A outer s H E (a, oe)) [] (L2.start N [V.ref a]) H s1 := L2H.inv_startH (ps := [y]) (us := [Value.ref a]) S hpin e0 rfl (show Vals [V.ref a] [Value.ref a] from .cons rfl .nil) xx
  refine wpAny_mono (ht.run [] s1 (L2.start N [V.ref a]) H { nx := fun _ H' => Q .non H', rt := Q } I ?_) (fun fl s' hs => ?_) fun e s' hs => hs
  · refine ⟨F, H, enterN N.length a dx n, F, ⟨?_, Ext.refl le, le, fun i sl q => ?_, own_calm fun i sl q => ?_⟩, ?_⟩
    · unfold enterN L2.start; simp only [List.length_cons, List.length_replicate, List.length_append, List.length_map, List.length_nil]; omega
    · cases i with
      | zero => cases q; exact ⟨rfl, hx⟩
      | succ i =>
        have q : (List.replicate (N.length - 1) Sl.un)[i]? = some sl := q
        rw [List.getElem?_replicate] at q
        split at q
        · cases q; trivial
        · cases q
    · cases i with
      | zero => cases q; trivial
      | succ i =>
        have q : (List.replicate (N.length - 1) Sl.un)[i]? = some sl := q
        rw [List.getElem?_replicate] at q
        split at q
        · cases q; trivial
        · cases q
    · rw [hm c n a dx] at hq
      cases hr : mb c a dx (enterN N.length a dx n) with
      | no => rw [hr] at hq; exact hq
      | ex c n => rw [hr] at hq; exact hq
      | ok fl =>
        rw [hr] at hq
        cases fl with
        | rt d => exact hq
        | _ => exact hq.elim
  · have fin : ∀ {σ' : L2.St} {H' : Hp} {v : V} {u : Value}, Inv (L2H.cxH (L2N.CX P w) P w K mg base N qual (defScope st) f cdv A outer s H E (a, oe)) [] σ' H' s' → RelV v u → Q v H' → CE outer P w H s Q u s' :=
      fun {σ' H' v u} J rv q => ⟨v, H', J.os, J.bare, J.base, J.hok, rv, q⟩
    cases fl with
    | ret u =>
      obtain ⟨v, σ', H', J, rv, q⟩ := hs
      exact fin J rv q
    | next =>
      obtain ⟨σ', H', J, q⟩ := hs
      exact fin (v := V.non) (u := Value.none) J rfl q
    | brk =>
      obtain ⟨_, _, _, q⟩ := hs
      exact False.elim q
    | cont =>
      obtain ⟨_, _, _, q⟩ := hs
      exact False.elim q
end
end Mir
namespace Mir
open PySem PySem.Spec PyProof.Rows L2 HotX
/-- what the written part says of a class that may be caught -/
structure CatchC (K : PySem.W.Frag) (C : Addr) : Prop where
  ec : ExcC K C
  xf : XfC K C
  na : PySem.W.findIn K (.ref C) "at" = some none
section
variable {X : Cx} {cl : String → Addr}
theorem takes_no {X : Cx} : L2N.Takes X (fun _ _ _ _ => False) := fun u s' ⟨_, _, _, _, _, _, _, _, _, _, _, _, _, _, _, _, w⟩ => w.elim
/-- name(e), e the handled error -/
theorem pe_callN {k i : Nat} {f a dx : Addr} {oe : Obj} {fd : FuncData} {x y : Str} {nm : String → Int → R D} {e : Expr} {q pos : Pos} {c : String} {n : Int} (G : FnN X.prog X.w X.K X.mg X.base cl k f fd y nm) (hr : L2H.RoomH k X.A) (hot : L2H.Hot1 X.A (a, oe)) (hpn : (a, oe) ∈ X.pn) (hz : Zc (.ref (cl c)) (some dx) oe)
    (cc : CatchC X.K (cl c)) (hg : Gl X x) (hm : X.mg x = some (.ref f)) (hk : PySem.W.keepIn X.K (.ref f) = true) (hb : Binds X.K fd [y] []) (he : PE X e (tVar i))
    (hdb : (x == ("__debug__" : Str)) = false := by decide) (hs : starEach (e :: []) X.env = (false, eval e X.env) :: starEach [] X.env := by rfl) (hpl : (backTo pos (starEach [] X.env)).any (·.1) = false := by rfl) :
    PE X (.Call (.Name x q) [e] [] pos) (fun σ H Q => σ[i]? = some (some (.ref a)) ∧ ∃ F, Le F H ∧ F dx = some (.xd [(("at" : Str), .int n)]) ∧ tR cl (fun _ _ _ => False) (poD X.K) (nm c n) F H Q) := by
  refine ⟨fun pins s σ H Q I ⟨hσ, F, le, hx, hq⟩ => ?_⟩
  refine wpAny_Call_Name_kw (ld_glob I hg hm ?_ hdb)
  refine PySem.W.callWith_K (h₀ := X.base) I.ok.mod.kin hk (thn ((pa_one he hs).run pos pins s σ H (fun vs H1 => vs = [V.ref a] ∧ H1 = H) I ⟨_, hσ, rfl, rfl⟩) fun us s1 ⟨vs, H1, I1, r, ev, eh⟩ => ⟨I1.kIn, ?_⟩) hs hpl
  subst ev eh
  obtain ⟨u, rfl, ru⟩ := vals1 r
  cases ru
  have b := hb s1 [.ref a] I1.kIn rfl
  have P1 := I1.pin (a, oe) (List.mem_append_left _ hpn)
  have hpin : L2H.PinOk X.stack H1 s1 (a, oe) := ⟨P1.1, P1.2.1, fun hm => (List.mem_cons.mp (I1.stkSub a hm)).elim P1.2.2.1 P1.2.2.2.1, P1.2.2.2.2⟩
  refine wpAny_call (codeAny_mono (G.run X.A X.stack s1 H1 ⟨[.ref a], []⟩ Q (fun _ _ _ => False) F a dx oe c n hr hot hpin I1.env0 b cc.ec cc.xf cc.na hz le hx hq) fun r s' hq' => ?_)
  cases r with
  | error er => exact L2N.passes_call takes_no (fun _ _ _ _ h => h) pins σ H1 s1 er s' I1 hq'
  | ok fl =>
    cases fl with
    | ret u => exact I1.after hq'
    | next => exact False.elim hq'
    | brk => exact False.elim hq'
    | cont => exact False.elim hq'
/-- try: body / except base as e: return name(e) -/
noncomputable def tryS (cs : List String) (b : En → R Fl) (nm : String → Int → R D) : En → R Fl := fun ρ => match b ρ with
  | .ex c k => if cs.contains c = true then (nm c k).calm.bind fun d => .ok (.rt d) else .no
  | r => r
theorem st_try {W : XK} {k i : Nat} {x n y fx : Str} {D0 f : Addr} {fd : FuncData} {cs : List String} {body : List Stmt} {mb : En → R Fl} {nm : String → Int → R D} {np np2 q p2 p3 pos pos' : Pos} (hs : X.stack = X.env :: X.outer) (hf : X.env.frame = some X.env.locals) (hN : X.N.Nodup) (hi : X.N[i]? = some n) (hln : X.env.kindOf n = some .local)
    (hc : Names X x (.ref D0)) (hcs : ∀ c, cs.contains c = true → CatchC X.K (cl c) ∧ PySem.W.exmOne X.K (.ref (cl c)) (.ref D0) = some true)
    (hb : ∀ (E' : XK) (pn : List (Addr × Obj)) (xe : Value → Shared → Prop), L2N.Takes (X.tr pn xe) (fun c d _ H => E' c d H) → PassesOwn (model X.prog X.w) X.A X.env xe → PBl (X.tr pn xe) cl E' body mb)
    (G : FnN X.prog X.w X.K X.mg X.base cl k f fd y nm) (hr : L2H.RoomH k X.A) (hg : Gl X fx) (hm : X.mg fx = some (.ref f)) (hk : PySem.W.keepIn X.K (.ref f) = true) (hbd : Binds X.K fd [y] []) (tk : L2N.Takes X (fun c d _ H => W c d H))
    (hdb : (fx == ("__debug__" : Str)) = false := by decide) (hdn : (n == ("__debug__" : Str)) = false := by decide) (hcn : (n == ("__classdict__" : Str)) = false := by decide) (hse : starEach [Expr.Name n np2] X.env = (false, eval (.Name n np2) X.env) :: starEach [] X.env := by rfl) (hpl : (backTo p2 (starEach [] X.env)).any (·.1) = false := by rfl) :
    PSt X cl W (.Try body [.ExceptHandler (some (.Name x np)) (some n) [.Return (some (.Call (.Name fx q) [.Name n np2] [] p2)) p3] pos'] [] [] pos) (tryS cs mb nm) := by
  refine PS.imp (L2N.ps_try_as (x := x) (n := n) (c := .ref D0) (i := i) (tb := fun Wx => tS cl (fun c d H => ∀ σ : L2.St, σ.length = X.N.length → Wx c d σ H) X.K mb)
     (ts := fun a cls d Dn σ H => ∃ c dx n0, cls = .ref (cl c) ∧ d = some dx ∧ CatchC X.K (cl c) ∧ σ[i]? = some (some (.ref a)) ∧ ∃ F, Le F H ∧ F dx = some (.xd [(("at" : Str), .int n0)]) ∧ tR cl (fun _ _ _ => False) (poD X.K) (nm c n0) F H Dn.rt)
     (Wout := fun c d _ H => W c d H) hs hf hN hi hln hc tk ?_ ?_) ?_
  · exact fun Wx pn xe t po => hb _ pn xe (fun u s' ⟨a, B, sI, pins, σ, H, cls, d, e, I, nb, up, sky, na, os, ag, w⟩ => t u s' ⟨a, B, sI, pins, σ, H, cls, d, e, I, nb, up, sky, na, os, ag, w σ I.len⟩) po
  · intro a oe cls d pn hz hfd
    refine ⟨fun pins s σ H Dn I ⟨c, dx, n0, ec, ed, cc, hσ, F, le, hx, hq⟩ => ?_⟩
    subst ec ed
    have hot : L2H.Hot1 (X.suite a ((a, oe) :: pn)).A (a, oe) := ⟨rfl, by obtain ⟨vs, e⟩ := hfd; exact ⟨vs, e, hz.2.2 vs e⟩⟩
    exact (pss_one (ps_ret (pe_callN (X := X.suite a ((a, oe) :: pn)) (cl := cl) (i := i) (dx := dx) (c := c) (n := n0) G ⟨hr.dp, hr.un⟩ hot (List.mem_cons_self ..) ⟨hz.1, hz.2.1⟩ cc hg hm hk hbd (pe_var hi (.inl hln) hdn hcn) hdb hse hpl))).run pins s σ H Dn I ⟨hσ, F, le, hx, hq⟩
  · rintro σ H Dn ⟨F0, H0, ρ, F, ok, h⟩
    refine ⟨F0, H0, ρ, F, ok, ?_⟩
    have h : tRS cl W X.K F0 H0 F (match mb ρ with
      | .ex c k => if cs.contains c = true then (nm c k).calm.bind fun d => .ok (.rt d) else .no
      | r => r) Dn := h
    cases hm : mb ρ with
    | ok f =>
      rw [hm] at h
      cases f <;> exact h
    | no => rw [hm] at h; exact h.elim
    | ex c m =>
      rw [hm] at h
      have h : tRS cl W X.K F0 H0 F (if cs.contains c = true then (nm c m).calm.bind fun d => .ok (.rt d) else .no) Dn := h
      by_cases hcc : cs.contains c = true
      · rw [if_pos hcc] at h
        obtain ⟨ca, ex⟩ := hcs c hcc
        intro H' dx le nd hx σ' hl'
        refine ⟨true, ex, fun _ a na => ⟨c, dx, m, rfl, rfl, ca, ?_, upd F0 dx (.xd [(("at" : Str), .int m)]), ?_, upd_same, ?_⟩, fun z => absurd z (by simp)⟩
        · have hi2 : i < σ'.length := by
            rw [hl']
            exact (List.getElem?_eq_some_iff.mp hi).1
          rw [List.getElem?_set_self hi2]
        · intro b o q
          by_cases z : b = dx
          · subst z; rw [upd_same] at q; cases q; exact hx
          · rw [upd_ne z] at q; exact le b o (ok.low b o q)
        · cases hr : nm c m with
          | ok d =>
            rw [hr] at h
            have h : ∀ v F' H', Ext F0 H0 F' H' → Rp X.K F' v d → Dn.rt v H' := h
            refine fun v F' H'' e p => h v F' H'' ⟨?_, e.sub, le.trans e.keep, fun b o q => ?_⟩ p
            · exact ((Le.refl F0).upd (ok.low.none nd)).trans e.le
            · rcases e.new b o q with z | z
              · by_cases y : b = dx
                · subst y; exact .inr nd
                · rw [upd_ne y] at z; exact .inl z
              · exact .inr (le.none z)
          | ex c2 n2 => rw [hr] at h; exact h.elim
          | no => rw [hr] at h; exact h.elim
      · rw [if_neg hcc] at h; exact h.elim
end
end Mir
namespace Mir
open PySem PySem.Spec PyProof.Rows L2
/-! ### slices of lists, a list times an int -/
noncomputable def cutL (xs : List D) (lo hi : Option Int) : List D := (xs.drop (HT.sIx xs.length 0 lo)).take (HT.sIx xs.length xs.length hi - HT.sIx xs.length 0 lo)
theorem cut_rp {K : PySem.W.Frag} {F : Hp} {vs : List V} {xs : List D} (r : RpA K F vs xs) (lo hi : Option Int) : RpA K F (cutV vs lo hi) (cutL xs lo hi) := by
  unfold cutV cutL
  rw [r.length]
  exact (r.drop _).take _
noncomputable def asI : D → R Int
  | .int i => .ok i
  | _ => .no
noncomputable def cutLo (m : En → R (List D)) (a : En → R D) : En → R (List D) := fun ρ => (m ρ).bind fun xs => ((a ρ).bind asI).bind fun i => .ok (cutL xs (some i) none)
noncomputable def cutHi (m : En → R (List D)) (b : En → R D) : En → R (List D) := fun ρ => (m ρ).bind fun xs => ((b ρ).bind asI).bind fun j => .ok (cutL xs none (some j))
noncomputable def cutBo (m : En → R (List D)) (a b : En → R D) : En → R (List D) := fun ρ => (m ρ).bind fun xs => ((a ρ).bind asI).bind fun i => ((b ρ).bind asI).bind fun j => .ok (cutL xs (some i) (some j))
section
variable {X : Cx} {cl : String → Addr} {W : XK} {e a b : Expr} {p2 pos : Pos} {m : En → R (List D)} {ma mb : En → R D}
theorem sl_end {K : PySem.W.Frag} {F1 H1 F2 H2 : Hp} {c : Addr} {vs : List V} {xs : List D} {lo hi : Option Int} {Q : VK} (le : Le F2 H2) (s : SqL K H1 c vs) (k : Le H1 H2) (r : RpA K F1 vs xs) (f : Le F1 F2)
    (h : tR cl W (poF K) (.ok (cutL xs lo hi)) F2 H2 Q) : rSlL K (.ref c) lo hi H2 Q :=
  ⟨c, vs, rfl, k.sql s, fun p np => h _ _ _ (Ext.grow le (o := .lst (cutV vs lo hi)) np) ⟨p, _, rfl, np, le.none np, upd_same, cut_rp (r.mono f) lo hi⟩⟩
theorem pf_cutLo (he : PL X cl W e m) (ha : PD X cl W a ma) : PF X cl W (.Subscript e (.Slice (some a) none none p2) pos) (cutLo m ma) := by
  refine PE.imp (pe_slice sl_list he (po_some ha) po_none) fun σ H Q ⟨F0, H0, ρ, F, ok, h⟩ => ?_
  refine ⟨F0, H0, ρ, F, ok, (tR.bind anti_F h).imp fun v H1 ⟨F1, xs, e1, ⟨c, vs, hv, s1, r1⟩, h1⟩ => ?_⟩
  subst hv
  rw [R.bind_assoc] at h1
  refine ⟨F0, H0, ρ, F1, ok.grow e1, (tR.bind anti_F h1).imp fun u H2 ⟨F2, d, e2, p2, h2⟩ => ?_⟩
  cases d with
  | int i => exact ⟨i, p2.inv_int, sl_end e2.sub s1 e2.keep r1 e2.le h2⟩
  | _ => exact False.elim h2
theorem pf_cutHi (he : PL X cl W e m) (hb : PD X cl W b mb) : PF X cl W (.Subscript e (.Slice none (some b) none p2) pos) (cutHi m mb) := by
  refine PE.imp (pe_slice sl_list he po_none (po_some hb)) fun σ H Q ⟨F0, H0, ρ, F, ok, h⟩ => ?_
  refine ⟨F0, H0, ρ, F, ok, (tR.bind anti_F h).imp fun v H1 ⟨F1, xs, e1, ⟨c, vs, hv, s1, r1⟩, h1⟩ => ?_⟩
  subst hv
  rw [R.bind_assoc] at h1
  refine ⟨F0, H0, ρ, F1, ok.grow e1, (tR.bind anti_F h1).imp fun u H2 ⟨F2, d, e2, p2, h2⟩ => ?_⟩
  cases d with
  | int i => exact ⟨i, p2.inv_int, sl_end e2.sub s1 e2.keep r1 e2.le h2⟩
  | _ => exact False.elim h2
theorem pf_cutBo (he : PL X cl W e m) (ha : PD X cl W a ma) (hb : PD X cl W b mb) : PF X cl W (.Subscript e (.Slice (some a) (some b) none p2) pos) (cutBo m ma mb) := by
  refine PE.imp (pe_slice sl_list he (po_some ha) (po_some hb)) fun σ H Q ⟨F0, H0, ρ, F, ok, h⟩ => ?_
  refine ⟨F0, H0, ρ, F, ok, (tR.bind anti_F h).imp fun v H1 ⟨F1, xs, e1, ⟨c, vs, hv, s1, r1⟩, h1⟩ => ?_⟩
  subst hv
  rw [R.bind_assoc] at h1
  refine ⟨F0, H0, ρ, F1, ok.grow e1, (tR.bind anti_F h1).imp fun u H2 ⟨F2, d, e2, p2, h2⟩ => ?_⟩
  cases d with
  | int i =>
    have h2 : tR cl W (poF X.K) (((mb ρ).bind asI).bind fun j => .ok (cutL xs (some i) (some j))) F2 H2 Q := h2
    rw [R.bind_assoc] at h2
    refine ⟨i, p2.inv_int, F0, H0, ρ, F2, (ok.grow e1).grow e2, (tR.bind anti_F h2).imp fun u H3 ⟨F3, d, e3, p3, h3⟩ => ?_⟩
    cases d with
    | int j => exact ⟨j, p3.inv_int, sl_end e3.sub s1 (e2.keep.trans e3.keep) r1 (e2.le.trans e3.le) h3⟩
    | _ => exact False.elim h3
  | _ => exact False.elim h2
/-- a new list times an int -/
noncomputable def repG (xs : List D) : D → R (List D)
  | .int k => if -(2 ^ 63) ≤ k ∧ k < 2 ^ 63 ∧ xs.length * k.toNat ≤ sizeLine then .ok (List.replicate k.toNat xs).flatten else .no
  | _ => .no
noncomputable def repF (m : En → R (List D)) (mb : En → R D) : En → R (List D) := fun ρ => (m ρ).bind fun xs => (mb ρ).bind (repG xs)
theorem rep_rp {K : PySem.W.Frag} {F : Hp} {vs : List V} {xs : List D} (r : RpA K F vs xs) : ∀ k : Nat, RpA K F (List.replicate k vs).flatten (List.replicate k xs).flatten
  | 0 => .nil
  | k + 1 => by
    rw [List.replicate_succ, List.replicate_succ, List.flatten_cons, List.flatten_cons]
    exact r.append (rep_rp r k)
theorem pf_rep (he : PF X cl W e m) (hb : PD X cl W b mb) : PF X cl W (.BinOp e .Mult b pos) (repF m mb) := by
  refine PE.imp (pe_op op_rep he hb) fun σ H Q ⟨F0, H0, ρ, F, ok, h⟩ => ?_
  refine ⟨F0, H0, ρ, F, ok, (tR.bind anti_F h).imp fun v H1 ⟨F1, xs, e1, ⟨q, vs, hv, q0, qf, q1, r1⟩, h1⟩ => ?_⟩
  subst hv
  refine ⟨F0, H0, ρ, F1, ok.grow e1, (tR.bind anti_F h1).imp fun u H2 ⟨F2, d, e2, p2, h2⟩ => ?_⟩
  cases d with
  | int k =>
    have h2 : tR cl W (poF X.K) (if -(2 ^ 63) ≤ k ∧ k < 2 ^ 63 ∧ xs.length * k.toNat ≤ sizeLine then .ok (List.replicate k.toNat xs).flatten else .no) F2 H2 Q := h2
    by_cases z : -(2 ^ 63) ≤ k ∧ k < 2 ^ 63 ∧ xs.length * k.toNat ≤ sizeLine
    · rw [if_pos z] at h2
      refine ⟨q, k, vs, rfl, p2.inv_int, e2.keep _ _ q1, z.1, z.2.1, by rw [r1.length]; exact z.2.2, fun p np => ?_⟩
      exact h2 _ _ _ (Ext.grow e2.sub (o := .lst (List.replicate k.toNat vs).flatten) np) ⟨p, _, rfl, np, e2.sub.none np, upd_same, rep_rp (r1.mono e2.le) _⟩
    · rw [if_neg z] at h2
      exact h2.elim
  | _ => exact False.elim h2
/-- tuple(list) -/
noncomputable def rTu (K : PySem.W.Frag) : List V → Hp → VK → Prop := fun xs H Q => ∃ p ys, xs = [.ref p] ∧ ((SqL K H p ys ∧ ∀ l, H l = none → Q (.ref l) (upd H l (.tup ys))) ∨ (SqT K H p ys ∧ Q (.ref p) H))
theorem s_tupL {K : PySem.W.Frag} : LS K (rTu K) fun ds => some (.tuple ds) := by
  intro ds r h F H a vs Q le hs rv q
  have h := Option.some.inj h
  subst h
  refine ⟨a, vs, rfl, .inl ⟨hs, fun l nl => ?_⟩⟩
  have fl := le.none nl
  exact q _ (upd F l (.tup vs)) _ ((Ext.grow le (o := .tup vs) nl).freeze nl upd_same fl) (.tup (.inl (.inl upd_same)) (rv.mono ((Le.refl F).upd fl)))
theorem pd_tupOf {p : Pos} (hg : Gl X "tuple") (hm : X.mg "tuple" = none) (ha : PL X cl W a m) (hs : starEach [a] X.env = (false, eval a X.env) :: starEach [] X.env := by rfl) (hpl : (backTo pos (starEach [] X.env)).any (·.1) = false := by rfl) :
    PD X cl W (.Call (.Name "tuple" p) [a] [] pos) (un1 (fun ds => some (PyData.tuple ds)) m) := by
  refine PE.imp (pe_callTy call_tuple_of hg hm (by decide +kernel) (pa_one ha hs) (by decide) (by decide) hs hpl) fun σ H Q ⟨F0, H0, ρ, F, ok, h⟩ => ?_
  refine ⟨F0, H0, ρ, F, ok, (tR.bind anti_D h).imp fun v H1 ⟨F1, xs, e1, ⟨b, vs, hv, s1, r1⟩, h1⟩ => ?_⟩
  subst hv
  exact s_tupL xs _ rfl F1 H1 b vs Q e1.sub s1 r1 h1
/-! ### starred arguments, items of displays -/
noncomputable def argS (m : En → R (List D)) (r : En → R (List D)) : En → R (List D) := fun ρ => (m ρ).bind fun xs => (r ρ).bind fun ys => .ok (xs ++ ys)
theorem pas_starL {es : List Expr} {p : Pos} {r : En → R (List D)} (he : PL X cl W e m) (hr : PAs X cl W es r) (hs : starEach (.Starred e p :: es) X.env = (true, eval e X.env) :: starEach es X.env := by rfl) : PAs X cl W (.Starred e p :: es) (argS m r) :=
  PA.imp (StX.pa_star he hr hs) fun σ H Q ⟨F0, H0, ρ, F, ok, h⟩ => ⟨F0, H0, ρ, F, ok, (tRA.bind h).imp fun v H1 ⟨F1, xs, e1, ⟨b, vs, hv, s1, r1⟩, h1⟩ =>
    ⟨b, vs, hv, .inr s1, F0, H0, ρ, F1, ok.grow e1, (tRA.bindA h1).imp fun ws H2 ⟨F2, ys, e2, p2, h2⟩ => h2 (vs ++ ws) F2 H2 (Ext.refl e2.sub) ((r1.mono e2.le).append p2)⟩⟩
theorem pas_starD {es : List Expr} {p : Pos} {m : En → R D} {r : En → R (List D)} (he : PD X cl W e m) (hr : PAs X cl W es r) (hs : starEach (.Starred e p :: es) X.env = (true, eval e X.env) :: starEach es X.env := by rfl) : PAs X cl W (.Starred e p :: es) (argS (fun ρ => (m ρ).bind items) r) := by
  refine PA.imp (StX.pa_star he hr hs) fun σ H Q ⟨F0, H0, ρ, F, ok, h⟩ => ⟨F0, H0, ρ, F, ok, ?_⟩
  have h : tRA cl W X.K (((m ρ).bind items).bind fun xs => (r ρ).bind fun ys => .ok (xs ++ ys)) F H Q := h
  rw [R.bind_assoc] at h
  refine (tRA.bind h).imp fun v H1 ⟨F1, d, e1, p1, h1⟩ => ?_
  cases d with
  | list xs =>
    obtain ⟨b, vs, rfl, s1, r1⟩ := Rp.inv_list p1
    exact ⟨b, vs, rfl, .inr (.inl (.inl (e1.sub _ _ s1))), F0, H0, ρ, F1, ok.grow e1, (tRA.bindA (show tRA cl W X.K ((r ρ).bind fun ys => .ok (xs ++ ys)) F1 H1 Q from h1)).imp fun ws H2 ⟨F2, ys, e2, p2, h2⟩ => h2 (vs ++ ws) F2 H2 (Ext.refl e2.sub) ((r1.mono e2.le).append p2)⟩
  | tuple xs =>
    obtain ⟨b, vs, rfl, s1, r1⟩ := Rp.inv_tup p1
    exact ⟨b, vs, rfl, .inl (e1.sub.sqt s1), F0, H0, ρ, F1, ok.grow e1, (tRA.bindA (show tRA cl W X.K ((r ρ).bind fun ys => .ok (xs ++ ys)) F1 H1 Q from h1)).imp fun ws H2 ⟨F2, ys, e2, p2, h2⟩ => h2 (vs ++ ws) F2 H2 (Ext.refl e2.sub) ((r1.mono e2.le).append p2)⟩
  | _ => exact False.elim h1
end
end Mir
namespace Mir
open PySem PySem.Spec PyProof.Rows L2 HotX
/-! ### a new list, told as data -/
section
variable {P : Program} {w : World} {K : PySem.W.Frag} {mg : Str → Option Value} {base : Heap} {cl : String → Addr}
noncomputable def tLf (f : List D → R (List D)) : List D → R D := fun ds => (f ds).bind fun xs => .ok (.list xs)
theorem FnG.tl {k n : Nat} {f : Addr} {fd : FuncData} {ps : List Str} {g : List D → R (List D)} (G : FnG P w K mg base k f fd ps (spF cl K n g)) : FnG P w K mg base k f fd ps (spD cl K n (tLf g)) := by
  have i : ∀ vs H Q E, spD cl K n (tLf g) vs H Q E → spF cl K n g vs H Q E := fun vs H Q E ⟨hl, F, ds, le, r, h⟩ => by
    refine ⟨hl, F, ds, le, r, ?_⟩
    unfold tLf at h
    cases hr : g ds with
    | no => rw [hr] at h; exact h
    | ex c n => rw [hr] at h; exact h
    | ok xs =>
      rw [hr] at h
      have h : ∀ v F' H', Ext F H F' H' → Rp K F' v (.list xs) → Q v H' := h
      rintro v F' H' e ⟨p, vs, rfl, np, fp, hp, rr⟩
      exact h _ _ H' (e.freeze np hp fp) (.lst upd_same (rr.mono ((Le.refl F').upd fp)))
  exact ⟨fun vs H Q E h => G.many _ _ _ _ (i _ _ _ _ h), fun A fr s H us vs Q E hr hg e0 hz rv h => G.go A fr s H us vs Q E hr hg e0 hz rv (i _ _ _ _ h)⟩
end
/-! ### [f, g, ..][i](e, ..): one of the module's defs is called -/
structure Fd (X : Cx) (cl : String → Addr) (k n : Nat) (a : Addr) (g : List D → R D) : Prop where
  ex : ∃ fd ps, FnG X.prog X.w X.K X.mg X.base k a fd ps (spD cl X.K n g) ∧ PySem.W.keepIn X.K (.ref a) = true ∧ Binds X.K fd ps []
structure Fds (X : Cx) (cl : String → Addr) (k n : Nat) (es : List Expr) (gs : List (List D → R D)) : Prop where
  ex : ∃ as : List Addr, as.length = gs.length ∧ PA X es (fun _ H Q => Q (as.map V.ref) H) ∧ ∀ (j : Nat) g, gs[j]? = some g → ∃ a, as[j]? = some a ∧ Fd X cl k n a g
section
variable {X : Cx} {cl : String → Addr} {W : XK} {k n : Nat}
theorem fds_nil : Fds X cl k n [] [] := ⟨[], rfl, pa_nil, fun j g h => by simp at h⟩
theorem fds_cons {j : Nat} {x : Str} {p : Pos} {f : Addr} {fd : FuncData} {ps : List Str} {es : List Expr} {g : List D → R D} {gs : List (List D → R D)} (G : FnG X.prog X.w X.K X.mg X.base j f fd ps (spD cl X.K n g)) (hj : j ≤ k) (hg : Gl X x) (hm : X.mg x = some (.ref f)) (hk : PySem.W.keepIn X.K (.ref f) = true) (hb : Binds X.K fd ps [])
    (r : Fds X cl k n es gs) (hdb : (x == ("__debug__" : Str)) = false := by decide) (hs : starEach (.Name x p :: es) X.env = (false, eval (.Name x p) X.env) :: starEach es X.env := by rfl) : Fds X cl k n (.Name x p :: es) (g :: gs) := by
  obtain ⟨as, hl, hp, h⟩ := r
  refine ⟨f :: as, by simp [hl], PA.imp (pa_cons (pe_glob hg hm (v := .ref f) rfl hdb) hp hs) fun σ H Q q => q, fun i g' e => ?_⟩
  cases i with
  | zero =>
    have e := Option.some.inj e
    subst e
    exact ⟨f, rfl, ⟨fd, ps, G.mono hj, hk, hb⟩⟩
  | succ i => exact h i g' e
noncomputable def selM (gs : List (List D → R D)) (mi : En → R D) (ma : En → R (List D)) : En → R D := fun ρ => (mi ρ).bind fun d => match d with
  | .int i => match atI gs i with
    | some g => (ma ρ).bind g
    | none => .no
  | _ => .no
theorem pd_callI {ns : List Expr} {ix e : Expr} {es : List Expr} {gs : List (List D → R D)} {mi : En → R D} {ma : En → R (List D)} {q p pos : Pos} (T : Fds X cl k n ns gs) (hr : Rm X k) (hx : Passes (L2N.CX X.prog X.w) X W) (hi : PD X cl W ix mi) (ha : PAs X cl W (e :: es) ma) (hmany : Many ma n)
    (hn : gs.length ≤ sizeLine := by decide) (hs : PlainIx ix := by intro _ _; rfl) (he : starEach (e :: es) X.env = (false, eval e X.env) :: starEach es X.env := by rfl) (hpl : (backTo pos (starEach es X.env)).any (·.1) = false := by rfl) :
    PD X cl W (.Call (.Subscript (.List ns q) ix p) (e :: es) [] pos) (selM gs mi ma) := by
  obtain ⟨as, hl, hp, hT⟩ := T
  refine ⟨fun pins s σ H Q I h => ?_⟩
  show wpAny _ _ (do callWith pos (← eval (.Subscript (.List ns q) ix p) X.env) [] (backTo pos (starEach (e :: es) X.env)) (backToKw pos (keywordEach [] X.env))) _ _ _
  refine wpAny_bind (thn ((pe_ix ix_list (pe_lst (pos := q) hp) hi hs (pos := p)).run pins s σ H (fun v H1 => ∃ a g, v = .ref a ∧ Fd X cl k n a g ∧ tMA cl W X.K ma σ H1 fun vs H2 => spD cl X.K n g vs H2 Q W) I ?_) fun u s1 ⟨v, H1, I1, r1, a, g, ev, G, h1⟩ => ?_)
  · obtain ⟨F0, H0, ρ, F, ok, h⟩ := h
    refine ⟨by rw [List.length_map, hl]; exact hn, fun p0 np => ?_⟩
    have g0 := Ext.grow ok.sub (o := .lst (as.map V.ref)) np
    refine ⟨F0, H0, ρ, F, ok.grow g0, ?_⟩
    have h : tR cl W (poD X.K) ((mi ρ).bind fun d => match d with
      | .int i => match atI gs i with
        | some g => (ma ρ).bind g
        | none => .no
      | _ => .no) F H Q := h
    refine (tR.bind anti_D (tR.grow anti_D h g0)).imp fun u H2 ⟨F2, d, e2, p2, h2⟩ => ?_
    cases d with
    | int i =>
      cases hj : ixN gs.length i with
      | none =>
        have e0 : atI gs i = none := by unfold atI; rw [hj]; rfl
        have h2 : tR cl W (poD X.K) (match atI gs i with
            | some g => (ma ρ).bind g
            | none => R.no) F2 H2 Q := h2
        rw [e0] at h2
        exact h2.elim
      | some j =>
        have e0 : atI gs i = gs[j]? := by unfold atI; rw [hj]; rfl
        have h2 : tR cl W (poD X.K) (match atI gs i with
            | some g => (ma ρ).bind g
            | none => R.no) F2 H2 Q := h2
        rw [e0] at h2
        cases hg : gs[j]? with
        | none => rw [hg] at h2; exact h2.elim
        | some g =>
          rw [hg] at h2
          obtain ⟨a, ha1, G⟩ := hT j g hg
          refine ⟨p0, as.map V.ref, i, .ref a, rfl, p2.inv_int, .inl (.inl (e2.keep _ _ upd_same)), ?_, a, g, rfl, G, app_go anti_D hmany (f' := g) ⟨F0, H0, ρ, F2, (ok.grow g0).grow e2, h2⟩⟩
          unfold atI
          rw [List.length_map, hl, hj]
          show (as.map V.ref)[j]? = _
          rw [List.getElem?_map, ha1]
          rfl
    | _ => exact h2.elim
  · subst ev
    cases r1
    obtain ⟨fd, ps, G, hk, hb⟩ := G.ex
    exact PySem.W.callWith_K (h₀ := X.base) I1.ok.mod.kin hk (thn (ha.run pos pins s1 σ H1 _ I1 h1) fun us s2 ⟨vs, H2, I2, r, q⟩ => ⟨I2.kIn, run_g G hr hb hx I2 r q⟩) he hpl
end
end Mir
namespace Mir
open PySem PySem.Spec PyProof.Rows L2 HotX
/-! ### the head's facts about the program's errors -/
/-- what the names reach, the static table and the cells of its functions with it -/
noncomputable def asE (g : Addr → Option Obj) (n : Nat) : List Addr := cStatics :: sysModules :: ((He.asG g n) ++ (He.asG g n).flatMap fun a => match g a with
  | some ⟨_, _, .func fd, _⟩ => fd.closure.map (·.2)
  | _ => [])
noncomputable def iniAd (K : PySem.W.Frag) (B : Str) : Addr := He.ma K (He.ga K B) "__init__"
noncomputable def iniObs (K : PySem.W.Frag) (B : Str) : He.FnV := match K.lookup (iniAd K B) with
  | some ⟨_, _, .func fd, _⟩ => some (fd.name, fd.qualname, fd.params, fd.body, fd.scope, fd.globals, [], fd.defaults, fd.builtins)
  | _ => none
noncomputable def noneB : Value → Bool
  | .none => true
  | _ => false
noncomputable def cellB (K : PySem.W.Frag) (cc D : Addr) : Bool := match K.lookup cc with
  | some ⟨_, _, .cell (some (.ref d)), _⟩ => decide (d = D)
  | _ => false
noncomputable def fileB (K : PySem.W.Frag) (c : Addr) (file : Str) : Bool := match K.lookup c with
  | some ⟨_, _, .fields vs, _⟩ => (match (vs[2]? : Option Value) with
    | some (.str f _) => decide (f = file)
    | _ => false)
  | _ => false
noncomputable def iniB (K : PySem.W.Frag) (B qual file : Str) : Bool := match K.lookup (iniAd K B) with
  | some ⟨_, _, .func fd, _⟩ => (match fd.closure with
      | [(x, cc)] => decide (x = ("__class__" : Str)) && cellB K cc (He.ga K B)
      | _ => false) && (noneB fd.kwdefaults && (fd.annotations.isNone && (match fd.code with
      | .ref c => PySem.W.codeIn K (.ref c) qual && fileB K c file
      | _ => false)))
  | _ => false
theorem cellB_ok {K : PySem.W.Frag} {cc D : Addr} (h : cellB K cc D = true) : ∃ cl cld csl, K.lookup cc = some ⟨cl, cld, .cell (some (.ref D)), csl⟩ := by
  unfold cellB at h
  split at h
  · rename_i e
    rw [of_decide_eq_true h] at e
    exact ⟨_, _, _, e⟩
  · cases h
theorem fileB_ok {K : PySem.W.Frag} {c : Addr} {file : Str} (h : fileB K c file = true) : ∃ ccl cdd vs ccs tf, K.lookup c = some ⟨ccl, cdd, .fields vs, ccs⟩ ∧ vs[2]? = some (.str file tf) := by
  unfold fileB at h
  split at h
  · rename_i e
    split at h
    · rename_i e2
      rw [of_decide_eq_true h] at e2
      exact ⟨_, _, _, _, _, e, e2⟩
    · cases h
  · cases h
theorem ini_dec {K : PySem.W.Frag} {B qual file name : Str} {params : Arguments} {body : List Stmt} {scope : Scope} (h : iniB K B qual file = true) (e : iniObs K B = some (name, qual, params, .stmts body, scope, mainGlobals, [], .none, builtinsNs)) :
    ∃ (cc c : Addr) (doc pm ct : Value) (oc : Value) (od : Option Addr) (osl : Array (Option Value)), K.lookup (iniAd K B) = some ⟨oc, od, .func ((⟨name, qual, params, body, scope, [(("__class__" : Str), cc)], c⟩ : NdefX.NF).fd doc pm ct), osl⟩ ∧
      PySem.W.codeIn K (.ref c) qual = true ∧ (∃ ccl cdd vs ccs tf, K.lookup c = some ⟨ccl, cdd, .fields vs, ccs⟩ ∧ vs[2]? = some (.str file tf)) ∧ ∃ cl cld csl, K.lookup cc = some ⟨cl, cld, .cell (some (.ref (He.ga K B))), csl⟩ := by
  unfold iniB at h
  unfold iniObs at e
  cases q : K.lookup (iniAd K B) with
  | none => rw [q] at h; cases h
  | some o =>
    obtain ⟨oc, od, dt, osl⟩ := o
    rw [q] at h e
    cases dt with
    | func fd =>
      obtain ⟨n1, n2, n3, n4, n5, n6, n7, n8, n9, n10, n11, n12, n13, n14, n15⟩ := fd
      have e2 : (some (n1, n2, n3, n4, n5, n6, [], n8, n15) : He.FnV) = some (name, qual, params, .stmts body, scope, mainGlobals, [], .none, builtinsNs) := e
      simp only [Option.some.injEq, Prod.mk.injEq] at e2
      obtain ⟨h1, h2, h3, h4, h5, h6, _, h8, h9⟩ := e2
      subst h1 h2 h3 h4 h5 h6 h8 h9
      replace h : ((match (generalizing := false) n7 with
        | [(x, cc)] => decide (x = ("__class__" : Str)) && cellB K cc (He.ga K B)
        | _ => false) && (noneB n9 && (n12.isNone && (match (generalizing := false) n13 with
        | .ref c => PySem.W.codeIn K (.ref c) n2 && fileB K c file
        | _ => false)))) = true := h
      obtain ⟨a1, k1⟩ := He.ba h
      obtain ⟨a2, k2⟩ := He.ba k1
      obtain ⟨a3, a4⟩ := He.ba k2
      clear h k1 k2
      obtain rfl : n9 = .none := by cases n9 <;> first | rfl | cases a2
      obtain rfl : n12 = none := by cases n12 <;> first | rfl | cases a3
      split at a1
      · rename_i x cc
        obtain ⟨b1, b2⟩ := He.ba a1
        have b1 := of_decide_eq_true b1
        subst b1
        split at a4
        · rename_i c
          obtain ⟨c1, c2⟩ := He.ba a4
          exact ⟨cc, c, n10, n11, n14, oc, od, osl, rfl, c1, fileB_ok c2, cellB_ok b2⟩
        · cases a4
      · cases a1
    | _ => cases h
theorem rm_tr {X : Cx} {pn : List (Addr × Obj)} {xe : Value → Shared → Prop} {k : Nat} (r : Rm X k) : Rm (X.tr pn xe) k := ⟨r.room, r.g⟩
theorem bl_never {X : Cx} {cl : String → Addr} {W : XK} {sts : List Stmt} : PBl X cl W sts noS := ⟨fun pins s σ H Q I ⟨_, _, _, _, _, h⟩ => h.elim⟩
theorem isiM_e {a dx : Addr} {n : Int} {b : Bool} {ρ : En} : isiM 0 a dx b (.er a dx n :: ρ) = .ok (.bool b) := by
  show (if a = a ∧ dx = dx then R.ok (PyData.bool b) else R.no) = _
  rw [if_pos ⟨rfl, rfl⟩]
theorem atM_e {a dx : Addr} {n : Int} {ρ : En} : atM 0 a dx (.er a dx n :: ρ) = .ok (.int n) := by
  show (if a = a ∧ dx = dx then R.ok (PyData.int n) else R.no) = _
  rw [if_pos ⟨rfl, rfl⟩]
/-! a class below the base -/
noncomputable def oexB (K : PySem.W.Frag) (C : Addr) : Bool := match K.lookup C with
  | some ⟨.type t, _, .cls cd, sl⟩ => (t == "type") && ((match cd.mro with
      | .ref c :: bm => decide (c = C) && PySem.HandSPX.refsVE bm
      | _ => false) && (cd.hasDict && (!cd.hasDel && (match sl.toList with
      | [_, _, _, _, some (.builtin i), _] => i == "ValueError.__new__"
      | _ => false))))
  | _ => false
theorem oexB_ok {K : PySem.W.Frag} {C : Addr} (h : oexB K C = true) : ∃ nm q N bs bm sn sub ab col dd k0 k1 k2 k3 k5, K.lookup C = some (excClassObj nm q C N bs bm true sn sub ab col dd k0 k1 k2 k3 k5 "ValueError.__new__") ∧ PySem.HandSPX.refsVE bm = true := by
  unfold oexB at h
  split at h
  · rename_i t od cd sl e
    obtain ⟨nm, bs, mro, N, q, hd, sn, sub, ab, col, dl⟩ := cd
    obtain ⟨a0, h⟩ := He.ba h
    obtain ⟨a1, h⟩ := He.ba h
    obtain ⟨a2, h⟩ := He.ba h
    obtain ⟨a3, a4⟩ := He.ba h
    have a0 := beq_iff_eq.mp a0
    subst a0
    have a2 : hd = true := a2
    subst a2
    have a3 : (!dl) = true := a3
    have a3 : dl = false := by cases dl <;> first | rfl | cases a3
    subst a3
    split at a1
    · rename_i c bm hm
      have hm : mro = .ref c :: bm := hm
      subst hm
      obtain ⟨b1, b2⟩ := He.ba a1
      have b1 := of_decide_eq_true b1
      subst b1
      split at a4
      · rename_i k0 k1 k2 k3 i k5 hs
        have a4 := beq_iff_eq.mp a4
        subst a4
        have hs : sl = #[k0, k1, k2, k3, some (.builtin "ValueError.__new__"), k5] := by
          obtain ⟨l⟩ := sl
          have hs : l = _ := hs
          rw [hs]
        subst hs
        exact ⟨nm, q, N, bs, bm, sn, sub, ab, col, od, k0, k1, k2, k3, k5, e, b2⟩
      · cases a4
    · cases a1
  · cases h
abbrev eqB (a b : Option Bool) : Bool := decide (a = b)
noncomputable def excB (K : PySem.W.Frag) (C : Addr) : Bool :=
  He.eqO (PySem.W.findIn K (.ref C) "__getattribute__") (some (some (.builtin "BaseException.__getattribute__"))) && (He.eqO (PySem.W.findIn K (.ref C) "__getattr__") (some none) && (eqB (PySem.W.subIn K (.ref C) (.type "BaseException")) (some true) && (PySem.W.hasDictIn K C &&
  (He.eqO (PySem.W.findIn K (.ref C) "__class__") (some (some (.builtin "object.__class__"))) && (He.eqO (PySem.W.specialIn K (.builtin "object.__class__") "__get__") (some (some (.builtin "getset_descriptor.__get__"))) && (eqB (PySem.W.takesIn K (.builtin "object.__class__")) (some true) && eqB (PySem.W.mroIn K C (.type "object")) (some true)))))))
theorem excB_ok {K : PySem.W.Frag} {C : Addr} (h : excB K C = true) : ExcC K C := by
  obtain ⟨h1, h⟩ := He.ba h
  obtain ⟨h2, h⟩ := He.ba h
  obtain ⟨h3, h⟩ := He.ba h
  obtain ⟨h4, h⟩ := He.ba h
  obtain ⟨h5, h⟩ := He.ba h
  obtain ⟨h6, h⟩ := He.ba h
  obtain ⟨h7, h8⟩ := He.ba h
  exact ⟨He.eqO_ok h1, He.eqO_ok h2, of_decide_eq_true h3, h4, He.eqO_ok h5, He.eqO_ok h6, of_decide_eq_true h7, of_decide_eq_true h8⟩
noncomputable def leafB (K : PySem.W.Frag) (D fI C : Addr) : Bool :=
  oexB K C && (He.eqO (PySem.W.findIn K (.ref C) "__setattr__") (some (some (.builtin "object.__setattr__"))) && (eqB (PySem.W.subIn K (.ref C) (.type "BaseException")) (some true) && (decide (PySem.W.typeIn K (.ref C) = some (.type "type")) && (PySem.W.keepIn K (.ref C) &&
  (eqB (PySem.W.mroIn K C (.ref D)) (some true) && (eqB (PySem.W.subIn K (.ref C) (.type "ValueError")) (some true) && (He.eqO (PySem.W.ks_superIn K C D "__init__") (some (some (.builtin "ValueError.__init__"))) && (He.eqO (PySem.W.findIn K (.ref C) "at") (some none) &&
  (He.eqO (PySem.W.findIn K (.ref C) "__init__") (some (some (.ref fI))) && (excB K C && eqB (PySem.W.exmOne K (.ref C) (.ref D)) (some true)))))))))))
theorem leafB_ok {K : PySem.W.Frag} {D fI C : Addr} (h : leafB K D fI C = true) : ErrC K D C ∧ PySem.W.findIn K (.ref C) "__init__" = some (some (.ref fI)) ∧ CatchC K C ∧ PySem.W.exmOne K (.ref C) (.ref D) = some true := by
  obtain ⟨h1, h⟩ := He.ba h
  obtain ⟨h2, h⟩ := He.ba h
  obtain ⟨h3, h⟩ := He.ba h
  obtain ⟨h4, h⟩ := He.ba h
  obtain ⟨h5, h⟩ := He.ba h
  obtain ⟨h6, h⟩ := He.ba h
  obtain ⟨h7, h⟩ := He.ba h
  obtain ⟨h8, h⟩ := He.ba h
  obtain ⟨h9, h⟩ := He.ba h
  obtain ⟨h10, h⟩ := He.ba h
  obtain ⟨h11, h12⟩ := He.ba h
  have E := excB_ok h11
  exact ⟨⟨⟨oexB_ok h1, He.eqO_ok h2, of_decide_eq_true h3, of_decide_eq_true h4, h5⟩, of_decide_eq_true h6, of_decide_eq_true h7, He.eqO_ok h8, He.eqO_ok h9⟩, He.eqO_ok h10, ⟨E, ⟨E.hg, E.hk, E.hs, E.hd⟩, He.eqO_ok h9⟩, of_decide_eq_true h12⟩
/-- which of the classes is which -/
noncomputable def kitB (K : PySem.W.Frag) (C C' : Addr) (b : Bool) : Bool := eqB (PySem.W.kitOne K (.ref C) (.ref C')) (some b)
theorem kitB_ok {K : PySem.W.Frag} {C C' : Addr} {b : Bool} (h : kitB K C C' b = true) : PySem.W.kitOne K (.ref C) (.ref C') = some b := of_decide_eq_true h
noncomputable def kitsB (K : PySem.W.Frag) (xs : List String) : Bool := xs.all fun c => xs.all fun c' => kitB K (He.ga K (Str.ofString c)) (He.ga K (Str.ofString c')) (c == c')
theorem kitsB_ok {K : PySem.W.Frag} {xs : List String} {c c' : String} (h : kitsB K xs = true) (hc : xs.contains c = true) (hc' : xs.contains c' = true) : PySem.W.kitOne K (.ref (He.ga K (Str.ofString c))) (.ref (He.ga K (Str.ofString c'))) = some (c == c') := by
  have a := List.all_eq_true.mp h c (List.contains_iff_mem.mp hc)
  exact kitB_ok (List.all_eq_true.mp a c' (List.contains_iff_mem.mp hc'))
/-! ### a module's tuple of numbers, texts -/
noncomputable def atomB : Value → D → Bool
  | .int i _, .int j => decide (i = j)
  | .str x _, .str y => decide (x = y)
  | _, _ => false
noncomputable def atomsB : List Value → List D → Bool
  | [], [] => true
  | v :: vs, d :: ds => atomB v d && atomsB vs ds
  | _, _ => false
noncomputable def tupB (K : PySem.W.Frag) (a : Addr) (ds : List D) : Bool := match K.lookup a with
  | some ⟨.type t, _, .seq its _, _⟩ => (t == "tuple") && (decide (its.size ≤ sizeLine) && atomsB its.toList ds)
  | _ => false
theorem atomsB_ok {K : PySem.W.Frag} : ∀ {us : List Value} {ds : List D}, atomsB us ds = true → ∃ xs : List V, Vals xs us ∧ ∀ F, RpA K F xs ds
  | [], [], _ => ⟨[], .nil, fun _ => .nil⟩
  | u :: us, d :: ds, h => by
    obtain ⟨h1, h2⟩ := He.ba (show (atomB u d && atomsB us ds) = true from h)
    obtain ⟨xs, r, q⟩ := atomsB_ok (K := K) h2
    cases u <;> cases d <;> first
      | cases h1
      | (rename_i i t j
         have e := of_decide_eq_true h1
         subst e
         first
           | exact ⟨.int _ :: xs, .cons ⟨_, rfl⟩ r, fun F => .cons (.int _) (q F)⟩
           | exact ⟨.str _ :: xs, .cons ⟨_, rfl⟩ r, fun F => .cons (.str _) (q F)⟩)
  | [], _ :: _, h => by cases h
  | _ :: _, [], h => by cases h
theorem tupB_ok {K : PySem.W.Frag} {a : Addr} {ds : List D} (h : tupB K a ds = true) (F : Hp) : Rp K F (.ref a) (.tuple ds) := by
  unfold tupB at h
  split at h
  · rename_i t od its n sl e
    obtain ⟨a0, h⟩ := He.ba h
    obtain ⟨a1, a2⟩ := He.ba h
    have a0 := beq_iff_eq.mp a0
    subst a0
    obtain ⟨xs, r, q⟩ := atomsB_ok (K := K) a2
    exact .tup (.inr ⟨_, its, n, e, rfl, rfl, of_decide_eq_true a1, r⟩) (q F)
  · cases h
/-- the facts with those of the errors: the base's name, the file, the base's def, the classes below it, the module's tuples -/
structure WantE where
  w : Want
  B : Str
  file : Str
  ini : Stmt
  qual : Str
  name : Str
  leaves : List String
  tups : List (Str × List D)
noncomputable def clsB (K : PySem.W.Frag) (B : Str) : Bool := (PySem.W.clsIn K (He.ga K B)).isSome && (He.eqO (PySem.W.nsIn K cStatics "thirdparty.any") (some none) && (decide (PySem.W.typeIn K (.ref (iniAd K B)) = some (.type "function")) && He.eqO (PySem.W.nsIn K mainGlobals "super") (some none)))
noncomputable def WantE.eok (t : WantE) (K : PySem.W.Frag) : Bool := iniB K t.B t.qual t.file && (clsB K t.B && (kitsB K t.leaves && ((t.leaves.all fun c => leafB K (He.ga K t.B) (iniAd K t.B) (He.ga K (Str.ofString c))) && t.tups.all fun p => tupB K (He.ga K p.1) p.2)))
noncomputable def WantE.obs (t : WantE) (K : PySem.W.Frag) : He.Al := (t.w.ok K && t.eok K, iniObs K t.B :: t.w.fn.map fun d => He.fnObs K d.at_)
noncomputable def WantE.val (t : WantE) : He.Al := (true, some (t.name, t.qual, defArgs t.ini, .stmts (defBody t.ini), defScope t.ini, mainGlobals, [], .none, builtinsNs) :: t.w.fn.map He.FnD.val)
noncomputable def WantE.Says (t : WantE) (K : PySem.W.Frag) : Prop := t.obs K = t.val
noncomputable def WantE.obsG (t : WantE) (n : Nat) (g : Addr → Option Obj) : He.Al := t.obs (He.frG g (asE g n))
noncomputable def WantE.hook (t : WantE) (n : Nat) : PySem.W.Hook where
  α := He.Al
  obs := fun s => t.obsG n s.heap.get?
  val := fun _ => t.val
  says := fun _ h => ∃ K : PySem.W.Frag, K.In h ∧ t.Says K
  of := fun _ _ e => ⟨_, He.frG_in, e⟩
  keeps := fun _ _ _ ⟨K, hK, c⟩ k => ⟨K, PySem.W.Frag.In.keeps hK k, c⟩
theorem WantE.obsG_eq {t : WantE} {n : Nat} {g : Addr → Option Obj} {s : Shared} (h : ∀ a, g a = s.heap.get? a) : t.obsG n g = (t.hook n).obs s := by
  have e : g = s.heap.get? := funext h
  rw [e] <;> rfl
section
variable {t : WantE} {K : PySem.W.Frag} {h : Heap} {mg : Str → Option Value}
theorem WantE.Says.want (c : t.Says K) : t.w.Says K := by
  have c1 : (t.w.ok K && t.eok K) = true := congrArg (fun z : He.Al => z.1) c
  have c2 : (iniObs K t.B :: t.w.fn.map fun d => He.fnObs K d.at_) = some (t.name, t.qual, defArgs t.ini, .stmts (defBody t.ini), defScope t.ini, mainGlobals, [], .none, builtinsNs) :: t.w.fn.map He.FnD.val := congrArg (fun z : He.Al => z.2) c
  show (t.w.ok K, t.w.fn.map fun d => He.fnObs K d.at_) = (true, t.w.fn.map He.FnD.val)
  rw [(He.ba c1).1, (List.cons.inj c2).2]
theorem WantE.Says.eobs (c : t.Says K) : iniObs K t.B = some (t.name, t.qual, defArgs t.ini, .stmts (defBody t.ini), defScope t.ini, mainGlobals, [], .none, builtinsNs) := by
  have c2 : (iniObs K t.B :: t.w.fn.map fun d => He.fnObs K d.at_) = some (t.name, t.qual, defArgs t.ini, .stmts (defBody t.ini), defScope t.ini, mainGlobals, [], .none, builtinsNs) :: t.w.fn.map He.FnD.val := congrArg (fun z : He.Al => z.2) c
  exact (List.cons.inj c2).1
theorem WantE.Says.e (c : t.Says K) : iniB K t.B t.qual t.file = true ∧ clsB K t.B = true ∧ kitsB K t.leaves = true ∧ ∀ x, t.leaves.contains x = true → leafB K (He.ga K t.B) (iniAd K t.B) (He.ga K (Str.ofString x)) = true := by
  have c1 : (t.w.ok K && t.eok K) = true := congrArg (fun z : He.Al => z.1) c
  obtain ⟨a1, d⟩ := He.ba (He.ba c1).2
  obtain ⟨a2, d⟩ := He.ba d
  obtain ⟨a3, d⟩ := He.ba d
  exact ⟨a1, a2, a3, fun x hx => List.all_eq_true.mp (He.ba d).1 x (List.contains_iff_mem.mp hx)⟩
theorem WantE.Says.tup (c : t.Says K) (i : Nat) {x : Str} {ds : List D} (hi : t.tups[i]? = some (x, ds) := by rfl) (F : Hp) : Rp K F (.ref (He.ga K x)) (.tuple ds) := by
  have c1 : (t.w.ok K && t.eok K) = true := congrArg (fun z : He.Al => z.1) c
  obtain ⟨a1, d⟩ := He.ba (He.ba c1).2
  obtain ⟨a2, d⟩ := He.ba d
  obtain ⟨a3, d⟩ := He.ba d
  exact tupB_ok (List.all_eq_true.mp (He.ba d).2 _ (List.mem_of_getElem? hi)) F
/-- a class's first def -/
noncomputable def clsIni : Stmt → Stmt
  | .ClassDef _ _ _ b _ _ _ _ _ _ _ => b.getD 0 (.Pass ⟨0, 0, 0, 0⟩)
  | s => s
/-- the text of the base's __init__, as ini_ok asks it -/
structure IniTxt (st : Stmt) (qual name : Str) : Prop where
  ok : ∀ (cc c : Addr), let F : NdefX.NF := ⟨name, qual, defArgs st, defBody st, defScope st, [(("__class__" : Str), cc)], c⟩
    ∃ p0 p1 p2 p3 p4 p5 p6 p7 p8 p9 ar ars, F.body = iniBody p0 p1 p2 p3 p4 p5 p6 p7 p8 p9 ∧ F.params.posonlyargs ++ F.params.args = ar :: ars ∧ ar.arg = "self" ∧ NdefX.NScope iniN iniP ["__class__"] F.scope ∧
      F.scope.names.lookup ("super" : Str) = some .globalImplicit ∧ (∀ f L, interactive (NdefX.envF F f L) = false) ∧
      (∀ f L, swapsWith (.Call (.Attribute (.Call (.Name "super" p0) [] [] p1) "__init__" p2) [.Name "at" p3] [] p4) none p5.line (NdefX.envF F f L) = pure false) ∧
      (∀ f L, ∃ pl, eval (.Call (.Attribute (.Call (.Name "super" p0) [] [] p1) "__init__" p2) [.Name "at" p3] [] p4) (NdefX.envF F f L) = (do
        let ov ← attributeBase (.Call (.Name "super" p0) [] [] p1) "__init__" (NdefX.envF F f L) (eval (.Call (.Name "super" p0) [] [] p1) (NdefX.envF F f L))
        standAt p2.atName
        let (fn, first) ← holding [ov] (getMethod ov "__init__" pl)
        callWith p4 fn first (backTo p4 (starEach [.Name "at" p3] (NdefX.envF F f L))) []))
  binds : ∀ (cc c : Addr) (doc pm ct : Value) (us : List Value), us.length = iniP.length → bindArgs ((⟨name, qual, defArgs st, defBody st, defScope st, [(("__class__" : Str), cc)], c⟩ : NdefX.NF).fd doc pm ct) ⟨us, []⟩ = pure (iniP.zip us)
theorem WantE.Says.ini_ok {P : Program} {w : World} (c : t.Says K) (X : K.In h) (G : h.Ns mainGlobals mg) (T : IniTxt t.ini t.qual t.name) (htop : (P.main.scope.names.lookup ("super" : Str)).isSome = false) (hfile : ((P.main.file : Str) == t.file) = true) (base : Heap) :
    IniOk P w K mg base (He.ga K t.B) (iniAd K t.B) := by
  obtain ⟨e1, e2, _, _⟩ := c.e
  obtain ⟨b1, d⟩ := He.ba e2
  obtain ⟨b2, d⟩ := He.ba d
  obtain ⟨b3, b4⟩ := He.ba d
  obtain ⟨cc, cd, doc, pm, ct, oc, od, osl, lk, hcd, ⟨ccl, cdd, vs, ccs, tf, hcod, hvs⟩, hcell⟩ := ini_dec e1 c.eobs
  obtain ⟨p0, p1, p2, p3, p4, p5, p6, p7, p8, p9, ar, ars, h1, h2, h3, h4, h5, h6, h7, h8⟩ := T.ok cc cd
  have IK : IniK P K mg (He.ga K t.B) (iniAd K t.B) cc ⟨t.name, t.qual, defArgs t.ini, defBody t.ini, defScope t.ini, [(("__class__" : Str), cc)], cd⟩ doc pm ct :=
    ⟨rfl, ⟨oc, od, osl, lk⟩, hcd, ⟨ccl, cdd, vs, ccs, t.file, tf, hcod, hvs, hfile⟩, hcell, Option.isSome_iff_exists.mp b1, He.eqO_ok b2, PySem.W.mg_none_of X G (He.eqO_ok b4), htop⟩
  exact ⟨⟨_, fun k => Mir.ini_ok IK h1 h2 h3 h4 h5 h6 h7 h8, Binds.all (T.binds cc cd doc pm ct)⟩, of_decide_eq_true b3⟩
theorem WantE.Says.leaf (c : t.Says K) {x : String} (hx : t.leaves.contains x = true) : ErrC K (He.ga K t.B) (He.ga K (Str.ofString x)) ∧ PySem.W.findIn K (.ref (He.ga K (Str.ofString x))) "__init__" = some (some (.ref (iniAd K t.B))) ∧ CatchC K (He.ga K (Str.ofString x)) ∧ PySem.W.exmOne K (.ref (He.ga K (Str.ofString x))) (.ref (He.ga K t.B)) = some true :=
  leafB_ok (c.e.2.2.2 x hx)
theorem WantE.Says.kit (c : t.Says K) {x y : String} (hx : t.leaves.contains x = true) (hy : t.leaves.contains y = true) : PySem.W.kitOne K (.ref (He.ga K (Str.ofString x))) (.ref (He.ga K (Str.ofString y))) = some (x == y) := kitsB_ok c.e.2.2.1 hx hy
end
end Mir
namespace Mir
open PySem PySem.Spec PyProof.Rows L2
/-! ### laws over finite pools -/
noncomputable def nkB (k n : Nat) (d : D) : Bool := d.canLay0 && (Nat.ble d.depth k && (d.showable && Nat.ble (shLen d) n))
theorem nk_of {k n : Nat} {d : D} (h : nkB k n d = true) : Nk k n d := by
  obtain ⟨a, h⟩ := He.ba h
  obtain ⟨b, h⟩ := He.ba h
  obtain ⟨c, e⟩ := He.ba h
  exact ⟨a, Nat.le_of_ble_eq_true b, c, Nat.le_of_ble_eq_true e⟩
theorem mix_nat {ds : List Int} {k : Int} {n : Nat} (hn : 0 < n) : ∃ j : Nat, mixO ds k n = j ∧ j < n := by
  have h1 := mixO_lo (ds := ds) (k := k) (n := (n : Int)) (by omega)
  have h2 := mixO_hi (ds := ds) (k := k) (n := (n : Int)) (by omega)
  exact ⟨(mixO ds k n).toNat, by omega, by omega⟩
section
variable {ρ : En} {A B : En → R D} {L : List D} {a d : D} {i : Int} {k n : Nat} {ca cb : En → R Bool}
theorem ixd_ok (ha : A ρ = .ok (.list L)) (hb : B ρ = .ok (.int i)) (h : atI L i = some d) : bin2 ixD A B ρ = .ok d := by
  rw [bin2_e, ha]
  show (B ρ).bind _ = _
  rw [hb]
  show ofO (atF L i) = _
  rw [atF_eq, h]
  rfl
theorem ixd_nat {j : Nat} (ha : A ρ = .ok (.list L)) (hb : B ρ = .ok (.int j)) (h : L[j]? = some d) : bin2 ixD A B ρ = .ok d := ixd_ok ha hb (atI_nat h)
theorem ne_ok (ha : A ρ = .ok a) (hb : B ρ = .ok a) (h : Nk k n a) (hk : k ≤ 64) : bin2 neD A B ρ = .ok false := by
  rw [bin2_e, ha]
  show (B ρ).bind _ = _
  rw [hb]
  show ofO (neD a a) = _
  rw [ne_self h hk]
  rfl
theorem ne_okS {x : Str} (ha : A ρ = .ok (.str x)) (hb : B ρ = .ok (.str x)) : bin2 neD A B ρ = .ok false := by
  rw [bin2_e, ha]
  show (B ρ).bind _ = _
  rw [hb]
  show ofO (neD (.str x) (.str x)) = _
  rw [ne_s]
  simp
theorem orB_ff (ha : ca ρ = .ok false) (hb : cb ρ = .ok false) : orB ca cb ρ = .ok false := by
  show (ca ρ).bind _ = _
  rw [ha]
  exact hb
theorem repr_ok (ha : A ρ = .ok a) (h : Nk k n a) (hk : k ≤ 64) (hn : n ≤ 16777216) : un1 reprD A ρ = .ok (.str a.shown) := by
  rw [un1_e, ha]
  show ofO (reprD a) = _
  rw [repr_nk h hk hn]
  rfl
theorem lc_rng {j m : Nat} {e : En → R D} (V : List D) (hm : V.length = m) (hb : m ≤ 1000000) (h : ∀ w : Nat, w < m → ∃ d, V[w]? = some d ∧ e (setE (wipeE ρ [j]) j (.da (.int w))) = .ok d) : tL (lcF (gN j) (rng1 (cst (.int m))) yesB e [j]) ρ = .ok (.list V) := by
  have q : lcF (gN j) (rng1 (cst (.int m))) yesB e [j] ρ = .ok ((((irange 0 m).filter fun _ => true).map fun w => V.getD w.toNat .none).map id) := by
    refine lcF_enc PyData.int id (fun _ => true) (fun w => V.getD w.toNat .none) (by rw [rng1_i (j := (m : Int)) rfl (by omega) (by omega), rng_e]) (fun x hx => ?_) (by rw [irange_len]; omega)
    obtain ⟨x0, x1⟩ := irange_mem.mp hx
    obtain ⟨d, e1, e2⟩ := h x.toNat (by omega)
    refine ⟨_, rfl, rfl, fun _ => ?_⟩
    rw [show ((x.toNat : Nat) : Int) = x by omega] at e2
    rw [e2, List.getD_eq_getElem?_getD, e1]
    rfl
  have ev : ((irange 0 (m : Int)).map fun w => V.getD w.toNat PyData.none) = V := by
    apply List.ext_getElem?
    intro i
    unfold irange
    rw [List.map_map, List.getElem?_map]
    by_cases hi : i < m
    · obtain ⟨d, e1, _⟩ := h i hi
      rw [e1, List.getElem?_range (by omega)]
      show some (V.getD ((0 : Int) + (i : Int)).toNat PyData.none) = _
      rw [show ((0 : Int) + (i : Int)).toNat = i by omega, List.getD_eq_getElem?_getD, e1]
      rfl
    · rw [List.getElem?_eq_none (by omega : V.length ≤ i), List.getElem?_eq_none (by rw [List.length_range]; omega)]
      rfl
  rw [tL_e, q, List.filter_eq_self.mpr (fun _ _ => rfl), List.map_id, ev]
  rfl
end
end Mir
namespace Mir
open PySem PySem.Spec PyProof.Rows L2
/-! ### x in a list, in a tuple -/
section
variable {X : Cx} {cl : String → Addr} {W : XK}
noncomputable def rInA (K : PySem.W.Frag) : R2 := fun x y H Q => rInD K x y H Q ∨ ∃ d ds, Dp K H x d ∧ Dp K H y (.tuple ds) ∧ SeqAt.shaped d = true ∧ SeqAt.shaped (.tuple ds) = true ∧ Q (.bl (ds.any fun z => PyData.eqv z d)) H
noncomputable def rNotInA (K : PySem.W.Frag) : R2 := fun x y H Q => rNotInD K x y H Q ∨ ∃ d ds, Dp K H x d ∧ Dp K H y (.tuple ds) ∧ SeqAt.shaped d = true ∧ SeqAt.shaped (.tuple ds) = true ∧ Q (.bl (!ds.any fun z => PyData.eqv z d)) H
theorem op_inA (hu : X.A.units + 65 < cLine) : OpR X (compareOp .In) (rInA X.K) := by
  intro pins s σ H x y v u Q I rx ry h
  rcases h with h | ⟨d, ds, hd, he, sd, se, q⟩
  · exact op_inD hu pins s σ H x y v u Q I rx ry h
  · obtain ⟨as, r1⟩ := Dp.reads I d x v hd rx
    obtain ⟨bs, r2⟩ := Dp.reads I (.tuple ds) y u he ry
    exact SeqAt.in_tuple_reads r2 r1 (SeqAt.canLay_of_shaped se) (SeqAt.canLay_of_shaped sd) (room_in_shaped sd hu) ⟨.bl _, H, I, rfl, q⟩
theorem op_notInA (hu : X.A.units + 65 < cLine) : OpR X (compareOp .NotIn) (rNotInA X.K) := by
  intro pins s σ H x y v u Q I rx ry h
  rcases h with h | ⟨d, ds, hd, he, sd, se, q⟩
  · exact op_notInD hu pins s σ H x y v u Q I rx ry h
  · obtain ⟨as, r1⟩ := Dp.reads I d x v hd rx
    obtain ⟨bs, r2⟩ := Dp.reads I (.tuple ds) y u he ry
    exact SeqAt.notIn_tuple_reads r2 r1 (SeqAt.canLay_of_shaped se) (SeqAt.canLay_of_shaped sd) (room_in_shaped sd hu) ⟨.bl _, H, I, rfl, q⟩
noncomputable def inA (d : D) : D → Option Bool
  | .list ds => if SeqAt.shaped d = true ∧ SeqAt.shaped (.list ds) = true then some (ds.any fun z => PyData.eqv z d) else none
  | .tuple ds => if SeqAt.shaped d = true ∧ SeqAt.shaped (.tuple ds) = true then some (ds.any fun z => PyData.eqv z d) else none
  | _ => none
noncomputable def notInA (d e : D) : Option Bool := (inA d e).map (!·)
theorem s_inA {K : PySem.W.Frag} : CmS K (rInA K) inA := by
  intro d e r h H x y Q rx ry q
  cases e with
  | list ds => exact .inl (s_in d (.list ds) r h H x y Q rx ry q)
  | tuple ds =>
    have h : (if SeqAt.shaped d = true ∧ SeqAt.shaped (.tuple ds) = true then some (ds.any fun z => PyData.eqv z d) else none) = some r := h
    split at h
    · rename_i hz
      have h := Option.some.inj h
      subst h
      exact .inr ⟨d, ds, rx.dp d (lay_of hz.1), ry.dp _ (lay_of hz.2), hz.1, hz.2, q⟩
    · cases h
  | _ => cases h
theorem s_notInA {K : PySem.W.Frag} : CmS K (rNotInA K) notInA := by
  intro d e r h H x y Q rx ry q
  cases e with
  | list ds => exact .inl (s_notIn d (.list ds) r h H x y Q rx ry q)
  | tuple ds =>
    have h : (if SeqAt.shaped d = true ∧ SeqAt.shaped (.tuple ds) = true then some (ds.any fun z => PyData.eqv z d) else none).map (!·) = some r := h
    split at h
    · rename_i hz
      have h := Option.some.inj h
      subst h
      exact .inr ⟨d, ds, rx.dp d (lay_of hz.1), ry.dp _ (lay_of hz.2), hz.1, hz.2, q⟩
    · cases h
  | _ => cases h
theorem pd_gcst {x : Str} {a : Addr} {d : D} {pos : Pos} (hg : Gl X x) (hm : X.mg x = some (.ref a)) (hr : ∀ F, Rp X.K F (.ref a) d) (hd : (x == ("__debug__" : Str)) = false := by decide) : PD X cl W (.Name x pos) (cst d) := pd_c (pe_glob (v := .ref a) hg hm rfl hd) fun F => hr F
/-! ### l.index(x) -/
noncomputable def idxD (ds : List D) (d : D) : Option D := if SeqAt.shaped d = true ∧ SeqAt.shaped (.list ds) = true then (ds.findIdx? fun z => PyData.eqv z d).map fun j => .int (j : Nat) else none
theorem pd_index {o e : Expr} {mo : En → R (List D)} {me : En → R D} {apos cpos : Pos} {k : Nat} (hr : Rm X k) (ho : PL X cl W o mo) (he : PD X cl W e me) (hbase : attributeBase o "index" X.env (eval o X.env) = eval o X.env := by rfl)
    (hfew : ((backTo cpos (starEach (e :: []) X.env)).all (fun x => !x.1) && (backToKw cpos (keywordEach [] X.env)).all (fun x => x.1.isSome)
      && decide ((e :: []).length + ([] : List Keyword).length + (if ([] : List Keyword).isEmpty then 0 else 1) < 30)) = true := by rfl)
    (hline : (apos.endLine == cpos.line) = true := by rfl) (hs : starEach (e :: []) X.env = (false, eval e X.env) :: starEach [] X.env := by rfl) (hplain : (backTo cpos (starEach [] X.env)).any (·.1) = false := by rfl) :
    PD X cl W (.Call (.Attribute o "index" apos) [e] [] cpos) (bin2 idxD mo me) := by
  refine PE.imp (pe_bm PySem.F.plainAttrs_list PySem.F.slot_list_index PySem.F.type_list_index (mt_indexD (hu_rm5 hr)) ho (pa_one he hs) hbase hfew hline hs hplain) fun σ H Q ⟨F0, H0, ρ, F, ok, h⟩ => ?_
  refine ⟨F0, H0, ρ, F, ok, (tR.bind anti_D h).imp fun v H1 ⟨F1, xs, e1, ⟨a, vs, hv, s1, r1⟩, h1⟩ => ?_⟩
  subst hv
  refine ⟨.inl ⟨rfl, _, s1⟩, F0, H0, ρ, F1, ok.grow e1, (tR.bind anti_D h1).imp fun u H2 ⟨F2, d, e2, p2, h2⟩ => ?_⟩
  have h2 : tR cl W (poD X.K) (ofO (idxD xs d)) F2 H2 Q := h2
  cases hr : idxD xs d with
  | none => rw [hr] at h2; exact h2.elim
  | some r =>
    rw [hr] at h2
    unfold idxD at hr
    split at hr
    · rename_i hz
      cases hj : xs.findIdx? fun z => PyData.eqv z d with
      | none => rw [hj] at hr; cases hr
      | some j =>
        rw [hj] at hr
        have hr := Option.some.inj hr
        subst hr
        obtain ⟨hjl, hp, hno⟩ := List.findIdx?_eq_some_iff_getElem.mp hj
        refine ⟨a, u, d, xs, j, xs[j], rfl, rfl, .lst (e2.keep.sql s1) (RpA.dp xs (SeqAt.canLay_of_shaped hz.2) ((r1.mono e2.le).mono e2.sub)), (p2.mono e2.sub).dp d (lay_of hz.1), hz.2, hz.1, List.getElem?_eq_getElem hjl, hp, fun m z' hm hz' => ?_, h2 _ F2 H2 (Ext.refl e2.sub) (.int _)⟩
        obtain ⟨hml, e⟩ := List.getElem?_eq_some_iff.mp hz'
        rw [← e]
        exact Bool.eq_false_iff.mpr (hno m hm)
    · cases hr
/-! ### a < b < c < d -/
noncomputable def tChain3 (r r' r'' : R2) (ta tb tc td : TE) : TE := fun σ H Q => ta σ H fun x H1 => tb σ H1 fun y H2 => r x y H2 fun z H3 => ∃ k, z = .bl k ∧
  (if k = true then tc σ H3 fun u H4 => r' y u H4 fun z' H5 => ∃ k', z' = .bl k' ∧ (if k' = true then td σ H5 fun t H6 => r'' u t H6 Q else Q (.bl false) H5) else Q (.bl false) H3)
theorem pe_chain3 {a b c d : Expr} {ta tb tc td : TE} {pos : Pos} {op op' op'' : CmpOp} {r r' r'' : R2} (ho : OpR X (compareOp op) r) (ho' : OpR X (compareOp op') r') (ho'' : OpR X (compareOp op'') r'') (ha : PE X a ta) (hb : PE X b tb) (hc : PE X c tc) (hd : PE X d td)
    (hm : lastMarks [op, op', op''] [b, c, d] = false := by with_unfolding_all rfl) : PE X (.Compare a [op, op', op''] [b, c, d] pos) (tChain3 r r' r'' ta tb tc td) := by
  refine ⟨fun pins s σ H Q I h => ?_⟩
  refine Compare_chain (thn (ha.run pins s σ H _ I h) fun v s1 ⟨x, H1, I1, r1, q1⟩ => chain_link (thn (hb.run pins s1 σ H1 _ I1 q1) fun u s2 ⟨y, H2, I2, r2, q2⟩ =>
    thn (ho pins s2 σ H2 x y v u _ I2 r1 r2 q2) fun d s3 ⟨z, H3, I3, r3, k, e, q3⟩ => ?_)) hm
  subst e
  cases r3
  refine wpAny_truthy_bool ?_
  cases k with
  | false => exact ite_ff ⟨.bl false, H3, I3, rfl, q3⟩
  | true =>
    refine ite_tt (chain_link (thn (hc.run pins s3 σ H3 _ I3 q3) fun u' s4 ⟨y', H4, I4, r4, q4⟩ => thn (ho' pins s4 σ H4 y y' u u' _ I4 r2 r4 q4) fun d' s5 ⟨z', H5, I5, r5, k', e', q5⟩ => ?_))
    subst e'
    cases r5
    refine wpAny_truthy_bool ?_
    cases k' with
    | false => exact ite_ff ⟨.bl false, H5, I5, rfl, q5⟩
    | true => exact ite_tt (chain_last (thn (hd.run pins s5 σ H5 _ I5 q5) fun w' s6 ⟨t', H6, I6, r6, q6⟩ => ho'' pins s6 σ H6 y' t' u' w' Q I6 r4 r6 q6))
noncomputable def chain3 (f g h : D → D → Option Bool) (ma mb mc md : En → R D) : En → R Bool := fun ρ =>
  (ma ρ).bind fun x => (mb ρ).bind fun y => (ofO (f x y)).bind fun k => if k = true then (mc ρ).bind fun z => (ofO (g y z)).bind fun k' => if k' = true then (md ρ).bind fun t => ofO (h z t) else .ok false else .ok false
theorem pd_chain3 {a b c d : Expr} {pos : Pos} {op op' op'' : CmpOp} {rd rd' rd'' : R2} {f g h : D → D → Option Bool} {ma mb mc md : En → R D} (ho : OpR X (compareOp op) rd) (ho' : OpR X (compareOp op') rd') (ho'' : OpR X (compareOp op'') rd'') (hf : CmS X.K rd f) (hg : CmS X.K rd' g) (hh : CmS X.K rd'' h)
    (ha : PVw X cl W a ma) (hb : PVw X cl W b mb) (hc : PVw X cl W c mc) (hd : PVw X cl W d md) (hm : lastMarks [op, op', op''] [b, c, d] = false := by rfl) : PD X cl W (.Compare a [op, op', op''] [b, c, d] pos) (bD (chain3 f g h ma mb mc md)) := by
  refine PE.imp (pe_chain3 ho ho' ho'' ha hb hc hd hm) fun σ H Q ⟨F0, H0, ρ, F, ok, q⟩ => ?_
  have q : tR cl W (poD X.K) ((chain3 f g h ma mb mc md ρ).bind fun b => .ok (.bool b)) F H Q := q
  unfold chain3 at q
  rw [R.bind_assoc] at q
  refine ⟨F0, H0, ρ, F, ok, (tR.bind anti_D q).imp fun v H1 ⟨F1, x, e1, p1, h1⟩ => ?_⟩
  rw [R.bind_assoc] at h1
  refine ⟨F0, H0, ρ, F1, ok.grow e1, (tR.bind anti_D h1).imp fun u H2 ⟨F2, y, e2, p2, h2⟩ => ?_⟩
  cases hr : f x y with
  | none => rw [hr] at h2; exact False.elim h2
  | some r =>
    rw [hr] at h2
    refine hf x y r hr H2 v u _ (p1.mono e2.keep) p2 ⟨r, rfl, ?_⟩
    cases r with
    | false => exact h2 _ F2 H2 (Ext.refl e2.sub) (.bl false)
    | true =>
      have h2 : tR cl W (poD X.K) (((mc ρ).bind fun z => (ofO (g y z)).bind fun k' => if k' = true then (md ρ).bind fun t => ofO (h z t) else .ok false).bind fun b => .ok (.bool b)) F2 H2 Q := h2
      rw [R.bind_assoc] at h2
      rw [if_pos rfl]
      refine ⟨F0, H0, ρ, F2, (ok.grow e1).grow e2, (tR.bind anti_D h2).imp fun w' H3 ⟨F3, z, e3, p3, h3⟩ => ?_⟩
      cases hr2 : g y z with
      | none => rw [hr2] at h3; exact False.elim h3
      | some r2 =>
        rw [hr2] at h3
        refine hg y z r2 hr2 H3 u w' _ (p2.mono e3.keep) p3 ⟨r2, rfl, ?_⟩
        cases r2 with
        | false => exact h3 _ F3 H3 (Ext.refl e3.sub) (.bl false)
        | true =>
          have h3 : tR cl W (poD X.K) (((md ρ).bind fun t => ofO (h z t)).bind fun b => .ok (.bool b)) F3 H3 Q := h3
          rw [R.bind_assoc] at h3
          rw [if_pos rfl]
          refine ⟨F0, H0, ρ, F3, ((ok.grow e1).grow e2).grow e3, (tR.bind anti_D h3).imp fun t' H4 ⟨F4, t, e4, p4, h4⟩ => ?_⟩
          cases hr3 : h z t with
          | none => rw [hr3] at h4; exact False.elim h4
          | some r3 => rw [hr3] at h4; exact hh z t r3 hr3 H4 w' t' _ (p3.mono e4.keep) p4 (h4 _ F4 H4 (Ext.refl e4.sub) (.bl r3))
/-! ### list(range(a, b)) -/
theorem rpa_maps {α : Type} {K : PySem.W.Frag} {F : Hp} (f : α → V) (g : α → D) (h : ∀ i, Rp K F (f i) (g i)) : ∀ l : List α, RpA K F (l.map f) (l.map g)
  | [] => .nil
  | i :: l => .cons (h i) (rpa_maps f g h l)
noncomputable def rgB (i j : Int) : Bool := decide (-4611686018427387904 ≤ i) && (decide (i < 4611686018427387904) && (decide (-4611686018427387904 ≤ j) && (decide (j < 4611686018427387904) && decide ((j - i).toNat ≤ 16777216))))
theorem rgB_ok {i j : Int} (h : rgB i j = true) : RgOk i j := by
  obtain ⟨a, h⟩ := He.ba h
  obtain ⟨b, h⟩ := He.ba h
  obtain ⟨c, h⟩ := He.ba h
  obtain ⟨d, e⟩ := He.ba h
  have a := of_decide_eq_true a
  have b := of_decide_eq_true b
  have c := of_decide_eq_true c
  have d := of_decide_eq_true d
  have e := of_decide_eq_true e
  exact ⟨by omega, by omega, by omega, by omega, by omega⟩
noncomputable def lrgK : D → D → Option (List D)
  | .int i, .int j => if rgB i j = true then some (rng i j) else none
  | _, _ => none
theorem pf_listR2 {a b : Expr} {ma mb : En → R D} {p q pos pos2 : Pos} (hc : X.calm = true) (hg : Gl X "list") (hm : X.mg "list" = none) (hg2 : Gl X "range") (hm2 : X.mg "range" = none) (ha : PD X cl W a ma) (hb : PD X cl W b mb)
    (na : starEach [a, b] X.env = (false, eval a X.env) :: starEach [b] X.env := by rfl) (nb : starEach [b] X.env = (false, eval b X.env) :: starEach [] X.env := by rfl) (hp : (backTo pos2 (starEach [b] X.env)).any (·.1) = false := by rfl)
    (ne : starEach [Expr.Call (.Name "range" q) [a, b] [] pos2] X.env = (false, eval (.Call (.Name "range" q) [a, b] [] pos2) X.env) :: starEach [] X.env := by rfl) :
    PF X cl W (.Call (.Name "list" p) [.Call (.Name "range" q) [a, b] [] pos2] [] pos) (bin2 lrgK ma mb) := by
  refine PE.imp (pe_listRg hc hg hm (prg_2 hg2 hm2 ha hb na nb hp) ne) fun σ H Q ⟨F0, H0, ρ, F, ok, h⟩ => ?_
  refine ⟨F0, H0, ρ, F, ok, (tR.bind anti_F h).imp fun v H1 ⟨F1, x, e1, p1, h1⟩ => ?_⟩
  refine ⟨F0, H0, ρ, F1, ok.grow e1, (tR.bind anti_F h1).imp fun u H2 ⟨F2, y, e2, p2, h2⟩ => ?_⟩
  have h2 : tR cl W (poF X.K) (ofO (lrgK x y)) F2 H2 Q := h2
  cases hr : lrgK x y with
  | none => rw [hr] at h2; exact h2.elim
  | some r =>
    rw [hr] at h2
    cases x with
    | int i =>
      cases y with
      | int j =>
        have hr : (if rgB i j = true then some (rng i j) else none) = some r := hr
        split at hr
        · rename_i hz
          have hr := Option.some.inj hr
          subst hr
          exact ⟨i, j, p1.inv_int, p2.inv_int, rgB_ok hz, fun p np => h2 _ _ _ (Ext.grow e2.sub (o := .lst (rgV i j)) np) ⟨p, _, rfl, np, e2.sub.none np, upd_same, rpa_maps _ _ (fun _ => .int _) _⟩⟩
        · cases hr
      | _ => cases hr
    | _ => cases hr
end
end Mir
namespace Mir
open PySem PySem.Spec PyProof.Rows L2
/-! ### a, b, c = new list, value, new list -/
noncomputable def parCDC (i j l : Nat) (mf : En → R (List D)) (md : En → R D) (mg : En → R (List D)) : En → R Fl := fun ρ => (mf ρ).bind fun xs => (md ρ).bind fun d => (mg ρ).bind fun ys => .ok (.nx (setE (setE (setE ρ i (.ce xs)) j (.da d)) l (.ce ys)))
section
variable {X : Cx} {cl : String → Addr} {W : XK}
theorem st_parCDC {i j l : Nat} {x y z : Str} {a b c : Expr} {mf mg : En → R (List D)} {md : En → R D} {px py pz pt pos : Pos} {kt k2 pt2} (hc : X.calm = true) (hN : X.N.Nodup) (hi : X.N[i]? = some x) (hj : X.N[j]? = some y) (hl : X.N[l]? = some z) (hij : i ≠ j) (hil : i ≠ l) (hjl : j ≠ l)
    (hx : X.env.scope.names.lookup x = some .local) (hy : X.env.scope.names.lookup y = some .local) (hz : X.env.scope.names.lookup z = some .local) (ha : PF X cl W a mf) (hb : PD X cl W b md) (hcc : PF X cl W c mg)
    (hw : swappedStores [.Tuple [.Name x px, .Name y py, .Name z pz] kt pt] (.Tuple [a, b, c] k2 pt2) X.env = pure (some [x, y, z]))
    (hs : swapsWithSole [.Tuple [.Name x px, .Name y py, .Name z pz] kt pt] (.Tuple [a, b, c] k2 pt2) pos.line X.env = pure false := by rfl)
    (hs1 : starEach (a :: [b, c]) X.env = (false, eval a X.env) :: starEach [b, c] X.env := by rfl) (hs2 : starEach (b :: [c]) X.env = (false, eval b X.env) :: starEach [c] X.env := by rfl) (hs3 : starEach (c :: []) X.env = (false, eval c X.env) :: starEach [] X.env := by rfl) :
    PSt X cl W (.Assign [.Tuple [.Name x px, .Name y py, .Name z pz] kt pt] (.Tuple [a, b, c] k2 pt2) pos) (parCDC i j l mf md mg) := by
  refine PS.imp (ps_par3 hc hN hi hj hl hij hil hjl hx hy hz (pa_cons ha (pa_cons hb (pa_cons hcc pa_nil hs3) hs2) hs1) hw hs) fun σ H Q ⟨F0, H0, ρ, F, ok, h⟩ => ⟨F0, H0, ρ, F, ok, ?_⟩
  refine tRS.expr h ok.ext.keep fun v F1 H1 xs e1 p1 h1 => ⟨F0, H0, ρ, F1, ok.grow e1, ?_⟩
  refine tRS.expr h1 (ok.ext.keep.trans e1.keep) fun u F2 H2 d e2 p2 h2 => ⟨F0, H0, ρ, F2, (ok.grow e1).grow e2, ?_⟩
  refine tRS.expr h2 ((ok.ext.keep.trans e1.keep).trans e2.keep) fun w F3 H3 ys e3 p3 h3 => ⟨v, u, w, rfl, ?_⟩
  rw [setE_eq, setE_eq, setE_eq] at h3
  exact h3 _ F3 H3 (new_cell (((new_cell ok e1 p1).grow e2).set j p2) e3 p3) (Le.refl F3)
theorem st_asgCDC {i j l : Nat} {x y z : Str} {a b c : Expr} {mf mg : En → R (List D)} {md : En → R D} {px py pz pt pos : Pos} {kt k2 pt2} (hc : X.calm = true) (hN : X.N.Nodup) (hi : X.N[i]? = some x) (hj : X.N[j]? = some y) (hl : X.N[l]? = some z)
    (hx : Loc X.env.scope x) (hy : Loc X.env.scope y) (hz : Loc X.env.scope z) (ha : PF X cl W a mf) (hb : PD X cl W b md) (hcc : PF X cl W c mg)
    (hfx : X.fn x = true ∨ X.env.scope.names.lookup x = some .local) (hfy : X.fn y = true ∨ X.env.scope.names.lookup y = some .local) (hfz : X.fn z = true ∨ X.env.scope.names.lookup z = some .local)
    (hs : swapsWithSole [.Tuple [.Name x px, .Name y py, .Name z pz] kt pt] (.Tuple [a, b, c] k2 pt2) pos.line X.env = pure false := by rfl) (hw : swappedStores [.Tuple [.Name x px, .Name y py, .Name z pz] kt pt] (.Tuple [a, b, c] k2 pt2) X.env = pure none := by rfl)
    (h1 : (assignEach [.Tuple [.Name x px, .Name y py, .Name z pz] kt pt] X.env).map (·.2) = [assign (.Tuple [.Name x px, .Name y py, .Name z pz] kt pt) X.env] := by rfl)
    (hn : (assignEach [.Name x px, .Name y py, .Name z pz] X.env).length = 3 := by rfl) (hst : (assignEach [.Name x px, .Name y py, .Name z pz] X.env).findIdx? (·.1) = none := by rfl)
    (g1 : (assignEach [.Name x px, .Name y py, .Name z pz] X.env).map (·.2) = assign (.Name x px) X.env :: (assignEach [.Name y py, .Name z pz] X.env).map (·.2) := by rfl)
    (g2 : (assignEach [.Name y py, .Name z pz] X.env).map (·.2) = assign (.Name y py) X.env :: (assignEach [.Name z pz] X.env).map (·.2) := by rfl) (g3 : (assignEach [.Name z pz] X.env).map (·.2) = assign (.Name z pz) X.env :: (assignEach [] X.env).map (·.2) := by rfl)
    (hs1 : starEach (a :: [b, c]) X.env = (false, eval a X.env) :: starEach [b, c] X.env := by rfl) (hs2 : starEach (b :: [c]) X.env = (false, eval b X.env) :: starEach [c] X.env := by rfl) (hs3 : starEach (c :: []) X.env = (false, eval c X.env) :: starEach [] X.env := by rfl) :
    PSt X cl W (.Assign [.Tuple [.Name x px, .Name y py, .Name z pz] kt pt] (.Tuple [a, b, c] k2 pt2) pos) (parCDC i j l mf md mg) := by
  refine PS.imp (ps_asg (pe_tup (pa_cons ha (pa_cons hb (pa_cons hcc pa_nil hs3) hs2) hs1)) (pg_tup hc (pgs_cons (pg_name hN hi hx hfx) (pgs_cons (pg_name hN hj hy hfy) (pgs_cons (pg_name hN hl hz hfz) pgs_nil g3) g2) g1) hn hst) hs hw h1) fun σ H Q ⟨F0, H0, ρ, F, ok, h⟩ => ⟨F0, H0, ρ, F, ok, ?_⟩
  refine tRS.expr h ok.ext.keep fun v F1 H1 xs e1 p1 h1 => ⟨F0, H0, ρ, F1, ok.grow e1, ?_⟩
  refine tRS.expr h1 (ok.ext.keep.trans e1.keep) fun u F2 H2 d e2 p2 h2 => ⟨F0, H0, ρ, F2, (ok.grow e1).grow e2, ?_⟩
  refine tRS.expr h2 ((ok.ext.keep.trans e1.keep).trans e2.keep) fun w F3 H3 ys e3 p3 h3 => ?_
  refine ⟨by show 3 ≤ sizeLine; decide, fun p np => ⟨p, [v, u, w], rfl, .inl (.inl upd_same), rfl, v, [u, w], rfl, u, [w], rfl, w, [], rfl, rfl, ?_⟩⟩
  rw [setE_eq, setE_eq, setE_eq] at h3
  exact h3 _ F3 _ ((new_cell (((new_cell ok e1 p1).grow e2).set j p2) e3 p3).grow (Ext.grow e3.sub (o := .tup [v, u, w]) np)) (Le.refl F3)
end
/-! ### errors told as data -/
structure ErT (d : D) : Prop where
  nk : Nk 3 100000 d
  sh : d = .none ∨ ∃ x xs, d = .tuple (x :: xs)
noncomputable def orE : D → D → D
  | .none, e => e
  | d, _ => d
theorem orE_t {x : D} {xs : List D} {e : D} : orE (.tuple (x :: xs)) e = .tuple (x :: xs) := rfl
theorem ErT.or {d e : D} (h : ErT d) (h' : ErT e) : ErT (orE d e) := by
  rcases h.sh with rfl | ⟨x, xs, rfl⟩
  · exact h'
  · exact h
theorem orV_or {A B : En → R D} {ρ : En} {d e : D} (ha : A ρ = .ok d) (hd : ErT d) (hb : B ρ = .ok e) : orV A B ρ = .ok (orE d e) := by
  show (A ρ).bind _ = _
  rw [ha]
  rcases hd.sh with rfl | ⟨x, xs, rfl⟩
  · show B ρ = _
    rw [hb]
    rfl
  · rfl
theorem ert_of {d : D} (h : nkB 3 100000 d = true) (s : d = .none ∨ ∃ x xs, d = .tuple (x :: xs)) : ErT d := ⟨nk_of h, s⟩
theorem seq_nx {m1 m2 : En → R Fl} {ρ ρ1 : En} (h : m1 ρ = .ok (.nx ρ1)) : seqS m1 m2 ρ = m2 ρ1 := by rw [seqS_e, h]; rfl
theorem setSL_e {i : Nat} {m : En → R (List D)} {ρ : En} {xs : List D} (h : m ρ = .ok xs) : tL m ρ = .ok (.list xs) := by rw [tL_e, h]; rfl
end Mir
namespace Mir
open PySem PySem.Spec PyProof.Rows L2
section
variable {X : Cx} {cl : String → Addr} {W : XK}
/-! ### parts of a text -/
noncomputable def strLo (m : En → R D) (a : En → R D) : En → R D := fun ρ => (m ρ).bind fun d => match d with
  | .str z => ((a ρ).bind asI).bind fun i => if z.length ≤ sizeLine then .ok (.str (cutS z (some i) none)) else .no
  | _ => .no
noncomputable def strHi (m : En → R D) (b : En → R D) : En → R D := fun ρ => (m ρ).bind fun d => match d with
  | .str z => ((b ρ).bind asI).bind fun j => if z.length ≤ sizeLine then .ok (.str (cutS z none (some j))) else .no
  | _ => .no
variable {e a b : Expr} {p2 pos : Pos} {m ma mb : En → R D}
theorem pd_strLo (he : PD X cl W e m) (ha : PD X cl W a ma) : PD X cl W (.Subscript e (.Slice (some a) none none p2) pos) (strLo m ma) := by
  refine PE.imp (pe_slice sl_str he (po_some ha) po_none) fun σ H Q ⟨F0, H0, ρ, F, ok, h⟩ => ?_
  refine ⟨F0, H0, ρ, F, ok, (tR.bind anti_D h).imp fun v H1 ⟨F1, x, e1, p1, h1⟩ => ?_⟩
  cases x with
  | str z =>
    have h1 : tR cl W (poD X.K) (((ma ρ).bind asI).bind fun i => if z.length ≤ sizeLine then .ok (.str (cutS z (some i) none)) else .no) F1 H1 Q := h1
    rw [R.bind_assoc] at h1
    refine ⟨F0, H0, ρ, F1, ok.grow e1, (tR.bind anti_D h1).imp fun u H2 ⟨F2, d, e2, p2, h2⟩ => ?_⟩
    cases d with
    | int i =>
      have h2 : tR cl W (poD X.K) (if z.length ≤ sizeLine then .ok (.str (cutS z (some i) none)) else .no) F2 H2 Q := h2
      by_cases q : z.length ≤ sizeLine
      · rw [if_pos q] at h2
        exact ⟨i, p2.inv_int, z, p1.inv_str, q, h2 _ F2 H2 (Ext.refl e2.sub) (.str _)⟩
      · rw [if_neg q] at h2; exact h2.elim
    | _ => exact False.elim h2
  | _ => exact False.elim h1
theorem pd_strHi (he : PD X cl W e m) (hb : PD X cl W b mb) : PD X cl W (.Subscript e (.Slice none (some b) none p2) pos) (strHi m mb) := by
  refine PE.imp (pe_slice sl_str he po_none (po_some hb)) fun σ H Q ⟨F0, H0, ρ, F, ok, h⟩ => ?_
  refine ⟨F0, H0, ρ, F, ok, (tR.bind anti_D h).imp fun v H1 ⟨F1, x, e1, p1, h1⟩ => ?_⟩
  cases x with
  | str z =>
    have h1 : tR cl W (poD X.K) (((mb ρ).bind asI).bind fun j => if z.length ≤ sizeLine then .ok (.str (cutS z none (some j))) else .no) F1 H1 Q := h1
    rw [R.bind_assoc] at h1
    refine ⟨F0, H0, ρ, F1, ok.grow e1, (tR.bind anti_D h1).imp fun u H2 ⟨F2, d, e2, p2, h2⟩ => ?_⟩
    cases d with
    | int i =>
      have h2 : tR cl W (poD X.K) (if z.length ≤ sizeLine then .ok (.str (cutS z none (some i))) else .no) F2 H2 Q := h2
      by_cases q : z.length ≤ sizeLine
      · rw [if_pos q] at h2
        exact ⟨i, p2.inv_int, z, p1.inv_str, q, h2 _ F2 H2 (Ext.refl e2.sub) (.str _)⟩
      · rw [if_neg q] at h2; exact h2.elim
    | _ => exact False.elim h2
  | _ => exact False.elim h1
/-! ### l.count(x) -/
noncomputable def rCountD (K : PySem.W.Frag) : V → List V → Hp → VK → Prop := fun x xs H Q => ∃ (a : Addr) (y : V) (d : PyData) (ds : List PyData), x = V.ref a ∧ xs = [y] ∧ Dp K H (V.ref a) (.list ds) ∧ Dp K H y d ∧
  SeqAt.shaped (.list ds) = true ∧ SeqAt.shaped d = true ∧ PyData.plainAll ds = true ∧ d.plain = true ∧ Q (.int (ds.countP fun z => PyData.eqv z d : Nat)) H
theorem mt_countD (hu : X.A.units + 65 < cLine) : MtR X "list.count" (rCountD X.K) := by
  intro pins s σ H x xs v us Q I rx rxs h
  obtain ⟨a, y, d, ds, rfl, rfl, hl, hy, sl, sd, pl, pd, q⟩ := h
  cases rx
  obtain ⟨uy, rfl, ry⟩ := rxs.one
  obtain ⟨bs, r1⟩ := Dp.reads I d y uy hy ry
  have hroom : X.A.units + 1 + min (PyData.depthAll ds) d.depth < cLine := room_in_shaped sd hu
  cases hl with
  | lst hs ha =>
    obtain ⟨its, rv, p, hlen⟩ := I.list hs
    obtain ⟨as, h4⟩ := Dp.readsAll I ds _ its ha rv
    exact SeqAt.count_list_data p.isList (by simpa using h4) r1 pl pd hroom ⟨.int _, H, I.tok _, ⟨_, rfl⟩, q⟩
noncomputable def countL (ds : List D) (d : D) : Option D := if SeqAt.shaped d = true ∧ SeqAt.shaped (.list ds) = true ∧ PyData.plainAll ds = true ∧ d.plain = true then some (.int (ds.countP fun z => PyData.eqv z d : Nat)) else none
theorem pd_count {o e : Expr} {mo : En → R (List D)} {me : En → R D} {apos cpos : Pos} {k : Nat} (hr : Rm X k) (ho : PL X cl W o mo) (he : PD X cl W e me) (hbase : attributeBase o "count" X.env (eval o X.env) = eval o X.env := by rfl)
    (hfew : ((backTo cpos (starEach (e :: []) X.env)).all (fun x => !x.1) && (backToKw cpos (keywordEach [] X.env)).all (fun x => x.1.isSome)
      && decide ((e :: []).length + ([] : List Keyword).length + (if ([] : List Keyword).isEmpty then 0 else 1) < 30)) = true := by rfl)
    (hline : (apos.endLine == cpos.line) = true := by rfl) (hs : starEach (e :: []) X.env = (false, eval e X.env) :: starEach [] X.env := by rfl) (hplain : (backTo cpos (starEach [] X.env)).any (·.1) = false := by rfl) :
    PD X cl W (.Call (.Attribute o "count" apos) [e] [] cpos) (bin2 countL mo me) := by
  refine PE.imp (pe_bm PySem.F.plainAttrs_list PySem.F.slot_list_count PySem.F.type_list_count (mt_countD (hu_rm5 hr)) ho (pa_one he hs) hbase hfew hline hs hplain) fun σ H Q ⟨F0, H0, ρ, F, ok, h⟩ => ?_
  refine ⟨F0, H0, ρ, F, ok, (tR.bind anti_D h).imp fun v H1 ⟨F1, xs, e1, ⟨a, vs, hv, s1, r1⟩, h1⟩ => ?_⟩
  subst hv
  refine ⟨.inl ⟨rfl, _, s1⟩, F0, H0, ρ, F1, ok.grow e1, (tR.bind anti_D h1).imp fun u H2 ⟨F2, d, e2, p2, h2⟩ => ?_⟩
  have h2 : tR cl W (poD X.K) (ofO (countL xs d)) F2 H2 Q := h2
  cases hr : countL xs d with
  | none => rw [hr] at h2; exact h2.elim
  | some r =>
    rw [hr] at h2
    unfold countL at hr
    split at hr
    · rename_i hz
      have hr := Option.some.inj hr
      subst hr
      exact ⟨a, u, d, xs, rfl, rfl, .lst (e2.keep.sql s1) (RpA.dp xs (SeqAt.canLay_of_shaped hz.2.1) ((r1.mono e2.le).mono e2.sub)), (p2.mono e2.sub).dp d (lay_of hz.1), hz.2.1, hz.1, hz.2.2.1, hz.2.2.2, h2 _ F2 H2 (Ext.refl e2.sub) (.int _)⟩
    · cases hr
/-! ### str(i), int(text) -/
noncomputable def strD : D → Option D
  | .int i => if i.natAbs.log2 < 1920 then some (.str (toString i)) else none
  | _ => none
theorem s_str {K : PySem.W.Frag} : C1S K (fun xs H Q => ∃ i, xs = [.int i] ∧ i.natAbs.log2 < 1920 ∧ Q (.str (toString i)) H) strD := by
  intro d r h F H x Q le rx q
  cases d with
  | int i =>
    cases rx
    have h : (if i.natAbs.log2 < 1920 then some (PyData.str (toString i)) else none) = some r := h
    split at h
    · rename_i z
      have h := Option.some.inj h
      subst h
      exact ⟨i, rfl, z, q _ F H (Ext.refl le) (.str _)⟩
    · cases h
  | _ => cases h
theorem pd_str1 {p : Pos} {a : Expr} {m : En → R D} (hg : Gl X "str") (hm : X.mg "str" = none) (ha : PVw X cl W a m) (hs : starEach [a] X.env = (false, eval a X.env) :: starEach [] X.env := by rfl) (hpl : (backTo pos (starEach [] X.env)).any (·.1) = false := by rfl) : PD X cl W (.Call (.Name "str" p) [a] [] pos) (un1 strD m) :=
  pd_t1 call_str_int s_str hg hm (by decide +kernel) ha (by decide) (by decide) hs hpl
theorem CallR.or {f : Value} {r r' : List V → Hp → VK → Prop} (h : CallR X f r) (h' : CallR X f r') : CallR X f (fun xs H Q => r xs H Q ∨ r' xs H Q) := by
  intro pins s σ H xs us Q I rr q
  rcases q with q | q
  · exact h pins s σ H xs us Q I rr q
  · exact h' pins s σ H xs us Q I rr q
noncomputable def intA : D → Option D
  | .str a => if a.length ≤ 640 then (PySem.intText? a).map .int else none
  | d => Mir.intD d
theorem s_intA {K : PySem.W.Frag} : C1S K (fun xs H Q => ((∃ i, xs = [.int i] ∧ Q (.int i) H) ∨ ∃ k, xs = [.bl k] ∧ Q (.int (if k then 1 else 0)) H) ∨ ∃ a n, xs = [.str a] ∧ PySem.intText? a = some n ∧ a.length ≤ 640 ∧ Q (.int n) H) intA := by
  intro d r h F H x Q le rx q
  cases d with
  | str a =>
    cases rx
    have h : (if a.length ≤ 640 then (PySem.intText? a).map PyData.int else none) = some r := h
    split at h
    · rename_i z
      cases e : PySem.intText? a with
      | none => rw [e] at h; cases h
      | some n =>
        rw [e] at h
        have h := Option.some.inj h
        subst h
        exact .inr ⟨a, n, rfl, e, z, q _ F H (Ext.refl le) (.int _)⟩
    · cases h
  | int i => exact .inl (s_int (.int i) r h F H x Q le rx q)
  | bool b => exact .inl (s_int (.bool b) r h F H x Q le rx q)
  | _ => cases h
theorem pd_intA {p : Pos} {a : Expr} {m : En → R D} (hg : Gl X "int") (hm : X.mg "int" = none) (ha : PVw X cl W a m) (hs : starEach [a] X.env = (false, eval a X.env) :: starEach [] X.env := by rfl) (hpl : (backTo pos (starEach [] X.env)).any (·.1) = false := by rfl) : PD X cl W (.Call (.Name "int" p) [a] [] pos) (un1 intA m) :=
  pd_t1 (CallR.or call_int1 call_int_str) s_intA hg hm (by decide +kernel) ha (by decide) (by decide) hs hpl
end
end Mir
namespace Mir
open PySem PySem.Spec PyProof.Rows L2
/-! ### a test that looks at an own list as data; the list stays own -/
noncomputable def thwB (i : Nat) (m : En → R Bool) : En → R Bool := fun ρ => m (frzE i ρ)
section
variable {X : Cx} {cl : String → Addr} {W : XK} {e : Expr}
theorem pb_thaw {m : En → R Bool} (i : Nat) (h : PB X cl W e m) : PB X cl W e (thwB i m) := by
  refine PT.imp h fun σ H Q ⟨F0, H0, ρ, F, ok, q⟩ => ?_
  have q : tRB cl W (m (frzE i ρ)) F H Q := q
  unfold frzE at q
  cases hx : nth ρ i with
  | ce xs =>
    rw [hx] at q
    have q : tRB cl W (m (setE ρ i (.da (.list xs)))) F H Q := q
    rw [setE_eq] at q
    obtain ⟨F2, le, ok2⟩ := ok.frz (nth_ce hx)
    refine ⟨F0, H0, _, F2, ok2, ?_⟩
    cases hr : m (ρ.set i (.da (.list xs))) with
    | ok b =>
      rw [hr] at q
      have q : ∀ F' H', Ext F H F' H' → Q b H' := q
      exact fun F' H' e => q F H' ⟨Le.refl F, ok.ext.sub.trans e.keep, e.keep, fun b o z => .inl z⟩
    | ex c n => rw [hr] at q; exact q
    | no => rw [hr] at q; exact q
  | _ =>
    rw [hx] at q
    exact ⟨F0, H0, ρ, F, ok, q⟩
/-- a, b = a list -/
noncomputable def gTL (g : Tgs) : Tg := fun d ρ => match d with
  | .list ds => g ds ρ
  | _ => none
theorem pg_tl {es : List Expr} {k : Nat} {g : Tgs} {sl : List Nat} {n : Nat} {pos : Pos} (hc : X.calm = true) (h : PGps X es g sl) (hlen : ∀ ds ρ ρ', g ds ρ = some ρ' → ds.length = n)
    (hn : (assignEach es X.env).length = n := by rfl) (hst : (assignEach es X.env).findIdx? (·.1) = none := by rfl) : PGp X (.Tuple es k pos) (gTL g) sl := by
  refine PG.imp (pg_lst hc h hn hst) fun v σ H Q ⟨F0, H0, ρ, F, d, ok, r, h⟩ => ?_
  cases d with
  | list ds =>
    obtain ⟨a, vs, rfl, s, q⟩ := Rp.inv_list r
    have h : match g ds ρ with
      | some ρ' => ∀ σ', Ok X.K F0 H0 ρ' F σ' H → (∀ us, (∀ i ∈ sl, i ∈ us) → L2.wipe σ' us = L2.wipe σ us) → Q σ' H
      | none => False := h
    refine ⟨a, vs, rfl, .inl (.inl (ok.sub _ _ s)), ?_, F0, H0, ρ, F, ds, ok, q, h⟩
    cases hr : g ds ρ with
    | none => rw [hr] at h; exact False.elim h
    | some ρ' => rw [q.length]; exact hlen ds ρ ρ' hr
  | _ => exact False.elim h
end
end Mir
/-! A comprehension with two clauses: the loops (as HandS.Comp's for one), the rule, the mirror lcF2. -/
namespace Mir
open PySem PySem.Spec PyProof.Rows L2
section
variable {prog : Program} {w : World} {A : Around} {Rz : Result → Shared → Prop} {s : Shared} {elt t1 t2 it1 it2 : Expr} {ifs1 ifs2 : List Expr} {scope : Scope} {pos : Pos} {it acc : Value} {env : Env}
theorem loop2_in (I : Nat → Shared → Prop)
    (turn : ∀ n s, I n s → wpAny (model prog w) A (pyNext it) (fun r s₁ => match r with
      | none => Rz (.ok .next) s₁
      | some v => wpAny (model prog w) A (letOwnedTupleGo t2 it v) (fun _ s₁' => wpAny (model prog w) A (assign t2 env v) (fun _ s₂ =>
          wpAny (model prog w) A (forIn ifs2 true fun c r => if r = true then do let ok ← isTrue c env (eval c env); pure (ForInStep.yield ok) else pure (ForInStep.yield r)) (fun ok s₃ =>
            if ok = true then wpAny (model prog w) A (eval elt env) (fun x s₄ =>
              wpAny (model prog w) A (call (.builtin "list.append") [acc, x]) (fun _ s₅ => ∃ m, m < n ∧ I m s₅) (notedBy (model prog w) A env fun e s' => Rz (.error e) s') s₄) (notedBy (model prog w) A env fun e s' => Rz (.error e) s') s₃
            else ∃ m, m < n ∧ I m s₃) (notedBy (model prog w) A env fun e s' => Rz (.error e) s') s₂) (notedBy (model prog w) A env fun e s' => Rz (.error e) s') s₁') (notedBy (model prog w) A env fun e s' => Rz (.error e) s') s₁) (notedBy (model prog w) A env fun e s' => Rz (.error e) s') s)
    (n : Nat) (h : I n s) :
    codeAny (model prog w) A (.compLoop (.ListComp elt [⟨t1, it1, ifs1, 0⟩, ⟨t2, it2, ifs2, 0⟩] scope pos) 1 it acc env) Rz s := by
  refine codeAny_loop rfl I (fun n s hI => ?_) n h
  show wpAny _ A ((compTurn (.ListComp elt [⟨t1, it1, ifs1, 0⟩, ⟨t2, it2, ifs2, 0⟩] scope pos) 1 it acc env).onRaise (fun x => do noteFrame x env; theTreesLotGoes x)) _ _ s
  refine wpAny_noted ?_
  rw [compTurn_list2_in]
  refine wpAny_bind (wpAny_standAt (wpAny_bind (wpAny_mono (turn n s hI) (fun r s₁ h₁ => ?_) fun _ _ h' => h')))
  cases r with
  | none => exact wpAny_pure h₁
  | some v =>
    refine wpAny_bind (wpAny_mono h₁ (fun _ s₁' h₁' => ?_) fun _ _ h' => h')
    refine wpAny_bind (wpAny_mono h₁' (fun _ s₂ h₂ => wpAny_bind (wpAny_mono h₂ (fun ok s₃ h₃ => ?_) fun _ _ h' => h')) fun _ _ h' => h')
    cases ok with
    | false => exact wpAny_pure ⟨rfl, h₃⟩
    | true =>
      exact wpAny_bind (wpAny_bind (wpAny_mono h₃ (fun x s₄ h₄ => wpAny_bind (wpAny_mono h₄ (fun _ s₅ h₅ => wpAny_pure (wpAny_pure ⟨rfl, h₅⟩)) fun _ _ h' => h')) fun _ _ h' => h'))
theorem loop2_out (I : Nat → Shared → Prop) (hs : ∀ x, foldedSetIterable it2 env x = pure x)
    (turn : ∀ n s, I n s → wpAny (model prog w) A (pyNext it) (fun r s₁ => match r with
      | none => Rz (.ok .next) s₁
      | some v => wpAny (model prog w) A (letOwnedTupleGo t1 it v) (fun _ s₁' => wpAny (model prog w) A (assign t1 env v) (fun _ s₂ =>
          wpAny (model prog w) A (forIn ifs1 true fun c r => if r = true then do let ok ← isTrue c env (eval c env); pure (ForInStep.yield ok) else pure (ForInStep.yield r)) (fun ok s₃ =>
            if ok = true then wpAny (model prog w) A (eval it2 env) (fun xv s₄ => wpAny (model prog w) A (pyIter xv) (fun iv s₅ =>
              ∀ R2 : Result → Shared → Prop, (∀ s', (∃ m, m < n ∧ I m s') → R2 (.ok .next) s') → codeAny (model prog w) A (.compStart (.ListComp elt [⟨t1, it1, ifs1, 0⟩, ⟨t2, it2, ifs2, 0⟩] scope pos) 1 iv acc env) R2 s₅)
              (fun _ _ => False) s₄) (fun _ _ => False) s₃
            else ∃ m, m < n ∧ I m s₃) (fun _ _ => False) s₂) (fun _ _ => False) s₁') (fun _ _ => False) s₁) (fun _ _ => False) s)
    (n : Nat) (h : I n s) :
    codeAny (model prog w) A (.compLoop (.ListComp elt [⟨t1, it1, ifs1, 0⟩, ⟨t2, it2, ifs2, 0⟩] scope pos) 0 it acc env) Rz s := by
  refine codeAny_loop rfl I (fun n s hI => ?_) n h
  show wpAny _ A ((compTurn (.ListComp elt [⟨t1, it1, ifs1, 0⟩, ⟨t2, it2, ifs2, 0⟩] scope pos) 0 it acc env).onRaise (fun x => do noteFrame x env; theTreesLotGoes x)) _ _ s
  refine wpAny_noted ?_
  rw [compTurn_list2_out]
  refine wpAny_bind (wpAny_standAt (wpAny_bind (wpAny_mono (turn n s hI) (fun r s₁ h₁ => ?_) fun _ _ h' => False.elim h')))
  cases r with
  | none => exact wpAny_pure h₁
  | some v =>
    refine wpAny_bind (wpAny_mono h₁ (fun _ s₁' h₁' => ?_) fun _ _ h' => False.elim h')
    refine wpAny_bind (wpAny_mono h₁' (fun _ s₂ h₂ => wpAny_bind (wpAny_mono h₂ (fun ok s₃ h₃ => ?_) fun _ _ h' => False.elim h')) fun _ _ h' => False.elim h')
    cases ok with
    | false => exact wpAny_pure ⟨rfl, h₃⟩
    | true =>
      refine wpAny_bind (wpAny_mono h₃ (fun xv s₄ h₄ => ?_) fun _ _ h' => False.elim h')
      refine wpAny_bind (wpAny_standAt (wpAny_bind (wpAny_of_eq (hs xv) ?_)))
      refine wpAny_bind (wpAny_holding (wpAny_mono h₄ (fun iv s₅ h₅ => ?_) fun _ _ h' => False.elim h'))
      refine wpAny_bind (wpAny_runOwn ?_)
      exact h₅ _ fun s' q => wpAny_pure ⟨rfl, q⟩
end
section
variable {X : Cx}
/-- what the two loops ask: the outer one as for one clause; within its turn the inner one, its targets at vs2 -/
noncomputable def tLc2 (wi : TI) (g1 : TG) (tt1 : TT) (wi2 : TI) (g2 : TG) (tt2 : TT) (te : TE) (vs vs2 : List Nat) : TE := fun σ H Q => wi σ H fun J H1 => ∀ D, H1 D = none → ∃ W : Nat → Nat → Hp → Prop, (∃ m, W 0 m (upd H1 D (.lst []))) ∧ ∀ i m H, W i m H →
  (J.stop i H ∧ Q (.ref D) H) ∨ (J.go i H ∧ ∃ Nx : Hp → Prop, (∀ H', Nx H' → ∃ m', m' < m ∧ W (i + 1) m' H') ∧ ∀ x H', J.yld i H x H' → g1 x (wipe σ vs) H' fun σ2 H2 => wipe σ2 vs = wipe σ vs ∧ tt1 σ2 H2 fun b H3 =>
    if b = true then wi2 σ2 H3 fun J2 H4 => ∃ W2 : Nat → Nat → Hp → Prop, (∃ m, W2 0 m H4) ∧ ∀ j m5 H5, W2 j m5 H5 →
      (J2.stop j H5 ∧ Nx H5) ∨ (J2.go j H5 ∧ ∃ N2 : Hp → Prop, (∀ H', N2 H' → ∃ m', m' < m5 ∧ W2 (j + 1) m' H') ∧ ∀ y H6, J2.yld j H5 y H6 → g2 y (wipe σ2 vs2) H6 fun σ3 H7 => wipe σ3 vs2 = wipe σ2 vs2 ∧ tt2 σ3 H7 fun b2 H8 =>
        if b2 = true then te σ3 H8 fun z H9 => ∃ acc, H9 D = some (.lst acc) ∧ acc.length < sizeLine ∧ N2 (upd H9 D (.lst (acc ++ [z]))) else N2 H8)
    else Nx H3)
theorem lc2_core {pins : List (Addr × Obj)} {s : Shared} {σ : St} {H : Hp} {Q : VK} {elt tg1 it1 tg2 it2 : Expr} {ifs1 ifs2 : List Expr} {scope : Scope} {own : List (Str × Nat)} {pos pos' : Pos} {wi wi2 : TI} {g1 g2 : TG} {tt1 tt2 : TT} {te : TE} {vs2 : List Nat} {use : Option (Value → Sem Unit)} {Qf : Value → Shared → Prop}
    (hc : X.calm = true) (hN : X.N.Nodup) (I : Inv X pins σ H s) (hi : PI X tg1 it1 wi) (ok : BlkOk X.N X.env.scope scope own) (hvs : ∀ τ : St, wipe (wipe τ vs2) (own.map (·.2)) = wipe τ (own.map (·.2)))
    (hg1 : ∀ (s : Shared) (H : Hp) (C : Addr) (cl : List (Str × Addr)) (fp : List Addr), PG (X.blk s H scope (compEnvC scope cl C X.env) fp) tg1 g1) (ht1 : ∀ (s : Shared) (H : Hp) (C : Addr) (cl : List (Str × Addr)) (fp : List Addr), PTs (X.blk s H scope (compEnvC scope cl C X.env) fp) ifs1 tt1)
    (hi2 : ∀ (s : Shared) (H : Hp) (C : Addr) (cl : List (Str × Addr)) (fp : List Addr), PI (X.blk s H scope (compEnvC scope cl C X.env) fp) tg2 it2 wi2)
    (hg2 : ∀ (s : Shared) (H : Hp) (C : Addr) (cl : List (Str × Addr)) (fp : List Addr), PG (X.blk s H scope (compEnvC scope cl C X.env) fp) tg2 g2) (ht2 : ∀ (s : Shared) (H : Hp) (C : Addr) (cl : List (Str × Addr)) (fp : List Addr), PTs (X.blk s H scope (compEnvC scope cl C X.env) fp) ifs2 tt2)
    (he : ∀ (s : Shared) (H : Hp) (C : Addr) (cl : List (Str × Addr)) (fp : List Addr), PE (X.blk s H scope (compEnvC scope cl C X.env) fp) elt te) (hs : ∀ x, foldedSetIterable it1 X.env x = pure x)
    (hs2 : ∀ (C : Addr) (cl : List (Str × Addr)) x, foldedSetIterable it2 (compEnvC scope cl C X.env) x = pure x)
    (h : tLc2 wi g1 tt1 wi2 g2 tt2 te (own.map (·.2)) vs2 σ H Q)
    (hRR : ∀ D C s' m H', Inv X pins σ H' s' → Q (.ref D) H' → s'.heap.Ns C m → FpOk X pins H' C → compPost (model X.prog X.w) X.A X.xe use Qf (.ref D) C (.ok .next) s') :
    wpAny (model X.prog X.w) X.A (comprehension (.ListComp elt [⟨tg1, it1, ifs1, 0⟩, ⟨tg2, it2, ifs2, 0⟩] scope pos) scope X.env pos' (newList []) false (eval it1 X.env) use) Qf X.xe s := by
  have hfree : ∀ y ∈ scope.names, y.2 = .free → ∃ c, X.env.cells.lookup y.1 = some c := fun y hy e => by
    rcases ok.free y hy e with k | k
    · exact I.ok.has _ (.inl k)
    · exact I.ok.has _ (.inr k)
  refine wpAny_comprehension_free (use := use) rfl hs (closure_ok hfree) ok.kind (fun y hy e => by rw [ok.uniq y hy, e])
    (thn (hi.run pins s σ H _ I h) fun xv s1 hx => thn hx fun itv s2 h2 => ?_)
  obtain ⟨it, fp, tn, J, H2, e, I2, T, st2, f2, q⟩ := h2
  subst e
  refine wpAny_newObj_type (newEnv_comp ?_) (by show 0 ≤ sizeLine; decide)
  generalize hD : s2.heap.objs.size = D
  have hDn : H2 D = none := I2.hok.fresh (Nat.le_of_eq hD)
  obtain ⟨W, ⟨m0, w0⟩, turn⟩ := q D hDn
  generalize hs3 : ({ s2 with heap := s2.heap.push { cls := .type "list", data := .seq ([] : List Value).toArray } } : Shared) = s3
  have I3 : Inv X pins σ (upd H2 D (.lst [])) s3 := by
    rw [← hs3]
    refine I2.laid (t' := s2.toks) (fun b o e => Heap.get?_push_of_some _ e) (Nat.le_of_eq hD) ⟨Nat.zero_le _, [], 0, .nil, ?_⟩
    rw [← hD]
    exact Heap.get?_push_size _ rfl
  have h3 : s3.heap = s2.heap.push { cls := .type "list", data := .seq ([] : List Value).toArray } := by rw [← hs3]
  have sz : ∀ b ∈ fp, b < s2.heap.objs.size := fun b hb => by
    obtain ⟨o, e, _⟩ := T.obj _ _ st2 b hb
    exact Heap.lt_size e
  have f3 : ∀ b ∈ fp, FpOk X pins (upd H2 D (.lst [])) b ∧ b < s3.heap.objs.size := fun b hb => by
    have hlt := sz b hb
    refine ⟨⟨?_, (f2 b hb).2⟩, by rw [h3, Heap.size_push]; exact Nat.lt_succ_of_lt hlt⟩
    rw [upd_ne (by rw [← hD]; exact Nat.ne_of_lt hlt)]
    exact (f2 b hb).1
  have st3 : tn 0 s3.heap := T.keep _ _ _ st2 fun b _ o e => by rw [h3]; exact Heap.get?_push_of_some _ e
  have I4 := block_start I3 ok hN f3
  have pg := hg1 s3 (upd H2 D (.lst [])) s3.heap.objs.size (cellsFrom (s3.heap.objs.size + 1) scope.names (cloFrom X.env.cells scope.names [])) fp
  have pt := ht1 s3 (upd H2 D (.lst [])) s3.heap.objs.size (cellsFrom (s3.heap.objs.size + 1) scope.names (cloFrom X.env.cells scope.names [])) fp
  have pi2 := hi2 s3 (upd H2 D (.lst [])) s3.heap.objs.size (cellsFrom (s3.heap.objs.size + 1) scope.names (cloFrom X.env.cells scope.names [])) fp
  have pg2 := hg2 s3 (upd H2 D (.lst [])) s3.heap.objs.size (cellsFrom (s3.heap.objs.size + 1) scope.names (cloFrom X.env.cells scope.names [])) fp
  have pt2 := ht2 s3 (upd H2 D (.lst [])) s3.heap.objs.size (cellsFrom (s3.heap.objs.size + 1) scope.names (cloFrom X.env.cells scope.names [])) fp
  have pe := he s3 (upd H2 D (.lst [])) s3.heap.objs.size (cellsFrom (s3.heap.objs.size + 1) scope.names (cloFrom X.env.cells scope.names [])) fp
  have ps2 := hs2 s3.heap.objs.size (cellsFrom (s3.heap.objs.size + 1) scope.names (cloFrom X.env.cells scope.names []))
  show codeAny _ _ (.compStart (.ListComp elt [⟨tg1, it1, ifs1, 0⟩, ⟨tg2, it2, ifs2, 0⟩] scope pos) 0 (.ref it) (.ref D) (compEnvC scope (cellsFrom (s3.heap.objs.size + 1) scope.names (cloFrom X.env.cells scope.names [])) s3.heap.objs.size X.env)) (compPost (model X.prog X.w) X.A X.xe use Qf (.ref D) s3.heap.objs.size) { s3 with heap := pushCells (s3.heap.push { cls := .type "dict", data := .dict #[] }) scope.names }
  have nfp : ∀ b ∈ fp, (upd H2 D (.lst [])) b = none := fun b hb => (f3 b hb).1.1
  generalize hce : compEnvC scope (cellsFrom (s3.heap.objs.size + 1) scope.names (cloFrom X.env.cells scope.names [])) s3.heap.objs.size X.env = ce at I4 pg pt pi2 pg2 pt2 pe ps2 ⊢
  have cL : ce.locals = s3.heap.objs.size := by subst hce; rfl
  generalize hH3 : upd H2 D (.lst []) = H3 at I3 I4 pg pt pi2 pg2 pt2 pe w0 nfp f3
  generalize hs4 : ({ s3 with heap := pushCells (s3.heap.push { cls := .type "dict", data := .dict #[] }) scope.names } : Shared) = s4 at I4 ⊢
  have st4 : tn 0 s4.heap := T.keep _ _ _ st3 fun b _ o e => by rw [← hs4]; exact pushCells_keeps _ _ _ _ (Heap.get?_push_of_some _ e)
  have stat : ∀ {σ' : St} {H' : Hp} {s' : Shared}, Inv (X.blk s3 H3 scope ce fp) [] σ' H' s' → (∀ b ∈ fp, H' b = none) → ∀ b ∈ fp, FpOk (X.blk s3 H3 scope ce fp) [] H' b := fun {σ' H' s'} I' hn b hb =>
    ⟨hn b hb, (I'.ok.exf b hb).1, I'.ok.exfs b hb, .inl hb, fun x c e => (I'.ok.exf b hb).2 x c e, fun p hp => absurd (show p ∈ ([] : List (Addr × Obj)) ++ [] from hp) (by simp)⟩
  have loop : codeAny (model X.prog X.w) X.A (.compLoop (.ListComp elt [⟨tg1, it1, ifs1, 0⟩, ⟨tg2, it2, ifs2, 0⟩] scope pos) 0 (.ref it) (.ref D) ce) (compPost (model X.prog X.w) X.A X.xe use Qf (.ref D) s3.heap.objs.size) s4 := by
    refine loop2_out (fun n s' => ∃ i H', Inv (X.blk s3 H3 scope ce fp) [] (wipe σ (own.map (·.2))) H' s' ∧ tn i s'.heap ∧ (∀ b ∈ fp, H' b = none) ∧ W i n H') ps2 ?_ m0 ⟨0, H3, I4, st4, nfp, w0⟩
    rintro n s5 ⟨i, H5, I5, st5, n5, w5⟩
    rcases turn i n H5 w5 with ⟨stop, qq⟩ | ⟨go, Nx, hNx, step⟩
    · have td := T.done (X.blk s3 H3 scope ce fp) rfl rfl rfl hc i [] s5 _ H5 (fun _ _ => False) I5 (stat I5 n5) st5 stop
      refine thnF td fun r s6 ⟨hr, I6⟩ => ?_
      subst hr
      have I7 : Inv X pins σ H5 s6 := I3.call' (ch := fp) I6.os I6.base I6.hok I6.bare fun b hb => ⟨(f3 b hb).1.2.2.2.1, (f3 b hb).1.2.1, (f3 b hb).1.2.2.2.2.1, (f3 b hb).1.2.2.2.2.2⟩
      have nC : H5 s3.heap.objs.size = none := by
        have z : H5 ce.locals = none := I6.free
        rw [cL] at z
        exact z
      obtain ⟨m, hn, _⟩ := I6.loc
      have hn : s6.heap.Ns ce.locals m := hn
      rw [cL] at hn
      exact hRR D s3.heap.objs.size s6 m H5 I7 qq hn (I3.fpOk (Nat.le_refl _) nC)
    · have ti := T.item (X.blk s3 H3 scope ce fp) rfl rfl rfl hc i [] s5 _ H5 (fun _ _ => False) I5 (stat I5 n5) st5 go
      refine thnF ti fun r s6 ⟨u, hr, h6⟩ => ?_
      subst hr
      refine thnF h6 fun _ s7 ⟨x, H7, I7, r7, y7, st7, n7⟩ => ?_
      have I7' := I7.pinned (stat I7 n7) (T.obj _ _ st7)
      refine thnF (pg.run _ s7 _ H7 x u _ I7' r7 (step x H7 y7)) fun _ s8 ⟨σ8, H8, I8, hw8, q8⟩ => ?_
      refine thnF (pt.run _ s8 σ8 H8 _ I8 q8) fun b s9 ⟨H9, I9, q9⟩ => ?_
      have fin : ∀ {σ' : St} {s' : Shared} {H' : Hp}, wipe σ' (own.map (·.2)) = wipe σ (own.map (·.2)) → Inv (X.blk s3 H3 scope ce fp) ([] ++ pinsAt fp s7.heap) σ' H' s' → Nx H' → ∃ m, m < n ∧ ∃ i H', Inv (X.blk s3 H3 scope ce fp) [] (wipe σ (own.map (·.2))) H' s' ∧ tn i s'.heap ∧ (∀ b ∈ fp, H' b = none) ∧ W i m H' := fun {σ' s' H'} hw' I' nx => by
        obtain ⟨m', hm, w'⟩ := hNx H' nx
        have pin' : ∀ b ∈ fp, ∀ o, s7.heap.get? b = some o → s'.heap.get? b = some o ∧ H' b = none := fun b hb o e =>
          let z := I'.pin (b, o) (List.mem_append_right _ (List.mem_append_right _ (mem_pinsAt hb e)))
          ⟨z.1, z.2.1⟩
        have hl : (wipe σ (own.map (·.2))).length = σ'.length := by rw [← hw', wipe_length]
        refine ⟨m', hm, i + 1, H', (I'.unpinned (pins := [])).weak hl (fun j v e => ?_), T.keep _ _ _ st7 fun b hb o e => (pin' b hb o e).1, fun b hb => ?_, w'⟩
        · rw [← hw'] at e
          exact (wipe_some e).1
        · obtain ⟨o, e, _⟩ := T.obj _ _ st7 b hb
          exact (pin' b hb o e).2
      cases b with
      | false =>
        simp only [Bool.false_eq_true, if_false] at q9 ⊢
        exact fin hw8 I9 q9
      | true =>
        simp only [if_true] at q9 ⊢
        refine thnF (pi2.run _ s9 σ8 H9 _ I9 q9) fun xv s10 h10 => thnF h10 fun iv s11 h11 => ?_
        intro R2 hR2
        obtain ⟨ia, fp2, tn2, J2, H11, e11, I11, T2, st11, f11, W2, ⟨m2, w2⟩, turn2⟩ := h11
        subst e11
        have stat2 : ∀ {H' : Hp}, (∀ b ∈ fp2, H' b = none) → ∀ b ∈ fp2, FpOk (X.blk s3 H3 scope ce fp) ([] ++ pinsAt fp s7.heap) H' b := fun hn b hb => ⟨hn b hb, (f11 b hb).2⟩
        have I11w : Inv (X.blk s3 H3 scope ce fp) ([] ++ pinsAt fp s7.heap) (wipe σ8 vs2) H11 s11 := I11.weak (wipe_length ..) (fun j v e => (wipe_some e).1)
        have loop2 : codeAny (model X.prog X.w) X.A (.compLoop (.ListComp elt [⟨tg1, it1, ifs1, 0⟩, ⟨tg2, it2, ifs2, 0⟩] scope pos) 1 (.ref ia) (.ref D) ce) R2 s11 := by
          refine loop2_in (fun k s' => ∃ j H', Inv (X.blk s3 H3 scope ce fp) ([] ++ pinsAt fp s7.heap) (wipe σ8 vs2) H' s' ∧ tn2 j s'.heap ∧ (∀ b ∈ fp2, H' b = none) ∧ W2 j k H') ?_ m2 ⟨0, H11, I11w, st11, fun b hb => (f11 b hb).1, w2⟩
          rintro k s12 ⟨j, H12, I12, st12, n12, w12⟩
          rcases turn2 j k H12 w12 with ⟨stop2, nx⟩ | ⟨go2, N2, hN2, step2⟩
          · refine thnF (T2.done (X.blk s3 H3 scope ce fp) rfl rfl rfl hc j _ s12 _ H12 (fun _ _ => False) I12 (stat2 n12) st12 stop2) fun r s13 ⟨hr, I13⟩ => ?_
            subst hr
            exact hR2 s13 (fin ((hvs σ8).trans hw8) I13 nx)
          · refine thnF (T2.item (X.blk s3 H3 scope ce fp) rfl rfl rfl hc j _ s12 _ H12 (fun _ _ => False) I12 (stat2 n12) st12 go2) fun r s13 ⟨u2, hr, h13⟩ => ?_
            subst hr
            refine thnF h13 fun _ s14 ⟨y, H14, I14, r14, y14, st14, n14⟩ => ?_
            have I14' := I14.pinned (stat2 n14) (T2.obj _ _ st14)
            refine thnF (pg2.run _ s14 _ H14 y u2 _ I14' r14 (step2 y H14 y14)) fun _ s15 ⟨σ15, H15, I15, hw15, q15⟩ => ?_
            refine thnF (pt2.run _ s15 σ15 H15 _ I15 q15) fun b2 s16 ⟨H16, I16, q16⟩ => ?_
            have fin2 : ∀ {s' : Shared} {H' : Hp}, Inv (X.blk s3 H3 scope ce fp) (([] ++ pinsAt fp s7.heap) ++ pinsAt fp2 s14.heap) σ15 H' s' → N2 H' → ∃ m, m < k ∧ ∃ j H', Inv (X.blk s3 H3 scope ce fp) ([] ++ pinsAt fp s7.heap) (wipe σ8 vs2) H' s' ∧ tn2 j s'.heap ∧ (∀ b ∈ fp2, H' b = none) ∧ W2 j m H' := fun {s' H'} I' nx => by
              obtain ⟨m', hm, w'⟩ := hN2 H' nx
              have pin' : ∀ b ∈ fp2, ∀ o, s14.heap.get? b = some o → s'.heap.get? b = some o ∧ H' b = none := fun b hb o e =>
                let z := I'.pin (b, o) (List.mem_append_right _ (List.mem_append_right _ (mem_pinsAt hb e)))
                ⟨z.1, z.2.1⟩
              have hl : (wipe σ8 vs2).length = σ15.length := by rw [← hw15, wipe_length]
              refine ⟨m', hm, j + 1, H', I'.unpinned.weak hl (fun j v e => ?_), T2.keep _ _ _ st14 fun b hb o e => (pin' b hb o e).1, fun b hb => ?_, w'⟩
              · rw [← hw15] at e
                exact (wipe_some e).1
              · obtain ⟨o, e, _⟩ := T2.obj _ _ st14 b hb
                exact (pin' b hb o e).2
            cases b2 with
            | false =>
              simp only [Bool.false_eq_true, if_false] at q16 ⊢
              exact fin2 I16 q16
            | true =>
              simp only [if_true] at q16 ⊢
              refine thnF (pe.run _ s16 σ15 H16 _ I16 q16) fun z s17 ⟨yv, H17, I17, r17, acc, hD17, hz17, nx⟩ => ?_
              exact app_ok (X := X.blk s3 H3 scope ce fp) I17 hD17 hz17 r17 fun s18 I18 => fin2 I18 nx
        exact compStart_list2_in loop2 (T2.self X.A 0 _ _ _ st11 loop2)
  exact codeAny_compStart_list loop (T.self X.A 0 _ _ _ st4 loop)
end
/-! ### the mirror -/
/-- the frozen part and the heap grow, but for the list at D, which is not frozen -/
structure ExtD (F H F' H' : Hp) (Dd : Addr) : Prop where
  le : Le F F'
  sub : Le F' H'
  keep : ∀ a o, a ≠ Dd → H a = some o → H' a = some o
  new : ∀ a o, a ≠ Dd → F' a = some o → F a = some o ∨ H a = none
  fD : F' Dd = none
theorem ExtD.of {F H F' H' : Hp} {Dd : Addr} (e : Ext F H F' H') (n : F' Dd = none) : ExtD F H F' H' Dd := ⟨e.le, e.sub, fun a o _ h => e.keep a o h, fun a o _ => e.new a o, n⟩
theorem ExtD.next {F H F1 H1 F2 H2 : Hp} {Dd : Addr} (a : ExtD F H F1 H1 Dd) (b : Ext F1 H1 F2 H2) (n : F2 Dd = none) : ExtD F H F2 H2 Dd where
  le := a.le.trans b.le
  sub := b.sub
  keep := fun c o n h => b.keep c o (a.keep c o n h)
  fD := n
  new := fun c o n h => by
    rcases b.new c o h with q | q
    · exact a.new c o n q
    · refine .inr ?_
      cases z : H c with
      | none => rfl
      | some u => rw [a.keep c u n z] at q; cases q
theorem ExtD.app {F H F1 H1 : Hp} {Dd : Addr} (a : ExtD F H F1 H1 Dd) (o : HO) : ExtD F H F1 (upd H1 Dd o) Dd where
  le := a.le
  sub := a.sub.upd a.fD
  keep := fun c u n h => by rw [upd_ne n]; exact a.keep c u n h
  fD := a.fD
  new := a.new
/-- as seen from a heap ahead of the list -/
theorem ExtD.from {F H F1 H1 F2 H2 : Hp} {Dd : Addr} (hD : H Dd = none) (a : Ext F H F1 H1) (b : ExtD F1 H1 F2 H2 Dd) : Ext F H F2 H2 where
  le := a.le.trans b.le
  sub := b.sub
  keep := fun c o h => b.keep c o (fun e => by rw [e, hD] at h; cases h) (a.keep c o h)
  new := fun c o h => by
    by_cases n : c = Dd
    · subst n; exact .inr hD
    · rcases b.new c o n h with q | q
      · exact a.new c o q
      · exact .inr (a.keep.none q)
section
variable {K : PySem.W.Frag} {F0 H0 F H F' H' : Hp} {ρ : En} {σ : St} {Dd : Addr} {o : HO}
/-- the list at D is set among what stands at the entry -/
theorem Ok.base (h : Ok K F0 H0 ρ F σ H) (hD : H Dd = none) (e : Ext F H F' H') (fD : F' Dd = none) (hD' : H' Dd = some o) : Ok K F0 (upd H0 Dd o) ρ F' σ H' := by
  have g := h.grow e
  have h0 : H0 Dd = none := h.ext.keep.none hD
  refine ⟨g.len, ⟨g.ext.le, g.ext.sub, fun a u q => ?_, fun a u q => ?_⟩, h.low.upd (h.low.none h0), fun i s q => ?_, let ⟨f, hf⟩ := h.own; ⟨f, fun i s q => (hf i s q).to e.le (fun a u x1 x2 x3 x4 => ⟨e.keep a u x4, e.still x4 x2, by rw [upd_ne (fun z => by rw [z, hD] at x4; cases x4)]; exact x3, x1⟩) fun _ _ x => x⟩⟩
  · by_cases n : a = Dd
    · subst n; rw [upd_same] at q; cases q; exact hD'
    · rw [upd_ne n] at q; exact g.ext.keep a u q
  · by_cases n : a = Dd
    · subst n; rw [fD] at q; cases q
    · rw [upd_ne n]; exact g.ext.new a u q
  · cases s with
    | ce xs =>
      obtain ⟨a, vs, h1, h2, h3, h4, h5⟩ := g.sl i _ q
      obtain ⟨b, ws, k1, k2, _, _, _⟩ := h.sl i _ q
      rw [h1] at k1; cases k1
      refine ⟨a, vs, h1, h2, h3, ?_, h5⟩
      rw [upd_ne (fun e => by rw [e, hD] at k2; cases k2)]
      exact h4
    | un => exact g.sl i _ q
    | da d => exact g.sl i _ q
    | ow d => trivial
    | cc d => trivial
    | er a dx n => exact g.sl i _ q
    | sc ns => exact g.sl i _ q
    | dd kvs =>
      obtain ⟨a, vs, h1, h2, h3, h4, h5⟩ := g.sl i _ q
      obtain ⟨b, ws, k1, k2, _, _, _⟩ := h.sl i _ q
      rw [h1] at k1; cases k1
      refine ⟨a, vs, h1, h2, h3, ?_, h5⟩
      rw [upd_ne (fun e => by rw [e, hD] at k2; cases k2)]
      exact h4
    | dk b kvs =>
      obtain ⟨h1, h2, h3, h4⟩ := g.sl i _ q
      obtain ⟨_, _, _, k4⟩ := h.sl i _ q
      refine ⟨h1, ?_, h3, h4⟩
      rw [upd_ne (fun e => by
        obtain ⟨_, es, k5, _⟩ := k4
        rw [e, hD] at k5; cases k5)]
      exact h2
/-- and taken away again -/
theorem Ok.shift (h : Ok K F0 (upd H0 Dd o) ρ F σ H) (h0 : H0 Dd = none) (e : ExtD F H F' H' Dd) : Ok K F0 H0 ρ F' σ H' := by
  have hk : ∀ a u, H0 a = some u → a ≠ Dd ∧ H a = some u := fun a u q => by
    have n : a ≠ Dd := fun e => by rw [e, h0] at q; cases q
    exact ⟨n, h.ext.keep a u (by rw [upd_ne n]; exact q)⟩
  refine ⟨h.len, ⟨h.ext.le.trans e.le, e.sub, fun a u q => e.keep a u (hk a u q).1 (hk a u q).2, fun a u q => ?_⟩, fun a u q => ?_, fun i s q => ?_, let ⟨f, hf⟩ := h.own; ⟨f, fun i s q => (hf i s q).to e.le (fun a u x1 x2 x3 x4 => by
    have n : a ≠ Dd := fun z => by rw [z, upd_same] at x3; cases x3
    rw [upd_ne n] at x3
    refine ⟨e.keep a u n x4, ?_, x3, x1⟩
    cases y : F' a with
    | none => rfl
    | some w =>
      rcases e.new a w n y with z | z
      · rw [x2] at z; cases z
      · rw [x4] at z; cases z) fun _ _ x => x⟩⟩
  · by_cases n : a = Dd
    · subst n; rw [e.fD] at q; cases q
    · rcases e.new a u n q with z | z
      · rcases h.ext.new a u z with y | y
        · exact .inl y
        · rw [upd_ne n] at y; exact .inr y
      · refine .inr ?_
        cases y : H0 a with
        | none => rfl
        | some w => rw [(hk a w y).2] at z; cases z
  · have z := h.low a u q
    by_cases n : a = Dd
    · subst n
      have y := e.fD
      rw [(h.ext.le.trans e.le) a u q] at y
      cases y
    · rw [upd_ne n] at z; exact z
  · cases s with
    | ce xs =>
      obtain ⟨a, vs, h1, h2, h3, h4, h5⟩ := h.sl i _ q
      have n : a ≠ Dd := fun e => by rw [e, upd_same] at h4; cases h4
      rw [upd_ne n] at h4
      refine ⟨a, vs, h1, e.keep a _ n h2, ?_, h4, h5.mono e.le⟩
      cases y : F' a with
      | none => rfl
      | some w =>
        rcases e.new a w n y with z | z
        · rw [h3] at z; cases z
        · rw [h2] at z; cases z
    | un => trivial
    | da d => obtain ⟨v, a, b⟩ := h.sl i _ q; exact ⟨v, a, b.mono e.le⟩
    | ow d => trivial
    | cc d => trivial
    | er a dx n => have z := h.sl i _ q; exact ⟨z.1, e.le _ _ z.2⟩
    | sc ns => obtain ⟨a, h1, h2⟩ := h.sl i _ q; exact ⟨a, h1, e.le.sql h2⟩
    | dd kvs =>
      obtain ⟨a, vs, h1, h2, h3, h4, h5⟩ := h.sl i _ q
      have n : a ≠ Dd := fun e => by rw [e, upd_same] at h4; cases h4
      rw [upd_ne n] at h4
      refine ⟨a, vs, h1, e.keep a _ n h2, ?_, h4, h5.mono e.le⟩
      cases y : F' a with
      | none => rfl
      | some w =>
        rcases e.new a w n y with z | z
        · rw [h3] at z; cases z
        · rw [h2] at z; cases z
    | dk b kvs =>
      obtain ⟨h1, h2, h3, h4⟩ := h.sl i _ q
      have n : b ≠ Dd := fun e => by rw [e, upd_same] at h2; cases h2
      rw [upd_ne n] at h2
      have h4' := h4
      obtain ⟨_, es, h5, _⟩ := h4'
      refine ⟨h1, h2, ?_, h4.mono e.le ((e.keep b _ n h5).trans h5.symm)⟩
      cases y : F' b with
      | none => rfl
      | some w =>
        rcases e.new b w n y with z | z
        · rw [h3] at z; cases z
        · rw [h5] at z; cases z
end
noncomputable def lcM (g1 : Tg) (t1 : En → R Bool) (src2 : En → R (List D)) (g2 : Tg) (t2 : En → R Bool) (e : En → R D) (vs2 : List Nat) (ρ : En) (xs : List D) : R (List D) :=
  List.rec (.ok []) (fun x _ ih => (ofO (g1 x ρ)).bind fun ρ1 => (t1 ρ1).bind fun k => if k = true then (src2 ρ1).bind fun ys => (lcL g2 t2 e (wipeE ρ1 vs2) ys).bind fun r1 => ih.bind fun r => .ok (r1 ++ r) else ih) xs
theorem lcM_cons {g1 : Tg} {t1 : En → R Bool} {src2 : En → R (List D)} {g2 : Tg} {t2 : En → R Bool} {e : En → R D} {vs2 : List Nat} {ρ : En} {x : D} {xs : List D} : lcM g1 t1 src2 g2 t2 e vs2 ρ (x :: xs) = (ofO (g1 x ρ)).bind fun ρ1 => (t1 ρ1).bind fun k => if k = true then (src2 ρ1).bind fun ys => (lcL g2 t2 e (wipeE ρ1 vs2) ys).bind fun r1 => (lcM g1 t1 src2 g2 t2 e vs2 ρ xs).bind fun r => .ok (r1 ++ r) else lcM g1 t1 src2 g2 t2 e vs2 ρ xs := rfl
/-- [e for g1 in src1 if t1 for g2 in src2 if t2]; vs the comprehension's own names, vs2 those of the second target -/
noncomputable def lcF2 (g1 : Tg) (src1 : En → R (List D)) (t1 : En → R Bool) (g2 : Tg) (src2 : En → R (List D)) (t2 : En → R Bool) (e : En → R D) (vs vs2 : List Nat) : En → R (List D) := fun ρ =>
  (src1 ρ).bind fun xs => (lcM g1 t1 src2 g2 t2 e vs2 (wipeE ρ vs) xs).calm.bind fun r => if small r = true then .ok r else .no
theorem wipe_sub {us vs : List Nat} (hu : ∀ i ∈ us, i ∈ vs) (τ : St) : L2.wipe (L2.wipe τ us) vs = L2.wipe τ vs := by
  induction us with
  | nil => rfl
  | cons u us ih =>
    show L2.wipe ((L2.wipe τ us).set u none) vs = L2.wipe τ vs
    rw [wipe_set_in (hu u (by simp))]
    exact ih fun i hi => hu i (by simp [hi])
theorem lc2_read {cl : String → Addr} {W : XK} {src1 src2 : En → R (List D)} {g1 g2 : Tg} {sl1 sl2 : List Nat} {t1 t2 : En → R Bool} {me : En → R D} {vs vs2 : List Nat} {K : PySem.W.Frag} {σ : St} {H : Hp} {Q : VK} (hsl1 : ∀ i ∈ sl1, i ∈ vs) (hsl2 : ∀ i ∈ sl2, i ∈ vs2) (h : tM cl W K (poF K) (lcF2 g1 src1 t1 g2 src2 t2 me vs vs2) σ H Q) :
    tLc2 (tI cl W K true src1) (tGp K g1 sl1) (tMB cl E0 K t1) (tI cl E0 K false src2) (tGp K g2 sl2) (tMB cl E0 K t2) (tM cl E0 K (poD K) me) vs vs2 σ H Q := by
  obtain ⟨F0, H0, ρ, F, okk, h⟩ := h
  refine ⟨F0, H0, ρ, F, okk, ?_⟩
  have h : tR cl W (poF K) ((src1 ρ).bind fun xs => (lcM g1 t1 src2 g2 t2 me vs2 (wipeE ρ vs) xs).calm.bind fun r => if small r = true then .ok r else .no) F H Q := h
  cases hr : src1 ρ with
  | no => rw [hr] at h; exact h
  | ex c n => rw [hr] at h; exact h
  | ok xs =>
    rw [hr] at h
    have h : tR cl W (poF K) ((lcM g1 t1 src2 g2 t2 me vs2 (wipeE ρ vs) xs).calm.bind fun r => if small r = true then .ok r else .no) F H Q := h
    intro J F1 H1 e1 w Dd nD
    have w : Walk K J F1 H1 xs := w
    cases hl : lcM g1 t1 src2 g2 t2 me vs2 (wipeE ρ vs) xs with
    | no => rw [hl] at h; exact False.elim h
    | ex c n => rw [hl] at h; exact False.elim h
    | ok tot =>
      rw [hl] at h
      have h : tR cl W (poF K) (if small tot = true then .ok tot else .no) F H Q := h
      split at h
      case isFalse => exact False.elim h
      case isTrue hsm =>
      have htot : tot.length ≤ sizeLine := of_decide_eq_true hsm
      have ok1 : Ok K F0 H0 (wipeE ρ vs) F1 (L2.wipe σ vs) H1 := (okk.grow e1).wipe vs
      have h00 : H0 Dd = none := (okk.grow e1).ext.keep.none nD
      let Wn : List D → Hp → Prop := fun rest Hi => ∃ Fi acc ds r, Ext F1 H1 Fi Hi ∧ Fi Dd = none ∧ Hi Dd = some (.lst acc) ∧ RpA K Fi acc ds ∧ lcM g1 t1 src2 g2 t2 me vs2 (wipeE ρ vs) rest = .ok r ∧ tot = ds ++ r
      refine ⟨fun i m Hi => m = xs.length - i ∧ i ≤ xs.length ∧ Wn (xs.drop i) Hi,
        ⟨_, rfl, Nat.zero_le _, F1, [], [], tot, Ext.grow e1.sub nD, e1.sub.none nD, upd_same, .nil, hl, rfl⟩, ?_⟩
      rintro i m Hi ⟨rfl, hi, Fi, acc, ds, r, ex, fD, hD, ra, hlr, ht⟩
      have keepD : ∀ {Fa Ha Fb Hb : Hp} {ac : List V}, Ext Fa Ha Fb Hb → Fa Dd = none → Ha Dd = some (.lst ac) → Fb Dd = none ∧ Hb Dd = some (.lst ac) := fun {Fa Ha Fb Hb ac} ee n1 n2 => by
        refine ⟨?_, ee.keep _ _ n2⟩
        cases q : Fb Dd with
        | none => rfl
        | some o =>
          rcases ee.new Dd o q with z | z
          · rw [n1] at z; cases z
          · rw [n2] at z; cases z
      by_cases hlt : i < xs.length
      · have hd : xs.drop i = xs[i] :: xs.drop (i + 1) := List.drop_eq_getElem_cons hlt
        rw [hd, lcM_cons] at hlr
        obtain ⟨q1, q2⟩ := w.go i Fi Hi ex.le ex.sub ex.keep xs[i] (by simp [hlt])
        refine .inr ⟨q1, Wn (xs.drop (i + 1)), fun H' q => ⟨xs.length - (i + 1), by omega, rfl, hlt, q⟩, fun x H'' y => ?_⟩
        obtain ⟨F'', e2, rx⟩ := q2 x H'' y
        have ex2 := ex.trans e2
        obtain ⟨fD2, hD2⟩ := keepD e2 fD hD
        have okb : Ok K F0 (upd H0 Dd (.lst acc)) (wipeE ρ vs) F'' (L2.wipe σ vs) H'' := ok1.base nD ex2 fD2 hD2
        refine ⟨F0, upd H0 Dd (.lst acc), wipeE ρ vs, F'', xs[i], okb, rx, ?_⟩
        cases hg1 : g1 xs[i] (wipeE ρ vs) with
        | none => rw [hg1] at hlr; cases hlr
        | some ρ1 =>
          rw [hg1] at hlr
          have hlr : ((t1 ρ1).bind fun k => if k = true then (src2 ρ1).bind fun ys => (lcL g2 t2 me (wipeE ρ1 vs2) ys).bind fun r1 => (lcM g1 t1 src2 g2 t2 me vs2 (wipeE ρ vs) (xs.drop (i + 1))).bind fun r => .ok (r1 ++ r) else lcM g1 t1 src2 g2 t2 me vs2 (wipeE ρ vs) (xs.drop (i + 1))) = .ok r := hlr
          intro σ2 ok2 w2
          refine ⟨(w2 vs hsl1).trans (wipe_sub (fun _ h => h) σ), F0, upd H0 Dd (.lst acc), ρ1, F'', ok2, ?_⟩
          cases ht1 : t1 ρ1 with
          | no => rw [ht1] at hlr; cases hlr
          | ex c n => rw [ht1] at hlr; cases hlr
          | ok k =>
            rw [ht1] at hlr
            intro F3 H3 e3
            obtain ⟨fD3, hD3⟩ := keepD e3 fD2 hD2
            have ex3 := ex2.trans e3
            cases k with
            | false =>
              rw [if_neg Bool.false_ne_true]
              exact ⟨F3, acc, ds, r, ex3, fD3, hD3, ra.mono (e2.le.trans e3.le), hlr, ht⟩
            | true =>
              rw [if_pos rfl]
              have hlr : ((src2 ρ1).bind fun ys => (lcL g2 t2 me (wipeE ρ1 vs2) ys).bind fun r1 => (lcM g1 t1 src2 g2 t2 me vs2 (wipeE ρ vs) (xs.drop (i + 1))).bind fun r => .ok (r1 ++ r)) = .ok r := hlr
              have ok3 := ok2.grow e3
              refine ⟨F0, upd H0 Dd (.lst acc), ρ1, F3, ok3, ?_⟩
              cases hs2 : src2 ρ1 with
              | no => rw [hs2] at hlr; cases hlr
              | ex c n => rw [hs2] at hlr; cases hlr
              | ok ys =>
                rw [hs2] at hlr
                have hlr : ((lcL g2 t2 me (wipeE ρ1 vs2) ys).bind fun r1 => (lcM g1 t1 src2 g2 t2 me vs2 (wipeE ρ vs) (xs.drop (i + 1))).bind fun r => .ok (r1 ++ r)) = .ok r := hlr
                intro J2 F4 H4 e4 w4
                have w4 : Walk K J2 F4 F4 ys := w4
                obtain ⟨fD4, hD4⟩ := keepD e4 fD3 hD3
                have ex4 := ex3.trans e4
                have ra4 := ra.mono ((e2.le.trans e3.le).trans e4.le)
                have ok4 : Ok K F0 (upd H0 Dd (.lst acc)) (wipeE ρ1 vs2) F4 (L2.wipe σ2 vs2) H4 := (ok3.grow e4).wipe vs2
                cases hl2 : lcL g2 t2 me (wipeE ρ1 vs2) ys with
                | no => rw [hl2] at hlr; cases hlr
                | ex c n => rw [hl2] at hlr; cases hlr
                | ok r1 =>
                rw [hl2] at hlr
                have hlr : ((lcM g1 t1 src2 g2 t2 me vs2 (wipeE ρ vs) (xs.drop (i + 1))).bind fun r => .ok (r1 ++ r)) = .ok r := hlr
                cases hl3 : lcM g1 t1 src2 g2 t2 me vs2 (wipeE ρ vs) (xs.drop (i + 1)) with
                | no => rw [hl3] at hlr; cases hlr
                | ex c n => rw [hl3] at hlr; cases hlr
                | ok r3 =>
                rw [hl3] at hlr
                have hlr : r1 ++ r3 = r := by
                  have z : R.ok (r1 ++ r3) = R.ok r := hlr
                  injection z
                have ht2 : tot = ds ++ r1 ++ r3 := by rw [ht, ← hlr, List.append_assoc]
                let W2 : List D → Hp → Prop := fun rest Hj => ∃ Fj ac es q, ExtD F4 H4 Fj Hj Dd ∧ Hj Dd = some (.lst ac) ∧ RpA K Fj ac es ∧ lcL g2 t2 me (wipeE ρ1 vs2) rest = .ok q ∧ tot = es ++ q ++ r3
                refine ⟨fun j m Hj => m = ys.length - j ∧ j ≤ ys.length ∧ W2 (ys.drop j) Hj, ⟨_, rfl, Nat.zero_le _, F4, acc, ds, r1, ExtD.of (Ext.refl e4.sub) fD4, hD4, ra4, hl2, ht2⟩, ?_⟩
                rintro j m5 Hj ⟨rfl, hj, Fj, ac, es, q, xj, hDj, rj, hlq, htq⟩
                by_cases hltj : j < ys.length
                · have hdj : ys.drop j = ys[j] :: ys.drop (j + 1) := List.drop_eq_getElem_cons hltj
                  rw [hdj, lcL_cons] at hlq
                  obtain ⟨p1, p2⟩ := w4.go j Fj Hj xj.le xj.sub (xj.le.trans xj.sub) ys[j] (by simp [hltj])
                  refine .inr ⟨p1, W2 (ys.drop (j + 1)), fun H' q => ⟨ys.length - (j + 1), by omega, rfl, hltj, q⟩, fun y H6 yy => ?_⟩
                  obtain ⟨F6, e6, ry⟩ := p2 y H6 yy
                  obtain ⟨fD6, hD6⟩ := keepD e6 xj.fD hDj
                  have x6 := xj.next e6 fD6
                  have ok6 : Ok K F0 H0 (wipeE ρ1 vs2) F6 (L2.wipe σ2 vs2) H6 := ok4.shift h00 x6
                  refine ⟨F0, H0, wipeE ρ1 vs2, F6, ys[j], ok6, ry, ?_⟩
                  cases hg2 : g2 ys[j] (wipeE ρ1 vs2) with
                  | none => rw [hg2] at hlq; cases hlq
                  | some ρ2 =>
                    rw [hg2] at hlq
                    have hlq : ((t2 ρ2).bind fun k => if k = true then (me ρ2).bind fun y => (lcL g2 t2 me (wipeE ρ1 vs2) (ys.drop (j + 1))).bind fun r => .ok (y :: r) else lcL g2 t2 me (wipeE ρ1 vs2) (ys.drop (j + 1))) = .ok q := hlq
                    intro σ3 ok7 w7
                    refine ⟨(w7 vs2 hsl2).trans (wipe_sub (fun _ h => h) σ2), F0, H0, ρ2, F6, ok7, ?_⟩
                    cases hq1 : t2 ρ2 with
                    | no => rw [hq1] at hlq; cases hlq
                    | ex c n => rw [hq1] at hlq; cases hlq
                    | ok k2 =>
                      rw [hq1] at hlq
                      intro F8 H8 e8
                      obtain ⟨fD8, hD8⟩ := keepD e8 fD6 hD6
                      have x8 := x6.next e8 fD8
                      cases k2 with
                      | false =>
                        rw [if_neg Bool.false_ne_true]
                        exact ⟨F8, ac, es, q, x8, hD8, rj.mono (e6.le.trans e8.le), hlq, htq⟩
                      | true =>
                        rw [if_pos rfl]
                        have hlq : ((me ρ2).bind fun y => (lcL g2 t2 me (wipeE ρ1 vs2) (ys.drop (j + 1))).bind fun r => .ok (y :: r)) = .ok q := hlq
                        refine ⟨F0, H0, ρ2, F8, ok7.grow e8, ?_⟩
                        cases hme : me ρ2 with
                        | no => rw [hme] at hlq; cases hlq
                        | ex c n => rw [hme] at hlq; cases hlq
                        | ok z =>
                          rw [hme] at hlq
                          have hlq : ((lcL g2 t2 me (wipeE ρ1 vs2) (ys.drop (j + 1))).bind fun r => .ok (z :: r)) = .ok q := hlq
                          intro v F9 H9 e9 p9
                          obtain ⟨fD9, hD9⟩ := keepD e9 fD8 hD8
                          have x9 := x8.next e9 fD9
                          cases hl4 : lcL g2 t2 me (wipeE ρ1 vs2) (ys.drop (j + 1)) with
                          | no => rw [hl4] at hlq; cases hlq
                          | ex c n => rw [hl4] at hlq; cases hlq
                          | ok r2 =>
                            rw [hl4] at hlq
                            have hlq : z :: r2 = q := by
                              have z : R.ok (z :: r2) = R.ok q := hlq
                              injection z
                            have p9 : Rp K F9 v z := p9
                            refine ⟨ac, hD9, ?_, F9, ac ++ [v], es ++ [z], r2, x9.app _, upd_same, (rj.mono ((e6.le.trans e8.le).trans e9.le)).append (.cons p9 .nil), hl4, ?_⟩
                            · rw [rj.length]
                              have : tot.length = es.length + q.length + r3.length := by rw [htq, List.length_append, List.length_append]
                              have : q.length = r2.length + 1 := by rw [← hlq]; rfl
                              omega
                            · rw [htq, ← hlq, List.append_assoc es [z] r2]; rfl
                · have ej : j = ys.length := by omega
                  subst ej
                  rw [List.drop_length] at hlq
                  have hlq : ([] : List D) = q := by
                    have z : R.ok ([] : List D) = R.ok q := hlq
                    injection z
                  subst hlq
                  rw [List.append_nil] at htq
                  exact .inl ⟨w4.stop _ Fj Hj xj.le xj.sub (xj.le.trans xj.sub) (Nat.le_refl _), Fj, ac, es, r3, ExtD.from nD ex4 xj, xj.fD, hDj, rj, hl3, htq⟩
      · have e : i = xs.length := by omega
        subst e
        rw [List.drop_length] at hlr
        have hlr : ([] : List D) = r := by
          have z : R.ok ([] : List D) = R.ok r := hlr
          injection z
        subst hlr
        rw [List.append_nil] at ht
        subst ht
        have eh : Ext F H Fi Hi := e1.trans ex
        exact .inl ⟨w.stop _ Fi Hi ex.le ex.sub ex.keep (Nat.le_refl _), h _ Fi Hi eh ⟨Dd, acc, rfl, e1.keep.none nD, fD, hD, ra⟩⟩
section
variable {X : Cx} {cl : String → Addr} {W : XK} {pos : Pos}
theorem pf_lc2 {elt tg1 it1 tg2 it2 : Expr} {ifs1 ifs2 : List Expr} {scope : Scope} {own : List (Str × Nat)} {src1 src2 : En → R (List D)} {g1 g2 : Tg} {sl1 sl2 vs2 : List Nat} {t1 t2 : En → R Bool} {me : En → R D} (hc : X.calm = true) (hN : X.N.Nodup) (hi : PSr X cl W true tg1 it1 src1) (ok : BlkOk X.N X.env.scope scope own)
    (hsl1 : ∀ i ∈ sl1, i ∈ own.map (·.2)) (hsl2 : ∀ i ∈ sl2, i ∈ vs2) (hvs : ∀ i ∈ vs2, i ∈ own.map (·.2))
    (hg1 : ∀ (s : Shared) (H : Hp) (C : Addr) (cs : List (Str × Addr)) (fp : List Addr), PGp (X.blk s H scope (compEnvC scope cs C X.env) fp) tg1 g1 sl1) (ht1 : ∀ (s : Shared) (H : Hp) (C : Addr) (cs : List (Str × Addr)) (fp : List Addr), PTm (X.blk s H scope (compEnvC scope cs C X.env) fp) cl E0 ifs1 t1)
    (hi2 : ∀ (s : Shared) (H : Hp) (C : Addr) (cs : List (Str × Addr)) (fp : List Addr), PSr (X.blk s H scope (compEnvC scope cs C X.env) fp) cl E0 false tg2 it2 src2)
    (hg2 : ∀ (s : Shared) (H : Hp) (C : Addr) (cs : List (Str × Addr)) (fp : List Addr), PGp (X.blk s H scope (compEnvC scope cs C X.env) fp) tg2 g2 sl2) (ht2 : ∀ (s : Shared) (H : Hp) (C : Addr) (cs : List (Str × Addr)) (fp : List Addr), PTm (X.blk s H scope (compEnvC scope cs C X.env) fp) cl E0 ifs2 t2)
    (he : ∀ (s : Shared) (H : Hp) (C : Addr) (cs : List (Str × Addr)) (fp : List Addr), PD (X.blk s H scope (compEnvC scope cs C X.env) fp) cl E0 elt me) (hs : ∀ x, foldedSetIterable it1 X.env x = pure x := by intro _; rfl)
    (hs2 : ∀ (C : Addr) (cs : List (Str × Addr)) x, foldedSetIterable it2 (compEnvC scope cs C X.env) x = pure x := by intro _ _ _; rfl) :
    PF X cl W (.ListComp elt [⟨tg1, it1, ifs1, 0⟩, ⟨tg2, it2, ifs2, 0⟩] scope pos) (lcF2 g1 src1 t1 g2 src2 t2 me (own.map (·.2)) vs2) := by
  refine ⟨fun pins s σ H Q I h => ?_⟩
  rw [eval_ListComp]
  refine lc2_core (g1 := tGp X.K g1 sl1) (tt1 := tMB cl E0 X.K t1) (wi2 := tI cl E0 X.K false src2) (g2 := tGp X.K g2 sl2) (tt2 := tMB cl E0 X.K t2) (te := tM cl E0 X.K (poD X.K) me) hc hN I hi ok (wipe_sub hvs) hg1 ht1 hi2 hg2 ht2 he hs hs2 (lc2_read hsl1 hsl2 h) fun D C s' m H' I' q hn f => ⟨m, hn, fun h'' sb => ?_⟩
  obtain ⟨f0, f1, f2, f3, f4, f5⟩ := f
  exact ⟨.ref D, H', I'.turned (t' := s'.toks) (fun b o hb e => (sb.2 b hb).trans e) f0 f1 f3 f4 f5, rfl, q⟩
/-- y = [..], where the target is stored within the comprehension's frame -/
theorem ps_setLc2 {i : Nat} {y : Str} {py : Pos} {elt tg1 it1 tg2 it2 : Expr} {ifs1 ifs2 : List Expr} {scope : Scope} {own : List (Str × Nat)} {spos : Pos} {wi wi2 : TI} {g1 g2 : TG} {tt1 tt2 : TT} {te : TE} {vs2 : List Nat} (hc : X.calm = true) (hN : X.N.Nodup) (hy : X.N[i]? = some y) (hyl : X.env.scope.names.lookup y = some .local)
    (hsw : swapsWith (.ListComp elt [⟨tg1, it1, ifs1, 0⟩, ⟨tg2, it2, ifs2, 0⟩] scope pos) (some (.Name y py)) spos.line X.env = pure true) (hi : PI X tg1 it1 wi) (ok : BlkOk X.N X.env.scope scope own) (hvs : ∀ τ : St, wipe (wipe τ vs2) (own.map (·.2)) = wipe τ (own.map (·.2)))
    (hg1 : ∀ (s : Shared) (H : Hp) (C : Addr) (cl : List (Str × Addr)) (fp : List Addr), PG (X.blk s H scope (compEnvC scope cl C X.env) fp) tg1 g1) (ht1 : ∀ (s : Shared) (H : Hp) (C : Addr) (cl : List (Str × Addr)) (fp : List Addr), PTs (X.blk s H scope (compEnvC scope cl C X.env) fp) ifs1 tt1)
    (hi2 : ∀ (s : Shared) (H : Hp) (C : Addr) (cl : List (Str × Addr)) (fp : List Addr), PI (X.blk s H scope (compEnvC scope cl C X.env) fp) tg2 it2 wi2)
    (hg2 : ∀ (s : Shared) (H : Hp) (C : Addr) (cl : List (Str × Addr)) (fp : List Addr), PG (X.blk s H scope (compEnvC scope cl C X.env) fp) tg2 g2) (ht2 : ∀ (s : Shared) (H : Hp) (C : Addr) (cl : List (Str × Addr)) (fp : List Addr), PTs (X.blk s H scope (compEnvC scope cl C X.env) fp) ifs2 tt2)
    (he : ∀ (s : Shared) (H : Hp) (C : Addr) (cl : List (Str × Addr)) (fp : List Addr), PE (X.blk s H scope (compEnvC scope cl C X.env) fp) elt te) (hs : ∀ x, foldedSetIterable it1 X.env x = pure x)
    (hs2 : ∀ (C : Addr) (cl : List (Str × Addr)) x, foldedSetIterable it2 (compEnvC scope cl C X.env) x = pure x) :
    PS X (.Assign [.Name y py] (.ListComp elt [⟨tg1, it1, ifs1, 0⟩, ⟨tg2, it2, ifs2, 0⟩] scope pos) spos) (tAsg (tLc2 wi g1 tt1 wi2 g2 tt2 te (own.map (·.2)) vs2) (gName i)) := by
  refine ⟨fun pins s σ H D I h => ?_⟩
  rw [exec_Assign_Name_used _ _ _ _ hsw]
  refine wpAny_bind (wpAny_standAt (wpAny_bind ?_))
  show wpAny _ X.A (do let _ ← comprehension (.ListComp elt [⟨tg1, it1, ifs1, 0⟩, ⟨tg2, it2, ifs2, 0⟩] scope pos) scope X.env (firstIterPos [⟨tg1, it1, ifs1, 0⟩, ⟨tg2, it2, ifs2, 0⟩] pos) (newList []) false (eval it1 X.env) (some (assign (.Name y py) X.env))) _ _ s
  have h : tLc2 wi g1 tt1 wi2 g2 tt2 te (own.map (·.2)) vs2 σ H (fun x H1 => gName i x σ H1 D.nx) := h
  refine wpAny_bind (thn (lc2_core (Qf := fun _ s' => SP X pins D .next s') hc hN I hi ok hvs hg1 ht1 hi2 hg2 ht2 he hs hs2 h fun L C s' m H' I' q hn f => ?_) fun _ s' hq => wpAny_pure (wpAny_pure hq))
  show wpAny _ _ (assign (.Name y py) X.env (.ref L)) _ _ _
  refine wpAny_assign_Name (store_ok2 (v := V.ref L) I' hN hy (.inl hyl) rfl (fun s2 I2 ⟨a, sb, ha⟩ => ?_) (.inr hyl))
  obtain ⟨f0, f1, f2, f3, f4, f5⟩ := f
  have haC : C ≠ a := by
    rcases ha with z | z
    · rw [z]; exact f1
    · exact fun e => f4 y a z e.symm
  refine ⟨m, hn.sameBut sb haC, fun h3 sb3 => ?_⟩
  exact ⟨_, H', I2.turned (t' := s2.toks) (fun b o hb e => (sb3.2 b hb).trans e) f0 f1 f3 f4 f5, q⟩
theorem st_lc2 {i : Nat} {y : Str} {py spos : Pos} {elt tg1 it1 tg2 it2 : Expr} {ifs1 ifs2 : List Expr} {scope : Scope} {own : List (Str × Nat)} {src1 src2 : En → R (List D)} {g1 g2 : Tg} {sl1 sl2 vs2 : List Nat} {t1 t2 : En → R Bool} {me : En → R D} (hc : X.calm = true) (hN : X.N.Nodup) (hy : X.N[i]? = some y) (hyl : X.env.scope.names.lookup y = some .local)
    (hsw : swapsWith (.ListComp elt [⟨tg1, it1, ifs1, 0⟩, ⟨tg2, it2, ifs2, 0⟩] scope pos) (some (.Name y py)) spos.line X.env = pure true) (hi : PSr X cl W true tg1 it1 src1) (ok : BlkOk X.N X.env.scope scope own)
    (hsl1 : ∀ i ∈ sl1, i ∈ own.map (·.2)) (hsl2 : ∀ i ∈ sl2, i ∈ vs2) (hvs : ∀ i ∈ vs2, i ∈ own.map (·.2))
    (hg1 : ∀ (s : Shared) (H : Hp) (C : Addr) (cs : List (Str × Addr)) (fp : List Addr), PGp (X.blk s H scope (compEnvC scope cs C X.env) fp) tg1 g1 sl1) (ht1 : ∀ (s : Shared) (H : Hp) (C : Addr) (cs : List (Str × Addr)) (fp : List Addr), PTm (X.blk s H scope (compEnvC scope cs C X.env) fp) cl E0 ifs1 t1)
    (hi2 : ∀ (s : Shared) (H : Hp) (C : Addr) (cs : List (Str × Addr)) (fp : List Addr), PSr (X.blk s H scope (compEnvC scope cs C X.env) fp) cl E0 false tg2 it2 src2)
    (hg2 : ∀ (s : Shared) (H : Hp) (C : Addr) (cs : List (Str × Addr)) (fp : List Addr), PGp (X.blk s H scope (compEnvC scope cs C X.env) fp) tg2 g2 sl2) (ht2 : ∀ (s : Shared) (H : Hp) (C : Addr) (cs : List (Str × Addr)) (fp : List Addr), PTm (X.blk s H scope (compEnvC scope cs C X.env) fp) cl E0 ifs2 t2)
    (he : ∀ (s : Shared) (H : Hp) (C : Addr) (cs : List (Str × Addr)) (fp : List Addr), PD (X.blk s H scope (compEnvC scope cs C X.env) fp) cl E0 elt me) (hs : ∀ x, foldedSetIterable it1 X.env x = pure x := by intro _; rfl)
    (hs2 : ∀ (C : Addr) (cs : List (Str × Addr)) x, foldedSetIterable it2 (compEnvC scope cs C X.env) x = pure x := by intro _ _ _; rfl) :
    PSt X cl W (.Assign [.Name y py] (.ListComp elt [⟨tg1, it1, ifs1, 0⟩, ⟨tg2, it2, ifs2, 0⟩] scope pos) spos) (setS i (fun ρ => toList (lcF2 g1 src1 t1 g2 src2 t2 me (own.map (·.2)) vs2 ρ))) := by
  refine PS.imp (ps_setLc2 (g1 := tGp X.K g1 sl1) (tt1 := tMB cl E0 X.K t1) (wi2 := tI cl E0 X.K false src2) (g2 := tGp X.K g2 sl2) (tt2 := tMB cl E0 X.K t2) (te := tM cl E0 X.K (poD X.K) me) hc hN hy hyl hsw hi ok (wipe_sub hvs) hg1 ht1 hi2 hg2 ht2 he hs hs2) fun σ H Q ⟨F0, H0, ρ, F, ok, h⟩ => lc2_read hsl1 hsl2 ⟨F0, H0, ρ, F, ok, ?_⟩
  have h : tRS cl W X.K F0 H0 F ((toList (lcF2 g1 src1 t1 g2 src2 t2 me (own.map (·.2)) vs2 ρ)).bind fun d => .ok (.nx (setE ρ i (.da d)))) Q := h
  unfold toList at h
  rw [R.bind_assoc] at h
  refine tRS.expr h ok.ext.keep fun v F1 H1 d e1 p1 h1 => ?_
  obtain ⟨p, vs, rfl, np, fp, hp, r⟩ := p1
  exact h1 _ _ H1 (by rw [setE_eq]; exact (ok.grow (e1.freeze np hp fp)).set i (.lst upd_same (r.mono ((Le.refl F1).upd fp)))) ((Le.refl F1).upd fp)
end
section
variable {X : Cx} {cl : String → Addr} {W : XK}
/-- list(range(a)) -/
theorem pf_listR1 {a : Expr} {ma : En → R D} {p q pos pos2 : Pos} (hc : X.calm = true) (hg : Gl X "list") (hm : X.mg "list" = none) (hg2 : Gl X "range") (hm2 : X.mg "range" = none) (ha : PD X cl W a ma)
    (na : starEach [a] X.env = (false, eval a X.env) :: starEach [] X.env := by rfl)
    (ne : starEach [Expr.Call (.Name "range" q) [a] [] pos2] X.env = (false, eval (.Call (.Name "range" q) [a] [] pos2) X.env) :: starEach [] X.env := by rfl) :
    PF X cl W (.Call (.Name "list" p) [.Call (.Name "range" q) [a] [] pos2] [] pos) (un1 (lrgK (.int 0)) ma) := by
  refine PE.imp (pe_listRg hc hg hm (prg_1 hg2 hm2 ha na) ne) fun σ H Q ⟨F0, H0, ρ, F, ok, h⟩ => ?_
  refine ⟨F0, H0, ρ, F, ok, (tR.bind anti_F h).imp fun v H1 ⟨F1, x, e1, p1, h1⟩ => ?_⟩
  have h2 : tR cl W (poF X.K) (ofO (lrgK (.int 0) x)) F1 H1 Q := h1
  cases hr : lrgK (.int 0) x with
  | none => rw [hr] at h2; exact h2.elim
  | some r =>
    rw [hr] at h2
    cases x with
    | int j =>
      have hr : (if rgB 0 j = true then some (rng 0 j) else none) = some r := hr
      split at hr
      · rename_i hz
        have hr := Option.some.inj hr
        subst hr
        exact ⟨j, p1.inv_int, rgB_ok hz, fun p np => h2 _ _ _ (Ext.grow e1.sub (o := .lst (rgV 0 j)) np) ⟨p, _, rfl, np, e1.sub.none np, upd_same, rpa_maps _ _ (fun _ => .int _) _⟩⟩
      · cases hr
    | _ => cases hr
end
section
variable {X : Cx} {cl : String → Addr} {W : XK}
/-- a < b < c < d as a test -/
theorem pt_chain3 {a b c d : Expr} {ta tb tc td : TE} {pos : Pos} {op op' op'' : CmpOp} {r r' r'' : R2} (ho : OpR X (compareOp op) r) (ho' : OpR X (compareOp op') r') (ho'' : OpR X (compareOp op'') r'') (ha : PE X a ta) (hb : PE X b tb) (hc : PE X c tc) (hd : PE X d td)
    (hm : lastMarks [op, op', op''] [b, c, d] = false := by with_unfolding_all rfl) : PT X (.Compare a [op, op', op''] [b, c, d] pos) (tTest (tChain3 r r' r'' ta tb tc td)) := by
  refine ⟨fun pins s σ H Q I h => ?_⟩
  refine isTrue_chain (thn (ha.run pins s σ H _ I h) fun v s1 ⟨x, H1, I1, r1, q1⟩ => test_link (thn (hb.run pins s1 σ H1 _ I1 q1) fun u s2 ⟨y, H2, I2, r2, q2⟩ =>
    thn (ho pins s2 σ H2 x y v u _ I2 r1 r2 q2) fun d s3 ⟨z, H3, I3, r3, k, e, q3⟩ => ?_)) hm
  subst e
  cases r3
  refine wpAny_truthy_bool ?_
  cases k with
  | false =>
    obtain ⟨k', e', q'⟩ := q3
    cases e'
    exact ite_ff ⟨H3, I3, q'⟩
  | true =>
    refine ite_tt (test_link (thn (hc.run pins s3 σ H3 _ I3 q3) fun u' s4 ⟨y', H4, I4, r4, q4⟩ => thn (ho' pins s4 σ H4 y y' u u' _ I4 r2 r4 q4) fun d' s5 ⟨z', H5, I5, r5, k', e', q5⟩ => ?_))
    subst e'
    cases r5
    refine wpAny_truthy_bool ?_
    cases k' with
    | false =>
      obtain ⟨k2, e2, q2⟩ := q5
      cases e2
      exact ite_ff ⟨H5, I5, q2⟩
    | true =>
      refine ite_tt (test_last (thn (hd.run pins s5 σ H5 _ I5 q5) fun w' s6 ⟨t', H6, I6, r6, q6⟩ => thn (ho'' pins s6 σ H6 y' t' u' w' _ I6 r4 r6 q6) fun d2 s7 ⟨z2, H7, I7, r7, k2, e2, q7⟩ => ?_))
      subst e2
      cases r7
      exact wpAny_truthy_bool ⟨H7, I7, q7⟩
theorem pb_chain3 {a b c d : Expr} {pos : Pos} {op op' op'' : CmpOp} {rd rd' rd'' : R2} {f g h : D → D → Option Bool} {ma mb mc md : En → R D} (ho : OpR X (compareOp op) rd) (ho' : OpR X (compareOp op') rd') (ho'' : OpR X (compareOp op'') rd'') (hf : CmS X.K rd f) (hg : CmS X.K rd' g) (hh : CmS X.K rd'' h)
    (ha : PVw X cl W a ma) (hb : PVw X cl W b mb) (hc : PVw X cl W c mc) (hd : PVw X cl W d md) (hm : lastMarks [op, op', op''] [b, c, d] = false := by rfl) : PB X cl W (.Compare a [op, op', op''] [b, c, d] pos) (chain3 f g h ma mb mc md) := by
  refine PT.imp (pt_chain3 ho ho' ho'' ha hb hc hd hm) fun σ H Q ⟨F0, H0, ρ, F, ok, q⟩ => ?_
  refine ⟨F0, H0, ρ, F, ok, (tRB.bind q).imp fun v H1 ⟨F1, x, e1, p1, h1⟩ => ?_⟩
  refine ⟨F0, H0, ρ, F1, ok.grow e1, (tRB.bind h1).imp fun u H2 ⟨F2, y, e2, p2, h2⟩ => ?_⟩
  cases hr : f x y with
  | none => rw [hr] at h2; exact False.elim h2
  | some r =>
    rw [hr] at h2
    refine hf x y r hr H2 v u _ (p1.mono e2.keep) p2 ⟨r, rfl, ?_⟩
    cases r with
    | false => exact ⟨false, rfl, h2 F2 H2 (Ext.refl e2.sub)⟩
    | true =>
      have h2 : tRB cl W ((mc ρ).bind fun z => (ofO (g y z)).bind fun k' => if k' = true then (md ρ).bind fun t => ofO (h z t) else .ok false) F2 H2 Q := h2
      rw [if_pos rfl]
      refine ⟨F0, H0, ρ, F2, (ok.grow e1).grow e2, (tRB.bind h2).imp fun w' H3 ⟨F3, z, e3, p3, h3⟩ => ?_⟩
      cases hr2 : g y z with
      | none => rw [hr2] at h3; exact False.elim h3
      | some r2 =>
        rw [hr2] at h3
        refine hg y z r2 hr2 H3 u w' _ (p2.mono e3.keep) p3 ⟨r2, rfl, ?_⟩
        cases r2 with
        | false => exact ⟨false, rfl, h3 F3 H3 (Ext.refl e3.sub)⟩
        | true =>
          have h3 : tRB cl W ((md ρ).bind fun t => ofO (h z t)) F3 H3 Q := h3
          rw [if_pos rfl]
          refine ⟨F0, H0, ρ, F3, ((ok.grow e1).grow e2).grow e3, (tRB.bind h3).imp fun t' H4 ⟨F4, t, e4, p4, h4⟩ => ?_⟩
          cases hr3 : h z t with
          | none => rw [hr3] at h4; exact False.elim h4
          | some r3 => rw [hr3] at h4; exact hh z t r3 hr3 H4 w' t' _ (p3.mono e4.keep) p4 ⟨r3, rfl, h4 F4 H4 (Ext.refl e4.sub)⟩
end
end Mir
/-! sorted(set(xs)), len(set(xs)) of a list of ints. set_lst follows HandS.SetFor's proof for a tuple, turned to a list. -/
namespace Mir
open PySem PySem.Spec PyProof.Rows L2
section
variable {P : Program} {w : World} {A : Around} {E : Value → Shared → Prop} {s : Shared}
set_option maxRecDepth 100000 in
set_option maxHeartbeats 3200000 in
theorem set_lst {l : Addr} {items : Array Value} (ns : List Int) {Q : Value → Shared → Prop} (hh : A.handled = none) (hl : s.heap.IsList l items) (hit : IntsAre items.toList ns) (hb : ns.length + 1 < scanBound)
    (h : ∀ (h' : Heap) (tk c : Nat), SetR w h' s.heap.objs.size (fun j => decide (j ∈ ns)) c → c ≤ ns.length → (∀ b o, s.heap.get? b = some o → h'.get? b = some o) → Q (.ref s.heap.objs.size) { s with heap := h', toks := tk }) :
    wpAny (model P w) A (call (.type "set") [.ref l]) Q E s := by
  have hisz : items.size = ns.length := by
    have q := IntsAre.length hit
    rw [Array.length_toList] at q
    exact q
  obtain ⟨c, tl, hmro⟩ := F.called_set.mro
  have hmade := F.called_set.made
  have hsub := F.called_set.sub
  refine wpAny_call (codeAny_of_tree ?_)
  show wpAny _ _ (callAny (.type "set") _) _ _ _
  refine wpAny_pure ⟨Code.quiet_builtin _ (by decide +kernel), codeAny_builtin F.entry_type_call ?_⟩
  rw [Around.under_plain (weight_type_call_type "set" [.ref l] []) rfl]
  have h1 := F.called_set.notType
  have h2 := F.called_set.canCreate
  have hct := F.typeCall_set_1 (.ref l)
  repeat (any_goals (first | assumption | wp_step))

  refine codeAny_mono (code_set_led1 (.ref l) (E := E) (Q₁ := fun obj s₁ => obj = .ref s.heap.objs.size ∧ s₁ = { s with heap := s.heap.push { cls := .type "set", dict := none, data := .set #[] 0 (.fresh 0 0 (!w.params.followText "set-order")) } }) ⟨rfl, rfl⟩) fun r s₁ hr => ?_
  cases r with
  | error e => exact hr
  | ok fl =>
    cases fl with
    | ret obj =>
      obtain ⟨rfl, rfl⟩ := hr
      have hS : (s.heap.push { cls := .type "set", dict := none, data := .set #[] 0 (.fresh 0 0 (!w.params.followText "set-order")) }).get? s.heap.objs.size = some { cls := .type "set", dict := none, data := .set #[] 0 (.fresh 0 0 (!w.params.followText "set-order")) } := Heap.get?_push_size _ rfl
      have hT : Shared.TypeIs { s with heap := s.heap.push { cls := .type "set", dict := none, data := .set #[] 0 (.fresh 0 0 (!w.params.followText "set-order")) } } (.ref s.heap.objs.size) "set" := ⟨_, hS, rfl⟩
      have hli := F.called_set.init.lookup
      have hbi := F.called_set.init.bind (.ref s.heap.objs.size)
      repeat (any_goals (first | assumption | wp_step))

      refine codeAny_mono (codeAny_call_builtin (R := wants (fun r s₂ => r = .none ∧ ∃ h' tk c, s₂ = { s with heap := h', toks := tk } ∧ SetR w h' s.heap.objs.size (fun j => decide (j ∈ ns)) c ∧ c ≤ ns.length ∧
          (∀ b o, s.heap.get? b = some o → h'.get? b = some o)) E) F.called_set.init.plain F.entry_set_init (check_set_init_1 hT ?_)) fun r₂ s₂ hr₂ => ?_
      · obtain ⟨ol, hol, hcl, nl, hdl⟩ := hl
        obtain ⟨ocls, odict, odata, oslots⟩ := ol
        simp only at hcl hdl
        subst hcl; subst hdl
        have hol' : (s.heap.push { cls := .type "set", dict := none, data := .set #[] 0 (.fresh 0 0 (!w.params.followText "set-order")) }).get? l = some { cls := .type "list", dict := odict, data := .seq items nl, slots := oslots } := Heap.get?_push_of_some _ hol
        have hsls := F.sub_list_set
        have hslf := F.sub_list_frozenset
        have hne : (Value.type "list" == Value.type "dict") = false := by decide
        have hl1 : (s.heap.push { cls := .type "set", dict := none, data := .set #[] 0 (.fresh 0 0 (!w.params.followText "set-order")) }).IsList l items := ⟨_, hol', rfl, nl, rfl⟩
        unfold Builtin.«set.__init__» noKeywords Builtin.Frozenset.updateFrom
        generalize hPI : pyIter = PI
        wp_walk
        subst hPI

        refine wpAny_pyIter_list hl1 ?_
        refine wpAny_bind (wpAny_runValue ?_)
        have hlS : l < s.heap.objs.size := Heap.lt_size hol
        have hh3 : A.in1.in1.in1.handled = none := by simp [hh]
        have hz1 : (s.heap.push { cls := .type "set", dict := none, data := .set #[] 0 (.fresh 0 0 (!w.params.followText "set-order")) }).objs.size = s.heap.objs.size + 1 := Heap.size_push ..
        have hneI : l ≠ (s.heap.push { cls := .type "set", dict := none, data := .set #[] 0 (.fresh 0 0 (!w.params.followText "set-order")) }).objs.size := by
          rw [Heap.size_push]; exact Nat.ne_of_lt (Nat.lt_succ_of_lt hlS)
        have hSf : s.heap.objs.size ∉ [(s.heap.push { cls := .type "set", dict := none, data := .set #[] 0 (.fresh 0 0 (!w.params.followText "set-order")) }).objs.size, l] := by
          rw [Heap.size_push]; simp only [List.mem_cons, List.mem_singleton, List.not_mem_nil, or_false, not_or]
          exact ⟨Nat.ne_of_lt (Nat.lt_succ_self _), Nat.ne_of_gt hlS⟩
        have hval : ∀ (i : Nat) (v : Value), items[i]? = some v → ∃ k t, ns[i]? = some k ∧ v = .int k t := fun i v hv => by
          have hi : i < ns.length := by rw [← hisz]; exact (Array.getElem?_eq_some_iff.mp hv).1
          obtain ⟨t, e⟩ := PyProof.Rows.IntsAre.int_at hit i v (by rw [Array.getElem?_toList]; exact hv)
          refine ⟨ns[i], t, List.getElem?_eq_getElem hi, ?_⟩
          rw [e, List.getD_eq_getElem?_getD, List.getElem?_eq_getElem hi] <;> rfl
        refine set_update_ints ((Walks.list hh3 _ l hneI items).toS) s.heap.objs.size
          hSf ns hisz hb hval (items.size - 0) 0 _ (by omega) (Nat.zero_le _)
          ⟨⟨_, Heap.get?_push_size _ rfl, rfl, rfl⟩, (hl1.push _)⟩ ?hS0 ?hR
        case hS0 =>
          have hget : ((s.heap.push { cls := .type "set", dict := none, data := .set #[] 0 (.fresh 0 0 (!w.params.followText "set-order")) }).push { cls := .type "list_iterator", data := .fields #[.ref l, .int 0 0] }).get? s.heap.objs.size
              = some { cls := .type "set", dict := none, data := .set #[] 0 (.fresh 0 0 (!w.params.followText "set-order")) } := Heap.get?_push_of_some _ hS
          exact ⟨0, Nat.le_refl 0, setR_new_at hget⟩
        case hR =>
          intro s' c' hm hc' hS'
          obtain ⟨h', g2, d', tk', os'⟩ := s'
          have eg : g2 = s.gens := hm.gens
          have ed : d' = s.drawn := hm.drawn
          have eo : os' = s.os := hm.os
          subst eg; subst ed; subst eo
          show wpAny _ _ _ _ _ _
          refine wpAny_pure ?_
          show wpAny _ _ (ret Value.none) _ _ _
          rw [hisz] at hc'
          refine wpAny_pure ⟨rfl, h', tk', c', rfl, hS', hc', fun b o e => ?_⟩
          have hb0 : b < s.heap.objs.size := Heap.lt_size e
          have hb1 : b ≠ s.heap.objs.size := Nat.ne_of_lt hb0
          have hb2 : b ≠ (s.heap.push { cls := .type "set", dict := none, data := .set #[] 0 (.fresh 0 0 (!w.params.followText "set-order")) }).objs.size := by
            rw [Heap.size_push]; exact Nat.ne_of_lt (Nat.lt_succ_of_lt hb0)
          exact hm.heap b o (by simp only [List.mem_cons, List.mem_singleton, List.not_mem_nil, or_false, not_or]; exact ⟨hb1, hb2⟩) (Heap.get?_push_of_some _ (Heap.get?_push_of_some _ e))

      · cases r₂ with
        | error e => exact hr₂
        | ok fl₂ =>
          cases fl₂ with
          | ret r =>
            obtain ⟨rfl, h', tk, c', rfl, hS', hc', hk'⟩ := hr₂
            repeat (any_goals (first | assumption | wp_step))
            exact h _ _ _ hS' hc' hk'
          | _ => exact hr₂.elim
    | _ => exact hr.elim
end
/-! ### the members, in order, each once -/
noncomputable def insU (x : Int) : List Int → List Int
  | [] => [x]
  | y :: ys => if x < y then x :: y :: ys else if x = y then y :: ys else y :: insU x ys
noncomputable def sset : List Int → List Int
  | [] => []
  | x :: xs => insU x (sset xs)
theorem insU_mem {x z : Int} : ∀ {ys : List Int}, z ∈ insU x ys ↔ z = x ∨ z ∈ ys
  | [] => by simp [insU]
  | y :: ys => by
    unfold insU
    by_cases h : x < y
    · rw [if_pos h, List.mem_cons]
    · rw [if_neg h]
      by_cases e : x = y
      · rw [if_pos e, e]
        simp
      · rw [if_neg e, List.mem_cons, insU_mem, List.mem_cons]
        exact ⟨fun q => q.elim (fun z => .inr (.inl z)) (fun q => q.elim .inl fun z => .inr (.inr z)), fun q => q.elim (fun z => .inr (.inl z)) fun q => q.elim .inl fun z => .inr (.inr z)⟩
theorem sset_mem {z : Int} : ∀ {xs : List Int}, z ∈ sset xs ↔ z ∈ xs
  | [] => by simp [sset]
  | x :: xs => by
    show z ∈ insU x (sset xs) ↔ _
    rw [insU_mem, sset_mem, List.mem_cons]
theorem insU_pw {x : Int} : ∀ {ys : List Int}, ys.Pairwise (· < ·) → (insU x ys).Pairwise (· < ·)
  | [], _ => List.pairwise_singleton _ _
  | y :: ys, h => by
    obtain ⟨h1, h2⟩ := List.pairwise_cons.mp h
    unfold insU
    by_cases c : x < y
    · rw [if_pos c]
      refine List.pairwise_cons.mpr ⟨fun z hz => ?_, h⟩
      rcases List.mem_cons.mp hz with rfl | hz
      · exact c
      · exact Int.lt_trans c (h1 z hz)
    · rw [if_neg c]
      by_cases e : x = y
      · rw [if_pos e]; exact h
      · rw [if_neg e]
        refine List.pairwise_cons.mpr ⟨fun z hz => ?_, insU_pw h2⟩
        rcases insU_mem.mp hz with rfl | hz
        · omega
        · exact h1 z hz
theorem sset_pw : ∀ xs : List Int, (sset xs).Pairwise (· < ·)
  | [] => .nil
  | x :: xs => insU_pw (sset_pw xs)
theorem pw_nodup {xs : List Int} (h : xs.Pairwise (· < ·)) : xs.Nodup := h.imp fun a e => by omega
theorem pw_eq : ∀ {xs ys : List Int}, xs.Pairwise (· < ·) → ys.Pairwise (· < ·) → (∀ z, z ∈ xs ↔ z ∈ ys) → xs = ys
  | [], [], _, _, _ => rfl
  | [], y :: ys, _, _, h => by have := (h y).mpr (List.mem_cons_self ..); simp at this
  | x :: xs, [], _, _, h => by have := (h x).mp (List.mem_cons_self ..); simp at this
  | x :: xs, y :: ys, h1, h2, h => by
    obtain ⟨a1, a2⟩ := List.pairwise_cons.mp h1
    obtain ⟨b1, b2⟩ := List.pairwise_cons.mp h2
    have e : x = y := by
      rcases List.mem_cons.mp ((h x).mp (List.mem_cons_self ..)) with e | e
      · exact e
      · rcases List.mem_cons.mp ((h y).mpr (List.mem_cons_self ..)) with e2 | e2
        · exact e2.symm
        · have := b1 x e
          have := a1 y e2
          omega
    subst e
    congr 1
    refine pw_eq a2 b2 fun z => ?_
    constructor
    · intro hz
      rcases List.mem_cons.mp ((h z).mp (List.mem_cons_of_mem _ hz)) with e | e
      · subst e; have := a1 _ hz; omega
      · exact e
    · intro hz
      rcases List.mem_cons.mp ((h z).mpr (List.mem_cons_of_mem _ hz)) with e | e
      · subst e; have := b1 _ hz; omega
      · exact e
section
variable {X : Cx}
noncomputable def rSetL (K : PySem.W.Frag) (w : World) : List V → Hp → VK → Prop := fun xs H Q => ∃ (l : Addr) (ns : List Int), xs = [.ref l] ∧ SqL K H l (ns.map V.int) ∧ ns.length < 64 ∧ ∀ (p : Addr) (c : Nat), H p = none → c = (sset ns).length → Q (.ref p) (upd H p (SetO w p (fun j => decide (j ∈ ns)) c))
theorem setR_count {w : World} {h : Heap} {a : Addr} {ns : List Int} {c : Nat} (R : SetR w h a (fun j => decide (j ∈ ns)) c) : c = (sset ns).length := by
  obtain ⟨o, es, ep, t, _, _, _, _, hn, hS, _, _, he, _⟩ := R
  rw [← he]
  have : (es.toList.map keyOf).Perm (sset ns) := (List.perm_ext_iff_of_nodup hn (pw_nodup (sset_pw ns))).mpr fun k => by
    rw [sset_mem, ← hS k, decide_eq_true_eq]
  have l := this.length_eq
  rw [List.length_map] at l
  simpa using l
theorem cr_setL (hc : X.calm = true) : CallR X (.type "set") (rSetL X.K X.w) := by
  intro pins s σ H xs us Q I r h
  obtain ⟨l, ns, rfl, hs, h64, q⟩ := h
  rw [Vals.ref1 r]
  obtain ⟨its, rv, pl, hz⟩ := I.list hs
  refine set_lst ns (I.ok.hd hc) pl.isList (by simpa using rv.ints) (by unfold scanBound; omega) fun h' tk c hR hle hk => ?_
  exact ⟨.ref s.heap.objs.size, upd H s.heap.objs.size (SetO X.w s.heap.objs.size (fun j => decide (j ∈ ns)) c), I.laid (t' := tk) hk (Nat.le_refl _) (setO_new hR), rfl, q _ c (I.hok.fresh (Nat.le_refl _)) (setR_count hR)⟩
noncomputable def rLenSet (w : World) : List V → Hp → VK → Prop := fun xs H Q => ∃ (a : Addr) (S : Int → Bool) (n : Nat), xs = [V.ref a] ∧ H a = some (SetO w a S n) ∧ n < 64 ∧ Q (.int n) H
theorem cr_lenSet : CallR X (.builtin "len") (rLenSet X.w) := by
  intro pins s σ H xs us Q I r h
  obtain ⟨a, S, n, rfl, ha, h64, q⟩ := h
  rw [Vals.ref1 r]
  obtain ⟨o, es, ep, t, ho, hex, hd, _, _, _, _, hf, hn, _⟩ := setO_get I ha
  refine call_len_set ho hex hd hf (by rw [hn]; omega) ⟨.int n, H, I.tok _, ⟨_, by rw [hn]⟩, q⟩
end
noncomputable def ssetL (ds : List D) : Option (List D) := (intsD ds).bind fun ns => if ns.length < 64 then some ((sset ns).map PyData.int) else none
noncomputable def lsetL (ds : List D) : Option D := (intsD ds).bind fun ns => if ns.length < 64 then some (.int ((sset ns).length : Nat)) else none
theorem intsD_rp {K : PySem.W.Frag} {F : Hp} : ∀ {vs : List V} {ds : List D} {ns : List Int}, RpA K F vs ds → intsD ds = some ns → vs = ns.map V.int
  | _, _, _, .nil, h => by
    have h := Option.some.inj h
    subst h; rfl
  | _, _, ns, .cons (d := d) (ds := ds) a b, h => by
    cases d with
    | int i =>
      have h : (intsD ds).map (i :: ·) = some ns := h
      cases e : intsD ds with
      | none => rw [e] at h; cases h
      | some ms =>
        rw [e] at h
        have h := Option.some.inj h
        subst h
        rw [Rp.inv_int a, intsD_rp b e]
        rfl
    | _ => cases h
section
variable {X : Cx} {cl : String → Addr} {W : XK} {a : Expr} {p q pos : Pos} {m : En → R (List D)}
theorem pe_setL {t : TE} (hc : X.calm = true) (hg : Gl X "set") (hm : X.mg "set" = none) (ha : PE X a t) (hs : starEach [a] X.env = (false, eval a X.env) :: starEach [] X.env := by rfl) (hpl : (backTo pos (starEach [] X.env)).any (·.1) = false := by rfl) :
    PE X (.Call (.Name "set" p) [a] [] pos) (fun σ H Q => t σ H fun x H1 => rSetL X.K X.w [x] H1 Q) :=
  PE.imp (pe_callTy (cr_setL hc) hg hm (by decide +kernel) (pa_one ha hs) (by decide) (by decide) hs hpl) fun σ H Q h => h
theorem insU_len (x : Int) : ∀ ys : List Int, (insU x ys).length ≤ ys.length + 1
  | [] => Nat.le_refl _
  | y :: ys => by
    have := insU_len x ys
    unfold insU
    split
    · simp
    · split
      · simp
      · simp only [List.length_cons]; omega
theorem sset_len : ∀ xs : List Int, (sset xs).length ≤ xs.length
  | [] => Nat.le_refl _
  | x :: xs => by
    have a := insU_len x (sset xs)
    have b := sset_len xs
    show (insU x (sset xs)).length ≤ xs.length + 1
    omega
/-- sorted(set(xs)) -/
theorem pf_sset (hc : X.calm = true) (hg2 : Gl X "sorted") (hm2 : X.mg "sorted" = none) (hg : Gl X "set") (hm : X.mg "set" = none) (ha : PL X cl W a m) (hs : starEach [a] X.env = (false, eval a X.env) :: starEach [] X.env := by rfl) (hpl : (backTo pos (starEach [] X.env)).any (·.1) = false := by rfl)
    {pos2 p2 : Pos} (hs2 : starEach [.Call (.Name "set" p) [a] [] pos] X.env = (false, eval (.Call (.Name "set" p) [a] [] pos) X.env) :: starEach [] X.env := by rfl) (hpl2 : (backTo pos2 (starEach [] X.env)).any (·.1) = false := by rfl) :
    PF X cl W (.Call (.Name "sorted" p2) [.Call (.Name "set" p) [a] [] pos] [] pos2) (un1 ssetL m) := by
  refine PE.imp (pe_callB (cr_sortedSet hc) hg2 hm2 (by decide +kernel) (pa_one (pe_setL hc hg hm ha hs hpl) hs2) (by decide) (by decide) hs2 hpl2) fun σ H Q ⟨F0, H0, ρ, F, ok, h⟩ => ?_
  refine ⟨F0, H0, ρ, F, ok, (tR.bind anti_F h).imp fun v H1 ⟨F1, xs, e1, ⟨b, vs, hv, s1, r1⟩, h1⟩ => ?_⟩
  subst hv
  unfold ssetL at h1
  cases hi : intsD xs with
  | none => rw [hi] at h1; exact False.elim h1
  | some ns =>
    rw [hi] at h1
    have h1 : tR cl W (poF X.K) (ofO (if ns.length < 64 then some ((sset ns).map PyData.int) else none)) F1 H1 Q := h1
    split at h1
    case isFalse => exact False.elim h1
    case isTrue h64 =>
    have ev := intsD_rp r1 hi
    subst ev
    have sl := sset_len ns
    refine ⟨b, ns, rfl, s1, h64, fun p c np hcn => ⟨p, _, c, rfl, upd_same, by omega, fun ns' p2 hpw hmem hlen np2 => ?_⟩⟩
    have en : ns' = sset ns := pw_eq hpw (sset_pw ns) fun z => by rw [hmem z, sset_mem, decide_eq_true_eq]
    subst en
    have x1 : Ext F1 H1 F1 (upd H1 p (SetO X.w p (fun j => decide (j ∈ ns)) c)) := Ext.grow e1.sub np
    have x2 := x1.trans (Ext.grow x1.sub (o := .lst ((sset ns).map V.int)) np2)
    have hp : p2 ≠ p := fun e => by rw [e, upd_same] at np2; cases np2
    have np3 : H1 p2 = none := by rw [upd_ne hp] at np2; exact np2
    exact h1 _ _ _ x2 ⟨p2, _, rfl, np3, e1.sub.none np3, upd_same, RpA.ints _⟩
/-- len(set(xs)) -/
theorem pd_lset (hc : X.calm = true) (hg2 : Gl X "len") (hm2 : X.mg "len" = none) (hg : Gl X "set") (hm : X.mg "set" = none) (ha : PL X cl W a m) (hs : starEach [a] X.env = (false, eval a X.env) :: starEach [] X.env := by rfl) (hpl : (backTo pos (starEach [] X.env)).any (·.1) = false := by rfl)
    {pos2 p2 : Pos} (hs2 : starEach [.Call (.Name "set" p) [a] [] pos] X.env = (false, eval (.Call (.Name "set" p) [a] [] pos) X.env) :: starEach [] X.env := by rfl) (hpl2 : (backTo pos2 (starEach [] X.env)).any (·.1) = false := by rfl) :
    PD X cl W (.Call (.Name "len" p2) [.Call (.Name "set" p) [a] [] pos] [] pos2) (un1 lsetL m) := by
  refine PE.imp (pe_callB cr_lenSet hg2 hm2 (by decide +kernel) (pa_one (pe_setL hc hg hm ha hs hpl) hs2) (by decide) (by decide) hs2 hpl2) fun σ H Q ⟨F0, H0, ρ, F, ok, h⟩ => ?_
  refine ⟨F0, H0, ρ, F, ok, (tR.bind anti_D h).imp fun v H1 ⟨F1, xs, e1, ⟨b, vs, hv, s1, r1⟩, h1⟩ => ?_⟩
  subst hv
  unfold lsetL at h1
  cases hi : intsD xs with
  | none => rw [hi] at h1; exact False.elim h1
  | some ns =>
    rw [hi] at h1
    have h1 : tR cl W (poD X.K) (ofO (if ns.length < 64 then some (PyData.int ((sset ns).length : Nat)) else none)) F1 H1 Q := h1
    split at h1
    case isFalse => exact False.elim h1
    case isTrue h64 =>
    have ev := intsD_rp r1 hi
    subst ev
    have sl := sset_len ns
    refine ⟨b, ns, rfl, s1, h64, fun p c np hcn => ⟨p, _, c, rfl, upd_same, by omega, ?_⟩⟩
    subst hcn
    exact h1 _ _ _ (Ext.grow e1.sub np) (.int _)
end
end Mir
namespace Mir
open PySem PySem.Spec PyProof.Rows L2
/-! ### data, compared by running; numbers below a bound, gone through by running -/
noncomputable def lsB {α : Type} (f : α → α → Bool) : List α → List α → Bool
  | [], [] => true
  | x :: xs, y :: ys => f x y && lsB f xs ys
  | _, _ => false
theorem lsB_of {α : Type} {f : α → α → Bool} (h : ∀ x y, f x y = true → x = y) : ∀ {xs ys : List α}, lsB f xs ys = true → xs = ys
  | [], [], _ => rfl
  | x :: xs, y :: ys, e => by
    obtain ⟨a, b⟩ := He.ba (show (f x y && lsB f xs ys) = true from e)
    rw [h x y a, lsB_of h b]
  | [], _ :: _, e => by cases e
  | _ :: _, [], e => by cases e
noncomputable def inB (a b : Int) : Bool := match a, b with
  | .ofNat n, .ofNat m => Nat.beq n m
  | .negSucc n, .negSucc m => Nat.beq n m
  | _, _ => false
theorem inB_of : ∀ {a b : Int}, inB a b = true → a = b
  | .ofNat n, .ofNat m, h => by rw [Nat.eq_of_beq_eq_true h]
  | .negSucc n, .negSucc m, h => by rw [Nat.eq_of_beq_eq_true h]
  | .ofNat _, .negSucc _, h => by cases h
  | .negSucc _, .ofNat _, h => by cases h
noncomputable def dqB : Nat → D → D → Bool
  | 0, _, _ => false
  | k + 1, a, b => match a, b with
    | .none, .none => true
    | .bool x, .bool y => match x, y with
      | true, true => true
      | false, false => true
      | _, _ => false
    | .int x, .int y => inB x y
    | .str x, .str y => lsB (fun a b => Nat.beq a b) x.cps.toList y.cps.toList
    | .list x, .list y => lsB (dqB k) x y
    | .tuple x, .tuple y => lsB (dqB k) x y
    | .dict x, .dict y => lsB (fun p q => dqB k p.1 q.1 && dqB k p.2 q.2) x y
    | _, _ => false
theorem dqB_of : ∀ (k : Nat) (a b : D), dqB k a b = true → a = b := by
  intro k
  induction k with
  | zero => intro a b h; cases h
  | succ k ih =>
    intro a b h
    cases a <;> cases b <;> first | (cases h; done) | rfl | skip
    · rename_i x y
      cases x <;> cases y <;> first | rfl | (cases h; done)
    · rename_i x y
      exact congrArg _ (inB_of h)
    · rename_i x y
      have := lsB_of (fun a b e => Nat.eq_of_beq_eq_true e) (show lsB (fun a b => Nat.beq a b) x.cps.toList y.cps.toList = true from h)
      cases x with | mk x => cases y with | mk y =>
      have : x = y := Array.toList_inj.mp this
      rw [this]
    · rename_i x y
      exact congrArg _ (lsB_of (ih) (show lsB (dqB k) x y = true from h))
    · rename_i x y
      exact congrArg _ (lsB_of (ih) (show lsB (dqB k) x y = true from h))
    · rename_i x y
      refine congrArg _ (lsB_of (fun p q e => ?_) (show lsB (fun p q => dqB k p.1 q.1 && dqB k p.2 q.2) x y = true from h))
      obtain ⟨e1, e2⟩ := He.ba e
      cases p; cases q
      exact congr (congrArg _ (ih _ _ e1)) (ih _ _ e2)
noncomputable def okB (r : R D) (d : D) : Bool := match r with
  | .ok e => dqB 20 e d
  | _ => false
theorem okB_of {r : R D} {d : D} (h : okB r d = true) : r = .ok d := by
  cases r with
  | ok e => rw [dqB_of 20 e d h]
  | ex c n => cases h
  | no => cases h
noncomputable def allN (n : Nat) (p : Nat → Bool) : Bool := Nat.rec true (fun k ih => p k && ih) n
theorem allN_of {p : Nat → Bool} : ∀ {n : Nat}, allN n p = true → ∀ i, i < n → p i = true
  | 0, _, i, h => absurd h (by omega)
  | n + 1, h, i, hi => by
    obtain ⟨a, b⟩ := He.ba (show (p n && allN n p) = true from h)
    by_cases e : i = n
    · subst e; exact a
    · exact allN_of b i (by omega)
noncomputable def pick : List D → Nat → D
  | [], _ => .none
  | x :: _, 0 => x
  | _ :: xs, n + 1 => pick xs n
theorem pick_at : ∀ {L : List D} {i : Nat}, i < L.length → L[i]? = some (pick L i)
  | [], _, h => absurd h (by simp)
  | x :: xs, 0, _ => rfl
  | x :: xs, n + 1, h => by
    rw [List.getElem?_cons_succ]
    exact pick_at (by simpa using h)
noncomputable def posB (M : Nat) (t : D) : Bool := match t with
  | .int (.ofNat n) => Nat.ble 1 n && Nat.ble n M
  | _ => false
theorem mix_fin {ds : List Int} {k : Int} {t : D} {M : Nat} (hd : Dig ds) (hk : 0 ≤ k) (hk2 : k ≤ 1000000000) (ht : posB M t = true) : ∃ j : Nat, mixM [.list (ds.map PyData.int), .int k, t] = .ok (.int (j : Nat)) ∧ j < M := by
  cases t with
  | int i =>
    cases i with
    | ofNat n =>
      obtain ⟨a, b⟩ := He.ba (show (Nat.ble 1 n && Nat.ble n M) = true from ht)
      have a := Nat.le_of_ble_eq_true a
      have b := Nat.le_of_ble_eq_true b
      obtain ⟨j, e, h⟩ := mix_nat (ds := ds) (k := k) (n := n) a
      exact ⟨j, by rw [show PyData.int (Int.ofNat n) = .int (n : Int) from rfl, mix_is hd hk hk2 (by omega), e], by omega⟩
    | negSucc n => cases ht
  | _ => cases ht
theorem mix_app {f : List D → R D} {A K B : En → R D} {ρ : En} {a k b : D} (ha : A ρ = .ok a) (hk : K ρ = .ok k) (hb : B ρ = .ok b) : appM f (argC A (argC K (argC B argN))) ρ = f [a, k, b] := by
  show ((A ρ).bind fun x => ((K ρ).bind fun y => ((B ρ).bind fun z => R.ok [z]).bind fun ys => .ok (y :: ys)).bind fun xs => .ok (x :: xs)).bind f = _
  rw [ha, hk, hb]
  rfl
/-- one value is set, if a test is met -/
noncomputable def ifB (c : R Bool) (m : R D) (s : Sl) (d : D) : Bool := match c with
  | .ok true => okB m d
  | .ok false => match s with
    | .da e => dqB 20 e d
    | _ => false
  | _ => false
theorem ifB_of {mc : En → R Bool} {m : En → R D} {ρ : En} {i : Nat} {d : D} (hi : i < ρ.length) (h : ifB (mc ρ) (m ρ) (nth ρ i) d = true) : ifS mc (setS i m) nxS ρ = .ok (.nx (ρ.set i (.da d))) := by
  unfold ifS
  cases hc : mc ρ with
  | ok b =>
    rw [hc] at h
    cases b with
    | true =>
      have h : okB (m ρ) d = true := h
      show setS i m ρ = _
      unfold setS
      rw [okB_of h]
      show R.ok (Fl.nx (setE ρ i (.da d))) = _
      rw [setE_eq]
    | false =>
      cases hs : nth ρ i with
      | da e =>
        rw [hs] at h
        have h : dqB 20 e d = true := h
        have e1 := dqB_of 20 e d h
        subst e1
        have e2 := nth_da hs
        show R.ok (Fl.nx ρ) = _
        congr 2
        apply List.ext_getElem?
        intro j
        by_cases hj : i = j
        · subst hj
          rw [List.getElem?_set_self hi, e2]
        · rw [List.getElem?_set_ne hj]
      | _ => rw [hs] at h; cases h
  | ex c n => rw [hc] at h; cases h
  | no => rw [hc] at h; cases h
end Mir
namespace Mir
open PySem PySem.Spec PyProof.Rows L2
/-! ### <, <=, >, >= of data that are alike (rows of numbers, texts) -/
noncomputable def rCmD (K : PySem.W.Frag) (f : D → D → Bool) : R2 := fun x y H Q => ∃ d e, Dp K H x d ∧ Dp K H y e ∧ SeqAt.shaped d = true ∧ SeqAt.shaped e = true ∧ PySem.W.alike d e = true ∧ d ≠ .none ∧ Q (.bl (f d e)) H
noncomputable def cmpD (f : D → D → Bool) (d e : D) : Option Bool := if SeqAt.shaped d = true ∧ SeqAt.shaped e = true ∧ PySem.W.alike d e = true ∧ isNone d = false then some (f d e) else none
theorem s_cmpD {K : PySem.W.Frag} {f : D → D → Bool} : CmS K (rCmD K f) (cmpD f) := by
  intro d e r h H x y Q rx ry q
  unfold cmpD at h
  split at h
  · rename_i c
    have h := Option.some.inj h
    subst h
    exact ⟨d, e, Rp.dp d (lay_of c.1) rx, Rp.dp e (lay_of c.2.1) ry, c.1, c.2.1, c.2.2.1, fun z => by subst z; exact absurd c.2.2.2 (by simp [isNone]), q⟩
  · cases h
section
variable {X : Cx}
theorem min_room {d e : D} {A : Around} (sd : SeqAt.shaped d = true) (hu : A.units + 65 < cLine) : A.units + min d.depth e.depth < cLine := by
  have : d.depth ≤ 64 := by
    unfold SeqAt.shaped at sd
    simp only [Bool.and_eq_true, decide_eq_true_eq] at sd
    omega
  have := Nat.min_le_left d.depth e.depth
  omega
noncomputable abbrev ltF (d e : D) : Bool := PySem.W.dataLt d e
noncomputable abbrev leF (d e : D) : Bool := !PySem.W.dataLt e d
noncomputable abbrev gtF (d e : D) : Bool := PySem.W.dataLt e d
noncomputable abbrev geF (d e : D) : Bool := !PySem.W.dataLt d e
theorem op_ltA (hu : X.A.units + 65 < cLine) : OpR X (compareOp .Lt) (rCmD X.K ltF) := by
  intro pins s σ H x y v u Q I rx ry ⟨d, e, hd, he, sd, se, al, nn, q⟩
  obtain ⟨as, r1⟩ := Dp.reads I d x v hd rx
  obtain ⟨bs, r2⟩ := Dp.reads I e y u he ry
  exact PySem.W.lt_data r1 r2 al nn (min_room sd hu) ⟨.bl _, H, I, rfl, q⟩
theorem op_leA (hu : X.A.units + 65 < cLine) : OpR X (compareOp .LtE) (rCmD X.K leF) := by
  intro pins s σ H x y v u Q I rx ry ⟨d, e, hd, he, sd, se, al, nn, q⟩
  obtain ⟨as, r1⟩ := Dp.reads I d x v hd rx
  obtain ⟨bs, r2⟩ := Dp.reads I e y u he ry
  exact PySem.W.le_data r1 r2 al nn (min_room sd hu) ⟨.bl _, H, I, rfl, q⟩
theorem op_gtA (hu : X.A.units + 65 < cLine) : OpR X (compareOp .Gt) (rCmD X.K gtF) := by
  intro pins s σ H x y v u Q I rx ry ⟨d, e, hd, he, sd, se, al, nn, q⟩
  obtain ⟨as, r1⟩ := Dp.reads I d x v hd rx
  obtain ⟨bs, r2⟩ := Dp.reads I e y u he ry
  exact PySem.W.gt_data r1 r2 al nn (min_room sd hu) ⟨.bl _, H, I, rfl, q⟩
theorem op_geA (hu : X.A.units + 65 < cLine) : OpR X (compareOp .GtE) (rCmD X.K geF) := by
  intro pins s σ H x y v u Q I rx ry ⟨d, e, hd, he, sd, se, al, nn, q⟩
  obtain ⟨as, r1⟩ := Dp.reads I d x v hd rx
  obtain ⟨bs, r2⟩ := Dp.reads I e y u he ry
  exact PySem.W.ge_data r1 r2 al nn (min_room sd hu) ⟨.bl _, H, I, rfl, q⟩
end
/-! ### tuple(x), list(x) of data: a list or a tuple -/
section
variable {X : Cx} {cl : String → Addr} {W : XK} {a : Expr} {pos : Pos} {m : En → R D}
noncomputable def tupK : D → Option D
  | .list xs => some (.tuple xs)
  | .tuple xs => some (.tuple xs)
  | _ => none
theorem pd_tupD {p : Pos} (hg : Gl X "tuple") (hm : X.mg "tuple" = none) (ha : PD X cl W a m) (hs : starEach [a] X.env = (false, eval a X.env) :: starEach [] X.env := by rfl) (hpl : (backTo pos (starEach [] X.env)).any (·.1) = false := by rfl) :
    PD X cl W (.Call (.Name "tuple" p) [a] [] pos) (un1 tupK m) := by
  refine PE.imp (pe_callTy call_tuple_of hg hm (by decide +kernel) (pa_one ha hs) (by decide) (by decide) hs hpl) fun σ H Q ⟨F0, H0, ρ, F, ok, h⟩ => ?_
  refine ⟨F0, H0, ρ, F, ok, (tR.bind anti_D h).imp fun v H1 ⟨F1, d, e1, p1, h1⟩ => ?_⟩
  cases d with
  | list xs =>
    obtain ⟨b, vs, rfl, s1, r1⟩ := Rp.inv_list p1
    have h1 : tR cl W (poD X.K) (.ok (.tuple xs)) F1 H1 Q := h1
    refine ⟨b, vs, rfl, .inl ⟨.inl (.inl (e1.sub _ _ s1)), fun l nl => ?_⟩⟩
    have fl := e1.sub.none nl
    exact h1 _ (upd F1 l (.tup vs)) _ ((Ext.grow e1.sub (o := .tup vs) nl).freeze nl upd_same fl) (.tup (.inl (.inl upd_same)) (r1.mono ((Le.refl F1).upd fl)))
  | tuple xs =>
    obtain ⟨b, vs, rfl, s1, r1⟩ := Rp.inv_tup p1
    have h1 : tR cl W (poD X.K) (.ok (.tuple xs)) F1 H1 Q := h1
    exact ⟨b, vs, rfl, .inr ⟨e1.sub.sqt s1, h1 _ F1 H1 (Ext.refl e1.sub) (.tup s1 r1)⟩⟩
  | _ => exact False.elim h1
theorem pf_listD {p : Pos} (hg : Gl X "list") (hm : X.mg "list" = none) (ha : PD X cl W a m) (hs : starEach [a] X.env = (false, eval a X.env) :: starEach [] X.env := by rfl) (hpl : (backTo pos (starEach [] X.env)).any (·.1) = false := by rfl) :
    PF X cl W (.Call (.Name "list" p) [a] [] pos) (itD m) := by
  refine PE.imp (pe_callTy call_list_of hg hm (by decide +kernel) (pa_one ha hs) (by decide) (by decide) hs hpl) fun σ H Q ⟨F0, H0, ρ, F, ok, h⟩ => ?_
  have h : tR cl W (poF X.K) ((m ρ).bind items) F H Q := h
  refine ⟨F0, H0, ρ, F, ok, (tR.bind anti_F h).imp fun v H1 ⟨F1, d, e1, p1, h1⟩ => ?_⟩
  cases d with
  | list xs =>
    obtain ⟨b, vs, rfl, s1, r1⟩ := Rp.inv_list p1
    have h1 : tR cl W (poF X.K) (.ok xs) F1 H1 Q := h1
    exact ⟨b, vs, rfl, .inl (.inl (.inl (e1.sub _ _ s1))), fun l nl => h1 _ F1 _ (Ext.grow e1.sub (o := .lst vs) nl) ⟨l, vs, rfl, nl, e1.sub.none nl, upd_same, r1⟩⟩
  | tuple xs =>
    obtain ⟨b, vs, rfl, s1, r1⟩ := Rp.inv_tup p1
    have h1 : tR cl W (poF X.K) (.ok xs) F1 H1 Q := h1
    exact ⟨b, vs, rfl, .inr (e1.sub.sqt s1), fun l nl => h1 _ F1 _ (Ext.grow e1.sub (o := .lst vs) nl) ⟨l, vs, rfl, nl, e1.sub.none nl, upd_same, r1⟩⟩
  | _ => exact False.elim h1
end
end Mir
/-! A memo: a dict of one's own with tuples as keys, handed down a recursion. -/
namespace Mir
open PySem PySem.Spec PyProof.Rows L2
/-! ### keys -/
mutual
theorem num_lay : ∀ k : NestedKey, numK k = true → k.data.canLay0 = true
  | .none, h => by simp [numK] at h
  | .num i, _ => by simp [NestedKey.data, PyData.canLay0]
  | .text _, h => by simp [numK] at h
  | .tup ks, h => by
    have := num_lays ks (by simpa [numK] using h)
    simpa [NestedKey.data, PyData.canLay0] using this
theorem num_lays : ∀ ks : List NestedKey, numKs ks = true → PyData.canLayAll0 (NestedKey.datas ks) = true
  | [], _ => by simp [NestedKey.datas, PyData.canLayAll0]
  | k :: ks, h => by
    have h : numK k = true ∧ numKs ks = true := by simpa [numKs] using h
    simp [NestedKey.datas, PyData.canLayAll0, num_lay k h.1, num_lays ks h.2]
end
mutual
theorem nested_reads {h : Heap} : ∀ (k : NestedKey) (v : Value) (as : List Addr), numK k = true → Reads h v k.data as → NestedIs h k v
  | .none, _, _, n, _ => by simp [numK] at n
  | .num i, v, as, _, r => by
    simp only [NestedKey.data] at r
    cases r
    exact .int _ _
  | .text _, _, _, n, _ => by simp [numK] at n
  | .tup ks, v, as, n, r => by
    simp only [NestedKey.data] at r
    cases r with
    | tuple h1 h2 h3 h4 => exact .tup h1 h2 h3 (nested_readsAll ks _ _ (by simpa [numK] using n) h4)
theorem nested_readsAll {h : Heap} : ∀ (ks : List NestedKey) (vs : List Value) (as : List Addr), numKs ks = true → ReadsAll h vs (NestedKey.datas ks) as → NestedAll h ks vs
  | [], vs, as, _, r => by
    simp only [NestedKey.datas] at r
    cases r
    exact .nil
  | k :: ks, vs, as, n, r => by
    have n : numK k = true ∧ numKs ks = true := by simpa [numKs] using n
    simp only [NestedKey.datas] at r
    cases r with
    | cons h1 h2 => exact .cons (nested_reads k _ _ n.1 h1) (nested_readsAll ks _ _ n.2 h2)
end
section
variable {X : Cx} {pins : List (Addr × Obj)} {σ : St} {H F : Hp} {s : Shared}
theorem rp_nested (I : Inv X pins σ H s) (le : Le F H) {v : V} {u : Value} {d : D} {k : NestedKey} (h : nkD 8 d = some k) (r : Rp X.K F v d) (ru : RelV v u) : NestedIs s.heap k u ∧ k.depth ≤ 8 := by
  obtain ⟨a1, a2, a3⟩ := nkD_ok 8 d k h
  subst a3
  obtain ⟨as, r1⟩ := Dp.reads I k.data v u ((r.mono le).dp _ (num_lay k a1)) ru
  exact ⟨nested_reads k u as a1 r1, a2⟩
/-! ### the dict of a memo -/
noncomputable def lookM (kvs : List (D × D)) (d : D) : Option D := match nkD 8 d with
  | some k => (kvs.find? fun p => match nkD 8 p.1 with
    | some k' => NestedKey.beq k' k
    | none => false).map (·.2)
  | none => none
noncomputable def isTup : D → Bool
  | .tuple _ => true
  | _ => false
noncomputable def okKey (d : D) : Bool := isTup d && (nkD 8 d).isSome
theorem look_rel {K : PySem.W.Frag} {kvs : List (D × D)} {es : List (NestedKey × Addr × Value)} (r : Paired (TbRel K F) kvs es) {d : D} {k : NestedKey} (h : nkD 8 d = some k) :
    match atKey es k with
    | none => lookM kvs d = none
    | some u => ∃ q v, lookM kvs d = some q ∧ RelV v u.2 ∧ Rp K F v q := by
  unfold lookM atKey
  rw [h]
  simp only
  induction r with
  | nil => simp
  | @cons p x l1 l2 r t ih =>
    rw [List.find?_cons, List.find?_cons, r.nk]
    simp only
    by_cases e : x.1 = k
    · have e1 : decide (x.1 = k) = true := decide_eq_true e
      have e2 : NestedKey.beq x.1 k = true := by rw [← NestedKey.decide_eq]; exact e1
      rw [e1, e2]
      obtain ⟨v, a, b⟩ := r.val
      exact ⟨p.2, v, rfl, a, b⟩
    · have e1 : decide (x.1 = k) = false := decide_eq_false e
      have e2 : NestedKey.beq x.1 k = false := by rw [← NestedKey.decide_eq]; exact e1
      rw [e1, e2]
      exact ih
theorem paired_mem {α β : Type} {R : α → β → Prop} : ∀ {l1 : List α} {l2 : List β}, Paired R l1 l2 → ∀ {x : β}, x ∈ l2 → ∃ p, R p x
  | _, _, .nil, _, h => by simp at h
  | _, _, .cons r t, x, h => by
    rcases List.mem_cons.mp h with rfl | h
    · exact ⟨_, r⟩
    · exact paired_mem t h
theorem dk_of (I : Inv X pins σ H s) (le : Le F H) {a : Addr} {kvs : List (D × D)} (h : DkAt X.K F H a kvs) :
    (a == sysModules) = false ∧ ∃ es, H a = some (.ext (TbAt a es)) ∧ Paired (TbRel X.K F) kvs es ∧ (es.map (·.1)).Nodup ∧ s.heap.DictOfH (nestedKind X.prog X.w) a es := by
  obtain ⟨h0, es, h1, h2, h3⟩ := h
  refine ⟨h0, es, h1, h2, h3, ?_⟩
  obtain ⟨⟨o, ea, ep, q1, q2, q3, q4⟩, _, _⟩ := I.hok a _ h1
  refine ⟨o, ea, ep, q1, q2, q3, ?_, fun x hx => ?_, h3⟩
  · rw [q4]
    refine List.map_congr_left fun x hx => ?_
    obtain ⟨p, hp⟩ := paired_mem h2 hx
    unfold entryOfKey
    show _ = (⟨x.1.hash X.w, _, _⟩ : DictEntry)
    rw [hz_eq X.w x.1 (nkD_ok 8 _ _ hp.nk).1]
  · obtain ⟨p, hp⟩ := paired_mem h2 hx
    exact rp_nested I le hp.nk hp.kr rfl
/-! ### k in memo -/
noncomputable def rInM (K : PySem.W.Frag) (neg : Bool) : R2 := fun x y H Q => ∃ F a kvs d, y = .ref a ∧ Le F H ∧ DkAt K F H a kvs ∧ Rp K F x d ∧ okKey d = true ∧ Q (.bl ((lookM kvs d).isSome != neg)) H
theorem okKey_of {d : D} (h : okKey d = true) : ∃ ds k, d = .tuple ds ∧ nkD 8 d = some k := by
  unfold okKey at h
  obtain ⟨h1, h2⟩ := He.ba h
  cases d with
  | tuple ds =>
    obtain ⟨k, hk⟩ := Option.isSome_iff_exists.mp h2
    exact ⟨ds, k, rfl, hk⟩
  | _ => cases h1
theorem look_some {K : PySem.W.Frag} {kvs : List (D × D)} {es : List (NestedKey × Addr × Value)} (r : Paired (TbRel K F) kvs es) {d : D} {k : NestedKey} (h : nkD 8 d = some k) : (lookM kvs d).isSome = (atKey es k).isSome := by
  have := look_rel r h
  cases e : atKey es k with
  | none => rw [e] at this; simp only at this; rw [this]; rfl
  | some u => rw [e] at this; obtain ⟨q, v, a, _⟩ := this; rw [a]; rfl
theorem op_inM (hu : X.A.units + 65 < cLine) : OpR X (compareOp .In) (rInM X.K false) := by
  intro pins s σ H x y v u Q I rx ry ⟨F, a, kvs, d, hy, le, hd, hx, ok, q⟩
  subst hy
  obtain rfl : u = Value.ref a := ry
  obtain ⟨ds, k, rfl, hk⟩ := okKey_of ok
  obtain ⟨b, vs, rfl, s1, r1⟩ := Rp.inv_tup hx
  obtain rfl : v = Value.ref b := rx
  obtain ⟨h0, es, h1, h2, h3, h4⟩ := dk_of I le hd
  refine wpAny_in_heap (knd := nestedKind X.prog X.w) (by show X.A.units + 1 + 8 < cLine; omega) (rp_nested I le hk hx rfl) h0 h4 ⟨.bl _, H, I.tok _, ?_, q⟩
  show Value.bool _ = _
  rw [look_some h2 hk]
  simp
theorem op_notInM (hu : X.A.units + 65 < cLine) : OpR X (compareOp .NotIn) (rInM X.K true) := by
  intro pins s σ H x y v u Q I rx ry ⟨F, a, kvs, d, hy, le, hd, hx, ok, q⟩
  subst hy
  obtain rfl : u = Value.ref a := ry
  obtain ⟨ds, k, rfl, hk⟩ := okKey_of ok
  obtain ⟨b, vs, rfl, s1, r1⟩ := Rp.inv_tup hx
  obtain rfl : v = Value.ref b := rx
  obtain ⟨h0, es, h1, h2, h3, h4⟩ := dk_of I le hd
  refine notIn_keyed (knd := nestedKind X.prog X.w) (by show X.A.units + 1 + 8 < cLine; omega) (rp_nested I le hk hx rfl) h0 ⟨es, h4, rfl⟩ ⟨.bl _, H, I.tok _, ?_, q⟩
  show Value.bool _ = _
  rw [look_some h2 hk, valueAt_pairsH, Option.isSome_map]
  simp
end
section
variable {X : Cx} {cl : String → Addr} {W : XK} {a o e value : Expr} {pos pos' : Pos} {m mk mv : En → R D} {i : Nat}
theorem nth_dk {ρ : En} {i : Nat} {a : Addr} {k : List (D × D)} (h : nth ρ i = .dk a k) : ρ[i]? = some (.dk a k) := by
  rw [nth_eq] at h
  cases q : ρ[i]? with
  | none => rw [q] at h; cases h
  | some s => rw [q] at h; exact congrArg some h
theorem Ok.dk {K : PySem.W.Frag} {F0 H0 ρ F σ H} (h : Ok K F0 H0 ρ F σ H) {i : Nat} {a : Addr} {k : List (D × D)} (q : nth ρ i = .dk a k) : σ[i]? = some (some (.ref a)) ∧ H0 a = none ∧ F a = none ∧ DkAt K F H a k := h.sl i _ (nth_dk q)
noncomputable def inM (neg : Bool) (i : Nat) (m : En → R D) : En → R Bool := fun ρ => (m ρ).bind fun d => match nth ρ i with
  | .dk _ kvs => if okKey d = true then .ok ((lookM kvs d).isSome != neg) else .no
  | _ => .no
theorem in_go {neg : Bool} {op : CmpOp} (ho' : OpR X (compareOp op) (rInM X.K neg)) (ha : PD X cl W a m) (ho : PE X o (tVar i)) (hm : behindInMarks op o = false) : PB X cl W (.Compare a [op] [o] pos) (inM neg i m) := by
  refine PT.imp (pt_cmpR ho' ha ho hm) fun σ H Q ⟨F0, H0, ρ, F, ok, h⟩ => ?_
  refine ⟨F0, H0, ρ, F, ok, (tRB.bind (show tRB cl W ((m ρ).bind _) F H Q from h)).imp fun v H1 ⟨F1, d, e1, p1, h1⟩ => ?_⟩
  have ok1 := ok.grow e1
  cases hx : nth ρ i with
  | dk b kvs =>
    rw [hx] at h1
    have h1 : tRB cl W (if okKey d = true then .ok ((lookM kvs d).isSome != neg) else .no) F1 H1 Q := h1
    obtain ⟨k1, k2, k3, k4⟩ := ok1.dk hx
    split at h1
    · rename_i hk
      exact ⟨_, k1, F1, b, kvs, d, rfl, e1.sub, k4, p1, hk, _, rfl, h1 F1 H1 (Ext.refl e1.sub)⟩
    · exact h1.elim
  | _ => rw [hx] at h1; exact h1.elim
theorem pb_inM (hu : X.A.units + 65 < cLine) (ha : PD X cl W a m) (ho : PE X o (tVar i)) (hm : behindInMarks .In o = false := by rfl) : PB X cl W (.Compare a [.In] [o] pos) (inM false i m) := in_go (op_inM hu) ha ho hm
theorem pb_notInM (hu : X.A.units + 65 < cLine) (ha : PD X cl W a m) (ho : PE X o (tVar i)) (hm : behindInMarks .NotIn o = false := by rfl) : PB X cl W (.Compare a [.NotIn] [o] pos) (inM true i m) := in_go (op_notInM hu) ha ho hm
/-! ### memo[k] -/
noncomputable def getM (i : Nat) (m : En → R D) : En → R D := fun ρ => match nth ρ i with
  | .dk _ kvs => (m ρ).bind fun d => if okKey d = true then ofO (lookM kvs d) else .no
  | _ => .no
theorem pd_getM (hu : X.A.units + 65 < cLine) (ho : PE X o (tVar i)) (hi : PD X cl W e m) (hs : NoSl e := by intro _ _; rfl) : PD X cl W (.Subscript o e pos) (getM i m) := by
  refine ⟨fun pins s σ H Q I ⟨F0, H0, ρ, F, ok, h⟩ => ?_⟩
  have h : tR cl W (poD X.K) (match nth ρ i with
    | .dk _ kvs => (m ρ).bind fun d => if okKey d = true then ofO (lookM kvs d) else .no
    | _ => .no) F H Q := h
  cases hx : nth ρ i with
  | dk b kvs =>
    rw [hx] at h
    obtain ⟨k1, _, _, _⟩ := ok.dk hx
    have hb := tR.bind (P := poD X.K) anti_D (show tR cl W (poD X.K) ((m ρ).bind fun d => if okKey d = true then ofO (lookM kvs d) else .no) F H Q from h)
    refine subD_of PySem.F.slot_dict_getitem.lookup hs (thn (ho.run pins s σ H (fun v H' => H' = H ∧ v = .ref b) I ⟨_, k1, rfl, rfl⟩) fun u s1 ⟨x, H1, I1, rx, eH, ex⟩ => ?_)
    subst eH ex
    obtain rfl : u = Value.ref b := rx
    refine thn (hi.run pins s1 σ H1 _ I1 ⟨F0, H0, ρ, F, ok, hb⟩) fun iv s2 ⟨y, H2, I2, ry, F1, d, e1, p1, h1⟩ => ?_
    obtain ⟨_, _, _, k4⟩ := (ok.grow e1).dk hx
    split at h1
    · rename_i hk
      obtain ⟨ds, k, rfl, hk⟩ := okKey_of hk
      obtain ⟨c, vs, rfl, s1, r1⟩ := Rp.inv_tup p1
      obtain rfl : iv = Value.ref c := ry
      obtain ⟨h0, es, g1, g2, g3, g4⟩ := dk_of I2 e1.sub k4
      refine ⟨g4.typeIs, ?_⟩
      have lr := look_rel g2 hk
      cases ea : atKey es k with
      | none =>
        rw [ea] at lr
        simp only at lr
        rw [lr] at h1
        exact h1.elim
      | some p =>
        rw [ea] at lr
        obtain ⟨q, v, l1, l2, l3⟩ := lr
        rw [l1] at h1
        exact wpAny_getItem_heap (knd := nestedKind X.prog X.w) (by show X.A.units + 1 + 8 < cLine; omega) (rp_nested I2 e1.sub hk p1 rfl) g4 ea ⟨v, H2, I2.tok _, l2, h1 v F1 H2 (Ext.refl e1.sub) l3⟩
    · exact h1.elim
  | _ => rw [hx] at h; exact h.elim
/-! ### memo[k] = v, for a new k -/
noncomputable def noDk : Sl → Sl
  | .dk _ _ => .un
  | s => s
noncomputable def dkOnly (i : Nat) (ρ : En) (a : Addr) (kvs : List (D × D)) : En := (ρ.map noDk).set i (.dk a kvs)
noncomputable def less (H : Hp) (a : Addr) : Hp := fun b => if b = a then none else H b
theorem less_ne {H : Hp} {a b : Addr} (h : b ≠ a) : less H a b = H b := by unfold less; rw [if_neg h]
theorem less_same {H : Hp} {a : Addr} : less H a a = none := by unfold less; rw [if_pos rfl]
/-- the memo is changed, all else is kept -/
theorem Ok.memo {K : PySem.W.Frag} {F0 H0 F H F' H' : Hp} {ρ : En} {σ : St} (h : Ok K F0 H0 ρ F σ H) {i : Nat} {a : Addr} {kvs kvs' : List (D × D)} (hi : nth ρ i = .dk a kvs) (e : Ext F (less H a) F' H') (fa : F' a = none) (hd : DkAt K F' H' a kvs') :
    Ok K F0 H0 (dkOnly i ρ a kvs') F' σ H' := by
  obtain ⟨k1, k2, k3, k4⟩ := h.dk hi
  obtain ⟨_, es, k5, _⟩ := id k4
  have hlt : i < ρ.length := (List.getElem?_eq_some_iff.mp (nth_dk hi)).1
  have keep : ∀ b o, b ≠ a → H b = some o → H' b = some o := fun b o n q => e.keep b o (by rw [less_ne n]; exact q)
  have fnone : ∀ b o, b ≠ a → H b = some o → F b = none → F' b = none := fun b o n q f => by
    cases z : F' b with
    | none => rfl
    | some u =>
      rcases e.new b u z with y | y
      · rw [f] at y; cases y
      · rw [less_ne n, q] at y; cases y
  refine ⟨by unfold dkOnly; simpa using h.len, ⟨h.ext.le.trans e.le, e.sub, fun b o q => keep b o (fun z => by rw [z, k2] at q; cases q) (h.ext.keep b o q), fun b o q => ?_⟩, h.low, fun j s q => ?_, ?_⟩
  · rcases e.new b o q with z | z
    · exact h.ext.new b o z
    · refine .inr ?_
      by_cases n : b = a
      · rw [n]; exact k2
      · rw [less_ne n] at z; exact h.ext.keep.none z
  · unfold dkOnly at q
    by_cases hj : i = j
    · subst hj
      rw [List.getElem?_set_self (by simpa using hlt)] at q
      cases q
      exact ⟨k1, k2, fa, hd⟩
    · rw [List.getElem?_set_ne hj, List.getElem?_map] at q
      cases z : ρ[j]? with
      | none => rw [z] at q; cases q
      | some t =>
        rw [z] at q
        have q : noDk t = s := Option.some.inj q
        have g := h.sl j t z
        cases t with
        | un => subst q; trivial
        | da d => subst q; obtain ⟨v, f1, f2⟩ := g; exact ⟨v, f1, f2.mono e.le⟩
        | ce us =>
          subst q
          obtain ⟨b, vs', f1, f2, f3, f4, f5⟩ := g
          have n : b ≠ a := fun y => by rw [y, k5] at f2; cases f2
          exact ⟨b, vs', f1, keep b _ n f2, fnone b _ n f2 f3, f4, f5.mono e.le⟩
        | er b dx n => subst q; exact ⟨g.1, e.le _ _ g.2⟩
        | sc ns => subst q; obtain ⟨b, f1, f2⟩ := g; exact ⟨b, f1, e.le.sql f2⟩
        | dk b us => subst q; trivial
        | ow d => subst q; trivial
        | cc d => subst q; trivial
        | dd us =>
          subst q
          obtain ⟨b, vs', f1, f2, f3, f4, f5⟩ := g
          have n : b ≠ a := fun y => by rw [y, k5] at f2; cases f2
          exact ⟨b, vs', f1, keep b _ n f2, fnone b _ n f2 f3, f4, f5.mono e.le⟩
  · obtain ⟨f, hf⟩ := h.own
    have fi : f a = i := (hf i _ (nth_dk hi)) a rfl
    refine ⟨f, fun j s q => ?_⟩
    unfold dkOnly at q
    by_cases hj : i = j
    · subst hj
      rw [List.getElem?_set_self (by simpa using hlt)] at q
      cases q
      exact fun b (z : b = a) => by rw [z]; exact fi
    · rw [List.getElem?_set_ne hj, List.getElem?_map] at q
      cases z : ρ[j]? with
      | none => rw [z] at q; cases q
      | some t =>
        rw [z] at q
        have q : noDk t = s := Option.some.inj q
        have g := (hf j t z).to (F' := F') (H' := H') (H0' := H0) (f' := f) e.le (fun b u x1 x2 x3 x4 => by
          have n : b ≠ a := fun y => by rw [y, fi] at x1; exact hj x1
          exact ⟨keep b u n x4, fnone b u n x4 x2, x3, x1⟩) fun _ _ x => x
        cases t with
        | dk b us => subst q; exact fun _ y => y.elim
        | _ => subst q; exact g
noncomputable def putM (i : Nat) (mk mv : En → R D) : En → R Fl := fun ρ => match nth ρ i with
  | .dk a kvs => (mv ρ).bind fun r => (mk ρ).bind fun d => if okKey d = true ∧ (lookM kvs d).isSome = false ∧ kvs.length < 1000000 then .ok (.nx (dkOnly i ρ a (kvs ++ [(d, r)]))) else .no
  | _ => .no
theorem paired_snoc {α β : Type} {R : α → β → Prop} {x : α} {y : β} : ∀ {l1 : List α} {l2 : List β}, Paired R l1 l2 → R x y → Paired R (l1 ++ [x]) (l2 ++ [y])
  | _, _, .nil, r => .cons r .nil
  | _, _, .cons q t, r => .cons q (paired_snoc t r)
theorem paired_len {α β : Type} {R : α → β → Prop} : ∀ {l1 : List α} {l2 : List β}, Paired R l1 l2 → l1.length = l2.length
  | _, _, .nil => rfl
  | _, _, .cons _ t => by rw [List.length_cons, List.length_cons, paired_len t]
theorem st_putM (hu : X.A.units + 65 < cLine) (ho : PE X o (tVar i)) (hi : PD X cl W e mk) (hv : PD X cl W value mv) (hs : swapsWith value (some (.Subscript o e pos')) pos.line X.env = pure false := by rfl) :
    PSt X cl W (.Assign [.Subscript o e pos'] value pos) (putM i mk mv) := by
  refine ⟨fun pins s σ H Dn I ⟨F0, H0, ρ, F, ok, h⟩ => ?_⟩
  have h : tRS cl W X.K F0 H0 F (match nth ρ i with
    | .dk a kvs => (mv ρ).bind fun r => (mk ρ).bind fun d => if okKey d = true ∧ (lookM kvs d).isSome = false ∧ kvs.length < 1000000 then .ok (.nx (dkOnly i ρ a (kvs ++ [(d, r)]))) else .no
    | _ => .no) Dn := h
  cases hx : nth ρ i with
  | dk b kvs =>
    rw [hx] at h
    obtain ⟨k1, _, _, _⟩ := ok.dk hx
    have hb := tRS.expr (P := poD X.K) (Q := fun v H1 => ∃ F1 r, Ext F H F1 H1 ∧ Rp X.K F1 v r ∧ tRS cl W X.K F0 H0 F1 ((mk ρ).bind fun d => if okKey d = true ∧ (lookM kvs d).isSome = false ∧ kvs.length < 1000000 then .ok (.nx (dkOnly i ρ b (kvs ++ [(d, r)]))) else .no) Dn)
      (show tRS cl W X.K F0 H0 F ((mv ρ).bind fun r => (mk ρ).bind fun d => if okKey d = true ∧ (lookM kvs d).isSome = false ∧ kvs.length < 1000000 then .ok (.nx (dkOnly i ρ b (kvs ++ [(d, r)]))) else .no) Dn from h) ok.ext.keep fun v F1 H1 r e1 p1 h1 => ⟨F1, r, e1, p1, h1⟩
    refine wpAny_Assign_Subscript (thn (hv.run pins s σ H _ I ⟨F0, H0, ρ, F, ok, hb⟩) fun ru s1 ⟨rv, H1, I1, rr, F1, r, e1, p1, h1⟩ => thn (ho.run pins s1 σ H1 (fun v H' => H' = H1 ∧ v = .ref b) I1 ⟨_, k1, rfl, rfl⟩) fun u s2 ⟨x, H2, I2, rx, eH, ex⟩ => ?_) hs
    subst eH ex
    obtain rfl : u = Value.ref b := rx
    have hb2 := tRS.expr (P := poD X.K) (Q := fun v H3 => ∃ F3 d, Ext F1 H2 F3 H3 ∧ Rp X.K F3 v d ∧ tRS cl W X.K F0 H0 F3 (if okKey d = true ∧ (lookM kvs d).isSome = false ∧ kvs.length < 1000000 then .ok (.nx (dkOnly i ρ b (kvs ++ [(d, r)]))) else .no) Dn) h1 (ok.ext.keep.trans e1.keep) fun v F3 H3 d e3 p3 h3 => ⟨F3, d, e3, p3, h3⟩
    refine thn (hi.run pins s2 σ H2 _ I2 ⟨F0, H0, ρ, F1, ok.grow e1, hb2⟩) fun iv s3 ⟨y, H3, I3, ry, F3, d, e3, p3, h3⟩ => ?_
    have ok3 := (ok.grow e1).grow e3
    obtain ⟨_, _, k3, k4⟩ := ok3.dk hx
    split at h3
    · rename_i hk
      obtain ⟨hk, hn, hl⟩ := hk
      obtain ⟨ds, k, rfl, hk⟩ := okKey_of hk
      obtain ⟨c, vs, rfl, s4, r4⟩ := Rp.inv_tup p3
      obtain rfl : iv = Value.ref c := ry
      obtain ⟨h0, es, g1, g2, g3, g4⟩ := dk_of I3 e3.sub k4
      have ea : atKey es k = none := by
        have := look_some g2 hk
        rw [hn] at this
        cases z : atKey es k with
        | none => rfl
        | some p => rw [z] at this; cases this
      have hz : es.length ≤ sizeLine := by rw [← paired_len g2, sizeLine_eq]; omega
      have hkis : NestedIs s3.heap k (.ref c) ∧ k.depth ≤ 8 := rp_nested I3 e3.sub hk p3 rfl
      refine wpAny_setItem_heap (knd := nestedKind X.prog X.w) (hsz := hz) (by show X.A.units + 1 + 8 < cLine; omega) hkis g4 fun h' dd hs => ?_
      rw [storedH_new ea] at dd
      obtain ⟨od, ea', ep, q1, q2, q3, q4, q5, q6⟩ := dd
      have rel : Paired (TbRel X.K F3) (kvs ++ [(PyData.tuple ds, r)]) (es ++ [(k, c, ru)]) := paired_snoc g2 ⟨hk, p3, rv, rr, p1.mono e3.le⟩
      have tb : ∀ x ∈ es ++ [(k, c, ru)], numK x.1 = true := fun x hx => by
        obtain ⟨p, hp⟩ := paired_mem rel hx
        exact (nkD_ok 8 _ _ hp.nk).1
      have tbat : TbAt b (es ++ [(k, c, ru)]) h' := ⟨od, ea', ep, q1, q2, q3, by
        rw [q4]
        refine List.map_congr_left fun x hx => ?_
        show (⟨x.1.hash X.w, _, _⟩ : DictEntry) = _
        rw [hz_eq X.w x.1 (tb x hx)]⟩
      have newO : ObjOk X.prog X.w (upd H3 b (.ext (TbAt b (es ++ [(k, c, ru)])))) h' b (.ext (TbAt b (es ++ [(k, c, ru)]))) :=
        ⟨tbat, ⟨od, q1⟩, fun h1 h2 ⟨o1, e1, ep1, z1, z2⟩ k => ⟨o1, e1, ep1, k o1 z1, z2⟩⟩
      have I4 := d_write (t' := s3.toks + (nestedKind X.prog X.w).draws k) I3 (by rw [g1]; exact True.intro) hs ⟨od, q1⟩ newO
      refine ⟨σ, _, I4, ?_⟩
      have nf : ∀ c o, F3 c = some o → c ≠ b := fun c o q z => by rw [z, k3] at q; cases q
      refine h3 σ F3 _ (ok3.memo hx (kvs' := kvs ++ [(PyData.tuple ds, r)]) ⟨Le.refl F3, fun c o q => by rw [upd_ne (nf c o q)]; exact e3.sub c o q, fun c o q => ?_, fun c o q => .inl q⟩ k3 ⟨h0, _, upd_same, rel, q6⟩) (Le.refl F3)
      by_cases n : c = b
      · rw [n, less_same] at q; cases q
      · rw [less_ne n] at q; rw [upd_ne n]; exact q
    · exact h3.elim
  | _ => rw [hx] at h; exact h.elim
end
end Mir
/-! Defs that are handed a memo, their calls; that the memo's address does not matter. -/
namespace Mir
open PySem PySem.Spec PyProof.Rows L2
abbrev MF := Addr → List D → List (D × D) → R (D × List (D × D))
noncomputable def retM (i : Nat) (m : En → R D) : En → R Fl := fun ρ => match nth ρ i with
  | .dk a kvs => (m ρ).bind fun d => .ok (.rk d a kvs)
  | _ => .no
noncomputable def tRk (K : PySem.W.Frag) (r : R (D × List (D × D))) (F H : Hp) (a : Addr) (Q : VK) : Prop := match r with
  | .ok p => ∀ v F' H', Ext F (less H a) F' H' → Rp K F' v p.1 → F' a = none → DkAt K F' H' a p.2 → Q v H'
  | _ => False
noncomputable def spK (K : PySem.W.Frag) (n : Nat) (f : MF) : Sp := fun vs H Q E => vs.length = n + 1 ∧ ∃ F ds a kvs ws, vs = ws ++ [.ref a] ∧ Le F H ∧ RpA K F ws ds ∧ F a = none ∧ DkAt K F H a kvs ∧ tRk K (f a ds kvs) F H a Q
noncomputable def enterK (m : Nat) (ds : List D) (a : Addr) (kvs : List (D × D)) : En := ds.map Sl.da ++ .dk a kvs :: List.replicate (m - (ds.length + 1)) .un
noncomputable def fnK (m : Nat) (b : En → R Fl) : MF := fun a ds kvs => (b (enterK m ds a kvs)).bind fun f => match f with
  | .rk d a' kvs' => if Nat.beq a' a = true then .ok (d, kvs') else .no
  | _ => .no
theorem enterK_ok {K : PySem.W.Frag} {F H : Hp} {ws : List V} {ds : List D} {N : List Str} {a : Addr} {kvs : List (D × D)} (le : Le F H) (r : RpA K F ws ds) (fa : F a = none) (dk : DkAt K F H a kvs) :
    Ok K F (less H a) (enterK N.length ds a kvs) F (L2.start N (ws ++ [.ref a])) H := by
  have hl := r.length
  refine ⟨by unfold enterK L2.start; simp [hl], ⟨Le.refl _, le, fun b o q => ?_, fun b o q => .inl q⟩, fun b o q => ?_, fun i s q => ?_, ⟨fun _ => ds.length, fun i s q1 => ?_⟩⟩
  · by_cases n : b = a
    · rw [n, less_same] at q; cases q
    · rw [less_ne n] at q; exact q
  · rw [less_ne (fun z => by rw [z, fa] at q; cases q)]; exact le b o q
  · unfold enterK at q
    by_cases hi : i < ds.length
    · rw [List.getElem?_append_left (by simpa using hi), List.getElem?_map] at q
      cases e : ds[i]? with
      | none => rw [e] at q; cases q
      | some d =>
        rw [e] at q
        have q : Sl.da d = s := Option.some.inj q
        subst q
        obtain ⟨v, hv, rv⟩ := r.getD e
        refine ⟨v, ?_, rv⟩
        unfold L2.start
        rw [List.getElem?_append_left (by simp [hl]; omega), List.getElem?_map, List.getElem?_append_left (by omega), hv]
        rfl
    · rw [List.getElem?_append_right (by simpa using hi)] at q
      simp only [List.length_map] at q
      cases z : i - ds.length with
      | zero =>
        rw [z] at q
        have q : Sl.dk a kvs = s := Option.some.inj q
        subst q
        refine ⟨?_, less_same, fa, dk⟩
        have : i = ds.length := by omega
        subst this
        unfold L2.start
        rw [List.getElem?_append_left (by simp [hl]), List.getElem?_map, ← hl, List.getElem?_append_right (Nat.le_refl _)]
        simp
      | succ k =>
        rw [z] at q
        have q : (List.replicate (N.length - (ds.length + 1)) Sl.un)[k]? = some s := q
        rw [List.getElem?_replicate] at q
        split at q
        · cases q; trivial
        · cases q
  · unfold enterK at q1
    by_cases hi : i < ds.length
    · rw [List.getElem?_append_left (by simpa using hi), List.getElem?_map] at q1
      cases e : ds[i]? with
      | none => rw [e] at q1; cases q1
      | some d =>
        rw [e] at q1
        have q1 : Sl.da d = s := Option.some.inj q1
        subst q1
        exact fun _ y => y.elim
    · rw [List.getElem?_append_right (by simpa using hi)] at q1
      simp only [List.length_map] at q1
      cases z : i - ds.length with
      | zero =>
        rw [z] at q1
        have q1 : Sl.dk a kvs = s := Option.some.inj q1
        subst q1
        exact fun _ _ => (by omega : ds.length = i)
      | succ k =>
        rw [z] at q1
        have q1 : (List.replicate (N.length - (ds.length + 1)) Sl.un)[k]? = some s := q1
        rw [List.getElem?_replicate] at q1
        split at q1
        · cases q1; exact fun _ y => y.elim
        · cases q1
section
variable {P : Program} {w : World} {K : PySem.W.Frag} {mg : Str → Option Value} {base : Heap} {cl : String → Addr}
theorem fn_k {x qual : Str} {st : Stmt} {f : Addr} {fd : FuncData} {N ps : List Str} {k n m : Nat} {mb : En → R Fl} (F : Fun K x qual st f fd) (S : FnScope N ps (defScope st)) (hn : n + 1 = ps.length) (hm : m = N.length)
    (hb : ∀ (cdv : Value) (A : Around) (fr : List Env) (s : Shared) (H : Hp) (E : XK), Rm (Bd P w K mg base N qual (defScope st) f cdv A fr s H E) k → Passes (L2N.CX P w) (Bd P w K mg base N qual (defScope st) f cdv A fr s H E) E → L2N.Takes (Bd P w K mg base N qual (defScope st) f cdv A fr s H E) (fun c d _ H => E c d H) →
      PBl (Bd P w K mg base N qual (defScope st) f cdv A fr s H E) cl E (defBody st) mb) : FnG P w K mg base (k + 1) f fd ps (spK K n (fnK m mb)) := by
  subst hm
  refine fnG_of F S (fun vs H Q E h => h.1.trans hn) fun cdv A fr s H vs Q E hr hg h => ?_
  have tk : L2N.Takes (Bd P w K mg base N qual (defScope st) f cdv A fr s H E) (fun c d _ H => E c d H) := L2N.takes_of rfl rfl rfl rfl
  refine ⟨_, hb cdv A fr s H E ⟨hr, hg⟩ (L2N.passes_call tk fun _ _ _ _ h => h) tk, ?_⟩
  obtain ⟨_, F', ds, a, kvs, ws, rfl, le, r, fa, dk, h⟩ := h
  refine ⟨F', less H a, _, F', enterK_ok le r fa dk, ?_⟩
  unfold fnK at h
  cases hr : mb (enterK N.length ds a kvs) with
  | no => rw [hr] at h; exact h.elim
  | ex c n => rw [hr] at h; exact h.elim
  | ok fl =>
    rw [hr] at h
    cases fl with
    | nx ρ' => exact h.elim
    | rt d => exact h.elim
    | ro xs => exact h.elim
    | rk d b kvs' =>
      have h : tRk K (if Nat.beq b a = true then .ok (d, kvs') else .no) F' H a Q := h
      split at h
      · rename_i e
        have e := Nat.eq_of_beq_eq_true e
        subst e
        exact fun v F2 H2 e rv h0 fb dk' => h v F2 H2 e rv fb dk'
      · exact h.elim
    | bk ρ' => exact fun σ' F2 H2 o l => h.elim
    | ct ρ' => exact fun σ' F2 H2 o l => h.elim
end
section
variable {X : Cx} {cl : String → Addr} {W : XK} {k n i j : Nat} {f : Addr} {fd : FuncData} {ps : List Str} {x : Str} {p pos : Pos} {a e : Expr} {es : List Expr} {ma : En → R (List D)} {m : En → R D} {g' : MF}
theorem st_retM (he : PD X cl W e m) : PSt X cl W (.Return (some e) pos) (retM i m) := by
  refine PS.imp (ps_ret he) fun σ H Q ⟨F0, H0, ρ, F, ok, h⟩ => ⟨F0, H0, ρ, F, ok, ?_⟩
  have h : tRS cl W X.K F0 H0 F (match nth ρ i with
    | .dk a kvs => (m ρ).bind fun d => .ok (.rk d a kvs)
    | _ => .no) Q := h
  cases hx : nth ρ i with
  | dk b kvs =>
    rw [hx] at h
    refine tRS.expr h ok.ext.keep fun v F1 H1 d e1 p1 h1 => ?_
    obtain ⟨k1, k2, k3, k4⟩ := (ok.grow e1).dk hx
    exact h1 v F1 H1 (ok.ext.trans e1) p1 k2 k3 k4
  | _ => rw [hx] at h; exact h.elim
/-- arguments, the memo last -/
noncomputable def PAK (X : Cx) (cl : String → Addr) (W : XK) (es : List Expr) (i : Nat) (ma : En → R (List D)) : Prop := PA X es fun σ H Q => ∃ F0 H0 ρ F, Ok X.K F0 H0 ρ F σ H ∧ tRA cl W X.K (ma ρ) F H fun vs H1 => ∃ v, σ[i]? = some (some v) ∧ Q (vs ++ [v]) H1
theorem pak_last (h : PE X e (tVar i)) (hs : starEach [e] X.env = (false, eval e X.env) :: starEach [] X.env := by rfl) : PAK X cl W [e] i argN :=
  PA.imp (pa_one h hs) fun σ H Q ⟨F0, H0, ρ, F, ok, q⟩ => by
    obtain ⟨v, h1, h2⟩ := q [] F H (Ext.refl ok.sub) .nil
    exact ⟨v, h1, h2⟩
theorem pak_cons {r : En → R (List D)} (ha : PD X cl W e m) (hr : PAK X cl W es i r) (hs : starEach (e :: es) X.env = (false, eval e X.env) :: starEach es X.env := by rfl) : PAK X cl W (e :: es) i (argC m r) :=
  PA.imp (pa_cons ha hr hs) fun σ H Q ⟨F0, H0, ρ, F, ok, h⟩ => ⟨F0, H0, ρ, F, ok, (tRA.bind h).imp fun v H1 ⟨F1, x, e1, p1, h1⟩ =>
    ⟨F0, H0, ρ, F1, ok.grow e1, (tRA.bindA h1).imp fun vs H2 ⟨F2, xs, e2, p2, h2⟩ => h2 (v :: vs) F2 H2 (Ext.refl e2.sub) (.cons (p1.mono e2.le) p2)⟩⟩
/-- arguments, a new empty memo last -/
noncomputable def PAN (X : Cx) (cl : String → Addr) (W : XK) (es : List Expr) (ma : En → R (List D)) : Prop := PA X es fun σ H Q => ∃ F0 H0 ρ F, Ok X.K F0 H0 ρ F σ H ∧ tRA cl W X.K (ma ρ) F H fun vs H1 => ∀ p, H1 p = none → (p == sysModules) = false → Q (vs ++ [.ref p]) (upd H1 p (.ext (TbAt p [])))
theorem pe_dnewM : PE X (.Dict [] [] pos) (fun _ H Q => ∀ p, H p = none → (p == sysModules) = false → Q (.ref p) (upd H p (.ext (TbAt p [])))) := ⟨fun pins s σ H Q I h => by
  have ob : ObjOk X.prog X.w (upd H s.heap.objs.size (.ext (TbAt s.heap.objs.size []))) (s.heap.push { cls := .type "dict", data := .dict #[] }) s.heap.objs.size (.ext (TbAt s.heap.objs.size [])) := by
    obtain ⟨o, ea, ep, q1, q2, q3, q4, _⟩ := Heap.DictOfH.new (knd := nestedKind X.prog X.w) s.heap
    exact ⟨⟨o, ea, ep, q1, q2, q3, by rw [q4]; rfl⟩, ⟨o, q1⟩, fun h1 h2 ⟨o1, e1, ep1, z1, z2⟩ k => ⟨o1, e1, ep1, k o1 z1, z2⟩⟩
  have hne : (s.heap.objs.size == sysModules) = false := by
    have hb := I.big
    cases z : (s.heap.objs.size == sysModules) with
    | false => rfl
    | true => exact absurd (eq_of_beq z) (Nat.ne_of_gt hb)
  exact wpAny_Dict_empty ⟨.ref s.heap.objs.size, _, I.laid (a := s.heap.objs.size) (o := .ext (TbAt s.heap.objs.size [])) (t' := s.toks) (fun _ _ q => Heap.get?_push_of_some _ q) (Nat.le_refl _) ob, rfl, h _ (I.hok.fresh (Nat.le_refl _)) hne⟩⟩
theorem pan_last {dp : Pos} (hs : starEach [.Dict [] [] dp] X.env = (false, eval (.Dict [] [] dp) X.env) :: starEach [] X.env := by rfl) : PAN X cl W [.Dict [] [] dp] argN :=
  PA.imp (pa_one pe_dnewM hs) fun σ H Q ⟨F0, H0, ρ, F, ok, q⟩ => fun p h1 h2 => q [] F H (Ext.refl ok.sub) .nil p h1 h2
theorem pan_cons {r : En → R (List D)} (ha : PD X cl W e m) (hr : PAN X cl W es r) (hs : starEach (e :: es) X.env = (false, eval e X.env) :: starEach es X.env := by rfl) : PAN X cl W (e :: es) (argC m r) :=
  PA.imp (pa_cons ha hr hs) fun σ H Q ⟨F0, H0, ρ, F, ok, h⟩ => ⟨F0, H0, ρ, F, ok, (tRA.bind h).imp fun v H1 ⟨F1, x, e1, p1, h1⟩ =>
    ⟨F0, H0, ρ, F1, ok.grow e1, (tRA.bindA h1).imp fun vs H2 ⟨F2, xs, e2, p2, h2⟩ => h2 (v :: vs) F2 H2 (Ext.refl e2.sub) (.cons (p1.mono e2.le) p2)⟩⟩
/-- f(.., memo) -/
noncomputable def tK (K : PySem.W.Frag) (f : MF) (i : Nat) (ma : En → R (List D)) : TE := fun σ H Q => ∃ F0 H0 ρ F a kvs, Ok K F0 H0 ρ F σ H ∧ nth ρ i = .dk a kvs ∧ ∃ ds p, ma ρ = .ok ds ∧ f a ds kvs = .ok p ∧ ∀ v F' H', Ok K F0 H0 (dkOnly i ρ a p.2) F' σ H' → Le F F' → Rp K F' v p.1 → Q v H'
theorem pe_k (G : FnG X.prog X.w X.K X.mg X.base k f fd ps (spK X.K n g')) (hr : Rm X k) (hg : Gl X x) (hm : X.mg x = some (.ref f)) (hk : PySem.W.keepIn X.K (.ref f) = true) (hb : Binds X.K fd ps []) (hx : Passes (L2N.CX X.prog X.w) X W)
    (ha : PAK X cl W (e :: es) i ma) (hmany : Many ma n) (hdb : (x == ("__debug__" : Str)) = false := by decide) (he : starEach (e :: es) X.env = (false, eval e X.env) :: starEach es X.env := by rfl) (hpl : (backTo pos (starEach es X.env)).any (·.1) = false := by rfl) :
    PE X (.Call (.Name x p) (e :: es) [] pos) (tK X.K g' i ma) :=
  PE.imp (pe_g G hr hg hm hk hb hx ha hdb he hpl) fun σ H Q ⟨F0, H0, ρ, F, a, kvs, ok, hi, ds, p, h1, h2, h3⟩ => by
    refine ⟨F0, H0, ρ, F, ok, ?_⟩
    rw [h1]
    intro vs F1 H1 e1 r1
    obtain ⟨k1, k2, k3, k4⟩ := (ok.grow e1).dk hi
    refine ⟨.ref a, k1, by rw [List.length_append, r1.length, hmany ρ ds h1]; rfl, F1, ds, a, kvs, vs, rfl, e1.sub, r1, k3, k4, ?_⟩
    rw [h2]
    exact fun v F2 H2 e2 rv fa dk => h3 v F2 H2 ((ok.grow e1).memo hi e2 fa dk) (e1.le.trans e2.le) rv
noncomputable def setM (j i : Nat) (f : MF) (ma : En → R (List D)) : En → R Fl := fun ρ => match nth ρ i with
  | .dk a kvs => (ma ρ).calm.bind fun ds => (f a ds kvs).calm.bind fun p => .ok (.nx (setE (dkOnly i ρ a p.2) j (.da p.1)))
  | _ => .no
noncomputable def asgM (g : Tg) (i : Nat) (f : MF) (ma : En → R (List D)) : En → R Fl := fun ρ => match nth ρ i with
  | .dk a kvs => (ma ρ).calm.bind fun ds => (f a ds kvs).calm.bind fun p => (ofO (g p.1 (dkOnly i ρ a p.2))).bind fun ρ' => .ok (.nx ρ')
  | _ => .no
theorem calm_ok {α : Type} {r : R α} {β : Type} {f : α → R β} {C : R β → Prop} (h : C (r.calm.bind f)) (hno : ¬ C .no) : ∃ a, r = .ok a ∧ C (f a) := by
  cases r with
  | ok a => exact ⟨a, rfl, h⟩
  | ex c n => exact absurd h hno
  | no => exact absurd h hno
theorem st_setM {y : Str} {pos' pos2 : Pos} {c : Expr} (hN : X.N.Nodup) (hj : X.N[j]? = some y) (hx : Loc X.env.scope y) (he : PE X c (tK X.K g' i ma)) (hs : swapsWith c (some (.Name y pos')) pos2.line X.env = pure false := by rfl) (hf : X.fn y = true ∨ X.env.scope.names.lookup y = some .local := by first | exact .inl rfl | exact .inr rfl | assumption) :
    PSt X cl W (.Assign [.Name y pos'] c pos2) (setM j i g' ma) := by
  refine PS.imp (ps_set hN hj hx he hs hf) fun σ H Q ⟨F0, H0, ρ, F, ok, h⟩ => ?_
  have h : tRS cl W X.K F0 H0 F (match nth ρ i with
    | .dk a kvs => (ma ρ).calm.bind fun ds => (g' a ds kvs).calm.bind fun p => .ok (.nx (setE (dkOnly i ρ a p.2) j (.da p.1)))
    | _ => .no) Q := h
  cases hi : nth ρ i with
  | dk a kvs =>
    rw [hi] at h
    obtain ⟨ds, e1, h⟩ := calm_ok (C := fun r => tRS cl W X.K F0 H0 F r Q) h (fun z => z)
    obtain ⟨p, e2, h⟩ := calm_ok (C := fun r => tRS cl W X.K F0 H0 F r Q) h (fun z => z)
    exact ⟨F0, H0, ρ, F, a, kvs, ok, hi, ds, p, e1, e2, fun v F' H' o l rv => h _ F' H' (by rw [setE_eq]; exact o.set j rv) l⟩
  | _ => rw [hi] at h; exact h.elim
theorem st_asgM {tg c : Expr} {g : Tg} {sl : List Nat} {pos2 : Pos} (he : PE X c (tK X.K g' i ma)) (hg : PGp X tg g sl) (hs : swapsWithSole [tg] c pos2.line X.env = pure false := by rfl) (hw : swappedStores [tg] c X.env = pure none := by rfl)
    (h1 : (assignEach [tg] X.env).map (·.2) = [assign tg X.env] := by rfl) : PSt X cl W (.Assign [tg] c pos2) (asgM g i g' ma) := by
  refine PS.imp (ps_asg he hg hs hw h1) fun σ H Q ⟨F0, H0, ρ, F, ok, h⟩ => ?_
  have h : tRS cl W X.K F0 H0 F (match nth ρ i with
    | .dk a kvs => (ma ρ).calm.bind fun ds => (g' a ds kvs).calm.bind fun p => (ofO (g p.1 (dkOnly i ρ a p.2))).bind fun ρ' => .ok (.nx ρ')
    | _ => .no) Q := h
  cases hi : nth ρ i with
  | dk a kvs =>
    rw [hi] at h
    obtain ⟨ds, e1, h⟩ := calm_ok (C := fun r => tRS cl W X.K F0 H0 F r Q) h (fun z => z)
    obtain ⟨p, e2, h⟩ := calm_ok (C := fun r => tRS cl W X.K F0 H0 F r Q) h (fun z => z)
    refine ⟨F0, H0, ρ, F, a, kvs, ok, hi, ds, p, e1, e2, fun v F' H' o l rv => ⟨F0, H0, _, F', p.1, o, rv, ?_⟩⟩
    cases hr : g p.1 (dkOnly i ρ a p.2) with
    | none => rw [hr] at h; exact h.elim
    | some ρ' => rw [hr] at h; exact fun σ' o' w => h σ' F' H' o' l
  | _ => rw [hi] at h; exact h.elim
/-- the address of a memo does not matter -/
noncomputable def NatA (f : MF) : Prop := ∀ a ds kvs, f a ds kvs = f 0 ds kvs
noncomputable def newK (f : MF) (ma : En → R (List D)) : En → R D := fun ρ => (ma ρ).calm.bind fun ds => (f 0 ds []).calm.bind fun p => .ok p.1
theorem pd_newK (G : FnG X.prog X.w X.K X.mg X.base k f fd ps (spK X.K n g')) (na : NatA g') (hr : Rm X k) (hg : Gl X x) (hm : X.mg x = some (.ref f)) (hk : PySem.W.keepIn X.K (.ref f) = true) (hb : Binds X.K fd ps []) (hx : Passes (L2N.CX X.prog X.w) X W)
    (ha : PAN X cl W (e :: es) ma) (hmany : Many ma n) (hdb : (x == ("__debug__" : Str)) = false := by decide) (he : starEach (e :: es) X.env = (false, eval e X.env) :: starEach es X.env := by rfl) (hpl : (backTo pos (starEach es X.env)).any (·.1) = false := by rfl) :
    PD X cl W (.Call (.Name x p) (e :: es) [] pos) (newK g' ma) :=
  PE.imp (pe_g G hr hg hm hk hb hx ha hdb he hpl) fun σ H Q ⟨F0, H0, ρ, F, ok, h⟩ => by
    obtain ⟨ds, e1, h⟩ := calm_ok (C := fun r => tR cl W (poD X.K) r F H Q) h (fun z => z)
    obtain ⟨pr, e2, h⟩ := calm_ok (C := fun r => tR cl W (poD X.K) r F H Q) h (fun z => z)
    refine ⟨F0, H0, ρ, F, ok, ?_⟩
    rw [e1]
    intro vs F1 H1 x1 r1 q np ns
    have fq : F1 q = none := x1.sub.none np
    refine ⟨by rw [List.length_append, r1.length, hmany ρ ds e1]; rfl, F1, ds, q, [], vs, rfl, x1.sub.upd fq, r1, fq, ⟨ns, [], upd_same, .nil, List.nodup_nil⟩, ?_⟩
    rw [na q ds [], e2]
    refine fun v F2 H2 x2 rv fa dk => h v F2 H2 ⟨x1.le.trans x2.le, x2.sub, fun c o z => x2.keep c o ?_, fun c o z => ?_⟩ rv
    · have z1 := x1.keep c o z
      have n : c ≠ q := fun y => by rw [y, np] at z1; cases z1
      rw [less_ne n, upd_ne n]; exact z1
    · rcases x2.new c o z with y | y
      · exact x1.new c o y
      · refine .inr ?_
        by_cases n : c = q
        · rw [n]; exact x1.keep.none np
        · rw [less_ne n, upd_ne n] at y; exact x1.keep.none y
end
end Mir
/-! A mirror's run is the same, whatever the memo's address is. -/
namespace Mir
open PySem PySem.Spec PyProof.Rows L2
noncomputable def rnS (b : Addr) : Sl → Sl
  | .dk _ k => .dk b k
  | s => s
noncomputable def rnE (b : Addr) (ρ : En) : En := ρ.map (rnS b)
noncomputable def rnF (b : Addr) : Fl → Fl
  | .nx ρ => .nx (rnE b ρ)
  | .bk ρ => .bk (rnE b ρ)
  | .ct ρ => .ct (rnE b ρ)
  | .rk d _ k => .rk d b k
  | f => f
noncomputable def rnR (b : Addr) (r : R Fl) : R Fl := r.bind fun f => .ok (rnF b f)
class NatD {α : Type} (m : En → R α) : Prop where
  h : ∀ b ρ, m (rnE b ρ) = m ρ
class NatF (m : En → R Fl) : Prop where
  h : ∀ b ρ, m (rnE b ρ) = rnR b (m ρ)
class NatG (g : Tg) : Prop where
  h : ∀ b d ρ, g d (rnE b ρ) = (g d ρ).map (rnE b)
class NatGs (g : Tgs) : Prop where
  h : ∀ b d ρ, g d (rnE b ρ) = (g d ρ).map (rnE b)
class NatM (f : MF) : Prop where
  h : ∀ a b ds kvs, f a ds kvs = f b ds kvs
section
variable {b : Addr} {ρ : En} {i : Nat}
theorem nth_rn : nth (rnE b ρ) i = rnS b (nth ρ i) := by
  rw [nth_eq, nth_eq]
  unfold rnE
  rw [List.getElem?_map]
  cases ρ[i]? <;> rfl
theorem set_rn {s : Sl} (h : rnS b s = s) : setE (rnE b ρ) i s = rnE b (setE ρ i s) := by
  rw [setE_eq, setE_eq]
  unfold rnE
  rw [List.map_set, h]
theorem wipe_rn : ∀ vs : List Nat, wipeE (rnE b ρ) vs = rnE b (wipeE ρ vs)
  | [] => rfl
  | v :: vs => by
    show setE (wipeE (rnE b ρ) vs) v .un = _
    rw [wipe_rn vs, set_rn rfl]
    rfl
theorem dkOnly_rn {a : Addr} {kvs : List (D × D)} : dkOnly i (rnE b ρ) b kvs = rnE b (dkOnly i ρ a kvs) := by
  unfold dkOnly rnE
  rw [List.map_set, List.map_map, List.map_map]
  congr 1
  refine List.map_congr_left fun s _ => ?_
  cases s <;> rfl
end
section
variable {α β γ : Type} {ma : En → R α} {mb : En → R β} {mc : En → R γ} {m m' : En → R D} {ml ml' : En → R (List D)} {c c' : En → R Bool} {s1 s2 : En → R Fl} {g : Tg} {gs : Tgs} {i j : Nat}
instance : NatD (getd i) := ⟨fun b ρ => by unfold getd; rw [nth_rn]; cases nth ρ i <;> rfl⟩
instance : NatD (getc i) := ⟨fun b ρ => by unfold getc; rw [nth_rn]; cases nth ρ i <;> rfl⟩
instance : NatD (gets i) := ⟨fun b ρ => by unfold gets; rw [nth_rn]; cases nth ρ i <;> rfl⟩
instance {d : D} : NatD (cst d) := ⟨fun b ρ => rfl⟩
instance [NatD ma] [NatD mb] {f : α → β → Option γ} : NatD (bin2 f ma mb) := ⟨fun b ρ => by unfold bin2; rw [NatD.h (m := ma) b ρ, NatD.h (m := mb) b ρ]⟩
instance [NatD ma] {f : α → Option γ} : NatD (un1 f ma) := ⟨fun b ρ => by unfold un1; rw [NatD.h (m := ma) b ρ]⟩
instance [NatD ma] [NatD mb] [NatD mc] {f : α → β → Option Bool} {g : β → γ → Option Bool} : NatD (chain f g ma mb mc) := ⟨fun b ρ => by unfold chain; rw [NatD.h (m := ma) b ρ, NatD.h (m := mb) b ρ, NatD.h (m := mc) b ρ]⟩
instance [NatD c] [NatD c'] : NatD (andB c c') := ⟨fun b ρ => by unfold andB; rw [NatD.h (m := c) b ρ, NatD.h (m := c') b ρ]⟩
instance [NatD c] [NatD c'] : NatD (orB c c') := ⟨fun b ρ => by unfold orB; rw [NatD.h (m := c) b ρ, NatD.h (m := c') b ρ]⟩
instance [NatD c] : NatD (notB c) := ⟨fun b ρ => by unfold notB; rw [NatD.h (m := c) b ρ]⟩
instance [NatD m] [NatD m'] : NatD (orV m m') := ⟨fun b ρ => by unfold orV; rw [NatD.h (m := m) b ρ, NatD.h (m := m') b ρ]⟩
instance [NatD m] [NatD m'] : NatD (andV m m') := ⟨fun b ρ => by unfold andV; rw [NatD.h (m := m) b ρ, NatD.h (m := m') b ρ]⟩
instance [NatD m] : NatD (notV m) := ⟨fun b ρ => by unfold notV; rw [NatD.h (m := m) b ρ]⟩
instance {mx my : En → R α} [NatD c] [NatD mx] [NatD my] : NatD (ifV c mx my) := ⟨fun b ρ => by unfold ifV; rw [NatD.h (m := c) b ρ, NatD.h (m := mx) b ρ, NatD.h (m := my) b ρ]⟩
instance : NatD argN := ⟨fun b ρ => rfl⟩
instance : NatD yesB := ⟨fun b ρ => rfl⟩
instance [NatD m] [NatD ml] : NatD (argC m ml) := ⟨fun b ρ => by unfold argC; rw [NatD.h (m := m) b ρ, NatD.h (m := ml) b ρ]⟩
instance [NatD ml] [NatD ml'] : NatD (argS ml ml') := ⟨fun b ρ => by unfold argS; rw [NatD.h (m := ml) b ρ, NatD.h (m := ml') b ρ]⟩
instance [NatD ml] : NatD (tupD ml) := ⟨fun b ρ => by unfold tupD; rw [NatD.h (m := ml) b ρ]⟩
instance [NatD ml] : NatD (lstF ml) := ⟨fun b ρ => by unfold lstF; rw [NatD.h (m := ml) b ρ]⟩
instance [NatD ml] : NatD (tL ml) := ⟨fun b ρ => by unfold tL; rw [NatD.h (m := ml) b ρ]⟩
instance [NatD m] : NatD (asL m) := ⟨fun b ρ => by unfold asL; rw [NatD.h (m := m) b ρ]⟩
instance [NatD m] : NatD (itD m) := ⟨fun b ρ => by unfold itD; rw [NatD.h (m := m) b ρ]⟩
instance [NatD c] : NatD (bD c) := ⟨fun b ρ => by unfold bD; rw [NatD.h (m := c) b ρ]⟩
instance [NatD ml] : NatD (lenL ml) := ⟨fun b ρ => by unfold lenL; rw [NatD.h (m := ml) b ρ]⟩
instance [NatD m] : NatD (rng1 m) := ⟨fun b ρ => by unfold rng1; rw [NatD.h (m := m) b ρ]⟩
instance [NatD m] [NatD m'] : NatD (rng2 m m') := ⟨fun b ρ => by unfold rng2; rw [NatD.h (m := m) b ρ, NatD.h (m := m') b ρ]⟩
instance {f : List D → R α} [NatD ml] : NatD (appM f ml) := ⟨fun b ρ => by unfold appM; rw [NatD.h (m := ml) b ρ]⟩
instance [NatD ml] [NatD m] : NatD (cutLo ml m) := ⟨fun b ρ => by unfold cutLo; rw [NatD.h (m := m) b ρ, NatD.h (m := ml) b ρ]⟩
instance [NatD ml] [NatD m] : NatD (cutHi ml m) := ⟨fun b ρ => by unfold cutHi; rw [NatD.h (m := m) b ρ, NatD.h (m := ml) b ρ]⟩
instance [NatD ml] [NatD m] [NatD m'] : NatD (cutBo ml m m') := ⟨fun b ρ => by unfold cutBo; rw [NatD.h (m := m) b ρ, NatD.h (m := m') b ρ, NatD.h (m := ml) b ρ]⟩
instance [NatD ml] [NatD m] : NatD (repF ml m) := ⟨fun b ρ => by unfold repF; rw [NatD.h (m := m) b ρ, NatD.h (m := ml) b ρ]⟩
instance [NatD ml] : NatD (enS ml) := ⟨fun b ρ => by unfold enS; rw [NatD.h (m := ml) b ρ]⟩
instance [NatD ml] [NatD ml'] : NatD (ziS ml ml') := ⟨fun b ρ => by unfold ziS; rw [NatD.h (m := ml) b ρ, NatD.h (m := ml') b ρ]⟩
instance : NatG (gN i) := ⟨fun b d ρ => by unfold gN; rw [set_rn rfl]; rfl⟩
instance : NatGs gsN := ⟨fun b d ρ => by unfold gsN; cases d <;> rfl⟩
instance [NatG g] [NatGs gs] : NatGs (gsC g gs) := ⟨fun b d ρ => by
  cases d with
  | nil => rfl
  | cons x xs =>
    show (g x (rnE b ρ)).bind _ = ((g x ρ).bind _).map _
    rw [NatG.h (g := g) b x ρ]
    cases g x ρ with
    | none => rfl
    | some ρ1 => exact NatGs.h b xs ρ1⟩
instance [NatGs gs] : NatG (gT gs) := ⟨fun b d ρ => by
  cases d <;> first | rfl | exact NatGs.h b _ ρ⟩
theorem lcL_rn [NatG g] [NatD c] [NatD m] (b : Addr) (ρ : En) : ∀ xs : List D, lcL g c m (rnE b ρ) xs = lcL g c m ρ xs
  | [] => rfl
  | x :: xs => by
    rw [lcL_cons, lcL_cons, NatG.h (g := g) b x ρ, lcL_rn b ρ xs]
    cases g x ρ with
    | none => rfl
    | some ρ1 =>
      show (c (rnE b ρ1)).bind _ = (c ρ1).bind _
      rw [NatD.h (m := c) b ρ1]
      congr 1
      funext k
      rw [NatD.h (m := m) b ρ1]
instance [NatG g] [NatD ml] [NatD c] [NatD m] {vs : List Nat} : NatD (lcF g ml c m vs) := ⟨fun b ρ => by unfold lcF; rw [NatD.h (m := ml) b ρ]; congr 1; funext xs; rw [wipe_rn, lcL_rn]⟩
instance {neg : Bool} [NatD m] : NatD (inM neg i m) := ⟨fun b ρ => by unfold inM; rw [NatD.h (m := m) b ρ, nth_rn]; cases nth ρ i <;> rfl⟩
instance [NatD m] : NatD (getM i m) := ⟨fun b ρ => by unfold getM; rw [NatD.h (m := m) b ρ, nth_rn]; cases nth ρ i <;> rfl⟩
instance {f : MF} [NatD ml] : NatD (newK f ml) := ⟨fun b ρ => by unfold newK; rw [NatD.h (m := ml) b ρ]⟩
/-! statements -/
instance [NatF s1] [NatF s2] : NatF (seqS s1 s2) := ⟨fun b ρ => by
  unfold seqS
  rw [NatF.h (m := s1) b ρ]
  cases s1 ρ with
  | no => rfl
  | ex c n => rfl
  | ok f => cases f <;> first | rfl | exact NatF.h b _⟩
instance : NatF nxS := ⟨fun b ρ => rfl⟩
instance : NatF noS := ⟨fun b ρ => rfl⟩
instance : NatF (fun ρ => R.ok (Fl.bk ρ)) := ⟨fun b ρ => rfl⟩
instance : NatF (fun ρ => R.ok (Fl.ct ρ)) := ⟨fun b ρ => rfl⟩
instance [NatD m] : NatF (setS i m) := ⟨fun b ρ => by unfold setS; rw [NatD.h (m := m) b ρ]; cases m ρ <;> first | rfl | (show R.ok (Fl.nx _) = _; rw [set_rn rfl]; rfl)⟩
instance [NatD ml] : NatF (setC i ml) := ⟨fun b ρ => by unfold setC; rw [NatD.h (m := ml) b ρ]; cases ml ρ <;> first | rfl | (show R.ok (Fl.nx _) = _; rw [set_rn rfl]; rfl)⟩
instance [NatD m] [NatD m'] : NatF (parS i j m m') := ⟨fun b ρ => by
  unfold parS
  rw [NatD.h (m := m) b ρ, NatD.h (m := m') b ρ]
  cases m ρ with
  | no => rfl
  | ex c n => rfl
  | ok d =>
    show (m' ρ).bind _ = rnR b ((m' ρ).bind _)
    cases m' ρ with
    | no => rfl
    | ex c n => rfl
    | ok e =>
      show R.ok (Fl.nx _) = _
      rw [set_rn rfl, set_rn rfl]
      rfl⟩
instance [NatD ma] : NatF (dropS ma) := ⟨fun b ρ => by unfold dropS; rw [NatD.h (m := ma) b ρ]; cases ma ρ <;> rfl⟩
instance [NatD m] : NatF (retS m) := ⟨fun b ρ => by unfold retS; rw [NatD.h (m := m) b ρ]; cases m ρ <;> rfl⟩
instance [NatD ml] : NatF (retF ml) := ⟨fun b ρ => by unfold retF; rw [NatD.h (m := ml) b ρ]; cases ml ρ <;> rfl⟩
instance : NatF (retC i) := ⟨fun b ρ => by unfold retC; rw [NatD.h (m := getc i) b ρ]; cases getc i ρ <;> rfl⟩
instance : NatF retN := ⟨fun b ρ => rfl⟩
instance [NatD c] [NatF s1] [NatF s2] : NatF (ifS c s1 s2) := ⟨fun b ρ => by
  unfold ifS
  rw [NatD.h (m := c) b ρ]
  cases c ρ with
  | no => rfl
  | ex c n => rfl
  | ok k => cases k with
    | true => exact NatF.h b ρ
    | false => exact NatF.h b ρ⟩
instance [NatG g] [NatD m] : NatF (asgS g m) := ⟨fun b ρ => by
  unfold asgS
  rw [NatD.h (m := m) b ρ]
  cases m ρ with
  | no => rfl
  | ex c n => rfl
  | ok d =>
    show (ofO (g d (rnE b ρ))).bind _ = rnR b ((ofO (g d ρ)).bind _)
    rw [NatG.h (g := g) b d ρ]
    cases g d ρ <;> rfl⟩
theorem forL_rn [NatG g] [NatF s1] (b : Addr) : ∀ (xs : List D) (ρ : En), forL g s1 xs (rnE b ρ) = rnR b (forL g s1 xs ρ)
  | [], ρ => rfl
  | x :: xs, ρ => by
    rw [forL_cons, forL_cons, NatG.h (g := g) b x ρ]
    cases g x ρ with
    | none => rfl
    | some ρ1 =>
      show (s1 (rnE b ρ1)).bind _ = rnR b ((s1 ρ1).bind _)
      rw [NatF.h (m := s1) b ρ1]
      cases s1 ρ1 with
      | no => rfl
      | ex c n => rfl
      | ok f => cases f <;> first | rfl | exact forL_rn b xs _
instance [NatG g] [NatD ml] [NatF s1] : NatF (forS g ml s1) := ⟨fun b ρ => by
  unfold forS
  rw [NatD.h (m := ml) b ρ]
  cases ml ρ with
  | no => rfl
  | ex c n => rfl
  | ok xs => exact forL_rn b xs ρ⟩
instance [NatD m] : NatF (appS i m) := ⟨fun b ρ => by
  unfold appS
  rw [NatD.h (m := m) b ρ, nth_rn]
  cases nth ρ i <;> first | rfl | skip
  show (m ρ).bind _ = rnR b ((m ρ).bind _)
  cases m ρ with
  | no => rfl
  | ex c n => rfl
  | ok d =>
    show (if _ then _ else _) = rnR b (if _ then _ else _)
    split
    · rw [set_rn rfl]; rfl
    · rfl⟩
instance [NatD ml] : NatF (extS i ml) := ⟨fun b ρ => by
  unfold extS
  rw [NatD.h (m := ml) b ρ, nth_rn]
  cases nth ρ i <;> first | rfl | skip
  show (ml ρ).bind _ = rnR b ((ml ρ).bind _)
  cases ml ρ with
  | no => rfl
  | ex c n => rfl
  | ok d =>
    show (if _ then _ else _) = rnR b (if _ then _ else _)
    split
    · rw [set_rn rfl]; rfl
    · rfl⟩
theorem frz_rn {b : Addr} {ρ : En} : frzE i (rnE b ρ) = rnE b (frzE i ρ) := by
  unfold frzE
  rw [nth_rn]
  cases nth ρ i <;> first | rfl | (show setE (rnE b ρ) _ _ = _; rw [set_rn rfl])
instance [NatF s1] : NatF (frzS i s1) := ⟨fun b ρ => by unfold frzS; rw [frz_rn]; exact NatF.h b _⟩
instance [NatD m] : NatF (retM i m) := ⟨fun b ρ => by
  unfold retM
  rw [NatD.h (m := m) b ρ, nth_rn]
  cases nth ρ i <;> first | rfl | (show (m ρ).bind _ = rnR b ((m ρ).bind _); cases m ρ <;> rfl)⟩
instance [NatD m] [NatD m'] : NatF (putM i m m') := ⟨fun b ρ => by
  unfold putM
  rw [NatD.h (m := m) b ρ, NatD.h (m := m') b ρ, nth_rn]
  cases nth ρ i <;> first | rfl | skip
  show (m' ρ).bind _ = rnR b ((m' ρ).bind _)
  cases m' ρ with
  | no => rfl
  | ex c n => rfl
  | ok r =>
    show (m ρ).bind _ = rnR b ((m ρ).bind _)
    cases m ρ with
    | no => rfl
    | ex c n => rfl
    | ok d =>
      show (if _ then _ else _) = rnR b (if _ then _ else _)
      split
      · show R.ok (Fl.nx (dkOnly i (rnE b ρ) b _)) = _
        rw [dkOnly_rn]; rfl
      · rfl⟩
instance {f : MF} [NatM f] [NatD ml] : NatF (setM j i f ml) := ⟨fun b ρ => by
  unfold setM
  rw [NatD.h (m := ml) b ρ, nth_rn]
  cases hx : nth ρ i <;> first | rfl | skip
  rename_i a kvs
  show (ml ρ).calm.bind _ = rnR b ((ml ρ).calm.bind _)
  cases ml ρ with
  | no => rfl
  | ex c n => rfl
  | ok ds =>
    show (f b ds kvs).calm.bind _ = rnR b ((f a ds kvs).calm.bind _)
    rw [NatM.h (f := f) b a]
    cases f a ds kvs with
    | no => rfl
    | ex c n => rfl
    | ok p =>
      show R.ok (Fl.nx (setE (dkOnly i (rnE b ρ) b _) _ _)) = _
      rw [dkOnly_rn, set_rn rfl]; rfl⟩
instance {f : MF} [NatG g] [NatM f] [NatD ml] : NatF (asgM g i f ml) := ⟨fun b ρ => by
  unfold asgM
  rw [NatD.h (m := ml) b ρ, nth_rn]
  cases hx : nth ρ i <;> first | rfl | skip
  rename_i a kvs
  show (ml ρ).calm.bind _ = rnR b ((ml ρ).calm.bind _)
  cases ml ρ with
  | no => rfl
  | ex c n => rfl
  | ok ds =>
    show (f b ds kvs).calm.bind _ = rnR b ((f a ds kvs).calm.bind _)
    rw [NatM.h (f := f) b a]
    cases f a ds kvs with
    | no => rfl
    | ex c n => rfl
    | ok p =>
      show (ofO (g p.1 (dkOnly i (rnE b ρ) b _))).bind _ = rnR b ((ofO (g p.1 (dkOnly i ρ a _))).bind _)
      rw [dkOnly_rn (a := a), NatG.h (g := g) b]
      cases g p.1 (dkOnly i ρ a p.2) <;> rfl⟩
end
theorem enterK_rn {m : Nat} {ds : List D} {a b : Addr} {kvs : List (D × D)} : rnE b (enterK m ds a kvs) = enterK m ds b kvs := by
  unfold enterK rnE
  rw [List.map_append, List.map_map, List.map_cons, List.map_replicate]
  rfl
instance natM_fnK {m : Nat} {s : En → R Fl} [NatF s] : NatM (fnK m s) := ⟨fun a b ds kvs => by
  unfold fnK
  have e1 : s (enterK m ds a kvs) = rnR a (s (enterK m ds b kvs)) := by rw [← enterK_rn (a := b), NatF.h (m := s)]
  have e2 : s (enterK m ds b kvs) = rnR b (s (enterK m ds b kvs)) := by
    have := NatF.h (m := s) b (enterK m ds b kvs)
    rw [enterK_rn] at this
    exact this
  rw [e1]
  cases z : s (enterK m ds b kvs) with
  | no => rfl
  | ex c n => rfl
  | ok f =>
    cases f <;> first | rfl | skip
    rename_i d c k
    rw [z] at e2
    have e2 : R.ok (Fl.rk d c k) = R.ok (Fl.rk d b k) := e2
    injection e2 with e2
    injection e2 with _ e3 _
    subst e3
    show (if Nat.beq a a = true then _ else _) = (if Nat.beq c c = true then _ else _)
    rw [if_pos (Nat.beq_refl a), if_pos (Nat.beq_refl c)]⟩
instance natM_no : NatM (fun _ _ _ => .no) := ⟨fun _ _ _ _ => rfl⟩
theorem natA_of {f : MF} [NatM f] : NatA f := fun a ds kvs => NatM.h a 0 ds kvs
end Mir
/-! Slices of tuples, tuple + tuple, tuple(range(..)). -/
namespace Mir
open PySem PySem.Spec PyProof.Rows L2
section
variable {X : Cx} {cl : String → Addr} {W : XK} {e a b : Expr} {p2 pos : Pos} {m ma mb : En → R D}
noncomputable def asTup : D → R (List D)
  | .tuple xs => .ok xs
  | _ => .no
theorem cut_whole {xs : List D} {lo hi : Option Int} (h : HT.sIx xs.length 0 lo = 0 ∧ HT.sIx xs.length xs.length hi = xs.length) : cutL xs lo hi = xs := by
  unfold cutL
  rw [h.1, h.2]
  simp
theorem sl_endT {K : PySem.W.Frag} {F1 F2 H2 : Hp} {c : Addr} {xs : List D} {lo hi : Option Int} {Q : VK} (le : Le F2 H2) (r : Rp K F1 (.ref c) (.tuple xs)) (f : Le F1 F2)
    (h : tR cl W (poD K) (.ok (.tuple (cutL xs lo hi))) F2 H2 Q) : rSlA K (.ref c) lo hi H2 Q := by
  obtain ⟨c', vs, e, s, q⟩ := Rp.inv_tup r
  cases e
  refine ⟨c, vs, rfl, (f.trans le).sqt s, fun w => ?_, fun _ p np => ?_⟩
  · rw [q.length] at w
    refine h _ F2 H2 (Ext.refl le) ?_
    rw [cut_whole w]
    exact r.mono f
  · have fp := le.none np
    exact h _ (upd F2 p (.tup (cutV vs lo hi))) _ ((Ext.grow le (o := .tup (cutV vs lo hi)) np).freeze np upd_same fp) (.tup (.inl (.inl upd_same)) ((cut_rp (q.mono f) lo hi).mono ((Le.refl F2).upd fp)))
noncomputable def cutTLo (m a : En → R D) : En → R D := fun ρ => (m ρ).bind fun d => (asTup d).bind fun xs => ((a ρ).bind asI).bind fun i => .ok (.tuple (cutL xs (some i) none))
noncomputable def cutTHi (m b : En → R D) : En → R D := fun ρ => (m ρ).bind fun d => (asTup d).bind fun xs => ((b ρ).bind asI).bind fun j => .ok (.tuple (cutL xs none (some j)))
theorem pd_cutTLo (he : PD X cl W e m) (ha : PD X cl W a ma) : PD X cl W (.Subscript e (.Slice (some a) none none p2) pos) (cutTLo m ma) := by
  refine PE.imp (pe_slice sl_tupA he (po_some ha) po_none) fun σ H Q ⟨F0, H0, ρ, F, ok, h⟩ => ?_
  refine ⟨F0, H0, ρ, F, ok, (tR.bind anti_D h).imp fun v H1 ⟨F1, d, e1, p1, h1⟩ => ?_⟩
  cases d with
  | tuple xs =>
    obtain ⟨c, vs, rfl, s1, r1⟩ := Rp.inv_tup p1
    have h1 : tR cl W (poD X.K) (((ma ρ).bind asI).bind fun i => .ok (.tuple (cutL xs (some i) none))) F1 H1 Q := h1
    rw [R.bind_assoc] at h1
    refine ⟨F0, H0, ρ, F1, ok.grow e1, (tR.bind anti_D h1).imp fun u H2 ⟨F2, d, e2, p2, h2⟩ => ?_⟩
    cases d with
    | int i => exact ⟨i, p2.inv_int, sl_endT e2.sub p1 e2.le h2⟩
    | _ => exact False.elim h2
  | _ => exact False.elim h1
theorem pd_cutTHi (he : PD X cl W e m) (hb : PD X cl W b mb) : PD X cl W (.Subscript e (.Slice none (some b) none p2) pos) (cutTHi m mb) := by
  refine PE.imp (pe_slice sl_tupA he po_none (po_some hb)) fun σ H Q ⟨F0, H0, ρ, F, ok, h⟩ => ?_
  refine ⟨F0, H0, ρ, F, ok, (tR.bind anti_D h).imp fun v H1 ⟨F1, d, e1, p1, h1⟩ => ?_⟩
  cases d with
  | tuple xs =>
    obtain ⟨c, vs, rfl, s1, r1⟩ := Rp.inv_tup p1
    have h1 : tR cl W (poD X.K) (((mb ρ).bind asI).bind fun i => .ok (.tuple (cutL xs none (some i)))) F1 H1 Q := h1
    rw [R.bind_assoc] at h1
    refine ⟨F0, H0, ρ, F1, ok.grow e1, (tR.bind anti_D h1).imp fun u H2 ⟨F2, d, e2, p2, h2⟩ => ?_⟩
    cases d with
    | int i => exact ⟨i, p2.inv_int, sl_endT e2.sub p1 e2.le h2⟩
    | _ => exact False.elim h2
  | _ => exact False.elim h1
/-- tuple + tuple -/
noncomputable def catT : D → D → Option D
  | .tuple xs, .tuple ys => if xs.length + ys.length ≤ sizeLine then some (.tuple (xs ++ ys)) else none
  | _, _ => none
theorem s_catT {K : PySem.W.Frag} : OpS K (rCatA K) catT := by
  intro d e r h F H x y Q le rx ry q
  cases d with
  | tuple xs =>
    cases e with
    | tuple ys =>
      simp only [catT] at h
      split at h
      · rename_i hz
        have h := Option.some.inj h
        subst h
        obtain ⟨a, vs, rfl, s1, r1⟩ := Rp.inv_tup rx
        obtain ⟨b, ws, rfl, s2, r2⟩ := Rp.inv_tup ry
        refine ⟨a, b, vs, ws, rfl, rfl, le.sqt s1, le.sqt s2, by rw [r1.length, r2.length]; exact hz, fun h0 => ?_, fun _ h0 => ?_, fun _ _ p np => ?_⟩
        · subst h0
          cases r1
          exact q _ F H (Ext.refl le) ry
        · subst h0
          cases r2
          rw [List.append_nil] at q
          exact q _ F H (Ext.refl le) rx
        · have fp := le.none np
          exact q _ (upd F p (.tup (vs ++ ws))) _ ((Ext.grow le (o := .tup (vs ++ ws)) np).freeze np upd_same fp) (.tup (.inl (.inl upd_same)) ((r1.append r2).mono ((Le.refl F).upd fp)))
      · cases h
    | _ => cases h
  | _ => cases h
/-- tuple(range(a, b)) -/
theorem rpa_rg {K : PySem.W.Frag} {F : Hp} (i j : Int) : RpA K F (rgV i j) (rng i j) := by
  unfold rgV rng
  have : ∀ l : List Nat, RpA K F (l.map fun (k : Nat) => V.int (i + (k : Int))) (l.map fun (k : Nat) => PyData.int (i + (k : Int))) := by
    intro l
    induction l with
    | nil => exact .nil
    | cons x xs ih => exact .cons (.int _) ih
  exact this _
noncomputable def rgOk (i j : Int) : Bool := decide (-(2 ^ 62) ≤ i ∧ i < 2 ^ 62 ∧ -(2 ^ 62) ≤ j ∧ j < 2 ^ 62 ∧ (j - i).toNat ≤ 2 ^ 24)
noncomputable def trgK : D → D → Option D
  | .int i, .int j => if rgOk i j = true then some (.tuple (rng i j)) else none
  | _, _ => none
theorem pd_tupR2 {p q pq : Pos} (hc : X.calm = true) (hg : Gl X "tuple") (hm : X.mg "tuple" = none) (hg2 : Gl X "range") (hm2 : X.mg "range" = none) (ha : PD X cl W a ma) (hb : PD X cl W b mb)
    (na : starEach [.Call (.Name "range" q) [a, b] [] pq] X.env = (false, eval (.Call (.Name "range" q) [a, b] [] pq) X.env) :: starEach [] X.env := by rfl) (na1 : starEach [a, b] X.env = (false, eval a X.env) :: starEach [b] X.env := by rfl)
    (nb : starEach [b] X.env = (false, eval b X.env) :: starEach [] X.env := by rfl) (hp : (backTo pq (starEach [b] X.env)).any (·.1) = false := by rfl) :
    PD X cl W (.Call (.Name "tuple" p) [.Call (.Name "range" q) [a, b] [] pq] [] pos) (bin2 trgK ma mb) := by
  refine PE.imp (pe_tupRg hc hg hm (prg_2 hg2 hm2 ha hb na1 nb hp) na) fun σ H Q ⟨F0, H0, ρ, F, ok, h⟩ => ?_
  refine ⟨F0, H0, ρ, F, ok, (tR.bind anti_D h).imp fun v H1 ⟨F1, x, e1, p1, h1⟩ => ?_⟩
  refine ⟨F0, H0, ρ, F1, ok.grow e1, (tR.bind anti_D h1).imp fun u H2 ⟨F2, y, e2, p2, h2⟩ => ?_⟩
  cases x with
  | int i =>
    cases y with
    | int j =>
      have h2 : tR cl W (poD X.K) (ofO (if rgOk i j = true then some (.tuple (rng i j)) else none)) F2 H2 Q := h2
      split at h2
      · rename_i hz
        refine ⟨i, j, p1.inv_int, p2.inv_int, by unfold RgOk; exact of_decide_eq_true hz, fun c nc => ?_⟩
        have fc := e2.sub.none nc
        exact h2 _ (upd F2 c (.tup (rgV i j))) _ ((Ext.grow e2.sub (o := .tup (rgV i j)) nc).freeze nc upd_same fc) (.tup (.inl (.inl upd_same)) (rpa_rg i j))
      · exact h2.elim
    | _ => exact False.elim h2
  | _ => cases y <;> exact False.elim h2
theorem pd_tupR1 {p q pq : Pos} (hc : X.calm = true) (hg : Gl X "tuple") (hm : X.mg "tuple" = none) (hg2 : Gl X "range") (hm2 : X.mg "range" = none) (ha : PD X cl W a ma)
    (na : starEach [.Call (.Name "range" q) [a] [] pq] X.env = (false, eval (.Call (.Name "range" q) [a] [] pq) X.env) :: starEach [] X.env := by rfl) (na1 : starEach [a] X.env = (false, eval a X.env) :: starEach [] X.env := by rfl) :
    PD X cl W (.Call (.Name "tuple" p) [.Call (.Name "range" q) [a] [] pq] [] pos) (un1 (trgK (.int 0)) ma) := by
  refine PE.imp (pe_tupRg hc hg hm (prg_1 hg2 hm2 ha na1) na) fun σ H Q ⟨F0, H0, ρ, F, ok, h⟩ => ?_
  refine ⟨F0, H0, ρ, F, ok, (tR.bind anti_D h).imp fun v H1 ⟨F1, x, e1, p1, h1⟩ => ?_⟩
  cases x with
  | int j =>
    have h1 : tR cl W (poD X.K) (ofO (if rgOk 0 j = true then some (.tuple (rng 0 j)) else none)) F1 H1 Q := h1
    split at h1
    · rename_i hz
      refine ⟨j, p1.inv_int, by unfold RgOk; exact of_decide_eq_true hz, fun c nc => ?_⟩
      have fc := e1.sub.none nc
      exact h1 _ (upd F1 c (.tup (rgV 0 j))) _ ((Ext.grow e1.sub (o := .tup (rgV 0 j)) nc).freeze nc upd_same fc) (.tup (.inl (.inl upd_same)) (rpa_rg 0 j))
    · exact h1.elim
  | _ => exact False.elim h1
instance [NatD m] [NatD ma] : NatD (cutTLo m ma) := ⟨fun b ρ => by unfold cutTLo; rw [NatD.h (m := ma) b ρ, NatD.h (m := m) b ρ]⟩
instance [NatD m] [NatD ma] : NatD (cutTHi m ma) := ⟨fun b ρ => by unfold cutTHi; rw [NatD.h (m := ma) b ρ, NatD.h (m := m) b ρ]⟩
end
/-! ### the signs of a text; one sign in a text -/
section
variable {X : Cx} {cl : String → Addr} {W : XK} {e tg : Expr} {m : En → R D}
noncomputable def chS : D → R (List D)
  | .str x => .ok (x.cps.toList.map fun c => .str ⟨#[c]⟩)
  | _ => .no
noncomputable def chM (m : En → R D) : En → R (List D) := fun ρ => (m ρ).bind chS
theorem walk_str {K : PySem.W.Frag} {z : Str} {F1 G : Hp} : Walk K (Its z) F1 G (z.cps.toList.map fun c => .str ⟨#[c]⟩) where
  go := fun i F' H' l1 l2 l3 d hd => by
    rw [List.getElem?_map, Array.getElem?_toList] at hd
    cases hc : z.cps[i]? with
    | none => rw [hc] at hd; cases hd
    | some c =>
      rw [hc] at hd
      cases hd
      refine ⟨(Array.getElem?_eq_some_iff.mp hc).1, fun x H'' y => ?_⟩
      obtain ⟨rfl, c', h1, rfl⟩ := y
      rw [hc] at h1
      cases h1
      exact ⟨F', Ext.refl l2, .str _⟩
  stop := fun i F' H' l1 l2 l3 hl => by
    rw [List.length_map, Array.length_toList] at hl
    exact hl
theorem sr_s (h : PD X cl W e m) : PSr X cl W false tg e (chM m) := by
  refine PI.imp (pi_str h) fun σ H Rr ⟨F0, H0, ρ, F, ok, q⟩ => ⟨F0, H0, ρ, F, ok, ?_⟩
  refine tRI.bind q fun v F1 H1 d e1 p1 q1 => ?_
  cases d with
  | str x =>
    obtain rfl := Rp.inv_str p1
    exact ⟨x, rfl, q1 _ F1 H1 (Ext.refl e1.sub) walk_str⟩
  | _ => exact False.elim q1
theorem sw_s (h : PD X cl W e m) : PSr X cl W true tg e (chM m) := (sr_s h).weak
noncomputable def memN (c : Nat) : List Nat → Bool
  | [] => false
  | x :: xs => Nat.beq c x || memN c xs
theorem memN_eq (c : Nat) : ∀ xs : List Nat, memN c xs = decide (c ∈ xs)
  | [] => by simp [memN]
  | x :: xs => by
    unfold memN
    rw [memN_eq c xs]
    by_cases h : c = x
    · subst h; simp
    · have : Nat.beq c x = false := by
        cases z : Nat.beq c x with
        | false => rfl
        | true => exact absurd (Nat.eq_of_beq_eq_true z) h
      rw [this]
      simp [h]
noncomputable def inSg : D → D → Option Bool
  | .str x, .str y => match x.cps.toList with
    | [c] => some (memN c y.cps.toList)
    | _ => none
  | _, _ => none
noncomputable def notInSg (a b : D) : Option Bool := (inSg a b).map (!·)
noncomputable def rSg (neg : Bool) : R2 := fun x y H Q => ∃ (c : Nat) (z : Str), x = .str ⟨#[c]⟩ ∧ y = .str z ∧ Q (.bl (decide (c ∈ z.cps.toList) != neg)) H
theorem op_inSg : OpR X (compareOp .In) (rSg false) := fun pins s σ H x y v u Q I rx ry ⟨c, z, h1, h2, q⟩ => op_in_sign pins s σ H x y v u Q I rx ry ⟨c, z, h1, h2, by simpa using q⟩
theorem op_notInSg : OpR X (compareOp .NotIn) (rSg true) := fun pins s σ H x y v u Q I rx ry ⟨c, z, h1, h2, q⟩ => op_notIn_sign pins s σ H x y v u Q I rx ry ⟨c, z, h1, h2, by simpa using q⟩
theorem inSg_of {d e : D} {r : Bool} (h : inSg d e = some r) : ∃ c z, d = .str ⟨#[c]⟩ ∧ e = .str z ∧ r = decide (c ∈ z.cps.toList) := by
  cases d with
  | str x =>
    cases e with
    | str y =>
      simp only [inSg] at h
      split at h
      · rename_i c hc
        have h := Option.some.inj h
        rw [memN_eq] at h
        refine ⟨c, y, ?_, rfl, h.symm⟩
        cases x with | mk a =>
        have : a = #[c] := Array.toList_inj.mp hc
        rw [this]
      · cases h
    | _ => cases h
  | _ => cases h
theorem s_inSg {K : PySem.W.Frag} : CmS K (rSg false) inSg := by
  intro d e r h H x y Q rx ry q
  obtain ⟨c, z, rfl, rfl, rfl⟩ := inSg_of h
  exact ⟨c, z, rx.inv_str, ry.inv_str, by simpa using q⟩
theorem s_notInSg {K : PySem.W.Frag} : CmS K (rSg true) notInSg := by
  intro d e r h H x y Q rx ry q
  unfold notInSg at h
  cases hr : inSg d e with
  | none => rw [hr] at h; cases h
  | some b =>
    rw [hr] at h
    have h := Option.some.inj h
    obtain ⟨c, z, rfl, rfl, rfl⟩ := inSg_of hr
    refine ⟨c, z, rx.inv_str, ry.inv_str, ?_⟩
    rw [← h] at q
    simpa using q
instance [NatD m] : NatD (chM m) := ⟨fun b ρ => by unfold chM; rw [NatD.h (m := m) b ρ]⟩
end
theorem or_left {a b : Bool} (h : (a || b) = true) (n : a = false) : b = true := by
  rw [n] at h
  exact h
end Mir
/-! Dicts with numbers and texts as keys: own ones (stored into), and such that are data. -/
namespace Mir
open PySem PySem.Spec PyProof.Rows L2
/-! ### keys -/
noncomputable def keq (a b : D) : Bool := dqB 2 a b
theorem inB_self (i : Int) : inB i i = true := by cases i <;> exact Nat.beq_refl _
theorem lsB_self {α : Type} {f : α → α → Bool} (h : ∀ x, f x x = true) : ∀ xs : List α, lsB f xs xs = true
  | [] => rfl
  | x :: xs => by
    show (f x x && lsB f xs xs) = true
    rw [h x, lsB_self h xs]
    rfl
theorem keq_self (k : Key) : keq (kD k) (kD k) = true := by
  cases k with
  | inl i => exact inB_self i
  | inr x => exact lsB_self (f := fun a b => Nat.beq a b) (fun a => Nat.beq_refl a) x.cps.toList
theorem kD_inj {a b : Key} (h : kD a = kD b) : a = b := by
  cases a <;> cases b <;> cases h <;> rfl
theorem keq_kD (a b : Key) : keq (kD a) (kD b) = decide (a = b) := by
  by_cases h : a = b
  · subst h; rw [keq_self]; simp
  · rw [decide_eq_false h]
    cases z : keq (kD a) (kD b) with
    | false => rfl
    | true => exact absurd (kD_inj (dqB_of 2 _ _ z)) h
noncomputable def keyOf : D → Option Key
  | .int i => some (.inl i)
  | .str x => some (.inr x)
  | _ => none
theorem keyOf_some {d : D} {k : Key} (h : keyOf d = some k) : d = kD k := by
  cases d <;> cases h <;> rfl
theorem keyV {K : PySem.W.Frag} {F : Hp} {v : V} {d : D} {k : Key} (h : keyOf d = some k) (r : Rp K F v d) : v = kV k := by
  cases d <;> cases h
  · cases r; rfl
  · cases r; rfl
noncomputable def getK (ds : List (D × D)) (k : D) : Option D := (ds.find? fun p => keq p.1 k).map (·.2)
noncomputable def putD (ds : List (D × D)) (k v : D) : List (D × D) := if (ds.any fun p => keq p.1 k) = true then ds.map (fun p => if keq p.1 k = true then (p.1, v) else p) else ds ++ [(k, v)]
section
variable {K : PySem.W.Frag} {F : Hp}
theorem get_rel (k : Key) : ∀ {kvs : List (Key × V)} {ds : List (D × D)}, RpK K F kvs ds → match valV kvs k with
    | none => getK ds (kD k) = none
    | some v => ∃ d, getK ds (kD k) = some d ∧ Rp K F v d
  | _, _, .nil => rfl
  | _, _, .cons (k := k') (v := v) (r := r) (d := d) (ds := ds) h t => by
    have ih := get_rel k t
    by_cases e : k' = k
    · rw [valV_pos (p := (k', v)) e]
      refine ⟨d, ?_, h⟩
      show (((kD k', d) :: ds).find? _).map _ = _
      rw [List.find?_cons, show keq (kD k') (kD k) = true by rw [keq_kD]; exact decide_eq_true e]
      rfl
    · rw [valV_neg (p := (k', v)) e]
      have e2 : getK ((kD k', d) :: ds) (kD k) = getK ds (kD k) := by
        show (((kD k', d) :: ds).find? _).map _ = _
        rw [List.find?_cons, show keq (kD k') (kD k) = false by rw [keq_kD]; exact decide_eq_false e]
        rfl
      rw [e2]
      exact ih
theorem any_rel (k : Key) : ∀ {kvs : List (Key × V)} {ds : List (D × D)}, RpK K F kvs ds → (kvs.any fun kv => decide (kv.1 = k)) = ds.any fun p => keq p.1 (kD k)
  | _, _, .nil => rfl
  | _, _, .cons h t => by
    rw [List.any_cons, List.any_cons, any_rel k t, keq_kD]
theorem map_rel (k : Key) {v : V} {d : D} (hv : Rp K F v d) : ∀ {kvs : List (Key × V)} {ds : List (D × D)}, RpK K F kvs ds → RpK K F (kvs.map fun kv => if kv.1 = k then (kv.1, v) else kv) (ds.map fun p => if keq p.1 (kD k) = true then (p.1, d) else p)
  | _, _, .nil => .nil
  | _, _, .cons (k := k') h t => by
    rw [List.map_cons, List.map_cons, keq_kD]
    by_cases e : k' = k
    · rw [if_pos e, if_pos (decide_eq_true e)]
      exact .cons hv (map_rel k hv t)
    · rw [if_neg e, if_neg (by simpa using e)]
      exact .cons h (map_rel k hv t)
theorem RpK.append : ∀ {kvs ls : List (Key × V)} {ds es : List (D × D)}, RpK K F kvs ds → RpK K F ls es → RpK K F (kvs ++ ls) (ds ++ es)
  | _, _, _, _, .nil, s => s
  | _, _, _, _, .cons h r, s => .cons h (RpK.append r s)
theorem put_rel {k : Key} {v : V} {d : D} {kvs : List (Key × V)} {ds : List (D × D)} (h : RpK K F kvs ds) (hv : Rp K F v d) : RpK K F (putK kvs k v) (putD ds (kD k) d) := by
  unfold putK putD
  rw [any_rel k h]
  split
  · exact map_rel k hv h
  · exact h.append (.cons hv .nil)
theorem RpK.length : ∀ {kvs : List (Key × V)} {ds : List (D × D)}, RpK K F kvs ds → kvs.length = ds.length
  | _, _, .nil => rfl
  | _, _, .cons _ r => by rw [List.length_cons, List.length_cons, RpK.length r]
end
/-! ### a dict that is read: an own one, or data -/
def poI (K : PySem.W.Frag) : Po (List (D × D)) := fun _ ds v F' H' => ∃ a ks, v = .ref a ∧ Rd H' a (.dK ks) ∧ RpK K F' ks ds
theorem anti_I {K : PySem.W.Frag} : Anti (poI K) := fun _ _ _ _ _ _ _ h => h
def PDi (X : Cx) (cl : String → Addr) (W : XK) (e : Expr) (m : En → R (List (D × D))) : Prop := PE X e (tM cl W X.K (poI X.K) m)
theorem nth_dd {ρ : En} {i : Nat} {k : List (D × D)} (h : nth ρ i = .dd k) : ρ[i]? = some (.dd k) := by
  rw [nth_eq] at h
  cases q : ρ[i]? with
  | none => rw [q] at h; cases h
  | some s => rw [q] at h; exact congrArg some h
theorem Ok.dd {K : PySem.W.Frag} {F0 H0 ρ F σ H} (h : Ok K F0 H0 ρ F σ H) {i : Nat} {k : List (D × D)} (q : nth ρ i = .dd k) : ∃ a ks, σ[i]? = some (some (.ref a)) ∧ H a = some (.dK ks) ∧ F a = none ∧ H0 a = none ∧ RpK K F ks k := h.sl i _ (nth_dd q)
noncomputable def getDd (i : Nat) : En → R (List (D × D)) := fun ρ => match nth ρ i with
  | .dd kvs => .ok kvs
  | _ => .no
noncomputable def asDi : D → R (List (D × D))
  | .dict kvs => .ok kvs
  | _ => .no
noncomputable def asI' (m : En → R D) : En → R (List (D × D)) := fun ρ => (m ρ).bind asDi
section
variable {X : Cx} {cl : String → Addr} {W : XK} {a o e f value : Expr} {pos pos' : Pos} {m mk mv : En → R D} {mi : En → R (List (D × D))} {i : Nat}
theorem pdi_v (h : PE X e (tVar i)) : PDi X cl W e (getDd i) := PE.imp h fun σ H Q ⟨F0, H0, ρ, F, ok, q⟩ => by
  have q : tR cl W (poI X.K) (getDd i ρ) F H Q := q
  unfold getDd at q
  cases hx : nth ρ i with
  | dd d =>
    rw [hx] at q
    obtain ⟨a, ks, h1, h2, h3, h4, h5⟩ := ok.dd hx
    exact ⟨_, h1, q _ F H (Ext.refl ok.sub) ⟨a, ks, rfl, .inl h2, h5⟩⟩
  | _ => rw [hx] at q; exact False.elim q
theorem pdi_d (h : PD X cl W e m) : PDi X cl W e (asI' m) := PE.imp h fun σ H Q ⟨F0, H0, ρ, F, ok, q⟩ => by
  refine ⟨F0, H0, ρ, F, ok, (tR.bind (P := poD X.K) anti_I (show tR cl W (poI X.K) ((m ρ).bind asDi) F H Q from q)).imp fun v H1 ⟨F1, d, e1, p1, h1⟩ => ?_⟩
  cases d with
  | dict kvs =>
    obtain ⟨b, ob, ks, rfl, s1, r1⟩ := Rp.inv_dict p1
    exact h1 _ F1 H1 (Ext.refl e1.sub) ⟨b, ks, rfl, .inr ⟨ob, e1.sub _ _ s1⟩, r1⟩
  | _ => exact False.elim h1
/-- k in d, k not in d -/
noncomputable def inDi (neg : Bool) (m : En → R D) (mi : En → R (List (D × D))) : En → R Bool := fun ρ => (m ρ).bind fun k => (mi ρ).bind fun ds => match keyOf k with
  | some _ => .ok ((getK ds k).isSome != neg)
  | none => .no
theorem din_end {K : PySem.W.Frag} {F1 H2 : Hp} {k : D} {κ : Key} {v u : V} {b : Addr} {ks : List (Key × V)} {ds : List (D × D)} {F2 : Hp} (hk : keyOf k = some κ) (pk : Rp K F1 v k) (rd : Rd H2 b (.dK ks)) (r : RpK K F2 ks ds) :
    ∃ ov, DGet H2 b v ov ∧ ov.isSome = (getK ds k).isSome := by
  obtain rfl := keyV hk pk
  obtain rfl := keyOf_some hk
  refine ⟨valV ks κ, .inl ⟨ks, κ, rd, rfl, rfl⟩, ?_⟩
  have := get_rel κ r
  cases z : valV ks κ with
  | none => rw [z] at this; simp only at this; rw [this]; rfl
  | some q => rw [z] at this; obtain ⟨d, h1, _⟩ := this; rw [h1]; rfl
theorem pb_inD (hu : X.A.units + 65 < cLine) (ha : PD X cl W a m) (ho : PDi X cl W o mi) (hm : behindInMarks .In o = false := by rfl) : PB X cl W (.Compare a [.In] [o] pos) (inDi false m mi) := by
  refine PT.imp (pt_cmp (pc_din (by omega) ha ho) hm) fun σ H Q ⟨F0, H0, ρ, F, ok, h⟩ => ?_
  refine ⟨F0, H0, ρ, F, ok, (tRB.bind (show tRB cl W ((m ρ).bind _) F H Q from h)).imp fun v H1 ⟨F1, k, e1, p1, h1⟩ => ?_⟩
  refine ⟨F0, H0, ρ, F1, ok.grow e1, (tRB.bind h1).imp fun u H2 ⟨F2, ds, e2, ⟨b, ks, hb, rd, r⟩, h2⟩ => ?_⟩
  subst hb
  cases hk : keyOf k with
  | none => rw [hk] at h2; exact h2.elim
  | some κ =>
    rw [hk] at h2
    obtain ⟨ov, g, ge⟩ := din_end (u := v) hk p1 rd r
    refine ⟨b, ov, rfl, g, _, rfl, ?_⟩
    rw [ge]
    have h2 : tRB cl W (.ok ((getK ds k).isSome != false)) F2 H2 Q := h2
    have := h2 F2 H2 (Ext.refl e2.sub)
    simpa using this
theorem pb_notInD (hu : X.A.units + 65 < cLine) (ha : PD X cl W a m) (ho : PDi X cl W o mi) (hm : behindInMarks .NotIn o = false := by rfl) : PB X cl W (.Compare a [.NotIn] [o] pos) (inDi true m mi) := by
  refine PT.imp (pt_cmp (pc_dnotin (by omega) ha ho) hm) fun σ H Q ⟨F0, H0, ρ, F, ok, h⟩ => ?_
  refine ⟨F0, H0, ρ, F, ok, (tRB.bind (show tRB cl W ((m ρ).bind _) F H Q from h)).imp fun v H1 ⟨F1, k, e1, p1, h1⟩ => ?_⟩
  refine ⟨F0, H0, ρ, F1, ok.grow e1, (tRB.bind h1).imp fun u H2 ⟨F2, ds, e2, ⟨b, ks, hb, rd, r⟩, h2⟩ => ?_⟩
  subst hb
  cases hk : keyOf k with
  | none => rw [hk] at h2; exact h2.elim
  | some κ =>
    rw [hk] at h2
    obtain ⟨ov, g, ge⟩ := din_end (u := v) hk p1 rd r
    refine ⟨b, ov, rfl, g, _, rfl, ?_⟩
    rw [ge]
    have h2 : tRB cl W (.ok ((getK ds k).isSome != true)) F2 H2 Q := h2
    have := h2 F2 H2 (Ext.refl e2.sub)
    simpa using this
/-- d[k] -/
noncomputable def getDi (mi : En → R (List (D × D))) (m : En → R D) : En → R D := fun ρ => (mi ρ).bind fun ds => (m ρ).bind fun k => match keyOf k with
  | some _ => ofO (getK ds k)
  | none => .no
theorem pd_getD (hu : X.A.units + 65 < cLine) (ho : PDi X cl W o mi) (hi : PD X cl W e m) (hs : NoSl e := by intro _ _; rfl) : PD X cl W (.Subscript o e pos) (getDi mi m) := by
  refine PE.imp (pe_dget (by omega) ho hi hs) fun σ H Q ⟨F0, H0, ρ, F, ok, h⟩ => ?_
  refine ⟨F0, H0, ρ, F, ok, (tR.bind (P := poI X.K) anti_D (show tR cl W (poD X.K) ((mi ρ).bind _) F H Q from h)).imp fun v H1 ⟨F1, ds, e1, ⟨b, ks, hb, rd, r⟩, h1⟩ => ?_⟩
  refine ⟨F0, H0, ρ, F1, ok.grow e1, (tR.bind (P := poD X.K) anti_D h1).imp fun u H2 ⟨F2, k, e2, p2, h2⟩ => ?_⟩
  subst hb
  cases hk : keyOf k with
  | none => rw [hk] at h2; exact h2.elim
  | some κ =>
    rw [hk] at h2
    obtain rfl := keyV hk p2
    obtain rfl := keyOf_some hk
    have g := get_rel κ r
    have rd2 : Rd H2 b (.dK ks) := e2.keep.rd rd
    cases z : valV ks κ with
    | none => rw [z] at g; simp only at g; rw [g] at h2; exact h2.elim
    | some q =>
      rw [z] at g
      obtain ⟨d, g1, g2⟩ := g
      rw [g1] at h2
      exact ⟨b, q, rfl, .inl ⟨ks, κ, rd2, rfl, z.symm⟩, h2 q F2 H2 (Ext.refl e2.sub) (g2.mono e2.le)⟩
/-! ### an own dict -/
noncomputable def noDd : Sl → Sl
  | .dd _ => .un
  | s => s
theorem Ext.at {F H F' H' : Hp} {p : Addr} {u : HO} (e : Ext F H F' H') (np : H p = none) (fp : F' p = none) : Ext F H F' (upd H' p u) :=
  ⟨e.le, e.sub.upd fp, e.keep.upd np, e.new⟩
theorem Ok.newd {K : PySem.W.Frag} {F0 H0 F H F' H' : Hp} {ρ : En} {σ : St} (h : Ok K F0 H0 ρ F σ H) (e : Ext F H F' H') (i : Nat) {p : Addr} {ks : List (Key × V)} {kvs : List (D × D)} (np : H p = none) (hf : F' p = none) (hp : H' p = some (.dK ks)) (r : RpK K F' ks kvs) : Ok K F0 H0 (ρ.set i (.dd kvs)) F' (σ.set i (some (.ref p))) H' := by
  have g := h.grow e
  have h0 := h.ext.keep.none np
  obtain ⟨f, hw⟩ := h.own
  refine ⟨by simpa using h.len, g.ext, g.low, fun j s q => ?_, fun a => if a = p then i else f a, own_set (F0 := F0) (fun j s q => ?_) h.len fun _ a (z : some (some (V.ref p)) = some (some (V.ref a))) => by cases z; simp⟩
  · by_cases hj : i = j
    · subst hj
      have hi : i < ρ.length := by have := (List.getElem?_eq_some_iff.mp q).1; simpa using this
      rw [List.getElem?_set_self hi] at q
      cases q
      exact ⟨p, ks, by rw [List.getElem?_set_self (by rw [← h.len]; exact hi)], hp, hf, h0, r⟩
    · rw [List.getElem?_set_ne hj] at q
      rw [List.getElem?_set_ne hj]
      exact g.sl j s q
  · have z := own_new (i := i) (hw j s q) (h.sl j s q) np
    exact z.to e.le (fun a u x1 x2 x3 x4 => ⟨e.keep a u x4, e.still x4 x2, x3, x1⟩) fun _ _ x => x
/-- an own dict's object is another one now; s: what stands for it, t: its HO -/
theorem Ok.dwr {K : PySem.W.Frag} {F0 H0 F H F' : Hp} {ρ : En} {σ : St} (h : Ok K F0 H0 ρ F σ H) {i : Nat} {a : Addr} {ks : List (Key × V)} {kvs : List (D × D)} {s : Sl} {u : HO} (hi : nth ρ i = .dd kvs) (ha : σ[i]? = some (some (.ref a))) (hk : H a = some (.dK ks)) (fa : F a = none) (h0 : H0 a = none)
    (le : Le F F') (sub : Le F' (upd H a u)) (new : ∀ b o, F' b = some o → F b = some o ∨ b = a) (hs : SlOk K H0 F' (upd H a u) s (some (some (.ref a)))) (os : ∀ f : Addr → Nat, f a = i → OwnOk K H0 F' (upd H a u) f i s (some (some (.ref a)))) : Ok K F0 H0 ((ρ.map noDd).set i s) F' σ (upd H a u) := by
  have hlt : i < ρ.length := (List.getElem?_eq_some_iff.mp (nth_dd hi)).1
  have fnone : ∀ b, b ≠ a → F b = none → F' b = none := fun b n f => by
    cases z : F' b with
    | none => rfl
    | some o =>
      rcases new b o z with y | y
      · rw [f] at y; cases y
      · exact absurd y n
  refine ⟨by simpa using h.len, ⟨h.ext.le.trans le, sub, h.ext.keep.upd h0, fun b o q => ?_⟩, h.low, fun j t q => ?_, let ⟨f, hf⟩ := h.own; ⟨f, fun j t q => ?_⟩⟩
  · rcases new b o q with z | z
    · exact h.ext.new b o z
    · subst z; exact .inr h0
  · by_cases hj : i = j
    · subst hj
      rw [List.getElem?_set_self (by simpa using hlt)] at q
      cases q
      rw [ha]; exact hs
    · rw [List.getElem?_set_ne hj, List.getElem?_map] at q
      cases z : ρ[j]? with
      | none => rw [z] at q; cases q
      | some t' =>
        rw [z] at q
        have q : noDd t' = t := Option.some.inj q
        have g := h.sl j t' z
        cases t' with
        | un => subst q; trivial
        | da d => subst q; obtain ⟨v, f1, f2⟩ := g; exact ⟨v, f1, f2.mono le⟩
        | ce us =>
          subst q
          obtain ⟨b, vs', f1, f2, f3, f4, f5⟩ := g
          have n : b ≠ a := fun y => by rw [y, hk] at f2; cases f2
          exact ⟨b, vs', f1, by rw [upd_ne n]; exact f2, fnone b n f3, f4, f5.mono le⟩
        | er b dx n => subst q; exact ⟨g.1, le _ _ g.2⟩
        | sc ns => subst q; obtain ⟨b, f1, f2⟩ := g; exact ⟨b, f1, le.sql f2⟩
        | dk b us =>
          subst q
          obtain ⟨f1, f2, f3, f4⟩ := g
          have n : b ≠ a := fun y => by
            obtain ⟨_, es, f5, _⟩ := f4
            rw [y, hk] at f5; cases f5
          exact ⟨f1, f2, fnone b n f3, f4.mono le (upd_ne n)⟩
        | dd us => subst q; trivial
        | ow us => subst q; trivial
        | cc us => subst q; trivial
  · have fa : f a = i := (hf i _ (nth_dd hi)) a ha
    by_cases hj : i = j
    · subst hj
      rw [List.getElem?_set_self (by simpa using hlt)] at q
      cases q
      rw [ha]; exact os f fa
    · rw [List.getElem?_set_ne hj, List.getElem?_map] at q
      cases z : ρ[j]? with
      | none => rw [z] at q; cases q
      | some t' =>
        rw [z] at q
        have q : noDd t' = t := Option.some.inj q
        have g := hf j t' z
        have g' : OwnOk K H0 F' (upd H a u) f j t' σ[j]? := g.to le (fun b u x1 x2 x3 x4 => by
          have n : b ≠ a := fun y => by subst y; exact hj (fa.symm.trans x1)
          exact ⟨by rw [upd_ne n]; exact x4, fnone b n x2, x3, x1⟩) fun _ _ x => x
        cases t' <;> (subst q; first | exact g' | exact fun _ y => y.elim)
/-- x = {}, x = {k: v} -/
noncomputable def setD0 (i : Nat) : En → R Fl := fun ρ => .ok (.nx (setE ρ i (.dd [])))
theorem st_setD0 {x : Str} {pos2 : Pos} (hN : X.N.Nodup) (hi : X.N[i]? = some x) (hx : Loc X.env.scope x) (hs : swapsWith (.Dict [] [] pos) (some (.Name x pos')) pos2.line X.env = pure false := by rfl) (hf : X.fn x = true ∨ X.env.scope.names.lookup x = some .local := by first | exact .inl rfl | exact .inr rfl | assumption) :
    PSt X cl W (.Assign [.Name x pos'] (.Dict [] [] pos) pos2) (setD0 i) := by
  refine PS.imp (ps_set hN hi hx pe_dnewK hs hf) fun σ H Q ⟨F0, H0, ρ, F, ok, h⟩ => fun p np => ?_
  have g := Ext.grow ok.sub (o := .dK []) np
  exact h _ F _ (by rw [setE_eq]; exact ok.newd g i np (ok.sub.none np) upd_same .nil) (Le.refl F)
noncomputable def setD1 (i : Nat) (mk mv : En → R D) : En → R Fl := fun ρ => (mk ρ).bind fun k => (mv ρ).bind fun v => match keyOf k with
  | some _ => .ok (.nx (setE ρ i (.dd [(k, v)])))
  | none => .no
theorem st_setD1 {x : Str} {pos2 : Pos} {k v : Expr} (hN : X.N.Nodup) (hi : X.N[i]? = some x) (hx : Loc X.env.scope x) (hk : PD X cl W k mk) (hv : PD X cl W v mv) (hs : swapsWith (.Dict [some k] [v] pos) (some (.Name x pos')) pos2.line X.env = pure false := by rfl) (hf : X.fn x = true ∨ X.env.scope.names.lookup x = some .local := by first | exact .inl rfl | exact .inr rfl | assumption) :
    PSt X cl W (.Assign [.Name x pos'] (.Dict [some k] [v] pos) pos2) (setD1 i mk mv) := by
  refine PS.imp (ps_set hN hi hx (pe_disp (pps_cons hk hv pps_nil) rfl rfl (by simp) (by simp)) hs hf) fun σ H Q ⟨F0, H0, ρ, F, ok, h⟩ => fun p np => ?_
  have g := Ext.grow ok.sub (o := .dK []) np
  have fp := ok.sub.none np
  refine ⟨F0, H0, ρ, F, ok.grow g, tRS.expr (P := poD X.K) (show tRS cl W X.K F0 H0 F ((mk ρ).bind _) Q from h) (ok.ext.keep.trans g.keep) fun x H1 F1 d e1 p1 h1 => ?_⟩
  refine ⟨F0, H0, ρ, H1, (ok.grow g).grow e1, tRS.expr (P := poD X.K) h1 ((ok.ext.keep.trans g.keep).trans e1.keep) fun y H2 F2 c e2 p2 h2 => ?_⟩
  have hp : F2 p = some (.dK []) := e2.keep _ _ (e1.keep _ _ upd_same)
  have fp2 : H2 p = none := by
    have step : ∀ {Fa Ha Fb Hb : Hp}, Ext Fa Ha Fb Hb → Fa p = none → Ha p = some (.dK []) → Fb p = none := fun {Fa Ha Fb Hb} ee n1 n2 => by
      cases q : Fb p with
      | none => rfl
      | some o =>
        rcases ee.new p o q with z | z
        · rw [n1] at z; cases z
        · rw [n2] at z; cases z
    exact step e2 (step e1 fp upd_same) (e1.keep _ _ upd_same)
  refine ⟨hp, ?_⟩
  cases hk : keyOf d with
  | none => rw [hk] at h2; exact h2.elim
  | some κ =>
    rw [hk] at h2
    refine ⟨[(κ, y)], by rw [keyV hk p1]; rfl, by simp, ?_⟩
    have e3 : mergeK [] [(κ, y)] = [(κ, y)] := rfl
    rw [e3]
    obtain rfl := keyOf_some hk
    exact h2 _ H2 _ (by rw [setE_eq]; exact ok.newd (((g.trans e1).trans e2).at np fp2) i np fp2 upd_same (.cons p2 .nil)) (Le.refl H2)
/-- x[k] = v -/
noncomputable def stoD (i : Nat) (mk mv : En → R D) : En → R Fl := fun ρ => match nth ρ i with
  | .dd kvs => (mv ρ).bind fun v => (mk ρ).bind fun k => match keyOf k with
    | some _ => if kvs.length < 1000000 then .ok (.nx (setE (ρ.map noDd) i (.dd (putD kvs k v)))) else .no
    | none => .no
  | _ => .no
theorem st_stoD (hu : X.A.units + 65 < cLine) (ho : PE X o (tVar i)) (hi : PD X cl W e mk) (hv : PD X cl W value mv) (hs : swapsWith value (some (.Subscript o e pos')) pos.line X.env = pure false := by rfl) :
    PSt X cl W (.Assign [.Subscript o e pos'] value pos) (stoD i mk mv) := by
  refine PS.imp (ps_dput (by omega) ho hi hv hs) fun σ H Q ⟨F0, H0, ρ, F, ok, h⟩ => ?_
  have h : tRS cl W X.K F0 H0 F (match nth ρ i with
    | .dd kvs => (mv ρ).bind fun v => (mk ρ).bind fun k => match keyOf k with
      | some _ => if kvs.length < 1000000 then .ok (.nx (setE (ρ.map noDd) i (.dd (putD kvs k v)))) else .no
      | none => .no
    | _ => .no) Q := h
  cases hx : nth ρ i with
  | dd kvs =>
    rw [hx] at h
    refine ⟨F0, H0, ρ, F, ok, tRS.expr (P := poD X.K) (show tRS cl W X.K F0 H0 F ((mv ρ).bind _) Q from h) ok.ext.keep fun v F1 H1 d e1 p1 h1 => ?_⟩
    obtain ⟨a, ks, k1, k2, k3, k4, k5⟩ := (ok.grow e1).dd hx
    refine ⟨.ref a, k1, F0, H0, ρ, F1, ok.grow e1, tRS.expr (P := poD X.K) h1 (ok.ext.keep.trans e1.keep) fun u F2 H2 c e2 p2 h2 => ?_⟩
    have ok2 := (ok.grow e1).grow e2
    obtain ⟨a', ks', j1, j2, j3, j4, j5⟩ := ok2.dd hx
    rw [k1] at j1; cases j1
    cases hk : keyOf c with
    | none => rw [hk] at h2; exact h2.elim
    | some κ =>
      rw [hk] at h2
      have h2 : tRS cl W X.K F0 H0 F2 (if kvs.length < 1000000 then .ok (.nx (setE (ρ.map noDd) i (.dd (putD kvs c d)))) else .no) Q := h2
      split at h2
      · rename_i hl
        obtain rfl := keyV hk p2
        obtain rfl := keyOf_some hk
        refine ⟨a, _, rfl, DPut.k j2 (by rw [j5.length, sizeLine_eq]; omega), ?_⟩
        rw [setE_eq] at h2
        refine h2 σ F2 _ (ok2.dwr hx k1 j2 j3 j4 (Le.refl F2) (ok2.ext.sub.upd j3) (fun b o q => .inl q) ⟨a, _, rfl, upd_same, j3, j4, put_rel j5 (p1.mono e2.le)⟩ (fun f y b (z : some (some (V.ref a)) = some (some (V.ref b))) => by cases z; exact y)) (Le.refl F2)
      · exact h2.elim
  | _ => rw [hx] at h; exact h.elim
/-- an own dict is data from here on -/
noncomputable def frzD (i : Nat) (m : En → R Fl) : En → R Fl := fun ρ => match nth ρ i with
  | .dd kvs => m (setE (ρ.map noDd) i (.da (.dict kvs)))
  | _ => m ρ
theorem sb_frzD {rest : List Stmt} {m : En → R Fl} (i : Nat) (h : PBl X cl W rest m) : PBl X cl W rest (frzD i m) := by
  refine ⟨fun pins s σ H Dn I ⟨F0, H0, ρ, F, ok, q⟩ => ?_⟩
  have q : tRS cl W X.K F0 H0 F (match nth ρ i with
    | .dd kvs => m (setE (ρ.map noDd) i (.da (.dict kvs)))
    | _ => m ρ) Dn := q
  cases hx : nth ρ i with
  | dd kvs =>
    rw [hx] at q
    obtain ⟨a, ks, k1, k2, k3, k4, k5⟩ := ok.dd hx
    obtain ⟨od, I'⟩ := I.lock k2 True.intro
    have le : Le F (upd F a (.frz od (.dK ks))) := (Le.refl F).upd k3
    have q : tRS cl W X.K F0 H0 F (m (setE (ρ.map noDd) i (.da (.dict kvs)))) Dn := q
    rw [setE_eq] at q
    refine h.run pins s σ _ Dn I' ⟨F0, H0, _, upd F a (.frz od (.dK ks)), ok.dwr (s := .da (.dict kvs)) hx k1 k2 k3 k4 le (fun b o z => ?_) (fun b o z => ?_) ⟨.ref a, rfl, .dct upd_same (k5.mono le)⟩ (fun _ _ _ y => y.elim), tRS.mono q le⟩
    · by_cases n : b = a
      · subst n; rw [upd_same] at z; cases z; exact upd_same
      · rw [upd_ne n] at z ⊢; exact ok.ext.sub b o z
    · by_cases n : b = a
      · exact .inr n
      · rw [upd_ne n] at z; exact .inl z
  | _ => rw [hx] at q; exact h.run pins s σ H Dn I ⟨F0, H0, ρ, F, ok, q⟩
end
end Mir
/-! sorted(d) of numbers, walks of a dict that is data, dict comprehensions. -/
namespace Mir
open PySem PySem.Spec PyProof.Rows L2
noncomputable def leI' (a b : Int) : Bool := decide (a ≤ b)
theorem leI_total : PySem.W.TotalLe leI' := ⟨fun a b c h1 h2 => by unfold leI' at *; rw [decide_eq_true_eq] at *; omega, fun a b => by unfold leI'; rw [decide_eq_true_eq, decide_eq_true_eq]; omega⟩
theorem isortI_eq {ys ks : List Int} (hp : ys.Perm ks) (hs : ys.Pairwise (· ≤ ·)) : ys = isort leI' ks := by
  have p2 : (isort leI' ks).Perm ks := by rw [isort_eq leI_total]; exact List.mergeSort_perm ..
  refine List.Perm.eq_of_pairwise (le := fun a b => a ≤ b) (fun a b _ _ h1 h2 => by omega) hs ((isort_sorted leI_total ks).imp fun h => by unfold leI' at h; exact of_decide_eq_true h) (hp.trans p2.symm)
noncomputable def sortDI (ds : List (D × D)) : Option (List D) := (intsD (ds.map (·.1))).bind fun ks => if ks.length < 64 then some ((isort leI' ks).map PyData.int) else none
section
variable {X : Cx} {cl : String → Addr} {W : XK} {a e tg : Expr} {p pos : Pos} {m : En → R D} {mi : En → R (List (D × D))}
theorem keys_ints {K : PySem.W.Frag} {F : Hp} : ∀ {kvs : List (Key × V)} {ds : List (D × D)} {ks : List Int}, RpK K F kvs ds → intsD (ds.map (·.1)) = some ks → kvs.map (·.1) = ks.map Sum.inl
  | _, _, ks, .nil, h => by cases h; rfl
  | _, _, ks, .cons (k := k) (ds := ds) h t, e => by
    cases k with
    | inr x => cases e
    | inl i =>
      have e : (intsD (ds.map (·.1))).map (i :: ·) = some ks := e
      cases z : intsD (ds.map (·.1)) with
      | none => rw [z] at e; cases e
      | some l =>
        rw [z] at e
        cases e
        rw [List.map_cons, List.map_cons, keys_ints t z]
theorem pf_sortDI (hc : X.calm = true) (hg : Gl X "sorted") (hm : X.mg "sorted" = none) (ha : PDi X cl W a mi) (hs : starEach [a] X.env = (false, eval a X.env) :: starEach [] X.env := by rfl) (hpl : (backTo pos (starEach [] X.env)).any (·.1) = false := by rfl) :
    PF X cl W (.Call (.Name "sorted" p) [a] [] pos) (un1 sortDI mi) := by
  refine PE.imp (pe_callB (call_sortedDI hc) hg hm (by decide +kernel) (pa_one ha hs) (by decide) (by decide) hs hpl) fun σ H Q ⟨F0, H0, ρ, F, ok, h⟩ => ?_
  refine ⟨F0, H0, ρ, F, ok, (tR.bind (P := poI X.K) anti_F (show tR cl W (poF X.K) ((mi ρ).bind _) F H Q from h)).imp fun v H1 ⟨F1, ds, e1, ⟨b, ks, hb, rd, r⟩, h1⟩ => ?_⟩
  subst hb
  cases hr : sortDI ds with
  | none => rw [hr] at h1; exact h1.elim
  | some l =>
    rw [hr] at h1
    unfold sortDI at hr
    cases hi : intsD (ds.map (·.1)) with
    | none => rw [hi] at hr; cases hr
    | some zs =>
      rw [hi] at hr
      have hr : (if zs.length < 64 then some ((isort leI' zs).map PyData.int) else none) = some l := hr
      split at hr
      · rename_i hz
        cases hr
        refine ⟨b, ks, zs, rfl, rd, keys_ints r hi, hz, fun ys q hp hs nq => ?_⟩
        obtain rfl := isortI_eq hp hs
        exact h1 _ F1 _ (Ext.grow e1.sub (o := .lst ((isort leI' zs).map V.int)) nq) ⟨q, _, rfl, nq, e1.sub.none nq, upd_same, RpA.ints _⟩
      · cases hr
/-! ### for k in d, where d is data -/
noncomputable def keysD : D → R (List D)
  | .dict ds => .ok (ds.map (·.1))
  | _ => .no
noncomputable def keM (m : En → R D) : En → R (List D) := fun ρ => (m ρ).bind keysD
theorem key_rp {K : PySem.W.Frag} {F : Hp} (k : Key) : Rp K F (kV k) (kD k) := by cases k <;> constructor
theorem keys_at {K : PySem.W.Frag} {F : Hp} : ∀ {kvs : List (Key × V)} {ds : List (D × D)} (i : Nat) {d : D}, RpK K F kvs ds → (ds.map (·.1))[i]? = some d → ∃ k v, kvs[i]? = some (k, v) ∧ d = kD k
  | _, _, _, _, .nil, h => by simp at h
  | _, _, 0, _, .cons h t, e => by simp at e; subst e; exact ⟨_, _, rfl, rfl⟩
  | _, _, i + 1, _, .cons h t, e => by
    obtain ⟨k, v, a, b⟩ := keys_at i t (by simpa using e)
    exact ⟨k, v, by simpa using a, b⟩
theorem RpK.len2 {K : PySem.W.Frag} {F : Hp} : ∀ {kvs : List (Key × V)} {ds : List (D × D)}, RpK K F kvs ds → (ds.map (·.1)).length = kvs.length
  | _, _, .nil => rfl
  | _, _, .cons _ t => by simp only [List.map_cons, List.length_cons, RpK.len2 t]
theorem walk_keysD {K : PySem.W.Frag} {F1 G : Hp} {d : Addr} {o : Obj} {kvs : List (Key × V)} {ds : List (D × D)} (hf : F1 d = some (.frz o (.dK kvs))) (r : RpK K F1 kvs ds) : Walk K (Itk d o kvs) F1 G (ds.map (·.1)) where
  go := fun i F' H' l1 l2 l3 x hx => by
    obtain ⟨k, v, e1, rfl⟩ := keys_at i r hx
    refine ⟨⟨l2 _ _ (l1 _ _ hf), (List.getElem?_eq_some_iff.mp e1).1⟩, fun y H'' q => ?_⟩
    obtain ⟨rfl, k', v', e2, rfl⟩ := q
    rw [e1] at e2
    cases e2
    exact ⟨F', Ext.refl l2, key_rp k⟩
  stop := fun i F' H' l1 l2 l3 hl => ⟨l2 _ _ (l1 _ _ hf), by rw [RpK.len2 r] at hl; exact hl⟩
theorem sr_k (h : PD X cl W e m) : PSr X cl W false tg e (keM m) := by
  refine PI.imp (pi_keys h) fun σ H Rr ⟨F0, H0, ρ, F, ok, q⟩ => ⟨F0, H0, ρ, F, ok, ?_⟩
  refine tRI.bind q fun v F1 H1 d e1 p1 q1 => ?_
  cases d with
  | dict ds =>
    obtain ⟨a, o, kvs, rfl, hf, r⟩ := Rp.inv_dict p1
    exact ⟨a, o, rfl, .inl ⟨kvs, e1.sub _ _ hf, q1 _ F1 H1 (Ext.refl e1.sub) (walk_keysD hf r)⟩⟩
  | _ => exact False.elim q1
theorem sw_k (h : PD X cl W e m) : PSr X cl W true tg e (keM m) := (sr_k h).weak
theorem pd_inD {o : Expr} (hu : X.A.units + 65 < cLine) (ha : PD X cl W a m) (ho : PDi X cl W o mi) (hm : behindInMarks .In o = false := by rfl) : PD X cl W (.Compare a [.In] [o] pos) (bD (inDi false m mi)) := by
  refine PE.imp (pe_cmp (pc_din (by omega) ha ho) hm) fun σ H Q ⟨F0, H0, ρ, F, ok, h⟩ => ?_
  have h : tR cl W (poD X.K) ((inDi false m mi ρ).bind fun b => .ok (.bool b)) F H Q := h
  unfold inDi at h
  rw [R.bind_assoc] at h
  refine ⟨F0, H0, ρ, F, ok, (tR.bind (P := poD X.K) anti_D h).imp fun v H1 ⟨F1, k, e1, p1, h1⟩ => ?_⟩
  rw [R.bind_assoc] at h1
  refine ⟨F0, H0, ρ, F1, ok.grow e1, (tR.bind (P := poI X.K) anti_D h1).imp fun u H2 ⟨F2, ds, e2, ⟨b, ks, hb, rd, r⟩, h2⟩ => ?_⟩
  subst hb
  cases hk : keyOf k with
  | none => rw [hk] at h2; exact h2.elim
  | some κ =>
    rw [hk] at h2
    obtain ⟨ov, g, ge⟩ := din_end (u := v) hk p1 rd r
    refine ⟨b, ov, rfl, g, ?_⟩
    rw [ge]
    have h2 : tR cl W (poD X.K) (.ok (.bool ((getK ds k).isSome != false))) F2 H2 Q := h2
    have := h2 (.bl ((getK ds k).isSome != false)) F2 H2 (Ext.refl e2.sub) (.bl _)
    simpa using this
theorem pd_notInD {o : Expr} (hu : X.A.units + 65 < cLine) (ha : PD X cl W a m) (ho : PDi X cl W o mi) (hm : behindInMarks .NotIn o = false := by rfl) : PD X cl W (.Compare a [.NotIn] [o] pos) (bD (inDi true m mi)) := by
  refine PE.imp (pe_cmp (pc_dnotin (by omega) ha ho) hm) fun σ H Q ⟨F0, H0, ρ, F, ok, h⟩ => ?_
  have h : tR cl W (poD X.K) ((inDi true m mi ρ).bind fun b => .ok (.bool b)) F H Q := h
  unfold inDi at h
  rw [R.bind_assoc] at h
  refine ⟨F0, H0, ρ, F, ok, (tR.bind (P := poD X.K) anti_D h).imp fun v H1 ⟨F1, k, e1, p1, h1⟩ => ?_⟩
  rw [R.bind_assoc] at h1
  refine ⟨F0, H0, ρ, F1, ok.grow e1, (tR.bind (P := poI X.K) anti_D h1).imp fun u H2 ⟨F2, ds, e2, ⟨b, ks, hb, rd, r⟩, h2⟩ => ?_⟩
  subst hb
  cases hk : keyOf k with
  | none => rw [hk] at h2; exact h2.elim
  | some κ =>
    rw [hk] at h2
    obtain ⟨ov, g, ge⟩ := din_end (u := v) hk p1 rd r
    refine ⟨b, ov, rfl, g, ?_⟩
    rw [ge]
    have h2 : tR cl W (poD X.K) (.ok (.bool ((getK ds k).isSome != true))) F2 H2 Q := h2
    have := h2 (.bl ((getK ds k).isSome != true)) F2 H2 (Ext.refl e2.sub) (.bl _)
    simpa using this
theorem allN_mk {n : Nat} {p : Nat → Bool} (h : ∀ i, i < n → p i = true) : allN n p = true := by
  induction n with
  | zero => rfl
  | succ k ih =>
    show (p k && allN k p) = true
    rw [h k (by omega), ih fun i hi => h i (by omega)]
    rfl
theorem allN_app (a b : Nat) {p : Nat → Bool} (h1 : allN a p = true) (h2 : (allN b fun i => p (a + i)) = true) : allN (a + b) p = true := by
  refine allN_mk fun i hi => ?_
  by_cases l : i < a
  · exact allN_of h1 i l
  · have := allN_of h2 (i - a) (by omega)
    have z : a + (i - a) = i := by omega
    rw [← z]; exact this
end
end Mir
/-! sorted(d) of numbers, walks of a dict that is data, dict comprehensions. -/
/-! {k: v for .. in ..}: a dict that is data at once. -/
namespace Mir
open PySem PySem.Spec PyProof.Rows L2
noncomputable def dcL (g : Tg) (t : En → R Bool) (mk mv : En → R D) (ρ : En) (xs : List D) : List (D × D) → R (List (D × D)) :=
  List.rec (fun acc => .ok acc) (fun x _ ih => fun acc => (ofO (g x ρ)).bind fun ρ1 => (t ρ1).bind fun k => if k = true then (mk ρ1).bind fun y => (mv ρ1).bind fun z => match keyOf y with
    | some _ => ih (putD acc y z)
    | none => .no
  else ih acc) xs
theorem dcL_cons {g : Tg} {t : En → R Bool} {mk mv : En → R D} {ρ : En} {x : D} {xs : List D} {acc : List (D × D)} : dcL g t mk mv ρ (x :: xs) acc = (ofO (g x ρ)).bind fun ρ1 => (t ρ1).bind fun k => if k = true then (mk ρ1).bind fun y => (mv ρ1).bind fun z => match keyOf y with
    | some _ => dcL g t mk mv ρ xs (putD acc y z)
    | none => .no
  else dcL g t mk mv ρ xs acc := rfl
noncomputable def dcD (g : Tg) (src : En → R (List D)) (t : En → R Bool) (mk mv : En → R D) (vs : List Nat) : En → R D := fun ρ =>
  (src ρ).bind fun xs => if small xs = true then (dcL g t mk mv (wipeE ρ vs) xs []).calm.bind fun r => .ok (.dict r) else .no
theorem putD_len {ds : List (D × D)} {k v : D} : (putD ds k v).length ≤ ds.length + 1 := by
  unfold putD
  split
  · rw [List.length_map]; omega
  · rw [List.length_append]; simp
def tLockD (t : TE) : TE := fun σ H Q => t σ H fun v H1 => ∃ D kvs, v = .ref D ∧ H1 D = some (.dK kvs) ∧ ∀ o, Q v (upd H1 D (.frz o (.dK kvs)))
theorem pe_lockD {X : Cx} {e : Expr} {t : TE} (h : PE X e t) : PE X e (tLockD t) := ⟨fun pins s σ H Q I q => thn (h.run pins s σ H _ I q) fun u s1 ⟨x, H1, I1, rx, D, kvs, ex, hd, q⟩ => by
  obtain ⟨o, I2⟩ := I1.lock hd True.intro
  exact ⟨x, _, I2, rx, q o⟩⟩
theorem dc_read {cl : String → Addr} {W : XK} {src : En → R (List D)} {g : Tg} {sl : List Nat} {t : En → R Bool} {mk mv : En → R D} {vs : List Nat} {K : PySem.W.Frag} {σ : St} {H : Hp} {Q : VK} (hsl : ∀ i ∈ sl, i ∈ vs) (h : tM cl W K (poD K) (dcD g src t mk mv vs) σ H Q) :
    tLockD (tDc (tI cl W K true src) (tGp K g sl) (tMB cl E0 K t) (tM cl E0 K (poD K) mk) (tM cl E0 K (poD K) mv) vs) σ H Q := by
  obtain ⟨F0, H0, ρ, F, okk, h⟩ := h
  refine ⟨F0, H0, ρ, F, okk, ?_⟩
  have h : tR cl W (poD K) ((src ρ).bind fun xs => if small xs = true then (dcL g t mk mv (wipeE ρ vs) xs []).calm.bind fun r => .ok (.dict r) else .no) F H Q := h
  cases hr : src ρ with
  | no => rw [hr] at h; exact h
  | ex c n => rw [hr] at h; exact h
  | ok xs =>
    rw [hr] at h
    have h : tR cl W (poD K) (if small xs = true then (dcL g t mk mv (wipeE ρ vs) xs []).calm.bind fun r => .ok (.dict r) else .no) F H Q := h
    intro J F1 H1 e1 w Dd nD
    have w : Walk K J F1 H1 xs := w
    split at h
    case isFalse => exact False.elim h
    case isTrue hsm =>
    have hxs : xs.length ≤ sizeLine := of_decide_eq_true hsm
    cases hl : dcL g t mk mv (wipeE ρ vs) xs [] with
    | no => rw [hl] at h; exact False.elim h
    | ex c n => rw [hl] at h; exact False.elim h
    | ok tot =>
      rw [hl] at h
      have h : tR cl W (poD K) (.ok (.dict tot)) F H Q := h
      have okw : ∀ {F' H' : Hp}, Ext F1 H1 F' H' → Ok K F0 H0 (wipeE ρ vs) F' (L2.wipe σ vs) H' := fun ex => ((okk.grow e1).grow ex).wipe vs
      refine ⟨fun i m Hi => m = xs.length - i ∧ i ≤ xs.length ∧ ∃ Fi acc ds, Ext F1 H1 Fi Hi ∧ Fi Dd = none ∧ Hi Dd = some (.dK acc) ∧ RpK K Fi acc ds ∧ ds.length ≤ i ∧ dcL g t mk mv (wipeE ρ vs) (xs.drop i) ds = .ok tot,
        ⟨_, rfl, Nat.zero_le _, F1, [], [], Ext.grow e1.sub nD, e1.sub.none nD, upd_same, .nil, Nat.zero_le _, hl⟩, ?_⟩
      rintro i m Hi ⟨rfl, hi, Fi, acc, ds, ex, fD, hD, ra, hle, hlr⟩
      by_cases hlt : i < xs.length
      · have hd : xs.drop i = xs[i] :: xs.drop (i + 1) := List.drop_eq_getElem_cons hlt
        rw [hd, dcL_cons] at hlr
        obtain ⟨g1, g2⟩ := w.go i Fi Hi ex.le ex.sub ex.keep xs[i] (by simp [hlt])
        refine .inr ⟨g1, fun H' => ∃ Fi acc ds, Ext F1 H1 Fi H' ∧ Fi Dd = none ∧ H' Dd = some (.dK acc) ∧ RpK K Fi acc ds ∧ ds.length ≤ i + 1 ∧ dcL g t mk mv (wipeE ρ vs) (xs.drop (i + 1)) ds = .ok tot, fun H' q => ⟨xs.length - (i + 1), by omega, rfl, hlt, q⟩, fun x H'' y => ?_⟩
        obtain ⟨F'', e2, rx⟩ := g2 x H'' y
        have ex2 := ex.trans e2
        have keepD : ∀ {Fa Ha Fb Hb : Hp}, Ext Fa Ha Fb Hb → Fa Dd = none → Ha Dd = some (.dK acc) → Fb Dd = none ∧ Hb Dd = some (.dK acc) := fun {Fa Ha Fb Hb} ee n1 n2 => by
          refine ⟨?_, ee.keep _ _ n2⟩
          cases q : Fb Dd with
          | none => rfl
          | some o =>
            rcases ee.new Dd o q with z | z
            · rw [n1] at z; cases z
            · rw [n2] at z; cases z
        obtain ⟨fD2, hD2⟩ := keepD e2 fD hD
        refine ⟨F0, H0, wipeE ρ vs, F'', xs[i], okw ex2, rx, ?_⟩
        cases hg1 : g xs[i] (wipeE ρ vs) with
        | none => rw [hg1] at hlr; cases hlr
        | some ρ1 =>
          rw [hg1] at hlr
          have hlr : ((t ρ1).bind fun k => if k = true then (mk ρ1).bind fun y => (mv ρ1).bind fun z => match keyOf y with
            | some _ => dcL g t mk mv (wipeE ρ vs) (xs.drop (i + 1)) (putD ds y z)
            | none => .no
            else dcL g t mk mv (wipeE ρ vs) (xs.drop (i + 1)) ds) = .ok tot := hlr
          intro σ2 ok2 w2
          have ww : L2.wipe (L2.wipe σ vs) vs = L2.wipe σ vs := by
            have key : ∀ (us : List Nat) (τ : St), (∀ i ∈ us, i ∈ vs) → L2.wipe (L2.wipe τ us) vs = L2.wipe τ vs := by
              intro us
              induction us with
              | nil => intro τ _; rfl
              | cons u us ih =>
                intro τ hu
                show L2.wipe ((L2.wipe τ us).set u none) vs = L2.wipe τ vs
                rw [wipe_set_in (hu u (by simp))]
                exact ih τ fun i hi => hu i (by simp [hi])
            exact key vs σ fun _ h => h
          refine ⟨(w2 vs hsl).trans ww, F0, H0, ρ1, F'', ok2, ?_⟩
          cases ht1 : t ρ1 with
          | no => rw [ht1] at hlr; cases hlr
          | ex c n => rw [ht1] at hlr; cases hlr
          | ok k =>
            rw [ht1] at hlr
            intro F3 H3 e3
            obtain ⟨fD3, hD3⟩ := keepD e3 fD2 hD2
            have ex3 := ex2.trans e3
            cases k with
            | false =>
              rw [if_neg Bool.false_ne_true]
              exact ⟨F3, acc, ds, ex3, fD3, hD3, ra.mono (e2.le.trans e3.le), by omega, hlr⟩
            | true =>
              rw [if_pos rfl]
              have hlr : ((mk ρ1).bind fun y => (mv ρ1).bind fun z => match keyOf y with
                | some _ => dcL g t mk mv (wipeE ρ vs) (xs.drop (i + 1)) (putD ds y z)
                | none => .no) = .ok tot := hlr
              refine ⟨F0, H0, ρ1, F3, ok2.grow e3, ?_⟩
              cases hmk : mk ρ1 with
              | no => rw [hmk] at hlr; cases hlr
              | ex c n => rw [hmk] at hlr; cases hlr
              | ok y =>
                rw [hmk] at hlr
                have hlr : ((mv ρ1).bind fun z => match keyOf y with
                  | some _ => dcL g t mk mv (wipeE ρ vs) (xs.drop (i + 1)) (putD ds y z)
                  | none => .no) = .ok tot := hlr
                intro v F4 H4 e4 p4
                obtain ⟨fD4, hD4⟩ := keepD e4 fD3 hD3
                refine ⟨F0, H0, ρ1, F4, (ok2.grow e3).grow e4, ?_⟩
                cases hmv : mv ρ1 with
                | no => rw [hmv] at hlr; cases hlr
                | ex c n => rw [hmv] at hlr; cases hlr
                | ok z =>
                  rw [hmv] at hlr
                  intro v5 F5 H5 e5 p5
                  obtain ⟨fD5, hD5⟩ := keepD e5 fD4 hD4
                  have ex5 := (ex3.trans e4).trans e5
                  cases hk : keyOf y with
                  | none =>
                    have hlr : (match keyOf y with
                      | some _ => dcL g t mk mv (wipeE ρ vs) (xs.drop (i + 1)) (putD ds y z)
                      | none => .no) = .ok tot := hlr
                    rw [hk] at hlr; cases hlr
                  | some κ =>
                    have hlr : (match keyOf y with
                      | some _ => dcL g t mk mv (wipeE ρ vs) (xs.drop (i + 1)) (putD ds y z)
                      | none => .no) = .ok tot := hlr
                    rw [hk] at hlr
                    have hlr : dcL g t mk mv (wipeE ρ vs) (xs.drop (i + 1)) (putD ds y z) = .ok tot := hlr
                    have p4 : Rp K F4 v y := p4
                    have p5 : Rp K F5 v5 z := p5
                    have hv := keyV hk p4
                    obtain rfl := keyOf_some hk
                    have r5 : RpK K F5 acc ds := ra.mono (((e2.le.trans e3.le).trans e4.le).trans e5.le)
                    refine ⟨acc, κ, hv, hD5, ?_, F5, putK acc κ v5, putD ds (kD κ) z, ⟨ex5.le, ex5.sub.upd fD5, ex5.keep.upd (Le.none (Le.refl H1) nD), ex5.new⟩, fD5, upd_same, put_rel r5 p5, ?_, hlr⟩
                    · rw [ra.length]; omega
                    · have := putD_len (ds := ds) (k := kD κ) (v := z); omega
      · have e : i = xs.length := by omega
        subst e
        rw [List.drop_length] at hlr
        have hlr : ds = tot := by
          have z : R.ok ds = R.ok tot := hlr
          injection z
        subst hlr
        have eh : Ext F H Fi Hi := e1.trans ex
        refine .inl ⟨w.stop _ Fi Hi ex.le ex.sub ex.keep (Nat.le_refl _), Dd, acc, rfl, hD, fun o => ?_⟩
        have nH : H Dd = none := e1.keep.none nD
        have nF : F Dd = none := eh.le.none fD
        refine h _ (upd Fi Dd (.frz o (.dK acc))) _ ⟨eh.le.upd nF, fun b u q => ?_, eh.keep.upd nH, fun b u q => ?_⟩ (.dct upd_same (ra.mono ((Le.refl Fi).upd fD)))
        · by_cases n : b = Dd
          · subst n; rw [upd_same] at q ⊢; exact q
          · rw [upd_ne n] at q ⊢; exact eh.sub _ _ q
        · by_cases n : b = Dd
          · subst n; exact .inr nH
          · rw [upd_ne n] at q; exact eh.new _ _ q
section
variable {X : Cx} {cl : String → Addr} {W : XK} {pos : Pos}
theorem pd_dc {kx vx tg iter : Expr} {ifs : List Expr} {scope : Scope} {own : List (Str × Nat)} {src : En → R (List D)} {g : Tg} {sl : List Nat} {t : En → R Bool} {mk mv : En → R D} (hc : X.calm = true) (hN : X.N.Nodup) (hi : PSr X cl W true tg iter src) (ok : BlkOk X.N X.env.scope scope own)
    (hsl : ∀ i ∈ sl, i ∈ own.map (·.2))
    (hg : ∀ (s : Shared) (H : Hp) (C : Addr) (cs : List (Str × Addr)) (fp : List Addr), PGp (X.blk s H scope (compEnvC scope cs C X.env) fp) tg g sl) (ht : ∀ (s : Shared) (H : Hp) (C : Addr) (cs : List (Str × Addr)) (fp : List Addr), PTm (X.blk s H scope (compEnvC scope cs C X.env) fp) cl E0 ifs t)
    (hk : ∀ (s : Shared) (H : Hp) (C : Addr) (cs : List (Str × Addr)) (fp : List Addr), PD (X.blk s H scope (compEnvC scope cs C X.env) fp) cl E0 kx mk)
    (he : ∀ (s : Shared) (H : Hp) (C : Addr) (cs : List (Str × Addr)) (fp : List Addr), PD (X.blk s H scope (compEnvC scope cs C X.env) fp) cl E0 vx mv) (hs : ∀ x, foldedSetIterable iter X.env x = pure x := by intro _; rfl) :
    PD X cl W (.DictComp kx vx [⟨tg, iter, ifs, 0⟩] scope pos) (dcD g src t mk mv (own.map (·.2))) :=
  PE.imp (pe_lockD (pe_dc (g := tGp X.K g sl) (tt := tMB cl E0 X.K t) (tk := tM cl E0 X.K (poD X.K) mk) (tv := tM cl E0 X.K (poD X.K) mv) hc hN hi ok hg ht hk he hs)) fun σ H Q h => dc_read hsl h
end
end Mir
/-! A call (or any expression) that looks at an own list as data; the list stays own: its value holds no list. list + list as a new list. -/
namespace Mir
open PySem PySem.Spec PyProof.Rows L2
/-- no list and no dict in it -/
noncomputable def nl (k : Nat) : D → Bool := Nat.rec (fun _ => false) (fun _ ih d => match d with
  | .none => true
  | .bool _ => true
  | .int _ => true
  | .str _ => true
  | .tuple xs => List.rec true (fun x _ a => ih x && a) xs
  | _ => false) k
noncomputable def nlA (k : Nat) (xs : List D) : Bool := List.rec true (fun x _ a => nl k x && a) xs
def del (F : Hp) (a : Addr) : Hp := fun b => if b = a then none else F b
theorem del_ne {F : Hp} {a b : Addr} (h : b ≠ a) : del F a b = F b := if_neg h
theorem del_same {F : Hp} {a : Addr} : del F a a = none := if_pos rfl
section
variable {K : PySem.W.Frag} {F : Hp} {a : Addr} {us : List V}
theorem SqT.del {b : Addr} {vs : List V} (ha : F a = some (.lst us)) (h : SqT K F b vs) : SqT K (del F a) b vs := by
  have key : ∀ {o : HO}, F b = some o → (∀ z, o ≠ .lst z) → Mir.del F a b = some o := fun {o} e n => by
    have : b ≠ a := fun z => by subst z; rw [ha] at e; cases e; exact n _ rfl
    rw [del_ne this]; exact e
  rcases h with (h | ⟨o, h⟩) | h
  · exact .inl (.inl (key h fun _ z => by cases z))
  · exact .inl (.inr ⟨o, key h fun _ z => by cases z⟩)
  · exact .inr h
mutual
theorem Rp.del : ∀ (k : Nat) (d : D) {v : V}, F a = some (.lst us) → nl k d = true → Rp K F v d → Rp K (del F a) v d
  | 0, _, _, _, h, _ => by cases h
  | k + 1, .none, _, _, _, r => by cases r; exact .non
  | k + 1, .bool b, _, _, _, r => by cases r; exact .bl b
  | k + 1, .int i, _, _, _, r => by cases r; exact .int i
  | k + 1, .str x, _, _, _, r => by cases r; exact .str x
  | k + 1, .list _, _, _, h, _ => by cases h
  | k + 1, .tuple ds, _, ha, h, r => by
    obtain ⟨p, xs, rfl, s, r⟩ := Rp.inv_tup r
    exact .tup (SqT.del ha s) (RpA.del k ds ha h r)
  | k + 1, .dict _, _, _, h, _ => by cases h
theorem RpA.del : ∀ (k : Nat) (ds : List D) {vs : List V}, F a = some (.lst us) → nlA k ds = true → RpA K F vs ds → RpA K (del F a) vs ds
  | _, [], _, _, _, r => by cases r; exact .nil
  | k, d :: ds, _, ha, h, r => by
    have h : (nl k d && nlA k ds) = true := h
    obtain ⟨h1, h2⟩ := He.ba h
    cases r with
    | cons r1 r2 => exact .cons (Rp.del k d ha h1 r1) (RpA.del k ds ha h2 r2)
end
end
theorem Ok.frz2 {K : PySem.W.Frag} {F0 H0 F H : Hp} {ρ : En} {σ : St} (h : Ok K F0 H0 ρ F σ H) {i : Nat} {xs : List D} (hi : ρ[i]? = some (.ce xs)) : ∃ a vs, F a = none ∧ H a = some (.lst vs) ∧ Ok K F0 H0 (ρ.set i (.da (.list xs))) (upd F a (.lst vs)) σ H := by
  obtain ⟨a, vs, e1, e2, e3, e4, e5⟩ := h.ce hi
  have hlt : i < ρ.length := (List.getElem?_eq_some_iff.mp hi).1
  have le : Le F (upd F a (.lst vs)) := (Le.refl F).upd e3
  obtain ⟨F2, le2, ok2⟩ := h.frz hi
  have hs := ok2.sl i (.da (.list xs)) (List.getElem?_set_self hlt)
  refine ⟨a, vs, e3, e2, by simpa using h.len, ⟨h.ext.le.trans le, fun b o q => ?_, h.ext.keep, fun b o q => ?_⟩, h.low, fun j s q => ?_, let ⟨f, hf⟩ := h.own; ⟨f, fun j s q => ?_⟩⟩
  · by_cases z : b = a
    · subst z; rw [upd_same] at q; cases q; exact e2
    · rw [upd_ne z] at q; exact h.ext.sub b o q
  · by_cases z : b = a
    · subst z; exact .inr e4
    · rw [upd_ne z] at q; exact h.ext.new b o q
  · by_cases hj : i = j
    · subst hj
      rw [List.getElem?_set_self hlt] at q
      cases q
      exact ⟨_, e1, .lst upd_same (e5.mono le)⟩
    · rw [List.getElem?_set_ne hj] at q
      have z := h.sl j s q
      cases s with
      | un => trivial
      | da d => obtain ⟨v, f1, f2⟩ := z; exact ⟨v, f1, f2.mono le⟩
      | ce us =>
        obtain ⟨b, vs', f1, f2, f3, f4, f5⟩ := z
        refine ⟨b, vs', f1, f2, ?_, f4, f5.mono le⟩
        have : b ≠ a := fun e => by subst e; exact hj (h.apart i j xs us b hi q e1 f1)
        rw [upd_ne this]; exact f3
      | er a dx n => exact ⟨z.1, le _ _ z.2⟩
      | sc ns => obtain ⟨b, f1, f2⟩ := z; exact ⟨b, f1, le.sql f2⟩
      | dd kvs =>
        obtain ⟨b, ks, f1, f2, f3, f4, f5⟩ := z
        refine ⟨b, ks, f1, f2, ?_, f4, f5.mono le⟩
        have : b ≠ a := fun e => by subst e; rw [e2] at f2; cases f2
        rw [upd_ne this]; exact f3
      | dk b kvs =>
        obtain ⟨f1, f2, f3, f4⟩ := z
        refine ⟨f1, f2, ?_, f4.mono le rfl⟩
        have : b ≠ a := fun e => by
          subst e
          obtain ⟨_, es, f5, _⟩ := f4
          rw [e2] at f5; cases f5
        rw [upd_ne this]; exact f3
      | ow us => trivial
      | cc us => trivial
  · have fa : f a = i := (hf i _ hi) a e1
    by_cases hj : i = j
    · subst hj
      rw [List.getElem?_set_self hlt] at q
      cases q
      exact fun _ y => y.elim
    · rw [List.getElem?_set_ne hj] at q
      exact (hf j s q).to le (fun b u x1 x2 x3 x4 => by
        have n : b ≠ a := fun y => by subst y; exact hj (fa.symm.trans x1)
        exact ⟨x4, by rw [upd_ne n]; exact x2, x3, x1⟩) fun _ _ x => x
section
variable {X : Cx} {cl : String → Addr} {W : XK} {e a b : Expr} {pos : Pos}
noncomputable def thwF (k i : Nat) (m : En → R (List D)) : En → R (List D) := fun ρ => match nth ρ i with
  | .ce _ => (m (frzE i ρ)).bind fun xs => if nlA k xs = true then .ok xs else .no
  | _ => m ρ
noncomputable def thwD (k i : Nat) (m : En → R D) : En → R D := fun ρ => match nth ρ i with
  | .ce _ => (m (frzE i ρ)).bind fun d => if nl k d = true then .ok d else .no
  | _ => m ρ
theorem ext_del {F H F' H' : Hp} {a : Addr} {u : HO} (e : Ext (upd F a u) H F' H') (fa : F a = none) : Ext F H (del F' a) H' where
  le := fun b o q => by
    have n : b ≠ a := fun z => by subst z; rw [fa] at q; cases q
    rw [del_ne n]; exact e.le _ _ (by rw [upd_ne n]; exact q)
  sub := fun b o q => by
    by_cases n : b = a
    · subst n; rw [del_same] at q; cases q
    · rw [del_ne n] at q; exact e.sub _ _ q
  keep := e.keep
  new := fun b o q => by
    by_cases n : b = a
    · subst n; rw [del_same] at q; cases q
    · rw [del_ne n] at q
      rcases e.new b o q with z | z
      · rw [upd_ne n] at z; exact .inl z
      · exact .inr z
theorem pd_thaw {m : En → R D} (k i : Nat) (h : PD X cl W e m) : PD X cl W e (thwD k i m) := by
  refine PE.imp h fun σ H Q ⟨F0, H0, ρ, F, ok, q⟩ => ?_
  have q : tR cl W (poD X.K) (match nth ρ i with
    | .ce _ => (m (frzE i ρ)).bind fun d => if nl k d = true then .ok d else .no
    | _ => m ρ) F H Q := q
  cases hx : nth ρ i with
  | ce xs =>
    rw [hx] at q
    have q : tR cl W (poD X.K) ((m (frzE i ρ)).bind fun d => if nl k d = true then .ok d else .no) F H Q := q
    have ef : frzE i ρ = ρ.set i (.da (.list xs)) := by unfold frzE; rw [hx]; exact setE_eq _ _ _
    rw [ef] at q
    obtain ⟨a, vs, fa, hh, ok2⟩ := ok.frz2 (nth_ce hx)
    refine ⟨F0, H0, _, _, ok2, ?_⟩
    cases hr : m (ρ.set i (.da (.list xs))) with
    | ok d =>
      rw [hr] at q
      have q : tR cl W (poD X.K) (if nl k d = true then .ok d else .no) F H Q := q
      split at q
      · rename_i hn
        intro v F' H' ee p
        have fa' : F' a = some (.lst vs) := ee.le _ _ upd_same
        exact q v (del F' a) H' (ext_del ee fa) (Rp.del k d fa' hn p)
      · exact q.elim
    | ex c n => rw [hr] at q; exact q
    | no => rw [hr] at q; exact q
  | _ =>
    rw [hx] at q
    exact ⟨F0, H0, ρ, F, ok, q⟩
theorem pf_thaw {m : En → R (List D)} (k i : Nat) (h : PF X cl W e m) : PF X cl W e (thwF k i m) := by
  refine PE.imp h fun σ H Q ⟨F0, H0, ρ, F, ok, q⟩ => ?_
  have q : tR cl W (poF X.K) (match nth ρ i with
    | .ce _ => (m (frzE i ρ)).bind fun xs => if nlA k xs = true then .ok xs else .no
    | _ => m ρ) F H Q := q
  cases hx : nth ρ i with
  | ce xs =>
    rw [hx] at q
    have q : tR cl W (poF X.K) ((m (frzE i ρ)).bind fun xs => if nlA k xs = true then .ok xs else .no) F H Q := q
    have ef : frzE i ρ = ρ.set i (.da (.list xs)) := by unfold frzE; rw [hx]; exact setE_eq _ _ _
    rw [ef] at q
    obtain ⟨a, vs, fa, hh, ok2⟩ := ok.frz2 (nth_ce hx)
    refine ⟨F0, H0, _, _, ok2, ?_⟩
    cases hr : m (ρ.set i (.da (.list xs))) with
    | ok ys =>
      rw [hr] at q
      have q : tR cl W (poF X.K) (if nlA k ys = true then .ok ys else .no) F H Q := q
      split at q
      · rename_i hn
        intro v F' H' ee ⟨p, us, e1, e2, e3, e4, e5⟩
        have fa' : F' a = some (.lst vs) := ee.le _ _ upd_same
        have np : p ≠ a := fun z => by subst z; rw [fa'] at e3; cases e3
        exact q v (del F' a) H' (ext_del ee fa) ⟨p, us, e1, e2, by rw [del_ne np]; exact e3, e4, RpA.del k ys fa' hn e5⟩
      · exact q.elim
    | ex c n => rw [hr] at q; exact q
    | no => rw [hr] at q; exact q
  | _ =>
    rw [hx] at q
    exact ⟨F0, H0, ρ, F, ok, q⟩
/-! ### list + list -/
noncomputable def poO (K : PySem.W.Frag) : Po (List D) := fun _ xs v F' H' => ∃ a vs, v = .ref a ∧ H' a = some (.lst vs) ∧ RpA K F' vs xs
theorem anti_O {K : PySem.W.Frag} : Anti (poO K) := fun _ _ _ _ _ _ _ h => h
noncomputable def PO (X : Cx) (cl : String → Addr) (W : XK) (e : Expr) (m : En → R (List D)) : Prop := PE X e (tM cl W X.K (poO X.K) m)
theorem po_c {i : Nat} (h : PE X e (tVar i)) : PO X cl W e (getc i) := PE.imp h fun σ H Q ⟨F0, H0, ρ, F, ok, q⟩ => by
  have q : tR cl W (poO X.K) (getc i ρ) F H Q := q
  unfold getc at q
  cases hx : nth ρ i with
  | ce d =>
    rw [hx] at q
    obtain ⟨a, vs, h1, h2, h3, h4, h5⟩ := ok.ce (nth_ce hx)
    exact ⟨_, h1, q _ F H (Ext.refl ok.sub) ⟨a, vs, rfl, h2, h5⟩⟩
  | _ => rw [hx] at q; exact False.elim q
theorem po_d {m : En → R D} (h : PD X cl W e m) : PO X cl W e (asL m) := PE.imp h fun σ H Q ⟨F0, H0, ρ, F, ok, q⟩ => by
  have q : tR cl W (poO X.K) ((m ρ).bind asList) F H Q := q
  refine ⟨F0, H0, ρ, F, ok, (tR.bind (P := poD X.K) anti_O q).imp fun v H1 ⟨F1, d, e1, p1, h1⟩ => ?_⟩
  cases d with
  | list xs =>
    obtain ⟨a, vs, rfl, s, r⟩ := Rp.inv_list p1
    exact h1 _ F1 H1 (Ext.refl e1.sub) ⟨a, vs, rfl, e1.sub _ _ s, r⟩
  | _ => exact False.elim h1
theorem po_f {m : En → R (List D)} (h : PF X cl W e m) : PO X cl W e m := PE.imp h fun σ H Q ⟨F0, H0, ρ, F, ok, q⟩ => by
  refine ⟨F0, H0, ρ, F, ok, ?_⟩
  have q : tR cl W (poO X.K) (m ρ) F H Q := q
  cases hr : m ρ with
  | ok xs =>
    rw [hr] at q
    exact fun v F' H' ee ⟨p, us, e1, e2, e3, e4, e5⟩ => q v F' H' ee ⟨p, us, e1, e4, e5⟩
  | ex c n => rw [hr] at q; exact q
  | no => rw [hr] at q; exact q
noncomputable def catF (ma mb : En → R (List D)) : En → R (List D) := fun ρ => (ma ρ).bind fun xs => (mb ρ).bind fun ys => if small (xs ++ ys) = true then .ok (xs ++ ys) else .no
theorem pf_cat {ma mb : En → R (List D)} (ha : PO X cl W a ma) (hb : PO X cl W b mb) : PF X cl W (.BinOp a .Add b pos) (catF ma mb) := by
  refine PE.imp (pe_op op_cat ha hb) fun σ H Q ⟨F0, H0, ρ, F, ok, h⟩ => ?_
  refine ⟨F0, H0, ρ, F, ok, (tR.bind (P := poO X.K) anti_F h).imp fun v H1 ⟨F1, xs, e1, ⟨p, vs, hv, hp, r1⟩, h1⟩ => ?_⟩
  refine ⟨F0, H0, ρ, F1, ok.grow e1, (tR.bind (P := poO X.K) anti_F h1).imp fun u H2 ⟨F2, ys, e2, ⟨p', vs', hv', hp', r2⟩, h2⟩ => ?_⟩
  have h2 : tR cl W (poF X.K) (if small (xs ++ ys) = true then .ok (xs ++ ys) else .no) F2 H2 Q := h2
  split at h2
  · rename_i hz
    have hz : (xs ++ ys).length ≤ sizeLine := of_decide_eq_true hz
    refine ⟨p, p', vs, vs', hv, hv', e2.keep _ _ hp, hp', by rw [r1.length, r2.length, ← List.length_append]; exact hz, fun q nq => ?_⟩
    exact h2 _ F2 _ (Ext.grow e2.sub (o := .lst (vs ++ vs')) nq) ⟨q, _, rfl, nq, e2.sub.none nq, upd_same, (r1.mono e2.le).append r2⟩
  · exact h2.elim
end
end Mir
/-! range(a, b, -1). -/
namespace Mir
open PySem PySem.Spec PyProof.Rows L2
noncomputable def rngC (lo c : Int) (n : Nat) : List D := (List.range n).map fun (i : Nat) => PyData.int (lo + (i : Int) * c)
theorem walk_rangeC {K : PySem.W.Frag} {lo c : Int} {n : Nat} {F1 G : Hp} : Walk K (Itc lo c n) F1 G (rngC lo c n) where
  go := fun i F' H' l1 l2 l3 d hd => by
    unfold rngC at hd
    rw [List.getElem?_map] at hd
    cases q : (List.range n)[i]? with
    | none => rw [q] at hd; cases hd
    | some k =>
      rw [q] at hd
      obtain ⟨h1, h2⟩ := List.getElem?_eq_some_iff.mp q
      rw [List.getElem_range] at h2
      subst h2
      have hlt : i < n := by simpa using h1
      refine ⟨hlt, fun x H'' y => ?_⟩
      obtain ⟨rfl, rfl⟩ := y
      have hd : PyData.int (lo + (i : Int) * c) = d := Option.some.inj hd
      subst hd
      exact ⟨F', Ext.refl l2, .int _⟩
  stop := fun i F' H' l1 l2 l3 hl => by
    have : (rngC lo c n).length = n := by unfold rngC; simp
    rw [this] at hl
    exact hl
noncomputable def rngDn (ma mb : En → R D) : En → R (List D) := fun ρ => (ma ρ).bind fun d => (mb ρ).bind fun e => match d, e with
  | .int i, .int j => if (-(2 ^ 62) ≤ i ∧ i < 2 ^ 62) ∧ -(2 ^ 62) ≤ j ∧ j < 2 ^ 62 then .ok (rngC i (-1) (i - j).toNat) else .no
  | _, _ => .no
section
variable {X : Cx} {cl : String → Addr} {W : XK} {a b c tg : Expr} {pos : Pos}
theorem sr_rDn {p : Pos} {ma mb : En → R D} (hg : Gl X "range") (hm : X.mg "range" = none) (ha : PD X cl W a ma) (hb : PD X cl W b mb) (hc : PD X cl W c (cst (.int (-1))))
    (hs1 : starEach [a, b, c] X.env = (false, eval a X.env) :: starEach [b, c] X.env := by rfl) (hs2 : starEach [b, c] X.env = (false, eval b X.env) :: starEach [c] X.env := by rfl) (hs3 : starEach [c] X.env = (false, eval c X.env) :: starEach [] X.env := by rfl)
    (hpl : (backTo pos (starEach [b, c] X.env)).any (·.1) = false := by rfl) : PSr X cl W false tg (.Call (.Name "range" p) [a, b, c] [] pos) (rngDn ma mb) := by
  refine PI.imp (pi_range3 hg hm (pa_cons ha (pa_cons hb (pa_one hc hs3) hs2) hs1) hs1 hpl) fun σ H Rr ⟨F0, H0, ρ, F, ok, q⟩ => ⟨F0, H0, ρ, F, ok, ?_⟩
  refine tRI.bind q fun v F1 H1 d e1 p1 q1 => ⟨F0, H0, ρ, F1, ok.grow e1, ?_⟩
  refine tRI.bind q1 fun u F2 H2 c e2 p2 q2 => ⟨F0, H0, ρ, F2, (ok.grow e1).grow e2, ?_⟩
  intro w F3 H3 e3 p3
  obtain rfl := Rp.inv_int p3
  cases d with
  | int i =>
    cases c with
    | int j =>
      obtain rfl := Rp.inv_int p1
      obtain rfl := Rp.inv_int p2
      have q2 : tRI cl W X.K false (if (-(2 ^ 62) ≤ i ∧ i < 2 ^ 62) ∧ -(2 ^ 62) ≤ j ∧ j < 2 ^ 62 then R.ok (rngC i (-1) (i - j).toNat) else .no) F2 H2 Rr := q2
      split at q2
      · rename_i hj
        exact ⟨i, j, -1, (i - j).toNat, rfl, RgC.neg hj.1.1 hj.1.2 hj.2.1 hj.2.2, q2 (Itc i (-1) (i - j).toNat) F3 H3 e3 walk_rangeC⟩
      · exact False.elim q2
    | _ => exact False.elim q2
  | _ =>
    cases c <;> exact False.elim q2
end
end Mir
/-! l.insert(0, x), y = l.pop() on an own list. -/
namespace Mir
open PySem PySem.Spec PyProof.Rows L2
section
variable {X : Cx} {cl : String → Addr} {W : XK} {o a e : Expr} {pos cpos apos p2 : Pos} {i : Nat}
noncomputable def insS (i : Nat) (ma m : En → R D) : En → R Fl := fun ρ => match nth ρ i with
  | .ce xs => (ma ρ).bind fun k => (m ρ).bind fun d => match k with
    | .int z => if z = 0 ∧ xs.length < sizeLine then .ok (.nx (setE ρ i (.ce (d :: xs)))) else .no
    | _ => .no
  | _ => .no
theorem st_ins {ma m : En → R D} (ho : PE X o (tVar i)) (ha : PD X cl W a ma) (he : PD X cl W e m) (hbase : attributeBase o "insert" X.env (eval o X.env) = eval o X.env := by rfl)
    (hfew : ((backTo cpos (starEach (a :: [e]) X.env)).all (fun x => !x.1) && (backToKw cpos (keywordEach [] X.env)).all (fun x => x.1.isSome)
      && decide ((a :: [e]).length + ([] : List Keyword).length + (if ([] : List Keyword).isEmpty then 0 else 1) < 30)) = true := by rfl)
    (hline : (apos.endLine == cpos.line) = true := by rfl) (hs : starEach (a :: [e]) X.env = (false, eval a X.env) :: starEach [e] X.env := by rfl) (hs2 : starEach (e :: []) X.env = (false, eval e X.env) :: starEach [] X.env := by rfl) (hplain : (backTo cpos (starEach [e] X.env)).any (·.1) = false := by rfl)
    (hsw : swapsWith (.Call (.Attribute o "insert" apos) [a, e] [] cpos) none p2.line X.env = pure false := by rfl) :
    PSt X cl W (.Expr (.Call (.Attribute o "insert" apos) [a, e] [] cpos) p2) (insS i ma m) := by
  refine PS.imp (ps_expr (pe_bm PySem.F.plainAttrs_list PySem.F.slot_list_insert PySem.F.type_list_insert mt_insert ho (pa_cons ha (pa_one he hs2) hs) hbase hfew hline hs hplain) hsw) fun σ H Q ⟨F0, H0, ρ, F, ok, h⟩ => ?_
  unfold insS at h
  cases hx : nth ρ i with
  | ce xs =>
    rw [hx] at h
    obtain ⟨b, vs, h1, h2, h3, h4, h5⟩ := ok.ce (nth_ce hx)
    refine ⟨_, h1, .inl ⟨rfl, _, .inl (.inl h2)⟩, F0, H0, ρ, F, ok, tRS.expr h ok.ext.keep fun u F1 H1 k e1 p1 h1' => ⟨F0, H0, ρ, F1, ok.grow e1, tRS.expr h1' (ok.grow e1).ext.keep fun v F2 H2 d e2 p2 h2' => ?_⟩⟩
    cases k with
    | int z =>
      have h3' : tRS cl W X.K F0 H0 F2 (if z = 0 ∧ xs.length < sizeLine then .ok (.nx (setE ρ i (.ce (d :: xs)))) else .no) Q := h2'
      split at h3'
      · rename_i hz
        obtain ⟨rfl, hz⟩ := hz
        obtain rfl := Rp.inv_int p1
        refine ⟨b, vs, 0, v, rfl, rfl, e2.keep _ _ (e1.keep _ _ h2), by rw [h5.length]; exact hz, by decide, by decide, ?_⟩
        have p2 : Rp X.K F2 v d := p2
        exact h3' σ F2 _ (by rw [setE_eq]; exact (((ok.grow e1).grow e2).write (nth_ce hx) h1 (.cons p2 ((h5.mono e1.le).mono e2.le)))) (Le.refl _)
      · exact h3'.elim
    | _ => exact h2'.elim
  | _ => rw [hx] at h; exact h.elim
/-- y = l.pop() -/
noncomputable def popK : List D → Option (List D × D) := fun xs => match xs.getLast? with
  | some d => some (xs.dropLast, d)
  | none => none
noncomputable def popS (j i : Nat) : En → R Fl := fun ρ => match nth ρ i with
  | .ce xs => match popK xs with
    | some (ys, d) => .ok (.nx (setE (setE ρ i (.ce ys)) j (.da d)))
    | none => .no
  | _ => .no
theorem RpA.get_some {K : PySem.W.Frag} {F : Hp} : ∀ {vs : List V} {ds : List D} {n : Nat} {d : D}, RpA K F vs ds → ds[n]? = some d → ∃ v, vs[n]? = some v ∧ Rp K F v d
  | _, _, _, _, .nil, h => by simp at h
  | _, _, 0, _, .cons r _, h => by simp at h; subst h; exact ⟨_, rfl, r⟩
  | _, _, n + 1, _, .cons _ t, h => by
    obtain ⟨v, a, b⟩ := RpA.get_some t (by simpa using h)
    exact ⟨v, by simpa using a, b⟩
theorem RpA.dropLast {K : PySem.W.Frag} {F : Hp} : ∀ {vs : List V} {ds : List D}, RpA K F vs ds → RpA K F vs.dropLast ds.dropLast
  | _, _, .nil => .nil
  | _, _, .cons _ .nil => .nil
  | _, _, .cons r (.cons r2 t) => .cons r (RpA.dropLast (.cons r2 t))
theorem st_pop {j : Nat} {y : Str} {pos' pos2 : Pos} (hij : i ≠ j) (hN : X.N.Nodup) (hi : X.N[j]? = some y) (hx : Loc X.env.scope y) (ho : PE X o (tVar i)) (hbase : attributeBase o "pop" X.env (eval o X.env) = eval o X.env := by rfl) (hline : (apos.endLine == cpos.line) = true := by rfl)
    (hs : swapsWith (.Call (.Attribute o "pop" apos) [] [] cpos) (some (.Name y pos')) pos2.line X.env = pure false := by rfl) (hf : X.fn y = true ∨ X.env.scope.names.lookup y = some .local := by first | exact .inl rfl | exact .inr rfl | assumption) :
    PSt X cl W (.Assign [.Name y pos'] (.Call (.Attribute o "pop" apos) [] [] cpos) pos2) (popS j i) := by
  refine PS.imp (ps_set hN hi hx (pe_bm0 PySem.F.plainAttrs_list PySem.F.slot_list_pop PySem.F.type_list_pop mt_pop ho hbase hline) hs hf) fun σ H Q ⟨F0, H0, ρ, F, ok, h⟩ => ?_
  unfold popS at h
  cases hx : nth ρ i with
  | ce xs =>
    rw [hx] at h
    have h : tRS cl W X.K F0 H0 F (match popK xs with
      | some (ys, d) => .ok (.nx (setE (setE ρ i (.ce ys)) j (.da d)))
      | none => .no) Q := h
    obtain ⟨b, vs, h1, h2, h3, h4, h5⟩ := ok.ce (nth_ce hx)
    cases hg : xs.getLast? with
    | none =>
      have e : popK xs = none := by unfold popK; rw [hg]
      rw [e] at h; exact h.elim
    | some d =>
      have e : popK xs = some (xs.dropLast, d) := by unfold popK; rw [hg]
      rw [e] at h
      have h : tRS cl W X.K F0 H0 F (.ok (.nx (setE (setE ρ i (.ce xs.dropLast)) j (.da d)))) Q := h
      rw [List.getLast?_eq_getElem?] at hg
      obtain ⟨v, g1, g2⟩ := h5.get_some hg
      refine ⟨_, h1, .inl ⟨rfl, _, .inl (.inl h2)⟩, b, vs, v, rfl, rfl, h2, by rw [h5.length]; exact g1, ?_⟩
      have ok2 := ok.write (nth_ce hx) h1 h5.dropLast
      exact h _ F _ (by rw [setE_eq, setE_eq]; exact ok2.set j g2) (Le.refl F)
  | _ => rw [hx] at h; exact h.elim
end
end Mir
/-! ### sum(lists, []) -/
namespace Mir
open PySem PySem.Spec PyProof.Rows L2

theorem args_sum2 (a b : Value) : argsOk "sum" ⟨[a, b], []⟩ := by unfold argsOk; kernel_rfl
theorem sub_lst_str : isSubtype (.type "list") (.type "str") = pure false := by rw [isSubtype_type]; kernel_rfl
theorem sub_lst_bytes : isSubtype (.type "list") (.type "bytes") = pure false := by rw [isSubtype_type]; kernel_rfl
theorem sub_lst_bytearray : isSubtype (.type "list") (.type "bytearray") = pure false := by rw [isSubtype_type]; kernel_rfl

def joinTo (vs : Nat → List Value) (a : List Value) : Nat → List Value
  | 0 => a
  | i + 1 => joinTo vs a i ++ vs i
theorem joinTo_le (vs : Nat → List Value) (a : List Value) {i : Nat} : ∀ {n : Nat}, i ≤ n → (joinTo vs a i).length ≤ (joinTo vs a n).length
  | 0, h => by
    have : i = 0 := by omega
    subst this
    exact Nat.le_refl _
  | n + 1, h => by
    by_cases e : i = n + 1
    · subst e; exact Nat.le_refl _
    · have := joinTo_le vs a (i := i) (n := n) (by omega)
      show _ ≤ (joinTo vs a n ++ vs n).length
      rw [List.length_append]
      omega
section
variable {prog : Program} {w : World} {A : Around} {R : Result → Shared → Prop} {I : Addr} {fp wr : List Addr} {n : Nat} {P : Nat → Value → Prop} {St : Nat → Heap → Prop}
theorem codeAny_sum_loopL (W : Walks prog w A.in1 I fp wr n P St) (ls : Nat → Addr) (vs : Nat → List Value) (cs : Nat → Nat) (a0 : List Value) (T0 : Addr) (hval : ∀ i v, P i v → v = .ref (ls i)) (S : Addr) (hSf : S ∉ fp) (hT0w : T0 ∉ wr) (hT0S : T0 ≠ S)
    (hlw : ∀ i, i < n → ls i ∉ wr ∧ ls i ≠ S) (hsz : (joinTo vs a0 n).length ≤ sizeLine) (hws : ∀ b ∈ wr, b < S) :
    ∀ (k i : Nat) (s : Shared) (T : Addr) (c c2 : Nat), n - i = k → i ≤ n → St i s.heap → s.heap.get? S = some { cls := .type "list", dict := none, data := .seq #[.ref T] c, slots := #[] } →
    (i = 0 ∧ T = T0 ∨ 0 < i ∧ S < T) → IsL s.heap T (joinTo vs a0 i).toArray c2 → (∀ j, i ≤ j → j < n → IsL s.heap (ls j) (vs j).toArray (cs j)) →
    (∀ h' tk T' c', (n = 0 ∧ T' = T0 ∨ 0 < n ∧ S < T') → IsL h' T' (joinTo vs a0 n).toArray c' → (∀ b o, b ∉ wr → b ≠ S → s.heap.get? b = some o → h'.get? b = some o) → R (.ok (.ret (.ref T'))) { s with heap := h', toks := tk }) →
    codeAny (model prog w) A (.builtin "sum.loop" ⟨[.ref I, .ref S, rawInt 2, rawInt 0], []⟩) R s := by
  have hSw : S ∉ wr := fun h => hSf (W.sub _ h)
  intro k
  induction k with
  | zero =>
    intro i s T c c2 hk hi hst hS hT hTL hls hR
    have hin : i = n := by omega
    subst hin
    have hTw : T ∉ wr := by
      rcases hT with ⟨_, rfl⟩ | ⟨_, h⟩
      · exact hT0w
      · exact fun hm => absurd (hws _ hm) (by
          intro z
          exact absurd (Nat.lt_trans h z) (Nat.lt_irrefl _))
    refine codeAny_builtin F.entry_sum_loop ?_
    rw [Around.under_plainId F.plain_sum_loop _]
    show wpAny _ A.in1 (seqItems? (.ref S) >>= _) _ _ s
    refine wpAny_bind (wpAny_seqItems hS rfl ?_)
    show wpAny _ A.in1 (tryCatch (pyNext (.ref I)) _ >>= _) _ _ s
    refine wpAny_bind (wpAny_tryCatch (W.done s _ _ hst fun h' tk hk' => ?_))
    exact wpAny_pure (hR h' tk T c2 hT (hk' _ _ hTw hTL) fun b o hbw _ e => hk' b o hbw e)
  | succ k ih =>
    intro i s T c c2 hk hi hst hS hT hTL hls hR
    have hlt : i < n := by omega
    have hTw : T ∉ wr := by
      rcases hT with ⟨_, rfl⟩ | ⟨_, h⟩
      · exact hT0w
      · exact fun hm => absurd (hws _ hm) (by
          intro z
          exact absurd (Nat.lt_trans h z) (Nat.lt_irrefl _))
    have hTS : T ≠ S := by
      rcases hT with ⟨_, rfl⟩ | ⟨_, h⟩
      · exact hT0S
      · exact Nat.ne_of_gt h
    refine codeAny_builtin F.entry_sum_loop ?_
    rw [Around.under_plainId F.plain_sum_loop _]
    show wpAny _ A.in1 (seqItems? (.ref S) >>= _) _ _ s
    refine wpAny_bind (wpAny_seqItems hS rfl ?_)
    show wpAny _ A.in1 (tryCatch (pyNext (.ref I)) _ >>= _) _ _ s
    refine wpAny_bind (wpAny_tryCatch (W.item i s _ _ hlt hst fun v h' tk hP hst' hk' => ?_))
    obtain rfl := hval i v hP
    have hS' := hk' S _ hSw hS
    have hT' := hk' T _ hTw hTL
    have hl' := hk' (ls i) _ (hlw i hlt).1 (hls i (Nat.le_refl _) hlt)
    show wpAny _ A.in1 ((holding [Value.ref (ls i)] (binaryOp .Add (.ref T) (.ref (ls i)))).attempt >>= _) _ _ _
    have hle : (joinTo vs a0 (i + 1)).length ≤ sizeLine := Nat.le_trans (joinTo_le vs a0 hlt) hsz
    refine wpAny_bind (wpAny_attempt (wpAny_holding (PySem.P.add_list hT' hl' ?_ (by
      rw [List.size_toArray, List.size_toArray, ← List.length_append]
      exact hle))))
    have hS2 : (h'.push { cls := .type "list", data := .seq ((joinTo vs a0 i).toArray ++ (vs i).toArray) }).get? S = _ := Heap.get?_push_of_some _ hS'
    show wpAny _ A.in1 (updateSeq S (fun _ => #[.ref h'.objs.size]) >>= _) _ _ _
    refine wpAny_bind ?_
    refine wpAny_updateSeq hS2 rfl ?_
    have hS3 := Heap.get?_update_self (Obj.mapSeq fun _ => #[Value.ref h'.objs.size]) hS2 rfl
    refine wpAny_bind (wpAny_letGo ?_)
    refine wpAny_bind ?_
    have hSl : S < h'.objs.size := Heap.lt_size hS'
    have hnS : h'.objs.size ≠ S := Nat.ne_of_gt hSl
    have hnew : (h'.push { cls := .type "list", data := .seq ((joinTo vs a0 i).toArray ++ (vs i).toArray) }).get? h'.objs.size = some { cls := .type "list", data := .seq ((joinTo vs a0 i).toArray ++ (vs i).toArray) } := Heap.get?_push_size _ rfl
    have ej : (joinTo vs a0 i).toArray ++ (vs i).toArray = (joinTo vs a0 (i + 1)).toArray := by
      show _ = (joinTo vs a0 i ++ vs i).toArray
      simp
    have old : ∀ b o, b ∉ wr → b ≠ S → s.heap.get? b = some o → (h'.push { cls := .type "list", data := .seq ((joinTo vs a0 i).toArray ++ (vs i).toArray) }).get? b = some o := fun b o hbw _ e => Heap.get?_push_of_some _ (hk' b o hbw e)
    refine wpAny_updateSeq hS3 rfl (wpAny_pure ⟨plainId_quiet F.plain_sum_loop _, ih (i + 1) _ h'.objs.size _ 0 (by omega) hlt (W.frame _ _ _ hst' fun b hb o e => ?_) (Heap.get?_update_self _ hS3 rfl) (.inr ⟨Nat.succ_pos _, hSl⟩) ?_ (fun j hj hjn => ?_) fun h'' tk'' T'' c'' hT'' hL'' hk'' => ?_⟩)
    · have hbS : S ≠ b := fun h : S = b => hSf (by rw [h]; exact hb)
      exact (Heap.get?_update_other _ _ hbS).trans ((Heap.get?_update_other _ _ hbS).trans (Heap.get?_push_of_some _ e))
    · rw [← ej]
      exact (Heap.get?_update_other _ _ (Ne.symm hnS)).trans ((Heap.get?_update_other _ _ (Ne.symm hnS)).trans hnew)
    · have hlj := hlw j hjn
      exact (Heap.get?_update_other _ _ (Ne.symm hlj.2)).trans ((Heap.get?_update_other _ _ (Ne.symm hlj.2)).trans (old _ _ hlj.1 hlj.2 (hls j (by omega) hjn)))
    · exact hR h'' tk'' T'' c'' hT'' hL'' fun b o hbw hbS e => hk'' b o hbw hbS ((Heap.get?_update_other _ _ (Ne.symm hbS)).trans ((Heap.get?_update_other _ _ (Ne.symm hbS)).trans (old b o hbw hbS e)))
end
section
variable {prog : Program} {w : World} {A : Around} {E : Value → Shared → Prop} {s : Shared}
theorem call_sum_lists {l T0 : Addr} {its : List Value} {ls : Nat → Addr} {vs : Nat → List Value} {cs : Nat → Nat} {c0 : Nat} {Q : Value → Shared → Prop} (hh : A.handled = none) (hl : s.heap.IsList l its.toArray) (hT : IsL s.heap T0 #[] c0)
    (hi : ∀ (i : Nat) (v : Value), its[i]? = some v → v = Value.ref (ls i)) (hls : ∀ j, j < its.length → IsL s.heap (ls j) (vs j).toArray (cs j)) (hsz : (joinTo vs [] its.length).length ≤ sizeLine)
    (h : ∀ h' tk T' c', (its.length = 0 ∧ T' = T0 ∨ 0 < its.length ∧ s.heap.objs.size ≤ T') → IsL h' T' (joinTo vs [] its.length).toArray c' → (∀ b o, s.heap.get? b = some o → h'.get? b = some o) → Q (.ref T') { s with heap := h', toks := tk }) :
    wpAny (model prog w) A (call (.builtin "sum") [.ref l, .ref T0]) Q E s := by
  refine call_function_tree F.kind_sum F.plain_sum F.entry_sum (args_sum2 _ _) ?_
  unfold Builtin.«sum»
  simp only [List.length_cons, List.length_nil]
  rw [if_neg (by decide)]
  refine wpAny_bind (wpAny_of_eq (show Builtin.Builtins.bindParams "sum" ["start"] 0 { pos := [.ref T0] } = pure [some (.ref T0)] from rfl) ?_)
  refine wpAny_bind (wpAny_pyIter_list hl ?_)
  refine wpAny_bind (wpAny_pure ?_)
  have hlt : l < s.heap.objs.size := by obtain ⟨o, ho, _⟩ := hl; exact Heap.lt_size ho
  have hTt : T0 < s.heap.objs.size := Heap.lt_size hT
  have ty : ({ s with heap := s.heap.push { cls := .type "list_iterator", data := .fields #[.ref l, .int 0 0] } } : Shared).TypeIs (.ref T0) "list" := ⟨_, Heap.get?_push_of_some _ hT, rfl⟩
  simp only [List.forIn_cons, List.forIn_nil]
  refine wpAny_bind (wpAny_bind (wpAny_bind (wpAny_isInstance (T := "list") (b := false) ty sub_lst_str ?_)))
  simp only [Bool.false_eq_true, if_false]
  refine wpAny_pure (wpAny_bind (wpAny_bind (wpAny_isInstance (T := "list") (b := false) ty sub_lst_bytes ?_)))
  simp only [Bool.false_eq_true, if_false]
  refine wpAny_pure (wpAny_bind (wpAny_bind (wpAny_isInstance (T := "list") (b := false) ty sub_lst_bytearray ?_)))
  simp only [Bool.false_eq_true, if_false]
  refine wpAny_pure (wpAny_pure ?_)
  refine wpAny_bind (wpAny_newObj_type ?_)
  have hz : (s.heap.push { cls := .type "list_iterator", data := .fields #[.ref l, .int 0 0] }).objs.size = s.heap.objs.size + 1 := Heap.size_push ..
  have W := Walks.list (prog := prog) (w := w) (A := A.in1) hh s.heap.objs.size l (Nat.ne_of_lt hlt) its.toArray
  have hSn : (s.heap.push { cls := .type "list_iterator", data := .fields #[.ref l, .int 0 0] }).objs.size ≠ s.heap.objs.size := by rw [hz]; exact Nat.succ_ne_self _
  have p2 : ∀ {b : Addr} {o : Obj}, s.heap.get? b = some o → ((s.heap.push { cls := .type "list_iterator", data := .fields #[.ref l, .int 0 0] }).push { cls := .type "list", data := .seq #[.ref T0] }).get? b = some o := fun e => Heap.get?_push_of_some _ (Heap.get?_push_of_some _ e)
  refine wpAny_pure ⟨plainId_quiet F.plain_sum_loop _, codeAny_sum_loopL W ls vs cs [] T0 (fun i v hv => hi i v (by simpa using hv)) (s.heap.push { cls := .type "list_iterator", data := .fields #[.ref l, .int 0 0] }).objs.size ?_ ?_ ?_ ?_ (by simpa using hsz) ?_ its.length 0 _ T0 0 c0 (by simp) (Nat.zero_le _) ?_ (Heap.get?_push_size _ rfl) (.inl ⟨rfl, rfl⟩) (p2 hT) (fun j _ hj => p2 (hls j (by simpa using hj))) fun h' tk T' c' hT' hL hk => ?_⟩
  · intro hm
    have e : (s.heap.push { cls := .type "list_iterator", data := .fields #[.ref l, .int 0 0] }).objs.size = s.heap.objs.size ∨ (s.heap.push { cls := .type "list_iterator", data := .fields #[.ref l, .int 0 0] }).objs.size = l := by simpa using hm
    rcases e with e | e
    · exact hSn e
    · rw [hz] at e
      exact absurd hlt (by rw [← e]; exact Nat.not_lt.mpr (Nat.le_succ _))
  · intro hm
    have e : T0 = s.heap.objs.size := by simpa using hm
    exact absurd hTt (by rw [e]; exact Nat.lt_irrefl _)
  · rw [hz]
    exact Nat.ne_of_lt (Nat.lt_succ_of_lt hTt)
  · intro i hi2
    have := Heap.lt_size (hls i (by simpa using hi2))
    refine ⟨fun hm => ?_, ?_⟩
    · have e : ls i = s.heap.objs.size := by simpa using hm
      exact absurd this (by rw [e]; exact Nat.lt_irrefl _)
    · rw [hz]
      exact Nat.ne_of_lt (Nat.lt_succ_of_lt this)
  · intro b hb
    have e : b = s.heap.objs.size := by simpa using hb
    rw [e, hz]
    exact Nat.lt_succ_self _
  · exact ⟨⟨_, Heap.get?_push_of_some _ (Heap.get?_push_size _ rfl), rfl, rfl⟩, (hl.push _).push _⟩
  · have e1 : its.toArray.size = its.length := by simp
    rw [e1] at hL hT'
    refine h h' tk T' c' ?_ hL fun b o e => ?_
    · rcases hT' with q | ⟨q1, q2⟩
      · exact .inl q
      · rw [hz] at q2
        exact .inr ⟨q1, Nat.le_of_lt (Nat.lt_of_succ_lt q2)⟩
    · have hb := Heap.lt_size e
      refine hk b o (fun hm => ?_) ?_ (p2 e)
      · have e : b = s.heap.objs.size := by simpa using hm
        exact absurd hb (by rw [e]; exact Nat.lt_irrefl _)
      · rw [hz]
        exact Nat.ne_of_lt (Nat.lt_succ_of_lt hb)
end

/-! by values -/
def rSumL (K : PySem.W.Frag) : List V → Hp → VK → Prop := fun vs H Q => ∃ (a p : Addr) (ls : List Addr) (xss : List (List V)), vs = [.ref a, .ref p] ∧ SqL K H a (ls.map V.ref) ∧ Paired (fun l xs => H l = some (.lst xs)) ls xss ∧ H p = some (.lst []) ∧ xss.flatten.length ≤ sizeLine ∧
  (ls = [] → Q (.ref p) H) ∧ (ls ≠ [] → ∀ q, H q = none → Q (.ref q) (upd H q (.lst xss.flatten)))
theorem joinTo_map {n : Nat} {f g : Nat → List Value} (h : ∀ j, j < n → f j = g j) : joinTo f [] n = joinTo g [] n := by
  induction n with
  | zero => rfl
  | succ n ih =>
    show joinTo f [] n ++ f n = joinTo g [] n ++ g n
    rw [ih fun j hj => h j (by omega), h n (by omega)]
theorem joinTo_cons {f : Nat → List Value} {n : Nat} : joinTo f [] (n + 1) = f 0 ++ joinTo (fun j => f (j + 1)) [] n := by
  induction n with
  | zero => simp [joinTo]
  | succ n ih =>
    show joinTo f [] (n + 1) ++ f (n + 1) = f 0 ++ (joinTo (fun j => f (j + 1)) [] n ++ f (n + 1))
    rw [ih, List.append_assoc]
theorem join_vals {f : Nat → List Value} : ∀ {xss : List (List V)}, (∀ (j : Nat) xs, xss[j]? = some xs → Vals xs (f j)) → Vals xss.flatten (joinTo f [] xss.length)
  | [], _ => .nil
  | xs :: r, h => by
    rw [List.length_cons, joinTo_cons, List.flatten_cons]
    exact (h 0 xs rfl).append (join_vals (f := fun j => f (j + 1)) fun j ys hj => h (j + 1) ys (by simpa using hj))
noncomputable def seqAt (h : Heap) (l : Addr) : List Value := match h.get? l with
  | some ⟨_, _, .seq a _, _⟩ => a.toList
  | _ => []
noncomputable def capAt (h : Heap) (l : Addr) : Nat := match h.get? l with
  | some ⟨_, _, .seq _ c, _⟩ => c
  | _ => 0
theorem paired_at {α β : Type} {P : α → β → Prop} {xs : List α} {ys : List β} (h : Paired P xs ys) : ∀ {i : Nat} {x : α}, xs[i]? = some x → ∃ y, ys[i]? = some y ∧ P x y := by
  induction h with
  | nil => intro i l e; simp at e
  | cons h _ ih =>
    intro i l e
    cases i with
    | zero => simp at e; subst e; exact ⟨_, rfl, h⟩
    | succ i => exact ih (by simpa using e)
theorem cr_sumL {X : Cx} (hc : X.calm = true) : CallR X (.builtin "sum") (rSumL X.K) := by
  intro pins s σ H vs us Q I r h
  obtain ⟨a, p, ls, xss, rfl, hs, hp, hpl, hz, q0, q1⟩ := h
  obtain ⟨u1, u2, rfl, r1, r2⟩ := vals2 r
  cases r1
  cases r2
  obtain ⟨its, rv, hl, _⟩ := I.list hs
  obtain ⟨_, ip, np, rp, lp, ep⟩ := I.lstM hpl
  have ip0 : ip = [] := by cases rp; rfl
  subst ip0
  have hlen : its.length = ls.length := by
    have := rv.length
    rw [List.length_map] at this
    exact this.symm
  have hls : ls.length = xss.length := Paired.length hp
  -- the items
  have item : ∀ (i : Nat) (l : Addr), ls[i]? = some l → ∃ xs, xss[i]? = some xs ∧ H l = some (.lst xs) := fun i l => paired_at hp
  have hi : ∀ (i : Nat) (v : Value), its[i]? = some v → v = Value.ref (ls.getD i 0) := fun i v hv => by
    have hlt : i < its.length := (List.getElem?_eq_some_iff.mp hv).1
    have hl2 : ls[i]? = some ls[i] := List.getElem?_eq_getElem (by omega)
    obtain ⟨u, hu, ru⟩ := rv.get (i := i) (x := V.ref ls[i]) (by rw [List.getElem?_map, hl2]; rfl)
    rw [hv] at hu
    cases hu
    rw [List.getD_eq_getElem?_getD, hl2]
    cases ru
    rfl
  have at_ : ∀ (i : Nat) (xs : List V), xss[i]? = some xs → IsL s.heap (ls.getD i 0) (seqAt s.heap (ls.getD i 0)).toArray (capAt s.heap (ls.getD i 0)) ∧ Vals xs (seqAt s.heap (ls.getD i 0)) := fun i xs hx => by
    have hlt : i < xss.length := (List.getElem?_eq_some_iff.mp hx).1
    have hl2 : ls[i]? = some ls[i] := List.getElem?_eq_getElem (by omega)
    obtain ⟨ys, hy, hH⟩ := item i _ hl2
    rw [hx] at hy
    cases hy
    obtain ⟨_, it, n, r, _, e⟩ := I.lstM hH
    rw [List.getD_eq_getElem?_getD, hl2]
    show IsL s.heap ls[i] (seqAt s.heap ls[i]).toArray (capAt s.heap ls[i]) ∧ Vals xs (seqAt s.heap ls[i])
    unfold seqAt capAt
    rw [e]
    exact ⟨e, r⟩
  have hj : (joinTo (fun i => seqAt s.heap (ls.getD i 0)) [] its.length).length ≤ sizeLine := by
    rw [hlen, hls, ← (join_vals fun i xs hx => (at_ i xs hx).2).length]
    exact hz
  refine call_sum_lists (ls := fun i => ls.getD i 0) (vs := fun i => seqAt s.heap (ls.getD i 0)) (cs := fun i => capAt s.heap (ls.getD i 0)) (I.ok.hd hc) hl.isList ep hi (fun i hlt => ?_) hj fun h' tk T' c' hT hL hk => ?_
  · have hx : xss[i]? = some xss[i] := List.getElem?_eq_getElem (by omega)
    exact (at_ i _ hx).1
  · by_cases e0 : ls = []
    · have hn : its.length = 0 := by rw [hlen, e0]; rfl
      rcases hT with ⟨_, rfl⟩ | ⟨h1, _⟩
      · exact ⟨.ref T', H, I.kept hk, rfl, q0 e0⟩
      · omega
    · rcases hT with ⟨h1, _⟩ | ⟨_, h2⟩
      · exact absurd (List.eq_nil_of_length_eq_zero (by omega : ls.length = 0)) e0
      · refine ⟨.ref T', upd H T' (.lst xss.flatten), I.laid (t' := tk) hk h2 ⟨hz, _, c', ?_, hL⟩, rfl, q1 e0 T' (I.hok.fresh h2)⟩
        rw [hlen, hls]
        exact join_vals fun i xs hx => (at_ i xs hx).2
noncomputable def flatD (xs : List D) : Option (List D) := List.rec (some []) (fun d _ ih => match d with
  | .list ys => ih.bind fun zs => some (ys ++ zs)
  | _ => none) xs
noncomputable def sumK (xs : List D) : R (List D) := (ofO (flatD xs)).bind fun r => if small r = true then .ok r else .no
noncomputable def sumF (m : En → R (List D)) : En → R (List D) := fun ρ => (m ρ).bind sumK
theorem flat_rp {K : PySem.W.Frag} {F : Hp} : ∀ {xs : List D} {vs : List V} {r : List D}, RpA K F vs xs → flatD xs = some r → ∃ ls xss, vs = ls.map V.ref ∧ Paired (fun l us => F l = some (.lst us)) ls xss ∧ RpA K F xss.flatten r
  | [], _, _, .nil, h => by
    cases h
    exact ⟨[], [], rfl, .nil, .nil⟩
  | d :: ds, _, r, .cons p q, h => by
    cases d with
    | list ys =>
      have h : (flatD ds).bind (fun zs => some (ys ++ zs)) = some r := h
      cases e : flatD ds with
      | none => rw [e] at h; cases h
      | some zs =>
        rw [e] at h
        have h : some (ys ++ zs) = some r := h
        cases h
        obtain ⟨ls, xss, rfl, hp, hr⟩ := flat_rp q e
        obtain ⟨a, us, rfl, s, hu⟩ := Rp.inv_list p
        exact ⟨a :: ls, us :: xss, rfl, .cons s hp, by rw [List.flatten_cons]; exact hu.append hr⟩
    | _ => cases h
section
variable {X : Cx} {cl : String → Addr} {W : XK} {e : Expr} {p q pos : Pos} {m : En → R (List D)}
theorem pf_sumL (hc : X.calm = true) (hg : Gl X "sum") (hm : X.mg "sum" = none) (he : PL X cl W e m)
    (hs : starEach [e, .List [] q] X.env = (false, eval e X.env) :: starEach [.List [] q] X.env := by rfl) (hs2 : starEach [.List [] q] X.env = (false, eval (.List [] q) X.env) :: starEach [] X.env := by rfl) (hpl : (backTo pos (starEach [.List [] q] X.env)).any (·.1) = false := by rfl) :
    PF X cl W (.Call (.Name "sum" p) [e, .List [] q] [] pos) (sumF m) := by
  refine PE.imp (pe_callB (cr_sumL hc) hg hm boot_sum (pa_cons he (pa_one (pf_lst (cl := cl) (W := W) pas_nil) hs2) hs) (by decide) (by decide) hs hpl) fun σ H Q ⟨F0, H0, ρ, F, ok, h⟩ => ?_
  refine ⟨F0, H0, ρ, F, ok, (tR.bind anti_F h).imp fun v H1 ⟨F1, xs, e1, ⟨a, vs, hv, s, r⟩, h1⟩ => ?_⟩
  refine ⟨F0, H0, ρ, F1, ok.grow e1, ?_⟩
  have hl0 : lstF argN ρ = .ok [] := by
    show (if small [] = true then R.ok [] else R.no) = _
    rw [if_pos (by unfold small; simp)]
  show tR cl W (poF X.K) (lstF argN ρ) F1 H1 _
  rw [hl0]
  rintro v2 F2 H2 e2 ⟨p, us, rfl, np, fp, hp, rp⟩
  cases rp
  subst hv
  have h1 : tR cl W (poF X.K) (sumK xs) F1 H1 Q := h1
  unfold sumK at h1
  cases hf : flatD xs with
  | none => rw [hf] at h1; exact h1.elim
  | some zs =>
    rw [hf] at h1
    have h1 : tR cl W (poF X.K) (if small zs = true then R.ok zs else R.no) F1 H1 Q := h1
    split at h1
    · rename_i hsm
      obtain ⟨ls, xss, rfl, hpd, hr⟩ := flat_rp r hf
      refine ⟨a, p, ls, xss, rfl, e2.keep |> fun k => Le.sql k s, L2.Paired.mapP hpd fun l us hl => e2.sub _ _ (e2.le _ _ hl), hp, ?_, fun h0 => ?_, fun h0 z nz => ?_⟩
      · rw [hr.length]
        exact of_decide_eq_true hsm
      · subst h0
        cases hpd
        cases hr
        exact h1 _ F2 H2 e2 ⟨p, [], rfl, np, fp, hp, .nil⟩
      · exact h1 _ F2 _ (e2.trans (Ext.grow e2.sub (o := .lst xss.flatten) nz)) ⟨z, _, rfl, e2.keep.none nz, e2.sub.none nz, upd_same, hr.mono e2.le⟩
    · exact h1.elim
end
end Mir
/-! ### enumerate(zip(a, b)) -/
namespace Mir
open PySem PySem.Spec PyProof.Rows L2

/-- a zip, whether or not its tuple is out -/
abbrev ZSt (h : Heap) (z TI TO : Addr) (v : Value) (f : Bool) : Prop := h.get? z = some { cls := .type "zip", dict := none, data := .fields #[v, .bool f, .bool false, .ref TI, .ref TO], slots := #[] }
def OutV (v : Value) : Prop := v = .none ∨ ∃ T : Nat, v = rawInt (T : Int)
section
variable {prog : Program} {w : World} {A : Around} {E : Value → Shared → Prop} {s : Shared} {z TI TO i1 i2 : Addr} {fp1 fp2 : List Addr} {n1 n2 i : Nat} {P1 P2 : Nat → Value → Prop} {St1 St2 : Nat → Heap → Prop} {a1 a2 v : Value} {f : Bool}
theorem wpAny_look {a : Addr} {Q : Option Obj → Shared → Prop} (h : Q (s.heap.get? a) s) : wpAny (model prog w) A (loadIfAlive a) Q E s := fun _ _ _ => h
/-- the iterator has ended -/
def EndsAt (prog : Program) (w : World) (A : Around) (it : Addr) (St : Heap → Prop) : Prop := ∀ (s : Shared) (Q : Value → Shared → Prop) (E : Value → Shared → Prop), St s.heap → (∀ h' e, Heap.ExtBut it s.heap h' → (∃ o, h'.get? e = some o ∧ o.cls = .type "StopIteration") → E (.ref e) { s with heap := h' }) → wpAny (model prog w) A (Builtin.SmallTypes.nextOf (.ref it)) Q E s
theorem freeZ {Q : Bool → Shared → Prop} (hz : ZSt s.heap z TI TO v f) (hv : OutV v) (h1 : Q true s) (h2 : ∀ h', ZSt h' z TI TO v true → Heap.SameBut z s.heap h' → Q false { s with heap := h' }) :
    wpAny (model prog w) A (Builtin.SmallTypes.ownedTupleIsFree (.ref z)) Q E s := by
  unfold Builtin.SmallTypes.ownedTupleIsFree
  rcases hv with rfl | ⟨T, rfl⟩
  · exact wpAny_bind (wpAny_field hz rfl (x := .none) rfl (wpAny_pure h1))
  · refine wpAny_bind (wpAny_field hz rfl (x := rawInt T) rfl ?_)
    show wpAny _ _ (loadIfAlive ((T : Int).toNat) >>= _) _ _ _
    rw [Int.toNat_natCast]
    refine wpAny_bind (wpAny_look ?_)
    cases s.heap.get? T with
    | none =>
      simp only [Option.isNone_none, if_true]
      exact wpAny_pure h1
    | some o =>
      simp only [Option.isNone_some, Bool.false_eq_true, if_false]
      refine wpAny_bind (wpAny_field hz rfl (x := .bool f) rfl ?_)
      cases f with
      | true =>
        rw [if_neg (show ¬ ((Value.bool true != Value.bool true) = true) from Bool.false_ne_true)]
        exact wpAny_pure (h2 s.heap hz (Heap.SameBut.refl _ _))
      | false =>
        rw [if_pos (show (Value.bool false != Value.bool true) = true from rfl)]
        exact wpAny_bind (wpAny_setField_rec hz (by simp) fun h₁ hz₁ hs₁ => wpAny_pure (h2 h₁ hz₁ hs₁))

theorem zH_next_item {Q : Value → Shared → Prop} (S : ZipSep2 z TI TO i1 i2 fp1 fp2) (D1 : Draws prog w A i1 fp1 n1 P1 St1) (D2 : Draws prog w A i2 fp2 n2 P2 St2)
    (hz : ZSt s.heap z TI TO v f) (hv : OutV v) (hTI : IsTupOf2 s.heap TI (.ref i1) (.ref i2)) (hTO : IsTupOf2 s.heap TO a1 a2) (st1 : St1 i s.heap) (st2 : St2 i s.heap) (hlt1 : i < n1) (hlt2 : i < n2)
    (hQ : ∀ x1 x2 b1 b2 v' f' h' tk, P1 i x1 → P2 i x2 → OutV v' → ZSt h' z TI TO v' f' → IsTupOf2 h' TO b1 b2 → St1 (i + 1) h' → St2 (i + 1) h' → IsTupOf2 h' s.heap.objs.size x1 x2 → h'.objs.size = s.heap.objs.size + 1 →
      (∀ c o, c ≠ z → c ≠ TO → c ≠ i1 → c ≠ i2 → s.heap.get? c = some o → h'.get? c = some o) → Q (.ref s.heap.objs.size) { s with heap := h', toks := tk }) :
    wpAny (model prog w) A (Builtin.«zip.__next__» ⟨[.ref z], []⟩) (fun fin s' => ∃ v, fin = .done (.ret v) ∧ Q v s') E s := by
  obtain ⟨hp, g, d, tk0, os⟩ := s
  show wpAny _ _ (field (.ref z) 2 >>= _) _ _ _
  refine wpAny_bind (wpAny_field hz rfl (x := .bool false) rfl ?_)
  show wpAny _ _ (field (.ref z) 3 >>= _) _ _ _
  refine wpAny_bind (wpAny_field hz rfl (x := .ref TI) rfl ?_)
  refine wpAny_bind (wpAny_seqItems hTI rfl ?_)
  show wpAny _ _ (Builtin.SmallTypes.ownedTupleIsFree (.ref z) >>= _) _ _ _
  refine wpAny_bind (freeZ hz hv ?_ fun h₁ hz₁ hs₁ => ?_)
  · simp only [if_true]
    refine wpAny_bind (wpAny_rule ?_)
    refine wpAny_bind (wpAny_field hz rfl (x := .ref TO) rfl ?_)
    refine wpAny_bind (wpAny_setField_rec hz (by simp) fun g0 hz0 hs0 => ?_)
    replace hz0 : ZSt g0 z TI TO .ellipsis f := hz0
    replace hs0 : Heap.SameBut z hp g0 := hs0
    refine wpAny_bind ?_
    simp only [List.zipIdx_cons, List.zipIdx_nil, List.forIn_cons, List.forIn_nil]
    refine wpAny_bind (wpAny_bind (wpAny_onRaise ?_))
    show wpAny _ _ (Builtin.SmallTypes.nextOf (.ref i1) >>= _) _ _ ⟨g0, g, d, tk0, os⟩
    refine wpAny_bind (D1.item i _ _ _ hlt1 (D1.over st1 hs0 S.zf1) fun x1 p1 tk1 hx1 sn1 hp1 => wpAny_pure ?_)
    replace hp1 : Heap.SameBut i1 g0 p1 := hp1
    have hU1 : IsTupOf2 p1 TO a1 a2 := hp1.extBut _ _ S.Ti1 (hs0.extBut _ _ S.TOz hTO)
    refine wpAny_bind (wpAny_seqItems (s := ⟨p1, g, d, tk1, os⟩) hU1 rfl ?_)
    refine wpAny_bind (updateSeq_IsTupOf2 (s := ⟨p1, g, d, tk1, os⟩) hU1 fun g1 hT1 hs1 => ?_)
    replace hT1 : IsTupOf2 g1 TO x1 a2 := hT1
    replace hs1 : Heap.SameBut TO p1 g1 := hs1
    refine wpAny_bind (wpAny_letGo (wpAny_pure ?_))
    refine wpAny_bind (wpAny_bind (wpAny_onRaise ?_))
    show wpAny _ _ (Builtin.SmallTypes.nextOf (.ref i2) >>= _) _ _ ⟨g1, g, d, tk1, os⟩
    refine wpAny_bind (D2.item i _ _ _ hlt2 (D2.over (D2.over (D2.over st2 hs0 S.zf2) hp1 S.sep1_2) hs1 S.Tf2) fun x2 p2 tk2 hx2 sn2 hp2 => wpAny_pure ?_)
    replace hp2 : Heap.SameBut i2 g1 p2 := hp2
    have hU2 : IsTupOf2 p2 TO x1 a2 := hp2.extBut _ _ S.Ti2 hT1
    refine wpAny_bind (wpAny_seqItems (s := ⟨p2, g, d, tk2, os⟩) hU2 rfl ?_)
    refine wpAny_bind (updateSeq_IsTupOf2 (s := ⟨p2, g, d, tk2, os⟩) hU2 fun g2 hT2 hs2 => ?_)
    replace hT2 : IsTupOf2 g2 TO x1 x2 := hT2
    replace hs2 : Heap.SameBut TO p2 g2 := hs2
    refine wpAny_bind (wpAny_letGo (wpAny_pure (wpAny_pure ?_)))
    refine wpAny_bind (wpAny_seqItems (s := ⟨g2, g, d, tk2, os⟩) hT2 rfl ?_)
    refine wpAny_bind (wpAny_newTuple ?_)
    have hsz : g2.objs.size = hp.objs.size := by rw [hs2.1, hp2.1, hs1.1, hp1.1, hs0.1]
    have hzz : ZSt g2 z TI TO .ellipsis f := (hs2.extBut _ _ S.TOz.symm (hp2.extBut _ _ S.zi2 (hs1.extBut _ _ S.TOz.symm (hp1.extBut _ _ S.zi1 hz0))))
    have hkk : ∀ c o, c ≠ z → c ≠ TO → c ≠ i1 → c ≠ i2 → hp.get? c = some o → g2.get? c = some o := fun c o cz cT c1 c2 e =>
      (hs2.extBut _ _ cT (hp2.extBut _ _ c2 (hs1.extBut _ _ cT (hp1.extBut _ _ c1 (hs0.extBut _ _ cz e)))))
    have hj1 : St1 (i + 1) g2 := (D1.over (D1.over (D1.over sn1 hs1 S.Tf1) hp2 S.sep2_1) hs2 S.Tf1)
    have hj2 : St2 (i + 1) g2 := (D2.over sn2 hs2 S.Tf2)
    have hzlt : z < g2.objs.size := Heap.lt_size hzz
    show wpAny _ _ (Builtin.SmallTypes.ownedTupleHandOut (.ref z) (.ref g2.objs.size) >>= _) _ _ ⟨g2.push { cls := .type "tuple", data := .seq #[x1, x2] }, g, d, tk2, os⟩
    refine wpAny_bind ?_
    unfold Builtin.SmallTypes.ownedTupleHandOut
    have hz₆ : ZSt (g2.push { cls := .type "tuple", data := .seq #[x1, x2] }) z TI TO .ellipsis f := Heap.get?_push_of_some _ hzz
    refine wpAny_bind (wpAny_setField_rec hz₆ (by simp) fun h₇ hz₇ hs₇ => ?_)
    replace hz₇ : ZSt h₇ z TI TO (rawInt (g2.objs.size : Nat)) f := hz₇
    refine wpAny_setField_rec hz₇ (by simp) fun h₈ hz₈ hs₈ => ?_
    replace hz₈ : ZSt h₈ z TI TO (rawInt (g2.objs.size : Nat)) false := hz₈
    replace hs₇ : Heap.SameBut z (g2.push { cls := .type "tuple", data := .seq #[x1, x2] }) h₇ := hs₇
    replace hs₈ : Heap.SameBut z h₇ h₈ := hs₈
    have up : ∀ c o, c ≠ z → g2.get? c = some o → h₈.get? c = some o := fun c o c1 e => hs₈.extBut _ _ c1 (hs₇.extBut _ _ c1 (Heap.get?_push_of_some _ e))
    have hT₈ : IsTupOf2 h₈ g2.objs.size x1 x2 := hs₈.extBut _ _ (Nat.ne_of_gt hzlt) (hs₇.extBut _ _ (Nat.ne_of_gt hzlt) (Heap.get?_push_size _ rfl))
    have hz8 : h₈.objs.size = g2.objs.size + 1 := by rw [hs₈.1, hs₇.1, Heap.size_push]
    rw [hsz] at hT₈ hz8
    refine wpAny_pure ⟨_, rfl, ?_⟩
    show Q (.ref g2.objs.size) ⟨h₈, g, d, tk2, os⟩
    rw [hsz]
    exact hQ x1 x2 x1 x2 _ _ h₈ tk2 hx1 hx2 (.inr ⟨_, rfl⟩) hz₈ (up _ _ S.TOz hT2) (D1.frame _ _ _ hj1 fun b hb o e => up b o (fun q => S.zf1 (q ▸ hb)) e) (D2.frame _ _ _ hj2 fun b hb o e => up b o (fun q => S.zf2 (q ▸ hb)) e) hT₈ hz8 fun c o cz cT c1 c2 e => up c o cz (hkk c o cz cT c1 c2 e)
  · simp only [Bool.false_eq_true, if_false]
    replace hs₁ : Heap.SameBut z hp h₁ := hs₁
    refine wpAny_bind ?_
    rw [← Array.forIn_toList]
    simp only [List.forIn_cons, List.forIn_nil]
    refine wpAny_bind (wpAny_bind (wpAny_holding ?_))
    show wpAny _ _ (Builtin.SmallTypes.nextOf (.ref i1) >>= _) _ _ ⟨h₁, g, d, tk0, os⟩
    refine wpAny_bind (D1.item i _ _ _ hlt1 (D1.over st1 hs₁ S.zf1) fun x1 h₂ tk1 hx1 sn1 hs₂ => wpAny_pure ?_)
    replace hs₂ : Heap.SameBut i1 h₁ h₂ := hs₂
    refine wpAny_pure ?_
    refine wpAny_bind (wpAny_bind (wpAny_holding ?_))
    show wpAny _ _ (Builtin.SmallTypes.nextOf (.ref i2) >>= _) _ _ ⟨h₂, g, d, tk1, os⟩
    refine wpAny_bind (D2.item i _ _ _ hlt2 (D2.over (D2.over st2 hs₁ S.zf2) hs₂ S.sep1_2) fun x2 h₃ tk2 hx2 sn2 hs₃ => wpAny_pure ?_)
    replace hs₃ : Heap.SameBut i2 h₂ h₃ := hs₃
    refine wpAny_pure (wpAny_pure ?_)
    show wpAny _ _ (newTuple [x1, x2] >>= _) _ _ _
    refine wpAny_bind (wpAny_newTuple ?_)
    have hsz : h₃.objs.size = hp.objs.size := by rw [hs₃.1, hs₂.1, hs₁.1]
    have hz₃ : ZSt h₃ z TI TO v true := hs₃.extBut _ _ S.zi2 (hs₂.extBut _ _ S.zi1 hz₁)
    have hk : ∀ c o, c ≠ z → c ≠ TO → c ≠ i1 → c ≠ i2 → hp.get? c = some o → h₃.get? c = some o := fun c o c1 _ c2 c3 e => hs₃.extBut _ _ c3 (hs₂.extBut _ _ c2 (hs₁.extBut _ _ c1 e))
    refine wpAny_pure ⟨_, rfl, ?_⟩
    show Q (.ref h₃.objs.size) _
    have hp2 : IsTupOf2 (h₃.push { cls := .type "tuple", data := .seq #[x1, x2] }) h₃.objs.size x1 x2 := Heap.get?_push_size _ rfl
    have hz4 : (h₃.push { cls := .type "tuple", data := .seq #[x1, x2] }).objs.size = h₃.objs.size + 1 := Heap.size_push ..
    rw [hsz] at hp2 hz4 ⊢
    have up : ∀ b o, h₃.get? b = some o → (h₃.push { cls := .type "tuple", data := .seq #[x1, x2] }).get? b = some o := fun b o e => Heap.get?_push_of_some _ e
    exact hQ x1 x2 a1 a2 v true _ tk2 hx1 hx2 hv (up _ _ hz₃) (up _ _ (hs₃.extBut _ _ S.Ti2 (hs₂.extBut _ _ S.Ti1 (hs₁.extBut _ _ S.TOz hTO)))) (D1.frame _ _ _ (D1.over sn1 hs₃ S.sep2_1) fun b _ o e => up b o e) (D2.frame _ _ _ sn2 fun b _ o e => up b o e) hp2 hz4
      fun c o c1 c2 c3 c4 e => up c o (hk c o c1 c2 c3 c4 e)

theorem zH_next_end {Q : Fin → Shared → Prop} (S : ZipSep2 z TI TO i1 i2 fp1 fp2) (D1 : Draws prog w A i1 fp1 n1 P1 St1) (D2 : Draws prog w A i2 fp2 n2 P2 St2)
    (hz : ZSt s.heap z TI TO v f) (hv : OutV v) (hTI : IsTupOf2 s.heap TI (.ref i1) (.ref i2)) (hTO : IsTupOf2 s.heap TO a1 a2) (st1 : St1 i s.heap) (st2 : St2 i s.heap) (dn1 : n1 ≤ i → EndsAt prog w A i1 (St1 i)) (dn2 : n2 ≤ i → EndsAt prog w A i2 (St2 i)) (hend : n1 ≤ i ∨ n2 ≤ i)
    (hE : ∀ h' tk e, (∀ c o, c ≠ z → c ≠ TO → c ≠ i1 → c ≠ i2 → s.heap.get? c = some o → h'.get? c = some o) → (∃ o, h'.get? e = some o ∧ o.cls = .type "StopIteration") → E (.ref e) { s with heap := h', toks := tk }) :
    wpAny (model prog w) A (Builtin.«zip.__next__» ⟨[.ref z], []⟩) Q E s := by
  obtain ⟨hp, g, d, tk0, os⟩ := s
  show wpAny _ _ (field (.ref z) 2 >>= _) _ _ _
  refine wpAny_bind (wpAny_field hz rfl (x := .bool false) rfl ?_)
  show wpAny _ _ (field (.ref z) 3 >>= _) _ _ _
  refine wpAny_bind (wpAny_field hz rfl (x := .ref TI) rfl ?_)
  refine wpAny_bind (wpAny_seqItems hTI rfl ?_)
  show wpAny _ _ (Builtin.SmallTypes.ownedTupleIsFree (.ref z) >>= _) _ _ _
  refine wpAny_bind (freeZ hz hv ?_ fun h₁ hz₁ hs₁ => ?_)
  · simp only [if_true]
    refine wpAny_bind (wpAny_rule ?_)
    refine wpAny_bind (wpAny_field hz rfl (x := .ref TO) rfl ?_)
    refine wpAny_bind (wpAny_setField_rec hz (by simp) fun g0 hz0 hs0 => ?_)
    replace hz0 : ZSt g0 z TI TO .ellipsis f := hz0
    replace hs0 : Heap.SameBut z hp g0 := hs0
    refine wpAny_bind ?_
    simp only [List.zipIdx_cons, List.zipIdx_nil, List.forIn_cons, List.forIn_nil]
    refine wpAny_bind (wpAny_bind (wpAny_onRaise ?_))
    show wpAny _ _ (Builtin.SmallTypes.nextOf (.ref i1) >>= _) _ _ ⟨g0, g, d, tk0, os⟩
    by_cases hlt1 : i < n1
    · refine wpAny_bind (D1.item i _ _ _ hlt1 (D1.over st1 hs0 S.zf1) fun x1 p1 tk1 hx1 sn1 hp1 => wpAny_pure ?_)
      replace hp1 : Heap.SameBut i1 g0 p1 := hp1
      have hU1 : IsTupOf2 p1 TO a1 a2 := hp1.extBut _ _ S.Ti1 (hs0.extBut _ _ S.TOz hTO)
      refine wpAny_bind (wpAny_seqItems (s := ⟨p1, g, d, tk1, os⟩) hU1 rfl ?_)
      refine wpAny_bind (updateSeq_IsTupOf2 (s := ⟨p1, g, d, tk1, os⟩) hU1 fun g1 hT1 hs1 => ?_)
      replace hT1 : IsTupOf2 g1 TO x1 a2 := hT1
      replace hs1 : Heap.SameBut TO p1 g1 := hs1
      refine wpAny_bind (wpAny_letGo (wpAny_pure ?_))
      have hi2 : n2 ≤ i := by omega
      refine wpAny_bind (wpAny_bind (wpAny_onRaise ?_))
      show wpAny _ _ (Builtin.SmallTypes.nextOf (.ref i2) >>= _) _ _ ⟨g1, g, d, tk1, os⟩
      refine wpAny_bind (dn2 hi2 ⟨g1, g, d, tk1, os⟩ _ _ (D2.over (D2.over (D2.over st2 hs0 S.zf2) hp1 S.sep1_2) hs1 S.Tf2) fun q e hq he => ?_)
      replace hq : Heap.ExtBut i2 g1 q := hq
      obtain ⟨oe, hoe, hce⟩ := he
      replace hoe : q.get? e = some oe := hoe
      have hzq : ZSt q z TI TO .ellipsis f := hq _ _ S.zi2 (hs1.extBut _ _ S.TOz.symm (hp1.extBut _ _ S.zi1 hz0))
      have hez : e ≠ z := fun x => by subst x; rw [hzq] at hoe; cases hoe; simp at hce
      refine wpAny_setField_rec (s := ⟨q, g, d, tk1, os⟩) hzq (by simp) fun q' _ hq' => ?_
      replace hq' : Heap.SameBut z q q' := hq'
      exact hE q' tk1 e (fun c o cz cT c1 c2 x => hq'.extBut _ _ cz (hq _ _ c2 (hs1.extBut _ _ cT (hp1.extBut _ _ c1 (hs0.extBut _ _ cz x))))) ⟨oe, hq'.extBut _ _ hez hoe, hce⟩
    · have hi1 : n1 ≤ i := by omega
      refine wpAny_bind (dn1 hi1 ⟨g0, g, d, tk0, os⟩ _ _ (D1.over st1 hs0 S.zf1) fun q e hq he => ?_)
      replace hq : Heap.ExtBut i1 g0 q := hq
      obtain ⟨oe, hoe, hce⟩ := he
      replace hoe : q.get? e = some oe := hoe
      have hzq : ZSt q z TI TO .ellipsis f := hq _ _ S.zi1 hz0
      have hez : e ≠ z := fun x => by subst x; rw [hzq] at hoe; cases hoe; simp at hce
      refine wpAny_setField_rec (s := ⟨q, g, d, tk0, os⟩) hzq (by simp) fun q' _ hq' => ?_
      replace hq' : Heap.SameBut z q q' := hq'
      exact hE q' tk0 e (fun c o cz cT c1 c2 x => hq'.extBut _ _ cz (hq _ _ c1 (hs0.extBut _ _ cz x))) ⟨oe, hq'.extBut _ _ hez hoe, hce⟩
  · simp only [Bool.false_eq_true, if_false]
    replace hs₁ : Heap.SameBut z hp h₁ := hs₁
    refine wpAny_bind ?_
    rw [← Array.forIn_toList]
    simp only [List.forIn_cons, List.forIn_nil]
    refine wpAny_bind (wpAny_bind (wpAny_holding ?_))
    show wpAny _ _ (Builtin.SmallTypes.nextOf (.ref i1) >>= _) _ _ ⟨h₁, g, d, tk0, os⟩
    by_cases hlt1 : i < n1
    · refine wpAny_bind (D1.item i _ _ _ hlt1 (D1.over st1 hs₁ S.zf1) fun x1 h₂ tk1 hx1 sn1 hs₂ => wpAny_pure ?_)
      replace hs₂ : Heap.SameBut i1 h₁ h₂ := hs₂
      refine wpAny_pure ?_
      refine wpAny_bind (wpAny_bind (wpAny_holding ?_))
      have hi2 : n2 ≤ i := by omega
      show wpAny _ _ (Builtin.SmallTypes.nextOf (.ref i2) >>= _) _ _ ⟨h₂, g, d, tk1, os⟩
      refine wpAny_bind (dn2 hi2 ⟨h₂, g, d, tk1, os⟩ _ _ (D2.over (D2.over st2 hs₁ S.zf2) hs₂ S.sep1_2) fun q e hq he => ?_)
      replace hq : Heap.ExtBut i2 h₂ q := hq
      exact hE q tk1 e (fun c o cz cT c1 c2 x => hq _ _ c2 (hs₂.extBut _ _ c1 (hs₁.extBut _ _ cz x))) he
    · have hi1 : n1 ≤ i := by omega
      refine wpAny_bind (dn1 hi1 ⟨h₁, g, d, tk0, os⟩ _ _ (D1.over st1 hs₁ S.zf1) fun q e hq he => ?_)
      replace hq : Heap.ExtBut i1 h₁ q := hq
      exact hE q tk0 e (fun c o cz cT c1 c2 x => hq _ _ c1 (hs₁.extBut _ _ cz x)) he

theorem nextOf_zH_item {Q : Value → Shared → Prop} (S : ZipSep2 z TI TO i1 i2 fp1 fp2) (D1 : Draws prog w A.in1 i1 fp1 n1 P1 St1) (D2 : Draws prog w A.in1 i2 fp2 n2 P2 St2)
    (hz : ZSt s.heap z TI TO v f) (hv : OutV v) (hTI : IsTupOf2 s.heap TI (.ref i1) (.ref i2)) (hTO : IsTupOf2 s.heap TO a1 a2) (st1 : St1 i s.heap) (st2 : St2 i s.heap) (hlt1 : i < n1) (hlt2 : i < n2)
    (hQ : ∀ x1 x2 b1 b2 v' f' h' tk, P1 i x1 → P2 i x2 → OutV v' → ZSt h' z TI TO v' f' → IsTupOf2 h' TO b1 b2 → St1 (i + 1) h' → St2 (i + 1) h' → IsTupOf2 h' s.heap.objs.size x1 x2 → h'.objs.size = s.heap.objs.size + 1 →
      (∀ c o, c ≠ z → c ≠ TO → c ≠ i1 → c ≠ i2 → s.heap.get? c = some o → h'.get? c = some o) → Q (.ref s.heap.objs.size) { s with heap := h', toks := tk }) :
    wpAny (model prog w) A (Builtin.SmallTypes.nextOf (.ref z)) Q E s := by
  have hT : s.TypeIs (.ref z) "zip" := ⟨_, hz, rfl⟩
  unfold Builtin.SmallTypes.nextOf
  exact wpAny_bind (wpAny_callSpecial?_slot (name := Str.ofString "__next__") hT F.slot_zip_next
    (wpAny_call_entry F.slot_zip_next hT F.entry_zip_next
      (zH_next_item S D1 D2 hz hv hTI hTO st1 st2 hlt1 hlt2 fun x1 x2 b1 b2 v' f' h' tk y1 y2 c1 c2 c3 d1 d2 b5 b6 b7 => wpAny_pure (hQ x1 x2 b1 b2 v' f' h' tk y1 y2 c1 c2 c3 d1 d2 b5 b6 b7)) (F.args_zip_next_1 _)))
theorem nextOf_zH_end {Q : Value → Shared → Prop} (S : ZipSep2 z TI TO i1 i2 fp1 fp2) (D1 : Draws prog w A.in1 i1 fp1 n1 P1 St1) (D2 : Draws prog w A.in1 i2 fp2 n2 P2 St2)
    (hz : ZSt s.heap z TI TO v f) (hv : OutV v) (hTI : IsTupOf2 s.heap TI (.ref i1) (.ref i2)) (hTO : IsTupOf2 s.heap TO a1 a2) (st1 : St1 i s.heap) (st2 : St2 i s.heap) (dn1 : n1 ≤ i → EndsAt prog w A.in1 i1 (St1 i)) (dn2 : n2 ≤ i → EndsAt prog w A.in1 i2 (St2 i)) (hend : n1 ≤ i ∨ n2 ≤ i)
    (hE : ∀ h' tk e, (∀ c o, c ≠ z → c ≠ TO → c ≠ i1 → c ≠ i2 → s.heap.get? c = some o → h'.get? c = some o) → (∃ o, h'.get? e = some o ∧ o.cls = .type "StopIteration") → E (.ref e) { s with heap := h', toks := tk }) :
    wpAny (model prog w) A (Builtin.SmallTypes.nextOf (.ref z)) Q E s := by
  have hT : s.TypeIs (.ref z) "zip" := ⟨_, hz, rfl⟩
  unfold Builtin.SmallTypes.nextOf
  exact wpAny_bind (wpAny_callSpecial?_slot (name := Str.ofString "__next__") hT F.slot_zip_next
    (wpAny_call_entry F.slot_zip_next hT F.entry_zip_next (zH_next_end S D1 D2 hz hv hTI hTO st1 st2 dn1 dn2 hend hE) (F.args_zip_next_1 _)))

/-- the cells of enumerate(zip(..)) lie apart -/
structure EzApart (e z TI TO i1 i2 : Addr) (fp1 fp2 : List Addr) : Prop where
  S : ZipSep2 z TI TO i1 i2 fp1 fp2
  ez : e ≠ z
  eTI : e ≠ TI
  eTO : e ≠ TO
  e1 : e ∉ fp1
  e2 : e ∉ fp2
theorem ez_next_item {e : Addr} {c : Int} {old : Value} {Q : Value → Shared → Prop} (S : EzApart e z TI TO i1 i2 fp1 fp2) (D1 : Draws prog w A.in1 i1 fp1 n1 P1 St1) (D2 : Draws prog w A.in1 i2 fp2 n2 P2 St2) (he : IsEnum s.heap e z c old)
    (hz : ZSt s.heap z TI TO v f) (hv : OutV v) (hTI : IsTupOf2 s.heap TI (.ref i1) (.ref i2)) (hTO : IsTupOf2 s.heap TO a1 a2) (st1 : St1 i s.heap) (st2 : St2 i s.heap) (hlt1 : i < n1) (hlt2 : i < n2)
    (hQ : ∀ x1 x2 b1 b2 v' f' h' tk, P1 i x1 → P2 i x2 → OutV v' → IsEnumOut h' e z (c + 1) (.ref s.heap.objs.size) (s.heap.objs.size + 1) → ZSt h' z TI TO v' f' → IsTupOf2 h' TO b1 b2 → St1 (i + 1) h' → St2 (i + 1) h' →
      IsTupOf2 h' s.heap.objs.size x1 x2 → IsTupOf2 h' (s.heap.objs.size + 1) (.int c tk) (.ref s.heap.objs.size) → h'.objs.size = s.heap.objs.size + 2 →
      (∀ b o, b ≠ e → b ≠ z → b ≠ TO → b ≠ i1 → b ≠ i2 → s.heap.get? b = some o → h'.get? b = some o) → Q (.ref (s.heap.objs.size + 1)) { s with heap := h', toks := tk + 1 }) :
    wpAny (model prog w) A (Builtin.«enumerate.__next__» ⟨[.ref e], []⟩) (fun fin s' => ∃ v, fin = .done (.ret v) ∧ Q v s') E s := by
  obtain ⟨hp, g, d, tk₀, os⟩ := s
  show wpAny _ _ (field (.ref e) 2 >>= _) _ _ _
  refine wpAny_bind (wpAny_field he rfl (x := .ref z) rfl ?_)
  refine wpAny_bind (nextOf_zH_item S.S D1 D2 hz hv hTI hTO st1 st2 hlt1 hlt2 fun x1 x2 b1 b2 v' f' h₁ tk y1 y2 hv' hz₁ hTO₁ sn1 sn2 hT₁ hsz₁ hk₁ => ?_)
  have hT₁ : IsTupOf2 h₁ hp.objs.size x1 x2 := hT₁
  have hsz₁ : h₁.objs.size = hp.objs.size + 1 := hsz₁
  have hk₁ : ∀ c o, c ≠ z → c ≠ TO → c ≠ i1 → c ≠ i2 → hp.get? c = some o → h₁.get? c = some o := hk₁
  have ei1 : e ≠ i1 := fun q => S.e1 (by rw [q]; exact S.S.mem1)
  have ei2 : e ≠ i2 := fun q => S.e2 (by rw [q]; exact S.S.mem2)
  have he₁ : IsEnum h₁ e z c old := hk₁ _ _ S.ez S.eTO ei1 ei2 he
  show wpAny _ _ (field (.ref e) 3 >>= _) _ _ ⟨h₁, g, d, tk, os⟩
  refine wpAny_bind (wpAny_field he₁ rfl (x := rawInt c) rfl ?_)
  show wpAny _ _ (field (.ref e) 4 >>= _) _ _ ⟨h₁, g, d, tk, os⟩
  refine wpAny_bind (wpAny_field he₁ rfl (x := .none) rfl ?_)
  show wpAny _ _ (mkInt c >>= _) _ _ ⟨h₁, g, d, tk, os⟩
  refine wpAny_bind (wpAny_mkInt ?_)
  show wpAny _ _ (setField (.ref e) 3 (rawInt (c + 1)) >>= _) _ _ ⟨h₁, g, d, tk + 1, os⟩
  refine wpAny_bind (wpAny_setField_rec he₁ (by simp) fun h₂ he₂ hs₂ => ?_)
  replace hs₂ : Heap.SameBut e h₁ h₂ := hs₂
  replace he₂ : IsEnum h₂ e z (c + 1) old := he₂
  show wpAny _ _ (setField (.ref e) 4 .none >>= _) _ _ ⟨h₂, g, d, tk + 1, os⟩
  refine wpAny_bind (wpAny_setField_rec he₂ (by simp) fun h₃ he₃ hs₃ => ?_)
  replace hs₃ : Heap.SameBut e h₂ h₃ := hs₃
  replace he₃ : IsEnum h₃ e z (c + 1) old := he₃
  show wpAny _ _ (newTuple [.int c tk, .ref hp.objs.size] >>= _) _ _ ⟨h₃, g, d, tk + 1, os⟩
  refine wpAny_bind (wpAny_newTuple ?_)
  have he₄ : IsEnum (h₃.push { cls := .type "tuple", data := .seq #[.int c tk, .ref hp.objs.size] }) e z (c + 1) old := Heap.get?_push_of_some _ he₃
  generalize hh₄ : h₃.push { cls := .type "tuple", data := .seq #[.int c tk, .ref hp.objs.size] } = h₄ at he₄
  have hsz : h₃.objs.size = hp.objs.size + 1 := by rw [hs₃.1, hs₂.1, hsz₁]
  have hel : e < hp.objs.size := Heap.lt_size he
  have ht₄ : h₄.get? (hp.objs.size + 1) = some { cls := .type "tuple", data := .seq #[.int c tk, .ref hp.objs.size] } := by rw [← hh₄, ← hsz]; exact Heap.get?_push_size _ rfl
  have hz₄ : h₄.objs.size = hp.objs.size + 2 := by rw [← hh₄, Heap.size_push, hsz]
  -- what stands at h₁ but e stands at h₄
  have up₄ : ∀ b o, b ≠ e → h₁.get? b = some o → h₄.get? b = some o := fun b o hbe hb => by
    rw [← hh₄]; exact Heap.get?_push_of_some _ (hs₃.extBut b o hbe (hs₂.extBut b o hbe hb))
  show wpAny _ _ (Builtin.SmallTypes.ownedTupleIsFree (.ref e) >>= _) _ _ ⟨h₄, g, d, tk + 1, os⟩
  have ea : (h₃.objs.size : Nat) = hp.objs.size + 1 := hsz
  clear hh₄ he₃ he₂
  refine wpAny_bind ?_
  · unfold Builtin.SmallTypes.ownedTupleIsFree
    refine wpAny_bind (wpAny_field he₄ rfl (x := .none) rfl (wpAny_pure ?_))
    simp only [if_true]
    refine wpAny_bind (wpAny_rule ?_)
    refine wpAny_bind (wpAny_field he₄ rfl (x := old) rfl ?_)
    refine wpAny_bind (wpAny_setField_rec he₄ (by simp) fun h₅ he₅ hs₅ => ?_)
    replace hs₅ : Heap.SameBut e h₄ h₅ := hs₅
    replace he₅ : IsEnum h₅ e z (c + 1) (.ref hp.objs.size) := he₅
    show wpAny _ _ (Builtin.SmallTypes.ownedTupleHandOut (.ref e) (.ref h₃.objs.size) >>= _) _ _ ⟨h₅, g, d, tk + 1, os⟩
    rw [ea]
    refine wpAny_bind ?_
    · unfold Builtin.SmallTypes.ownedTupleHandOut
      refine wpAny_bind (wpAny_setField_rec he₅ (by simp) fun h₆ he₆ hs₆ => ?_)
      replace hs₆ : Heap.SameBut e h₅ h₆ := hs₆
      replace he₆ : IsEnumOut h₆ e z (c + 1) (.ref hp.objs.size) (hp.objs.size + 1) := he₆
      refine wpAny_setField_rec he₆ (by simp) fun h₇ he₇ hs₇ => ?_
      replace hs₇ : Heap.SameBut e h₆ h₇ := hs₇
      replace he₇ : IsEnumOut h₇ e z (c + 1) (.ref hp.objs.size) (hp.objs.size + 1) := he₇
      have up₇ : ∀ b o, b ≠ e → h₄.get? b = some o → h₇.get? b = some o := fun b o hbe hb => hs₇.extBut b o hbe (hs₆.extBut b o hbe (hs₅.extBut b o hbe hb))
      have up : ∀ b o, b ≠ e → h₁.get? b = some o → h₇.get? b = some o := fun b o hbe hb => up₇ b o hbe (up₄ b o hbe hb)
      have ne1 : hp.objs.size ≠ e := Nat.ne_of_gt hel
      have ne2 : hp.objs.size + 1 ≠ e := Nat.ne_of_gt (Nat.lt_succ_of_lt hel)
      refine wpAny_bind (wpAny_letGo (wpAny_pure ⟨_, rfl, hQ x1 x2 b1 b2 v' f' h₇ tk y1 y2 hv' he₇ (up _ _ (Ne.symm S.ez) hz₁) (up _ _ (Ne.symm S.eTO) hTO₁) ?_ ?_ (up _ _ ne1 hT₁) (up₇ _ _ ne2 ht₄) (by rw [hs₇.1, hs₆.1, hs₅.1, hz₄]) ?_⟩))
      · exact D1.frame _ _ _ sn1 fun b hb o q => up b o (fun x => S.e1 (x ▸ hb)) q
      · exact D2.frame _ _ _ sn2 fun b hb o q => up b o (fun x => S.e2 (x ▸ hb)) q
      · exact fun b o hbe hbz hbT hb1 hb2 hb => up b o hbe (hk₁ b o hbz hbT hb1 hb2 hb)
theorem pyNext_ez_item {e : Addr} {c : Int} {old : Value} {Q : Option Value → Shared → Prop} (S : EzApart e z TI TO i1 i2 fp1 fp2) (D1 : Draws prog w A.in1.in1 i1 fp1 n1 P1 St1) (D2 : Draws prog w A.in1.in1 i2 fp2 n2 P2 St2) (he : IsEnum s.heap e z c old)
    (hz : ZSt s.heap z TI TO v f) (hv : OutV v) (hTI : IsTupOf2 s.heap TI (.ref i1) (.ref i2)) (hTO : IsTupOf2 s.heap TO a1 a2) (st1 : St1 i s.heap) (st2 : St2 i s.heap) (hlt1 : i < n1) (hlt2 : i < n2)
    (hQ : ∀ x1 x2 b1 b2 v' f' h' tk, P1 i x1 → P2 i x2 → OutV v' → IsEnumOut h' e z (c + 1) (.ref s.heap.objs.size) (s.heap.objs.size + 1) → ZSt h' z TI TO v' f' → IsTupOf2 h' TO b1 b2 → St1 (i + 1) h' → St2 (i + 1) h' →
      IsTupOf2 h' s.heap.objs.size x1 x2 → IsTupOf2 h' (s.heap.objs.size + 1) (.int c tk) (.ref s.heap.objs.size) → h'.objs.size = s.heap.objs.size + 2 →
      (∀ b o, b ≠ e → b ≠ z → b ≠ TO → b ≠ i1 → b ≠ i2 → s.heap.get? b = some o → h'.get? b = some o) → Q (some (.ref (s.heap.objs.size + 1))) { s with heap := h', toks := tk + 1 }) :
    wpAny (model prog w) A (pyNext (.ref e)) Q E s := by
  have hT : s.TypeIs (.ref e) "enumerate" := ⟨_, he, rfl⟩
  unfold pyNext
  exact wpAny_bind (wpAny_attempt (wpAny_callSpecial?_slot (name := Str.ofString "__next__") hT F.slot_enumerate_next
    (wpAny_call_entry F.slot_enumerate_next hT F.entry_enumerate_next
      (ez_next_item S D1 D2 he hz hv hTI hTO st1 st2 hlt1 hlt2 fun x1 x2 b1 b2 v' f' h' tk y1 y2 c1 c2 c3 c4 d1 d2 b5 b6 b7 b8 => wpAny_pure (hQ x1 x2 b1 b2 v' f' h' tk y1 y2 c1 c2 c3 c4 d1 d2 b5 b6 b7 b8)) (F.args_enumerate_next_1 _))))
theorem pyNext_ez_end {e : Addr} {c : Int} {old : Value} {Q : Option Value → Shared → Prop} (S : EzApart e z TI TO i1 i2 fp1 fp2) (D1 : Draws prog w A.in1.in1 i1 fp1 n1 P1 St1) (D2 : Draws prog w A.in1.in1 i2 fp2 n2 P2 St2) (he : IsEnum s.heap e z c old)
    (hz : ZSt s.heap z TI TO v f) (hv : OutV v) (hTI : IsTupOf2 s.heap TI (.ref i1) (.ref i2)) (hTO : IsTupOf2 s.heap TO a1 a2) (st1 : St1 i s.heap) (st2 : St2 i s.heap) (dn1 : n1 ≤ i → EndsAt prog w A.in1.in1 i1 (St1 i)) (dn2 : n2 ≤ i → EndsAt prog w A.in1.in1 i2 (St2 i)) (hend : n1 ≤ i ∨ n2 ≤ i)
    (hQ : ∀ h' tk, (∀ b o, b ≠ e → b ≠ z → b ≠ TO → b ≠ i1 → b ≠ i2 → s.heap.get? b = some o → h'.get? b = some o) → Q none { s with heap := h', toks := tk }) :
    wpAny (model prog w) A (pyNext (.ref e)) Q E s := by
  have hT : s.TypeIs (.ref e) "enumerate" := ⟨_, he, rfl⟩
  unfold pyNext
  refine wpAny_bind (wpAny_attempt (wpAny_callSpecial?_slot (name := Str.ofString "__next__") hT F.slot_enumerate_next
    (wpAny_call_entry F.slot_enumerate_next hT F.entry_enumerate_next ?_ (F.args_enumerate_next_1 _))))
  show wpAny _ _ (field (.ref e) 2 >>= _) _ _ _
  refine wpAny_bind (wpAny_field he rfl (x := .ref z) rfl ?_)
  refine wpAny_bind (nextOf_zH_end S.S D1 D2 hz hv hTI hTO st1 st2 dn1 dn2 hend fun h' tk x hk hx' => ?_)
  obtain ⟨o, ho, hc⟩ := hx'
  refine wpAny_bind (wpAny_isInstance (T := "StopIteration") (b := true) ⟨o, ho, hc⟩ isSubtype_stop ?_)
  exact wpAny_pure (hQ _ _ fun b o _ hbz hbT hb1 hb2 hb => hk b o hbz hbT hb1 hb2 hb)
end
end Mir
/-! ### enumerate(zip(a, b)): the walk -/
namespace Mir
open PySem PySem.Spec PyProof.Rows L2
section
variable {X : Cx} {pins : List (Addr × Obj)} {σ : St} {H : Hp} {s : Shared} {h' : Heap}
/-- records of ours have turned, and two new objects are laid -/
theorem turnedNew2 {t' : Nat} {ch : List Addr} {T U : Addr} {ob oc : HO} (I : Inv X pins σ H s) (k : ∀ b o, b ∉ ch → s.heap.get? b = some o → h'.get? b = some o) (hf : ∀ b ∈ ch, FpOk X pins H b) (hT : s.heap.objs.size ≤ T) (hU : s.heap.objs.size ≤ U) (hTU : T ≠ U)
    (new : ObjOk X.prog X.w (upd (upd H T ob) U oc) h' T ob) (new2 : ObjOk X.prog X.w (upd (upd H T ob) U oc) h' U oc) : Inv X pins σ (upd (upd H T ob) U oc) { s with heap := h', toks := t' } := by
  have hn : H T = none := I.hok.fresh hT
  have hm : H U = none := I.hok.fresh hU
  have nit : ∀ b u, H b = some u → b ∉ ch := fun b u e z => by
    have q := (hf b z).1
    rw [q] at e; cases e
  have st : ∀ {b u}, H b = some u → upd (upd H T ob) U oc b = some u := fun {b u} e => by
    rw [upd_ne (ne_of_none e hm), upd_ne (ne_of_none e hn)]; exact e
  refine I.step (g' := s.gens) (d' := s.drawn) (ch := ch) (fun b hb => ⟨(hf b hb).2.2.2.1, (hf b hb).2.1, (hf b hb).2.2.2.2.1, (hf b hb).2.2.2.2.2⟩) (fun b o _ _ hc e _ => k b o hc e) (fun b o _ _ hc e _ => ⟨o.slots, k b o hc e⟩)
    (fun b o _ e n => ?_) (fun b o hc e => ⟨o, k b o hc e⟩) (fun b xs e => st e) (fun b o u e => st e) (fun b ps e => ⟨#[], ?_⟩) (fun m hm => ?_) (fun b u e => ?_) I.bare
  · rw [upd_ne (Nat.ne_of_lt (Nat.lt_of_lt_of_le (Heap.lt_size e) hU)), upd_ne (Nat.ne_of_lt (Nat.lt_of_lt_of_le (Heap.lt_size e) hT))]; exact n
  · rw [st e]; simp
  · obtain ⟨o, es, ep, ho, r⟩ := hm
    exact ⟨o, es, ep, k _ o (fun z => (hf _ z).2.1 rfl) ho, r⟩
  · by_cases hb : b = U
    · subst hb
      rw [upd_same] at e
      cases e
      exact new2
    · rw [upd_ne hb] at e
      by_cases hb2 : b = T
      · subst hb2
        rw [upd_same] at e
        cases e
        exact new
      · rw [upd_ne hb2] at e
        refine (I.hok b u e).stay (fun c v hc q => k c v ?_ q) (fun c q => st q) fun c xs q => st q
        rcases hc with z | z
        · rw [z]; exact nit b u e
        · exact nit c _ z
end
/-- a list (true) or a tuple (false) -/
def SqB (b : Bool) (K : PySem.W.Frag) (H : Hp) (a : Addr) (xs : List V) : Prop := match b with
  | true => SqL K H a xs
  | false => SqT K H a xs
def ItB (b : Bool) (h : Heap) (i a : Addr) (k : Nat) : Prop := match b with
  | true => h.IsListIter i a k
  | false => h.IsTupleIter i a k
def IsB (b : Bool) (h : Heap) (a : Addr) (items : Array Value) : Prop := match b with
  | true => h.IsList a items
  | false => h.IsTuple a items
theorem ItB.get {b : Bool} {h : Heap} {i a : Addr} {k : Nat} (x : ItB b h i a k) : ∃ o, h.get? i = some o ∧ (∀ v, o.data ≠ .cell v) := by
  cases b with
  | true => obtain ⟨o, e, _, d⟩ := x; exact ⟨o, e, fun v q => by rw [d] at q; cases q⟩
  | false => obtain ⟨o, e, _, d⟩ := x; exact ⟨o, e, fun v q => by rw [d] at q; cases q⟩
theorem ItB.at {b : Bool} {h h' : Heap} {i a : Addr} {k : Nat} (x : ItB b h i a k) (e : ∀ o, h.get? i = some o → h'.get? i = some o) : ItB b h' i a k := by
  cases b with
  | true => exact Heap.IsListIter.at x e
  | false => exact Heap.IsTupleIter.at x e
theorem IsB.at {b : Bool} {h h' : Heap} {a : Addr} {xs : Array Value} (x : IsB b h a xs) (e : ∀ o, h.get? a = some o → h'.get? a = some o) : IsB b h' a xs := by
  cases b with
  | true => exact Heap.IsList.at x e
  | false => exact Heap.IsTuple.at x e
theorem IsB.lt {b : Bool} {h : Heap} {a : Addr} {xs : Array Value} (x : IsB b h a xs) : a < h.objs.size := by
  cases b with
  | true => obtain ⟨o, e, _⟩ := x; exact Heap.lt_size e
  | false => obtain ⟨o, e, _⟩ := x; exact Heap.lt_size e
theorem seqDraws {prog : Program} {w : World} {A : Around} (b : Bool) (hh : A.handled = none) (it l : Addr) (hne : l ≠ it) (items : Array Value) :
    Draws prog w A it [it, l] items.size (fun i v => items[i]? = some v) (fun i h => ItB b h it l i ∧ IsB b h l items) := by
  cases b with
  | true => exact Draws.list hh it l hne items
  | false => exact Draws.tuple hh it l hne items
theorem seqEnds {prog : Program} {w : World} {A : Around} (b : Bool) (hh : A.handled = none) {it l : Addr} {i : Nat} {items : Array Value} (h : items.size ≤ i) : EndsAt prog w A it (fun h => ItB b h it l i ∧ IsB b h l items) := fun s Q E st hE => by
  have hx : items[i]? = none := Array.getElem?_eq_none h
  cases b with
  | true => exact wpAny_nextOf_list_end hh st.1 st.2 hx hE
  | false => exact RZ.nextOf_tuple_end hh st.1 st.2 hx hE
theorem Inv_sqB {X : Cx} {pins : List (Addr × Obj)} {σ : St} {H : Hp} {s : Shared} {b : Bool} {a : Addr} {xs : List V} (I : Inv X pins σ H s) (h : SqB b X.K H a xs) : ∃ its : List Value, Vals xs its ∧ IsB b s.heap a its.toArray := by
  cases b with
  | true => obtain ⟨its, r, p, _⟩ := I.list h; exact ⟨its, r, p.isList⟩
  | false => obtain ⟨its, r, p, _⟩ := I.tuple h; exact ⟨its, r, show s.heap.IsTuple a its.toArray from p⟩
theorem Inv_sqB_inj {X : Cx} {pins : List (Addr × Obj)} {σ : St} {H : Hp} {s : Shared} {b : Bool} {a : Addr} {xs ys : List V} (I : Inv X pins σ H s) (h : SqB b X.K H a xs) (h2 : SqB b X.K H a ys) : xs = ys := by
  cases b with
  | true => exact I.list_inj h h2
  | false => exact I.tuple_inj h h2
/-- the pairs of the things at a and c, counted -/
def Itez (b : Bool) (K : PySem.W.Frag) (a c : Addr) : It :=
  ⟨fun i H => ∃ (xs ys : List V) (x y : V), SqB b K H a xs ∧ SqB b K H c ys ∧ xs[i]? = some x ∧ ys[i]? = some y,
    fun i H v H' => ∃ T U x y, v = .ref U ∧ H T = none ∧ H U = none ∧ T ≠ U ∧ H' = upd (upd H T (.tup [x, y])) U (.tup [.int (i : Nat), .ref T]) ∧ (∀ xs, SqB b K H a xs → xs[i]? = some x) ∧ ∀ ys, SqB b K H c ys → ys[i]? = some y,
    fun i H => ∃ xs ys : List V, SqB b K H a xs ∧ SqB b K H c ys ∧ (xs.length ≤ i ∨ ys.length ≤ i)⟩
structure EzNe (e z TI TO i1 i2 a c : Addr) : Prop where
  D : ZipApart z TI TO i1 i2 a c
  ez : e ≠ z
  eTI : e ≠ TI
  eTO : e ≠ TO
  e1 : e ≠ i1
  e2 : e ≠ i2
  ea : e ≠ a
  ec : e ≠ c
  ai : a ≠ i2
  ci : c ≠ i1
theorem EzNe.ap {e z TI TO i1 i2 a c : Addr} (D : EzNe e z TI TO i1 i2 a c) : EzApart e z TI TO i1 i2 [i1, a] [i2, c] where
  S := { TIz := D.D.TIz, TOz := D.D.TOz, TITO := D.D.TITO, TIi1 := D.D.TIi1, mem1 := by simp, zf1 := by simp [D.D.i1z.symm, D.D.l1z.symm], Tf1 := by simp [D.D.TOi1, D.D.l1TO.symm], TIi2 := D.D.TIi2, mem2 := by simp,
         zf2 := by simp [D.D.i2z.symm, D.D.l2z.symm], Tf2 := by simp [D.D.TOi2, D.D.l2TO.symm], sep1_2 := by simp [D.D.i12, D.ci.symm], sep2_1 := by simp [D.D.i12.symm, D.ai.symm] }
  ez := D.ez
  eTI := D.eTI
  eTO := D.eTO
  e1 := by simp [D.e1, D.ea]
  e2 := by simp [D.e2, D.ec]
theorem turn_ez {P : Program} {w : World} {K : PySem.W.Frag} {b : Bool} {elts : List Expr} {kk : Nat} {tpos : Pos} {a c e z TI TO i1 i2 : Addr} (D : EzNe e z TI TO i1 i2 a c) :
    Turn P w K (.Tuple elts kk tpos) (Itez b K a c) [e, z, TI, TO, i1, i2] e (fun i h => (∃ old, IsEnum h e z ((i : Nat) : Int) old) ∧ (∃ v f, OutV v ∧ ZSt h z TI TO v f) ∧ IsTupOf2 h TI (.ref i1) (.ref i2) ∧ (∃ x y, IsTupOf2 h TO x y) ∧ ItB b h i1 a i ∧ ItB b h i2 c i) where
  mem := by simp
  obj := fun i h st d hd => by
    obtain ⟨⟨old, he⟩, ⟨v, f, _, hz⟩, hTI, ⟨x, y, hTO⟩, h1, h2⟩ := st
    have e' : d = e ∨ d = z ∨ d = TI ∨ d = TO ∨ d = i1 ∨ d = i2 := by simpa using hd
    rcases e' with q | q | q | q | q | q
    · rw [q]; exact ⟨_, he, fun v q => nomatch q⟩
    · rw [q]; exact ⟨_, hz, fun v q => nomatch q⟩
    · rw [q]; exact ⟨_, hTI, fun v q => nomatch q⟩
    · rw [q]; exact ⟨_, hTO, fun v q => nomatch q⟩
    · rw [q]; exact h1.get
    · rw [q]; exact h2.get
  keep := fun i h h' st k => by
    obtain ⟨⟨old, he⟩, ⟨v, f, ov, hz⟩, hTI, ⟨x, y, hTO⟩, h1, h2⟩ := st
    exact ⟨⟨old, k e (by simp) _ he⟩, ⟨v, f, ov, k z (by simp) _ hz⟩, k TI (by simp) _ hTI, ⟨x, y, k TO (by simp) _ hTO⟩, h1.at fun o q => k i1 (by simp) o q, h2.at fun o q => k i2 (by simp) o q⟩
  item := by
    intro X hP hw hK hc i pins s σ H E I hf st hg
    subst hP hw hK
    obtain ⟨⟨old, he⟩, ⟨v, f, ov, hz⟩, hTI, ⟨x0, y0, hTO⟩, h1, h2⟩ := st
    obtain ⟨xs, ys, x, y, hqx, hqy, hx, hy⟩ := hg
    obtain ⟨its, rv, p⟩ := Inv_sqB I hqx
    obtain ⟨its2, rv2, p2⟩ := Inv_sqB I hqy
    obtain ⟨u, hu, ru⟩ := rv.get hx
    obtain ⟨u2, hu2, ru2⟩ := rv2.get hy
    have hel : e < s.heap.objs.size := Heap.lt_size he
    have hzl : z < s.heap.objs.size := Heap.lt_size hz
    have hh : X.A.handled = none := I.ok.hd hc
    have D1 := seqDraws (prog := X.prog) (w := X.w) (A := X.A.in1.in1) b hh i1 a D.D.l1i1 its.toArray
    have D2 := seqDraws (prog := X.prog) (w := X.w) (A := X.A.in1.in1) b hh i2 c D.D.l2i2 its2.toArray
    have hlt1 : i < its.toArray.size := by
      have := (List.getElem?_eq_some_iff.mp hu).1
      simpa using this
    have hlt2 : i < its2.toArray.size := by
      have := (List.getElem?_eq_some_iff.mp hu2).1
      simpa using this
    refine pyNext_ez_item D.ap D1 D2 he hz ov hTI hTO ⟨h1, p⟩ ⟨h2, p2⟩ hlt1 hlt2 fun x1 x2 b1 b2 v' f' h' tk y1 y2 ov' he' hz' hTO' sn1 sn2 hT hU hsz hk => ?_
    obtain rfl : x1 = u := by
      have q : its[i]? = some x1 := by simpa using y1
      rw [hu] at q; cases q; rfl
    obtain rfl : x2 = u2 := by
      have q : its2[i]? = some x2 := by simpa using y2
      rw [hu2] at q; cases q; rfl
    refine ⟨_, rfl, wpAny_letOwnedTupleGo_enum (s := { s with heap := h', toks := tk + 1 }) he' fun h'' he'' sb => ?_⟩
    have sb : Heap.SameBut e h' h'' := sb
    have hTI' : IsTupOf2 h' TI (.ref i1) (.ref i2) := hk _ _ (Ne.symm D.eTI) D.D.TIz D.D.TITO D.D.TIi1 D.D.TIi2 hTI
    have up : ∀ d o, d ≠ e → h'.get? d = some o → h''.get? d = some o := fun d o n q => (sb.2 d n).trans q
    have hT2 := up _ _ (Nat.ne_of_gt hel) hT
    have hU2 := up _ _ (Nat.ne_of_gt (Nat.lt_succ_of_lt hel)) hU
    have nTU : s.heap.objs.size ≠ s.heap.objs.size + 1 := (Nat.succ_ne_self _).symm
    have new : ObjOk X.prog X.w (upd (upd H s.heap.objs.size (.tup [x, y])) (s.heap.objs.size + 1) (.tup [.int (i : Nat), .ref s.heap.objs.size])) h'' s.heap.objs.size (.tup [x, y]) :=
      ⟨by show 2 ≤ sizeLine; decide, [x1, x2], .cons ru (.cons ru2 .nil), ⟨_, hT2, rfl, _, rfl⟩⟩
    have new2 : ObjOk X.prog X.w (upd (upd H s.heap.objs.size (.tup [x, y])) (s.heap.objs.size + 1) (.tup [.int (i : Nat), .ref s.heap.objs.size])) h'' (s.heap.objs.size + 1) (.tup [.int (i : Nat), .ref s.heap.objs.size]) :=
      ⟨by show 2 ≤ sizeLine; decide, [.int (i : Nat) tk, .ref s.heap.objs.size], .cons ⟨_, rfl⟩ (.cons rfl .nil), ⟨_, hU2, rfl, _, rfl⟩⟩
    have I1 : Inv X pins σ (upd (upd H s.heap.objs.size (.tup [x, y])) (s.heap.objs.size + 1) (.tup [.int (i : Nat), .ref s.heap.objs.size])) { s with heap := h'', toks := tk + 1 } :=
      turnedNew2 (t' := tk + 1) (ch := [e, z, TI, TO, i1, i2]) I (fun d o hd q => up d o (fun q' => hd (by simp [q'])) (hk d o (fun q' => hd (by simp [q'])) (fun q' => hd (by simp [q'])) (fun q' => hd (by simp [q'])) (fun q' => hd (by simp [q'])) (fun q' => hd (by simp [q'])) q)) hf (Nat.le_refl _) (Nat.le_succ _) nTU new new2
    refine ⟨.ref (s.heap.objs.size + 1), _, I1, rfl, ⟨s.heap.objs.size, s.heap.objs.size + 1, x, y, rfl, I.hok.fresh (Nat.le_refl _), I.hok.fresh (Nat.le_succ _), nTU, rfl, fun l hl => by rw [Inv_sqB_inj I hl hqx]; exact hx, fun l hl => by rw [Inv_sqB_inj I hl hqy]; exact hy⟩, ⟨⟨.ref s.heap.objs.size, ?_⟩, ⟨v', f', ov', up _ _ (Ne.symm D.ez) hz'⟩, up _ _ (Ne.symm D.eTI) hTI', ⟨b1, b2, up _ _ (Ne.symm D.eTO) hTO'⟩, sn1.1.at fun o q => up _ _ (Ne.symm D.e1) q, sn2.1.at fun o q => up _ _ (Ne.symm D.e2) q⟩, fun d hd => ?_⟩
    · have e1 : ((i + 1 : Nat) : Int) = (i : Int) + 1 := by omega
      rw [e1]; exact he''
    · have hlt : d < s.heap.objs.size := by
        have e' : d = e ∨ d = z ∨ d = TI ∨ d = TO ∨ d = i1 ∨ d = i2 := by simpa using hd
        rcases e' with q | q | q | q | q | q
        · rw [q]; exact hel
        · rw [q]; exact hzl
        · rw [q]; exact Heap.lt_size hTI
        · rw [q]; exact Heap.lt_size hTO
        · rw [q]; obtain ⟨_, e1, _⟩ := h1.get; exact Heap.lt_size e1
        · rw [q]; obtain ⟨_, e1, _⟩ := h2.get; exact Heap.lt_size e1
      rw [upd_ne (Nat.ne_of_lt (Nat.lt_succ_of_lt hlt)), upd_ne (Nat.ne_of_lt hlt)]
      exact (hf d hd).1
  done := by
    intro X hP hw hK hc i pins s σ H E I hf st hg
    subst hP hw hK
    obtain ⟨⟨old, he⟩, ⟨v, f, ov, hz⟩, hTI, ⟨x0, y0, hTO⟩, h1, h2⟩ := st
    obtain ⟨xs, ys, hqx, hqy, hend⟩ := hg
    obtain ⟨its, rv, p⟩ := Inv_sqB I hqx
    obtain ⟨its2, rv2, p2⟩ := Inv_sqB I hqy
    have hh : X.A.handled = none := I.ok.hd hc
    have l1 : xs.length = its.toArray.size := by rw [rv.length]; simp
    have l2 : ys.length = its2.toArray.size := by rw [rv2.length]; simp
    have D1 := seqDraws (prog := X.prog) (w := X.w) (A := X.A.in1.in1) b hh i1 a D.D.l1i1 its.toArray
    have D2 := seqDraws (prog := X.prog) (w := X.w) (A := X.A.in1.in1) b hh i2 c D.D.l2i2 its2.toArray
    refine pyNext_ez_end D.ap D1 D2 he hz ov hTI hTO ⟨h1, p⟩ ⟨h2, p2⟩ (fun hn => seqEnds (A := X.A.in1.in1) b hh hn) (fun hn => seqEnds (A := X.A.in1.in1) b hh hn) (by omega) fun h' tk hk => ⟨rfl, I.turnedL (t' := tk) (ch := [e, z, TI, TO, i1, i2]) (fun d o hd q =>
      hk d o (fun q' => hd (by simp [q'])) (fun q' => hd (by simp [q'])) (fun q' => hd (by simp [q'])) (fun q' => hd (by simp [q'])) (fun q' => hd (by simp [q'])) q) hf⟩
  self := fun A i s Q E st h => let ⟨⟨_, he⟩, _⟩ := st; wpAny_pyIter_enum he h

theorem meets_enumerate_newZ (z TI TO : Addr) :
    Meets (Builtin.«enumerate.__new__» ⟨[.type "enumerate", .ref z], []⟩) (fun _ R s => IsZip s.heap z TI TO .none ∧
      R (.ok (.ret (.ref s.heap.objs.size))) { s with heap := s.heap.push { cls := .type "enumerate", data := .fields #[.none, .bool false, .ref z, rawInt 0, .none, .none] } }) :=
  .of_wp fun prog w A R s h => by
    obtain ⟨hp, g, d, tk, os⟩ := s; obtain ⟨h1, h⟩ := h
    have hsub := sub_enumerate
    have q1 : ∀ {A' : Around} {E : Value → Shared → Prop} {Q : Value → Shared → Prop}, Q (.ref z) ⟨hp, g, d, tk, os⟩ → wpAny (model prog w) A' (pyIter (.ref z)) Q E ⟨hp, g, d, tk, os⟩ :=
      fun q => wpAny_pyIter_zip h1 q
    wp_walk using q1
    refine wpAny_stack_any fun st => wpAny_pure ?_
    split
    · rename_i c _ _ _ _ _
      cases (c == Value.type "enumerate")
      · wp_walk using q1
        exact ⟨_, rfl, h⟩
      · wp_walk using q1
        exact ⟨_, rfl, h⟩
    · wp_walk using q1
      exact ⟨_, rfl, h⟩
theorem call_enumerate_zip {prog : Program} {w : World} {A : Around} {E : Value → Shared → Prop} {s : Shared} {z TI TO : Addr} {Q : Value → Shared → Prop} (hz : IsZip s.heap z TI TO .none)
    (h : ∀ h', IsEnum h' s.heap.objs.size z 0 .none → h'.objs.size = s.heap.objs.size + 1 → (∀ b o, s.heap.get? b = some o → h'.get? b = some o) → Q (.ref s.heap.objs.size) { s with heap := h' }) :
    wpAny (model prog w) A (call (.type "enumerate") [.ref z]) Q E s := by
  refine callType_new F.called_enumerate (by decide) (F.typeCall_enumerate_1 _) (F.newCall_enumerate_1 _) (fun obj => F.args_object_init_2 obj _) F.entry_enumerate_new
    (meets_enumerate_newZ z TI TO) ⟨hz, ?_⟩
  have he : IsEnum (s.heap.push { cls := .type "enumerate", data := .fields #[.none, .bool false, .ref z, rawInt 0, .none, .none] }) s.heap.objs.size z 0 .none := Heap.get?_push_size _ rfl
  exact ⟨⟨_, he, rfl⟩, h _ he (Heap.size_push ..) fun b o x => Heap.get?_push_of_some _ x⟩
theorem ez_ne (N : Nat) (a c : Addr) (ha : a < N) (hc : c < N) : EzNe (N + 5) (N + 4) (N + 2) (N + 3) N (N + 1) a c where
  D := PySem.W.ktu_apart N a c ha hc
  ez := show (N + 5 : Nat) ≠ N + 4 by omega
  eTI := show (N + 5 : Nat) ≠ N + 2 by omega
  eTO := show (N + 5 : Nat) ≠ N + 3 by omega
  e1 := show (N + 5 : Nat) ≠ N by omega
  e2 := show (N + 5 : Nat) ≠ N + 1 by omega
  ea := fun q => absurd ha (by rw [← q]; exact Nat.not_lt.mpr (Nat.le_add_right N 5))
  ec := fun q => absurd hc (by rw [← q]; exact Nat.not_lt.mpr (Nat.le_add_right N 5))
  ai := fun q => absurd ha (by rw [q]; exact Nat.not_lt.mpr (Nat.le_succ N))
  ci := fun q => absurd hc (by rw [q]; exact Nat.lt_irrefl N)
theorem call_zipB {prog : Program} {w : World} {A : Around} {E : Value → Shared → Prop} {s : Shared} {b : Bool} {l1 l2 : Addr} {xs ys : Array Value} {Q : Value → Shared → Prop} (hl1 : IsB b s.heap l1 xs) (hl2 : IsB b s.heap l2 ys)
    (h : ∀ h', IsZip h' (s.heap.objs.size + 4) (s.heap.objs.size + 2) (s.heap.objs.size + 3) .none → IsPair h' (s.heap.objs.size + 2) (.ref s.heap.objs.size) (.ref (s.heap.objs.size + 1)) →
      IsPair h' (s.heap.objs.size + 3) .none .none → ItB b h' s.heap.objs.size l1 0 → ItB b h' (s.heap.objs.size + 1) l2 0 → h'.objs.size = s.heap.objs.size + 5 →
      (∀ c o, s.heap.get? c = some o → h'.get? c = some o) → Q (.ref (s.heap.objs.size + 4)) { s with heap := h' }) :
    wpAny (model prog w) A (call (.type "zip") [.ref l1, .ref l2]) Q E s := by
  cases b with
  | true => exact call_zip_2 hl1 hl2 h
  | false => exact RZ.call_zipT hl1 hl2 h
def iEz (K : PySem.W.Frag) (ta : TA) : TI := fun σ H Rr => ta σ H fun vs H1 => ∃ b a c xs ys, vs = [.ref a, .ref c] ∧ SqB b K H1 a xs ∧ SqB b K H1 c ys ∧ Rr (Itez b K a c) H1
theorem pi_ez {X : Cx} {e e2 : Expr} {ta : TA} {p p2 pos pos2 tpos : Pos} {elts : List Expr} {kk : Nat} (hg : Gl X "enumerate") (hm : X.mg "enumerate" = none) (hgz : Gl X "zip") (hmz : X.mg "zip" = none) (ha : PA X [e, e2] ta)
    (hs1 : starEach [Expr.Call (.Name "zip" p2) [e, e2] [] pos2] X.env = (false, eval (.Call (.Name "zip" p2) [e, e2] [] pos2) X.env) :: starEach [] X.env := by rfl)
    (hs : starEach [e, e2] X.env = (false, eval e X.env) :: starEach [e2] X.env := by rfl) (hpl : (backTo pos2 (starEach [e2] X.env)).any (·.1) = false := by rfl) :
    PI X (.Tuple elts kk tpos) (.Call (.Name "enumerate" p) [.Call (.Name "zip" p2) [e, e2] [] pos2] [] pos) (iEz X.K ta) := by
  refine ⟨fun pins s σ H Rr I h => ?_⟩
  refine Call_ (ld_blt I hg hm boot_enumerate ?_)
  refine PyProof.Rows.callWith_type1 (PyProof.Rows.args_cons ?_ hs1) hs1 rfl
  refine Call_ (ld_blt I hgz hmz PyProof.Rows.boot_zip (PyProof.Rows.callWith_type1 (thn (ha.run pos2 pins s σ H _ I h) fun us s1 ⟨vs, H1, I1, r1, q1⟩ => ?_) hs hpl))
  obtain ⟨b, a, c, xs, ys, ex, hqx, hqy, q⟩ := q1
  subst ex
  cases r1 with
  | cons r rr =>
    cases rr with
    | cons r' rr =>
      cases rr
      cases r
      cases r'
      obtain ⟨its, rv, p1⟩ := Inv_sqB I1 hqx
      obtain ⟨its2, rv2, p2⟩ := Inv_sqB I1 hqy
      refine call_zipB p1 p2 fun h' hz hTI hTO h1 h2 hsz hk => ?_
      refine PyProof.Rows.args_nil ?_
      refine call_enumerate_zip (s := { s1 with heap := h' }) hz fun h'' he hsz' hk' => ?_
      have hsz : h'.objs.size = s1.heap.objs.size + 5 := hsz
      have he : IsEnum h'' h'.objs.size (s1.heap.objs.size + 4) 0 .none := he
      rw [hsz] at he
      show wpAny _ _ (pyIter (.ref h'.objs.size)) _ _ _
      rw [hsz]
      refine wpAny_pyIter_enum he ?_
      have up : ∀ b o, h'.get? b = some o → h''.get? b = some o := hk'
      have I2 : Inv X pins σ H1 { s1 with heap := h'' } := I1.kept (t' := s1.toks) fun b o q => up _ _ (hk b o q)
      refine ⟨s1.heap.objs.size + 5, [s1.heap.objs.size + 5, s1.heap.objs.size + 4, s1.heap.objs.size + 2, s1.heap.objs.size + 3, s1.heap.objs.size, s1.heap.objs.size + 1], _, _, H1, rfl, I2, turn_ez (ez_ne s1.heap.objs.size a c p1.lt p2.lt),
        ⟨⟨.none, he⟩, ⟨.none, false, .inl rfl, up _ _ hz⟩, up _ _ hTI, ⟨.none, .none, up _ _ hTO⟩, h1.at fun o q => up _ _ q, h2.at fun o q => up _ _ q⟩, fun d hd => ?_, q⟩
      have e' : d = s1.heap.objs.size + 5 ∨ d = s1.heap.objs.size + 4 ∨ d = s1.heap.objs.size + 2 ∨ d = s1.heap.objs.size + 3 ∨ d = s1.heap.objs.size ∨ d = s1.heap.objs.size + 1 := by simpa using hd
      have hle : s1.heap.objs.size ≤ d := by
        rcases e' with z | z | z | z | z | z <;> rw [z]
        · exact Nat.le_add_right _ _
        · exact Nat.le_add_right _ _
        · exact Nat.le_add_right _ _
        · exact Nat.le_add_right _ _
        · exact Nat.le_refl _
        · exact Nat.le_add_right _ _
      exact I1.fpOk hle (I1.hok.fresh hle)
/-! the mirror -/
noncomputable def ezD (xs ys : List D) : List D := (zipD xs ys).zipIdx.map fun p => PyData.tuple [.int (p.2 : Int), p.1]
noncomputable def ezK (d e : D) : R (List D) := match d, e with
  | .list xs, .list ys => .ok (ezD xs ys)
  | .tuple xs, .tuple ys => .ok (ezD xs ys)
  | _, _ => .no
noncomputable def ezS (m m' : En → R D) : En → R (List D) := fun ρ => (m ρ).bind fun d => (m' ρ).bind fun e => ezK d e
theorem SqB.up {b : Bool} {K : PySem.W.Frag} {H H' : Hp} {a : Addr} {xs : List V} (l : Le H H') (h : SqB b K H a xs) : SqB b K H' a xs := by
  cases b with
  | true => exact l.sql h
  | false => exact l.sqt h
theorem walk_ez {b : Bool} {K : PySem.W.Frag} {a c : Addr} {vs ws : List V} {ds es : List D} {F1 G : Hp} (s : SqB b K G a vs) (s' : SqB b K G c ws) (r : RpA K F1 vs ds) (r' : RpA K F1 ws es) : Walk K (Itez b K a c) F1 G (ezD ds es) where
  go := fun i F' H' l1 l2 l3 d hd => by
    unfold ezD at hd
    rw [List.getElem?_map, List.getElem?_zipIdx] at hd
    cases q : (zipD ds es)[i]? with
    | none => rw [q] at hd; cases hd
    | some d0 =>
      rw [q] at hd
      have hd := Option.some.inj hd
      subst hd
      unfold zipD at q
      rw [List.getElem?_map] at q
      cases q2 : (ds.zip es)[i]? with
      | none => rw [q2] at q; cases q
      | some p =>
        rw [q2] at q
        have q := Option.some.inj q
        subst q
        obtain ⟨h1, h2⟩ := List.getElem?_zip_eq_some.mp q2
        obtain ⟨v, hv, rv⟩ := r.getD h1
        obtain ⟨u, hu, ru⟩ := r'.getD h2
        refine ⟨⟨vs, ws, v, u, s.up l3, s'.up l3, hv, hu⟩, fun x H'' y => ?_⟩
        obtain ⟨T, U, z, z', rfl, nT, nU, nTU, rfl, y, y'⟩ := y
        have e := y vs (s.up l3)
        rw [hv] at e; cases e
        have e := y' ws (s'.up l3)
        rw [hu] at e; cases e
        have fT := l2.none nT
        have fU := l2.none nU
        have l := l1.trans ((Le.refl F').upd (o := .tup [v, u]) fT)
        have e1 := (Ext.grow l2 (o := .tup [v, u]) nT).freeze nT upd_same fT
        have nU2 : upd H' T (.tup [v, u]) U = none := by rw [upd_ne (Ne.symm nTU)]; exact nU
        have fU2 : upd F' T (.tup [v, u]) U = none := by rw [upd_ne (Ne.symm nTU)]; exact fU
        have e2 := (Ext.grow e1.sub (o := .tup [.int (i : Nat), .ref T]) nU2).freeze nU2 upd_same fU2
        refine ⟨_, e1.trans e2, .tup (.inl (.inl upd_same)) (.cons ?_ (.cons (.tup (.inl (.inl ?_)) (.cons (rv.mono (l.trans e2.le)) (.cons (ru.mono (l.trans e2.le)) .nil))) .nil))⟩
        · simp only [Nat.zero_add]
          exact .int _
        · rw [upd_ne nTU]
          exact upd_same
  stop := fun i F' H' l1 l2 l3 hl => by
    have hl : min ds.length es.length ≤ i := by simpa [ezD, zipD] using hl
    exact ⟨vs, ws, s.up l3, s'.up l3, by rw [r.length, r'.length]; omega⟩
section
variable {X : Cx} {cl : String → Addr} {W : XK} {a b : Expr} {ma mb : En → R D}
theorem sz_ez {p p2 pos pos2 tpos : Pos} {elts : List Expr} {kk : Nat} (hg : Gl X "enumerate") (hm : X.mg "enumerate" = none) (hgz : Gl X "zip") (hmz : X.mg "zip" = none) (ha : PD X cl W a ma) (hb : PD X cl W b mb)
    (hs1 : starEach [Expr.Call (.Name "zip" p2) [a, b] [] pos2] X.env = (false, eval (.Call (.Name "zip" p2) [a, b] [] pos2) X.env) :: starEach [] X.env := by rfl)
    (hs : starEach [a, b] X.env = (false, eval a X.env) :: starEach [b] X.env := by rfl) (hs2 : starEach [b] X.env = (false, eval b X.env) :: starEach [] X.env := by rfl) (hpl : (backTo pos2 (starEach [b] X.env)).any (·.1) = false := by rfl) :
    PSr X cl W false (.Tuple elts kk tpos) (.Call (.Name "enumerate" p) [.Call (.Name "zip" p2) [a, b] [] pos2] [] pos) (ezS ma mb) := by
  refine PI.imp (pi_ez hg hm hgz hmz (pa_cons ha (pa_one hb hs2) hs) hs1 hs hpl) fun σ H Rr ⟨F0, H0, ρ, F, ok, q⟩ => ⟨F0, H0, ρ, F, ok, ?_⟩
  refine tRI.bind q fun v F1 H1 d e1 p1 q1 => ⟨F0, H0, ρ, F1, ok.grow e1, ?_⟩
  refine tRI.bind q1 fun u F2 H2 e e2 p2 q2 => ?_
  cases d with
  | list xs =>
    cases e with
    | list ys =>
      obtain ⟨p, vs, rfl, s, r⟩ := Rp.inv_list p1
      obtain ⟨p', ws, rfl, s', r'⟩ := Rp.inv_list p2
      exact ⟨true, p, p', vs, ws, rfl, .inl (.inl (e2.sub _ _ (e2.le _ _ s))), .inl (.inl (e2.sub _ _ s')), q2 _ F2 H2 (Ext.refl e2.sub) (walk_ez (b := true) (.inl (.inl (e2.le _ _ s))) (.inl (.inl s')) (r.mono e2.le) r')⟩
    | _ => exact False.elim q2
  | tuple xs =>
    cases e with
    | tuple ys =>
      obtain ⟨p, vs, rfl, s, r⟩ := Rp.inv_tup p1
      obtain ⟨p', ws, rfl, s', r'⟩ := Rp.inv_tup p2
      exact ⟨false, p, p', vs, ws, rfl, e2.sub.sqt (e2.le.sqt s), e2.sub.sqt s', q2 _ F2 H2 (Ext.refl e2.sub) (walk_ez (b := false) (e2.le.sqt s) s' (r.mono e2.le) r')⟩
    | _ => exact False.elim q2
  | _ => cases e <;> exact False.elim q2
end
end Mir
/-! ### dicts: d.get(k, x), displays, dict(pairs), dict(d), d.items() -/
namespace Mir
open PySem PySem.Spec PyProof.Rows L2
theorem allN_one {p : Nat → Bool} (a : Nat) (h : p a = true) : (allN 1 fun i => p (a + i)) = true := allN_mk fun i hi => by
  have e : i = 0 := by omega
  subst e
  exact h
section
variable {X : Cx} {cl : String → Addr} {W : XK} {e o f : Expr} {m mf : En → R D} {mi : En → R (List (D × D))}
/-- d.get(k, x) -/
noncomputable def getDf (mi : En → R (List (D × D))) (m mf : En → R D) : En → R D := fun ρ => (mi ρ).bind fun ds => (m ρ).bind fun k => (mf ρ).bind fun z => match keyOf k with
  | some _ => .ok ((getK ds k).getD z)
  | none => .no
theorem pd_getDf {apos cpos : Pos} (hu : X.A.units + 65 < cLine) (ho : PDi X cl W o mi) (hi : PD X cl W e m) (hf : PD X cl W f mf) (h2 : M2 X o "get" apos e f cpos := by exact ⟨rfl, rfl, rfl, rfl⟩) : PD X cl W (.Call (.Attribute o "get" apos) [e, f] [] cpos) (getDf mi m mf) := by
  refine PE.imp (pe_dget2 (by omega) ho hi hf h2) fun σ H Q ⟨F0, H0, ρ, F, ok, h⟩ => ?_
  refine ⟨F0, H0, ρ, F, ok, (tR.bind (P := poI X.K) anti_D (show tR cl W (poD X.K) ((mi ρ).bind _) F H Q from h)).imp fun v H1 ⟨F1, ds, e1, ⟨b, ks, hb, rd, r⟩, h1⟩ => ?_⟩
  refine ⟨b, hb, .inl ⟨ks, rd⟩, F0, H0, ρ, F1, ok.grow e1, (tR.bind (P := poD X.K) anti_D h1).imp fun u H2 ⟨F2, k, e2, p2, h2⟩ => ?_⟩
  refine ⟨F0, H0, ρ, F2, (ok.grow e1).grow e2, (tR.bind (P := poD X.K) anti_D h2).imp fun w H3 ⟨F3, z, e3, p3, h3⟩ => ?_⟩
  cases hk : keyOf k with
  | none => rw [hk] at h3; exact h3.elim
  | some κ =>
    rw [hk] at h3
    obtain rfl := keyV hk p2
    obtain rfl := keyOf_some hk
    have g := get_rel κ r
    have rd2 : Rd H3 b (.dK ks) := e3.keep.rd (e2.keep.rd rd)
    refine ⟨valV ks κ, .inl ⟨ks, κ, rd2, rfl, rfl⟩, ?_⟩
    cases q : valV ks κ with
    | none =>
      rw [q] at g
      simp only at g
      rw [g] at h3
      exact h3 w F3 H3 (Ext.refl e3.sub) p3
    | some y =>
      rw [q] at g
      obtain ⟨d, g1, g2⟩ := g
      rw [g1] at h3
      exact h3 y F3 H3 (Ext.refl e3.sub) (g2.mono (e2.le.trans e3.le))
end
/-- a new dict -/
noncomputable def poN (K : PySem.W.Frag) : Po (List (D × D)) := fun H kvs v F' H' => ∃ p ks, v = .ref p ∧ H p = none ∧ F' p = none ∧ H' p = some (.dK ks) ∧ RpK K F' ks kvs
theorem anti_N {K : PySem.W.Frag} : Anti (poN K) := fun _ _ _ _ _ _ e h => by
  obtain ⟨p, ks, a, b, c⟩ := h
  exact ⟨p, ks, a, e.none b, c⟩
noncomputable def PN (X : Cx) (cl : String → Addr) (W : XK) (e : Expr) (m : En → R (List (D × D))) : Prop := PE X e (tM cl W X.K (poN X.K) m)
theorem Ext.lockd {F H F' H' : Hp} (e : Ext F H F' H') {p : Addr} {ks : List (Key × V)} {o : Obj} (np : H p = none) (fp : F' p = none) (hp : H' p = some (.dK ks)) : Ext F H (upd F' p (.frz o (.dK ks))) (upd H' p (.frz o (.dK ks))) where
  le := e.le.upd (e.le.none fp)
  sub := fun b u q => by
    by_cases n : b = p
    · subst n; rw [upd_same] at q ⊢; exact q
    · rw [upd_ne n] at q ⊢; exact e.sub _ _ q
  keep := e.keep.upd np
  new := fun b u q => by
    by_cases n : b = p
    · subst n; exact .inr np
    · rw [upd_ne n] at q; exact e.new _ _ q
noncomputable def tD (m : En → R (List (D × D))) : En → R D := fun ρ => (m ρ).bind fun kvs => .ok (.dict kvs)
section
variable {X : Cx} {cl : String → Addr} {W : XK} {e : Expr} {m : En → R (List (D × D))}
theorem pd_n (h : PN X cl W e m) : PD X cl W e (tD m) := PE.imp (pe_lockD h) fun σ H Q ⟨F0, H0, ρ, F, ok, q⟩ => ⟨F0, H0, ρ, F, ok, by
  have q : tR cl W (poD X.K) ((m ρ).bind fun kvs => .ok (.dict kvs)) F H Q := q
  cases hr : m ρ with
  | ok kvs =>
    rw [hr] at q
    rintro v F' H' ex ⟨p, ks, rfl, np, fp, hp, r⟩
    exact ⟨p, ks, rfl, hp, fun o => q _ _ _ (ex.lockd np fp hp) (.dct upd_same (r.mono ((Le.refl F').upd fp)))⟩
  | ex c n => rw [hr] at q; exact q
  | no => rw [hr] at q; exact q⟩
/-- x = a new dict, to be changed -/
noncomputable def setN (i : Nat) (m : En → R (List (D × D))) : En → R Fl := fun ρ => (m ρ).bind fun d => .ok (.nx (setE ρ i (.dd d)))
theorem st_setN {i : Nat} {x : Str} {pos pos' : Pos} (hN : X.N.Nodup) (hi : X.N[i]? = some x) (hx : Loc X.env.scope x) (he : PN X cl W e m) (hs : swapsWith e (some (.Name x pos')) pos.line X.env = pure false := by rfl) (hf : X.fn x = true ∨ X.env.scope.names.lookup x = some .local := by first | exact .inl rfl | exact .inr rfl | assumption) :
    PSt X cl W (.Assign [.Name x pos'] e pos) (setN i m) := by
  refine PS.imp (ps_set hN hi hx he hs hf) fun σ H Q ⟨F0, H0, ρ, F, ok, h⟩ => ⟨F0, H0, ρ, F, ok, ?_⟩
  refine tRS.expr h ok.ext.keep fun v F1 H1 d e1 p1 h1 => ?_
  obtain ⟨p, ks, rfl, np, fp, hp, r⟩ := p1
  exact h1 _ F1 H1 (by rw [setE_eq]; exact ok.newd e1 i np fp hp r) (Le.refl F1)
end
/-! displays -/
noncomputable def mrgD (kvs : List (D × D)) : List (D × D) := kvs.foldl (fun acc kv => putD acc kv.1 kv.2) []
theorem merge_rel {K : PySem.W.Frag} {F : Hp} : ∀ {more : List (Key × V)} {dm : List (D × D)} {ks : List (Key × V)} {ds : List (D × D)}, RpK K F more dm → RpK K F ks ds → RpK K F (mergeK ks more) (dm.foldl (fun acc kv => putD acc kv.1 kv.2) ds)
  | [], _, _, _, .nil, h => h
  | _ :: _, _, _, _, .cons (k := k) hv hr, h => by
    have z := merge_rel hr (put_rel (k := k) h hv)
    exact z
section
variable (cl : String → Addr) (W : XK)
noncomputable def tRP (K : PySem.W.Frag) (r : R (List (D × D))) (F H : Hp) (Q : List (V × V) → Hp → Prop) : Prop := match r with
  | .ok kvs => ∀ ks F' H', Ext F H F' H' → RpK K F' ks kvs → Q (ks.map fun kv => (kV kv.1, kv.2)) H'
  | .ex c n => ExW W cl c n H
  | .no => False
end
structure PPr (X : Cx) (cl : String → Addr) (W : XK) (pos : Pos) (keys : List (Option Expr)) (vals : List Expr) (trs : List (TE × TE)) (mp : En → R (List (D × D))) : Prop where
  pp : PPs X pos keys vals trs
  go : ∀ σ H Q F0 H0 ρ F, Ok X.K F0 H0 ρ F σ H → tRP cl W X.K (mp ρ) F H Q → tPairs trs σ H Q
noncomputable def dpN : En → R (List (D × D)) := fun _ => .ok []
noncomputable def dpC (mk mv : En → R D) (r : En → R (List (D × D))) : En → R (List (D × D)) := fun ρ => (mk ρ).bind fun k => (mv ρ).bind fun v => match keyOf k with
  | some _ => (r ρ).bind fun kvs => .ok ((k, v) :: kvs)
  | none => .no
noncomputable def dspN (mp : En → R (List (D × D))) : En → R (List (D × D)) := fun ρ => (mp ρ).bind fun kvs => if kvs.length ≤ 15 then .ok (mrgD kvs) else .no
section
variable {X : Cx} {cl : String → Addr} {W : XK} {pos : Pos} {k v : Expr} {ks : List (Option Expr)} {vs : List Expr} {mk mv : En → R D} {mp : En → R (List (D × D))} {trs : List (TE × TE)}
theorem ppr_n : PPr X cl W pos [] [] [] dpN := ⟨pps_nil, fun σ H Q F0 H0 ρ F ok h => h [] F H (Ext.refl ok.sub) .nil⟩
theorem ppr_c (hk : PD X cl W k mk) (hv : PD X cl W v mv) (hr : PPr X cl W pos ks vs trs mp) : PPr X cl W pos (some k :: ks) (v :: vs) ((tM cl W X.K (poD X.K) mk, tM cl W X.K (poD X.K) mv) :: trs) (dpC mk mv mp) := by
  refine ⟨pps_cons hk hv hr.pp, fun σ H Q F0 H0 ρ F ok h => ?_⟩
  have h : tRP cl W X.K ((mk ρ).bind fun k => (mv ρ).bind fun v => match keyOf k with
    | some _ => (mp ρ).bind fun kvs => .ok ((k, v) :: kvs)
    | none => .no) F H Q := h
  refine ⟨F0, H0, ρ, F, ok, ?_⟩
  cases hr1 : mk ρ with
  | no => rw [hr1] at h; exact h
  | ex c n => rw [hr1] at h; exact h
  | ok d =>
    rw [hr1] at h
    intro x F1 H1 e1 p1
    refine ⟨F0, H0, ρ, F1, ok.grow e1, ?_⟩
    have h : tRP cl W X.K ((mv ρ).bind fun v => match keyOf d with
      | some _ => (mp ρ).bind fun kvs => .ok ((d, v) :: kvs)
      | none => .no) F H Q := h
    cases hr2 : mv ρ with
    | no => rw [hr2] at h; exact h
    | ex c n => rw [hr2] at h; exact ExW.grow h e1.keep
    | ok c =>
      rw [hr2] at h
      intro y F2 H2 e2 p2
      have h : tRP cl W X.K (match keyOf d with
        | some _ => (mp ρ).bind fun kvs => .ok ((d, c) :: kvs)
        | none => .no) F H Q := h
      cases hk : keyOf d with
      | none => rw [hk] at h; exact h.elim
      | some κ =>
        rw [hk] at h
        have h : tRP cl W X.K ((mp ρ).bind fun kvs => .ok ((d, c) :: kvs)) F H Q := h
        refine hr.go σ H2 _ F0 H0 ρ F2 ((ok.grow e1).grow e2) ?_
        cases hr3 : mp ρ with
        | no => rw [hr3] at h; exact h
        | ex c n => rw [hr3] at h; exact ExW.grow (ExW.grow h e1.keep) e2.keep
        | ok kvs =>
          rw [hr3] at h
          intro ks F3 H3 e3 r3
          obtain rfl := keyV hk (show Rp X.K F1 x d from p1)
          obtain rfl := keyOf_some hk
          exact h ((κ, y) :: ks) F3 H3 ((e1.trans e2).trans e3) (.cons ((show Rp X.K F2 y c from p2).mono e3.le) r3)
theorem pn_disp (h : PPr X cl W pos ks vs trs mp) (hall : ks.all (·.isSome) = true := by rfl) (hl : ks.length = vs.length := by rfl) (h0 : ks ≠ [] := by simp) (h15 : ks.length ≤ 15 := by decide) : PN X cl W (.Dict ks vs pos) (dspN mp) := by
  refine PE.imp (pe_disp h.pp hall hl h0 h15) fun σ H Q ⟨F0, H0, ρ, F, ok, q⟩ => fun p np => ?_
  have g := Ext.grow ok.sub (o := .dK []) np
  have fp := ok.sub.none np
  refine h.go σ _ _ F0 H0 ρ F (ok.grow g) ?_
  have q : tR cl W (poN X.K) ((mp ρ).bind fun kvs => if kvs.length ≤ 15 then .ok (mrgD kvs) else .no) F H Q := q
  cases hr : mp ρ with
  | no => rw [hr] at q; exact q
  | ex c n => rw [hr] at q; exact ExW.grow q g.keep
  | ok kvs =>
    rw [hr] at q
    have q : tR cl W (poN X.K) (if kvs.length ≤ 15 then .ok (mrgD kvs) else .no) F H Q := q
    split at q
    · rename_i hlen
      intro us F1 H1 e1 r1
      have hp : H1 p = some (.dK []) := e1.keep _ _ upd_same
      have fp1 : F1 p = none := by
        cases z : F1 p with
        | none => rfl
        | some u =>
          rcases e1.new p u z with y | y
          · rw [fp] at y; cases y
          · rw [upd_same] at y; cases y
      refine ⟨hp, us, rfl, by rw [r1.length]; exact hlen, q _ F1 _ ⟨e1.le, e1.sub.upd fp1, (fun b u y => ?_), fun b u y => ?_⟩ ⟨p, _, rfl, np, fp1, upd_same, merge_rel r1 .nil⟩⟩
      · have n : b ≠ p := fun z => by subst z; rw [np] at y; cases y
        rw [upd_ne n]
        exact e1.keep _ _ (by rw [upd_ne n]; exact y)
      · rcases e1.new b u y with z | z
        · exact .inl z
        · by_cases n : b = p
          · subst n; exact .inr np
          · rw [upd_ne n] at z; exact .inr z
    · exact q.elim
theorem pn_emp : PN X cl W (.Dict [] [] pos) dpN := by
  refine PE.imp pe_dnewK fun σ H Q ⟨F0, H0, ρ, F, ok, q⟩ => fun p np => ?_
  exact q _ F _ (Ext.grow ok.sub (o := .dK []) np) ⟨p, [], rfl, np, ok.sub.none np, upd_same, .nil⟩
end
/-! dict(pairs), dict(d) -/
noncomputable def prsD (xs : List D) : Option (List (D × D)) := List.rec (some []) (fun d _ ih => match d with
  | .tuple ys => match ys with
    | [k, v] => match keyOf k with
      | some _ => ih.bind fun r => some ((k, v) :: r)
      | none => none
    | _ => none
  | _ => none) xs
theorem prs_rp {K : PySem.W.Frag} {F : Hp} : ∀ {xs : List D} {vs : List V} {r : List (D × D)}, RpA K F vs xs → prsD xs = some r → ∃ ps kvs, vs = ps.map V.ref ∧ Paired (fun p (kv : Key × V) => SqT K F p [kV kv.1, kv.2]) ps kvs ∧ RpK K F kvs r
  | [], _, _, .nil, h => by
    cases h
    exact ⟨[], [], rfl, .nil, .nil⟩
  | d :: ds, _, r, .cons p q, h => by
    cases d with
    | tuple ys =>
      match ys, h, p with
      | [k, v], h, p =>
        cases hk : keyOf k with
        | none =>
          have h : (match keyOf k with
            | some _ => (prsD ds).bind fun r => some ((k, v) :: r)
            | none => none) = some r := h
          rw [hk] at h; cases h
        | some κ =>
          have h : (match keyOf k with
            | some _ => (prsD ds).bind fun r => some ((k, v) :: r)
            | none => none) = some r := h
          rw [hk] at h
          have h : (prsD ds).bind (fun r => some ((k, v) :: r)) = some r := h
          cases e : prsD ds with
          | none => rw [e] at h; cases h
          | some zs =>
            rw [e] at h
            have h : some ((k, v) :: zs) = some r := h
            cases h
            obtain ⟨ps, kvs, rfl, hp, hr⟩ := prs_rp q e
            obtain ⟨a, us, rfl, s, hu⟩ := Rp.inv_tup p
            cases hu with
            | cons h1 h2 =>
              cases h2 with
              | cons h2 h3 =>
                cases h3
                obtain rfl := keyV hk h1
                obtain rfl := keyOf_some hk
                exact ⟨a :: ps, (κ, _) :: kvs, rfl, .cons s hp, .cons h2 hr⟩
      | [], h, _ => cases h
      | [_], h, _ => cases h
      | _ :: _ :: _ :: _, h, _ => cases h
    | _ => cases h
noncomputable def dctP (m : En → R (List D)) : En → R (List (D × D)) := fun ρ => (m ρ).bind fun xs => (ofO (prsD xs)).bind fun kvs => .ok (mrgD kvs)
section
variable {X : Cx} {cl : String → Addr} {W : XK} {e : Expr} {p pos : Pos} {m : En → R (List D)} {mi : En → R (List (D × D))}
theorem boot_dict' : bootBuiltins "dict" = some (.type "dict") := by decide +kernel
theorem pn_dictP (hc : X.calm = true) (hg : Gl X "dict") (hm : X.mg "dict" = none) (he : PL X cl W e m)
    (hs : starEach [e] X.env = (false, eval e X.env) :: starEach [] X.env := by rfl) (hpl : (backTo pos (starEach [] X.env)).any (·.1) = false := by rfl) : PN X cl W (.Call (.Name "dict" p) [e] [] pos) (dctP m) := by
  refine PE.imp (pe_callTy (call_dictP hc) hg hm boot_dict' (pa_one he hs) (by decide) (by decide) hs hpl) fun σ H Q ⟨F0, H0, ρ, F, ok, h⟩ => ?_
  refine ⟨F0, H0, ρ, F, ok, (tR.bind anti_N h).imp fun v H1 ⟨F1, xs, e1, ⟨a, vs, hv, s, r⟩, h1⟩ => ?_⟩
  cases hf : prsD xs with
  | none => rw [hf] at h1; exact h1.elim
  | some kvs =>
    rw [hf] at h1
    obtain ⟨ps, ks, rfl, hp, hr⟩ := prs_rp r hf
    refine ⟨a, ps, ks, by rw [hv], s, L2.Paired.mapP hp fun p kv q => e1.sub.sqt q, fun q np => ?_⟩
    exact h1 _ F1 _ (Ext.grow e1.sub (o := .dK (mergeK [] ks)) np) ⟨q, _, rfl, np, e1.sub.none np, upd_same, merge_rel hr .nil⟩
theorem call_dictD : CallR X (.type "dict") (fun xs H Q => ∃ (a : Addr) (kvs : List (Key × V)), xs = [.ref a] ∧ Rd H a (.dK kvs) ∧ ∀ p, H p = none → Q (.ref p) (upd H p (.dK kvs))) := by
  intro pins s σ H xs us Q I r ⟨a, kvs, ex, rd, q⟩
  subst ex
  obtain ⟨u, eu, rx⟩ := vals1 r
  subst eu
  cases rx
  exact d_copyOf I rd fun p s' np I' => ⟨.ref p, _, I', rfl, q p np⟩
theorem pn_dictD (hg : Gl X "dict") (hm : X.mg "dict" = none) (he : PDi X cl W e mi)
    (hs : starEach [e] X.env = (false, eval e X.env) :: starEach [] X.env := by rfl) (hpl : (backTo pos (starEach [] X.env)).any (·.1) = false := by rfl) : PN X cl W (.Call (.Name "dict" p) [e] [] pos) mi := by
  refine PE.imp (pe_callTy call_dictD hg hm boot_dict' (pa_one he hs) (by decide) (by decide) hs hpl) fun σ H Q ⟨F0, H0, ρ, F, ok, h⟩ => ⟨F0, H0, ρ, F, ok, ?_⟩
  cases hr : mi ρ with
  | no => rw [hr] at h; exact h
  | ex c n => rw [hr] at h; exact h
  | ok kvs =>
    rw [hr] at h
    intro v F1 H1 e1 ⟨b, ks, hb, rd, r⟩
    refine ⟨b, ks, by rw [hb], rd, fun q np => ?_⟩
    exact h _ F1 _ (e1.trans (Ext.grow e1.sub (o := .dK ks) np)) ⟨q, _, rfl, e1.keep.none np, e1.sub.none np, upd_same, r⟩
end
/-! for k, v in d.items() -/
noncomputable def itMK (d : D) : R (List D) := match d with
  | .dict ds => .ok (ds.map fun p => PyData.tuple [p.1, p.2])
  | _ => .no
noncomputable def itM (m : En → R D) : En → R (List D) := fun ρ => (m ρ).bind itMK
theorem items_at' {K : PySem.W.Frag} {F : Hp} : ∀ {kvs : List (Key × V)} {ds : List (D × D)} (i : Nat) {d : D × D}, RpK K F kvs ds → ds[i]? = some d → ∃ k v, kvs[i]? = some (k, v) ∧ d.1 = kD k ∧ Rp K F v d.2
  | _, _, _, _, .nil, e => by simp at e
  | _, _, 0, _, .cons h t, e => by simp at e; subst e; exact ⟨_, _, rfl, rfl, h⟩
  | _, _, i + 1, _, .cons h t, e => by
    obtain ⟨k, v, a, b⟩ := items_at' i t (by simpa using e)
    exact ⟨k, v, by simpa using a, b⟩
theorem walk_items {K : PySem.W.Frag} {F1 G : Hp} {d : Addr} {o : Obj} {kvs : List (Key × V)} {ds : List (D × D)} (hf : F1 d = some (.frz o (.dK kvs))) (r : RpK K F1 kvs ds) : Walk K (Iti d o kvs) F1 G (ds.map fun p => PyData.tuple [p.1, p.2]) where
  go := fun i F' H' l1 l2 l3 x hx => by
    rw [List.getElem?_map] at hx
    cases q : ds[i]? with
    | none => rw [q] at hx; cases hx
    | some p =>
      rw [q] at hx
      have hx := Option.some.inj hx
      subst hx
      obtain ⟨k, v, e1, e2, rv⟩ := items_at' i r q
      refine ⟨⟨l2 _ _ (l1 _ _ hf), (List.getElem?_eq_some_iff.mp e1).1⟩, fun y H'' z => ?_⟩
      obtain ⟨T, k', v', e3, rfl, nT, rfl⟩ := z
      rw [e1] at e3
      cases e3
      have fT := l2.none nT
      have l := l1.trans ((Le.refl F').upd (o := .tup [kV k, v]) fT)
      refine ⟨_, (Ext.grow l2 (o := .tup [kV k, v]) nT).freeze nT upd_same fT, .tup (.inl (.inl upd_same)) (.cons ?_ (.cons (rv.mono l) .nil))⟩
      rw [e2]
      exact key_rp k
  stop := fun i F' H' l1 l2 l3 hl => ⟨l2 _ _ (l1 _ _ hf), by rw [List.length_map] at hl; rw [RpK.length r]; exact hl⟩
section
variable {X : Cx} {cl : String → Addr} {W : XK} {e : Expr} {apos cpos tpos : Pos} {elts : List Expr} {kk : Nat} {m : En → R D}
theorem sr_i (h : PD X cl W e m) (hbase : attributeBase e "items" X.env (eval e X.env) = eval e X.env := by rfl) (hline : (apos.endLine == cpos.line) = true := by rfl) : PSr X cl W false (.Tuple elts kk tpos) (.Call (.Attribute e "items" apos) [] [] cpos) (itM m) := by
  refine PI.imp (pi_items h hbase hline) fun σ H Rr ⟨F0, H0, ρ, F, ok, q⟩ => ⟨F0, H0, ρ, F, ok, ?_⟩
  refine tRI.bind q fun v F1 H1 d e1 p1 q1 => ?_
  cases d with
  | dict ds =>
    obtain ⟨a, o, kvs, rfl, hf, r⟩ := Rp.inv_dict p1
    exact ⟨a, o, kvs, rfl, e1.sub _ _ hf, q1 _ F1 H1 (Ext.refl e1.sub) (walk_items hf r)⟩
  | _ => exact False.elim q1
theorem sw_i (h : PD X cl W e m) (hbase : attributeBase e "items" X.env (eval e X.env) = eval e X.env := by rfl) (hline : (apos.endLine == cpos.line) = true := by rfl) : PSr X cl W true (.Tuple elts kk tpos) (.Call (.Attribute e "items" apos) [] [] cpos) (itM m) := (sr_i h hbase hline).weak
end
end Mir
/-! the memo's address does not matter: dicts, sums, joined lists -/
namespace Mir
open PySem PySem.Spec PyProof.Rows L2
section
variable {α β γ : Type} {ma : En → R α} {mb : En → R β} {mc : En → R γ} {m m' m'' : En → R D} {ml ml' : En → R (List D)} {mi mi' : En → R (List (D × D))} {c c' : En → R Bool} {s1 s2 : En → R Fl} {g : Tg} {gs : Tgs} {i j : Nat}
instance : NatD (getDd i) := ⟨fun b ρ => by unfold getDd; rw [nth_rn]; cases nth ρ i <;> rfl⟩
instance [NatD m] : NatD (asI' m) := ⟨fun b ρ => by unfold asI'; rw [NatD.h (m := m) b ρ]⟩
instance {neg : Bool} [NatD m] [NatD mi] : NatD (inDi neg m mi) := ⟨fun b ρ => by unfold inDi; rw [NatD.h (m := m) b ρ, NatD.h (m := mi) b ρ]⟩
instance [NatD m] [NatD mi] : NatD (getDi mi m) := ⟨fun b ρ => by unfold getDi; rw [NatD.h (m := m) b ρ, NatD.h (m := mi) b ρ]⟩
instance [NatD m] [NatD m'] [NatD mi] : NatD (getDf mi m m') := ⟨fun b ρ => by unfold getDf; rw [NatD.h (m := m) b ρ, NatD.h (m := m') b ρ, NatD.h (m := mi) b ρ]⟩
instance [NatD mi] : NatD (tD mi) := ⟨fun b ρ => by unfold tD; rw [NatD.h (m := mi) b ρ]⟩
instance : NatD dpN := ⟨fun b ρ => rfl⟩
instance [NatD m] [NatD m'] [NatD mi] : NatD (dpC m m' mi) := ⟨fun b ρ => by unfold dpC; rw [NatD.h (m := m) b ρ, NatD.h (m := m') b ρ, NatD.h (m := mi) b ρ]⟩
instance [NatD mi] : NatD (dspN mi) := ⟨fun b ρ => by unfold dspN; rw [NatD.h (m := mi) b ρ]⟩
instance [NatD ml] : NatD (dctP ml) := ⟨fun b ρ => by unfold dctP; rw [NatD.h (m := ml) b ρ]⟩
instance [NatD m] : NatD (keM m) := ⟨fun b ρ => by unfold keM; rw [NatD.h (m := m) b ρ]⟩
instance [NatD m] : NatD (itM m) := ⟨fun b ρ => by unfold itM; rw [NatD.h (m := m) b ρ]⟩
instance [NatD ml] : NatD (sumF ml) := ⟨fun b ρ => by unfold sumF; rw [NatD.h (m := ml) b ρ]⟩
instance [NatD m] [NatD m'] : NatD (ezS m m') := ⟨fun b ρ => by unfold ezS; rw [NatD.h (m := m) b ρ, NatD.h (m := m') b ρ]⟩
instance [NatD ml] [NatD ml'] : NatD (catF ml ml') := ⟨fun b ρ => by unfold catF; rw [NatD.h (m := ml) b ρ, NatD.h (m := ml') b ρ]⟩
theorem dcL_rn [NatG g] [NatD c] [NatD m] [NatD m'] (b : Addr) (ρ : En) : ∀ (xs : List D) (acc : List (D × D)), dcL g c m m' (rnE b ρ) xs acc = dcL g c m m' ρ xs acc
  | [], _ => rfl
  | x :: xs, acc => by
    rw [dcL_cons, dcL_cons, NatG.h (g := g) b x ρ]
    cases g x ρ with
    | none => rfl
    | some ρ1 =>
      show (c (rnE b ρ1)).bind _ = (c ρ1).bind _
      rw [NatD.h (m := c) b ρ1]
      congr 1
      funext k
      rw [NatD.h (m := m) b ρ1, NatD.h (m := m') b ρ1]
      simp only [dcL_rn b ρ xs]
instance [NatG g] [NatD ml] [NatD c] [NatD m] [NatD m'] {vs : List Nat} : NatD (dcD g ml c m m' vs) := ⟨fun b ρ => by unfold dcD; rw [NatD.h (m := ml) b ρ]; congr 1; funext xs; rw [wipe_rn, dcL_rn]⟩
end
end Mir
/-! ### repr of data with dicts in it -/
namespace Mir
open PySem PySem.Spec PyProof.Rows L2
mutual
noncomputable def layW : D → Bool
  | .none => true
  | .bool _ => true
  | .int _ => true
  | .str x => PyData.strOk x
  | .list xs => layWs xs
  | .tuple xs => layWs xs
  | .dict kvs => layWk kvs
noncomputable def layWs : List D → Bool
  | [] => true
  | x :: xs => layW x && layWs xs
noncomputable def layWk : List (D × D) → Bool
  | [] => true
  | (k, v) :: xs => layW k && (layW v && layWk xs)
end
mutual
noncomputable def shW : D → Nat
  | .none => 4
  | .bool _ => 5
  | .int i => i.natAbs.log2 + 2
  | .str x => 10 * x.length + 2
  | .list xs => shWs xs + 3
  | .tuple xs => shWs xs + 3
  | .dict kvs => shWk kvs + 3
noncomputable def shWs : List D → Nat
  | [] => 0
  | x :: xs => shW x + 2 + shWs xs
noncomputable def shWk : List (D × D) → Nat
  | [] => 0
  | (k, v) :: xs => shW k + shW v + 4 + shWk xs
end
mutual
theorem shownW_le : ∀ d : D, layW d = true → d.shown.length ≤ shW d
  | .none, _ => by simp only [PyData.shown, shW]; decide
  | .bool b, _ => by cases b <;> (simp only [PyData.shown, shW]; decide)
  | .int i, _ => by
    simp only [PyData.shown, shW]
    have h := int_text_length_le (a := i) (k := i.natAbs.log2 + 1) (by omega) (by omega)
    rw [PySem.ofString_length]
    exact h
  | .str x, h => by
    have h : PyData.strOk x = true := by simpa [layW] using h
    rw [PyData.shown_str]
    refine StrLaws.reprText_len x fun c hc => ?_
    have h0 : x.cps.all (· < 0x110000) = true := by simpa only [PyData.strOk] using h
    have := (Array.all_eq_true_iff_forall_mem.mp h0) c (Array.mem_toList_iff.mp hc)
    simp only [decide_eq_true_eq] at this
    omega
  | .list xs, h => by
    have h2 := shownWs_le xs (by simpa [layW] using h)
    have h3 := listText_len_le (PyData.shownAll xs)
    simp only [PyData.shown, shW]
    omega
  | .tuple xs, h => by
    have h2 := shownWs_le xs (by simpa [layW] using h)
    have h3 := tupleText_len_le (PyData.shownAll xs)
    simp only [PyData.shown, shW]
    omega
  | .dict kvs, h => by
    have h2 := shownWk_le kvs (by simpa [layW] using h)
    have h3 := dictText_len_le (PyData.shownKv kvs)
    simp only [PyData.shown, shW]
    omega
theorem shownWs_le : ∀ xs : List D, layWs xs = true → ((PyData.shownAll xs).map (·.length)).sum + 2 * (PyData.shownAll xs).length ≤ shWs xs
  | [], _ => by simp [PyData.shownAll, shWs]
  | x :: xs, h => by
    have h : layW x = true ∧ layWs xs = true := by simpa [layWs] using h
    have h1 := shownW_le x h.1
    have h2 := shownWs_le xs h.2
    simp only [PyData.shownAll, shWs, List.map_cons, List.sum_cons, List.length_cons]
    omega
theorem shownWk_le : ∀ kvs : List (D × D), layWk kvs = true → ((PyData.shownKv kvs).map (·.length)).sum + 2 * (PyData.shownKv kvs).length ≤ shWk kvs
  | [], _ => by simp [PyData.shownKv, shWk]
  | (k, v) :: xs, h => by
    have h : layW k = true ∧ layW v = true ∧ layWk xs = true := by simpa [layWk] using h
    have h1 := shownW_le k h.1
    have h2 := shownW_le v h.2.1
    have h3 := shownWk_le xs h.2.2
    have e : (k.shown ++ (": " : Str) ++ v.shown).length = k.shown.length + 2 + v.shown.length := by
      rw [PySem.Str.length_append, PySem.Str.length_append]
      have : (": " : Str).length = 2 := by decide
      omega
    simp only [PyData.shownKv, shWk, List.map_cons, List.sum_cons, List.length_cons, e]
    omega
end
section
variable {X : Cx} {pins : List (Addr × Obj)} {σ : L2.St} {H : Hp} {s : Shared}
theorem key_reads {h : Heap} {k : Key} {u : Value} (q : keyIs k u = true) : Reads h u (kD k) [] := by
  rcases keyIs_shape q with ⟨i, t, rfl, rfl⟩ | ⟨x, t, rfl, rfl⟩
  · exact .int i t
  · exact .str x t
mutual
theorem Rp.reads (I : Inv X pins σ H s) (hb : ∀ a o, H a = some o → a ≠ sysModules) : ∀ (d : D) (v : V) (u : Value), Rp X.K H v d → RelV v u → ∃ as, Reads s.heap u d as ∧ sysModules ∉ as
  | .none, _, _, h, r => by cases h; cases r; exact ⟨_, Reads.none, by simp⟩
  | .bool b, _, _, h, r => by cases h; cases r; exact ⟨_, Reads.bool b, by simp⟩
  | .int i, _, _, h, r => by cases h; obtain ⟨t, rfl⟩ := r; exact ⟨_, Reads.int i t, by simp⟩
  | .str x, _, _, h, r => by cases h; obtain ⟨t, rfl⟩ := r; exact ⟨_, Reads.str x t, by simp⟩
  | .list ds, _, _, h, r => by
    obtain ⟨a, xs, rfl, hs, ha⟩ := Rp.inv_list h
    cases r
    obtain ⟨its, rv, ⟨o, n, ho, hc, _, hd⟩, _⟩ := I.list (.inl (.inl hs))
    obtain ⟨as, hr, hn⟩ := Rp.readsAll I hb ds _ its ha rv
    exact ⟨_, Reads.list ho hc hd hr, fun z => by
      rcases List.mem_cons.mp z with z | z
      · exact hb _ _ hs z.symm
      · exact hn z⟩
  | .tuple ds, _, _, h, r => by
    obtain ⟨a, xs, rfl, hs, ha⟩ := Rp.inv_tup h
    cases r
    obtain ⟨its, rv, ⟨o, ho, hc, n, hd⟩, _⟩ := I.tuple hs
    obtain ⟨as, hr, hn⟩ := Rp.readsAll I hb ds _ its ha rv
    exact ⟨_, Reads.tuple ho hc hd hr, hn⟩
  | .dict kvs, _, _, h, r => by
    obtain ⟨a, o, ks, rfl, hs, ha⟩ := Rp.inv_dict h
    cases r
    obtain ⟨_, _, _, vs, kv, o', es, ep, ho, hex, hdt, _, hp, _⟩ := I.hok a _ hs
    obtain ⟨as, bs, h1, h2, h3, h4⟩ := Rp.readsKv I hb kvs ks vs es.toList ha kv hp
    exact ⟨_, Reads.dict ho hex.1 hdt h1 h2, fun z => by
      rcases List.mem_append.mp z with z | z
      · rcases List.mem_cons.mp z with z | z
        · exact hb _ _ hs z.symm
        · exact h3 z
      · exact h4 z⟩
theorem Rp.readsAll (I : Inv X pins σ H s) (hb : ∀ a o, H a = some o → a ≠ sysModules) : ∀ (ds : List D) (vs : List V) (us : List Value), RpA X.K H vs ds → Vals vs us → ∃ as, ReadsAll s.heap us ds as ∧ sysModules ∉ as
  | [], _, _, h, r => by cases h; cases r; exact ⟨_, ReadsAll.nil, by simp⟩
  | d :: ds, _, _, h, r => by
    cases h with
    | cons h1 h2 =>
      cases r with
      | cons r1 r2 =>
        obtain ⟨as, q1, n1⟩ := Rp.reads I hb d _ _ h1 r1
        obtain ⟨bs, q2, n2⟩ := Rp.readsAll I hb ds _ _ h2 r2
        exact ⟨_, ReadsAll.cons q1 q2, fun z => by
          rcases List.mem_append.mp z with z | z
          · exact n1 z
          · exact n2 z⟩
theorem Rp.readsKv (I : Inv X pins σ H s) (hb : ∀ a o, H a = some o → a ≠ sysModules) : ∀ (kvs : List (D × D)) (ks : List (Key × V)) (vs : List (Key × Value)) (es : List DictEntry), RpK X.K H ks kvs → KV ks vs → Pairs (mixKind X.prog X.w) es vs →
    ∃ as bs, ReadsAll s.heap (es.map (·.key)) (kvs.map (·.1)) as ∧ ReadsAll s.heap (es.map (·.val)) (kvs.map (·.2)) bs ∧ sysModules ∉ as ∧ sysModules ∉ bs
  | [], _, _, _, h, r, p => by
    cases h
    cases r
    cases p
    exact ⟨_, _, ReadsAll.nil, ReadsAll.nil, by simp, by simp⟩
  | (_, d) :: kvs, _, _, _, h, r, p => by
    cases h with
    | cons h1 h2 =>
      cases r with
      | cons r1 r2 =>
        cases p with
        | cons p1 p2 p3 =>
          obtain ⟨as, bs, q1, q2, n1, n2⟩ := Rp.readsKv I hb kvs _ _ _ h2 r2 p3
          obtain ⟨e1, e2⟩ := r1
          obtain ⟨cs, q3, n3⟩ := Rp.reads I hb d _ _ h1 e2
          rw [← e1] at p1
          rw [← p2] at q3
          refine ⟨_, _, ReadsAll.cons (key_reads p1) q1, ReadsAll.cons q3 q2, by simpa using n1, fun z => ?_⟩
          rcases List.mem_append.mp z with z | z
          · exact n3 z
          · exact n2 z
end
end
noncomputable def reprW (d : D) : Option D := if layW d = true ∧ d.depth ≤ 64 ∧ d.showable = true ∧ shW d ≤ sizeLine then some (.str d.shown) else none
noncomputable def rReprW (K : PySem.W.Frag) : List V → Hp → VK → Prop := fun xs H Q => ∃ v d, xs = [v] ∧ Rp K H v d ∧ layW d = true ∧ d.depth ≤ 64 ∧ d.showable = true ∧ shW d ≤ sizeLine ∧ Q (.str d.shown) H
theorem sys_ne {X : Cx} {pins : List (Addr × Obj)} {σ : L2.St} {H : Hp} {s : Shared} (I : Inv X pins σ H s) (sm : (X.K.lookup sysModules).isSome = true) : ∀ a o, H a = some o → a ≠ sysModules := fun a o e z => by
  obtain ⟨u, hu⟩ := Option.isSome_iff_exists.mp sm
  have := (I.bs _ _ (I.mod.kin _ _ hu)).2
  rw [z, this] at e
  cases e
theorem call_reprW {X : Cx} {k : Nat} (r : Rm X k) (sm : (X.K.lookup sysModules).isSome = true) : CallR X (.builtin "repr") (rReprW X.K) := by
  intro pins s σ H xs us Q I rv h
  obtain ⟨v, d, rfl, hd, hlay, hdep, hw, hz, q⟩ := h
  obtain ⟨u, rfl, ru⟩ := vals1 rv
  obtain ⟨as, rd, hn⟩ := Rp.reads I (sys_ne I sm) d v u hd ru
  have hlen := Nat.le_trans (shownW_le d hlay) hz
  have fin : ∀ {h' : Heap} {tk : Nat} {t : Tok}, (∀ b o, s.heap.get? b = some o → h'.get? b = some o) → EP X pins σ Q (.str d.shown t) { s with heap := h', toks := tk } := fun {h' tk t} k => ⟨.str d.shown, H, I.kept k, ⟨_, rfl⟩, q⟩
  have far : ∀ {a : Addr}, Value.ref a = u → wpAny (model X.prog X.w) X.A (call (.builtin "repr") [u]) (EP X pins σ Q) X.xe s := fun {a} e => by
    subst e
    exact repr_of_reads' rd hw (fun _ => hn) r.g (by have := r.room.un; omega) (fun _ _ e => e) (fun h' t tk k => fin k) hlen
  cases hd with
  | non => cases ru; exact PySem.P.repr_of_none (fin fun _ _ e => e)
  | bl b => cases ru; exact PySem.P.repr_of_bool (by cases b <;> exact fin fun _ _ e => e)
  | int i =>
    obtain ⟨t, rfl⟩ := ru
    exact PySem.P.repr_of_int (by simpa [PyData.showable] using hw) (fin fun _ _ e => e)
  | str x =>
    obtain ⟨t, rfl⟩ := ru
    rw [PyData.shown_str] at hlen q
    exact PySem.P.repr_of_str ⟨.str (reprText x), H, I.tok _, ⟨_, rfl⟩, q⟩ hlen
  | lst hs' ha => exact far ru.symm
  | tup hs' ha => exact far ru.symm
  | dct hs' ha => exact far ru.symm
theorem s_reprW {K : PySem.W.Frag} : C1S K (rReprW K) reprW := by
  intro d r h F H x Q le rx q
  unfold reprW at h
  split at h
  · rename_i hz
    have h := Option.some.inj h
    subst h
    exact ⟨x, d, rfl, rx, hz.1, hz.2.1, hz.2.2.1, hz.2.2.2, q _ F H (Ext.refl le) (.str _)⟩
  · cases h
section
variable {X : Cx} {cl : String → Addr} {W : XK} {e a b : Expr} {pos : Pos}
theorem pd_reprW {k : Nat} {p : Pos} {m : En → R D} (r : Rm X k) (sm : (X.K.lookup sysModules).isSome = true) (hg : Gl X "repr") (hm : X.mg "repr" = none) (ha : PVw X cl W a m) (hs : starEach [a] X.env = (false, eval a X.env) :: starEach [] X.env := by rfl) (hpl : (backTo pos (starEach [] X.env)).any (·.1) = false := by rfl) : PD X cl W (.Call (.Name "repr" p) [a] [] pos) (un1 reprW m) :=
  pd_b1 (call_reprW r sm) s_reprW hg hm (by decide +kernel) ha (by decide) (by decide) hs hpl
end
/-! sizes -/
structure NkW (k n : Nat) (d : D) : Prop where
  lay : layW d = true
  dep : d.depth ≤ k
  show_ : d.showable = true
  len : shW d ≤ n
noncomputable def nkWB (k n : Nat) (d : D) : Bool := layW d && (Nat.ble d.depth k && (d.showable && Nat.ble (shW d) n))
theorem nkW_of {k n : Nat} {d : D} (h : nkWB k n d = true) : NkW k n d := by
  obtain ⟨a, h⟩ := He.ba h
  obtain ⟨b, h⟩ := He.ba h
  obtain ⟨c, e⟩ := He.ba h
  exact ⟨a, Nat.le_of_ble_eq_true b, c, Nat.le_of_ble_eq_true e⟩
theorem nkW_all {k n L : Nat} : ∀ {xs : List D}, (∀ x ∈ xs, NkW k n x) → xs.length ≤ L → layWs xs = true ∧ PyData.depthAll xs ≤ k ∧ PyData.showableAll xs = true ∧ shWs xs ≤ L * (n + 2)
  | [], _, _ => ⟨by simp [layWs], by simp [PyData.depthAll], by simp [PyData.showableAll], by simp [shWs]⟩
  | x :: xs, h, hl => by
    have h1 := h x (by simp)
    have hl : xs.length + 1 ≤ L := by simpa using hl
    have h2 := nkW_all (L := xs.length) (fun y hy => h y (by simp [hy])) (Nat.le_refl _)
    refine ⟨by simp [layWs, h1.lay, h2.1], ?_, by simp [PyData.showableAll, h1.show_, h2.2.2.1], ?_⟩
    · simp only [PyData.depthAll]
      exact Nat.max_le.mpr ⟨h1.dep, h2.2.1⟩
    · simp only [shWs]
      have := h1.len
      have h3 := h2.2.2.2
      have h4 : (xs.length + 1) * (n + 2) ≤ L * (n + 2) := Nat.mul_le_mul_right _ hl
      rw [Nat.add_mul] at h4
      omega
theorem nkW_list {k n L : Nat} {xs : List D} (h : ∀ x ∈ xs, NkW k n x) (hl : xs.length ≤ L) : NkW (k + 1) (L * (n + 2) + 3) (.list xs) := by
  obtain ⟨a, b, c, d⟩ := nkW_all h hl
  exact ⟨by simpa [layW] using a, by simp only [PyData.depth]; omega, by simpa [PyData.showable] using c, by simp only [shW]; omega⟩
theorem nkW_tup {k n L : Nat} {xs : List D} (h : ∀ x ∈ xs, NkW k n x) (hl : xs.length ≤ L) : NkW (k + 1) (L * (n + 2) + 3) (.tuple xs) := by
  obtain ⟨a, b, c, d⟩ := nkW_all h hl
  exact ⟨by simpa [layW] using a, by simp only [PyData.depth]; omega, by simpa [PyData.showable] using c, by simp only [shW]; omega⟩
theorem reprW_nk {k n : Nat} {d : D} (h : NkW k n d) (hk : k ≤ 64) (hn : n ≤ 16777216) : reprW d = some (.str d.shown) := by
  unfold reprW
  have hz : sizeLine = 16777216 := by decide
  rw [if_pos ⟨h.lay, Nat.le_trans h.dep hk, h.show_, by rw [hz]; exact Nat.le_trans h.len hn⟩]
theorem reprW_ok {ρ : En} {A : En → R D} {a : D} {k n : Nat} (ha : A ρ = .ok a) (h : NkW k n a) (hk : k ≤ 64) (hn : n ≤ 16777216) : un1 reprW A ρ = .ok (.str a.shown) := by
  rw [un1_e, ha]
  show ofO (reprW a) = _
  rw [reprW_nk h hk hn]
  rfl
end Mir
/-! ### sorted(d) of texts -/
namespace Mir
open PySem PySem.Spec PyProof.Rows L2
noncomputable def leS (x y : Str) : Bool := !PySem.Spec.ltCps y.cps.toList x.cps.toList
theorem leS_D (x y : Str) : leS x y = leD (.str x) (.str y) := by
  unfold leS leD
  rw [PySem.W.dataLt_str, PyProof.Rows.ltCps_eq]
theorem leS_total : PySem.W.TotalLe leS := by
  obtain ⟨h1, h2⟩ := leD_total
  refine ⟨fun a b c => ?_, fun a b => ?_⟩
  · rw [leS_D, leS_D, leS_D]; exact h1 _ _ _
  · rw [leS_D, leS_D]; exact h2 _ _
theorem leS_anti {x y : Str} (h1 : leS x y = true) (h2 : leS y x = true) : x = y := by
  unfold leS at h1 h2
  rw [PyProof.Rows.ltCps_eq] at h1 h2
  have a : ¬ (y.cps.toList < x.cps.toList) := by simpa using h1
  have b : ¬ (x.cps.toList < y.cps.toList) := by simpa using h2
  exact PySem.W.str_of_cps (by
    rcases Nat.lt_trichotomy 0 0 with h | h | h
    · exact absurd h (Nat.lt_irrefl 0)
    · exact List.le_antisymm (List.not_lt.mp a) (List.not_lt.mp b)
    · exact absurd h (Nat.lt_irrefl 0))
theorem sortedS_pair : ∀ {ys : List Str}, sortedS ys = true → ys.Pairwise fun a b => leS a b = true := by
  have key : ∀ (r : List Str) (x : Str), risingS x r = true → (x :: r).Pairwise fun a b => leS a b = true := by
    intro r
    induction r with
    | nil => intro x _; exact List.pairwise_singleton _ _
    | cons y r ih =>
      intro x h
      have h : leS x y = true ∧ risingS y r = true := by
        unfold leS
        simpa [risingS] using h
      have hp := ih y h.2
      refine List.pairwise_cons.mpr ⟨fun z hz => ?_, hp⟩
      rcases List.mem_cons.mp hz with rfl | hz
      · exact h.1
      · exact leS_total.1 _ _ _ h.1 ((List.pairwise_cons.mp hp).1 z hz)
  intro ys h
  cases ys with
  | nil => exact List.Pairwise.nil
  | cons x r => exact key r x h
theorem isortS_eq {ys ks : List Str} (hp : ys.Perm ks) (hs : sortedS ys = true) : ys = isort leS ks := by
  have p2 : (isort leS ks).Perm ks := by rw [isort_eq leS_total]; exact List.mergeSort_perm ..
  exact List.Perm.eq_of_pairwise (le := fun a b => leS a b = true) (fun a b _ _ h1 h2 => leS_anti h1 h2) (sortedS_pair hs) (isort_sorted leS_total ks) (hp.trans p2.symm)
noncomputable def txtsD (ds : List D) : Option (List Str) := List.rec (some []) (fun d _ ih => match d with
  | .str x => ih.map (x :: ·)
  | _ => none) ds
noncomputable def sortDS (ds : List (D × D)) : Option (List D) := (txtsD (ds.map (·.1))).bind fun ks => if ks.length < 64 then some ((isort leS ks).map PyData.str) else none
theorem RpA.strs {K : PySem.W.Frag} {F : Hp} : ∀ (ns : List Str), RpA K F (ns.map V.str) (ns.map PyData.str)
  | [] => .nil
  | n :: r => .cons (.str n) (RpA.strs r)
section
variable {X : Cx} {cl : String → Addr} {W : XK} {a e tg : Expr} {p pos : Pos} {m : En → R D} {mi : En → R (List (D × D))}
theorem keys_strs {K : PySem.W.Frag} {F : Hp} : ∀ {kvs : List (Key × V)} {ds : List (D × D)} {ks : List Str}, RpK K F kvs ds → txtsD (ds.map (·.1)) = some ks → kvs.map (·.1) = ks.map Sum.inr
  | _, _, ks, .nil, h => by cases h; rfl
  | _, _, ks, .cons (k := k) (ds := ds) h t, e => by
    cases k with
    | inl i => cases e
    | inr x =>
      have e : (txtsD (ds.map (·.1))).map (x :: ·) = some ks := e
      cases z : txtsD (ds.map (·.1)) with
      | none => rw [z] at e; cases e
      | some l =>
        rw [z] at e
        cases e
        rw [List.map_cons, List.map_cons, keys_strs t z]
theorem pf_sortDS (hc : X.calm = true) (hg : Gl X "sorted") (hm : X.mg "sorted" = none) (ha : PDi X cl W a mi) (hs : starEach [a] X.env = (false, eval a X.env) :: starEach [] X.env := by rfl) (hpl : (backTo pos (starEach [] X.env)).any (·.1) = false := by rfl) :
    PF X cl W (.Call (.Name "sorted" p) [a] [] pos) (un1 sortDS mi) := by
  refine PE.imp (pe_callB (call_sortedD hc) hg hm (by decide +kernel) (pa_one ha hs) (by decide) (by decide) hs hpl) fun σ H Q ⟨F0, H0, ρ, F, ok, h⟩ => ?_
  refine ⟨F0, H0, ρ, F, ok, (tR.bind (P := poI X.K) anti_F (show tR cl W (poF X.K) ((mi ρ).bind _) F H Q from h)).imp fun v H1 ⟨F1, ds, e1, ⟨b, ks, hb, rd, r⟩, h1⟩ => ?_⟩
  subst hb
  cases hr : sortDS ds with
  | none => rw [hr] at h1; exact h1.elim
  | some l =>
    rw [hr] at h1
    unfold sortDS at hr
    cases hi : txtsD (ds.map (·.1)) with
    | none => rw [hi] at hr; cases hr
    | some zs =>
      rw [hi] at hr
      have hr : (if zs.length < 64 then some ((isort leS zs).map PyData.str) else none) = some l := hr
      split at hr
      · rename_i hz
        cases hr
        refine ⟨b, ks, zs, rfl, rd, keys_strs r hi, hz, fun ys q hp hs nq => ?_⟩
        obtain rfl := isortS_eq hp hs
        exact h1 _ F1 _ (Ext.grow e1.sub (o := .lst ((isort leS zs).map V.str)) nq) ⟨q, _, rfl, nq, e1.sub.none nq, upd_same, RpA.strs _⟩
      · cases hr
end

/-! range(a, b, c) -/
noncomputable def rng3K (i j c : Int) : R (List D) := if c ≠ 0 ∧ c.natAbs < 1073741824 ∧ Builtin.Range.small i j c = true ∧ 0 ≤ Builtin.Range.rangeSize i j c then .ok (rngC i c (Builtin.Range.rangeSize i j c).toNat) else .no
noncomputable def rng3 (ma mb mc : En → R D) : En → R (List D) := fun ρ => (ma ρ).bind fun d => (mb ρ).bind fun e => (mc ρ).bind fun f => match d, e, f with
  | .int i, .int j, .int c => rng3K i j c
  | _, _, _ => .no
section
variable {X : Cx} {cl : String → Addr} {W : XK} {a b c tg : Expr} {pos : Pos}
theorem sr_r3 {p : Pos} {ma mb mc : En → R D} (hg : Gl X "range") (hm : X.mg "range" = none) (ha : PD X cl W a ma) (hb : PD X cl W b mb) (hc : PD X cl W c mc)
    (hs1 : starEach [a, b, c] X.env = (false, eval a X.env) :: starEach [b, c] X.env := by rfl) (hs2 : starEach [b, c] X.env = (false, eval b X.env) :: starEach [c] X.env := by rfl) (hs3 : starEach [c] X.env = (false, eval c X.env) :: starEach [] X.env := by rfl)
    (hpl : (backTo pos (starEach [b, c] X.env)).any (·.1) = false := by rfl) : PSr X cl W false tg (.Call (.Name "range" p) [a, b, c] [] pos) (rng3 ma mb mc) := by
  refine PI.imp (pi_range3 hg hm (pa_cons ha (pa_cons hb (pa_one hc hs3) hs2) hs1) hs1 hpl) fun σ H Rr ⟨F0, H0, ρ, F, ok, q⟩ => ⟨F0, H0, ρ, F, ok, ?_⟩
  refine tRI.bind q fun v F1 H1 d e1 p1 q1 => ⟨F0, H0, ρ, F1, ok.grow e1, ?_⟩
  refine tRI.bind q1 fun u F2 H2 e e2 p2 q2 => ⟨F0, H0, ρ, F2, (ok.grow e1).grow e2, ?_⟩
  refine tRI.bind q2 fun w F3 H3 f e3 p3 q3 => ?_
  cases d with
  | int i =>
    cases e with
    | int j =>
      cases f with
      | int c =>
        obtain rfl := Rp.inv_int p1
        obtain rfl := Rp.inv_int p2
        obtain rfl := Rp.inv_int p3
        have q3 : tRI cl W X.K false (rng3K i j c) F3 H3 Rr := q3
        unfold rng3K at q3
        split at q3
        · rename_i hj
          exact ⟨i, j, c, _, rfl, ⟨hj.1, hj.2.1, hj.2.2.1, (Int.toNat_of_nonneg hj.2.2.2).symm⟩, q3 (Itc i c _) F3 H3 (Ext.refl e3.sub) walk_rangeC⟩
        · exact False.elim q3
      | _ => exact False.elim q3
    | _ => cases f <;> exact False.elim q3
  | _ => cases e <;> cases f <;> exact False.elim q3
end
end Mir
/-! ### a def under another name; divmod; try: .. except C as e: return (word, e.at) -/
namespace Mir
open PySem PySem.Spec PyProof.Rows L2 HotX
/-- a def of the top, the module's name y for the def x -/
structure TFa (K : PySem.W.Frag) (mg : Str → Option Value) (y x : Str) (st : Stmt) (ps : List Str) (f : Addr) (fd : FuncData) : Prop where
  fn : Fun K x x st f fd
  gm : mg y = some (.ref f)
  bd : Binds K fd ps []
theorem Want.Says.alias_ {t : Want} {K : PySem.W.Frag} {h : Heap} {mg : Str → Option Value} (c : t.Says K) (X : K.In h) (G : h.Ns mainGlobals mg) (i : Nat) {y x : Str} {st : Stmt} (hi : t.fn[i]? = some ⟨(y, none), x, x, defArgs st, defBody st, defScope st⟩ := by rfl) (hg : (He.Fa.glo y).ok K = true) :
    ∃ fd, Fun K x x st (He.ga K y) fd ∧ mg y = some (.ref (He.ga K y)) := by
  have c2 : t.fn.map (fun d => He.fnObs K d.at_) = t.fn.map He.FnD.val := congrArg (fun z : He.Al => z.2) c
  have e2 : (t.fn.map fun d => He.fnObs K d.at_)[i]? = (t.fn.map He.FnD.val)[i]? := by rw [c2]
  rw [List.getElem?_map, List.getElem?_map, hi] at e2
  obtain ⟨k1, k2⟩ := c.parts.2.1 _ (List.mem_of_getElem? hi)
  obtain ⟨oc, od, osl, kV, doc, pm, an, cdv, ct, l, cc⟩ := He.fn_ok (Option.some.inj e2) k1
  exact ⟨_, ⟨⟨oc, od, kV, doc, pm, an, cdv, ct, osl, rfl, l, cc⟩, k2⟩, He.glo_ok X G hg⟩
theorem tfa_of {K : PySem.W.Frag} {mg : Str → Option Value} {y x : Str} {st : Stmt} {ps : List Str} {f : Addr} {fd : FuncData} (h : Fun K x x st f fd ∧ mg y = some (.ref f))
    (b : ∀ (kV doc pm : Value) (an : Option Addr) (cdv ct : Value) (us : List Value), us.length = ps.length → bindArgs (PySem.W.fnOf x x (defArgs st) (defBody st) (defScope st) .none kV doc pm an cdv ct) ⟨us, []⟩ = pure (ps.zip us)) : TFa K mg y x st ps f fd :=
  ⟨h.1, h.2, h.1.binds b⟩
/-! divmod -/
noncomputable def dmD : D → D → Option D
  | .int i, .int j => if 0 < j ∧ j < 1073741824 then some (.tuple [.int (i / j), .int (i % j)]) else none
  | _, _ => none
theorem s_dm {K : PySem.W.Frag} : C2S K (fun xs H Q => ∃ i j, xs = [.int i, .int j] ∧ CDiv i j ∧ ∀ p, H p = none → Q (.ref p) (upd H p (.tup [.int (i / j), .int (i % j)]))) dmD := by
  intro d e r h F H x y Q le rx ry q
  cases d with
  | int i =>
    cases e with
    | int j =>
      have h : (if 0 < j ∧ j < 1073741824 then some (PyData.tuple [.int (i / j), .int (i % j)]) else none) = some r := h
      split at h
      · rename_i hj
        cases h
        obtain rfl := Rp.inv_int rx
        obtain rfl := Rp.inv_int ry
        refine ⟨i, j, rfl, hj, fun p np => ?_⟩
        have fp := le.none np
        exact q _ _ _ ((Ext.grow le (o := .tup [.int (i / j), .int (i % j)]) np).freeze np upd_same fp) (.tup (.inl (.inl upd_same)) (.cons (.int _) (.cons (.int _) .nil)))
      · cases h
    | _ => cases h
  | _ => cases e <;> cases h
section
variable {X : Cx} {cl : String → Addr} {W : XK} {a b : Expr} {pos : Pos}
theorem pd_dm {p : Pos} {ma mb : En → R D} (hg : Gl X "divmod") (hm : X.mg "divmod" = none) (ha : PD X cl W a ma) (hb : PD X cl W b mb) (hs : starEach [a, b] X.env = (false, eval a X.env) :: starEach [b] X.env := by rfl) (hs2 : starEach [b] X.env = (false, eval b X.env) :: starEach [] X.env := by rfl) (hpl : (backTo pos (starEach [b] X.env)).any (·.1) = false := by rfl) :
    PD X cl W (.Call (.Name "divmod" p) [a, b] [] pos) (bin2 dmD ma mb) := pd_b2 call_divmod s_dm hg hm (by decide +kernel) ha hb (by decide) (by decide) hs hs2 hpl
end
/-! try -/
noncomputable def tryT (C : String) (word : Str) (b : En → R Fl) : En → R Fl := fun ρ => match b ρ with
  | .ex c k => if c = C then .ok (.rt (.tuple [.str word, .int k])) else .no
  | r => r
section
variable {X : Cx} {cl : String → Addr}
theorem st_tryT {W : XK} {i : Nat} {x n : Str} {C : String} {word : Str} {body : List Stmt} {mb : En → R Fl} {np np2 p3 cp ap tp pos pos' : Pos} {cj tk' : Nat} (hs : X.stack = X.env :: X.outer) (hf : X.env.frame = some X.env.locals) (hN : X.N.Nodup) (hi : X.N[i]? = some n) (hln : X.env.kindOf n = some .local)
    (hc : Names X x (.ref (cl C))) (cc : CatchC X.K (cl C)) (hex : PySem.W.exmOne X.K (.ref (cl C)) (.ref (cl C)) = some true)
    (hb : ∀ (E' : XK) (pn : List (Addr × Obj)) (xe : Value → Shared → Prop), L2N.Takes (X.tr pn xe) (fun c d _ H => E' c d H) → PassesOwn (model X.prog X.w) X.A X.env xe → PBl (X.tr pn xe) cl E' body mb)
    (tk : L2N.Takes X (fun c d _ H => W c d H))
    (hdn : (n == ("__debug__" : Str)) = false := by decide) (hcn : (n == ("__classdict__" : Str)) = false := by decide) (hat : attributeBase (.Name n np2) "at" X.env (eval (.Name n np2) X.env) = eval (.Name n np2) X.env := by rfl)
    (h1 : starEach [Expr.Constant (.str word) cj cp, .Attribute (.Name n np2) "at" ap] X.env = (false, eval (.Constant (.str word) cj cp) X.env) :: starEach [.Attribute (.Name n np2) "at" ap] X.env := by rfl)
    (h2 : starEach [Expr.Attribute (.Name n np2) "at" ap] X.env = (false, eval (.Attribute (.Name n np2) "at" ap) X.env) :: starEach [] X.env := by rfl) :
    PSt X cl W (.Try body [.ExceptHandler (some (.Name x np)) (some n) [.Return (some (.Tuple [.Constant (.str word) cj cp, .Attribute (.Name n np2) "at" ap] tk' tp)) p3] pos'] [] [] pos) (tryT C word mb) := by
  refine PS.imp (L2N.ps_try_as (x := x) (n := n) (c := .ref (cl C)) (i := i) (tb := fun Wx => tS cl (fun c d H => ∀ σ : L2.St, σ.length = X.N.length → Wx c d σ H) X.K mb)
     (ts := fun a cls d Dn σ H => ∃ dx n0, cls = .ref (cl C) ∧ d = some dx ∧ σ[i]? = some (some (.ref a)) ∧ H dx = some (.xd [(("at" : Str), .int n0)]) ∧ ∀ p, H p = none → Dn.rt (.ref p) (upd H p (.tup [.str word, .int n0])))
     (Wout := fun c d _ H => W c d H) hs hf hN hi hln hc tk ?_ ?_) ?_
  · exact fun Wx pn xe t po => hb _ pn xe (fun u s' ⟨a, B, sI, pins, σ, H, cls, d, e, I, nb, up, sky, na, os, ag, w⟩ => t u s' ⟨a, B, sI, pins, σ, H, cls, d, e, I, nb, up, sky, na, os, ag, w σ I.len⟩) po
  · intro a oe cls d pn hz hfd
    refine ⟨fun pins s σ H Dn I ⟨dx, n0, ec, ed, hσ, hx, hq⟩ => ?_⟩
    subst ec ed
    have pe := pe_xfP (X := X.suite a ((a, oe) :: pn)) (a := a) (C := cl C) (dx := dx) (oe := oe) (n := "at") (pos := ap) (List.mem_cons_self ..) cc.xf cc.na ⟨hz.1, hz.2.1⟩ hfd (pe_var (X := X.suite a ((a, oe) :: pn)) (pos := np2) hi (.inl hln) hdn hcn) hat
    refine (pss_one (ps_ret (pe_tup (pa_cons (pe_str (X := X.suite a ((a, oe) :: pn))) (pa_one pe h2) h1)))).run pins s σ H Dn I ?_
    exact ⟨_, hσ, rfl, _, .int n0, hx, rfl, by show 2 ≤ sizeLine; decide, hq⟩
  · rintro σ H Dn ⟨F0, H0, ρ, F, ok, h⟩
    refine ⟨F0, H0, ρ, F, ok, ?_⟩
    have h : tRS cl W X.K F0 H0 F (match mb ρ with
      | .ex c k => if c = C then .ok (.rt (.tuple [.str word, .int k])) else .no
      | r => r) Dn := h
    cases hm : mb ρ with
    | ok f =>
      rw [hm] at h
      cases f <;> exact h
    | no => rw [hm] at h; exact h.elim
    | ex c m =>
      rw [hm] at h
      have g1 : tRS cl W X.K F0 H0 F (if c = C then .ok (.rt (.tuple [.str word, .int m])) else .no) Dn := h
      clear h
      by_cases hcc : c = C
      · rw [if_pos hcc] at g1
        have g2 : ∀ v F' H', Ext F0 H0 F' H' → Rp X.K F' v (.tuple [.str word, .int m]) → Dn.rt v H' := g1
        clear g1
        subst hcc
        intro H' dx le nd hx σ' hl'
        refine ⟨true, hex, fun _ a na => ⟨dx, m, rfl, rfl, ?_, hx, fun p hp => ?_⟩, fun z => absurd z (by simp)⟩
        · have hi2 : i < σ'.length := by
            rw [hl']
            exact (List.getElem?_eq_some_iff.mp hi).1
          rw [List.getElem?_set_self hi2]
        · have n0 : H0 p = none := le.none hp
          have f0 : F0 p = none := ok.low.none n0
          refine g2 (.ref p) (upd F0 p (.tup [.str word, .int m])) _ ⟨(Le.refl F0).upd f0, fun b o q => ?_, le.trans ((Le.refl H').upd hp), fun b o q => ?_⟩ (.tup (.inl (.inl upd_same)) (.cons (.str _) (.cons (.int _) .nil)))
          · by_cases z : b = p
            · subst z; rw [upd_same] at q ⊢; exact q
            · rw [upd_ne z] at q ⊢; exact le b o (ok.low b o q)
          · by_cases z : b = p
            · subst z; exact .inr n0
            · rw [upd_ne z] at q; exact .inl q
      · rw [if_neg hcc] at g1; exact g1.elim
end
end Mir
/-! ### x, y, z = a, b, c; ifs of several statements, by tables -/
namespace Mir
open PySem PySem.Spec PyProof.Rows L2
noncomputable def par3 (i j l : Nat) (ma mb mc : En → R D) : En → R Fl := fun ρ => (ma ρ).bind fun a => (mb ρ).bind fun b => (mc ρ).bind fun c => .ok (.nx (setE (setE (setE ρ i (.da a)) j (.da b)) l (.da c)))
section
variable {X : Cx} {cl : String → Addr} {W : XK}
theorem st_par3 {i j l : Nat} {x y z : Str} {a b c : Expr} {ma mb mc : En → R D} {px py pz pt pos : Pos} {kt k2 pt2} (hc : X.calm = true) (hN : X.N.Nodup) (hi : X.N[i]? = some x) (hj : X.N[j]? = some y) (hl : X.N[l]? = some z) (hij : i ≠ j) (hil : i ≠ l) (hjl : j ≠ l)
    (hx : X.env.scope.names.lookup x = some .local) (hy : X.env.scope.names.lookup y = some .local) (hz : X.env.scope.names.lookup z = some .local) (ha : PD X cl W a ma) (hb : PD X cl W b mb) (hcc : PD X cl W c mc)
    (hw : swappedStores [.Tuple [.Name x px, .Name y py, .Name z pz] kt pt] (.Tuple [a, b, c] k2 pt2) X.env = pure (some [x, y, z]))
    (hs : swapsWithSole [.Tuple [.Name x px, .Name y py, .Name z pz] kt pt] (.Tuple [a, b, c] k2 pt2) pos.line X.env = pure false := by rfl)
    (hs1 : starEach (a :: [b, c]) X.env = (false, eval a X.env) :: starEach [b, c] X.env := by rfl) (hs2 : starEach (b :: [c]) X.env = (false, eval b X.env) :: starEach [c] X.env := by rfl) (hs3 : starEach (c :: []) X.env = (false, eval c X.env) :: starEach [] X.env := by rfl) :
    PSt X cl W (.Assign [.Tuple [.Name x px, .Name y py, .Name z pz] kt pt] (.Tuple [a, b, c] k2 pt2) pos) (par3 i j l ma mb mc) := by
  refine PS.imp (ps_par3 hc hN hi hj hl hij hil hjl hx hy hz (pa_cons ha (pa_cons hb (pa_cons hcc pa_nil hs3) hs2) hs1) hw hs) fun σ H Q ⟨F0, H0, ρ, F, ok, h⟩ => ⟨F0, H0, ρ, F, ok, ?_⟩
  refine tRS.expr h ok.ext.keep fun v F1 H1 d1 e1 p1 h1 => ⟨F0, H0, ρ, F1, ok.grow e1, ?_⟩
  refine tRS.expr h1 (ok.ext.keep.trans e1.keep) fun u F2 H2 d2 e2 p2 h2 => ⟨F0, H0, ρ, F2, (ok.grow e1).grow e2, ?_⟩
  refine tRS.expr h2 ((ok.ext.keep.trans e1.keep).trans e2.keep) fun w F3 H3 d3 e3 p3 h3 => ⟨v, u, w, rfl, ?_⟩
  rw [setE_eq, setE_eq, setE_eq] at h3
  exact h3 _ F3 H3 (((((ok.grow e1).grow e2).grow e3).set i ((Rp.mono e2.le p1).mono e3.le)).set j (Rp.mono e3.le p2) |>.set l p3) (Le.refl F3)
end
theorem nx_par3 {i j l : Nat} {ma mb mc : En → R D} {ρ : En} {d e f : D} {m2 : En → R Fl} {P : En → Prop} (h : ma ρ = .ok d) (h' : mb ρ = .ok e) (h'' : mc ρ = .ok f) (k : Nx (m2 (setE (setE (setE ρ i (.da d)) j (.da e)) l (.da f))) P) : Nx (seqS (par3 i j l ma mb mc) m2 ρ) P :=
  nx_seq (by unfold par3; rw [h]; show ((mb ρ).bind _) = _; rw [h']; show ((mc ρ).bind _) = _; rw [h'']; rfl) k
/-- an if with a block of assignments: c tells, the block's end is known where it holds -/
theorem ifS_blk {c : En → R Bool} {m : En → R Fl} {ρ ρ1 : En} {b : Bool} (hc : c ρ = .ok b) (h : b = true → m ρ = .ok (.nx ρ1)) : ifS c m nxS ρ = .ok (.nx (if b = true then ρ1 else ρ)) := by
  show (c ρ).bind _ = _
  rw [hc]
  cases b with
  | true => rw [if_pos rfl]; exact h rfl
  | false => rw [if_neg Bool.false_ne_true]; rfl
noncomputable def okBB (r : R Bool) (b : Bool) : Bool := match r with
  | .ok a => match a, b with
    | true, true => true
    | false, false => true
    | _, _ => false
  | _ => false
theorem okBB_of {r : R Bool} {b : Bool} (h : okBB r b = true) : r = .ok b := by
  cases r with
  | ok a => cases a <;> cases b <;> first | rfl | cases h
  | ex c n => cases h
  | no => cases h
/-- a table of truths -/
noncomputable def pickB (xs : List Bool) (i : Nat) : Bool := (List.rec (fun _ => false) (fun x _ ih n => Nat.rec x (fun m _ => ih m) n) xs : Nat → Bool) i
/-- where b holds -/
noncomputable def whB (b r : Bool) : Bool := match b with
  | true => r
  | false => true
theorem whB_of {b r : Bool} (h : whB b r = true) (hb : b = true) : r = true := by subst hb; exact h
noncomputable def iteD (b : Bool) (d e : D) : D := match b with
  | true => d
  | false => e
theorem ite_da {b : Bool} {d e f : D} (h : dqB 20 (iteD b d e) f = true) : (if b = true then Sl.da d else Sl.da e) = .da f := by
  have := dqB_of 20 _ _ h
  cases b with
  | true => rw [if_pos rfl]; exact congrArg Sl.da this
  | false => rw [if_neg Bool.false_ne_true]; exact congrArg Sl.da this
theorem ite_cons {b : Bool} {x y : Sl} {xs ys : En} : (if b = true then x :: xs else y :: ys) = (if b = true then x else y) :: (if b = true then xs else ys) := by cases b <;> rfl
theorem ite_same {α : Type} {b : Bool} {x : α} : (if b = true then x else x) = x := by cases b <;> rfl
end Mir
/-! An own list of own lists: x = [], x.append([..]), x[k].append(y), looked at as data within an expression. -/
namespace Mir
open PySem PySem.Spec PyProof.Rows L2
/-- a fragment and a region beside it -/
def un (F G : Hp) : Hp := fun b => match F b with
  | some o => some o
  | none => G b
theorem un_le {F G : Hp} : Le F (un F G) := fun b o q => by unfold un; rw [q]
theorem un_of {F G : Hp} {b : Addr} {o : HO} (n : F b = none) (h : G b = some o) : un F G b = some o := by unfold un; rw [n]; exact h
theorem un_or {F G : Hp} {b : Addr} {o : HO} (h : un F G b = some o) : F b = some o ∨ (F b = none ∧ G b = some o) := by
  unfold un at h
  cases q : F b with
  | some u => rw [q] at h; exact .inl h
  | none => rw [q] at h; exact .inr ⟨rfl, h⟩
theorem un_none {F G : Hp} {b : Addr} (n : F b = none) (h : G b = none) : un F G b = none := by unfold un; rw [n]; exact h
noncomputable def delG (F G : Hp) : Hp := fun b => match G b with
  | some _ => none
  | none => F b
theorem delG_eq {F G : Hp} {b : Addr} (h : G b = none) : delG F G b = F b := by unfold delG; rw [h]
theorem delG_or {F G : Hp} {b : Addr} {o : HO} (h : delG F G b = some o) : G b = none ∧ F b = some o := by
  unfold delG at h
  cases q : G b with
  | some u => rw [q] at h; cases h
  | none => rw [q] at h; exact ⟨rfl, h⟩
theorem ext_delG {F G H F' H' : Hp} (e : Ext (un F G) H F' H') (d : ∀ b o, G b = some o → F b = none) : Ext F H (delG F' G) H' where
  le := fun b o q => by
    have n : G b = none := by
      cases z : G b with
      | none => rfl
      | some u => rw [d b u z] at q; cases q
    rw [delG_eq n]; exact e.le _ _ (un_le _ _ q)
  sub := fun b o q => e.sub _ _ (delG_or q).2
  keep := e.keep
  new := fun b o q => by
    obtain ⟨n, q⟩ := delG_or q
    rcases e.new b o q with z | z
    · rcases un_or z with y | y
      · exact .inl y
      · rw [n] at y; cases y.2
    · exact .inr z
section
variable {K : PySem.W.Frag} {F G : Hp}
theorem SqT.delG {b : Addr} {vs : List V} (hg : ∀ b o, G b = some o → F b = some o ∧ ∃ us, o = .lst us) (h : SqT K F b vs) : SqT K (delG F G) b vs := by
  have key : ∀ {o : HO}, F b = some o → (∀ z, o ≠ .lst z) → Mir.delG F G b = some o := fun {o} e n => by
    have : G b = none := by
      cases z : G b with
      | none => rfl
      | some u =>
        obtain ⟨y, us, rfl⟩ := hg b u z
        rw [e] at y; cases y
        exact absurd rfl (n us)
    rw [delG_eq this]; exact e
  rcases h with (h | ⟨o, h⟩) | h
  · exact .inl (.inl (key h fun _ z => by cases z))
  · exact .inl (.inr ⟨o, key h fun _ z => by cases z⟩)
  · exact .inr h
mutual
theorem Rp.delG : ∀ (k : Nat) (d : D) {v : V}, (∀ b o, G b = some o → F b = some o ∧ ∃ us, o = .lst us) → nl k d = true → Rp K F v d → Rp K (delG F G) v d
  | 0, _, _, _, h, _ => by cases h
  | k + 1, .none, _, _, _, r => by cases r; exact .non
  | k + 1, .bool b, _, _, _, r => by cases r; exact .bl b
  | k + 1, .int i, _, _, _, r => by cases r; exact .int i
  | k + 1, .str x, _, _, _, r => by cases r; exact .str x
  | k + 1, .list _, _, _, h, _ => by cases h
  | k + 1, .tuple ds, _, ha, h, r => by
    obtain ⟨p, xs, rfl, s, r⟩ := Rp.inv_tup r
    exact .tup (SqT.delG ha s) (RpA.delG k ds ha h r)
  | k + 1, .dict _, _, _, h, _ => by cases h
theorem RpA.delG : ∀ (k : Nat) (ds : List D) {vs : List V}, (∀ b o, G b = some o → F b = some o ∧ ∃ us, o = .lst us) → nlA k ds = true → RpA K F vs ds → RpA K (delG F G) vs ds
  | _, [], _, _, _, r => by cases r; exact .nil
  | k, d :: ds, _, ha, h, r => by
    have h : (nl k d && nlA k ds) = true := h
    obtain ⟨h1, h2⟩ := He.ba h
    cases r with
    | cons r1 r2 => exact .cons (Rp.delG k d ha h1 r1) (RpA.delG k ds ha h2 r2)
end
end
theorem SlOk.to {K : PySem.W.Frag} {H0 F F' H : Hp} {s : Sl} {o : Option (Option V)} (h : SlOk K H0 F H s o) (le : Le F F') (c : ∀ a, adrS s o a → F a = none → F' a = none) : SlOk K H0 F' H s o := by
  cases s with
  | un => trivial
  | da d => obtain ⟨v, a, b⟩ := h; exact ⟨v, a, b.mono le⟩
  | ce xs => obtain ⟨a, vs, h1, h2, h3, h4, h5⟩ := h; exact ⟨a, vs, h1, h2, c a h1 h3, h4, h5.mono le⟩
  | er a dx n => exact ⟨h.1, le _ _ h.2⟩
  | sc ns => obtain ⟨a, h1, h2⟩ := h; exact ⟨a, h1, le.sql h2⟩
  | dd kvs => obtain ⟨a, vs, h1, h2, h3, h4, h5⟩ := h; exact ⟨a, vs, h1, h2, c a h1 h3, h4, h5.mono le⟩
  | dk a kvs => obtain ⟨h1, h2, h3, h4⟩ := h; exact ⟨h1, h2, c a rfl h3, h4.mono le rfl⟩
  | ow d => trivial
  | cc d => trivial
theorem own_adr {K : PySem.W.Frag} {H0 F H : Hp} {f : Addr → Nat} {i : Nat} {s : Sl} {o : Option (Option V)} (h : OwnOk K H0 F H f i s o) {a : Addr} (e : adrS s o a) : f a = i := by
  cases s <;> first | exact e.elim | exact h a e
section
variable {K : PySem.W.Frag} {F0 H0 F H : Hp} {ρ : En} {σ : St}
/-- a region that a slot owns, as data -/
theorem Ok.join (h : Ok K F0 H0 ρ F σ H) {i : Nat} {f : Addr → Nat} {G : Hp} {v : V} {d : D} (hf : ∀ (j : Nat) (s : Sl), ρ[j]? = some s → OwnOk K H0 F H f j s σ[j]?) (hi : i < ρ.length) (hs : σ[i]? = some (some v)) (hG : Le G H)
    (own : ∀ a u, G a = some u → F a = none ∧ H0 a = none ∧ f a = i) (r : Rp K (un F G) v d) : Ok K F0 H0 (ρ.set i (.da d)) (un F G) σ H := by
  refine ⟨by simpa using h.len, ⟨h.ext.le.trans un_le, fun b o q => ?_, h.ext.keep, fun b o q => ?_⟩, h.low, fun j s q => ?_, f, fun j s q => ?_⟩
  · rcases un_or q with z | z
    · exact h.ext.sub _ _ z
    · exact hG _ _ z.2
  · rcases un_or q with z | z
    · exact h.ext.new _ _ z
    · exact .inr (own _ _ z.2).2.1
  · by_cases hj : i = j
    · subst hj
      rw [List.getElem?_set_self hi] at q
      cases q
      exact ⟨v, hs, r⟩
    · rw [List.getElem?_set_ne hj] at q
      refine (h.sl j s q).to un_le fun a e n => un_none n ?_
      cases z : G a with
      | none => rfl
      | some u => exact absurd ((own a u z).2.2.symm.trans (own_adr (hf j s q) e)) hj
  · by_cases hj : i = j
    · subst hj
      rw [List.getElem?_set_self hi] at q
      cases q
      exact fun _ y => y.elim
    · rw [List.getElem?_set_ne hj] at q
      refine (hf j s q).to un_le (fun a u x1 x2 x3 x4 => ⟨x4, un_none x2 ?_, x3, x1⟩) fun _ _ x => x
      cases z : G a with
      | none => rfl
      | some u => exact absurd ((own a _ z).2.2.symm.trans x1) hj
noncomputable def lls (xss : List (List D)) : List D := List.rec [] (fun xs _ a => .list xs :: a) xss
theorem nth_cc {i : Nat} {d : List (List D)} (h : nth ρ i = .cc d) : ρ[i]? = some (.cc d) := by
  rw [nth_eq] at h
  cases q : ρ[i]? with
  | none => rw [q] at h; cases h
  | some s => rw [q] at h; exact congrArg some h
theorem rp_lls {G : Hp} : ∀ {bs : List Addr} {xss : List (List D)}, Paired (fun b xs => ∃ vs, G b = some (.lst vs) ∧ RpA K G vs xs) bs xss → RpA K G (bs.map V.ref) (lls xss)
  | _, _, .nil => .nil
  | _, _, .cons ⟨vs, h1, h2⟩ r => .cons (.lst h1 h2) (rp_lls r)
theorem cc_mem {α β : Type} {P : α → β → Prop} : ∀ {l : List α} {m : List β}, Paired P l m → ∀ a ∈ l, ∃ b, P a b
  | _, _, .nil, _, h => by cases h
  | _, _, .cons p r, a, h => by
    cases h with
    | head => exact ⟨_, p⟩
    | tail _ h => exact cc_mem r a h
/-- an own list of own lists as data -/
theorem Ok.ccr (h : Ok K F0 H0 ρ F σ H) {i : Nat} {xss : List (List D)} (hx : nth ρ i = .cc xss) : ∃ G, (∀ b o, G b = some o → F b = none ∧ ∃ us, o = .lst us) ∧ Le G H ∧ Ok K F0 H0 (ρ.set i (.da (.list (lls xss)))) (un F G) σ H := by
  have hi := nth_cc hx
  obtain ⟨f, hf⟩ := h.own
  obtain ⟨a, bs, h1, h2, h3, h4, h5, h6, h7, h8⟩ := hf i _ hi
  let G : Hp := fun b => if b ∈ a :: bs then H b else none
  have g : ∀ b o, G b = some o → b ∈ a :: bs ∧ H b = some o := fun b o q => by
    by_cases z : b ∈ a :: bs
    · exact ⟨z, by rw [← q]; exact (if_pos z).symm⟩
    · have : G b = none := if_neg z
      rw [this] at q; cases q
  have g2 : ∀ b, b ∈ a :: bs → G b = H b := fun b z => if_pos z
  have hG : Le G H := fun b o q => (g b o q).2
  have own : ∀ b u, G b = some u → (F b = none ∧ H0 b = none ∧ f b = i) ∧ ∃ us, u = .lst us := fun b u q => by
    obtain ⟨z, q'⟩ := g b u q
    clear q
    rename H b = some u => q
    rcases List.mem_cons.mp z with y | z
    · rw [y, h2] at q; cases q; rw [y]; exact ⟨⟨h3, h4, h5⟩, _, rfl⟩
    · obtain ⟨xs, vs, x1, x2, x3, x4, x5⟩ := cc_mem h8 b z
      rw [x1] at q; cases q; exact ⟨⟨x3, x4, x5⟩, _, rfl⟩
  refine ⟨G, fun b o q => ⟨(own b o q).1.1, (own b o q).2⟩, hG, h.join hf (List.getElem?_eq_some_iff.mp hi).1 h1 hG (fun b u q => (own b u q).1) (.lst (un_of h3 ((g2 a (List.mem_cons_self)).trans h2)) (rp_lls ?_))⟩
  have key : ∀ {cs : List Addr} {yss : List (List D)}, (∀ b ∈ cs, b ∈ a :: bs) → Paired (fun b xs => ∃ vs, H b = some (.lst vs) ∧ RpA K F vs xs ∧ F b = none ∧ H0 b = none ∧ f b = i) cs yss → Paired (fun b xs => ∃ vs, un F G b = some (.lst vs) ∧ RpA K (un F G) vs xs) cs yss := fun {cs} => by
    induction cs with
    | nil => intro yss _ p; cases p; exact .nil
    | cons c cs ih =>
      intro yss m p
      cases p with
      | cons p r =>
        obtain ⟨vs, x1, x2, x3, _⟩ := p
        exact .cons ⟨vs, un_of x3 ((g2 c (m c (List.mem_cons_self))).trans x1), x2.mono un_le⟩ (ih (fun b z => m b (List.mem_cons_of_mem _ z)) r)
  exact key (fun b z => List.mem_cons_of_mem _ z) h8
end
noncomputable def frzC (i : Nat) (ρ : En) : En := match nth ρ i with
  | .cc xss => setE ρ i (.da (.list (lls xss)))
  | _ => ρ
section
variable {X : Cx} {cl : String → Addr} {W : XK} {e o k : Expr} {rest : List Stmt} {pos cpos apos p2 ipos : Pos} {i : Nat}
noncomputable def frzCS (i : Nat) (m : En → R Fl) : En → R Fl := fun ρ => m (frzC i ρ)
theorem sb_frzC {m : En → R Fl} (i : Nat) (h : PBl X cl W rest m) : PBl X cl W rest (frzCS i m) := by
  refine PSs.imp h fun σ H Q ⟨F0, H0, ρ, F, ok, h⟩ => ?_
  have h : tRS cl W X.K F0 H0 F (m (frzC i ρ)) Q := h
  unfold frzC at h
  cases hx : nth ρ i with
  | cc xs =>
    rw [hx] at h
    obtain ⟨G, _, _, ok'⟩ := ok.ccr hx
    have h : tRS cl W X.K F0 H0 F (m (setE ρ i (.da (.list (lls xs))))) Q := h
    rw [setE_eq] at h
    exact ⟨F0, H0, _, _, ok', tRS.mono h un_le⟩
  | _ => rw [hx] at h; exact ⟨F0, H0, ρ, F, ok, h⟩
noncomputable def thcD (k i : Nat) (m : En → R D) : En → R D := fun ρ => match nth ρ i with
  | .cc _ => (m (frzC i ρ)).bind fun d => if nl k d = true then .ok d else .no
  | _ => m ρ
noncomputable def thcF (k i : Nat) (m : En → R (List D)) : En → R (List D) := fun ρ => match nth ρ i with
  | .cc _ => (m (frzC i ρ)).bind fun xs => if nlA k xs = true then .ok xs else .no
  | _ => m ρ
noncomputable def thcB (i : Nat) (m : En → R Bool) : En → R Bool := fun ρ => m (frzC i ρ)
theorem pd_thc {m : En → R D} (k i : Nat) (h : PD X cl W e m) : PD X cl W e (thcD k i m) := by
  refine PE.imp h fun σ H Q ⟨F0, H0, ρ, F, ok, q⟩ => ?_
  have q : tR cl W (poD X.K) (match nth ρ i with
    | .cc _ => (m (frzC i ρ)).bind fun d => if nl k d = true then .ok d else .no
    | _ => m ρ) F H Q := q
  cases hx : nth ρ i with
  | cc xs =>
    rw [hx] at q
    have q : tR cl W (poD X.K) ((m (frzC i ρ)).bind fun d => if nl k d = true then .ok d else .no) F H Q := q
    have ef : frzC i ρ = ρ.set i (.da (.list (lls xs))) := by unfold frzC; rw [hx]; exact setE_eq _ _ _
    rw [ef] at q
    obtain ⟨G, g, gh, ok2⟩ := ok.ccr hx
    refine ⟨F0, H0, _, _, ok2, ?_⟩
    cases hr : m (ρ.set i (.da (.list (lls xs)))) with
    | ok d =>
      rw [hr] at q
      have q : tR cl W (poD X.K) (if nl k d = true then .ok d else .no) F H Q := q
      split at q
      · rename_i hn
        intro v F' H' ee p
        exact q v (delG F' G) H' (ext_delG ee fun b u z => (g b u z).1) (Rp.delG k d (fun b u z => ⟨ee.le _ _ (un_of (g b u z).1 z), (g b u z).2⟩) hn p)
      · exact q.elim
    | ex c n => rw [hr] at q; exact q
    | no => rw [hr] at q; exact q
  | _ =>
    rw [hx] at q
    exact ⟨F0, H0, ρ, F, ok, q⟩
theorem pf_thc {m : En → R (List D)} (k i : Nat) (h : PF X cl W e m) : PF X cl W e (thcF k i m) := by
  refine PE.imp h fun σ H Q ⟨F0, H0, ρ, F, ok, q⟩ => ?_
  have q : tR cl W (poF X.K) (match nth ρ i with
    | .cc _ => (m (frzC i ρ)).bind fun xs => if nlA k xs = true then .ok xs else .no
    | _ => m ρ) F H Q := q
  cases hx : nth ρ i with
  | cc xs =>
    rw [hx] at q
    have q : tR cl W (poF X.K) ((m (frzC i ρ)).bind fun xs => if nlA k xs = true then .ok xs else .no) F H Q := q
    have ef : frzC i ρ = ρ.set i (.da (.list (lls xs))) := by unfold frzC; rw [hx]; exact setE_eq _ _ _
    rw [ef] at q
    obtain ⟨G, g, gh, ok2⟩ := ok.ccr hx
    refine ⟨F0, H0, _, _, ok2, ?_⟩
    cases hr : m (ρ.set i (.da (.list (lls xs)))) with
    | ok ys =>
      rw [hr] at q
      have q : tR cl W (poF X.K) (if nlA k ys = true then .ok ys else .no) F H Q := q
      split at q
      · rename_i hn
        intro v F' H' ee ⟨p, us, e1, e2, e3, e4, e5⟩
        have hg : ∀ b u, G b = some u → F' b = some u ∧ ∃ us, u = .lst us := fun b u z => ⟨ee.le _ _ (un_of (g b u z).1 z), (g b u z).2⟩
        have np : G p = none := by
          cases z : G p with
          | none => rfl
          | some u => rw [(hg p u z).1] at e3; cases e3
        exact q v (delG F' G) H' (ext_delG ee fun b u z => (g b u z).1) ⟨p, us, e1, e2, by rw [delG_eq np]; exact e3, e4, RpA.delG k ys hg hn e5⟩
      · exact q.elim
    | ex c n => rw [hr] at q; exact q
    | no => rw [hr] at q; exact q
  | _ =>
    rw [hx] at q
    exact ⟨F0, H0, ρ, F, ok, q⟩
theorem pb_thc {m : En → R Bool} (i : Nat) (h : PB X cl W e m) : PB X cl W e (thcB i m) := by
  refine PT.imp h fun σ H Q ⟨F0, H0, ρ, F, ok, q⟩ => ?_
  have q : tRB cl W (m (frzC i ρ)) F H Q := q
  unfold frzC at q
  cases hx : nth ρ i with
  | cc xs =>
    rw [hx] at q
    have q : tRB cl W (m (setE ρ i (.da (.list (lls xs))))) F H Q := q
    rw [setE_eq] at q
    obtain ⟨G, g, gh, ok2⟩ := ok.ccr hx
    refine ⟨F0, H0, _, _, ok2, ?_⟩
    cases hr : m (ρ.set i (.da (.list (lls xs)))) with
    | ok b =>
      rw [hr] at q
      have q : ∀ F' H', Ext F H F' H' → Q b H' := q
      exact fun F' H' e => q F H' ⟨Le.refl F, ok.ext.sub.trans e.keep, e.keep, fun b o z => .inl z⟩
    | ex c n => rw [hr] at q; exact q
    | no => rw [hr] at q; exact q
  | _ =>
    rw [hx] at q
    exact ⟨F0, H0, ρ, F, ok, q⟩
end
/-! ### changes -/
theorem SlOk.upd {K : PySem.W.Frag} {H0 F H : Hp} {s : Sl} {o : Option (Option V)} {a : Addr} {u : HO} (h : SlOk K H0 F H s o) (c : ∀ b, adrS s o b → b ≠ a) : SlOk K H0 F (L2.upd H a u) s o := by
  cases s with
  | un => trivial
  | da d => exact h
  | ce xs => obtain ⟨b, vs, h1, h2, h3, h4, h5⟩ := h; exact ⟨b, vs, h1, by rw [upd_ne (c b h1)]; exact h2, h3, h4, h5⟩
  | er a dx n => exact h
  | sc ns => exact h
  | dd kvs => obtain ⟨b, vs, h1, h2, h3, h4, h5⟩ := h; exact ⟨b, vs, h1, by rw [upd_ne (c b h1)]; exact h2, h3, h4, h5⟩
  | dk b kvs => obtain ⟨h1, h2, h3, h4⟩ := h; exact ⟨h1, h2, h3, h4.mono (Le.refl _) (upd_ne (c b rfl))⟩
  | ow d => trivial
  | cc d => trivial
theorem OwnOk.upd {K : PySem.W.Frag} {H0 F H : Hp} {f : Addr → Nat} {i j : Nat} {s : Sl} {o : Option (Option V)} {a : Addr} {u : HO} (h : OwnOk K H0 F H f j s o) (fa : f a = i) (n : i ≠ j) : OwnOk K H0 F (L2.upd H a u) f j s o :=
  h.to (Le.refl F) (fun b u x1 x2 x3 x4 => ⟨by rw [upd_ne (fun z => by subst z; exact n (fa.symm.trans x1))]; exact x4, x2, x3, x1⟩) fun _ _ x => x
section
variable {K : PySem.W.Frag} {F0 H0 F H F' H' : Hp} {ρ : En} {σ : St}
theorem Ok.newcc (h : Ok K F0 H0 ρ F σ H) (e : Ext F H F' H') (i : Nat) {p : Addr} (np : H p = none) (hf : F' p = none) (hp : H' p = some (.lst [])) : Ok K F0 H0 (ρ.set i (.cc [])) F' (σ.set i (some (.ref p))) H' := by
  have g := h.grow e
  have h0 := h.ext.keep.none np
  obtain ⟨f, hw⟩ := h.own
  refine ⟨by simpa using h.len, g.ext, g.low, fun j s q => ?_, fun a => if a = p then i else f a, own_set (F0 := F0) (fun j s q => ?_) h.len fun _ => ⟨p, [], rfl, hp, hf, h0, by simp, by simp, by simp, .nil⟩⟩
  · by_cases hj : i = j
    · subst hj
      have hi : i < ρ.length := by
        have := (List.getElem?_eq_some_iff.mp q).1
        simpa using this
      rw [List.getElem?_set_self hi] at q
      cases q
      trivial
    · rw [List.getElem?_set_ne hj] at q
      rw [List.getElem?_set_ne hj]
      exact g.sl j s q
  · have z := own_new (i := i) (hw j s q) (h.sl j s q) np
    exact z.to e.le (fun a u x1 x2 x3 x4 => ⟨e.keep a u x4, e.still x4 x2, x3, x1⟩) fun _ _ x => x
theorem ref_inj : ∀ {bs cs : List Addr}, bs.map V.ref = cs.map V.ref → bs = cs
  | [], [], _ => rfl
  | [], _ :: _, h => by cases h
  | _ :: _, [], h => by cases h
  | b :: bs, c :: cs, h => by
    have h : V.ref b :: bs.map V.ref = V.ref c :: cs.map V.ref := h
    injection h with h1 h2
    injection h1 with h1
    rw [h1, ref_inj h2]
theorem Ok.ccapp (h : Ok K F0 H0 ρ F σ H) (e : Ext F H F' H') {i : Nat} {p a : Addr} {bs : List Addr} {xss : List (List D)} {vs : List V} {ys : List D} (hi : ρ[i]? = some (.cc xss)) (ha : σ[i]? = some (some (.ref a))) (hb : H a = some (.lst (bs.map V.ref)))
    (np : H p = none) (hf : F' p = none) (hp : H' p = some (.lst vs)) (r : RpA K F' vs ys) : Ok K F0 H0 (ρ.set i (.cc (xss ++ [ys]))) F' σ (L2.upd H' a (.lst ((bs ++ [p]).map V.ref))) := by
  have g := h.grow e
  have h0 := h.ext.keep.none np
  obtain ⟨f, hw⟩ := h.own
  obtain ⟨a', bs', h1, h2, h3, h4, h5, h6, h7, h8⟩ := hw i _ hi
  rw [ha] at h1; cases h1
  rw [hb] at h2
  injection h2 with h2
  injection h2 with h2
  obtain rfl := ref_inj h2
  have hlt := (List.getElem?_eq_some_iff.mp hi).1
  have ap : a ≠ p := fun z => by rw [z, np] at hb; cases hb
  let f' : Addr → Nat := fun b => if b = p then i else f b
  have fa : f' a = i := (if_neg ap).trans h5
  have hw' : ∀ (j : Nat) (s : Sl), ρ[j]? = some s → OwnOk K H0 F' H' f' j s σ[j]? := fun j s q =>
    (own_new (i := i) (hw j s q) (h.sl j s q) np).to e.le (fun a u x1 x2 x3 x4 => ⟨e.keep a u x4, e.still x4 x2, x3, x1⟩) fun _ _ x => x
  have fa' : F' a = none := e.still hb h3
  have pb : ∀ b ∈ bs, H b ≠ none := fun b z y => by
    obtain ⟨_, vs, x1, _⟩ := cc_mem h8 b z
    rw [x1] at y; cases y
  have pn : p ∉ bs := fun z => pb p z np
  refine ⟨by simpa using h.len, ⟨g.ext.le, g.ext.sub.upd fa', g.ext.keep.upd h4, g.ext.new⟩, g.low, fun j s q => ?_, f', fun j s q => ?_⟩
  · by_cases hj : i = j
    · subst hj
      rw [List.getElem?_set_self hlt] at q
      cases q
      trivial
    · rw [List.getElem?_set_ne hj] at q
      exact (g.sl j s q).upd fun b y z => by subst z; exact hj (fa.symm.trans (own_adr (hw' j s q) y))
  · by_cases hj : i = j
    · subst hj
      rw [List.getElem?_set_self hlt] at q
      cases q
      refine ⟨a, bs ++ [p], ha, upd_same, fa', h4, fa, ?_, ?_, ?_⟩
      · intro z
        rcases List.mem_append.mp z with z | z
        · exact h6 z
        · exact ap (List.mem_singleton.mp z)
      · exact List.nodup_append.mpr ⟨h7, by simp, fun b z c y w => by rw [List.mem_singleton.mp y] at w; subst w; exact pn z⟩
      · have z : CcOk K H0 F' (L2.upd H' a (.lst ((bs ++ [p]).map V.ref))) f' i bs xss := by
          have key : ∀ {cs : List Addr} {yss : List (List D)}, (∀ b ∈ cs, b ∈ bs) → CcOk K H0 F H f i cs yss → CcOk K H0 F' (L2.upd H' a (.lst ((bs ++ [p]).map V.ref))) f' i cs yss := fun {cs} => by
            induction cs with
            | nil => intro yss _ p; cases p; exact .nil
            | cons c cs ih =>
              intro yss m q
              cases q with
              | cons q r =>
                obtain ⟨vs, x1, x2, x3, x4, x5⟩ := q
                have cb := m c (List.mem_cons_self)
                have ca : c ≠ a := fun z => by subst z; exact h6 cb
                have cp : c ≠ p := fun z => by subst z; exact pn cb
                exact .cons ⟨vs, by rw [upd_ne ca]; exact e.keep _ _ x1, x2.mono e.le, e.still x1 x3, x4, (if_neg cp).trans x5⟩ (ih (fun b z => m b (List.mem_cons_of_mem _ z)) r)
          exact key (fun b z => z) h8
        refine Paired.snoc z ⟨vs, by rw [upd_ne ap.symm]; exact hp, r, hf, h0, if_pos rfl⟩
    · rw [List.getElem?_set_ne hj] at q
      exact (hw' j s q).upd fa hj
theorem cc_set {P P' : Addr → List D → Prop} : ∀ {bs : List Addr} {xss : List (List D)} {n : Nat} {b : Addr} {ys : List D}, Paired P bs xss → bs[n]? = some b → bs.Nodup → P' b ys → (∀ c xs, c ≠ b → P c xs → P' c xs) → Paired P' bs (xss.set n ys)
  | _, _, _, _, _, .nil, h, _, _, _ => by cases h
  | c :: bs, xs :: xss, 0, b, ys, .cons p r, h, hn, hb, k => by
    cases h
    have nd := List.nodup_cons.mp hn
    have key : ∀ {cs : List Addr} {yss : List (List D)}, (∀ b ∈ cs, b ∈ bs) → Paired P cs yss → Paired P' cs yss := fun {cs} => by
      induction cs with
      | nil => intro yss _ p; cases p; exact .nil
      | cons d cs ih =>
        intro yss m q
        cases q with
        | cons q r => exact .cons (k d _ (fun z => by subst z; exact nd.1 (m d (List.mem_cons_self))) q) (ih (fun b z => m b (List.mem_cons_of_mem _ z)) r)
    exact .cons hb (key (fun b z => z) r)
  | c :: bs, xs :: xss, n + 1, b, ys, .cons p r, h, hn, hb, k => by
    have nd := List.nodup_cons.mp hn
    have h : bs[n]? = some b := h
    exact .cons (k c _ (fun z => by subst z; exact nd.1 (List.mem_of_getElem? h)) p) (cc_set r h nd.2 hb k)
theorem Ok.ccw (h : Ok K F0 H0 ρ F σ H) {i n : Nat} {a b : Addr} {bs : List Addr} {xss : List (List D)} {ws : List V} {ys : List D} (hi : ρ[i]? = some (.cc xss)) (ha : σ[i]? = some (some (.ref a))) (hb : H a = some (.lst (bs.map V.ref)))
    (hn : bs[n]? = some b) (r : RpA K F ws ys) : Ok K F0 H0 (ρ.set i (.cc (xss.set n ys))) F σ (L2.upd H b (.lst ws)) := by
  obtain ⟨f, hw⟩ := h.own
  obtain ⟨a', bs', h1, h2, h3, h4, h5, h6, h7, h8⟩ := hw i _ hi
  rw [ha] at h1; cases h1
  rw [hb] at h2
  injection h2 with h2
  injection h2 with h2
  obtain rfl := ref_inj h2
  have hlt := (List.getElem?_eq_some_iff.mp hi).1
  have mb := List.mem_of_getElem? hn
  obtain ⟨xs, vs, x1, x2, x3, x4, x5⟩ := cc_mem h8 b mb
  have ab : a ≠ b := fun z => by subst z; exact h6 mb
  refine ⟨by simpa using h.len, ⟨h.ext.le, h.ext.sub.upd x3, h.ext.keep.upd x4, h.ext.new⟩, h.low, fun j s q => ?_, f, fun j s q => ?_⟩
  · by_cases hj : i = j
    · subst hj
      rw [List.getElem?_set_self hlt] at q
      cases q
      trivial
    · rw [List.getElem?_set_ne hj] at q
      exact (h.sl j s q).upd fun c y z => by subst z; exact hj (x5.symm.trans (own_adr (hw j s q) y))
  · by_cases hj : i = j
    · subst hj
      rw [List.getElem?_set_self hlt] at q
      cases q
      refine ⟨a, bs, ha, by rw [upd_ne ab]; exact hb, h3, h4, h5, h6, h7, cc_set h8 hn h7 ⟨ws, upd_same, r, x3, x4, x5⟩ fun c xs z ⟨us, y1, y2⟩ => ⟨us, by rw [upd_ne z]; exact y1, y2⟩⟩
    · rw [List.getElem?_set_ne hj] at q
      exact (hw j s q).upd x5 hj
theorem Ok.ccat (h : Ok K F0 H0 ρ F σ H) {i : Nat} {xss : List (List D)} (hx : nth ρ i = .cc xss) : ∃ a bs, σ[i]? = some (some (.ref a)) ∧ H a = some (.lst (bs.map V.ref)) ∧ F a = none ∧ Paired (fun b xs => ∃ vs, H b = some (.lst vs) ∧ RpA K F vs xs ∧ F b = none) bs xss := by
  obtain ⟨f, hw⟩ := h.own
  obtain ⟨a, bs, h1, h2, h3, h4, h5, h6, h7, h8⟩ := hw i _ (nth_cc hx)
  exact ⟨a, bs, h1, h2, h3, L2.Paired.mapP h8 fun b xs ⟨vs, x1, x2, x3, _⟩ => ⟨vs, x1, x2, x3⟩⟩
end
section
variable {X : Cx} {cl : String → Addr} {W : XK} {e o k : Expr} {rest : List Stmt} {pos cpos apos p2 ipos : Pos} {i : Nat}
/-- x = [], an own list of own lists from here on -/
noncomputable def setQ (i : Nat) (m : En → R (List D)) : En → R Fl := fun ρ => (m ρ).bind fun d => match d with
  | [] => .ok (.nx (setE ρ i (.cc [])))
  | _ :: _ => .no
theorem st_setQ {i : Nat} {x : Str} {m : En → R (List D)} {pos' : Pos} (hN : X.N.Nodup) (hi : X.N[i]? = some x) (hx : Loc X.env.scope x) (he : PF X cl W e m) (hs : swapsWith e (some (.Name x pos')) pos.line X.env = pure false := by rfl) (hf : X.fn x = true ∨ X.env.scope.names.lookup x = some .local := by first | exact .inl rfl | exact .inr rfl | assumption) :
    PSt X cl W (.Assign [.Name x pos'] e pos) (setQ i m) := by
  refine PS.imp (ps_set hN hi hx he hs hf) fun σ H Q ⟨F0, H0, ρ, F, ok, h⟩ => ⟨F0, H0, ρ, F, ok, ?_⟩
  refine tRS.expr h ok.ext.keep fun v F1 H1 d e1 p1 h1 => ?_
  cases d with
  | nil =>
    obtain ⟨p, vs, rfl, np, fp, hp, r⟩ := p1
    cases r
    exact h1 _ F1 H1 (by rw [setE_eq]; exact ok.newcc e1 i np fp hp) (Le.refl F1)
  | cons _ _ => exact h1.elim
/-- x.append(a new list) -/
noncomputable def appQ (i : Nat) (m : En → R (List D)) : En → R Fl := fun ρ => match nth ρ i with
  | .cc xs => (m ρ).bind fun d => if xs.length < sizeLine then .ok (.nx (setE ρ i (.cc (xs ++ [d])))) else .no
  | _ => .no
theorem st_appQ {m : En → R (List D)} (ho : PE X o (tVar i)) (he : PF X cl W e m) (hbase : attributeBase o "append" X.env (eval o X.env) = eval o X.env := by rfl)
    (hfew : ((backTo cpos (starEach (e :: []) X.env)).all (fun x => !x.1) && (backToKw cpos (keywordEach [] X.env)).all (fun x => x.1.isSome)
      && decide ((e :: []).length + ([] : List Keyword).length + (if ([] : List Keyword).isEmpty then 0 else 1) < 30)) = true := by rfl)
    (hline : (apos.endLine == cpos.line) = true := by rfl) (hs : starEach (e :: []) X.env = (false, eval e X.env) :: starEach [] X.env := by rfl) (hplain : (backTo cpos (starEach [] X.env)).any (·.1) = false := by rfl)
    (hsw : swapsWith (.Call (.Attribute o "append" apos) [e] [] cpos) none p2.line X.env = pure false := by rfl) :
    PSt X cl W (.Expr (.Call (.Attribute o "append" apos) [e] [] cpos) p2) (appQ i m) := by
  refine PS.imp (ps_expr (pe_bm PySem.F.plainAttrs_list PySem.F.slot_list_append PySem.F.type_list_append mt_append ho (pa_one he hs) hbase hfew hline hs hplain) hsw) fun σ H Q ⟨F0, H0, ρ, F, ok, h⟩ => ?_
  unfold appQ at h
  cases hx : nth ρ i with
  | cc xs =>
    rw [hx] at h
    obtain ⟨a, bs, h1, h2, h3, h5⟩ := ok.ccat hx
    refine ⟨_, h1, .inl ⟨rfl, _, .inl (.inl h2)⟩, F0, H0, ρ, F, ok, tRS.expr h ok.ext.keep fun v F1 H1 d e1 p1 h1' => ?_⟩
    have h1' : tRS cl W X.K F0 H0 F1 (if xs.length < sizeLine then .ok (.nx (setE ρ i (.cc (xs ++ [d])))) else .no) Q := h1'
    split at h1'
    · rename_i hz
      obtain ⟨p, vs, rfl, np, fp, hp, r⟩ := p1
      refine ⟨a, _, _, rfl, rfl, e1.keep _ _ h2, by rw [List.length_map, h5.length]; exact hz, ?_⟩
      have z := ok.ccapp e1 (nth_cc hx) h1 h2 np fp hp r
      rw [List.map_append] at z
      exact h1' σ F1 _ (by rw [setE_eq]; exact z) (Le.refl _)
    · exact h1'.elim
  | _ => rw [hx] at h; exact h.elim
/-- x[k].append(y) -/
noncomputable def appI (i : Nat) (mk m : En → R D) : En → R Fl := fun ρ => match nth ρ i with
  | .cc xs => (mk ρ).bind fun k => match k with
    | .int z => match ixN xs.length z with
      | some n => match xs[n]? with
        | some ys => (m ρ).bind fun d => if ys.length < sizeLine then .ok (.nx (setE ρ i (.cc (xs.set n (ys ++ [d]))))) else .no
        | none => .no
      | none => .no
    | _ => .no
  | _ => .no
theorem cc_get {P : Addr → List D → Prop} : ∀ {bs : List Addr} {xss : List (List D)} {n : Nat} {ys : List D}, Paired P bs xss → xss[n]? = some ys → ∃ b, bs[n]? = some b ∧ P b ys
  | _, _, _, _, .nil, h => by cases h
  | c :: bs, xs :: xss, 0, ys, .cons p r, h => by cases h; exact ⟨c, rfl, p⟩
  | c :: bs, xs :: xss, n + 1, ys, .cons p r, h => cc_get (n := n) r h
theorem st_appI {mk m : En → R D} (ho : PE X o (tVar i)) (hk : PD X cl W k mk) (he : PD X cl W e m) (hki : PlainIx k := by intro _ _; rfl) (hbase : attributeBase (.Subscript o k ipos) "append" X.env (eval (.Subscript o k ipos) X.env) = eval (.Subscript o k ipos) X.env := by rfl)
    (hfew : ((backTo cpos (starEach (e :: []) X.env)).all (fun x => !x.1) && (backToKw cpos (keywordEach [] X.env)).all (fun x => x.1.isSome)
      && decide ((e :: []).length + ([] : List Keyword).length + (if ([] : List Keyword).isEmpty then 0 else 1) < 30)) = true := by rfl)
    (hline : (apos.endLine == cpos.line) = true := by rfl) (hs : starEach (e :: []) X.env = (false, eval e X.env) :: starEach [] X.env := by rfl) (hplain : (backTo cpos (starEach [] X.env)).any (·.1) = false := by rfl)
    (hsw : swapsWith (.Call (.Attribute (.Subscript o k ipos) "append" apos) [e] [] cpos) none p2.line X.env = pure false := by rfl) :
    PSt X cl W (.Expr (.Call (.Attribute (.Subscript o k ipos) "append" apos) [e] [] cpos) p2) (appI i mk m) := by
  refine PS.imp (ps_expr (pe_bm PySem.F.plainAttrs_list PySem.F.slot_list_append PySem.F.type_list_append mt_append (pe_ix ix_list ho hk hki) (pa_one he hs) hbase hfew hline hs hplain) hsw) fun σ H Q ⟨F0, H0, ρ, F, ok, h⟩ => ?_
  unfold appI at h
  cases hx : nth ρ i with
  | cc xs =>
    rw [hx] at h
    obtain ⟨a, bs, h1, h2, h3, h5⟩ := ok.ccat hx
    refine ⟨_, h1, F0, H0, ρ, F, ok, tRS.expr (P := poD X.K) h ok.ext.keep fun v F1 H1 d e1 p1 h1' => ?_⟩
    cases d with
    | int z =>
      obtain rfl := Rp.inv_int p1
      have h1' : tRS cl W X.K F0 H0 F1 (match ixN xs.length z with
        | some n => match xs[n]? with
          | some ys => (m ρ).bind fun d => if ys.length < sizeLine then .ok (.nx (setE ρ i (.cc (xs.set n (ys ++ [d]))))) else .no
          | none => .no
        | none => .no) Q := h1'
      cases hq : ixN xs.length z with
      | none => rw [hq] at h1'; exact h1'.elim
      | some n =>
        rw [hq] at h1'
        have h1' : tRS cl W X.K F0 H0 F1 (match xs[n]? with
          | some ys => (m ρ).bind fun d => if ys.length < sizeLine then .ok (.nx (setE ρ i (.cc (xs.set n (ys ++ [d]))))) else .no
          | none => .no) Q := h1'
        cases hy : xs[n]? with
        | none => rw [hy] at h1'; exact h1'.elim
        | some ys =>
          rw [hy] at h1'
          have ok1 := ok.grow e1
          obtain ⟨a', cs, k1, k2, k3, k5⟩ := ok1.ccat hx
          rw [h1] at k1; cases k1
          obtain ⟨b, b1, vs, b2, b3, b4⟩ := cc_get k5 hy
          have hat : atI (cs.map V.ref) z = some (.ref b) := by
            unfold atI
            rw [List.length_map, k5.length, hq]
            show (cs.map V.ref)[n]? = _
            rw [List.getElem?_map, b1]; rfl
          refine ⟨a, cs.map V.ref, z, .ref b, rfl, rfl, .inl (.inl k2), hat, .inl ⟨rfl, _, .inl (.inl b2)⟩, F0, H0, ρ, F1, ok1, tRS.expr (P := poD X.K) h1' (ok.ext.keep.trans e1.keep) fun u F2 H2 d e2 p2 h2' => ?_⟩
          have h2' : tRS cl W X.K F0 H0 F2 (if ys.length < sizeLine then .ok (.nx (setE ρ i (.cc (xs.set n (ys ++ [d]))))) else .no) Q := h2'
          split at h2'
          · rename_i hz
            refine ⟨b, vs, u, rfl, rfl, e2.keep _ _ b2, by rw [b3.length]; exact hz, ?_⟩
            exact h2' σ F2 _ (by rw [setE_eq]; exact (ok1.grow e2).ccw (nth_cc hx) h1 (e2.keep _ _ k2) b1 ((b3.mono e2.le).append (.cons p2 .nil))) (Le.refl _)
          · exact h2'.elim
    | _ => exact h1'.elim
  | _ => rw [hx] at h; exact h.elim
end
end Mir
/-! y = [..], where the comprehension looks at an own list as data and the list stays own. -/
namespace Mir
open PySem PySem.Spec PyProof.Rows L2
section
variable {X : Cx} {cl : String → Addr} {W : XK} {pos : Pos}
/-- a wrapper that gives the premise within back -/
def Wrap (cl : String → Addr) (W : XK) (K : PySem.W.Frag) (w : (En → R (List D)) → En → R (List D)) : Prop := ∀ (m : En → R (List D)) (σ : St) (H : Hp) (Q : VK), tM cl W K (poF K) (w m) σ H Q → tM cl W K (poF K) m σ H Q
theorem wrap_c {K : PySem.W.Frag} (k i : Nat) : Wrap cl W K (thcF k i) := fun m σ H Q ⟨F0, H0, ρ, F, ok, q⟩ => by
  have q : tR cl W (poF K) (match nth ρ i with
    | .cc _ => (m (frzC i ρ)).bind fun xs => if nlA k xs = true then .ok xs else .no
    | _ => m ρ) F H Q := q
  cases hx : nth ρ i with
  | cc xs =>
    rw [hx] at q
    have q : tR cl W (poF K) ((m (frzC i ρ)).bind fun xs => if nlA k xs = true then .ok xs else .no) F H Q := q
    have ef : frzC i ρ = ρ.set i (.da (.list (lls xs))) := by unfold frzC; rw [hx]; exact setE_eq _ _ _
    rw [ef] at q
    obtain ⟨G, g, gh, ok2⟩ := ok.ccr hx
    refine ⟨F0, H0, _, _, ok2, ?_⟩
    cases hr : m (ρ.set i (.da (.list (lls xs)))) with
    | ok ys =>
      rw [hr] at q
      have q : tR cl W (poF K) (if nlA k ys = true then .ok ys else .no) F H Q := q
      split at q
      · rename_i hn
        intro v F' H' ee ⟨p, us, e1, e2, e3, e4, e5⟩
        have hg : ∀ b u, G b = some u → F' b = some u ∧ ∃ us, u = .lst us := fun b u z => ⟨ee.le _ _ (un_of (g b u z).1 z), (g b u z).2⟩
        have np : G p = none := by
          cases z : G p with
          | none => rfl
          | some u => rw [(hg p u z).1] at e3; cases e3
        exact q v (delG F' G) H' (ext_delG ee fun b u z => (g b u z).1) ⟨p, us, e1, e2, by rw [delG_eq np]; exact e3, e4, RpA.delG k ys hg hn e5⟩
      · exact q.elim
    | ex c n => rw [hr] at q; exact q
    | no => rw [hr] at q; exact q
  | _ =>
    rw [hx] at q
    exact ⟨F0, H0, ρ, F, ok, q⟩
theorem wrap_w {K : PySem.W.Frag} (k i : Nat) : Wrap cl W K (thwF k i) := fun m σ H Q ⟨F0, H0, ρ, F, ok, q⟩ => by
  have q : tR cl W (poF K) (match nth ρ i with
    | .ce _ => (m (frzE i ρ)).bind fun xs => if nlA k xs = true then .ok xs else .no
    | _ => m ρ) F H Q := q
  cases hx : nth ρ i with
  | ce xs =>
    rw [hx] at q
    have q : tR cl W (poF K) ((m (frzE i ρ)).bind fun xs => if nlA k xs = true then .ok xs else .no) F H Q := q
    have ef : frzE i ρ = ρ.set i (.da (.list xs)) := by unfold frzE; rw [hx]; exact setE_eq _ _ _
    rw [ef] at q
    obtain ⟨a, vs, fa, hh, ok2⟩ := ok.frz2 (nth_ce hx)
    refine ⟨F0, H0, _, _, ok2, ?_⟩
    cases hr : m (ρ.set i (.da (.list xs))) with
    | ok ys =>
      rw [hr] at q
      have q : tR cl W (poF K) (if nlA k ys = true then .ok ys else .no) F H Q := q
      split at q
      · rename_i hn
        intro v F' H' ee ⟨p, us, e1, e2, e3, e4, e5⟩
        have fa' : F' a = some (.lst vs) := ee.le _ _ upd_same
        have np : p ≠ a := fun z => by subst z; rw [fa'] at e3; cases e3
        exact q v (del F' a) H' (ext_del ee fa) ⟨p, us, e1, e2, by rw [del_ne np]; exact e3, e4, RpA.del k ys fa' hn e5⟩
      · exact q.elim
    | ex c n => rw [hr] at q; exact q
    | no => rw [hr] at q; exact q
  | _ =>
    rw [hx] at q
    exact ⟨F0, H0, ρ, F, ok, q⟩
theorem wrap_t {K : PySem.W.Frag} {w1 w2 : (En → R (List D)) → En → R (List D)} (h1 : Wrap cl W K w1) (h2 : Wrap cl W K w2) : Wrap cl W K (fun m => w1 (w2 m)) := fun m σ H Q h => h2 m σ H Q (h1 (w2 m) σ H Q h)
theorem st_lcX {w : (En → R (List D)) → En → R (List D)} (hw : Wrap cl W X.K w) {i : Nat} {y : Str} {py spos : Pos} {elt tg iter : Expr} {ifs : List Expr} {scope : Scope} {own : List (Str × Nat)} {src : En → R (List D)} {g : Tg} {sl : List Nat} {t : En → R Bool} {me : En → R D} (hc : X.calm = true) (hN : X.N.Nodup) (hy : X.N[i]? = some y) (hyl : X.env.scope.names.lookup y = some .local)
    (hsw : swapsWith (.ListComp elt [⟨tg, iter, ifs, 0⟩] scope pos) (some (.Name y py)) spos.line X.env = pure true) (hi : PSr X cl W true tg iter src) (ok : BlkOk X.N X.env.scope scope own)
    (hsl : ∀ i ∈ sl, i ∈ own.map (·.2))
    (hg : ∀ (s : Shared) (H : Hp) (C : Addr) (cs : List (Str × Addr)) (fp : List Addr), PGp (X.blk s H scope (compEnvC scope cs C X.env) fp) tg g sl) (ht : ∀ (s : Shared) (H : Hp) (C : Addr) (cs : List (Str × Addr)) (fp : List Addr), PTm (X.blk s H scope (compEnvC scope cs C X.env) fp) cl E0 ifs t)
    (he : ∀ (s : Shared) (H : Hp) (C : Addr) (cs : List (Str × Addr)) (fp : List Addr), PD (X.blk s H scope (compEnvC scope cs C X.env) fp) cl E0 elt me) (hs : ∀ x, foldedSetIterable iter X.env x = pure x := by intro _; rfl) :
    PSt X cl W (.Assign [.Name y py] (.ListComp elt [⟨tg, iter, ifs, 0⟩] scope pos) spos) (setS i (fun ρ => toList (w (lcF g src t me (own.map (·.2))) ρ))) := by
  refine PS.imp (ps_setLc (g := tGp X.K g sl) (tt := tMB cl E0 X.K t) (te := tM cl E0 X.K (poD X.K) me) hc hN hy hyl hsw hi ok hg ht he hs) fun σ H Q ⟨F0, H0, ρ, F, ok, h⟩ => lc_read hsl (hw _ _ _ _ ⟨F0, H0, ρ, F, ok, ?_⟩)
  have h : tRS cl W X.K F0 H0 F ((toList (w (lcF g src t me (own.map (·.2))) ρ)).bind fun d => .ok (.nx (setE ρ i (.da d)))) Q := h
  unfold toList at h
  rw [R.bind_assoc] at h
  refine tRS.expr h ok.ext.keep fun v F1 H1 d e1 p1 h1 => ?_
  obtain ⟨p, vs, rfl, np, fp, hp, r⟩ := p1
  exact h1 _ _ H1 (by rw [setE_eq]; exact (ok.grow (e1.freeze np hp fp)).set i (.lst upd_same (r.mono ((Le.refl F1).upd fp)))) ((Le.refl F1).upd fp)
end
end Mir
namespace My
open PySem PySem.Spec PyProof.Rows L2 Mir
def topS (i : Nat) : Stmt := PySem.Challenge.pw_bargainstold_k66_errors_of_packing.main.body.getD i (.Pass ⟨0, 0, 0, 0⟩)
abbrev Lv : List String := ["OutOfRange", "TooMany", "WrongSize", "BadThing", "BadBag"]
abbrev s__law_draws : Stmt := topS 39
abbrev N__law_draws : List Str := ["script", "draws", "k", "rest", "turn", "mixed"]
theorem sc__law_draws : FnScope N__law_draws ["script"] (defScope s__law_draws) := ⟨rfl, rfl, rfl, by decide +kernel, rfl, by decide +kernel, by decide +kernel⟩
noncomputable def l__law_draws_1 : En → R Fl :=
  (ifS (bin2 gtI (getd 3) (cst (.int 0)))
  (seqS (appS 1 (bin2 modD (un1 intD (getd 3)) (cst (.int 65536))))
  (setS 3 (bin2 fdivD (getd 3) (cst (.int 65536)))))
  nxS)
noncomputable def l__law_draws_2 : En → R Fl :=
  (seqS (setS 3 (un1 absD (bin2 atL (gets 0) (getd 2))))
  (ifS (bin2 geI (getd 3) (bin2 powD (cst (.int 10)) (cst (.int 18))))
  (forS (gN 4) (rng1 (cst (.int 60)))
  l__law_draws_1)
  (seqS (setS 5 (bin2 modD (un1 intD (bin2 addD (bin2 mulD (getd 3) (cst (.int 48271))) (bin2 mulD (bin2 addD (getd 2) (cst (.int 1))) (cst (.int 69621))))) (cst (.int 2147483647))))
  (seqS (setS 5 (bin2 modD (un1 intD (bin2 addD (bin2 addD (bin2 mulD (getd 5) (cst (.int 16807))) (bin2 mulD (cst (.int 11)) (getd 2))) (cst (.int 5)))) (cst (.int 2147483629))))
  (seqS (appS 1 (bin2 modD (un1 intD (getd 5)) (cst (.int 65536))))
  (appS 1 (bin2 modD (un1 intD (bin2 fdivD (getd 5) (cst (.int 65536)))) (cst (.int 32768)))))))))
noncomputable def b__law_draws : En → R Fl :=
  (seqS (setC 1 (lstF argN))
  (seqS (forS (gN 2) (rng1 (bin2 min2D (cst (.int 63)) (lenL (gets 0))))
  l__law_draws_2)
  (retC 1)))
noncomputable def f__law_draws : List Int → R D := fnS 6 b__law_draws
abbrev s__law_mix : Stmt := topS 40
abbrev N__law_mix : List Str := ["draws", "k", "many", "cell"]
theorem sc__law_mix : FnScope N__law_mix ["draws", "k", "many"] (defScope s__law_mix) := ⟨rfl, rfl, rfl, by decide +kernel, rfl, by decide +kernel, by decide +kernel⟩
noncomputable def b__law_mix : En → R Fl :=
  (seqS (setS 3 (cst (.int 0)))
  (seqS (ifS (bin2 gtI (un1 lenD (getd 0)) (cst (.int 0)))
  (setS 3 (bin2 ixD (getd 0) (bin2 modD (un1 intD (getd 1)) (un1 lenD (getd 0)))))
  nxS)
  (seqS (ifS (bin2 ltI (getd 1) (un1 lenD (getd 0)))
  (retS (bin2 modD (un1 intD (getd 3)) (getd 2)))
  nxS)
  (retS (bin2 modD (un1 intD (bin2 fdivD (un1 intD (bin2 addD (bin2 mulD (getd 3) (cst (.int 7919))) (bin2 mulD (getd 1) (cst (.int 104729))))) (cst (.int 3)))) (getd 2))))))
noncomputable def f__law_mix : List D → R D := fnM 4 b__law_mix
abbrev s__law_name : Stmt := topS 41
abbrev N__law_name : List Str := ["e", "words", "word", "is_it"]
theorem sc__law_name : FnScope N__law_name ["e"] (defScope s__law_name) := ⟨rfl, rfl, rfl, by decide +kernel, rfl, by decide +kernel, by decide +kernel⟩
noncomputable def l__law_name_1 : En → R D :=
  (joinM (cst (.str (PySem.Str.ofString " "))) (lcF (gT (gsC (gN 2) (gsC (gN 3) gsN))) (asL (getd 1)) (un1 truth (getd 3)) (getd 2) [2, 3]))
noncomputable def c__law_name (c : String) (a dx : Addr) : En → R Fl :=
  (seqS (setS 1 (tL (lstF (argC (tupD (argC (cst (.str (PySem.Str.ofString "bag"))) (argC (isiM 0 a dx (c == "BadBag")) argN))) (argC (tupD (argC (cst (.str (PySem.Str.ofString "thing"))) (argC (isiM 0 a dx (c == "BadThing")) argN))) (argC (tupD (argC (cst (.str (PySem.Str.ofString "range"))) (argC (isiM 0 a dx (c == "OutOfRange")) argN))) (argC (tupD (argC (cst (.str (PySem.Str.ofString "many"))) (argC (isiM 0 a dx (c == "TooMany")) argN))) argN)))))))
  (seqS (setS 1 (bin2 addD (getd 1) (tL (lstF (argC (tupD (argC (cst (.str (PySem.Str.ofString "size"))) (argC (isiM 0 a dx (c == "WrongSize")) argN))) argN)))))
  (retS (tupD (argC l__law_name_1 (argC (atM 0 a dx) argN))))))
noncomputable def b__law_name (c : String) (a dx : Addr) : En → R Fl := if Lv.contains c = true then c__law_name c a dx else noS
noncomputable def f__law_name : String → Int → R D := fun c n => if c = "OutOfRange" then .ok (.tuple [.str (PySem.Str.ofString "range"), .int n]) else if c = "TooMany" then .ok (.tuple [.str (PySem.Str.ofString "many"), .int n]) else if c = "WrongSize" then .ok (.tuple [.str (PySem.Str.ofString "size"), .int n]) else if c = "BadThing" then .ok (.tuple [.str (PySem.Str.ofString "thing"), .int n]) else if c = "BadBag" then .ok (.tuple [.str (PySem.Str.ofString "bag"), .int n]) else .no
theorem nm__law_name_OutOfRange (a dx : Addr) (n : Int) : c__law_name "OutOfRange" a dx (enterN N__law_name.length a dx n) = .ok (.rt (.tuple [.str (PySem.Str.ofString "range"), .int n])) := by
  have hA1 : addD (.list [.tuple [.str (PySem.Str.ofString "bag"), .bool false], .tuple [.str (PySem.Str.ofString "thing"), .bool false], .tuple [.str (PySem.Str.ofString "range"), .bool true], .tuple [.str (PySem.Str.ofString "many"), .bool false]]) (.list [.tuple [.str (PySem.Str.ofString "size"), .bool false]]) = some (.list [.tuple [.str (PySem.Str.ofString "bag"), .bool false], .tuple [.str (PySem.Str.ofString "thing"), .bool false], .tuple [.str (PySem.Str.ofString "range"), .bool true], .tuple [.str (PySem.Str.ofString "many"), .bool false], .tuple [.str (PySem.Str.ofString "size"), .bool false]]) := by kernel_rfl
  have hJ : l__law_name_1 [.er a dx n, .da (.list [.tuple [.str (PySem.Str.ofString "bag"), .bool false], .tuple [.str (PySem.Str.ofString "thing"), .bool false], .tuple [.str (PySem.Str.ofString "range"), .bool true], .tuple [.str (PySem.Str.ofString "many"), .bool false], .tuple [.str (PySem.Str.ofString "size"), .bool false]]), .un, .un] = .ok (.str (PySem.Str.ofString "range")) := by kernel_rfl
  show c__law_name "OutOfRange" a dx [.er a dx n, .un, .un, .un] = _
  unfold c__law_name
  simp only [↓setS_e, ↓setC_e, ↓parS_e, ↓ifS_e, ↓ifV_e, ↓retS_e, ↓retF_e, ↓retC_e, ↓retN_e, ↓nxS_e, ↓dropS_e, ↓asgS_e, ↓bin2_e, ↓un1_e, ↓cst_e, ↓tL_e, ↓asL_e, ↓itD_e, ↓bD_e, ↓lenL_e, ↓andB_e, ↓orB_e, ↓notB_e, ↓chain_e, ↓orV_e, ↓andV_e, ↓notV_e, ↓argN_e, ↓argC_e, ↓lstF_e, ↓tupD_e, ↓appM_e, ↓frzS_e, ↓yesB_e, ↓revF_e, ↓rng1_e, ↓seqS_e, ↓appS_e, ↓extS_e, ↓stoS_e, ↓forS_e, setK_e, setCK_e, parK_e, parL_e, ifK_t, ifK_f, retK_e, roK_e, dropK_e, asgK_e, nxK_e, b2K_e, b2L_e, u1K_e, liK_e, boK_e, lnK_e, anK_t, anK_f, orK_t, orK_f, noK_e, chK_e, chL_e, chN_t, chN_f, ovK_e, ovL_t, ovL_f, avK_e, avL_t, avL_f, nvK_e, nvL_e, acK_e, acL_e, rvK_e, ls_0, ls_1, ls_2, ls_3, ls_4, ls_5, ls_6, ls_7, ls_8, tu_0, tu_1, tu_2, tu_3, tu_4, tu_5, tu_6, tu_7, tu_8, seqK_nx, seqK_ct, seqK_bk, seqK_rt, seqK_ro, appK_e, appL_i, extK_e, extL_i, stoM_e, stoL_e, stoK_i, forX_e, forG_e, getd_0, getd_s, gets_0, gets_s, getc_0, getc_s, scM_0, scM_s, nth_0, nth_s, setE_0, setE_s, List.set_cons_zero, List.set_cons_succ, b_ok, b_ex, b_no, ofO_some, asList_l, items_l, items_t, add_i, sub_i, neg_i, int_i, abs_i, lt_i, le_i, gt_i, ge_i, min2_i, max2_i, gcd_i, ix_l, ix_t, atL_i, len_l, len_t, truth_b, isN_n, isB_b, isntN_n, isntB_b, isntN_i, isntN_t, isntN_l, isN_i, isN_t, isN_l, frzE_0, frzE_0d, frzE_0u, frzE_s, rngK_i, forK_nx, forK_ct, forK_bk, forK_rt, forK_ro, whlK_t, whlK_f, gN_e, gT_e, gsN_e, gsC_e, Option.bind_some, mul_i, fdiv_i, mod_i, eq_i, ne_i, ne_s, eq_s, decide_true, decide_false, if_true, if_false, Bool.false_eq_true, Bool.not_true, Bool.not_false, reduceIte, Nat.zero_le, isiM_e, atM_e, hJ, hA1, String.reduceBEq, List.cons_append, List.nil_append, beq_self_eq_true]
theorem nm__law_name_TooMany (a dx : Addr) (n : Int) : c__law_name "TooMany" a dx (enterN N__law_name.length a dx n) = .ok (.rt (.tuple [.str (PySem.Str.ofString "many"), .int n])) := by
  have hA1 : addD (.list [.tuple [.str (PySem.Str.ofString "bag"), .bool false], .tuple [.str (PySem.Str.ofString "thing"), .bool false], .tuple [.str (PySem.Str.ofString "range"), .bool false], .tuple [.str (PySem.Str.ofString "many"), .bool true]]) (.list [.tuple [.str (PySem.Str.ofString "size"), .bool false]]) = some (.list [.tuple [.str (PySem.Str.ofString "bag"), .bool false], .tuple [.str (PySem.Str.ofString "thing"), .bool false], .tuple [.str (PySem.Str.ofString "range"), .bool false], .tuple [.str (PySem.Str.ofString "many"), .bool true], .tuple [.str (PySem.Str.ofString "size"), .bool false]]) := by kernel_rfl
  have hJ : l__law_name_1 [.er a dx n, .da (.list [.tuple [.str (PySem.Str.ofString "bag"), .bool false], .tuple [.str (PySem.Str.ofString "thing"), .bool false], .tuple [.str (PySem.Str.ofString "range"), .bool false], .tuple [.str (PySem.Str.ofString "many"), .bool true], .tuple [.str (PySem.Str.ofString "size"), .bool false]]), .un, .un] = .ok (.str (PySem.Str.ofString "many")) := by kernel_rfl
  show c__law_name "TooMany" a dx [.er a dx n, .un, .un, .un] = _
  unfold c__law_name
  simp only [↓setS_e, ↓setC_e, ↓parS_e, ↓ifS_e, ↓ifV_e, ↓retS_e, ↓retF_e, ↓retC_e, ↓retN_e, ↓nxS_e, ↓dropS_e, ↓asgS_e, ↓bin2_e, ↓un1_e, ↓cst_e, ↓tL_e, ↓asL_e, ↓itD_e, ↓bD_e, ↓lenL_e, ↓andB_e, ↓orB_e, ↓notB_e, ↓chain_e, ↓orV_e, ↓andV_e, ↓notV_e, ↓argN_e, ↓argC_e, ↓lstF_e, ↓tupD_e, ↓appM_e, ↓frzS_e, ↓yesB_e, ↓revF_e, ↓rng1_e, ↓seqS_e, ↓appS_e, ↓extS_e, ↓stoS_e, ↓forS_e, setK_e, setCK_e, parK_e, parL_e, ifK_t, ifK_f, retK_e, roK_e, dropK_e, asgK_e, nxK_e, b2K_e, b2L_e, u1K_e, liK_e, boK_e, lnK_e, anK_t, anK_f, orK_t, orK_f, noK_e, chK_e, chL_e, chN_t, chN_f, ovK_e, ovL_t, ovL_f, avK_e, avL_t, avL_f, nvK_e, nvL_e, acK_e, acL_e, rvK_e, ls_0, ls_1, ls_2, ls_3, ls_4, ls_5, ls_6, ls_7, ls_8, tu_0, tu_1, tu_2, tu_3, tu_4, tu_5, tu_6, tu_7, tu_8, seqK_nx, seqK_ct, seqK_bk, seqK_rt, seqK_ro, appK_e, appL_i, extK_e, extL_i, stoM_e, stoL_e, stoK_i, forX_e, forG_e, getd_0, getd_s, gets_0, gets_s, getc_0, getc_s, scM_0, scM_s, nth_0, nth_s, setE_0, setE_s, List.set_cons_zero, List.set_cons_succ, b_ok, b_ex, b_no, ofO_some, asList_l, items_l, items_t, add_i, sub_i, neg_i, int_i, abs_i, lt_i, le_i, gt_i, ge_i, min2_i, max2_i, gcd_i, ix_l, ix_t, atL_i, len_l, len_t, truth_b, isN_n, isB_b, isntN_n, isntB_b, isntN_i, isntN_t, isntN_l, isN_i, isN_t, isN_l, frzE_0, frzE_0d, frzE_0u, frzE_s, rngK_i, forK_nx, forK_ct, forK_bk, forK_rt, forK_ro, whlK_t, whlK_f, gN_e, gT_e, gsN_e, gsC_e, Option.bind_some, mul_i, fdiv_i, mod_i, eq_i, ne_i, ne_s, eq_s, decide_true, decide_false, if_true, if_false, Bool.false_eq_true, Bool.not_true, Bool.not_false, reduceIte, Nat.zero_le, isiM_e, atM_e, hJ, hA1, String.reduceBEq, List.cons_append, List.nil_append, beq_self_eq_true]
theorem nm__law_name_WrongSize (a dx : Addr) (n : Int) : c__law_name "WrongSize" a dx (enterN N__law_name.length a dx n) = .ok (.rt (.tuple [.str (PySem.Str.ofString "size"), .int n])) := by
  have hA1 : addD (.list [.tuple [.str (PySem.Str.ofString "bag"), .bool false], .tuple [.str (PySem.Str.ofString "thing"), .bool false], .tuple [.str (PySem.Str.ofString "range"), .bool false], .tuple [.str (PySem.Str.ofString "many"), .bool false]]) (.list [.tuple [.str (PySem.Str.ofString "size"), .bool true]]) = some (.list [.tuple [.str (PySem.Str.ofString "bag"), .bool false], .tuple [.str (PySem.Str.ofString "thing"), .bool false], .tuple [.str (PySem.Str.ofString "range"), .bool false], .tuple [.str (PySem.Str.ofString "many"), .bool false], .tuple [.str (PySem.Str.ofString "size"), .bool true]]) := by kernel_rfl
  have hJ : l__law_name_1 [.er a dx n, .da (.list [.tuple [.str (PySem.Str.ofString "bag"), .bool false], .tuple [.str (PySem.Str.ofString "thing"), .bool false], .tuple [.str (PySem.Str.ofString "range"), .bool false], .tuple [.str (PySem.Str.ofString "many"), .bool false], .tuple [.str (PySem.Str.ofString "size"), .bool true]]), .un, .un] = .ok (.str (PySem.Str.ofString "size")) := by kernel_rfl
  show c__law_name "WrongSize" a dx [.er a dx n, .un, .un, .un] = _
  unfold c__law_name
  simp only [↓setS_e, ↓setC_e, ↓parS_e, ↓ifS_e, ↓ifV_e, ↓retS_e, ↓retF_e, ↓retC_e, ↓retN_e, ↓nxS_e, ↓dropS_e, ↓asgS_e, ↓bin2_e, ↓un1_e, ↓cst_e, ↓tL_e, ↓asL_e, ↓itD_e, ↓bD_e, ↓lenL_e, ↓andB_e, ↓orB_e, ↓notB_e, ↓chain_e, ↓orV_e, ↓andV_e, ↓notV_e, ↓argN_e, ↓argC_e, ↓lstF_e, ↓tupD_e, ↓appM_e, ↓frzS_e, ↓yesB_e, ↓revF_e, ↓rng1_e, ↓seqS_e, ↓appS_e, ↓extS_e, ↓stoS_e, ↓forS_e, setK_e, setCK_e, parK_e, parL_e, ifK_t, ifK_f, retK_e, roK_e, dropK_e, asgK_e, nxK_e, b2K_e, b2L_e, u1K_e, liK_e, boK_e, lnK_e, anK_t, anK_f, orK_t, orK_f, noK_e, chK_e, chL_e, chN_t, chN_f, ovK_e, ovL_t, ovL_f, avK_e, avL_t, avL_f, nvK_e, nvL_e, acK_e, acL_e, rvK_e, ls_0, ls_1, ls_2, ls_3, ls_4, ls_5, ls_6, ls_7, ls_8, tu_0, tu_1, tu_2, tu_3, tu_4, tu_5, tu_6, tu_7, tu_8, seqK_nx, seqK_ct, seqK_bk, seqK_rt, seqK_ro, appK_e, appL_i, extK_e, extL_i, stoM_e, stoL_e, stoK_i, forX_e, forG_e, getd_0, getd_s, gets_0, gets_s, getc_0, getc_s, scM_0, scM_s, nth_0, nth_s, setE_0, setE_s, List.set_cons_zero, List.set_cons_succ, b_ok, b_ex, b_no, ofO_some, asList_l, items_l, items_t, add_i, sub_i, neg_i, int_i, abs_i, lt_i, le_i, gt_i, ge_i, min2_i, max2_i, gcd_i, ix_l, ix_t, atL_i, len_l, len_t, truth_b, isN_n, isB_b, isntN_n, isntB_b, isntN_i, isntN_t, isntN_l, isN_i, isN_t, isN_l, frzE_0, frzE_0d, frzE_0u, frzE_s, rngK_i, forK_nx, forK_ct, forK_bk, forK_rt, forK_ro, whlK_t, whlK_f, gN_e, gT_e, gsN_e, gsC_e, Option.bind_some, mul_i, fdiv_i, mod_i, eq_i, ne_i, ne_s, eq_s, decide_true, decide_false, if_true, if_false, Bool.false_eq_true, Bool.not_true, Bool.not_false, reduceIte, Nat.zero_le, isiM_e, atM_e, hJ, hA1, String.reduceBEq, List.cons_append, List.nil_append, beq_self_eq_true]
theorem nm__law_name_BadThing (a dx : Addr) (n : Int) : c__law_name "BadThing" a dx (enterN N__law_name.length a dx n) = .ok (.rt (.tuple [.str (PySem.Str.ofString "thing"), .int n])) := by
  have hA1 : addD (.list [.tuple [.str (PySem.Str.ofString "bag"), .bool false], .tuple [.str (PySem.Str.ofString "thing"), .bool true], .tuple [.str (PySem.Str.ofString "range"), .bool false], .tuple [.str (PySem.Str.ofString "many"), .bool false]]) (.list [.tuple [.str (PySem.Str.ofString "size"), .bool false]]) = some (.list [.tuple [.str (PySem.Str.ofString "bag"), .bool false], .tuple [.str (PySem.Str.ofString "thing"), .bool true], .tuple [.str (PySem.Str.ofString "range"), .bool false], .tuple [.str (PySem.Str.ofString "many"), .bool false], .tuple [.str (PySem.Str.ofString "size"), .bool false]]) := by kernel_rfl
  have hJ : l__law_name_1 [.er a dx n, .da (.list [.tuple [.str (PySem.Str.ofString "bag"), .bool false], .tuple [.str (PySem.Str.ofString "thing"), .bool true], .tuple [.str (PySem.Str.ofString "range"), .bool false], .tuple [.str (PySem.Str.ofString "many"), .bool false], .tuple [.str (PySem.Str.ofString "size"), .bool false]]), .un, .un] = .ok (.str (PySem.Str.ofString "thing")) := by kernel_rfl
  show c__law_name "BadThing" a dx [.er a dx n, .un, .un, .un] = _
  unfold c__law_name
  simp only [↓setS_e, ↓setC_e, ↓parS_e, ↓ifS_e, ↓ifV_e, ↓retS_e, ↓retF_e, ↓retC_e, ↓retN_e, ↓nxS_e, ↓dropS_e, ↓asgS_e, ↓bin2_e, ↓un1_e, ↓cst_e, ↓tL_e, ↓asL_e, ↓itD_e, ↓bD_e, ↓lenL_e, ↓andB_e, ↓orB_e, ↓notB_e, ↓chain_e, ↓orV_e, ↓andV_e, ↓notV_e, ↓argN_e, ↓argC_e, ↓lstF_e, ↓tupD_e, ↓appM_e, ↓frzS_e, ↓yesB_e, ↓revF_e, ↓rng1_e, ↓seqS_e, ↓appS_e, ↓extS_e, ↓stoS_e, ↓forS_e, setK_e, setCK_e, parK_e, parL_e, ifK_t, ifK_f, retK_e, roK_e, dropK_e, asgK_e, nxK_e, b2K_e, b2L_e, u1K_e, liK_e, boK_e, lnK_e, anK_t, anK_f, orK_t, orK_f, noK_e, chK_e, chL_e, chN_t, chN_f, ovK_e, ovL_t, ovL_f, avK_e, avL_t, avL_f, nvK_e, nvL_e, acK_e, acL_e, rvK_e, ls_0, ls_1, ls_2, ls_3, ls_4, ls_5, ls_6, ls_7, ls_8, tu_0, tu_1, tu_2, tu_3, tu_4, tu_5, tu_6, tu_7, tu_8, seqK_nx, seqK_ct, seqK_bk, seqK_rt, seqK_ro, appK_e, appL_i, extK_e, extL_i, stoM_e, stoL_e, stoK_i, forX_e, forG_e, getd_0, getd_s, gets_0, gets_s, getc_0, getc_s, scM_0, scM_s, nth_0, nth_s, setE_0, setE_s, List.set_cons_zero, List.set_cons_succ, b_ok, b_ex, b_no, ofO_some, asList_l, items_l, items_t, add_i, sub_i, neg_i, int_i, abs_i, lt_i, le_i, gt_i, ge_i, min2_i, max2_i, gcd_i, ix_l, ix_t, atL_i, len_l, len_t, truth_b, isN_n, isB_b, isntN_n, isntB_b, isntN_i, isntN_t, isntN_l, isN_i, isN_t, isN_l, frzE_0, frzE_0d, frzE_0u, frzE_s, rngK_i, forK_nx, forK_ct, forK_bk, forK_rt, forK_ro, whlK_t, whlK_f, gN_e, gT_e, gsN_e, gsC_e, Option.bind_some, mul_i, fdiv_i, mod_i, eq_i, ne_i, ne_s, eq_s, decide_true, decide_false, if_true, if_false, Bool.false_eq_true, Bool.not_true, Bool.not_false, reduceIte, Nat.zero_le, isiM_e, atM_e, hJ, hA1, String.reduceBEq, List.cons_append, List.nil_append, beq_self_eq_true]
theorem nm__law_name_BadBag (a dx : Addr) (n : Int) : c__law_name "BadBag" a dx (enterN N__law_name.length a dx n) = .ok (.rt (.tuple [.str (PySem.Str.ofString "bag"), .int n])) := by
  have hA1 : addD (.list [.tuple [.str (PySem.Str.ofString "bag"), .bool true], .tuple [.str (PySem.Str.ofString "thing"), .bool false], .tuple [.str (PySem.Str.ofString "range"), .bool false], .tuple [.str (PySem.Str.ofString "many"), .bool false]]) (.list [.tuple [.str (PySem.Str.ofString "size"), .bool false]]) = some (.list [.tuple [.str (PySem.Str.ofString "bag"), .bool true], .tuple [.str (PySem.Str.ofString "thing"), .bool false], .tuple [.str (PySem.Str.ofString "range"), .bool false], .tuple [.str (PySem.Str.ofString "many"), .bool false], .tuple [.str (PySem.Str.ofString "size"), .bool false]]) := by kernel_rfl
  have hJ : l__law_name_1 [.er a dx n, .da (.list [.tuple [.str (PySem.Str.ofString "bag"), .bool true], .tuple [.str (PySem.Str.ofString "thing"), .bool false], .tuple [.str (PySem.Str.ofString "range"), .bool false], .tuple [.str (PySem.Str.ofString "many"), .bool false], .tuple [.str (PySem.Str.ofString "size"), .bool false]]), .un, .un] = .ok (.str (PySem.Str.ofString "bag")) := by kernel_rfl
  show c__law_name "BadBag" a dx [.er a dx n, .un, .un, .un] = _
  unfold c__law_name
  simp only [↓setS_e, ↓setC_e, ↓parS_e, ↓ifS_e, ↓ifV_e, ↓retS_e, ↓retF_e, ↓retC_e, ↓retN_e, ↓nxS_e, ↓dropS_e, ↓asgS_e, ↓bin2_e, ↓un1_e, ↓cst_e, ↓tL_e, ↓asL_e, ↓itD_e, ↓bD_e, ↓lenL_e, ↓andB_e, ↓orB_e, ↓notB_e, ↓chain_e, ↓orV_e, ↓andV_e, ↓notV_e, ↓argN_e, ↓argC_e, ↓lstF_e, ↓tupD_e, ↓appM_e, ↓frzS_e, ↓yesB_e, ↓revF_e, ↓rng1_e, ↓seqS_e, ↓appS_e, ↓extS_e, ↓stoS_e, ↓forS_e, setK_e, setCK_e, parK_e, parL_e, ifK_t, ifK_f, retK_e, roK_e, dropK_e, asgK_e, nxK_e, b2K_e, b2L_e, u1K_e, liK_e, boK_e, lnK_e, anK_t, anK_f, orK_t, orK_f, noK_e, chK_e, chL_e, chN_t, chN_f, ovK_e, ovL_t, ovL_f, avK_e, avL_t, avL_f, nvK_e, nvL_e, acK_e, acL_e, rvK_e, ls_0, ls_1, ls_2, ls_3, ls_4, ls_5, ls_6, ls_7, ls_8, tu_0, tu_1, tu_2, tu_3, tu_4, tu_5, tu_6, tu_7, tu_8, seqK_nx, seqK_ct, seqK_bk, seqK_rt, seqK_ro, appK_e, appL_i, extK_e, extL_i, stoM_e, stoL_e, stoK_i, forX_e, forG_e, getd_0, getd_s, gets_0, gets_s, getc_0, getc_s, scM_0, scM_s, nth_0, nth_s, setE_0, setE_s, List.set_cons_zero, List.set_cons_succ, b_ok, b_ex, b_no, ofO_some, asList_l, items_l, items_t, add_i, sub_i, neg_i, int_i, abs_i, lt_i, le_i, gt_i, ge_i, min2_i, max2_i, gcd_i, ix_l, ix_t, atL_i, len_l, len_t, truth_b, isN_n, isB_b, isntN_n, isntB_b, isntN_i, isntN_t, isntN_l, isN_i, isN_t, isN_l, frzE_0, frzE_0d, frzE_0u, frzE_s, rngK_i, forK_nx, forK_ct, forK_bk, forK_rt, forK_ro, whlK_t, whlK_f, gN_e, gT_e, gsN_e, gsC_e, Option.bind_some, mul_i, fdiv_i, mod_i, eq_i, ne_i, ne_s, eq_s, decide_true, decide_false, if_true, if_false, Bool.false_eq_true, Bool.not_true, Bool.not_false, reduceIte, Nat.zero_le, isiM_e, atM_e, hJ, hA1, String.reduceBEq, List.cons_append, List.nil_append, beq_self_eq_true]
theorem nm__law_name (c : String) (n : Int) (a dx : Addr) : f__law_name c n = (b__law_name c a dx (enterN N__law_name.length a dx n)).bind fun fl => match fl with
    | .rt d => .ok d
    | _ => .no := by
  unfold f__law_name b__law_name
  by_cases h_OutOfRange : c = "OutOfRange"
  · subst h_OutOfRange
    rw [if_pos (show Lv.contains "OutOfRange" = true by decide), nm__law_name_OutOfRange]
    simp only [String.reduceEq, if_true, if_false]
    rfl
  rw [if_neg h_OutOfRange]
  by_cases h_TooMany : c = "TooMany"
  · subst h_TooMany
    rw [if_pos (show Lv.contains "TooMany" = true by decide), nm__law_name_TooMany]
    simp only [String.reduceEq, if_true, if_false]
    rfl
  rw [if_neg h_TooMany]
  by_cases h_WrongSize : c = "WrongSize"
  · subst h_WrongSize
    rw [if_pos (show Lv.contains "WrongSize" = true by decide), nm__law_name_WrongSize]
    simp only [String.reduceEq, if_true, if_false]
    rfl
  rw [if_neg h_WrongSize]
  by_cases h_BadThing : c = "BadThing"
  · subst h_BadThing
    rw [if_pos (show Lv.contains "BadThing" = true by decide), nm__law_name_BadThing]
    simp only [String.reduceEq, if_true, if_false]
    rfl
  rw [if_neg h_BadThing]
  by_cases h_BadBag : c = "BadBag"
  · subst h_BadBag
    rw [if_pos (show Lv.contains "BadBag" = true by decide), nm__law_name_BadBag]
    simp only [String.reduceEq, if_true, if_false]
    rfl
  rw [if_neg h_BadBag]
  rw [if_neg]
  · rfl
  · intro hc
    simp only [Lv, List.contains_cons, List.contains_nil, Bool.or_false, Bool.or_eq_true, beq_iff_eq] at hc
    simp_all only [or_self]
abbrev s_check_things : Stmt := topS 11
abbrev N_check_things : List Str := ["things", "k", "weight", "bears"]
theorem sc_check_things : FnScope N_check_things ["things"] (defScope s_check_things) := ⟨rfl, rfl, rfl, by decide +kernel, rfl, by decide +kernel, by decide +kernel⟩
noncomputable def l_check_things_1 : En → R Fl :=
  (ifS (orB (notB (chain leI leI (cst (.int 1)) (getd 2) (cst (.int (1000))))) (notB (chain leI leI (cst (.int 0)) (getd 3) (cst (.int (10000))))))
  (rzS "BadThing" (getd 1))
  nxS)
noncomputable def b_check_things : En → R Fl :=
  (seqS (ifS (notB (chain leI leI (cst (.int 1)) (un1 lenD (getd 0)) (cst (.int (10)))))
  (rzS "WrongSize" (un1 lenD (getd 0)))
  nxS)
  (forS (gT (gsC (gN 1) (gsC (gT (gsC (gN 2) (gsC (gN 3) gsN))) gsN))) (enS (asL (getd 0)))
  l_check_things_1))
noncomputable def f_check_things : List D → R D := fnM 4 b_check_things
abbrev s_sets_of : Stmt := topS 23
abbrev N_sets_of : List Str := ["many", "found", "k", "some"]
theorem sc_sets_of : FnScope N_sets_of ["many"] (defScope s_sets_of) := ⟨rfl, rfl, rfl, by decide +kernel, rfl, by decide +kernel, by decide +kernel⟩
noncomputable def l_sets_of_1 : En → R Fl :=
  (setS 1 (bin2 addD (getd 1) (tL (lcF (gN 3) (itD (getd 1)) yesB (bin2 addD (getd 3) (tL (lstF (argC (getd 2) argN)))) [3]))))
noncomputable def b_sets_of : En → R Fl :=
  (seqS (setS 1 (tL (lstF (argC (tL (lstF argN)) argN))))
  (seqS (forS (gN 2) (rng1 (getd 0))
  l_sets_of_1)
  (retS (getd 1))))
noncomputable def f_sets_of : List D → R D := fnM 4 b_sets_of
abbrev s_load_of : Stmt := topS 13
abbrev N_load_of : List Str := ["things", "bag", "found", "above", "k"]
theorem sc_load_of : FnScope N_load_of ["things", "bag"] (defScope s_load_of) := ⟨rfl, rfl, rfl, by decide +kernel, rfl, by decide +kernel, by decide +kernel⟩
noncomputable def l_load_of_1 : En → R Fl :=
  (seqS (appS 2 (getd 3))
  (setS 3 (bin2 addD (getd 3) (bin2 ixD (bin2 ixD (getd 0) (getd 4)) (cst (.int 0))))))
noncomputable def b_load_of : En → R Fl :=
  (seqS (setC 2 (lstF argN))
  (seqS (setS 3 (cst (.int 0)))
  (seqS (forS (gN 4) (itD (tL (revF (asL (getd 1)))))
  l_load_of_1)
  (retS (tL (revF (getc 2)))))))
noncomputable def f_load_of : List D → R D := fnM 5 b_load_of
abbrev s_holds_of : Stmt := topS 14
abbrev N_holds_of : List Str := ["things", "bag", "k", "there"]
theorem sc_holds_of : FnScope N_holds_of ["things", "bag"] (defScope s_holds_of) := ⟨rfl, rfl, rfl, by decide +kernel, rfl, by decide +kernel, by decide +kernel⟩
noncomputable def b_holds_of : En → R Fl :=
  (retS (un1 allL (lcF (gT (gsC (gN 2) (gsC (gN 3) gsN))) (ziS (asL (getd 1)) (asL (appM f_load_of (argC (getd 0) (argC (getd 1) argN))))) yesB (bD (bin2 leI (getd 3) (bin2 ixD (bin2 ixD (getd 0) (getd 2)) (cst (.int 1))))) [2, 3])))
noncomputable def f_holds_of : List D → R D := fnM 4 b_holds_of
abbrev s_order_of : Stmt := topS 17
abbrev N_order_of : List Str := ["things", "some", "k", "_"]
theorem sc_order_of : FnScope N_order_of ["things", "some"] (defScope s_order_of) := ⟨rfl, rfl, rfl, by decide +kernel, rfl, by decide +kernel, by decide +kernel⟩
noncomputable def b_order_of : En → R Fl :=
  (retF (lcF (gT (gsC (gN 3) (gsC (gN 2) gsN))) (un1 sortL (lcF (gN 2) (itD (getd 1)) yesB (tupD (argC (bin2 subD (un1 negD (bin2 ixD (bin2 ixD (getd 0) (getd 2)) (cst (.int 0)))) (bin2 ixD (bin2 ixD (getd 0) (getd 2)) (cst (.int 1)))) (argC (getd 2) argN))) [2])) yesB (getd 2) [3, 2]))
noncomputable def f_order_of : List D → R (List D) := fnF 4 b_order_of
abbrev s_can_hold_of : Stmt := topS 20
abbrev N_can_hold_of : List Str := ["things", "some"]
theorem sc_can_hold_of : FnScope N_can_hold_of ["things", "some"] (defScope s_can_hold_of) := ⟨rfl, rfl, rfl, by decide +kernel, rfl, by decide +kernel, by decide +kernel⟩
noncomputable def b_can_hold_of : En → R Fl :=
  (retS (appM f_holds_of (argC (getd 0) (argC (tL (appM f_order_of (argC (getd 0) (argC (getd 1) argN)))) argN))))
noncomputable def f_can_hold_of : List D → R D := fnM 2 b_can_hold_of
abbrev s_weight_of : Stmt := topS 22
abbrev N_weight_of : List Str := ["things", "some", "k"]
theorem sc_weight_of : FnScope N_weight_of ["things", "some"] (defScope s_weight_of) := ⟨rfl, rfl, rfl, by decide +kernel, rfl, by decide +kernel, by decide +kernel⟩
noncomputable def b_weight_of : En → R Fl :=
  (retS (un1 sumL (lcF (gN 2) (itD (getd 1)) yesB (bin2 ixD (bin2 ixD (getd 0) (getd 2)) (cst (.int 0))) [2])))
noncomputable def f_weight_of : List D → R D := fnM 3 b_weight_of
abbrev s_heaviest : Stmt := topS 24
abbrev N_heaviest : List Str := ["things", "rows", "some"]
theorem sc_heaviest : FnScope N_heaviest ["things"] (defScope s_heaviest) := ⟨rfl, rfl, rfl, by decide +kernel, rfl, by decide +kernel, by decide +kernel⟩
noncomputable def b_heaviest : En → R Fl :=
  (seqS (dropS (appM f_check_things (argC (getd 0) argN)))
  (seqS (setS 1 (tL (lcF (gN 2) (itD (appM f_sets_of (argC (un1 lenD (getd 0)) argN))) (un1 truth (appM f_can_hold_of (argC (getd 0) (argC (getd 2) argN)))) (tupD (argC (un1 negD (appM f_weight_of (argC (getd 0) (argC (getd 2) argN)))) (argC (getd 2) argN))) [2])))
  (retS (bin2 ixD (un1 minL (asL (getd 1))) (cst (.int 1))))))
noncomputable def f_heaviest : List D → R D := fnM 3 b_heaviest
abbrev s_is_bag : Stmt := topS 12
abbrev N_is_bag : List Str := ["things", "bag", "k"]
theorem sc_is_bag : FnScope N_is_bag ["things", "bag"] (defScope s_is_bag) := ⟨rfl, rfl, rfl, by decide +kernel, rfl, by decide +kernel, by decide +kernel⟩
noncomputable def b_is_bag : En → R Fl :=
  (retS (andV (un1 allL (lcF (gN 2) (itD (getd 1)) yesB (bD (chain leI ltI (cst (.int 0)) (getd 2) (un1 lenD (getd 0)))) [2])) (bD (bin2 eqD (un1 lsetL (asL (getd 1))) (un1 lenD (getd 1))))))
noncomputable def f_is_bag : List D → R D := fnM 3 b_is_bag
abbrev s_holds : Stmt := topS 15
abbrev N_holds : List Str := ["things", "bag"]
theorem sc_holds : FnScope N_holds ["things", "bag"] (defScope s_holds) := ⟨rfl, rfl, rfl, by decide +kernel, rfl, by decide +kernel, by decide +kernel⟩
noncomputable def b_holds : En → R Fl :=
  (seqS (dropS (appM f_check_things (argC (getd 0) argN)))
  (retS (andV (appM f_is_bag (argC (getd 0) (argC (getd 1) argN))) (appM f_holds_of (argC (getd 0) (argC (getd 1) argN))))))
noncomputable def f_holds : List D → R D := fnM 2 b_holds
abbrev s_load : Stmt := topS 16
abbrev N_load : List Str := ["things", "bag"]
theorem sc_load : FnScope N_load ["things", "bag"] (defScope s_load) := ⟨rfl, rfl, rfl, by decide +kernel, rfl, by decide +kernel, by decide +kernel⟩
noncomputable def b_load : En → R Fl :=
  (seqS (dropS (appM f_check_things (argC (getd 0) argN)))
  (seqS (ifS (notB (un1 truth (appM f_is_bag (argC (getd 0) (argC (getd 1) argN)))))
  (rzS "BadBag" (cst (.int 0)))
  nxS)
  (retS (appM f_load_of (argC (getd 0) (argC (getd 1) argN))))))
noncomputable def f_load : List D → R D := fnM 2 b_load
abbrev s_check_some : Stmt := topS 18
abbrev N_check_some : List Str := ["things", "some"]
theorem sc_check_some : FnScope N_check_some ["things", "some"] (defScope s_check_some) := ⟨rfl, rfl, rfl, by decide +kernel, rfl, by decide +kernel, by decide +kernel⟩
noncomputable def b_check_some : En → R Fl :=
  (seqS (dropS (appM f_check_things (argC (getd 0) argN)))
  (ifS (orB (notB (un1 truth (appM f_is_bag (argC (getd 0) (argC (getd 1) argN))))) (bin2 neD (tL (un1 sortL (asL (getd 1)))) (tL (itD (getd 1)))))
  (rzS "BadBag" (cst (.int 0)))
  nxS))
noncomputable def f_check_some : List D → R D := fnM 2 b_check_some
abbrev s_order : Stmt := topS 19
abbrev N_order : List Str := ["things", "some"]
theorem sc_order : FnScope N_order ["things", "some"] (defScope s_order) := ⟨rfl, rfl, rfl, by decide +kernel, rfl, by decide +kernel, by decide +kernel⟩
noncomputable def b_order : En → R Fl :=
  (seqS (dropS (appM f_check_some (argC (getd 0) (argC (getd 1) argN))))
  (retF (appM f_order_of (argC (getd 0) (argC (getd 1) argN)))))
noncomputable def f_order : List D → R (List D) := fnF 2 b_order
abbrev s_can_hold : Stmt := topS 21
abbrev N_can_hold : List Str := ["things", "some"]
theorem sc_can_hold : FnScope N_can_hold ["things", "some"] (defScope s_can_hold) := ⟨rfl, rfl, rfl, by decide +kernel, rfl, by decide +kernel, by decide +kernel⟩
noncomputable def b_can_hold : En → R Fl :=
  (seqS (dropS (appM f_check_some (argC (getd 0) (argC (getd 1) argN))))
  (retS (appM f_can_hold_of (argC (getd 0) (argC (getd 1) argN)))))
noncomputable def f_can_hold : List D → R D := fnM 2 b_can_hold
abbrev s_check_bound : Stmt := topS 28
abbrev N_check_bound : List Str := ["things", "bound"]
theorem sc_check_bound : FnScope N_check_bound ["things", "bound"] (defScope s_check_bound) := ⟨rfl, rfl, rfl, by decide +kernel, rfl, by decide +kernel, by decide +kernel⟩
noncomputable def b_check_bound : En → R Fl :=
  (seqS (dropS (appM f_check_things (argC (getd 0) argN)))
  (ifS (notB (chain leI leI (cst (.int 1)) (getd 1) (cst (.int (10000)))))
  (rzS "OutOfRange" (getd 1))
  nxS))
noncomputable def f_check_bound : List D → R D := fnM 2 b_check_bound
abbrev s_is_packing : Stmt := topS 29
abbrev N_is_packing : List Str := ["things", "bound", "told", "bag", "k"]
theorem sc_is_packing : FnScope N_is_packing ["things", "bound", "told"] (defScope s_is_packing) := ⟨rfl, rfl, rfl, by decide +kernel, rfl, by decide +kernel, by decide +kernel⟩
noncomputable def l_is_packing_1 : En → R Fl :=
  (ifS (orB (bin2 eqD (un1 lenD (getd 3)) (cst (.int 0))) (orB (notB (un1 truth (appM f_is_bag (argC (getd 0) (argC (getd 3) argN))))) (orB (notB (un1 truth (appM f_holds_of (argC (getd 0) (argC (getd 3) argN))))) (bin2 (cmpD gtF) (appM f_weight_of (argC (getd 0) (argC (getd 3) argN))) (getd 1)))))
  (retS (cst (.bool false)))
  nxS)
noncomputable def b_is_packing : En → R Fl :=
  (seqS (dropS (appM f_check_bound (argC (getd 0) (argC (getd 1) argN))))
  (seqS (forS (gN 3) (itD (getd 2))
  l_is_packing_1)
  (retS (bD (bin2 eqD (tL (un1 sortL (lcF2 (gN 3) (itD (getd 2)) yesB (gN 4) (itD (getd 3)) yesB (getd 4) [3, 4] [4]))) (tL (un1 (lrgK (.int 0)) (un1 lenD (getd 0)))))))))
noncomputable def f_is_packing : List D → R D := fnM 5 b_is_packing
abbrev s_check_few : Stmt := topS 33
abbrev N_check_few : List Str := ["things", "bound"]
theorem sc_check_few : FnScope N_check_few ["things", "bound"] (defScope s_check_few) := ⟨rfl, rfl, rfl, by decide +kernel, rfl, by decide +kernel, by decide +kernel⟩
noncomputable def b_check_few : En → R Fl :=
  (seqS (dropS (appM f_check_bound (argC (getd 0) (argC (getd 1) argN))))
  (ifS (bin2 gtI (un1 lenD (getd 0)) (cst (.int (8))))
  (rzS "TooMany" (un1 lenD (getd 0)))
  nxS))
noncomputable def f_check_few : List D → R D := fnM 2 b_check_few
abbrev s_fits : Stmt := topS 30
abbrev N_fits : List Str := ["things", "bound", "some"]
theorem sc_fits : FnScope N_fits ["things", "bound", "some"] (defScope s_fits) := ⟨rfl, rfl, rfl, by decide +kernel, rfl, by decide +kernel, by decide +kernel⟩
noncomputable def b_fits : En → R Fl :=
  (retS (andV (bD (bin2 leI (appM f_weight_of (argC (getd 0) (argC (getd 2) argN))) (getd 1))) (appM f_can_hold_of (argC (getd 0) (argC (getd 2) argN)))))
noncomputable def f_fits : List D → R D := fnM 3 b_fits
abbrev s_parted : Stmt := topS 31
abbrev N_parted : List Str := ["things", "bound", "first", "bags", "most", "found", "k", "bag", "more"]
theorem sc_parted : FnScope N_parted ["things", "bound", "first", "bags", "most"] (defScope s_parted) := ⟨rfl, rfl, rfl, by decide +kernel, rfl, by decide +kernel, by decide +kernel⟩
noncomputable def l_parted_1 (rec : List D → R (List D)) : En → R Fl :=
  (seqS (setS 8 (tL (lstF (argS (itD (getd 7)) (argC (getd 2) argN)))))
  (ifS (un1 truth (appM f_fits (argC (getd 0) (argC (getd 1) (argC (getd 8) argN)))))
  (extS 5 (appM rec (argC (getd 0) (argC (getd 1) (argC (bin2 addD (getd 2) (cst (.int 1))) (argC (bin2 addD (bin2 addD (tL (cutHi (asL (getd 3)) (getd 6))) (tL (lstF (argC (getd 8) argN)))) (tL (cutLo (asL (getd 3)) (bin2 addD (getd 6) (cst (.int 1)))))) (argC (getd 4) argN)))))))
  nxS))
noncomputable def b_parted (rec : List D → R (List D)) : En → R Fl :=
  (seqS (ifS (bin2 eqD (getd 2) (un1 lenD (getd 0)))
  (retF (lstF (argC (getd 3) argN)))
  nxS)
  (seqS (setC 5 (lstF argN))
  (seqS (forS (gT (gsC (gN 6) (gsC (gN 7) gsN))) (enS (asL (getd 3)))
  (l_parted_1 rec))
  (seqS (ifS (andB (bin2 ltI (un1 lenD (getd 3)) (getd 4)) (un1 truth (appM f_fits (argC (getd 0) (argC (getd 1) (argC (tL (lstF (argC (getd 2) argN))) argN))))))
  (extS 5 (appM rec (argC (getd 0) (argC (getd 1) (argC (bin2 addD (getd 2) (cst (.int 1))) (argC (tL (lstF (argS (itD (getd 3)) (argC (tL (lstF (argC (getd 2) argN))) argN)))) (argC (getd 4) argN)))))))
  nxS)
  (retC 5)))))
noncomputable def g_parted : Nat → List D → R (List D) := fun n => Nat.rec (fun _ => .no) (fun _ ih => fnF 9 (b_parted ih)) n
noncomputable def f_parted : List D → R (List D) := g_parted 9
abbrev s_best_of : Stmt := topS 32
abbrev N_best_of : List Str := ["things", "bound", "most", "rows", "row", "bag"]
theorem sc_best_of : FnScope N_best_of ["things", "bound"] (defScope s_best_of) := ⟨rfl, rfl, rfl, by decide +kernel, rfl, by decide +kernel, by decide +kernel⟩
noncomputable def l_best_of_1 : En → R Fl :=
  (seqS (setS 3 (tL (appM f_parted (argC (getd 0) (argC (getd 1) (argC (cst (.int 0)) (argC (tL (lstF argN)) (argC (getd 2) argN))))))))
  (ifS (bin2 gtI (un1 lenD (getd 3)) (cst (.int 0)))
  (retS (un1 minL (lcF (gN 4) (itD (getd 3)) yesB (tL (lcF (gN 5) (itD (getd 4)) yesB (tL (appM f_order_of (argC (getd 0) (argC (getd 5) argN)))) [5])) [4])))
  nxS))
noncomputable def b_best_of : En → R Fl :=
  (seqS (forS (gN 2) (rng2 (cst (.int 1)) (bin2 addD (un1 lenD (getd 0)) (cst (.int 1))))
  l_best_of_1)
  (retS (cst .none)))
noncomputable def f_best_of : List D → R D := fnM 6 b_best_of
abbrev s_best : Stmt := topS 34
abbrev N_best : List Str := ["things", "bound"]
theorem sc_best : FnScope N_best ["things", "bound"] (defScope s_best) := ⟨rfl, rfl, rfl, by decide +kernel, rfl, by decide +kernel, by decide +kernel⟩
noncomputable def b_best : En → R Fl :=
  (seqS (dropS (appM f_check_few (argC (getd 0) (argC (getd 1) argN))))
  (retS (appM f_best_of (argC (getd 0) (argC (getd 1) argN)))))
noncomputable def f_best : List D → R D := fnM 2 b_best
abbrev s_fewest : Stmt := topS 35
abbrev N_fewest : List Str := ["things", "bound", "told"]
theorem sc_fewest : FnScope N_fewest ["things", "bound"] (defScope s_fewest) := ⟨rfl, rfl, rfl, by decide +kernel, rfl, by decide +kernel, by decide +kernel⟩
noncomputable def b_fewest : En → R Fl :=
  (seqS (dropS (appM f_check_few (argC (getd 0) (argC (getd 1) argN))))
  (seqS (setS 2 (appM f_best_of (argC (getd 0) (argC (getd 1) argN))))
  (retS (ifV (bin2 isD (getd 2) (cst .none)) (cst .none) (un1 lenD (getd 2))))))
noncomputable def f_fewest : List D → R D := fnM 3 b_fewest
abbrev s_steady : Stmt := topS 36
abbrev N_steady : List Str := ["things", "bound", "found", "_", "k", "good", "weight", "t", "bag"]
theorem sc_steady : FnScope N_steady ["things", "bound"] (defScope s_steady) := ⟨rfl, rfl, rfl, by decide +kernel, rfl, by decide +kernel, by decide +kernel⟩
noncomputable def l_steady_1 : En → R Fl :=
  (seqS (setS 5 (tL (thcF 4 2 (lcF (gT (gsC (gN 7) (gsC (gN 8) gsN))) (enS (asL (getd 2))) (un1 truth (appM f_fits (argC (getd 0) (argC (getd 1) (argC (tL (lstF (argS (itD (getd 8)) (argC (getd 4) argN)))) argN))))) (getd 7) [7, 8]))))
  (ifS (bin2 gtI (un1 lenD (getd 5)) (cst (.int 0)))
  (appI 2 (bin2 ixD (getd 5) (cst (.int 0))) (getd 4))
  (ifS (bin2 leI (bin2 ixD (bin2 ixD (getd 0) (getd 4)) (cst (.int 0))) (getd 1))
  (appQ 2 (lstF (argC (getd 4) argN)))
  (retS (cst .none)))))
noncomputable def b_steady : En → R Fl :=
  (seqS (dropS (appM f_check_bound (argC (getd 0) (argC (getd 1) argN))))
  (seqS (setQ 2 (lstF argN))
  (seqS (forS (gT (gsC (gN 3) (gsC (gN 4) gsN))) (itD (tL (un1 sortL (lcF (gT (gsC (gN 4) (gsC (gT (gsC (gN 6) (gsC (gN 3) gsN))) gsN))) (enS (asL (getd 0))) yesB (tupD (argC (un1 negD (getd 6)) (argC (getd 4) argN))) [4, 6, 3]))))
  l_steady_1)
  (frzCS 2 (retS (tL (lcF (gN 8) (itD (getd 2)) yesB (tL (appM f_order_of (argC (getd 0) (argC (getd 8) argN)))) [8])))))))
noncomputable def f_steady : List D → R D := fnM 9 b_steady
abbrev s_floor : Stmt := topS 37
abbrev N_floor : List Str := ["things", "bound"]
theorem sc_floor : FnScope N_floor ["things", "bound"] (defScope s_floor) := ⟨rfl, rfl, rfl, by decide +kernel, rfl, by decide +kernel, by decide +kernel⟩
noncomputable def b_floor : En → R Fl :=
  (seqS (dropS (appM f_check_bound (argC (getd 0) (argC (getd 1) argN))))
  (retS (un1 negD (bin2 fdivD (un1 negD (appM f_weight_of (argC (getd 0) (argC (tL (un1 (lrgK (.int 0)) (un1 lenD (getd 0)))) argN)))) (getd 1)))))
noncomputable def f_floor : List D → R D := fnM 2 b_floor
abbrev s__law_of : Stmt := topS 42
abbrev N__law_of : List Str := ["which", "things", "bag", "bound", "e"]
theorem sc__law_of : FnScope N__law_of ["which", "things", "bag", "bound"] (defScope s__law_of) := ⟨rfl, rfl, rfl, by decide +kernel, rfl, by decide +kernel, by decide +kernel⟩
noncomputable def b__law_of : En → R Fl :=
  (seqS (tryS Lv
  (ifS (bin2 ltI (getd 0) (cst (.int 4)))
  (dropS (selM [f_holds, f_load, (tLf f_order), f_can_hold] (getd 0) (argC (getd 1) (argC (getd 2) argN))))
  (ifS (bin2 eqD (getd 0) (cst (.int 4)))
  (dropS (appM f_heaviest (argC (getd 1) argN)))
  (ifS (bin2 ltI (getd 0) (cst (.int 9)))
  (dropS (selM [f_best, f_fewest, f_steady, f_floor] (bin2 subD (getd 0) (cst (.int 5))) (argC (getd 1) (argC (getd 3) argN))))
  (dropS (appM f_is_packing (argC (getd 1) (argC (getd 3) (argC (tL (lstF argN)) argN)))))))) f__law_name)
  (retS (cst .none)))
noncomputable def f__law_of : List D → R D := fnM 5 b__law_of
abbrev s_law : Stmt := topS 43
abbrev N_law : List Str := ["script", "draws", "pool", "turn", "at", "things", "due", "bag", "bound", "kept", "right", "loaded", "some", "here", "few", "k", "which"]
theorem sc_law : FnScope N_law ["script"] (defScope s_law) := ⟨rfl, rfl, rfl, by decide +kernel, rfl, by decide +kernel, by decide +kernel⟩
noncomputable def l_law_1 : En → R D :=
  (scM f__law_draws 0)
noncomputable def l_law_2 : En → R D :=
  (tL (lstF (argC (tupD (argC (tL (lstF (argC (tupD (argC (cst (.int 1)) (argC (cst (.int 0)) argN))) argN))) (argC (cst .none) argN))) (argC (tupD (argC (tL (lstF (argC (tupD (argC (cst (.int 1000)) (argC (cst (.int 10000)) argN))) (argC (tupD (argC (cst (.int 5)) (argC (cst (.int 5)) argN))) argN)))) (argC (cst .none) argN))) (argC (tupD (argC (tL (repF (lstF (argC (tupD (argC (cst (.int 1)) (argC (cst (.int 9)) argN))) argN)) (cst (.int 8)))) (argC (cst .none) argN))) (argC (tupD (argC (tL (repF (lstF (argC (tupD (argC (cst (.int 1)) (argC (cst (.int 9)) argN))) argN)) (cst (.int 9)))) (argC (cst .none) argN))) (argC (tupD (argC (tL (lstF argN)) (argC (tupD (argC (cst (.str (PySem.Str.ofString "size"))) (argC (cst (.int 0)) argN))) argN))) (argC (tupD (argC (tL (repF (lstF (argC (tupD (argC (cst (.int 1)) (argC (cst (.int 1)) argN))) argN)) (cst (.int 11)))) (argC (tupD (argC (cst (.str (PySem.Str.ofString "size"))) (argC (cst (.int 11)) argN))) argN))) (argC (tupD (argC (tL (lstF (argC (tupD (argC (cst (.int 1)) (argC (cst (.int 1)) argN))) (argC (tupD (argC (cst (.int 0)) (argC (cst (.int 1)) argN))) argN)))) (argC (tupD (argC (cst (.str (PySem.Str.ofString "thing"))) (argC (cst (.int 1)) argN))) argN))) argN)))))))))
noncomputable def l_law_3 : En → R D :=
  (bin2 addD (getd 2) (tL (lstF (argC (tupD (argC (tL (lstF (argC (tupD (argC (cst (.int 1001)) (argC (cst (.int 1)) argN))) argN))) (argC (tupD (argC (cst (.str (PySem.Str.ofString "thing"))) (argC (cst (.int 0)) argN))) argN))) (argC (tupD (argC (tL (lstF (argC (tupD (argC (cst (.int 1)) (argC (un1 negD (cst (.int 1))) argN))) argN))) (argC (tupD (argC (cst (.str (PySem.Str.ofString "thing"))) (argC (cst (.int 0)) argN))) argN))) (argC (tupD (argC (tL (lstF (argC (tupD (argC (cst (.int 1)) (argC (cst (.int 10001)) argN))) argN))) (argC (tupD (argC (cst (.str (PySem.Str.ofString "thing"))) (argC (cst (.int 0)) argN))) argN))) argN))))))
noncomputable def l_law_4 : En → R D :=
  (bin2 addD (cst (.int 10)) (bin2 mulD (cst (.int 8)) (getd 3)))
noncomputable def x_law_5 : En → R D :=
  (appM f__law_mix (argC (getd 1) (argC (bin2 addD (getd 4) (cst (.int 1))) (argC (cst (.int 2)) argN))))
noncomputable def y_law_6 : En → R D :=
  (bin2 ixD (tL (lstF (argC (cst (.int 4)) (argC (cst (.int 10)) argN)))) x_law_5)
noncomputable def x_law_7 : En → R D :=
  (appM f__law_mix (argC (getd 1) (argC (getd 4) (argC y_law_6 argN))))
noncomputable def l_law_5 : En → R D :=
  (bin2 ixD (getd 2) x_law_7)
noncomputable def x_law_9 : En → R D :=
  (appM f__law_mix (argC (getd 1) (argC (bin2 addD (getd 4) (cst (.int 2))) (argC (cst (.int 7)) argN))))
noncomputable def l_law_6 : En → R D :=
  (bin2 ixD (tL (lstF (argC (tL (lstF argN)) (argC (tL (lstF (argC (cst (.int 0)) argN))) (argC (tL (lstF (argC (cst (.int 1)) (argC (cst (.int 0)) argN)))) (argC (tL (lstF (argC (cst (.int 0)) (argC (cst (.int 1)) argN)))) (argC (tL (lstF (argC (cst (.int 0)) (argC (cst (.int 0)) argN)))) (argC (tL (lstF (argC (cst (.int 9)) argN))) (argC (tL (lstF (argC (un1 negD (cst (.int 1))) argN))) argN))))))))) x_law_9)
noncomputable def x_law_11 : En → R D :=
  (appM f__law_mix (argC (getd 1) (argC (bin2 addD (getd 4) (cst (.int 3))) (argC (cst (.int 5)) argN))))
noncomputable def l_law_7 : En → R D :=
  (bin2 ixD (tL (lstF (argC (cst (.int 1)) (argC (cst (.int 10000)) (argC (cst (.int 0)) (argC (cst (.int 10001)) (argC (un1 negD (cst (.int 1))) argN))))))) x_law_11)
noncomputable def l_law_8 : En → R D :=
  (un1 reprD (tupD (argC (getd 5) (argC (getd 7) argN))))
noncomputable def l_law_9 : En → R D :=
  (andV (bD (bin2 eqD (un1 lsetL (asL (getd 7))) (un1 lenD (getd 7)))) (bD (bin2 eqD (tL (lcF (gN 15) (itD (getd 7)) (notB (chain leI ltI (cst (.int 0)) (getd 15) (un1 lenD (getd 5)))) (getd 15) [15])) (tL (lstF argN)))))
noncomputable def l_law_10 : En → R D :=
  (orV (getd 6) (bin2 ixD (tL (lstF (argC (tupD (argC (cst (.str (PySem.Str.ofString "bag"))) (argC (cst (.int 0)) argN))) (argC (cst .none) argN)))) (un1 intD (getd 10))))
noncomputable def l_law_11 : En → R D :=
  (orV (getd 6) (bin2 ixD (tL (lstF (argC (tupD (argC (cst (.str (PySem.Str.ofString "bag"))) (argC (cst (.int 0)) argN))) (argC (cst .none) argN)))) (un1 intD (andV (getd 10) (bD (bin2 eqD (getd 7) (tL (un1 sortL (asL (getd 7))))))))))
noncomputable def l_law_12 : En → R D :=
  (orV (getd 6) (bin2 ixD (tL (lstF (argC (tupD (argC (cst (.str (PySem.Str.ofString "range"))) (argC (getd 8) argN))) (argC (cst .none) argN)))) (un1 intD (bD (chain leI leI (cst (.int 1)) (getd 8) (cst (.int 10000)))))))
noncomputable def l_law_13 : En → R D :=
  (orV (getd 13) (bin2 ixD (tL (lstF (argC (cst .none) (argC (tupD (argC (cst (.str (PySem.Str.ofString "many"))) (argC (un1 lenD (getd 5)) argN))) argN)))) (un1 intD (bD (bin2 gtI (un1 lenD (getd 5)) (cst (.int 8)))))))
noncomputable def r_law_19 : En → R D :=
  (tL (lstF (argC (getd 6) (argC (getd 11) (argC (getd 12) (argC (getd 12) (argC (getd 6) (argC (getd 14) (argC (getd 14) (argC (getd 13) (argC (getd 13) (argC (getd 13) argN))))))))))))
noncomputable def l_law_14 : En → R Bool :=
  (orB (bin2 neD (tL (lcF (gN 16) (rng1 (cst (.int 10))) yesB (appM f__law_of (argC (getd 16) (argC (getd 5) (argC (getd 7) (argC (getd 8) argN))))) [16])) r_law_19) (bin2 neD (un1 reprD (tupD (argC (getd 5) (argC (getd 7) argN)))) (getd 9)))
noncomputable def l_law_15 : En → R Fl :=
  (seqS (setS 4 l_law_4)
  (seqS (asgS (gT (gsC (gN 5) (gsC (gN 6) gsN))) l_law_5)
  (seqS (setS 7 l_law_6)
  (seqS (setS 8 l_law_7)
  (seqS (setS 9 l_law_8)
  (seqS (setS 10 l_law_9)
  (seqS (setS 11 l_law_10)
  (seqS (setS 12 l_law_11)
  (seqS (setS 13 l_law_12)
  (seqS (setS 14 l_law_13)
  (ifS l_law_14
  (retS (cst (.bool false)))
  nxS)))))))))))
noncomputable def b_law : En → R Fl :=
  (seqS (setS 1 l_law_1)
  (seqS (setS 2 l_law_2)
  (seqS (setS 2 l_law_3)
  (seqS (forS (gN 3) (rng1 (cst (.int 12)))
  l_law_15)
  (retS (cst (.bool true)))))))
noncomputable def f_law : List Int → R D := fnS 17 b_law
structure Tx (P : Program) (w : World) (K : PySem.W.Frag) (mg : Str → Option Value) (cl : String → Addr) where
  D0 : Addr
  fI : Addr
  ini : ∀ base, IniOk P w K mg base D0 fI
  gB : mg "ShopError" = some (.ref D0)
  e_BadBag : ErrAt K mg D0 fI (cl "BadBag") "BadBag"
  e_BadThing : ErrAt K mg D0 fI (cl "BadThing") "BadThing"
  e_OutOfRange : ErrAt K mg D0 fI (cl "OutOfRange") "OutOfRange"
  e_TooMany : ErrAt K mg D0 fI (cl "TooMany") "TooMany"
  e_WrongSize : ErrAt K mg D0 fI (cl "WrongSize") "WrongSize"
  ct : ∀ c, Lv.contains c = true → CatchC K (cl c) ∧ PySem.W.exmOne K (.ref (cl c)) (.ref D0) = some true
  ki : ∀ c c', Lv.contains c = true → Lv.contains c' = true → PySem.W.kitOne K (.ref (cl c)) (.ref (cl c')) = some (c == c')
  a__law_draws : Addr
  d__law_draws : FuncData
  t__law_draws : TF K mg "_law_draws" s__law_draws ["script"] a__law_draws d__law_draws
  a__law_mix : Addr
  d__law_mix : FuncData
  t__law_mix : TF K mg "_law_mix" s__law_mix ["draws", "k", "many"] a__law_mix d__law_mix
  a__law_name : Addr
  d__law_name : FuncData
  t__law_name : TF K mg "_law_name" s__law_name ["e"] a__law_name d__law_name
  a_check_things : Addr
  d_check_things : FuncData
  t_check_things : TF K mg "check_things" s_check_things ["things"] a_check_things d_check_things
  a_sets_of : Addr
  d_sets_of : FuncData
  t_sets_of : TF K mg "sets_of" s_sets_of ["many"] a_sets_of d_sets_of
  a_load_of : Addr
  d_load_of : FuncData
  t_load_of : TF K mg "load_of" s_load_of ["things", "bag"] a_load_of d_load_of
  a_holds_of : Addr
  d_holds_of : FuncData
  t_holds_of : TF K mg "holds_of" s_holds_of ["things", "bag"] a_holds_of d_holds_of
  a_order_of : Addr
  d_order_of : FuncData
  t_order_of : TF K mg "order_of" s_order_of ["things", "some"] a_order_of d_order_of
  a_can_hold_of : Addr
  d_can_hold_of : FuncData
  t_can_hold_of : TF K mg "can_hold_of" s_can_hold_of ["things", "some"] a_can_hold_of d_can_hold_of
  a_weight_of : Addr
  d_weight_of : FuncData
  t_weight_of : TF K mg "weight_of" s_weight_of ["things", "some"] a_weight_of d_weight_of
  a_heaviest : Addr
  d_heaviest : FuncData
  t_heaviest : TF K mg "heaviest" s_heaviest ["things"] a_heaviest d_heaviest
  a_is_bag : Addr
  d_is_bag : FuncData
  t_is_bag : TF K mg "is_bag" s_is_bag ["things", "bag"] a_is_bag d_is_bag
  a_holds : Addr
  d_holds : FuncData
  t_holds : TF K mg "holds" s_holds ["things", "bag"] a_holds d_holds
  a_load : Addr
  d_load : FuncData
  t_load : TF K mg "load" s_load ["things", "bag"] a_load d_load
  a_check_some : Addr
  d_check_some : FuncData
  t_check_some : TF K mg "check_some" s_check_some ["things", "some"] a_check_some d_check_some
  a_order : Addr
  d_order : FuncData
  t_order : TF K mg "order" s_order ["things", "some"] a_order d_order
  a_can_hold : Addr
  d_can_hold : FuncData
  t_can_hold : TF K mg "can_hold" s_can_hold ["things", "some"] a_can_hold d_can_hold
  a_check_bound : Addr
  d_check_bound : FuncData
  t_check_bound : TF K mg "check_bound" s_check_bound ["things", "bound"] a_check_bound d_check_bound
  a_is_packing : Addr
  d_is_packing : FuncData
  t_is_packing : TF K mg "is_packing" s_is_packing ["things", "bound", "told"] a_is_packing d_is_packing
  a_check_few : Addr
  d_check_few : FuncData
  t_check_few : TF K mg "check_few" s_check_few ["things", "bound"] a_check_few d_check_few
  a_fits : Addr
  d_fits : FuncData
  t_fits : TF K mg "fits" s_fits ["things", "bound", "some"] a_fits d_fits
  a_parted : Addr
  d_parted : FuncData
  t_parted : TF K mg "parted" s_parted ["things", "bound", "first", "bags", "most"] a_parted d_parted
  a_best_of : Addr
  d_best_of : FuncData
  t_best_of : TF K mg "best_of" s_best_of ["things", "bound"] a_best_of d_best_of
  a_best : Addr
  d_best : FuncData
  t_best : TF K mg "best" s_best ["things", "bound"] a_best d_best
  a_fewest : Addr
  d_fewest : FuncData
  t_fewest : TF K mg "fewest" s_fewest ["things", "bound"] a_fewest d_fewest
  a_steady : Addr
  d_steady : FuncData
  t_steady : TF K mg "steady" s_steady ["things", "bound"] a_steady d_steady
  a_floor : Addr
  d_floor : FuncData
  t_floor : TF K mg "floor" s_floor ["things", "bound"] a_floor d_floor
  a__law_of : Addr
  d__law_of : FuncData
  t__law_of : TF K mg "_law_of" s__law_of ["which", "things", "bag", "bound"] a__law_of d__law_of
  a_law : Addr
  d_law : FuncData
  t_law : TF K mg "law" s_law ["script"] a_law d_law
  k_MOST_BORNE : Tok
  g_MOST_BORNE : mg "MOST_BORNE" = some (.int (10000) k_MOST_BORNE)
  k_MOST_BOUND : Tok
  g_MOST_BOUND : mg "MOST_BOUND" = some (.int (10000) k_MOST_BOUND)
  k_MOST_PACKED : Tok
  g_MOST_PACKED : mg "MOST_PACKED" = some (.int (8) k_MOST_PACKED)
  k_MOST_THINGS : Tok
  g_MOST_THINGS : mg "MOST_THINGS" = some (.int (10) k_MOST_THINGS)
  k_MOST_WEIGHT : Tok
  g_MOST_WEIGHT : mg "MOST_WEIGHT" = some (.int (1000) k_MOST_WEIGHT)
  z_abs : mg "abs" = none
  z_all : mg "all" = none
  z_enumerate : mg "enumerate" = none
  z_int : mg "int" = none
  z_isinstance : mg "isinstance" = none
  z_len : mg "len" = none
  z_list : mg "list" = none
  z_min : mg "min" = none
  z_range : mg "range" = none
  z_repr : mg "repr" = none
  z_set : mg "set" = none
  z_sorted : mg "sorted" = none
  z_sum : mg "sum" = none
  z_zip : mg "zip" = none
  sm : (K.lookup sysModules).isSome = true
section
variable {P : Program} {w : World} {K : PySem.W.Frag} {mg : Str → Option Value} {base : Heap} {cl : String → Addr}
theorem ok__law_draws (T : Tx P w K mg cl) : FnG P w K mg base 1 T.a__law_draws T.d__law_draws ["script"] (spS K cl f__law_draws) := by
  refine fn_s T.t__law_draws.fn sc__law_draws rfl fun cdv A fr s H E hr hx tk => ?_
  unfold b__law_draws
  exact (bl_cons (st_setc (i := 1) sc__law_draws.nd rfl (.inl rfl) (pf_lst pas_nil))
  (bl_cons (st_for PassesOwn.leaving_ rfl (sr_r1 (by rfl) T.z_range (pd_min2 rfl (by rfl) T.z_min pd_int (pd_lenl (by rfl) T.z_len (pl_s (pv 0))))) (pg_n (i := 2) sc__law_draws.nd rfl (.inl rfl))
  (bl_cons (st_set (i := 3) sc__law_draws.nd rfl (.inl rfl) (pd_abs (by rfl) T.z_abs (pw_d (pd_ixl (pl_s (pv 0)) (pd_v (pv 2))))))
  (bl_one (st_if (pb_cmp op_ge (s_cmpI (p := fun i j => decide (j ≤ i))) (pw_d (pd_v (pv 3))) (pw_d (pd_op op_pow s_pow pd_int pd_int)) (nomark _))
  (bl_one (st_for PassesOwn.leaving_ rfl (sr_r1 (by rfl) T.z_range pd_int) (pg_n (i := 4) sc__law_draws.nd rfl (.inl rfl))
  (bl_one (st_if (pb_cmp op_gt (s_cmpI (p := fun i j => decide (j < i))) (pw_d (pd_v (pv 3))) (pw_d pd_int) (nomark _))
  (bl_cons (st_app (i := 1) (pv 1) (pd_op op_mod s_mod (pd_int1 (by rfl) T.z_int (pw_d (pd_v (pv 3)))) pd_int))
  (bl_one (st_set (i := 3) sc__law_draws.nd rfl (.inl rfl) (pd_op op_fdivW s_fdiv (pd_v (pv 3)) pd_int))))
  bl_nil))))
  (bl_cons (st_set (i := 5) sc__law_draws.nd rfl (.inl rfl) (pd_op op_mod s_mod (pd_int1 (by rfl) T.z_int (pw_d (pd_op op_addA s_add (pd_op op_mulW s_mul (pd_v (pv 3)) pd_int) (pd_op op_mulW s_mul (pd_op op_addA s_add (pd_v (pv 2)) pd_int) pd_int)))) pd_int))
  (bl_cons (st_set (i := 5) sc__law_draws.nd rfl (.inl rfl) (pd_op op_mod s_mod (pd_int1 (by rfl) T.z_int (pw_d (pd_op op_addA s_add (pd_op op_addA s_add (pd_op op_mulW s_mul (pd_v (pv 5)) pd_int) (pd_op op_mulW s_mul pd_int (pd_v (pv 2)))) pd_int))) pd_int))
  (bl_cons (st_app (i := 1) (pv 1) (pd_op op_mod s_mod (pd_int1 (by rfl) T.z_int (pw_d (pd_v (pv 5)))) pd_int))
  (bl_one (st_app (i := 1) (pv 1) (pd_op op_mod s_mod (pd_int1 (by rfl) T.z_int (pw_d (pd_op op_fdivW s_fdiv (pd_v (pv 5)) pd_int))) pd_int))))))))))
  (bl_one (st_retC (pv 1)))))
theorem ok__law_mix (T : Tx P w K mg cl) : FnG P w K mg base 1 T.a__law_mix T.d__law_mix ["draws", "k", "many"] (spD cl K 3 f__law_mix) := by
  refine fn_d T.t__law_mix.fn sc__law_mix rfl rfl fun cdv A fr s H E hr hx tk => ?_
  unfold b__law_mix
  exact (bl_cons (st_set (i := 3) sc__law_mix.nd rfl (.inl rfl) pd_int)
  (bl_cons (st_if (pb_cmp op_gt (s_cmpI (p := fun i j => decide (j < i))) (pw_d (pd_len (by rfl) T.z_len (pw_d (pd_v (pv 0))))) (pw_d pd_int) (nomark _))
  (bl_one (st_set (i := 3) sc__law_mix.nd rfl (.inl rfl) (pd_ix ix_seq s_ix (pd_v (pv 0)) (pd_op op_mod s_mod (pd_int1 (by rfl) T.z_int (pw_d (pd_v (pv 1)))) (pd_len (by rfl) T.z_len (pw_d (pd_v (pv 0))))))))
  bl_nil)
  (bl_cons (st_if (pb_cmp op_lt (s_cmpI (p := fun i j => decide (i < j))) (pw_d (pd_v (pv 1))) (pw_d (pd_len (by rfl) T.z_len (pw_d (pd_v (pv 0))))) (nomark _))
  (bl_one (st_ret (pd_op op_mod s_mod (pd_int1 (by rfl) T.z_int (pw_d (pd_v (pv 3)))) (pd_v (pv 2)))))
  bl_nil)
  (bl_one (st_ret (pd_op op_mod s_mod (pd_int1 (by rfl) T.z_int (pw_d (pd_op op_fdivW s_fdiv (pd_int1 (by rfl) T.z_int (pw_d (pd_op op_addA s_add (pd_op op_mulW s_mul (pd_v (pv 3)) pd_int) (pd_op op_mulW s_mul (pd_v (pv 1)) pd_int)))) pd_int))) (pd_v (pv 2))))))))
theorem ok__law_name (T : Tx P w K mg cl) : FnN P w K mg base cl 1 T.a__law_name T.d__law_name "e" f__law_name := by
  refine fnN_of (mb := b__law_name) T.t__law_name.fn sc__law_name (fun cdv A fr s H E a dx oe c hr he => ?_) nm__law_name
  unfold b__law_name
  by_cases hc : Lv.contains c = true
  · rw [if_pos hc]
    unfold c__law_name
    exact (bl_cons (st_set (i := 1) sc__law_name.nd rfl (.inl rfl) (pd_f (pf_lst (pas_cons (pd_tup (pas_cons pd_str (pas_cons (pd_isi he (by rfl) T.z_isinstance (pv 0) (by rfl) T.e_BadBag.gm (T.ki c "BadBag" hc (by decide))) pas_nil))) (pas_cons (pd_tup (pas_cons pd_str (pas_cons (pd_isi he (by rfl) T.z_isinstance (pv 0) (by rfl) T.e_BadThing.gm (T.ki c "BadThing" hc (by decide))) pas_nil))) (pas_cons (pd_tup (pas_cons pd_str (pas_cons (pd_isi he (by rfl) T.z_isinstance (pv 0) (by rfl) T.e_OutOfRange.gm (T.ki c "OutOfRange" hc (by decide))) pas_nil))) (pas_cons (pd_tup (pas_cons pd_str (pas_cons (pd_isi he (by rfl) T.z_isinstance (pv 0) (by rfl) T.e_TooMany.gm (T.ki c "TooMany" hc (by decide))) pas_nil))) pas_nil)))))))
  (bl_cons (st_set (i := 1) sc__law_name.nd rfl (.inl rfl) (pd_op op_addA s_add (pd_v (pv 1)) (pd_f (pf_lst (pas_cons (pd_tup (pas_cons pd_str (pas_cons (pd_isi he (by rfl) T.z_isinstance (pv 0) (by rfl) T.e_WrongSize.gm (T.ki c "WrongSize" hc (by decide))) pas_nil))) pas_nil)))))
  (bl_one (st_ret (pd_tup (pas_cons (pd_join pd_str (pl_f (pf_lcH (own := [((PySem.Str.ofString "word"), 2), ((PySem.Str.ofString "is_it"), 3)]) he.hot he.pn sc__law_name.nd (srh_l (pl_d (pd_v (pv 1)))) (blkOk_by (own := [((PySem.Str.ofString "word"), 2), ((PySem.Str.ofString "is_it"), 3)]) (N := N__law_name) (sc := (defScope s__law_name)) (by decide +kernel)) (by decide) (fun _ _ _ _ _ => (pg_tH ⟨_, he.hot, List.mem_singleton.mpr rfl⟩ (pgs_c (pg_n (i := 2) sc__law_name.nd rfl (.inl rfl)) (pgs_c (pg_n (i := 3) sc__law_name.nd rfl (.inl rfl)) pgs_n)) (len_c (len_c (fun _ _ _ h => len_n h))))) (fun _ _ _ _ _ => (ptm_one (pb_tr (pw_d (pd_v (pv 3)))))) (fun _ _ _ _ _ => (pd_v (pv 2)))))) (pas_cons (pd_at he (pv 0)) pas_nil)))))))
  · rw [if_neg hc]
    exact bl_never
theorem ok_check_things (T : Tx P w K mg cl) : FnG P w K mg base 2 T.a_check_things T.d_check_things ["things"] (spD cl K 1 f_check_things) := by
  refine fn_d T.t_check_things.fn sc_check_things rfl rfl fun cdv A fr s H E hr hx tk => ?_
  unfold b_check_things
  exact (bl_cons (st_if (pb_not (pb_chain op_le op_le (s_cmpI (p := fun i j => decide (i ≤ j))) (s_cmpI (p := fun i j => decide (i ≤ j))) (pw_d pd_int) (pw_d (pd_len (by rfl) T.z_len (pw_d (pd_v (pv 0))))) (pw_d (pd_gint (by rfl) T.g_MOST_THINGS))))
  (bl_one (st_raise (k := 0) rfl tk (hr.mono (by decide)) (T.ini _) T.e_WrongSize (by rfl) (pd_len (by rfl) T.z_len (pw_d (pd_v (pv 0))))))
  bl_nil)
  (bl_one (st_for PassesOwn.leaving_ rfl (se_d (by rfl) T.z_enumerate (pd_v (pv 0))) (pg_t rfl (pgs_c (pg_n (i := 1) sc_check_things.nd rfl (.inl rfl)) (pgs_c (pg_t rfl (pgs_c (pg_n (i := 2) sc_check_things.nd rfl (.inl rfl)) (pgs_c (pg_n (i := 3) sc_check_things.nd rfl (.inl rfl)) pgs_n)) (len_c (len_c (fun _ _ _ h => len_n h)))) pgs_n)) (len_c (len_c (fun _ _ _ h => len_n h))))
  (bl_one (st_if (PWB.t (pwb_or (pb_not (pb_chain op_le op_le (s_cmpI (p := fun i j => decide (i ≤ j))) (s_cmpI (p := fun i j => decide (i ≤ j))) (pw_d pd_int) (pw_d (pd_v (pv 2))) (pw_d (pd_gint (by rfl) T.g_MOST_WEIGHT)))) (pwb_or1 (pb_not (pb_chain op_le op_le (s_cmpI (p := fun i j => decide (i ≤ j))) (s_cmpI (p := fun i j => decide (i ≤ j))) (pw_d pd_int) (pw_d (pd_v (pv 3))) (pw_d (pd_gint (by rfl) T.g_MOST_BORNE)))))))
  (bl_one (st_raise (k := 0) rfl tk (hr.mono (by decide)) (T.ini _) T.e_BadThing (by rfl) (pd_v (pv 1))))
  bl_nil)))))
theorem ok_sets_of (T : Tx P w K mg cl) : FnG P w K mg base 1 T.a_sets_of T.d_sets_of ["many"] (spD cl K 1 f_sets_of) := by
  refine fn_d T.t_sets_of.fn sc_sets_of rfl rfl fun cdv A fr s H E hr hx tk => ?_
  unfold b_sets_of
  exact (bl_cons (st_set (i := 1) sc_sets_of.nd rfl (.inl rfl) (pd_f (pf_lst (pas_cons (pd_f (pf_lst pas_nil)) pas_nil))))
  (bl_cons (st_for PassesOwn.leaving_ rfl (sr_r1 (by rfl) T.z_range (pd_v (pv 0))) (pg_n (i := 2) sc_sets_of.nd rfl (.inr rfl))
  (bl_one (st_set (i := 1) sc_sets_of.nd rfl (.inl rfl) (pd_op op_addA s_add (pd_v (pv 1)) (pd_f (pf_lc (own := [((PySem.Str.ofString "some"), 3)]) rfl sc_sets_of.nd (sw_d (pd_v (pv 1))) (blkOk_by (own := [((PySem.Str.ofString "some"), 3)]) (N := N_sets_of) (sc := (defScope s_sets_of)) (by decide +kernel)) (by decide) (fun _ _ _ _ _ => (pg_n (i := 3) sc_sets_of.nd rfl (.inl rfl))) (fun _ _ _ _ _ => ptm_nil) (fun _ _ _ _ _ => (pd_op op_addA s_add (pd_v (pv 3)) (pd_f (pf_lst (pas_cons (pd_v (pv 2)) pas_nil)))))))))))
  (bl_one (st_ret (pd_v (pv 1))))))
theorem ok_load_of (T : Tx P w K mg cl) : FnG P w K mg base 1 T.a_load_of T.d_load_of ["things", "bag"] (spD cl K 2 f_load_of) := by
  refine fn_d T.t_load_of.fn sc_load_of rfl rfl fun cdv A fr s H E hr hx tk => ?_
  unfold b_load_of
  exact (bl_cons (st_setc (i := 2) sc_load_of.nd rfl (.inl rfl) (pf_lst pas_nil))
  (bl_cons (st_set (i := 3) sc_load_of.nd rfl (.inl rfl) pd_int)
  (bl_cons (st_for PassesOwn.leaving_ rfl (si_d (pd_f (pf_rev (pl_d (pd_v (pv 1)))))) (pg_n (i := 4) sc_load_of.nd rfl (.inl rfl))
  (bl_cons (st_app (i := 2) (pv 2) (pd_v (pv 3)))
  (bl_one (st_set (i := 3) sc_load_of.nd rfl (.inl rfl) (pd_op op_addA s_add (pd_v (pv 3)) (pd_ix ix_seq s_ix (pd_ix ix_seq s_ix (pd_v (pv 0)) (pd_v (pv 4))) pd_int))))))
  (bl_one (st_ret (pd_f (pf_rev (pl_v (pv 2)))))))))
theorem ok_holds_of (T : Tx P w K mg cl) : FnG P w K mg base 2 T.a_holds_of T.d_holds_of ["things", "bag"] (spD cl K 2 f_holds_of) := by
  refine fn_d T.t_holds_of.fn sc_holds_of rfl rfl fun cdv A fr s H E hr hx tk => ?_
  unfold b_holds_of
  exact (bl_one (st_ret (pd_all rfl (by rfl) T.z_all (pl_f (pf_lc (own := [((PySem.Str.ofString "k"), 2), ((PySem.Str.ofString "there"), 3)]) rfl sc_holds_of.nd (PSr.weak (sz_d (by rfl) T.z_zip (pd_v (pv 1)) (pd_g (ok_load_of T) (hr.mono (by decide)) (by rfl) T.t_load_of.gm T.t_load_of.fn.kp T.t_load_of.bd hx (pas_cons (pd_v (pv 0)) (pas_cons (pd_v (pv 1)) pas_nil)) (many_c (many_c many_n))))) (blkOk_by (own := [((PySem.Str.ofString "k"), 2), ((PySem.Str.ofString "there"), 3)]) (N := N_holds_of) (sc := (defScope s_holds_of)) (by decide +kernel)) (by decide) (fun _ _ _ _ _ => (pg_t rfl (pgs_c (pg_n (i := 2) sc_holds_of.nd rfl (.inl rfl)) (pgs_c (pg_n (i := 3) sc_holds_of.nd rfl (.inl rfl)) pgs_n)) (len_c (len_c (fun _ _ _ h => len_n h))))) (fun _ _ _ _ _ => ptm_nil) (fun _ _ _ _ _ => (bd_cmp op_le (s_cmpI (p := fun i j => decide (i ≤ j))) (pw_d (pd_v (pv 3))) (pw_d (pd_ix ix_seq s_ix (pd_ix ix_seq s_ix (pd_v (pv 0)) (pd_v (pv 2))) pd_int)) (nomark _))))))))
theorem ok_order_of (T : Tx P w K mg cl) : FnG P w K mg base 1 T.a_order_of T.d_order_of ["things", "some"] (spF cl K 2 f_order_of) := by
  refine fn_f T.t_order_of.fn sc_order_of rfl rfl fun cdv A fr s H E hr hx tk => ?_
  unfold b_order_of
  exact (bl_one (st_retF (pf_lc (own := [((PySem.Str.ofString "_"), 3), ((PySem.Str.ofString "k"), 2)]) rfl sc_order_of.nd (sr_l (pl_f (pf_sorted hr (by rfl) T.z_sorted (pl_f (pf_lc (own := [((PySem.Str.ofString "k"), 2)]) rfl sc_order_of.nd (sw_d (pd_v (pv 1))) (blkOk_by (own := [((PySem.Str.ofString "k"), 2)]) (N := N_order_of) (sc := (defScope s_order_of)) (by decide +kernel)) (by decide) (fun _ _ _ _ _ => (pg_n (i := 2) sc_order_of.nd rfl (.inl rfl))) (fun _ _ _ _ _ => ptm_nil) (fun _ _ _ _ _ => (pd_tup (pas_cons (pd_op op_sub s_sub (pd_un un_neg s_neg (pd_ix ix_seq s_ix (pd_ix ix_seq s_ix (pd_v (pv 0)) (pd_v (pv 2))) pd_int)) (pd_ix ix_seq s_ix (pd_ix ix_seq s_ix (pd_v (pv 0)) (pd_v (pv 2))) pd_int)) (pas_cons (pd_v (pv 2)) pas_nil))))))))) (blkOk_by (own := [((PySem.Str.ofString "_"), 3), ((PySem.Str.ofString "k"), 2)]) (N := N_order_of) (sc := (defScope s_order_of)) (by decide +kernel)) (by decide) (fun _ _ _ _ _ => (pg_t rfl (pgs_c (pg_n (i := 3) sc_order_of.nd rfl (.inl rfl)) (pgs_c (pg_n (i := 2) sc_order_of.nd rfl (.inl rfl)) pgs_n)) (len_c (len_c (fun _ _ _ h => len_n h))))) (fun _ _ _ _ _ => ptm_nil) (fun _ _ _ _ _ => (pd_v (pv 2))))))
theorem ok_can_hold_of (T : Tx P w K mg cl) : FnG P w K mg base 3 T.a_can_hold_of T.d_can_hold_of ["things", "some"] (spD cl K 2 f_can_hold_of) := by
  refine fn_d T.t_can_hold_of.fn sc_can_hold_of rfl rfl fun cdv A fr s H E hr hx tk => ?_
  unfold b_can_hold_of
  exact (bl_one (st_ret (pd_g (ok_holds_of T) (hr.mono (by decide)) (by rfl) T.t_holds_of.gm T.t_holds_of.fn.kp T.t_holds_of.bd hx (pas_cons (pd_v (pv 0)) (pas_cons (pd_f (pf_g (ok_order_of T) (hr.mono (by decide)) (by rfl) T.t_order_of.gm T.t_order_of.fn.kp T.t_order_of.bd hx (pas_cons (pd_v (pv 0)) (pas_cons (pd_v (pv 1)) pas_nil)) (many_c (many_c many_n)))) pas_nil)) (many_c (many_c many_n)))))
theorem ok_weight_of (T : Tx P w K mg cl) : FnG P w K mg base 1 T.a_weight_of T.d_weight_of ["things", "some"] (spD cl K 2 f_weight_of) := by
  refine fn_d T.t_weight_of.fn sc_weight_of rfl rfl fun cdv A fr s H E hr hx tk => ?_
  unfold b_weight_of
  exact (bl_one (st_ret (pd_sumL rfl (by rfl) T.z_sum (pl_f (pf_lc (own := [((PySem.Str.ofString "k"), 2)]) rfl sc_weight_of.nd (sw_d (pd_v (pv 1))) (blkOk_by (own := [((PySem.Str.ofString "k"), 2)]) (N := N_weight_of) (sc := (defScope s_weight_of)) (by decide +kernel)) (by decide) (fun _ _ _ _ _ => (pg_n (i := 2) sc_weight_of.nd rfl (.inl rfl))) (fun _ _ _ _ _ => ptm_nil) (fun _ _ _ _ _ => (pd_ix ix_seq s_ix (pd_ix ix_seq s_ix (pd_v (pv 0)) (pd_v (pv 2))) pd_int)))))))
theorem ok_heaviest (T : Tx P w K mg cl) : FnG P w K mg base 4 T.a_heaviest T.d_heaviest ["things"] (spD cl K 1 f_heaviest) := by
  refine fn_d T.t_heaviest.fn sc_heaviest rfl rfl fun cdv A fr s H E hr hx tk => ?_
  unfold b_heaviest
  exact (bl_cons (st_expr (pd_g (ok_check_things T) (hr.mono (by decide)) (by rfl) T.t_check_things.gm T.t_check_things.fn.kp T.t_check_things.bd hx (pas_cons (pd_v (pv 0)) pas_nil) (many_c many_n)))
  (bl_cons (st_lc (i := 1) (own := [((PySem.Str.ofString "some"), 2)]) rfl sc_heaviest.nd rfl rfl (sw_true rfl rfl rfl (by decide +kernel)) (sw_d (pd_g (ok_sets_of T) (hr.mono (by decide)) (by rfl) T.t_sets_of.gm T.t_sets_of.fn.kp T.t_sets_of.bd hx (pas_cons (pd_len (by rfl) T.z_len (pw_d (pd_v (pv 0)))) pas_nil) (many_c many_n))) (blkOk_by (own := [((PySem.Str.ofString "some"), 2)]) (N := N_heaviest) (sc := (defScope s_heaviest)) (by decide +kernel)) (by decide) (fun _ _ _ _ _ => (pg_n (i := 2) sc_heaviest.nd rfl (.inl rfl))) (fun _ _ _ _ _ => (ptm_one (pb_tr (pw_d (pd_g (ok_can_hold_of T) ((rm_blk hr).mono (by decide)) (by rfl) T.t_can_hold_of.gm T.t_can_hold_of.fn.kp T.t_can_hold_of.bd passF (pas_cons (pd_v (pv 0)) (pas_cons (pd_v (pv 2)) pas_nil)) (many_c (many_c many_n))))))) (fun _ _ _ _ _ => (pd_tup (pas_cons (pd_un un_neg s_neg (pd_g (ok_weight_of T) ((rm_blk hr).mono (by decide)) (by rfl) T.t_weight_of.gm T.t_weight_of.fn.kp T.t_weight_of.bd passF (pas_cons (pd_v (pv 0)) (pas_cons (pd_v (pv 2)) pas_nil)) (many_c (many_c many_n)))) (pas_cons (pd_v (pv 2)) pas_nil)))))
  (bl_one (st_ret (pd_ix ix_seq s_ix (pd_minl hr rfl (by rfl) T.z_min (pl_d (pd_v (pv 1)))) pd_int)))))
theorem ok_is_bag (T : Tx P w K mg cl) : FnG P w K mg base 1 T.a_is_bag T.d_is_bag ["things", "bag"] (spD cl K 2 f_is_bag) := by
  refine fn_d T.t_is_bag.fn sc_is_bag rfl rfl fun cdv A fr s H E hr hx tk => ?_
  unfold b_is_bag
  exact (bl_one (st_ret (pd_and (pd_all rfl (by rfl) T.z_all (pl_f (pf_lc (own := [((PySem.Str.ofString "k"), 2)]) rfl sc_is_bag.nd (sw_d (pd_v (pv 1))) (blkOk_by (own := [((PySem.Str.ofString "k"), 2)]) (N := N_is_bag) (sc := (defScope s_is_bag)) (by decide +kernel)) (by decide) (fun _ _ _ _ _ => (pg_n (i := 2) sc_is_bag.nd rfl (.inl rfl))) (fun _ _ _ _ _ => ptm_nil) (fun _ _ _ _ _ => (bd_chain op_le op_lt (s_cmpI (p := fun i j => decide (i ≤ j))) (s_cmpI (p := fun i j => decide (i < j))) (pw_d pd_int) (pw_d (pd_v (pv 2))) (pw_d (pd_len (by rfl) T.z_len (pw_d (pd_v (pv 0)))))))))) (pd_one (bd_cmp (op_eqE (hu_rm hr)) s_eq (pw_d (pd_lset rfl (by rfl) T.z_len (by rfl) T.z_set (pl_d (pd_v (pv 1))))) (pw_d (pd_len (by rfl) T.z_len (pw_d (pd_v (pv 1))))) (nomark _))))))
theorem ok_holds (T : Tx P w K mg cl) : FnG P w K mg base 3 T.a_holds T.d_holds ["things", "bag"] (spD cl K 2 f_holds) := by
  refine fn_d T.t_holds.fn sc_holds rfl rfl fun cdv A fr s H E hr hx tk => ?_
  unfold b_holds
  exact (bl_cons (st_expr (pd_g (ok_check_things T) (hr.mono (by decide)) (by rfl) T.t_check_things.gm T.t_check_things.fn.kp T.t_check_things.bd hx (pas_cons (pd_v (pv 0)) pas_nil) (many_c many_n)))
  (bl_one (st_ret (pd_and (pd_g (ok_is_bag T) (hr.mono (by decide)) (by rfl) T.t_is_bag.gm T.t_is_bag.fn.kp T.t_is_bag.bd hx (pas_cons (pd_v (pv 0)) (pas_cons (pd_v (pv 1)) pas_nil)) (many_c (many_c many_n))) (pd_one (pd_g (ok_holds_of T) (hr.mono (by decide)) (by rfl) T.t_holds_of.gm T.t_holds_of.fn.kp T.t_holds_of.bd hx (pas_cons (pd_v (pv 0)) (pas_cons (pd_v (pv 1)) pas_nil)) (many_c (many_c many_n))))))))
theorem ok_load (T : Tx P w K mg cl) : FnG P w K mg base 3 T.a_load T.d_load ["things", "bag"] (spD cl K 2 f_load) := by
  refine fn_d T.t_load.fn sc_load rfl rfl fun cdv A fr s H E hr hx tk => ?_
  unfold b_load
  exact (bl_cons (st_expr (pd_g (ok_check_things T) (hr.mono (by decide)) (by rfl) T.t_check_things.gm T.t_check_things.fn.kp T.t_check_things.bd hx (pas_cons (pd_v (pv 0)) pas_nil) (many_c many_n)))
  (bl_cons (st_if (pb_not (pb_tr (pw_d (pd_g (ok_is_bag T) (hr.mono (by decide)) (by rfl) T.t_is_bag.gm T.t_is_bag.fn.kp T.t_is_bag.bd hx (pas_cons (pd_v (pv 0)) (pas_cons (pd_v (pv 1)) pas_nil)) (many_c (many_c many_n))))))
  (bl_one (st_raise (k := 0) rfl tk (hr.mono (by decide)) (T.ini _) T.e_BadBag (by rfl) pd_int))
  bl_nil)
  (bl_one (st_ret (pd_g (ok_load_of T) (hr.mono (by decide)) (by rfl) T.t_load_of.gm T.t_load_of.fn.kp T.t_load_of.bd hx (pas_cons (pd_v (pv 0)) (pas_cons (pd_v (pv 1)) pas_nil)) (many_c (many_c many_n)))))))
theorem ok_check_some (T : Tx P w K mg cl) : FnG P w K mg base 3 T.a_check_some T.d_check_some ["things", "some"] (spD cl K 2 f_check_some) := by
  refine fn_d T.t_check_some.fn sc_check_some rfl rfl fun cdv A fr s H E hr hx tk => ?_
  unfold b_check_some
  exact (bl_cons (st_expr (pd_g (ok_check_things T) (hr.mono (by decide)) (by rfl) T.t_check_things.gm T.t_check_things.fn.kp T.t_check_things.bd hx (pas_cons (pd_v (pv 0)) pas_nil) (many_c many_n)))
  (bl_one (st_if (PWB.t (pwb_or (pb_not (pb_tr (pw_d (pd_g (ok_is_bag T) (hr.mono (by decide)) (by rfl) T.t_is_bag.gm T.t_is_bag.fn.kp T.t_is_bag.bd hx (pas_cons (pd_v (pv 0)) (pas_cons (pd_v (pv 1)) pas_nil)) (many_c (many_c many_n)))))) (pwb_or1 (pb_cmp (op_neE (hu_rm hr)) s_ne (pw_d (pd_f (pf_sorted hr (by rfl) T.z_sorted (pl_d (pd_v (pv 1)))))) (pw_d (pd_f (pf_listD (by rfl) T.z_list (pd_v (pv 1))))) (nomark _)))))
  (bl_one (st_raise (k := 0) rfl tk (hr.mono (by decide)) (T.ini _) T.e_BadBag (by rfl) pd_int))
  bl_nil)))
theorem ok_order (T : Tx P w K mg cl) : FnG P w K mg base 4 T.a_order T.d_order ["things", "some"] (spF cl K 2 f_order) := by
  refine fn_f T.t_order.fn sc_order rfl rfl fun cdv A fr s H E hr hx tk => ?_
  unfold b_order
  exact (bl_cons (st_expr (pd_g (ok_check_some T) (hr.mono (by decide)) (by rfl) T.t_check_some.gm T.t_check_some.fn.kp T.t_check_some.bd hx (pas_cons (pd_v (pv 0)) (pas_cons (pd_v (pv 1)) pas_nil)) (many_c (many_c many_n))))
  (bl_one (st_retF (pf_g (ok_order_of T) (hr.mono (by decide)) (by rfl) T.t_order_of.gm T.t_order_of.fn.kp T.t_order_of.bd hx (pas_cons (pd_v (pv 0)) (pas_cons (pd_v (pv 1)) pas_nil)) (many_c (many_c many_n))))))
theorem ok_can_hold (T : Tx P w K mg cl) : FnG P w K mg base 4 T.a_can_hold T.d_can_hold ["things", "some"] (spD cl K 2 f_can_hold) := by
  refine fn_d T.t_can_hold.fn sc_can_hold rfl rfl fun cdv A fr s H E hr hx tk => ?_
  unfold b_can_hold
  exact (bl_cons (st_expr (pd_g (ok_check_some T) (hr.mono (by decide)) (by rfl) T.t_check_some.gm T.t_check_some.fn.kp T.t_check_some.bd hx (pas_cons (pd_v (pv 0)) (pas_cons (pd_v (pv 1)) pas_nil)) (many_c (many_c many_n))))
  (bl_one (st_ret (pd_g (ok_can_hold_of T) (hr.mono (by decide)) (by rfl) T.t_can_hold_of.gm T.t_can_hold_of.fn.kp T.t_can_hold_of.bd hx (pas_cons (pd_v (pv 0)) (pas_cons (pd_v (pv 1)) pas_nil)) (many_c (many_c many_n))))))
theorem ok_check_bound (T : Tx P w K mg cl) : FnG P w K mg base 3 T.a_check_bound T.d_check_bound ["things", "bound"] (spD cl K 2 f_check_bound) := by
  refine fn_d T.t_check_bound.fn sc_check_bound rfl rfl fun cdv A fr s H E hr hx tk => ?_
  unfold b_check_bound
  exact (bl_cons (st_expr (pd_g (ok_check_things T) (hr.mono (by decide)) (by rfl) T.t_check_things.gm T.t_check_things.fn.kp T.t_check_things.bd hx (pas_cons (pd_v (pv 0)) pas_nil) (many_c many_n)))
  (bl_one (st_if (pb_not (pb_chain op_le op_le (s_cmpI (p := fun i j => decide (i ≤ j))) (s_cmpI (p := fun i j => decide (i ≤ j))) (pw_d pd_int) (pw_d (pd_v (pv 1))) (pw_d (pd_gint (by rfl) T.g_MOST_BOUND))))
  (bl_one (st_raise (k := 0) rfl tk (hr.mono (by decide)) (T.ini _) T.e_OutOfRange (by rfl) (pd_v (pv 1))))
  bl_nil)))
theorem ok_is_packing (T : Tx P w K mg cl) : FnG P w K mg base 4 T.a_is_packing T.d_is_packing ["things", "bound", "told"] (spD cl K 3 f_is_packing) := by
  refine fn_d T.t_is_packing.fn sc_is_packing rfl rfl fun cdv A fr s H E hr hx tk => ?_
  unfold b_is_packing
  exact (bl_cons (st_expr (pd_g (ok_check_bound T) (hr.mono (by decide)) (by rfl) T.t_check_bound.gm T.t_check_bound.fn.kp T.t_check_bound.bd hx (pas_cons (pd_v (pv 0)) (pas_cons (pd_v (pv 1)) pas_nil)) (many_c (many_c many_n))))
  (bl_cons (st_for PassesOwn.leaving_ rfl (si_d (pd_v (pv 2))) (pg_n (i := 3) sc_is_packing.nd rfl (.inl rfl))
  (bl_one (st_if (PWB.t (pwb_or (pb_cmp (op_eqE (hu_rm hr)) s_eq (pw_d (pd_len (by rfl) T.z_len (pw_d (pd_v (pv 3))))) (pw_d pd_int) (nomark _)) (pwb_or (pb_not (pb_tr (pw_d (pd_g (ok_is_bag T) (hr.mono (by decide)) (by rfl) T.t_is_bag.gm T.t_is_bag.fn.kp T.t_is_bag.bd hx (pas_cons (pd_v (pv 0)) (pas_cons (pd_v (pv 3)) pas_nil)) (many_c (many_c many_n)))))) (pwb_or (pb_not (pb_tr (pw_d (pd_g (ok_holds_of T) (hr.mono (by decide)) (by rfl) T.t_holds_of.gm T.t_holds_of.fn.kp T.t_holds_of.bd hx (pas_cons (pd_v (pv 0)) (pas_cons (pd_v (pv 3)) pas_nil)) (many_c (many_c many_n)))))) (pwb_or1 (pb_cmp (op_gtA (hu_rm5 hr)) s_cmpD (pw_d (pd_g (ok_weight_of T) (hr.mono (by decide)) (by rfl) T.t_weight_of.gm T.t_weight_of.fn.kp T.t_weight_of.bd hx (pas_cons (pd_v (pv 0)) (pas_cons (pd_v (pv 3)) pas_nil)) (many_c (many_c many_n)))) (pw_d (pd_v (pv 1))) (nomark _)))))))
  (bl_one (st_ret pd_bl))
  bl_nil)))
  (bl_one (st_ret (bd_cmp (op_eqE (hu_rm hr)) s_eq (pw_d (pd_f (pf_sorted hr (by rfl) T.z_sorted (pl_f (pf_lc2 (own := [((PySem.Str.ofString "bag"), 3), ((PySem.Str.ofString "k"), 4)]) (vs2 := [4]) rfl sc_is_packing.nd (sw_d (pd_v (pv 2))) (blkOk_by (own := [((PySem.Str.ofString "bag"), 3), ((PySem.Str.ofString "k"), 4)]) (N := N_is_packing) (sc := (defScope s_is_packing)) (by decide +kernel)) (by decide) (by decide) (by decide) (fun _ _ _ _ _ => (pg_n (i := 3) sc_is_packing.nd rfl (.inl rfl))) (fun _ _ _ _ _ => ptm_nil) (fun _ _ _ _ _ => (si_d (pd_v (pv 3)))) (fun _ _ _ _ _ => (pg_n (i := 4) sc_is_packing.nd rfl (.inl rfl))) (fun _ _ _ _ _ => ptm_nil) (fun _ _ _ _ _ => (pd_v (pv 4)))))))) (pw_d (pd_f (pf_listR1 rfl (by rfl) T.z_list (by rfl) T.z_range (pd_len (by rfl) T.z_len (pw_d (pd_v (pv 0))))))) (nomark _))))))
theorem ok_check_few (T : Tx P w K mg cl) : FnG P w K mg base 4 T.a_check_few T.d_check_few ["things", "bound"] (spD cl K 2 f_check_few) := by
  refine fn_d T.t_check_few.fn sc_check_few rfl rfl fun cdv A fr s H E hr hx tk => ?_
  unfold b_check_few
  exact (bl_cons (st_expr (pd_g (ok_check_bound T) (hr.mono (by decide)) (by rfl) T.t_check_bound.gm T.t_check_bound.fn.kp T.t_check_bound.bd hx (pas_cons (pd_v (pv 0)) (pas_cons (pd_v (pv 1)) pas_nil)) (many_c (many_c many_n))))
  (bl_one (st_if (pb_cmp op_gt (s_cmpI (p := fun i j => decide (j < i))) (pw_d (pd_len (by rfl) T.z_len (pw_d (pd_v (pv 0))))) (pw_d (pd_gint (by rfl) T.g_MOST_PACKED)) (nomark _))
  (bl_one (st_raise (k := 0) rfl tk (hr.mono (by decide)) (T.ini _) T.e_TooMany (by rfl) (pd_len (by rfl) T.z_len (pw_d (pd_v (pv 0))))))
  bl_nil)))
theorem ok_fits (T : Tx P w K mg cl) : FnG P w K mg base 4 T.a_fits T.d_fits ["things", "bound", "some"] (spD cl K 3 f_fits) := by
  refine fn_d T.t_fits.fn sc_fits rfl rfl fun cdv A fr s H E hr hx tk => ?_
  unfold b_fits
  exact (bl_one (st_ret (pd_and (bd_cmp op_le (s_cmpI (p := fun i j => decide (i ≤ j))) (pw_d (pd_g (ok_weight_of T) (hr.mono (by decide)) (by rfl) T.t_weight_of.gm T.t_weight_of.fn.kp T.t_weight_of.bd hx (pas_cons (pd_v (pv 0)) (pas_cons (pd_v (pv 2)) pas_nil)) (many_c (many_c many_n)))) (pw_d (pd_v (pv 1))) (nomark _)) (pd_one (pd_g (ok_can_hold_of T) (hr.mono (by decide)) (by rfl) T.t_can_hold_of.gm T.t_can_hold_of.fn.kp T.t_can_hold_of.bd hx (pas_cons (pd_v (pv 0)) (pas_cons (pd_v (pv 2)) pas_nil)) (many_c (many_c many_n)))))))
theorem okn_parted (T : Tx P w K mg cl) : ∀ n : Nat, FnG P w K mg base (5 + n) T.a_parted T.d_parted ["things", "bound", "first", "bags", "most"] (spF cl K 5 (g_parted n))
  | 0 => ⟨fun vs H Q E h => h.1, fun A fr s H us vs Q E hr hg e0 hz rv h => by
    obtain ⟨_, _, _, _, _, h⟩ := h
    exact h.elim⟩
  | n + 1 => by
    have ih := okn_parted T n
    show FnG P w K mg base (5 + n + 1) T.a_parted T.d_parted ["things", "bound", "first", "bags", "most"] (spF cl K 5 (fnF 9 (b_parted (g_parted n))))
    refine fn_f T.t_parted.fn sc_parted rfl rfl fun cdv A fr s H E hr hx tk => ?_
    unfold b_parted
    exact (bl_cons (st_if (pb_cmp (op_eqE (hu_rm hr)) s_eq (pw_d (pd_v (pv 2))) (pw_d (pd_len (by rfl) T.z_len (pw_d (pd_v (pv 0))))) (nomark _))
  (bl_one (st_retF (pf_lst (pas_cons (pd_v (pv 3)) pas_nil))))
  bl_nil)
  (bl_cons (st_setc (i := 5) sc_parted.nd rfl (.inl rfl) (pf_lst pas_nil))
  (bl_cons (st_for PassesOwn.leaving_ rfl (se_d (by rfl) T.z_enumerate (pd_v (pv 3))) (pg_t rfl (pgs_c (pg_n (i := 6) sc_parted.nd rfl (.inl rfl)) (pgs_c (pg_n (i := 7) sc_parted.nd rfl (.inl rfl)) pgs_n)) (len_c (len_c (fun _ _ _ h => len_n h))))
  (bl_cons (st_set (i := 8) sc_parted.nd rfl (.inl rfl) (pd_f (pf_lst (pas_starD (pd_v (pv 7)) (pas_cons (pd_v (pv 2)) pas_nil)))))
  (bl_one (st_if (pb_tr (pw_d (pd_g (ok_fits T) (hr.mono (by omega)) (by rfl) T.t_fits.gm T.t_fits.fn.kp T.t_fits.bd hx (pas_cons (pd_v (pv 0)) (pas_cons (pd_v (pv 1)) (pas_cons (pd_v (pv 8)) pas_nil))) (many_c (many_c (many_c many_n))))))
  (bl_one (st_ext (i := 5) (pv 5) (pf_g ih hr (by rfl) T.t_parted.gm T.t_parted.fn.kp T.t_parted.bd hx (pas_cons (pd_v (pv 0)) (pas_cons (pd_v (pv 1)) (pas_cons (pd_op op_addA s_add (pd_v (pv 2)) pd_int) (pas_cons (pd_op op_addA s_add (pd_op op_addA s_add (pd_f (pf_cutHi (pl_d (pd_v (pv 3))) (pd_v (pv 6)))) (pd_f (pf_lst (pas_cons (pd_v (pv 8)) pas_nil)))) (pd_f (pf_cutLo (pl_d (pd_v (pv 3))) (pd_op op_addA s_add (pd_v (pv 6)) pd_int)))) (pas_cons (pd_v (pv 4)) pas_nil))))) (many_c (many_c (many_c (many_c (many_c many_n))))))))
  bl_nil))))
  (bl_cons (st_if (PWB.t (pwb_and (pb_cmp op_lt (s_cmpI (p := fun i j => decide (i < j))) (pw_d (pd_len (by rfl) T.z_len (pw_d (pd_v (pv 3))))) (pw_d (pd_v (pv 4))) (nomark _)) (pwb_and1 (pb_tr (pw_d (pd_g (ok_fits T) (hr.mono (by omega)) (by rfl) T.t_fits.gm T.t_fits.fn.kp T.t_fits.bd hx (pas_cons (pd_v (pv 0)) (pas_cons (pd_v (pv 1)) (pas_cons (pd_f (pf_lst (pas_cons (pd_v (pv 2)) pas_nil))) pas_nil))) (many_c (many_c (many_c many_n)))))))))
  (bl_one (st_ext (i := 5) (pv 5) (pf_g ih hr (by rfl) T.t_parted.gm T.t_parted.fn.kp T.t_parted.bd hx (pas_cons (pd_v (pv 0)) (pas_cons (pd_v (pv 1)) (pas_cons (pd_op op_addA s_add (pd_v (pv 2)) pd_int) (pas_cons (pd_f (pf_lst (pas_starD (pd_v (pv 3)) (pas_cons (pd_f (pf_lst (pas_cons (pd_v (pv 2)) pas_nil))) pas_nil)))) (pas_cons (pd_v (pv 4)) pas_nil))))) (many_c (many_c (many_c (many_c (many_c many_n))))))))
  bl_nil)
  (bl_one (st_retC (pv 5)))))))
theorem ok_parted (T : Tx P w K mg cl) : FnG P w K mg base 14 T.a_parted T.d_parted ["things", "bound", "first", "bags", "most"] (spF cl K 5 f_parted) := okn_parted T 9
theorem ok_best_of (T : Tx P w K mg cl) : FnG P w K mg base 15 T.a_best_of T.d_best_of ["things", "bound"] (spD cl K 2 f_best_of) := by
  refine fn_d T.t_best_of.fn sc_best_of rfl rfl fun cdv A fr s H E hr hx tk => ?_
  unfold b_best_of
  exact (bl_cons (st_for PassesOwn.leaving_ rfl (sr_r2 (by rfl) T.z_range pd_int (pd_op op_addA s_add (pd_len (by rfl) T.z_len (pw_d (pd_v (pv 0)))) pd_int)) (pg_n (i := 2) sc_best_of.nd rfl (.inl rfl))
  (bl_cons (st_set (i := 3) sc_best_of.nd rfl (.inl rfl) (pd_f (pf_g (ok_parted T) (hr.mono (by decide)) (by rfl) T.t_parted.gm T.t_parted.fn.kp T.t_parted.bd hx (pas_cons (pd_v (pv 0)) (pas_cons (pd_v (pv 1)) (pas_cons pd_int (pas_cons (pd_f (pf_lst pas_nil)) (pas_cons (pd_v (pv 2)) pas_nil))))) (many_c (many_c (many_c (many_c (many_c many_n))))))))
  (bl_one (st_if (pb_cmp op_gt (s_cmpI (p := fun i j => decide (j < i))) (pw_d (pd_len (by rfl) T.z_len (pw_d (pd_v (pv 3))))) (pw_d pd_int) (nomark _))
  (bl_one (st_ret (pd_minl hr rfl (by rfl) T.z_min (pl_f (pf_lc (own := [((PySem.Str.ofString "row"), 4)]) rfl sc_best_of.nd (sw_d (pd_v (pv 3))) (blkOk_by (own := [((PySem.Str.ofString "row"), 4)]) (N := N_best_of) (sc := (defScope s_best_of)) (by decide +kernel)) (by decide) (fun _ _ _ _ _ => (pg_n (i := 4) sc_best_of.nd rfl (.inl rfl))) (fun _ _ _ _ _ => ptm_nil) (fun _ _ _ _ _ => (pd_f (pf_lc (own := [((PySem.Str.ofString "bag"), 5)]) rfl sc_best_of.nd (sw_d (pd_v (pv 4))) (blkOk_by (own := [((PySem.Str.ofString "bag"), 5)]) (by kernel_rfl)) (by decide) (fun _ _ _ _ _ => (pg_n (i := 5) sc_best_of.nd rfl (.inl rfl))) (fun _ _ _ _ _ => ptm_nil) (fun _ _ _ _ _ => (pd_f (pf_g (ok_order_of T) ((rm_blk (rm_blk hr)).mono (by decide)) (by rfl) T.t_order_of.gm T.t_order_of.fn.kp T.t_order_of.bd passF (pas_cons (pd_v (pv 0)) (pas_cons (pd_v (pv 5)) pas_nil)) (many_c (many_c many_n)))))))))))))
  bl_nil))))
  (bl_one (st_ret pd_non)))
theorem ok_best (T : Tx P w K mg cl) : FnG P w K mg base 16 T.a_best T.d_best ["things", "bound"] (spD cl K 2 f_best) := by
  refine fn_d T.t_best.fn sc_best rfl rfl fun cdv A fr s H E hr hx tk => ?_
  unfold b_best
  exact (bl_cons (st_expr (pd_g (ok_check_few T) (hr.mono (by decide)) (by rfl) T.t_check_few.gm T.t_check_few.fn.kp T.t_check_few.bd hx (pas_cons (pd_v (pv 0)) (pas_cons (pd_v (pv 1)) pas_nil)) (many_c (many_c many_n))))
  (bl_one (st_ret (pd_g (ok_best_of T) (hr.mono (by decide)) (by rfl) T.t_best_of.gm T.t_best_of.fn.kp T.t_best_of.bd hx (pas_cons (pd_v (pv 0)) (pas_cons (pd_v (pv 1)) pas_nil)) (many_c (many_c many_n))))))
theorem ok_fewest (T : Tx P w K mg cl) : FnG P w K mg base 16 T.a_fewest T.d_fewest ["things", "bound"] (spD cl K 2 f_fewest) := by
  refine fn_d T.t_fewest.fn sc_fewest rfl rfl fun cdv A fr s H E hr hx tk => ?_
  unfold b_fewest
  exact (bl_cons (st_expr (pd_g (ok_check_few T) (hr.mono (by decide)) (by rfl) T.t_check_few.gm T.t_check_few.fn.kp T.t_check_few.bd hx (pas_cons (pd_v (pv 0)) (pas_cons (pd_v (pv 1)) pas_nil)) (many_c (many_c many_n))))
  (bl_cons (st_set (i := 2) sc_fewest.nd rfl (.inl rfl) (pd_g (ok_best_of T) (hr.mono (by decide)) (by rfl) T.t_best_of.gm T.t_best_of.fn.kp T.t_best_of.bd hx (pas_cons (pd_v (pv 0)) (pas_cons (pd_v (pv 1)) pas_nil)) (many_c (many_c many_n))))
  (bl_one (st_ret (pd_if (pb_cmp op_isA s_is (pw_d (pd_v (pv 2))) (pw_d pd_non) (nomark _)) pd_non (pd_len (by rfl) T.z_len (pw_d (pd_v (pv 2)))))))))
theorem ok_steady (T : Tx P w K mg cl) : FnG P w K mg base 5 T.a_steady T.d_steady ["things", "bound"] (spD cl K 2 f_steady) := by
  refine fn_d T.t_steady.fn sc_steady rfl rfl fun cdv A fr s H E hr hx tk => ?_
  unfold b_steady
  exact (bl_cons (st_expr (pd_g (ok_check_bound T) (hr.mono (by decide)) (by rfl) T.t_check_bound.gm T.t_check_bound.fn.kp T.t_check_bound.bd hx (pas_cons (pd_v (pv 0)) (pas_cons (pd_v (pv 1)) pas_nil)) (many_c (many_c many_n))))
  (bl_cons (st_setQ (i := 2) sc_steady.nd rfl (.inl rfl) (pf_lst pas_nil))
  (bl_cons (st_for PassesOwn.leaving_ rfl (si_d (pd_f (pf_sorted hr (by rfl) T.z_sorted (pl_f (pf_lc (own := [((PySem.Str.ofString "k"), 4), ((PySem.Str.ofString "weight"), 6), ((PySem.Str.ofString "_"), 3)]) rfl sc_steady.nd (PSr.weak (se_d (by rfl) T.z_enumerate (pd_v (pv 0)))) (blkOk_by (own := [((PySem.Str.ofString "k"), 4), ((PySem.Str.ofString "weight"), 6), ((PySem.Str.ofString "_"), 3)]) (N := N_steady) (sc := (defScope s_steady)) (by decide +kernel)) (by decide) (fun _ _ _ _ _ => (pg_t rfl (pgs_c (pg_n (i := 4) sc_steady.nd rfl (.inl rfl)) (pgs_c (pg_t rfl (pgs_c (pg_n (i := 6) sc_steady.nd rfl (.inl rfl)) (pgs_c (pg_n (i := 3) sc_steady.nd rfl (.inl rfl)) pgs_n)) (len_c (len_c (fun _ _ _ h => len_n h)))) pgs_n)) (len_c (len_c (fun _ _ _ h => len_n h))))) (fun _ _ _ _ _ => ptm_nil) (fun _ _ _ _ _ => (pd_tup (pas_cons (pd_un un_neg s_neg (pd_v (pv 6))) (pas_cons (pd_v (pv 4)) pas_nil))))))))) (pg_t rfl (pgs_c (pg_n (i := 3) sc_steady.nd rfl (.inl rfl)) (pgs_c (pg_n (i := 4) sc_steady.nd rfl (.inr rfl)) pgs_n)) (len_c (len_c (fun _ _ _ h => len_n h))))
  (bl_cons (st_lcX (wrap_c 4 2) (i := 5) (own := [((PySem.Str.ofString "t"), 7), ((PySem.Str.ofString "bag"), 8)]) rfl sc_steady.nd rfl rfl (sw_true rfl rfl rfl (by decide +kernel)) (PSr.weak (se_d (by rfl) T.z_enumerate (pd_v (pv 2)))) (blkOk_by (own := [((PySem.Str.ofString "t"), 7), ((PySem.Str.ofString "bag"), 8)]) (N := N_steady) (sc := (defScope s_steady)) (by decide +kernel)) (by decide) (fun _ _ _ _ _ => (pg_t rfl (pgs_c (pg_n (i := 7) sc_steady.nd rfl (.inl rfl)) (pgs_c (pg_n (i := 8) sc_steady.nd rfl (.inl rfl)) pgs_n)) (len_c (len_c (fun _ _ _ h => len_n h))))) (fun _ _ _ _ _ => (ptm_one (pb_tr (pw_d (pd_g (ok_fits T) ((rm_blk hr).mono (by decide)) (by rfl) T.t_fits.gm T.t_fits.fn.kp T.t_fits.bd passF (pas_cons (pd_v (pv 0)) (pas_cons (pd_v (pv 1)) (pas_cons (pd_f (pf_lst (pas_starD (pd_v (pv 8)) (pas_cons (pd_v (pv 4)) pas_nil)))) pas_nil))) (many_c (many_c (many_c many_n)))))))) (fun _ _ _ _ _ => (pd_v (pv 7))))
  (bl_one (st_if (pb_cmp op_gt (s_cmpI (p := fun i j => decide (j < i))) (pw_d (pd_len (by rfl) T.z_len (pw_d (pd_v (pv 5))))) (pw_d pd_int) (nomark _))
  (bl_one (st_appI (i := 2) (pv 2) (pd_ix ix_seq s_ix (pd_v (pv 5)) pd_int) (pd_v (pv 4))))
  (bl_one (st_if (pb_cmp op_le (s_cmpI (p := fun i j => decide (i ≤ j))) (pw_d (pd_ix ix_seq s_ix (pd_ix ix_seq s_ix (pd_v (pv 0)) (pd_v (pv 4))) pd_int)) (pw_d (pd_v (pv 1))) (nomark _))
  (bl_one (st_appQ (i := 2) (pv 2) (pf_lst (pas_cons (pd_v (pv 4)) pas_nil))))
  (bl_one (st_ret pd_non))))))))
  (sb_frzC 2 (bl_one (st_ret (pd_f (pf_lc (own := [((PySem.Str.ofString "bag"), 8)]) rfl sc_steady.nd (sw_d (pd_v (pv 2))) (blkOk_by (own := [((PySem.Str.ofString "bag"), 8)]) (N := N_steady) (sc := (defScope s_steady)) (by decide +kernel)) (by decide) (fun _ _ _ _ _ => (pg_n (i := 8) sc_steady.nd rfl (.inl rfl))) (fun _ _ _ _ _ => ptm_nil) (fun _ _ _ _ _ => (pd_f (pf_g (ok_order_of T) ((rm_blk hr).mono (by decide)) (by rfl) T.t_order_of.gm T.t_order_of.fn.kp T.t_order_of.bd passF (pas_cons (pd_v (pv 0)) (pas_cons (pd_v (pv 8)) pas_nil)) (many_c (many_c many_n)))))))))))))
theorem ok_floor (T : Tx P w K mg cl) : FnG P w K mg base 4 T.a_floor T.d_floor ["things", "bound"] (spD cl K 2 f_floor) := by
  refine fn_d T.t_floor.fn sc_floor rfl rfl fun cdv A fr s H E hr hx tk => ?_
  unfold b_floor
  exact (bl_cons (st_expr (pd_g (ok_check_bound T) (hr.mono (by decide)) (by rfl) T.t_check_bound.gm T.t_check_bound.fn.kp T.t_check_bound.bd hx (pas_cons (pd_v (pv 0)) (pas_cons (pd_v (pv 1)) pas_nil)) (many_c (many_c many_n))))
  (bl_one (st_ret (pd_un un_neg s_neg (pd_op op_fdivW s_fdiv (pd_un un_neg s_neg (pd_g (ok_weight_of T) (hr.mono (by decide)) (by rfl) T.t_weight_of.gm T.t_weight_of.fn.kp T.t_weight_of.bd hx (pas_cons (pd_v (pv 0)) (pas_cons (pd_f (pf_listR1 rfl (by rfl) T.z_list (by rfl) T.z_range (pd_len (by rfl) T.z_len (pw_d (pd_v (pv 0)))))) pas_nil)) (many_c (many_c many_n)))) (pd_v (pv 1)))))))
theorem ok__law_of (T : Tx P w K mg cl) : FnG P w K mg base 17 T.a__law_of T.d__law_of ["which", "things", "bag", "bound"] (spD cl K 4 f__law_of) := by
  refine fn_d T.t__law_of.fn sc__law_of rfl rfl fun cdv A fr s H E hr hx tk => ?_
  unfold b__law_of
  exact (bl_cons (st_try (k := 1) (i := 4) (D0 := T.D0) rfl rfl sc__law_of.nd rfl rfl ⟨by rfl, by decide, .inl T.gB⟩ T.ct (fun E2 pn xe tk2 po => (bl_one (st_if (pb_cmp op_lt (s_cmpI (p := fun i j => decide (i < j))) (pw_d (pd_v (pv 0))) (pw_d pd_int) (nomark _))
  (bl_one (st_expr (pd_callI (k := 4) (fds_cons (ok_holds T) (by decide) (by rfl) T.t_holds.gm T.t_holds.fn.kp T.t_holds.bd (fds_cons (ok_load T) (by decide) (by rfl) T.t_load.gm T.t_load.fn.kp T.t_load.bd (fds_cons (FnG.tl (ok_order T)) (by decide) (by rfl) T.t_order.gm T.t_order.fn.kp T.t_order.bd (fds_cons (ok_can_hold T) (by decide) (by rfl) T.t_can_hold.gm T.t_can_hold.fn.kp T.t_can_hold.bd fds_nil)))) ((rm_tr hr).mono (by decide)) (L2N.passes_call tk2 fun _ _ _ _ h => h) (pd_v (pv 0)) (pas_cons (pd_v (pv 1)) (pas_cons (pd_v (pv 2)) pas_nil)) (many_c (many_c many_n)))))
  (bl_one (st_if (pb_cmp (op_eqE (hu_rm (rm_tr hr))) s_eq (pw_d (pd_v (pv 0))) (pw_d pd_int) (nomark _))
  (bl_one (st_expr (pd_g (ok_heaviest T) ((rm_tr hr).mono (by decide)) (by rfl) T.t_heaviest.gm T.t_heaviest.fn.kp T.t_heaviest.bd (L2N.passes_call tk2 fun _ _ _ _ h => h) (pas_cons (pd_v (pv 1)) pas_nil) (many_c many_n))))
  (bl_one (st_if (pb_cmp op_lt (s_cmpI (p := fun i j => decide (i < j))) (pw_d (pd_v (pv 0))) (pw_d pd_int) (nomark _))
  (bl_one (st_expr (pd_callI (k := 16) (fds_cons (ok_best T) (by decide) (by rfl) T.t_best.gm T.t_best.fn.kp T.t_best.bd (fds_cons (ok_fewest T) (by decide) (by rfl) T.t_fewest.gm T.t_fewest.fn.kp T.t_fewest.bd (fds_cons (ok_steady T) (by decide) (by rfl) T.t_steady.gm T.t_steady.fn.kp T.t_steady.bd (fds_cons (ok_floor T) (by decide) (by rfl) T.t_floor.gm T.t_floor.fn.kp T.t_floor.bd fds_nil)))) ((rm_tr hr).mono (by decide)) (L2N.passes_call tk2 fun _ _ _ _ h => h) (pd_op op_sub s_sub (pd_v (pv 0)) pd_int) (pas_cons (pd_v (pv 1)) (pas_cons (pd_v (pv 3)) pas_nil)) (many_c (many_c many_n)))))
  (bl_one (st_expr (pd_g (ok_is_packing T) ((rm_tr hr).mono (by decide)) (by rfl) T.t_is_packing.gm T.t_is_packing.fn.kp T.t_is_packing.bd (L2N.passes_call tk2 fun _ _ _ _ h => h) (pas_cons (pd_v (pv 1)) (pas_cons (pd_v (pv 3)) (pas_cons (pd_f (pf_lst pas_nil)) pas_nil))) (many_c (many_c (many_c many_n))))))))))))) (ok__law_name T) (L2H.roomH_of (hr.mono (by decide)).room) (by rfl) T.t__law_name.gm T.t__law_name.fn.kp T.t__law_name.bd tk)
  (bl_one (st_ret pd_non)))
theorem ok_law (T : Tx P w K mg cl) : FnG P w K mg base 18 T.a_law T.d_law ["script"] (spS K cl f_law) := by
  refine fn_s T.t_law.fn sc_law rfl fun cdv A fr s H E hr hx tk => ?_
  unfold b_law
  exact (bl_cons (st_set (i := 1) sc_law.nd rfl (.inl rfl) (pd_s (ok__law_draws T) (hr.mono (by decide)) (by rfl) T.t__law_draws.gm T.t__law_draws.fn.kp T.t__law_draws.bd hx (pv 0)))
  (bl_cons (st_set (i := 2) sc_law.nd rfl (.inl rfl) (pd_f (pf_lst (pas_cons (pd_tup (pas_cons (pd_f (pf_lst (pas_cons (pd_tup (pas_cons pd_int (pas_cons pd_int pas_nil))) pas_nil))) (pas_cons pd_non pas_nil))) (pas_cons (pd_tup (pas_cons (pd_f (pf_lst (pas_cons (pd_tup (pas_cons pd_int (pas_cons pd_int pas_nil))) (pas_cons (pd_tup (pas_cons pd_int (pas_cons pd_int pas_nil))) pas_nil)))) (pas_cons pd_non pas_nil))) (pas_cons (pd_tup (pas_cons (pd_f (pf_rep (pf_lst (pas_cons (pd_tup (pas_cons pd_int (pas_cons pd_int pas_nil))) pas_nil)) pd_int)) (pas_cons pd_non pas_nil))) (pas_cons (pd_tup (pas_cons (pd_f (pf_rep (pf_lst (pas_cons (pd_tup (pas_cons pd_int (pas_cons pd_int pas_nil))) pas_nil)) pd_int)) (pas_cons pd_non pas_nil))) (pas_cons (pd_tup (pas_cons (pd_f (pf_lst pas_nil)) (pas_cons (pd_tup (pas_cons pd_str (pas_cons pd_int pas_nil))) pas_nil))) (pas_cons (pd_tup (pas_cons (pd_f (pf_rep (pf_lst (pas_cons (pd_tup (pas_cons pd_int (pas_cons pd_int pas_nil))) pas_nil)) pd_int)) (pas_cons (pd_tup (pas_cons pd_str (pas_cons pd_int pas_nil))) pas_nil))) (pas_cons (pd_tup (pas_cons (pd_f (pf_lst (pas_cons (pd_tup (pas_cons pd_int (pas_cons pd_int pas_nil))) (pas_cons (pd_tup (pas_cons pd_int (pas_cons pd_int pas_nil))) pas_nil)))) (pas_cons (pd_tup (pas_cons pd_str (pas_cons pd_int pas_nil))) pas_nil))) pas_nil))))))))))
  (bl_cons (st_set (i := 2) sc_law.nd rfl (.inl rfl) (pd_op op_addA s_add (pd_v (pv 2)) (pd_f (pf_lst (pas_cons (pd_tup (pas_cons (pd_f (pf_lst (pas_cons (pd_tup (pas_cons pd_int (pas_cons pd_int pas_nil))) pas_nil))) (pas_cons (pd_tup (pas_cons pd_str (pas_cons pd_int pas_nil))) pas_nil))) (pas_cons (pd_tup (pas_cons (pd_f (pf_lst (pas_cons (pd_tup (pas_cons pd_int (pas_cons (pd_un un_neg s_neg pd_int) pas_nil))) pas_nil))) (pas_cons (pd_tup (pas_cons pd_str (pas_cons pd_int pas_nil))) pas_nil))) (pas_cons (pd_tup (pas_cons (pd_f (pf_lst (pas_cons (pd_tup (pas_cons pd_int (pas_cons pd_int pas_nil))) pas_nil))) (pas_cons (pd_tup (pas_cons pd_str (pas_cons pd_int pas_nil))) pas_nil))) pas_nil)))))))
  (bl_cons (st_for PassesOwn.leaving_ rfl (sr_r1 (by rfl) T.z_range pd_int) (pg_n (i := 3) sc_law.nd rfl (.inl rfl))
  (bl_cons (st_set (i := 4) sc_law.nd rfl (.inl rfl) (pd_op op_addA s_add pd_int (pd_op op_mulW s_mul pd_int (pd_v (pv 3)))))
  (bl_cons (st_asg (pd_ix ix_seq s_ix (pd_v (pv 2)) (pd_g (ok__law_mix T) (hr.mono (by decide)) (by rfl) T.t__law_mix.gm T.t__law_mix.fn.kp T.t__law_mix.bd hx (pas_cons (pd_v (pv 1)) (pas_cons (pd_v (pv 4)) (pas_cons (pd_ix ix_seq s_ix (pd_f (pf_lst (pas_cons pd_int (pas_cons pd_int pas_nil)))) (pd_g (ok__law_mix T) (hr.mono (by decide)) (by rfl) T.t__law_mix.gm T.t__law_mix.fn.kp T.t__law_mix.bd hx (pas_cons (pd_v (pv 1)) (pas_cons (pd_op op_addA s_add (pd_v (pv 4)) pd_int) (pas_cons pd_int pas_nil))) (many_c (many_c (many_c many_n))))) pas_nil))) (many_c (many_c (many_c many_n))))) (pg_t rfl (pgs_c (pg_n (i := 5) sc_law.nd rfl (.inr rfl)) (pgs_c (pg_n (i := 6) sc_law.nd rfl (.inl rfl)) pgs_n)) (len_c (len_c (fun _ _ _ h => len_n h)))))
  (bl_cons (st_set (i := 7) sc_law.nd rfl (.inr rfl) (pd_ix ix_seq s_ix (pd_f (pf_lst (pas_cons (pd_f (pf_lst pas_nil)) (pas_cons (pd_f (pf_lst (pas_cons pd_int pas_nil))) (pas_cons (pd_f (pf_lst (pas_cons pd_int (pas_cons pd_int pas_nil)))) (pas_cons (pd_f (pf_lst (pas_cons pd_int (pas_cons pd_int pas_nil)))) (pas_cons (pd_f (pf_lst (pas_cons pd_int (pas_cons pd_int pas_nil)))) (pas_cons (pd_f (pf_lst (pas_cons pd_int pas_nil))) (pas_cons (pd_f (pf_lst (pas_cons (pd_un un_neg s_neg pd_int) pas_nil))) pas_nil))))))))) (pd_g (ok__law_mix T) (hr.mono (by decide)) (by rfl) T.t__law_mix.gm T.t__law_mix.fn.kp T.t__law_mix.bd hx (pas_cons (pd_v (pv 1)) (pas_cons (pd_op op_addA s_add (pd_v (pv 4)) pd_int) (pas_cons pd_int pas_nil))) (many_c (many_c (many_c many_n))))))
  (bl_cons (st_set (i := 8) sc_law.nd rfl (.inr rfl) (pd_ix ix_seq s_ix (pd_f (pf_lst (pas_cons pd_int (pas_cons pd_int (pas_cons pd_int (pas_cons pd_int (pas_cons (pd_un un_neg s_neg pd_int) pas_nil))))))) (pd_g (ok__law_mix T) (hr.mono (by decide)) (by rfl) T.t__law_mix.gm T.t__law_mix.fn.kp T.t__law_mix.bd hx (pas_cons (pd_v (pv 1)) (pas_cons (pd_op op_addA s_add (pd_v (pv 4)) pd_int) (pas_cons pd_int pas_nil))) (many_c (many_c (many_c many_n))))))
  (bl_cons (st_set (i := 9) sc_law.nd rfl (.inl rfl) (pd_repr hr (by rfl) T.z_repr (pw_d (pd_tup (pas_cons (pd_v (pv 5)) (pas_cons (pd_v (pv 7)) pas_nil))))))
  (bl_cons (st_set (i := 10) sc_law.nd rfl (.inl rfl) (pd_and (bd_cmp (op_eqE (hu_rm hr)) s_eq (pw_d (pd_lset rfl (by rfl) T.z_len (by rfl) T.z_set (pl_d (pd_v (pv 7))))) (pw_d (pd_len (by rfl) T.z_len (pw_d (pd_v (pv 7))))) (nomark _)) (pd_one (bd_cmp (op_eqE (hu_rm hr)) s_eq (pw_d (pd_f (pf_lc (own := [((PySem.Str.ofString "k"), 15)]) rfl sc_law.nd (sw_d (pd_v (pv 7))) (blkOk_by (own := [((PySem.Str.ofString "k"), 15)]) (N := N_law) (sc := (defScope s_law)) (by decide +kernel)) (by decide) (fun _ _ _ _ _ => (pg_n (i := 15) sc_law.nd rfl (.inl rfl))) (fun _ _ _ _ _ => (ptm_one (pb_not (pb_chain op_le op_lt (s_cmpI (p := fun i j => decide (i ≤ j))) (s_cmpI (p := fun i j => decide (i < j))) (pw_d pd_int) (pw_d (pd_v (pv 15))) (pw_d (pd_len (by rfl) T.z_len (pw_d (pd_v (pv 5))))))))) (fun _ _ _ _ _ => (pd_v (pv 15)))))) (pw_d (pd_f (pf_lst pas_nil))) (nomark _)))))
  (bl_cons (st_set (i := 11) sc_law.nd rfl (.inl rfl) (pd_or (pd_v (pv 6)) (pd_one (pd_ix ix_seq s_ix (pd_f (pf_lst (pas_cons (pd_tup (pas_cons pd_str (pas_cons pd_int pas_nil))) (pas_cons pd_non pas_nil)))) (pd_int1 (by rfl) T.z_int (pw_d (pd_v (pv 10))))))))
  (bl_cons (st_set (i := 12) sc_law.nd rfl (.inl rfl) (pd_or (pd_v (pv 6)) (pd_one (pd_ix ix_seq s_ix (pd_f (pf_lst (pas_cons (pd_tup (pas_cons pd_str (pas_cons pd_int pas_nil))) (pas_cons pd_non pas_nil)))) (pd_int1 (by rfl) T.z_int (pw_d (pd_and (pd_v (pv 10)) (pd_one (bd_cmp (op_eqE (hu_rm hr)) s_eq (pw_d (pd_v (pv 7))) (pw_d (pd_f (pf_sorted hr (by rfl) T.z_sorted (pl_d (pd_v (pv 7)))))) (nomark _))))))))))
  (bl_cons (st_set (i := 13) sc_law.nd rfl (.inl rfl) (pd_or (pd_v (pv 6)) (pd_one (pd_ix ix_seq s_ix (pd_f (pf_lst (pas_cons (pd_tup (pas_cons pd_str (pas_cons (pd_v (pv 8)) pas_nil))) (pas_cons pd_non pas_nil)))) (pd_int1 (by rfl) T.z_int (pw_d (bd_chain op_le op_le (s_cmpI (p := fun i j => decide (i ≤ j))) (s_cmpI (p := fun i j => decide (i ≤ j))) (pw_d pd_int) (pw_d (pd_v (pv 8))) (pw_d pd_int))))))))
  (bl_cons (st_set (i := 14) sc_law.nd rfl (.inl rfl) (pd_or (pd_v (pv 13)) (pd_one (pd_ix ix_seq s_ix (pd_f (pf_lst (pas_cons pd_non (pas_cons (pd_tup (pas_cons pd_str (pas_cons (pd_len (by rfl) T.z_len (pw_d (pd_v (pv 5)))) pas_nil))) pas_nil)))) (pd_int1 (by rfl) T.z_int (pw_d (bd_cmp op_gt (s_cmpI (p := fun i j => decide (j < i))) (pw_d (pd_len (by rfl) T.z_len (pw_d (pd_v (pv 5))))) (pw_d pd_int) (nomark _))))))))
  (bl_one (st_if (PWB.t (pwb_or (pb_cmp (op_neE (hu_rm hr)) s_ne (pw_d (pd_f (pf_lc (own := [((PySem.Str.ofString "which"), 16)]) rfl sc_law.nd (sw_r1 (by rfl) T.z_range pd_int) (blkOk_by (own := [((PySem.Str.ofString "which"), 16)]) (N := N_law) (sc := (defScope s_law)) (by decide +kernel)) (by decide) (fun _ _ _ _ _ => (pg_n (i := 16) sc_law.nd rfl (.inl rfl))) (fun _ _ _ _ _ => ptm_nil) (fun _ _ _ _ _ => (pd_g (ok__law_of T) ((rm_blk hr).mono (by decide)) (by rfl) T.t__law_of.gm T.t__law_of.fn.kp T.t__law_of.bd passF (pas_cons (pd_v (pv 16)) (pas_cons (pd_v (pv 5)) (pas_cons (pd_v (pv 7)) (pas_cons (pd_v (pv 8)) pas_nil)))) (many_c (many_c (many_c (many_c many_n))))))))) (pw_d (pd_f (pf_lst (pas_cons (pd_v (pv 6)) (pas_cons (pd_v (pv 11)) (pas_cons (pd_v (pv 12)) (pas_cons (pd_v (pv 12)) (pas_cons (pd_v (pv 6)) (pas_cons (pd_v (pv 14)) (pas_cons (pd_v (pv 14)) (pas_cons (pd_v (pv 13)) (pas_cons (pd_v (pv 13)) (pas_cons (pd_v (pv 13)) pas_nil))))))))))))) (nomark _)) (pwb_or1 (pb_cmp (op_neE (hu_rm hr)) s_ne (pw_d (pd_repr hr (by rfl) T.z_repr (pw_d (pd_tup (pas_cons (pd_v (pv 5)) (pas_cons (pd_v (pv 7)) pas_nil)))))) (pw_d (pd_v (pv 9))) (nomark _)))))
  (bl_one (st_ret pd_bl))
  bl_nil)))))))))))))
  (bl_one (st_ret pd_bl))))))
end
end My
namespace My
open PySem PySem.Spec PyProof.Rows L2 Mir
def C_pool_1 : D := (.list [(.tuple [(.list [(.tuple [(.int 1), (.int 0)])]), .none]), (.tuple [(.list [(.tuple [(.int 1000), (.int 10000)]), (.tuple [(.int 5), (.int 5)])]), .none]), (.tuple [(.list [(.tuple [(.int 1), (.int 9)]), (.tuple [(.int 1), (.int 9)]), (.tuple [(.int 1), (.int 9)]), (.tuple [(.int 1), (.int 9)]), (.tuple [(.int 1), (.int 9)]), (.tuple [(.int 1), (.int 9)]), (.tuple [(.int 1), (.int 9)]), (.tuple [(.int 1), (.int 9)])]), .none]), (.tuple [(.list [(.tuple [(.int 1), (.int 9)]), (.tuple [(.int 1), (.int 9)]), (.tuple [(.int 1), (.int 9)]), (.tuple [(.int 1), (.int 9)]), (.tuple [(.int 1), (.int 9)]), (.tuple [(.int 1), (.int 9)]), (.tuple [(.int 1), (.int 9)]), (.tuple [(.int 1), (.int 9)]), (.tuple [(.int 1), (.int 9)])]), .none]), (.tuple [(.list []), (.tuple [(.str (PySem.Str.ofString "size")), (.int 0)])]), (.tuple [(.list [(.tuple [(.int 1), (.int 1)]), (.tuple [(.int 1), (.int 1)]), (.tuple [(.int 1), (.int 1)]), (.tuple [(.int 1), (.int 1)]), (.tuple [(.int 1), (.int 1)]), (.tuple [(.int 1), (.int 1)]), (.tuple [(.int 1), (.int 1)]), (.tuple [(.int 1), (.int 1)]), (.tuple [(.int 1), (.int 1)]), (.tuple [(.int 1), (.int 1)]), (.tuple [(.int 1), (.int 1)])]), (.tuple [(.str (PySem.Str.ofString "size")), (.int 11)])]), (.tuple [(.list [(.tuple [(.int 1), (.int 1)]), (.tuple [(.int 0), (.int 1)])]), (.tuple [(.str (PySem.Str.ofString "thing")), (.int 1)])])])
def C_pool_2 : D := (.list [(.tuple [(.list [(.tuple [(.int 1), (.int 0)])]), .none]), (.tuple [(.list [(.tuple [(.int 1000), (.int 10000)]), (.tuple [(.int 5), (.int 5)])]), .none]), (.tuple [(.list [(.tuple [(.int 1), (.int 9)]), (.tuple [(.int 1), (.int 9)]), (.tuple [(.int 1), (.int 9)]), (.tuple [(.int 1), (.int 9)]), (.tuple [(.int 1), (.int 9)]), (.tuple [(.int 1), (.int 9)]), (.tuple [(.int 1), (.int 9)]), (.tuple [(.int 1), (.int 9)])]), .none]), (.tuple [(.list [(.tuple [(.int 1), (.int 9)]), (.tuple [(.int 1), (.int 9)]), (.tuple [(.int 1), (.int 9)]), (.tuple [(.int 1), (.int 9)]), (.tuple [(.int 1), (.int 9)]), (.tuple [(.int 1), (.int 9)]), (.tuple [(.int 1), (.int 9)]), (.tuple [(.int 1), (.int 9)]), (.tuple [(.int 1), (.int 9)])]), .none]), (.tuple [(.list []), (.tuple [(.str (PySem.Str.ofString "size")), (.int 0)])]), (.tuple [(.list [(.tuple [(.int 1), (.int 1)]), (.tuple [(.int 1), (.int 1)]), (.tuple [(.int 1), (.int 1)]), (.tuple [(.int 1), (.int 1)]), (.tuple [(.int 1), (.int 1)]), (.tuple [(.int 1), (.int 1)]), (.tuple [(.int 1), (.int 1)]), (.tuple [(.int 1), (.int 1)]), (.tuple [(.int 1), (.int 1)]), (.tuple [(.int 1), (.int 1)]), (.tuple [(.int 1), (.int 1)])]), (.tuple [(.str (PySem.Str.ofString "size")), (.int 11)])]), (.tuple [(.list [(.tuple [(.int 1), (.int 1)]), (.tuple [(.int 0), (.int 1)])]), (.tuple [(.str (PySem.Str.ofString "thing")), (.int 1)])]), (.tuple [(.list [(.tuple [(.int 1001), (.int 1)])]), (.tuple [(.str (PySem.Str.ofString "thing")), (.int 0)])]), (.tuple [(.list [(.tuple [(.int 1), (.int (-1))])]), (.tuple [(.str (PySem.Str.ofString "thing")), (.int 0)])]), (.tuple [(.list [(.tuple [(.int 1), (.int 10001)])]), (.tuple [(.str (PySem.Str.ofString "thing")), (.int 0)])])])
def TB1 : List D := [(.int 4), (.int 10)]
noncomputable def c_y_law_6 (r0 : R D) : En → R D :=
  (bin2 ixD (tL (lstF (argC (cst (.int 4)) (argC (cst (.int 10)) argN)))) (fun _ => r0))
theorem T1 (s0 : Sl) (s1 : Sl) (s2 : Sl) (s3 : Sl) (s4 : Sl) (s5 : Sl) (s6 : Sl) (s7 : Sl) (s8 : Sl) (s9 : Sl) (s10 : Sl) (s11 : Sl) (s12 : Sl) (s13 : Sl) (s14 : Sl) (s15 : Sl) (s16 : Sl) : (allN 2 fun i0 : Nat => okB ((c_y_law_6 (.ok (.int (i0 : Nat)))) [s0, s1, s2, s3, s4, s5, s6, s7, s8, s9, s10, s11, s12, s13, s14, s15, s16]) (pick TB1 i0)) = true := by kernel_rfl
theorem V1 (s0 : Sl) (s1 : Sl) (s2 : Sl) (s3 : Sl) (s4 : Sl) (s5 : Sl) (s6 : Sl) (s7 : Sl) (s8 : Sl) (s9 : Sl) (s10 : Sl) (s11 : Sl) (s12 : Sl) (s13 : Sl) (s14 : Sl) (s15 : Sl) (s16 : Sl) : ∀ i0 : Nat, i0 < 2 → (c_y_law_6 (.ok (.int (i0 : Nat)))) [s0, s1, s2, s3, s4, s5, s6, s7, s8, s9, s10, s11, s12, s13, s14, s15, s16] = .ok (pick TB1 i0) := fun i0 hi0 => okB_of (allN_of (T1 s0 s1 s2 s3 s4 s5 s6 s7 s8 s9 s10 s11 s12 s13 s14 s15 s16) i0 hi0)
theorem T2 : (allN 2 fun i0 : Nat => posB 10 (pick TB1 i0)) = true := by kernel_rfl
theorem V2 : ∀ i0 : Nat, i0 < 2 → posB 10 (pick TB1 i0) = true := fun i0 hi0 => id (allN_of (T2) i0 hi0)
def TB2 : List D := [(.list [(.tuple [(.int 1), (.int 0)])]), (.list [(.tuple [(.int 1000), (.int 10000)]), (.tuple [(.int 5), (.int 5)])]), (.list [(.tuple [(.int 1), (.int 9)]), (.tuple [(.int 1), (.int 9)]), (.tuple [(.int 1), (.int 9)]), (.tuple [(.int 1), (.int 9)]), (.tuple [(.int 1), (.int 9)]), (.tuple [(.int 1), (.int 9)]), (.tuple [(.int 1), (.int 9)]), (.tuple [(.int 1), (.int 9)])]), (.list [(.tuple [(.int 1), (.int 9)]), (.tuple [(.int 1), (.int 9)]), (.tuple [(.int 1), (.int 9)]), (.tuple [(.int 1), (.int 9)]), (.tuple [(.int 1), (.int 9)]), (.tuple [(.int 1), (.int 9)]), (.tuple [(.int 1), (.int 9)]), (.tuple [(.int 1), (.int 9)]), (.tuple [(.int 1), (.int 9)])]), (.list []), (.list [(.tuple [(.int 1), (.int 1)]), (.tuple [(.int 1), (.int 1)]), (.tuple [(.int 1), (.int 1)]), (.tuple [(.int 1), (.int 1)]), (.tuple [(.int 1), (.int 1)]), (.tuple [(.int 1), (.int 1)]), (.tuple [(.int 1), (.int 1)]), (.tuple [(.int 1), (.int 1)]), (.tuple [(.int 1), (.int 1)]), (.tuple [(.int 1), (.int 1)]), (.tuple [(.int 1), (.int 1)])]), (.list [(.tuple [(.int 1), (.int 1)]), (.tuple [(.int 0), (.int 1)])]), (.list [(.tuple [(.int 1001), (.int 1)])]), (.list [(.tuple [(.int 1), (.int (-1))])]), (.list [(.tuple [(.int 1), (.int 10001)])])]
def TB3 : List D := [.none, .none, .none, .none, (.tuple [(.str (PySem.Str.ofString "size")), (.int 0)]), (.tuple [(.str (PySem.Str.ofString "size")), (.int 11)]), (.tuple [(.str (PySem.Str.ofString "thing")), (.int 1)]), (.tuple [(.str (PySem.Str.ofString "thing")), (.int 0)]), (.tuple [(.str (PySem.Str.ofString "thing")), (.int 0)]), (.tuple [(.str (PySem.Str.ofString "thing")), (.int 0)])]
noncomputable def c_l_law_5 (r0 : R D) : En → R D :=
  (bin2 ixD (getd 2) (fun _ => r0))
theorem T3 (s0 : Sl) (s1 : Sl) (s3 : Sl) (s4 : Sl) (s5 : Sl) (s6 : Sl) (s7 : Sl) (s8 : Sl) (s9 : Sl) (s10 : Sl) (s11 : Sl) (s12 : Sl) (s13 : Sl) (s14 : Sl) (s15 : Sl) (s16 : Sl) : (allN 10 fun i1 : Nat => okB ((c_l_law_5 (.ok (.int (i1 : Nat)))) [s0, s1, .da C_pool_2, s3, s4, s5, s6, s7, s8, s9, s10, s11, s12, s13, s14, s15, s16]) (.tuple [(pick TB2 i1), (pick TB3 i1)])) = true := by kernel_rfl
theorem V3 (s0 : Sl) (s1 : Sl) (s3 : Sl) (s4 : Sl) (s5 : Sl) (s6 : Sl) (s7 : Sl) (s8 : Sl) (s9 : Sl) (s10 : Sl) (s11 : Sl) (s12 : Sl) (s13 : Sl) (s14 : Sl) (s15 : Sl) (s16 : Sl) : ∀ i1 : Nat, i1 < 10 → (c_l_law_5 (.ok (.int (i1 : Nat)))) [s0, s1, .da C_pool_2, s3, s4, s5, s6, s7, s8, s9, s10, s11, s12, s13, s14, s15, s16] = .ok (.tuple [(pick TB2 i1), (pick TB3 i1)]) := fun i1 hi1 => okB_of (allN_of (T3 s0 s1 s3 s4 s5 s6 s7 s8 s9 s10 s11 s12 s13 s14 s15 s16) i1 hi1)
def TB4 : List D := [(.list []), (.list [(.int 0)]), (.list [(.int 1), (.int 0)]), (.list [(.int 0), (.int 1)]), (.list [(.int 0), (.int 0)]), (.list [(.int 9)]), (.list [(.int (-1))])]
noncomputable def c_l_law_6 (r0 : R D) : En → R D :=
  (bin2 ixD (tL (lstF (argC (tL (lstF argN)) (argC (tL (lstF (argC (cst (.int 0)) argN))) (argC (tL (lstF (argC (cst (.int 1)) (argC (cst (.int 0)) argN)))) (argC (tL (lstF (argC (cst (.int 0)) (argC (cst (.int 1)) argN)))) (argC (tL (lstF (argC (cst (.int 0)) (argC (cst (.int 0)) argN)))) (argC (tL (lstF (argC (cst (.int 9)) argN))) (argC (tL (lstF (argC (un1 negD (cst (.int 1))) argN))) argN))))))))) (fun _ => r0))
theorem T4 (s0 : Sl) (s1 : Sl) (s2 : Sl) (s3 : Sl) (s4 : Sl) (s5 : Sl) (s6 : Sl) (s7 : Sl) (s8 : Sl) (s9 : Sl) (s10 : Sl) (s11 : Sl) (s12 : Sl) (s13 : Sl) (s14 : Sl) (s15 : Sl) (s16 : Sl) : (allN 7 fun i2 : Nat => okB ((c_l_law_6 (.ok (.int (i2 : Nat)))) [s0, s1, s2, s3, s4, s5, s6, s7, s8, s9, s10, s11, s12, s13, s14, s15, s16]) (pick TB4 i2)) = true := by kernel_rfl
theorem V4 (s0 : Sl) (s1 : Sl) (s2 : Sl) (s3 : Sl) (s4 : Sl) (s5 : Sl) (s6 : Sl) (s7 : Sl) (s8 : Sl) (s9 : Sl) (s10 : Sl) (s11 : Sl) (s12 : Sl) (s13 : Sl) (s14 : Sl) (s15 : Sl) (s16 : Sl) : ∀ i2 : Nat, i2 < 7 → (c_l_law_6 (.ok (.int (i2 : Nat)))) [s0, s1, s2, s3, s4, s5, s6, s7, s8, s9, s10, s11, s12, s13, s14, s15, s16] = .ok (pick TB4 i2) := fun i2 hi2 => okB_of (allN_of (T4 s0 s1 s2 s3 s4 s5 s6 s7 s8 s9 s10 s11 s12 s13 s14 s15 s16) i2 hi2)
def TB5 : List D := [(.int 1), (.int 10000), (.int 0), (.int 10001), (.int (-1))]
noncomputable def c_l_law_7 (r0 : R D) : En → R D :=
  (bin2 ixD (tL (lstF (argC (cst (.int 1)) (argC (cst (.int 10000)) (argC (cst (.int 0)) (argC (cst (.int 10001)) (argC (un1 negD (cst (.int 1))) argN))))))) (fun _ => r0))
theorem T5 (s0 : Sl) (s1 : Sl) (s2 : Sl) (s3 : Sl) (s4 : Sl) (s5 : Sl) (s6 : Sl) (s7 : Sl) (s8 : Sl) (s9 : Sl) (s10 : Sl) (s11 : Sl) (s12 : Sl) (s13 : Sl) (s14 : Sl) (s15 : Sl) (s16 : Sl) : (allN 5 fun i3 : Nat => okB ((c_l_law_7 (.ok (.int (i3 : Nat)))) [s0, s1, s2, s3, s4, s5, s6, s7, s8, s9, s10, s11, s12, s13, s14, s15, s16]) (pick TB5 i3)) = true := by kernel_rfl
theorem V5 (s0 : Sl) (s1 : Sl) (s2 : Sl) (s3 : Sl) (s4 : Sl) (s5 : Sl) (s6 : Sl) (s7 : Sl) (s8 : Sl) (s9 : Sl) (s10 : Sl) (s11 : Sl) (s12 : Sl) (s13 : Sl) (s14 : Sl) (s15 : Sl) (s16 : Sl) : ∀ i3 : Nat, i3 < 5 → (c_l_law_7 (.ok (.int (i3 : Nat)))) [s0, s1, s2, s3, s4, s5, s6, s7, s8, s9, s10, s11, s12, s13, s14, s15, s16] = .ok (pick TB5 i3) := fun i3 hi3 => okB_of (allN_of (T5 s0 s1 s2 s3 s4 s5 s6 s7 s8 s9 s10 s11 s12 s13 s14 s15 s16) i3 hi3)
theorem T6 : (allN 10 fun i1 : Nat => nkB 8 200000 (pick TB2 i1)) = true := by kernel_rfl
theorem V6 : ∀ i1 : Nat, i1 < 10 → Nk 8 200000 (pick TB2 i1) := fun i1 hi1 => nk_of (allN_of (T6) i1 hi1)
theorem T7 : (allN 7 fun i2 : Nat => nkB 8 200000 (pick TB4 i2)) = true := by kernel_rfl
theorem V7 : ∀ i2 : Nat, i2 < 7 → Nk 8 200000 (pick TB4 i2) := fun i2 hi2 => nk_of (allN_of (T7) i2 hi2)
def TB6 : List D := [(.bool true), (.bool true), (.bool false), (.bool false), (.bool false), (.bool false), (.bool false), (.bool true), (.bool true), (.bool true), (.bool true), (.bool false), (.bool false), (.bool false), (.bool true), (.bool true), (.bool true), (.bool true), (.bool false), (.bool false), (.bool false), (.bool true), (.bool true), (.bool true), (.bool true), (.bool false), (.bool false), (.bool false), (.bool true), (.bool false), (.bool false), (.bool false), (.bool false), (.bool false), (.bool false), (.bool true), (.bool true), (.bool true), (.bool true), (.bool false), (.bool true), (.bool false), (.bool true), (.bool true), (.bool true), (.bool true), (.bool false), (.bool false), (.bool false), (.bool true), (.bool true), (.bool false), (.bool false), (.bool false), (.bool false), (.bool false), (.bool true), (.bool true), (.bool false), (.bool false), (.bool false), (.bool false), (.bool false), (.bool true), (.bool true), (.bool false), (.bool false), (.bool false), (.bool false), (.bool false)]
theorem T8 (s0 : Sl) (s1 : Sl) (s2 : Sl) (s3 : Sl) (s4 : Sl) (s6 : Sl) (s8 : Sl) (s9 : Sl) (s10 : Sl) (s11 : Sl) (s12 : Sl) (s13 : Sl) (s14 : Sl) (s15 : Sl) (s16 : Sl) : (allN 10 fun i1 : Nat => allN 7 fun i2 : Nat => okB ((l_law_9) [s0, s1, s2, s3, s4, .da (pick TB2 i1), s6, .da (pick TB4 i2), s8, s9, s10, s11, s12, s13, s14, s15, s16]) (pick TB6 (i1 * 7 + i2))) = true := by kernel_rfl
theorem V8 (s0 : Sl) (s1 : Sl) (s2 : Sl) (s3 : Sl) (s4 : Sl) (s6 : Sl) (s8 : Sl) (s9 : Sl) (s10 : Sl) (s11 : Sl) (s12 : Sl) (s13 : Sl) (s14 : Sl) (s15 : Sl) (s16 : Sl) : ∀ i1 : Nat, i1 < 10 → ∀ i2 : Nat, i2 < 7 → (l_law_9) [s0, s1, s2, s3, s4, .da (pick TB2 i1), s6, .da (pick TB4 i2), s8, s9, s10, s11, s12, s13, s14, s15, s16] = .ok (pick TB6 (i1 * 7 + i2)) := fun i1 hi1 i2 hi2 => okB_of (allN_of (allN_of (T8 s0 s1 s2 s3 s4 s6 s8 s9 s10 s11 s12 s13 s14 s15 s16) i1 hi1) i2 hi2)
def TB7 : List D := [.none, .none, (.tuple [(.str (PySem.Str.ofString "bag")), (.int 0)]), (.tuple [(.str (PySem.Str.ofString "bag")), (.int 0)]), (.tuple [(.str (PySem.Str.ofString "bag")), (.int 0)]), (.tuple [(.str (PySem.Str.ofString "bag")), (.int 0)]), (.tuple [(.str (PySem.Str.ofString "bag")), (.int 0)]), .none, .none, .none, .none, (.tuple [(.str (PySem.Str.ofString "bag")), (.int 0)]), (.tuple [(.str (PySem.Str.ofString "bag")), (.int 0)]), (.tuple [(.str (PySem.Str.ofString "bag")), (.int 0)]), .none, .none, .none, .none, (.tuple [(.str (PySem.Str.ofString "bag")), (.int 0)]), (.tuple [(.str (PySem.Str.ofString "bag")), (.int 0)]), (.tuple [(.str (PySem.Str.ofString "bag")), (.int 0)]), .none, .none, .none, .none, (.tuple [(.str (PySem.Str.ofString "bag")), (.int 0)]), (.tuple [(.str (PySem.Str.ofString "bag")), (.int 0)]), (.tuple [(.str (PySem.Str.ofString "bag")), (.int 0)]), (.tuple [(.str (PySem.Str.ofString "size")), (.int 0)]), (.tuple [(.str (PySem.Str.ofString "size")), (.int 0)]), (.tuple [(.str (PySem.Str.ofString "size")), (.int 0)]), (.tuple [(.str (PySem.Str.ofString "size")), (.int 0)]), (.tuple [(.str (PySem.Str.ofString "size")), (.int 0)]), (.tuple [(.str (PySem.Str.ofString "size")), (.int 0)]), (.tuple [(.str (PySem.Str.ofString "size")), (.int 0)]), (.tuple [(.str (PySem.Str.ofString "size")), (.int 11)]), (.tuple [(.str (PySem.Str.ofString "size")), (.int 11)]), (.tuple [(.str (PySem.Str.ofString "size")), (.int 11)]), (.tuple [(.str (PySem.Str.ofString "size")), (.int 11)]), (.tuple [(.str (PySem.Str.ofString "size")), (.int 11)]), (.tuple [(.str (PySem.Str.ofString "size")), (.int 11)]), (.tuple [(.str (PySem.Str.ofString "size")), (.int 11)]), (.tuple [(.str (PySem.Str.ofString "thing")), (.int 1)]), (.tuple [(.str (PySem.Str.ofString "thing")), (.int 1)]), (.tuple [(.str (PySem.Str.ofString "thing")), (.int 1)]), (.tuple [(.str (PySem.Str.ofString "thing")), (.int 1)]), (.tuple [(.str (PySem.Str.ofString "thing")), (.int 1)]), (.tuple [(.str (PySem.Str.ofString "thing")), (.int 1)]), (.tuple [(.str (PySem.Str.ofString "thing")), (.int 1)]), (.tuple [(.str (PySem.Str.ofString "thing")), (.int 0)]), (.tuple [(.str (PySem.Str.ofString "thing")), (.int 0)]), (.tuple [(.str (PySem.Str.ofString "thing")), (.int 0)]), (.tuple [(.str (PySem.Str.ofString "thing")), (.int 0)]), (.tuple [(.str (PySem.Str.ofString "thing")), (.int 0)]), (.tuple [(.str (PySem.Str.ofString "thing")), (.int 0)]), (.tuple [(.str (PySem.Str.ofString "thing")), (.int 0)]), (.tuple [(.str (PySem.Str.ofString "thing")), (.int 0)]), (.tuple [(.str (PySem.Str.ofString "thing")), (.int 0)]), (.tuple [(.str (PySem.Str.ofString "thing")), (.int 0)]), (.tuple [(.str (PySem.Str.ofString "thing")), (.int 0)]), (.tuple [(.str (PySem.Str.ofString "thing")), (.int 0)]), (.tuple [(.str (PySem.Str.ofString "thing")), (.int 0)]), (.tuple [(.str (PySem.Str.ofString "thing")), (.int 0)]), (.tuple [(.str (PySem.Str.ofString "thing")), (.int 0)]), (.tuple [(.str (PySem.Str.ofString "thing")), (.int 0)]), (.tuple [(.str (PySem.Str.ofString "thing")), (.int 0)]), (.tuple [(.str (PySem.Str.ofString "thing")), (.int 0)]), (.tuple [(.str (PySem.Str.ofString "thing")), (.int 0)]), (.tuple [(.str (PySem.Str.ofString "thing")), (.int 0)]), (.tuple [(.str (PySem.Str.ofString "thing")), (.int 0)])]
theorem T9 (s0 : Sl) (s1 : Sl) (s2 : Sl) (s3 : Sl) (s4 : Sl) (s5 : Sl) (s7 : Sl) (s8 : Sl) (s9 : Sl) (s11 : Sl) (s12 : Sl) (s13 : Sl) (s14 : Sl) (s15 : Sl) (s16 : Sl) : (allN 10 fun i1 : Nat => allN 7 fun i2 : Nat => okB ((l_law_10) [s0, s1, s2, s3, s4, s5, .da (pick TB3 i1), s7, s8, s9, .da (pick TB6 (i1 * 7 + i2)), s11, s12, s13, s14, s15, s16]) (pick TB7 (i1 * 7 + i2))) = true := by kernel_rfl
theorem V9 (s0 : Sl) (s1 : Sl) (s2 : Sl) (s3 : Sl) (s4 : Sl) (s5 : Sl) (s7 : Sl) (s8 : Sl) (s9 : Sl) (s11 : Sl) (s12 : Sl) (s13 : Sl) (s14 : Sl) (s15 : Sl) (s16 : Sl) : ∀ i1 : Nat, i1 < 10 → ∀ i2 : Nat, i2 < 7 → (l_law_10) [s0, s1, s2, s3, s4, s5, .da (pick TB3 i1), s7, s8, s9, .da (pick TB6 (i1 * 7 + i2)), s11, s12, s13, s14, s15, s16] = .ok (pick TB7 (i1 * 7 + i2)) := fun i1 hi1 i2 hi2 => okB_of (allN_of (allN_of (T9 s0 s1 s2 s3 s4 s5 s7 s8 s9 s11 s12 s13 s14 s15 s16) i1 hi1) i2 hi2)
def TB8 : List D := [.none, .none, (.tuple [(.str (PySem.Str.ofString "bag")), (.int 0)]), (.tuple [(.str (PySem.Str.ofString "bag")), (.int 0)]), (.tuple [(.str (PySem.Str.ofString "bag")), (.int 0)]), (.tuple [(.str (PySem.Str.ofString "bag")), (.int 0)]), (.tuple [(.str (PySem.Str.ofString "bag")), (.int 0)]), .none, .none, (.tuple [(.str (PySem.Str.ofString "bag")), (.int 0)]), .none, (.tuple [(.str (PySem.Str.ofString "bag")), (.int 0)]), (.tuple [(.str (PySem.Str.ofString "bag")), (.int 0)]), (.tuple [(.str (PySem.Str.ofString "bag")), (.int 0)]), .none, .none, (.tuple [(.str (PySem.Str.ofString "bag")), (.int 0)]), .none, (.tuple [(.str (PySem.Str.ofString "bag")), (.int 0)]), (.tuple [(.str (PySem.Str.ofString "bag")), (.int 0)]), (.tuple [(.str (PySem.Str.ofString "bag")), (.int 0)]), .none, .none, (.tuple [(.str (PySem.Str.ofString "bag")), (.int 0)]), .none, (.tuple [(.str (PySem.Str.ofString "bag")), (.int 0)]), (.tuple [(.str (PySem.Str.ofString "bag")), (.int 0)]), (.tuple [(.str (PySem.Str.ofString "bag")), (.int 0)]), (.tuple [(.str (PySem.Str.ofString "size")), (.int 0)]), (.tuple [(.str (PySem.Str.ofString "size")), (.int 0)]), (.tuple [(.str (PySem.Str.ofString "size")), (.int 0)]), (.tuple [(.str (PySem.Str.ofString "size")), (.int 0)]), (.tuple [(.str (PySem.Str.ofString "size")), (.int 0)]), (.tuple [(.str (PySem.Str.ofString "size")), (.int 0)]), (.tuple [(.str (PySem.Str.ofString "size")), (.int 0)]), (.tuple [(.str (PySem.Str.ofString "size")), (.int 11)]), (.tuple [(.str (PySem.Str.ofString "size")), (.int 11)]), (.tuple [(.str (PySem.Str.ofString "size")), (.int 11)]), (.tuple [(.str (PySem.Str.ofString "size")), (.int 11)]), (.tuple [(.str (PySem.Str.ofString "size")), (.int 11)]), (.tuple [(.str (PySem.Str.ofString "size")), (.int 11)]), (.tuple [(.str (PySem.Str.ofString "size")), (.int 11)]), (.tuple [(.str (PySem.Str.ofString "thing")), (.int 1)]), (.tuple [(.str (PySem.Str.ofString "thing")), (.int 1)]), (.tuple [(.str (PySem.Str.ofString "thing")), (.int 1)]), (.tuple [(.str (PySem.Str.ofString "thing")), (.int 1)]), (.tuple [(.str (PySem.Str.ofString "thing")), (.int 1)]), (.tuple [(.str (PySem.Str.ofString "thing")), (.int 1)]), (.tuple [(.str (PySem.Str.ofString "thing")), (.int 1)]), (.tuple [(.str (PySem.Str.ofString "thing")), (.int 0)]), (.tuple [(.str (PySem.Str.ofString "thing")), (.int 0)]), (.tuple [(.str (PySem.Str.ofString "thing")), (.int 0)]), (.tuple [(.str (PySem.Str.ofString "thing")), (.int 0)]), (.tuple [(.str (PySem.Str.ofString "thing")), (.int 0)]), (.tuple [(.str (PySem.Str.ofString "thing")), (.int 0)]), (.tuple [(.str (PySem.Str.ofString "thing")), (.int 0)]), (.tuple [(.str (PySem.Str.ofString "thing")), (.int 0)]), (.tuple [(.str (PySem.Str.ofString "thing")), (.int 0)]), (.tuple [(.str (PySem.Str.ofString "thing")), (.int 0)]), (.tuple [(.str (PySem.Str.ofString "thing")), (.int 0)]), (.tuple [(.str (PySem.Str.ofString "thing")), (.int 0)]), (.tuple [(.str (PySem.Str.ofString "thing")), (.int 0)]), (.tuple [(.str (PySem.Str.ofString "thing")), (.int 0)]), (.tuple [(.str (PySem.Str.ofString "thing")), (.int 0)]), (.tuple [(.str (PySem.Str.ofString "thing")), (.int 0)]), (.tuple [(.str (PySem.Str.ofString "thing")), (.int 0)]), (.tuple [(.str (PySem.Str.ofString "thing")), (.int 0)]), (.tuple [(.str (PySem.Str.ofString "thing")), (.int 0)]), (.tuple [(.str (PySem.Str.ofString "thing")), (.int 0)]), (.tuple [(.str (PySem.Str.ofString "thing")), (.int 0)])]
theorem T10 (s0 : Sl) (s1 : Sl) (s2 : Sl) (s3 : Sl) (s4 : Sl) (s5 : Sl) (s8 : Sl) (s9 : Sl) (s11 : Sl) (s12 : Sl) (s13 : Sl) (s14 : Sl) (s15 : Sl) (s16 : Sl) : (allN 10 fun i1 : Nat => allN 7 fun i2 : Nat => okB ((l_law_11) [s0, s1, s2, s3, s4, s5, .da (pick TB3 i1), .da (pick TB4 i2), s8, s9, .da (pick TB6 (i1 * 7 + i2)), s11, s12, s13, s14, s15, s16]) (pick TB8 (i1 * 7 + i2))) = true := by kernel_rfl
theorem V10 (s0 : Sl) (s1 : Sl) (s2 : Sl) (s3 : Sl) (s4 : Sl) (s5 : Sl) (s8 : Sl) (s9 : Sl) (s11 : Sl) (s12 : Sl) (s13 : Sl) (s14 : Sl) (s15 : Sl) (s16 : Sl) : ∀ i1 : Nat, i1 < 10 → ∀ i2 : Nat, i2 < 7 → (l_law_11) [s0, s1, s2, s3, s4, s5, .da (pick TB3 i1), .da (pick TB4 i2), s8, s9, .da (pick TB6 (i1 * 7 + i2)), s11, s12, s13, s14, s15, s16] = .ok (pick TB8 (i1 * 7 + i2)) := fun i1 hi1 i2 hi2 => okB_of (allN_of (allN_of (T10 s0 s1 s2 s3 s4 s5 s8 s9 s11 s12 s13 s14 s15 s16) i1 hi1) i2 hi2)
def TB9 : List D := [.none, .none, (.tuple [(.str (PySem.Str.ofString "range")), (.int 0)]), (.tuple [(.str (PySem.Str.ofString "range")), (.int 10001)]), (.tuple [(.str (PySem.Str.ofString "range")), (.int (-1))]), .none, .none, (.tuple [(.str (PySem.Str.ofString "range")), (.int 0)]), (.tuple [(.str (PySem.Str.ofString "range")), (.int 10001)]), (.tuple [(.str (PySem.Str.ofString "range")), (.int (-1))]), .none, .none, (.tuple [(.str (PySem.Str.ofString "range")), (.int 0)]), (.tuple [(.str (PySem.Str.ofString "range")), (.int 10001)]), (.tuple [(.str (PySem.Str.ofString "range")), (.int (-1))]), .none, .none, (.tuple [(.str (PySem.Str.ofString "range")), (.int 0)]), (.tuple [(.str (PySem.Str.ofString "range")), (.int 10001)]), (.tuple [(.str (PySem.Str.ofString "range")), (.int (-1))]), (.tuple [(.str (PySem.Str.ofString "size")), (.int 0)]), (.tuple [(.str (PySem.Str.ofString "size")), (.int 0)]), (.tuple [(.str (PySem.Str.ofString "size")), (.int 0)]), (.tuple [(.str (PySem.Str.ofString "size")), (.int 0)]), (.tuple [(.str (PySem.Str.ofString "size")), (.int 0)]), (.tuple [(.str (PySem.Str.ofString "size")), (.int 11)]), (.tuple [(.str (PySem.Str.ofString "size")), (.int 11)]), (.tuple [(.str (PySem.Str.ofString "size")), (.int 11)]), (.tuple [(.str (PySem.Str.ofString "size")), (.int 11)]), (.tuple [(.str (PySem.Str.ofString "size")), (.int 11)]), (.tuple [(.str (PySem.Str.ofString "thing")), (.int 1)]), (.tuple [(.str (PySem.Str.ofString "thing")), (.int 1)]), (.tuple [(.str (PySem.Str.ofString "thing")), (.int 1)]), (.tuple [(.str (PySem.Str.ofString "thing")), (.int 1)]), (.tuple [(.str (PySem.Str.ofString "thing")), (.int 1)]), (.tuple [(.str (PySem.Str.ofString "thing")), (.int 0)]), (.tuple [(.str (PySem.Str.ofString "thing")), (.int 0)]), (.tuple [(.str (PySem.Str.ofString "thing")), (.int 0)]), (.tuple [(.str (PySem.Str.ofString "thing")), (.int 0)]), (.tuple [(.str (PySem.Str.ofString "thing")), (.int 0)]), (.tuple [(.str (PySem.Str.ofString "thing")), (.int 0)]), (.tuple [(.str (PySem.Str.ofString "thing")), (.int 0)]), (.tuple [(.str (PySem.Str.ofString "thing")), (.int 0)]), (.tuple [(.str (PySem.Str.ofString "thing")), (.int 0)]), (.tuple [(.str (PySem.Str.ofString "thing")), (.int 0)]), (.tuple [(.str (PySem.Str.ofString "thing")), (.int 0)]), (.tuple [(.str (PySem.Str.ofString "thing")), (.int 0)]), (.tuple [(.str (PySem.Str.ofString "thing")), (.int 0)]), (.tuple [(.str (PySem.Str.ofString "thing")), (.int 0)]), (.tuple [(.str (PySem.Str.ofString "thing")), (.int 0)])]
theorem T11 (s0 : Sl) (s1 : Sl) (s2 : Sl) (s3 : Sl) (s4 : Sl) (s5 : Sl) (s7 : Sl) (s9 : Sl) (s10 : Sl) (s11 : Sl) (s12 : Sl) (s13 : Sl) (s14 : Sl) (s15 : Sl) (s16 : Sl) : (allN 10 fun i1 : Nat => allN 5 fun i3 : Nat => okB ((l_law_12) [s0, s1, s2, s3, s4, s5, .da (pick TB3 i1), s7, .da (pick TB5 i3), s9, s10, s11, s12, s13, s14, s15, s16]) (pick TB9 (i1 * 5 + i3))) = true := by kernel_rfl
theorem V11 (s0 : Sl) (s1 : Sl) (s2 : Sl) (s3 : Sl) (s4 : Sl) (s5 : Sl) (s7 : Sl) (s9 : Sl) (s10 : Sl) (s11 : Sl) (s12 : Sl) (s13 : Sl) (s14 : Sl) (s15 : Sl) (s16 : Sl) : ∀ i1 : Nat, i1 < 10 → ∀ i3 : Nat, i3 < 5 → (l_law_12) [s0, s1, s2, s3, s4, s5, .da (pick TB3 i1), s7, .da (pick TB5 i3), s9, s10, s11, s12, s13, s14, s15, s16] = .ok (pick TB9 (i1 * 5 + i3)) := fun i1 hi1 i3 hi3 => okB_of (allN_of (allN_of (T11 s0 s1 s2 s3 s4 s5 s7 s9 s10 s11 s12 s13 s14 s15 s16) i1 hi1) i3 hi3)
def TB10 : List D := [.none, .none, (.tuple [(.str (PySem.Str.ofString "range")), (.int 0)]), (.tuple [(.str (PySem.Str.ofString "range")), (.int 10001)]), (.tuple [(.str (PySem.Str.ofString "range")), (.int (-1))]), .none, .none, (.tuple [(.str (PySem.Str.ofString "range")), (.int 0)]), (.tuple [(.str (PySem.Str.ofString "range")), (.int 10001)]), (.tuple [(.str (PySem.Str.ofString "range")), (.int (-1))]), .none, .none, (.tuple [(.str (PySem.Str.ofString "range")), (.int 0)]), (.tuple [(.str (PySem.Str.ofString "range")), (.int 10001)]), (.tuple [(.str (PySem.Str.ofString "range")), (.int (-1))]), (.tuple [(.str (PySem.Str.ofString "many")), (.int 9)]), (.tuple [(.str (PySem.Str.ofString "many")), (.int 9)]), (.tuple [(.str (PySem.Str.ofString "range")), (.int 0)]), (.tuple [(.str (PySem.Str.ofString "range")), (.int 10001)]), (.tuple [(.str (PySem.Str.ofString "range")), (.int (-1))]), (.tuple [(.str (PySem.Str.ofString "size")), (.int 0)]), (.tuple [(.str (PySem.Str.ofString "size")), (.int 0)]), (.tuple [(.str (PySem.Str.ofString "size")), (.int 0)]), (.tuple [(.str (PySem.Str.ofString "size")), (.int 0)]), (.tuple [(.str (PySem.Str.ofString "size")), (.int 0)]), (.tuple [(.str (PySem.Str.ofString "size")), (.int 11)]), (.tuple [(.str (PySem.Str.ofString "size")), (.int 11)]), (.tuple [(.str (PySem.Str.ofString "size")), (.int 11)]), (.tuple [(.str (PySem.Str.ofString "size")), (.int 11)]), (.tuple [(.str (PySem.Str.ofString "size")), (.int 11)]), (.tuple [(.str (PySem.Str.ofString "thing")), (.int 1)]), (.tuple [(.str (PySem.Str.ofString "thing")), (.int 1)]), (.tuple [(.str (PySem.Str.ofString "thing")), (.int 1)]), (.tuple [(.str (PySem.Str.ofString "thing")), (.int 1)]), (.tuple [(.str (PySem.Str.ofString "thing")), (.int 1)]), (.tuple [(.str (PySem.Str.ofString "thing")), (.int 0)]), (.tuple [(.str (PySem.Str.ofString "thing")), (.int 0)]), (.tuple [(.str (PySem.Str.ofString "thing")), (.int 0)]), (.tuple [(.str (PySem.Str.ofString "thing")), (.int 0)]), (.tuple [(.str (PySem.Str.ofString "thing")), (.int 0)]), (.tuple [(.str (PySem.Str.ofString "thing")), (.int 0)]), (.tuple [(.str (PySem.Str.ofString "thing")), (.int 0)]), (.tuple [(.str (PySem.Str.ofString "thing")), (.int 0)]), (.tuple [(.str (PySem.Str.ofString "thing")), (.int 0)]), (.tuple [(.str (PySem.Str.ofString "thing")), (.int 0)]), (.tuple [(.str (PySem.Str.ofString "thing")), (.int 0)]), (.tuple [(.str (PySem.Str.ofString "thing")), (.int 0)]), (.tuple [(.str (PySem.Str.ofString "thing")), (.int 0)]), (.tuple [(.str (PySem.Str.ofString "thing")), (.int 0)]), (.tuple [(.str (PySem.Str.ofString "thing")), (.int 0)])]
theorem T12 (s0 : Sl) (s1 : Sl) (s2 : Sl) (s3 : Sl) (s4 : Sl) (s6 : Sl) (s7 : Sl) (s8 : Sl) (s9 : Sl) (s10 : Sl) (s11 : Sl) (s12 : Sl) (s14 : Sl) (s15 : Sl) (s16 : Sl) : (allN 10 fun i1 : Nat => allN 5 fun i3 : Nat => okB ((l_law_13) [s0, s1, s2, s3, s4, .da (pick TB2 i1), s6, s7, s8, s9, s10, s11, s12, .da (pick TB9 (i1 * 5 + i3)), s14, s15, s16]) (pick TB10 (i1 * 5 + i3))) = true := by kernel_rfl
theorem V12 (s0 : Sl) (s1 : Sl) (s2 : Sl) (s3 : Sl) (s4 : Sl) (s6 : Sl) (s7 : Sl) (s8 : Sl) (s9 : Sl) (s10 : Sl) (s11 : Sl) (s12 : Sl) (s14 : Sl) (s15 : Sl) (s16 : Sl) : ∀ i1 : Nat, i1 < 10 → ∀ i3 : Nat, i3 < 5 → (l_law_13) [s0, s1, s2, s3, s4, .da (pick TB2 i1), s6, s7, s8, s9, s10, s11, s12, .da (pick TB9 (i1 * 5 + i3)), s14, s15, s16] = .ok (pick TB10 (i1 * 5 + i3)) := fun i1 hi1 i3 hi3 => okB_of (allN_of (allN_of (T12 s0 s1 s2 s3 s4 s6 s7 s8 s9 s10 s11 s12 s14 s15 s16) i1 hi1) i3 hi3)
theorem T13 (a_bound : D) : (allN 10 fun i1 : Nat => allN 7 fun i2 : Nat => okB (f__law_of [.int 0, (pick TB2 i1), (pick TB4 i2), a_bound]) (pick TB3 i1)) = true := by kernel_rfl
theorem V13 (a_bound : D) : ∀ i1 : Nat, i1 < 10 → ∀ i2 : Nat, i2 < 7 → f__law_of [.int 0, (pick TB2 i1), (pick TB4 i2), a_bound] = .ok (pick TB3 i1) := fun i1 hi1 i2 hi2 => okB_of (allN_of (allN_of (T13 a_bound) i1 hi1) i2 hi2)
theorem T14 (a_bound : D) : (allN 10 fun i1 : Nat => allN 7 fun i2 : Nat => okB (f__law_of [.int 1, (pick TB2 i1), (pick TB4 i2), a_bound]) (pick TB7 (i1 * 7 + i2))) = true := by kernel_rfl
theorem V14 (a_bound : D) : ∀ i1 : Nat, i1 < 10 → ∀ i2 : Nat, i2 < 7 → f__law_of [.int 1, (pick TB2 i1), (pick TB4 i2), a_bound] = .ok (pick TB7 (i1 * 7 + i2)) := fun i1 hi1 i2 hi2 => okB_of (allN_of (allN_of (T14 a_bound) i1 hi1) i2 hi2)
theorem T15 (a_bound : D) : (allN 10 fun i1 : Nat => allN 7 fun i2 : Nat => okB (f__law_of [.int 2, (pick TB2 i1), (pick TB4 i2), a_bound]) (pick TB8 (i1 * 7 + i2))) = true := by kernel_rfl
theorem V15 (a_bound : D) : ∀ i1 : Nat, i1 < 10 → ∀ i2 : Nat, i2 < 7 → f__law_of [.int 2, (pick TB2 i1), (pick TB4 i2), a_bound] = .ok (pick TB8 (i1 * 7 + i2)) := fun i1 hi1 i2 hi2 => okB_of (allN_of (allN_of (T15 a_bound) i1 hi1) i2 hi2)
theorem T16 (a_bound : D) : (allN 10 fun i1 : Nat => allN 7 fun i2 : Nat => okB (f__law_of [.int 3, (pick TB2 i1), (pick TB4 i2), a_bound]) (pick TB8 (i1 * 7 + i2))) = true := by kernel_rfl
theorem V16 (a_bound : D) : ∀ i1 : Nat, i1 < 10 → ∀ i2 : Nat, i2 < 7 → f__law_of [.int 3, (pick TB2 i1), (pick TB4 i2), a_bound] = .ok (pick TB8 (i1 * 7 + i2)) := fun i1 hi1 i2 hi2 => okB_of (allN_of (allN_of (T16 a_bound) i1 hi1) i2 hi2)
theorem T17_1 (a_bag : D) (a_bound : D) : (allN 3 fun i1 : Nat => okB (f__law_of [.int 4, (pick TB2 i1), a_bag, a_bound]) (pick TB3 i1)) = true := by kernel_rfl
theorem T17_2 (a_bag : D) (a_bound : D) : (allN 1 fun i1 : Nat => okB (f__law_of [.int 4, (pick TB2 (3 + i1)), a_bag, a_bound]) (pick TB3 (3 + i1))) = true := by kernel_rfl
theorem T17_3 (a_bag : D) (a_bound : D) : (allN 6 fun i1 : Nat => okB (f__law_of [.int 4, (pick TB2 (4 + i1)), a_bag, a_bound]) (pick TB3 (4 + i1))) = true := by kernel_rfl
theorem T17_4 (a_bag : D) (a_bound : D) : (allN 10 fun i1 : Nat => okB (f__law_of [.int 4, (pick TB2 i1), a_bag, a_bound]) (pick TB3 i1)) = true := 
  allN_app 4 6 (allN_app 3 1 ((T17_1 a_bag a_bound)) (T17_2 a_bag a_bound)) (T17_3 a_bag a_bound)
theorem V17 (a_bag : D) (a_bound : D) : ∀ i1 : Nat, i1 < 10 → f__law_of [.int 4, (pick TB2 i1), a_bag, a_bound] = .ok (pick TB3 i1) := fun i1 hi1 => okB_of (allN_of ((T17_4 a_bag a_bound)) i1 hi1)
theorem T18 (a_bag : D) : (allN 10 fun i1 : Nat => allN 5 fun i3 : Nat => okB (f__law_of [.int 5, (pick TB2 i1), a_bag, (pick TB5 i3)]) (pick TB10 (i1 * 5 + i3))) = true := by kernel_rfl
theorem V18 (a_bag : D) : ∀ i1 : Nat, i1 < 10 → ∀ i3 : Nat, i3 < 5 → f__law_of [.int 5, (pick TB2 i1), a_bag, (pick TB5 i3)] = .ok (pick TB10 (i1 * 5 + i3)) := fun i1 hi1 i3 hi3 => okB_of (allN_of (allN_of (T18 a_bag) i1 hi1) i3 hi3)
theorem T19 (a_bag : D) : (allN 10 fun i1 : Nat => allN 5 fun i3 : Nat => okB (f__law_of [.int 6, (pick TB2 i1), a_bag, (pick TB5 i3)]) (pick TB10 (i1 * 5 + i3))) = true := by kernel_rfl
theorem V19 (a_bag : D) : ∀ i1 : Nat, i1 < 10 → ∀ i3 : Nat, i3 < 5 → f__law_of [.int 6, (pick TB2 i1), a_bag, (pick TB5 i3)] = .ok (pick TB10 (i1 * 5 + i3)) := fun i1 hi1 i3 hi3 => okB_of (allN_of (allN_of (T19 a_bag) i1 hi1) i3 hi3)
theorem T20 (a_bag : D) : (allN 10 fun i1 : Nat => allN 5 fun i3 : Nat => okB (f__law_of [.int 7, (pick TB2 i1), a_bag, (pick TB5 i3)]) (pick TB9 (i1 * 5 + i3))) = true := by kernel_rfl
theorem V20 (a_bag : D) : ∀ i1 : Nat, i1 < 10 → ∀ i3 : Nat, i3 < 5 → f__law_of [.int 7, (pick TB2 i1), a_bag, (pick TB5 i3)] = .ok (pick TB9 (i1 * 5 + i3)) := fun i1 hi1 i3 hi3 => okB_of (allN_of (allN_of (T20 a_bag) i1 hi1) i3 hi3)
theorem T21 (a_bag : D) : (allN 10 fun i1 : Nat => allN 5 fun i3 : Nat => okB (f__law_of [.int 8, (pick TB2 i1), a_bag, (pick TB5 i3)]) (pick TB9 (i1 * 5 + i3))) = true := by kernel_rfl
theorem V21 (a_bag : D) : ∀ i1 : Nat, i1 < 10 → ∀ i3 : Nat, i3 < 5 → f__law_of [.int 8, (pick TB2 i1), a_bag, (pick TB5 i3)] = .ok (pick TB9 (i1 * 5 + i3)) := fun i1 hi1 i3 hi3 => okB_of (allN_of (allN_of (T21 a_bag) i1 hi1) i3 hi3)
theorem T22 (a_bag : D) : (allN 10 fun i1 : Nat => allN 5 fun i3 : Nat => okB (f__law_of [.int 9, (pick TB2 i1), a_bag, (pick TB5 i3)]) (pick TB9 (i1 * 5 + i3))) = true := by kernel_rfl
theorem V22 (a_bag : D) : ∀ i1 : Nat, i1 < 10 → ∀ i3 : Nat, i3 < 5 → f__law_of [.int 9, (pick TB2 i1), a_bag, (pick TB5 i3)] = .ok (pick TB9 (i1 * 5 + i3)) := fun i1 hi1 i3 hi3 => okB_of (allN_of (allN_of (T22 a_bag) i1 hi1) i3 hi3)
theorem T23 : (allN 10 fun i1 : Nat => nkB 8 200000 (pick TB3 i1)) = true := by kernel_rfl
theorem V23 : ∀ i1 : Nat, i1 < 10 → Nk 8 200000 (pick TB3 i1) := fun i1 hi1 => nk_of (allN_of (T23) i1 hi1)
theorem T24 : (allN 10 fun i1 : Nat => allN 7 fun i2 : Nat => nkB 8 200000 (pick TB7 (i1 * 7 + i2))) = true := by kernel_rfl
theorem V24 : ∀ i1 : Nat, i1 < 10 → ∀ i2 : Nat, i2 < 7 → Nk 8 200000 (pick TB7 (i1 * 7 + i2)) := fun i1 hi1 i2 hi2 => nk_of (allN_of (allN_of (T24) i1 hi1) i2 hi2)
theorem T25 : (allN 10 fun i1 : Nat => allN 7 fun i2 : Nat => nkB 8 200000 (pick TB8 (i1 * 7 + i2))) = true := by kernel_rfl
theorem V25 : ∀ i1 : Nat, i1 < 10 → ∀ i2 : Nat, i2 < 7 → Nk 8 200000 (pick TB8 (i1 * 7 + i2)) := fun i1 hi1 i2 hi2 => nk_of (allN_of (allN_of (T25) i1 hi1) i2 hi2)
theorem T26 : (allN 10 fun i1 : Nat => allN 5 fun i3 : Nat => nkB 8 200000 (pick TB10 (i1 * 5 + i3))) = true := by kernel_rfl
theorem V26 : ∀ i1 : Nat, i1 < 10 → ∀ i3 : Nat, i3 < 5 → Nk 8 200000 (pick TB10 (i1 * 5 + i3)) := fun i1 hi1 i3 hi3 => nk_of (allN_of (allN_of (T26) i1 hi1) i3 hi3)
theorem T27 : (allN 10 fun i1 : Nat => allN 5 fun i3 : Nat => nkB 8 200000 (pick TB9 (i1 * 5 + i3))) = true := by kernel_rfl
theorem V27 : ∀ i1 : Nat, i1 < 10 → ∀ i3 : Nat, i3 < 5 → Nk 8 200000 (pick TB9 (i1 * 5 + i3)) := fun i1 hi1 i3 hi3 => nk_of (allN_of (allN_of (T27) i1 hi1) i3 hi3)
def Keep (ns ds : List Int) (ρ : En) : Prop := ∃ s3 s4 s5 s6 s7 s8 s9 s10 s11 s12 s13 s14 s15 s16, ρ = [.sc ns, .da (.list (ds.map PyData.int)), .da C_pool_2, s3, s4, s5, s6, s7, s8, s9, s10, s11, s12, s13, s14, s15, s16]
theorem body_ok {ns ds : List Int} (hd : Dig ds) {u : Int} (hu0 : 0 ≤ u) (hu1 : u < 12) (s4 s5 s6 s7 s8 s9 s10 s11 s12 s13 s14 s15 s16 : Sl) :
    Nx (l_law_15 [.sc ns, .da (.list (ds.map PyData.int)), .da C_pool_2, .da (.int u), s4, s5, s6, s7, s8, s9, s10, s11, s12, s13, s14, s15, s16]) (Keep ns ds) := by
  unfold l_law_15
  refine nx_set (d := .int (10 + (8 * u))) (by unfold l_law_4; simp (disch := omega) only [↓bin2_e, b2K_e, b2L_e, ↓cst_e, getd_0, getd_s, nth_0, nth_s, b_ok, ofO_some, add_i, mul_i, List.set_cons_zero, List.set_cons_succ]) ?_
  obtain ⟨i0, e0, hi0⟩ := mix_fin (k := ((10 + (8 * u)) + 1)) (M := 2) (t := (.int 2)) hd (by omega) (by omega) (by kernel_rfl)
  have x0 : x_law_5 [.sc ns, .da (.list (ds.map PyData.int)), .da C_pool_2, .da (.int u), .da (.int (10 + (8 * u))), s5, s6, s7, s8, s9, s10, s11, s12, s13, s14, s15, s16] = .ok (.int (i0 : Nat)) := (mix_app (a := .list (ds.map PyData.int)) (k := .int (((10 + (8 * u)) + 1))) (b := (.int 2)) (by kernel_rfl) (by simp (disch := omega) only [↓bin2_e, b2K_e, b2L_e, ↓cst_e, getd_0, getd_s, nth_0, nth_s, b_ok, ofO_some, add_i, mul_i, List.set_cons_zero, List.set_cons_succ]) (by kernel_rfl)).trans e0
  have q_y_law_6 : (y_law_6) [.sc ns, .da (.list (ds.map PyData.int)), .da C_pool_2, .da (.int u), .da (.int (10 + (8 * u))), s5, s6, s7, s8, s9, s10, s11, s12, s13, s14, s15, s16] = .ok (pick TB1 i0) := by
    have e : (y_law_6) [.sc ns, .da (.list (ds.map PyData.int)), .da C_pool_2, .da (.int u), .da (.int (10 + (8 * u))), s5, s6, s7, s8, s9, s10, s11, s12, s13, s14, s15, s16] = (c_y_law_6 (x_law_5 [.sc ns, .da (.list (ds.map PyData.int)), .da C_pool_2, .da (.int u), .da (.int (10 + (8 * u))), s5, s6, s7, s8, s9, s10, s11, s12, s13, s14, s15, s16])) [.sc ns, .da (.list (ds.map PyData.int)), .da C_pool_2, .da (.int u), .da (.int (10 + (8 * u))), s5, s6, s7, s8, s9, s10, s11, s12, s13, s14, s15, s16] := by kernel_rfl
    rw [e, x0]
    exact V1 _ _ _ _ _ _ _ _ _ _ _ _ _ _ _ _ _ i0 hi0
  obtain ⟨i1, e1, hi1⟩ := mix_fin (k := (10 + (8 * u))) (M := 10) (t := (pick TB1 i0)) hd (by omega) (by omega) (V2 i0 hi0)
  have x1 : x_law_7 [.sc ns, .da (.list (ds.map PyData.int)), .da C_pool_2, .da (.int u), .da (.int (10 + (8 * u))), s5, s6, s7, s8, s9, s10, s11, s12, s13, s14, s15, s16] = .ok (.int (i1 : Nat)) := (mix_app (a := .list (ds.map PyData.int)) (k := .int ((10 + (8 * u)))) (b := (pick TB1 i0)) (by kernel_rfl) (by simp (disch := omega) only [↓bin2_e, b2K_e, b2L_e, ↓cst_e, getd_0, getd_s, nth_0, nth_s, b_ok, ofO_some, add_i, mul_i, List.set_cons_zero, List.set_cons_succ]) q_y_law_6).trans e1
  have q_l_law_5 : (l_law_5) [.sc ns, .da (.list (ds.map PyData.int)), .da C_pool_2, .da (.int u), .da (.int (10 + (8 * u))), s5, s6, s7, s8, s9, s10, s11, s12, s13, s14, s15, s16] = .ok (.tuple [(pick TB2 i1), (pick TB3 i1)]) := by
    have e : (l_law_5) [.sc ns, .da (.list (ds.map PyData.int)), .da C_pool_2, .da (.int u), .da (.int (10 + (8 * u))), s5, s6, s7, s8, s9, s10, s11, s12, s13, s14, s15, s16] = (c_l_law_5 (x_law_7 [.sc ns, .da (.list (ds.map PyData.int)), .da C_pool_2, .da (.int u), .da (.int (10 + (8 * u))), s5, s6, s7, s8, s9, s10, s11, s12, s13, s14, s15, s16])) [.sc ns, .da (.list (ds.map PyData.int)), .da C_pool_2, .da (.int u), .da (.int (10 + (8 * u))), s5, s6, s7, s8, s9, s10, s11, s12, s13, s14, s15, s16] := by kernel_rfl
    rw [e, x1]
    exact V3 _ _ _ _ _ _ _ _ _ _ _ _ _ _ _ _ i1 hi1
  refine nx_asg (d := (.tuple [(pick TB2 i1), (pick TB3 i1)])) (ρ1 := [.sc ns, .da (.list (ds.map PyData.int)), .da C_pool_2, .da (.int u), .da (.int (10 + (8 * u))), .da (pick TB2 i1), .da (pick TB3 i1), s7, s8, s9, s10, s11, s12, s13, s14, s15, s16]) q_l_law_5 rfl ?_
  obtain ⟨i2, e2, hi2⟩ := mix_fin (k := ((10 + (8 * u)) + 2)) (M := 7) (t := (.int 7)) hd (by omega) (by omega) (by kernel_rfl)
  have x2 : x_law_9 [.sc ns, .da (.list (ds.map PyData.int)), .da C_pool_2, .da (.int u), .da (.int (10 + (8 * u))), .da (pick TB2 i1), .da (pick TB3 i1), s7, s8, s9, s10, s11, s12, s13, s14, s15, s16] = .ok (.int (i2 : Nat)) := (mix_app (a := .list (ds.map PyData.int)) (k := .int (((10 + (8 * u)) + 2))) (b := (.int 7)) (by kernel_rfl) (by simp (disch := omega) only [↓bin2_e, b2K_e, b2L_e, ↓cst_e, getd_0, getd_s, nth_0, nth_s, b_ok, ofO_some, add_i, mul_i, List.set_cons_zero, List.set_cons_succ]) (by kernel_rfl)).trans e2
  have q_l_law_6 : (l_law_6) [.sc ns, .da (.list (ds.map PyData.int)), .da C_pool_2, .da (.int u), .da (.int (10 + (8 * u))), .da (pick TB2 i1), .da (pick TB3 i1), s7, s8, s9, s10, s11, s12, s13, s14, s15, s16] = .ok (pick TB4 i2) := by
    have e : (l_law_6) [.sc ns, .da (.list (ds.map PyData.int)), .da C_pool_2, .da (.int u), .da (.int (10 + (8 * u))), .da (pick TB2 i1), .da (pick TB3 i1), s7, s8, s9, s10, s11, s12, s13, s14, s15, s16] = (c_l_law_6 (x_law_9 [.sc ns, .da (.list (ds.map PyData.int)), .da C_pool_2, .da (.int u), .da (.int (10 + (8 * u))), .da (pick TB2 i1), .da (pick TB3 i1), s7, s8, s9, s10, s11, s12, s13, s14, s15, s16])) [.sc ns, .da (.list (ds.map PyData.int)), .da C_pool_2, .da (.int u), .da (.int (10 + (8 * u))), .da (pick TB2 i1), .da (pick TB3 i1), s7, s8, s9, s10, s11, s12, s13, s14, s15, s16] := by kernel_rfl
    rw [e, x2]
    exact V4 _ _ _ _ _ _ _ _ _ _ _ _ _ _ _ _ _ i2 hi2
  refine nx_set (d := (pick TB4 i2)) q_l_law_6 ?_
  obtain ⟨i3, e3, hi3⟩ := mix_fin (k := ((10 + (8 * u)) + 3)) (M := 5) (t := (.int 5)) hd (by omega) (by omega) (by kernel_rfl)
  have x3 : x_law_11 [.sc ns, .da (.list (ds.map PyData.int)), .da C_pool_2, .da (.int u), .da (.int (10 + (8 * u))), .da (pick TB2 i1), .da (pick TB3 i1), .da (pick TB4 i2), s8, s9, s10, s11, s12, s13, s14, s15, s16] = .ok (.int (i3 : Nat)) := (mix_app (a := .list (ds.map PyData.int)) (k := .int (((10 + (8 * u)) + 3))) (b := (.int 5)) (by kernel_rfl) (by simp (disch := omega) only [↓bin2_e, b2K_e, b2L_e, ↓cst_e, getd_0, getd_s, nth_0, nth_s, b_ok, ofO_some, add_i, mul_i, List.set_cons_zero, List.set_cons_succ]) (by kernel_rfl)).trans e3
  have q_l_law_7 : (l_law_7) [.sc ns, .da (.list (ds.map PyData.int)), .da C_pool_2, .da (.int u), .da (.int (10 + (8 * u))), .da (pick TB2 i1), .da (pick TB3 i1), .da (pick TB4 i2), s8, s9, s10, s11, s12, s13, s14, s15, s16] = .ok (pick TB5 i3) := by
    have e : (l_law_7) [.sc ns, .da (.list (ds.map PyData.int)), .da C_pool_2, .da (.int u), .da (.int (10 + (8 * u))), .da (pick TB2 i1), .da (pick TB3 i1), .da (pick TB4 i2), s8, s9, s10, s11, s12, s13, s14, s15, s16] = (c_l_law_7 (x_law_11 [.sc ns, .da (.list (ds.map PyData.int)), .da C_pool_2, .da (.int u), .da (.int (10 + (8 * u))), .da (pick TB2 i1), .da (pick TB3 i1), .da (pick TB4 i2), s8, s9, s10, s11, s12, s13, s14, s15, s16])) [.sc ns, .da (.list (ds.map PyData.int)), .da C_pool_2, .da (.int u), .da (.int (10 + (8 * u))), .da (pick TB2 i1), .da (pick TB3 i1), .da (pick TB4 i2), s8, s9, s10, s11, s12, s13, s14, s15, s16] := by kernel_rfl
    rw [e, x3]
    exact V5 _ _ _ _ _ _ _ _ _ _ _ _ _ _ _ _ _ i3 hi3
  refine nx_set (d := (pick TB5 i3)) q_l_law_7 ?_
  have hK := (show Nk 9 (2 * 200002 + 3) (.tuple [(pick TB2 i1), (pick TB4 i2)]) from nk_tup (k := 8) (n := 200000) (L := 2) (fun x hx => by
      simp only [List.mem_cons, List.not_mem_nil, or_false] at hx
      rcases hx with rfl | rfl <;> first | exact (V6 i1 hi1) | exact (V7 i2 hi2)) (by simp))
  refine nx_set (d := .str (PyData.shown (.tuple [(pick TB2 i1), (pick TB4 i2)]))) (repr_ok (a := .tuple [(pick TB2 i1), (pick TB4 i2)]) (by kernel_rfl) hK (by decide) (by decide)) ?_
  have q_l_law_9 : (l_law_9) [.sc ns, .da (.list (ds.map PyData.int)), .da C_pool_2, .da (.int u), .da (.int (10 + (8 * u))), .da (pick TB2 i1), .da (pick TB3 i1), .da (pick TB4 i2), .da (pick TB5 i3), .da (.str (PyData.shown (.tuple [(pick TB2 i1), (pick TB4 i2)]))), s10, s11, s12, s13, s14, s15, s16] = .ok (pick TB6 (i1 * 7 + i2)) := V8 _ _ _ _ _ _ _ _ _ _ _ _ _ _ _ i1 hi1 i2 hi2
  refine nx_set (d := (pick TB6 (i1 * 7 + i2))) q_l_law_9 ?_
  have q_l_law_10 : (l_law_10) [.sc ns, .da (.list (ds.map PyData.int)), .da C_pool_2, .da (.int u), .da (.int (10 + (8 * u))), .da (pick TB2 i1), .da (pick TB3 i1), .da (pick TB4 i2), .da (pick TB5 i3), .da (.str (PyData.shown (.tuple [(pick TB2 i1), (pick TB4 i2)]))), .da (pick TB6 (i1 * 7 + i2)), s11, s12, s13, s14, s15, s16] = .ok (pick TB7 (i1 * 7 + i2)) := V9 _ _ _ _ _ _ _ _ _ _ _ _ _ _ _ i1 hi1 i2 hi2
  refine nx_set (d := (pick TB7 (i1 * 7 + i2))) q_l_law_10 ?_
  have q_l_law_11 : (l_law_11) [.sc ns, .da (.list (ds.map PyData.int)), .da C_pool_2, .da (.int u), .da (.int (10 + (8 * u))), .da (pick TB2 i1), .da (pick TB3 i1), .da (pick TB4 i2), .da (pick TB5 i3), .da (.str (PyData.shown (.tuple [(pick TB2 i1), (pick TB4 i2)]))), .da (pick TB6 (i1 * 7 + i2)), .da (pick TB7 (i1 * 7 + i2)), s12, s13, s14, s15, s16] = .ok (pick TB8 (i1 * 7 + i2)) := V10 _ _ _ _ _ _ _ _ _ _ _ _ _ _ i1 hi1 i2 hi2
  refine nx_set (d := (pick TB8 (i1 * 7 + i2))) q_l_law_11 ?_
  have q_l_law_12 : (l_law_12) [.sc ns, .da (.list (ds.map PyData.int)), .da C_pool_2, .da (.int u), .da (.int (10 + (8 * u))), .da (pick TB2 i1), .da (pick TB3 i1), .da (pick TB4 i2), .da (pick TB5 i3), .da (.str (PyData.shown (.tuple [(pick TB2 i1), (pick TB4 i2)]))), .da (pick TB6 (i1 * 7 + i2)), .da (pick TB7 (i1 * 7 + i2)), .da (pick TB8 (i1 * 7 + i2)), s13, s14, s15, s16] = .ok (pick TB9 (i1 * 5 + i3)) := V11 _ _ _ _ _ _ _ _ _ _ _ _ _ _ _ i1 hi1 i3 hi3
  refine nx_set (d := (pick TB9 (i1 * 5 + i3))) q_l_law_12 ?_
  have q_l_law_13 : (l_law_13) [.sc ns, .da (.list (ds.map PyData.int)), .da C_pool_2, .da (.int u), .da (.int (10 + (8 * u))), .da (pick TB2 i1), .da (pick TB3 i1), .da (pick TB4 i2), .da (pick TB5 i3), .da (.str (PyData.shown (.tuple [(pick TB2 i1), (pick TB4 i2)]))), .da (pick TB6 (i1 * 7 + i2)), .da (pick TB7 (i1 * 7 + i2)), .da (pick TB8 (i1 * 7 + i2)), .da (pick TB9 (i1 * 5 + i3)), s14, s15, s16] = .ok (pick TB10 (i1 * 5 + i3)) := V12 _ _ _ _ _ _ _ _ _ _ _ _ _ _ _ i1 hi1 i3 hi3
  refine nx_set (d := (pick TB10 (i1 * 5 + i3))) q_l_law_13 ?_
  have q_r_law_19 : r_law_19 [.sc ns, .da (.list (ds.map PyData.int)), .da C_pool_2, .da (.int u), .da (.int (10 + (8 * u))), .da (pick TB2 i1), .da (pick TB3 i1), .da (pick TB4 i2), .da (pick TB5 i3), .da (.str (PyData.shown (.tuple [(pick TB2 i1), (pick TB4 i2)]))), .da (pick TB6 (i1 * 7 + i2)), .da (pick TB7 (i1 * 7 + i2)), .da (pick TB8 (i1 * 7 + i2)), .da (pick TB9 (i1 * 5 + i3)), .da (pick TB10 (i1 * 5 + i3)), s15, s16] = .ok (.list [(pick TB3 i1), (pick TB7 (i1 * 7 + i2)), (pick TB8 (i1 * 7 + i2)), (pick TB8 (i1 * 7 + i2)), (pick TB3 i1), (pick TB10 (i1 * 5 + i3)), (pick TB10 (i1 * 5 + i3)), (pick TB9 (i1 * 5 + i3)), (pick TB9 (i1 * 5 + i3)), (pick TB9 (i1 * 5 + i3))]) := by kernel_rfl
  have ar : ∀ w : Int, (argC (getd 16) (argC (getd 5) (argC (getd 7) (argC (getd 8) argN)))) (setE (wipeE [.sc ns, .da (.list (ds.map PyData.int)), .da C_pool_2, .da (.int u), .da (.int (10 + (8 * u))), .da (pick TB2 i1), .da (pick TB3 i1), .da (pick TB4 i2), .da (pick TB5 i3), .da (.str (PyData.shown (.tuple [(pick TB2 i1), (pick TB4 i2)]))), .da (pick TB6 (i1 * 7 + i2)), .da (pick TB7 (i1 * 7 + i2)), .da (pick TB8 (i1 * 7 + i2)), .da (pick TB9 (i1 * 5 + i3)), .da (pick TB10 (i1 * 5 + i3)), s15, s16] [16]) 16 (.da (.int w))) = .ok [.int w, (pick TB2 i1), (pick TB4 i2), (pick TB5 i3)] := fun w => by kernel_rfl
  have hl_l_law_14 : tL (lcF (gN 16) (rng1 (cst (.int 10))) yesB (appM f__law_of (argC (getd 16) (argC (getd 5) (argC (getd 7) (argC (getd 8) argN))))) [16]) [.sc ns, .da (.list (ds.map PyData.int)), .da C_pool_2, .da (.int u), .da (.int (10 + (8 * u))), .da (pick TB2 i1), .da (pick TB3 i1), .da (pick TB4 i2), .da (pick TB5 i3), .da (.str (PyData.shown (.tuple [(pick TB2 i1), (pick TB4 i2)]))), .da (pick TB6 (i1 * 7 + i2)), .da (pick TB7 (i1 * 7 + i2)), .da (pick TB8 (i1 * 7 + i2)), .da (pick TB9 (i1 * 5 + i3)), .da (pick TB10 (i1 * 5 + i3)), s15, s16] = .ok (.list [(pick TB3 i1), (pick TB7 (i1 * 7 + i2)), (pick TB8 (i1 * 7 + i2)), (pick TB8 (i1 * 7 + i2)), (pick TB3 i1), (pick TB10 (i1 * 5 + i3)), (pick TB10 (i1 * 5 + i3)), (pick TB9 (i1 * 5 + i3)), (pick TB9 (i1 * 5 + i3)), (pick TB9 (i1 * 5 + i3))]) := lc_rng [(pick TB3 i1), (pick TB7 (i1 * 7 + i2)), (pick TB8 (i1 * 7 + i2)), (pick TB8 (i1 * 7 + i2)), (pick TB3 i1), (pick TB10 (i1 * 5 + i3)), (pick TB10 (i1 * 5 + i3)), (pick TB9 (i1 * 5 + i3)), (pick TB9 (i1 * 5 + i3)), (pick TB9 (i1 * 5 + i3))] rfl (by decide) fun w hw => match w, hw with
      | 0, _ => ⟨_, rfl, by rw [appM_e, ar, b_ok]; exact V13 _ i1 hi1 i2 hi2⟩
      | 1, _ => ⟨_, rfl, by rw [appM_e, ar, b_ok]; exact V14 _ i1 hi1 i2 hi2⟩
      | 2, _ => ⟨_, rfl, by rw [appM_e, ar, b_ok]; exact V15 _ i1 hi1 i2 hi2⟩
      | 3, _ => ⟨_, rfl, by rw [appM_e, ar, b_ok]; exact V16 _ i1 hi1 i2 hi2⟩
      | 4, _ => ⟨_, rfl, by rw [appM_e, ar, b_ok]; exact V17 _ _ i1 hi1⟩
      | 5, _ => ⟨_, rfl, by rw [appM_e, ar, b_ok]; exact V18 _ i1 hi1 i3 hi3⟩
      | 6, _ => ⟨_, rfl, by rw [appM_e, ar, b_ok]; exact V19 _ i1 hi1 i3 hi3⟩
      | 7, _ => ⟨_, rfl, by rw [appM_e, ar, b_ok]; exact V20 _ i1 hi1 i3 hi3⟩
      | 8, _ => ⟨_, rfl, by rw [appM_e, ar, b_ok]; exact V21 _ i1 hi1 i3 hi3⟩
      | 9, _ => ⟨_, rfl, by rw [appM_e, ar, b_ok]; exact V22 _ i1 hi1 i3 hi3⟩
  have Hl_law_14 : l_law_14 [.sc ns, .da (.list (ds.map PyData.int)), .da C_pool_2, .da (.int u), .da (.int (10 + (8 * u))), .da (pick TB2 i1), .da (pick TB3 i1), .da (pick TB4 i2), .da (pick TB5 i3), .da (.str (PyData.shown (.tuple [(pick TB2 i1), (pick TB4 i2)]))), .da (pick TB6 (i1 * 7 + i2)), .da (pick TB7 (i1 * 7 + i2)), .da (pick TB8 (i1 * 7 + i2)), .da (pick TB9 (i1 * 5 + i3)), .da (pick TB10 (i1 * 5 + i3)), s15, s16] = .ok false := by
    unfold l_law_14
    exact (orB_ff (ne_ok hl_l_law_14 q_r_law_19 (show Nk 9 (10 * 200002 + 3) (.list [(pick TB3 i1), (pick TB7 (i1 * 7 + i2)), (pick TB8 (i1 * 7 + i2)), (pick TB8 (i1 * 7 + i2)), (pick TB3 i1), (pick TB10 (i1 * 5 + i3)), (pick TB10 (i1 * 5 + i3)), (pick TB9 (i1 * 5 + i3)), (pick TB9 (i1 * 5 + i3)), (pick TB9 (i1 * 5 + i3))]) from nk_list (k := 8) (n := 200000) (L := 10) (fun x hx => by
      simp only [List.mem_cons, List.not_mem_nil, or_false] at hx
      rcases hx with rfl | rfl | rfl | rfl | rfl | rfl | rfl | rfl | rfl | rfl <;> first | exact (V23 i1 hi1) | exact (V24 i1 hi1 i2 hi2) | exact (V25 i1 hi1 i2 hi2) | exact (V26 i1 hi1 i3 hi3) | exact (V27 i1 hi1 i3 hi3)) (by simp)) (by decide))
    (ne_okS (repr_ok (a := .tuple [(pick TB2 i1), (pick TB4 i2)]) (by kernel_rfl) hK (by decide) (by decide)) (by kernel_rfl)))
  exact nx_skipE Hl_law_14 ⟨_, _, _, _, _, _, _, _, _, _, _, _, _, _, rfl⟩
theorem law_holds (ns : List Int) : f_law ns = .ok (.bool true) := by
  obtain ⟨ds, ed, hd⟩ := drawsM_is ns
  unfold f_law fnS b_law
  rw [show enterS 17 ns = [.sc ns, .un, .un, .un, .un, .un, .un, .un, .un, .un, .un, .un, .un, .un, .un, .un, .un] from rfl, seq_nx (show setS 1 l_law_1 [.sc ns, .un, .un, .un, .un, .un, .un, .un, .un, .un, .un, .un, .un, .un, .un, .un, .un] = .ok (.nx [.sc ns, .da (.list (ds.map PyData.int)), .un, .un, .un, .un, .un, .un, .un, .un, .un, .un, .un, .un, .un, .un, .un]) from by unfold setS; rw [show l_law_1 [.sc ns, .un, .un, .un, .un, .un, .un, .un, .un, .un, .un, .un, .un, .un, .un, .un, .un] = .ok (.list (ds.map PyData.int)) from ed]; rfl), seq_nx (show (setS 2 l_law_2) [.sc ns, .da (.list (ds.map PyData.int)), .un, .un, .un, .un, .un, .un, .un, .un, .un, .un, .un, .un, .un, .un, .un] = .ok (.nx [.sc ns, .da (.list (ds.map PyData.int)), .da C_pool_1, .un, .un, .un, .un, .un, .un, .un, .un, .un, .un, .un, .un, .un, .un]) from by kernel_rfl), seq_nx (show (setS 2 l_law_3) [.sc ns, .da (.list (ds.map PyData.int)), .da C_pool_1, .un, .un, .un, .un, .un, .un, .un, .un, .un, .un, .un, .un, .un, .un] = .ok (.nx [.sc ns, .da (.list (ds.map PyData.int)), .da C_pool_2, .un, .un, .un, .un, .un, .un, .un, .un, .un, .un, .un, .un, .un, .un]) from by kernel_rfl)]
  obtain ⟨ρ', e, k⟩ := nx_for (P := Keep ns ds) (ml := rng1 (cst (.int 12))) (g := gN 3) (body := l_law_15) (ρ := [.sc ns, .da (.list (ds.map PyData.int)), .da C_pool_2, .un, .un, .un, .un, .un, .un, .un, .un, .un, .un, .un, .un, .un, .un]) (fun _ => Keep ns ds) (xs := rng 0 12)
    (rng1_i rfl (by decide) (by decide)) ⟨_, _, _, _, _, _, _, _, _, _, _, _, _, _, rfl⟩ (fun i x hx ρ hI => by
      obtain ⟨s3, s4, s5, s6, s7, s8, s9, s10, s11, s12, s13, s14, s15, s16, rfl⟩ := hI
      obtain ⟨rfl, h⟩ := rng_at hx
      exact ⟨_, rfl, body_ok hd (by omega) h s4 s5 s6 s7 s8 s9 s10 s11 s12 s13 s14 s15 s16⟩) (fun _ h => h)
  rw [seq_nx e]
  obtain ⟨s3, s4, s5, s6, s7, s8, s9, s10, s11, s12, s13, s14, s15, s16, rfl⟩ := k
  rfl
end My
namespace My
open PySem PySem.Spec PyProof.Rows L2 Mir
noncomputable def wFa : List He.Fa := ([.glo "_law_draws", .glo "_law_mix", .glo "_law_name", .glo "check_things", .glo "sets_of", .glo "load_of", .glo "holds_of", .glo "order_of", .glo "can_hold_of", .glo "weight_of", .glo "heaviest", .glo "is_bag", .glo "holds", .glo "load", .glo "check_some", .glo "order", .glo "can_hold", .glo "check_bound", .glo "is_packing", .glo "check_few", .glo "fits", .glo "parted", .glo "best_of", .glo "best", .glo "fewest", .glo "steady", .glo "floor", .glo "_law_of", .glo "law", .int "MOST_BORNE" (10000)] : List He.Fa) ++ ([.int "MOST_BOUND" (10000), .int "MOST_PACKED" (8), .int "MOST_THINGS" (10), .int "MOST_WEIGHT" (1000), .free "abs", .free "all", .free "enumerate", .free "int", .free "isinstance", .free "len", .free "list", .free "min", .free "range", .free "repr", .free "set", .free "sorted", .free "sum", .free "zip", .glo "ShopError", .glo "BadBag", .glo "BadThing", .glo "OutOfRange", .glo "TooMany", .glo "WrongSize"] : List He.Fa)
noncomputable def wFn : List He.FnD := ([⟨("_law_draws", none), "_law_draws", "_law_draws", defArgs s__law_draws, defBody s__law_draws, defScope s__law_draws⟩, ⟨("_law_mix", none), "_law_mix", "_law_mix", defArgs s__law_mix, defBody s__law_mix, defScope s__law_mix⟩, ⟨("_law_name", none), "_law_name", "_law_name", defArgs s__law_name, defBody s__law_name, defScope s__law_name⟩, ⟨("check_things", none), "check_things", "check_things", defArgs s_check_things, defBody s_check_things, defScope s_check_things⟩, ⟨("sets_of", none), "sets_of", "sets_of", defArgs s_sets_of, defBody s_sets_of, defScope s_sets_of⟩, ⟨("load_of", none), "load_of", "load_of", defArgs s_load_of, defBody s_load_of, defScope s_load_of⟩, ⟨("holds_of", none), "holds_of", "holds_of", defArgs s_holds_of, defBody s_holds_of, defScope s_holds_of⟩, ⟨("order_of", none), "order_of", "order_of", defArgs s_order_of, defBody s_order_of, defScope s_order_of⟩, ⟨("can_hold_of", none), "can_hold_of", "can_hold_of", defArgs s_can_hold_of, defBody s_can_hold_of, defScope s_can_hold_of⟩, ⟨("weight_of", none), "weight_of", "weight_of", defArgs s_weight_of, defBody s_weight_of, defScope s_weight_of⟩, ⟨("heaviest", none), "heaviest", "heaviest", defArgs s_heaviest, defBody s_heaviest, defScope s_heaviest⟩, ⟨("is_bag", none), "is_bag", "is_bag", defArgs s_is_bag, defBody s_is_bag, defScope s_is_bag⟩, ⟨("holds", none), "holds", "holds", defArgs s_holds, defBody s_holds, defScope s_holds⟩, ⟨("load", none), "load", "load", defArgs s_load, defBody s_load, defScope s_load⟩, ⟨("check_some", none), "check_some", "check_some", defArgs s_check_some, defBody s_check_some, defScope s_check_some⟩, ⟨("order", none), "order", "order", defArgs s_order, defBody s_order, defScope s_order⟩, ⟨("can_hold", none), "can_hold", "can_hold", defArgs s_can_hold, defBody s_can_hold, defScope s_can_hold⟩, ⟨("check_bound", none), "check_bound", "check_bound", defArgs s_check_bound, defBody s_check_bound, defScope s_check_bound⟩, ⟨("is_packing", none), "is_packing", "is_packing", defArgs s_is_packing, defBody s_is_packing, defScope s_is_packing⟩, ⟨("check_few", none), "check_few", "check_few", defArgs s_check_few, defBody s_check_few, defScope s_check_few⟩, ⟨("fits", none), "fits", "fits", defArgs s_fits, defBody s_fits, defScope s_fits⟩, ⟨("parted", none), "parted", "parted", defArgs s_parted, defBody s_parted, defScope s_parted⟩, ⟨("best_of", none), "best_of", "best_of", defArgs s_best_of, defBody s_best_of, defScope s_best_of⟩, ⟨("best", none), "best", "best", defArgs s_best, defBody s_best, defScope s_best⟩, ⟨("fewest", none), "fewest", "fewest", defArgs s_fewest, defBody s_fewest, defScope s_fewest⟩, ⟨("steady", none), "steady", "steady", defArgs s_steady, defBody s_steady, defScope s_steady⟩, ⟨("floor", none), "floor", "floor", defArgs s_floor, defBody s_floor, defScope s_floor⟩, ⟨("_law_of", none), "_law_of", "_law_of", defArgs s__law_of, defBody s__law_of, defScope s__law_of⟩, ⟨("law", none), "law", "law", defArgs s_law, defBody s_law, defScope s_law⟩] : List He.FnD)
noncomputable def wBl : List (Str × String) := ([] : List (Str × String))
noncomputable def want : Want := ⟨wFn, wFa, wBl⟩
noncomputable def iniSt : Stmt := clsIni (topS 1)
noncomputable def wantE : WantE := ⟨want, "ShopError", (PySem.Challenge.pw_bargainstold_k66_errors_of_packing.main.file : Str), iniSt, "ShopError.__init__", "__init__", Lv, []⟩
theorem iniSc : NdefX.NScope iniN iniP ["__class__"] (defScope iniSt) := NdefX.nscope_by (by decide +kernel)
theorem iniSu : (defScope iniSt).names.lookup ("super" : Str) = some .globalImplicit := by decide +kernel
theorem iniTxt : IniTxt wantE.ini wantE.qual wantE.name := ⟨fun cc c => ⟨_, _, _, _, _, _, _, _, _, _, _, _, rfl, rfl, rfl, iniSc, iniSu, fun _ _ => rfl, fun _ _ => rfl, fun _ _ => ⟨_, rfl⟩⟩, fun cc c doc pm ct us hl => match us, hl with | [_, _], _ => rfl⟩
def loose : List Str := (["ShopError", "OutOfRange", "TooMany", "WrongSize", "BadThing", "BadBag", "MOST_THINGS", "MOST_WEIGHT", "MOST_BORNE", "check_things", "is_bag", "load_of", "holds_of", "holds", "load", "order_of", "check_some", "order", "can_hold_of", "can_hold", "weight_of", "sets_of", "heaviest", "MOST_BOUND", "MOST_PACKED", "check_bound", "is_packing", "fits", "parted", "best_of"] : List Str) ++ (["check_few", "best", "fewest", "steady", "floor", "_law_draws", "_law_mix", "_law_name", "_law_of"] : List Str)
abbrev Rw : PySem.W.OpenRow := PySem.W.OpenLaw.row PySem.Challenge.rw_bargainstold_k66_errors_of_packing
noncomputable def hob (s : PySem.W.SharedT) : He.Al := wantE.obsG 4 (HandSHeadRun.getT s)
theorem hob_eq (s : PySem.W.SharedT) : hob s = (wantE.hook 4).obs s.abs := WantE.obsG_eq (HandSHeadRun.getT_eq s)
theorem topRun (w : World) : HandSHeadRun.RunEq Rw (PySem.W.view Rw.prog [43]) (wantE.hook 4) hob 20000 loose w := by
  intro os
  kernel_rfl
theorem facts {P : Program} {w : World} {K : PySem.W.Frag} {h : Heap} {mg : Str → Option Value} {fa : Addr} {cl : String → Addr} (hcl : cl = fun c => He.ga K (Str.ofString c)) (X : K.In h) (G : h.Ns mainGlobals mg) (hfa : mg "law" = some (.ref fa)) (htop : (P.main.scope.names.lookup ("super" : Str)).isSome = false) (hfile : ((P.main.file : Str) == wantE.file) = true) (cE : wantE.Says K) :
    ∃ fd : FuncData, (∀ (s : Shared) (v : Value), BindsTo s fd ⟨[v], []⟩ [("script", v)]) ∧ ∀ base : Heap, FnG P w K mg base 18 fa fd ["script"] (spS K cl f_law) := by
  have c : want.Says K := cE.want
  subst hcl
  obtain ⟨d0, F0⟩ := c.def_ X G 0 (x := "_law_draws") (st := s__law_draws) rfl (c.fact 0 rfl)
  obtain ⟨d1, F1⟩ := c.def_ X G 1 (x := "_law_mix") (st := s__law_mix) rfl (c.fact 1 rfl)
  obtain ⟨d2, F2⟩ := c.def_ X G 2 (x := "_law_name") (st := s__law_name) rfl (c.fact 2 rfl)
  obtain ⟨d3, F3⟩ := c.def_ X G 3 (x := "check_things") (st := s_check_things) rfl (c.fact 3 rfl)
  obtain ⟨d4, F4⟩ := c.def_ X G 4 (x := "sets_of") (st := s_sets_of) rfl (c.fact 4 rfl)
  obtain ⟨d5, F5⟩ := c.def_ X G 5 (x := "load_of") (st := s_load_of) rfl (c.fact 5 rfl)
  obtain ⟨d6, F6⟩ := c.def_ X G 6 (x := "holds_of") (st := s_holds_of) rfl (c.fact 6 rfl)
  obtain ⟨d7, F7⟩ := c.def_ X G 7 (x := "order_of") (st := s_order_of) rfl (c.fact 7 rfl)
  obtain ⟨d8, F8⟩ := c.def_ X G 8 (x := "can_hold_of") (st := s_can_hold_of) rfl (c.fact 8 rfl)
  obtain ⟨d9, F9⟩ := c.def_ X G 9 (x := "weight_of") (st := s_weight_of) rfl (c.fact 9 rfl)
  obtain ⟨d10, F10⟩ := c.def_ X G 10 (x := "heaviest") (st := s_heaviest) rfl (c.fact 10 rfl)
  obtain ⟨d11, F11⟩ := c.def_ X G 11 (x := "is_bag") (st := s_is_bag) rfl (c.fact 11 rfl)
  obtain ⟨d12, F12⟩ := c.def_ X G 12 (x := "holds") (st := s_holds) rfl (c.fact 12 rfl)
  obtain ⟨d13, F13⟩ := c.def_ X G 13 (x := "load") (st := s_load) rfl (c.fact 13 rfl)
  obtain ⟨d14, F14⟩ := c.def_ X G 14 (x := "check_some") (st := s_check_some) rfl (c.fact 14 rfl)
  obtain ⟨d15, F15⟩ := c.def_ X G 15 (x := "order") (st := s_order) rfl (c.fact 15 rfl)
  obtain ⟨d16, F16⟩ := c.def_ X G 16 (x := "can_hold") (st := s_can_hold) rfl (c.fact 16 rfl)
  obtain ⟨d17, F17⟩ := c.def_ X G 17 (x := "check_bound") (st := s_check_bound) rfl (c.fact 17 rfl)
  obtain ⟨d18, F18⟩ := c.def_ X G 18 (x := "is_packing") (st := s_is_packing) rfl (c.fact 18 rfl)
  obtain ⟨d19, F19⟩ := c.def_ X G 19 (x := "check_few") (st := s_check_few) rfl (c.fact 19 rfl)
  obtain ⟨d20, F20⟩ := c.def_ X G 20 (x := "fits") (st := s_fits) rfl (c.fact 20 rfl)
  obtain ⟨d21, F21⟩ := c.def_ X G 21 (x := "parted") (st := s_parted) rfl (c.fact 21 rfl)
  obtain ⟨d22, F22⟩ := c.def_ X G 22 (x := "best_of") (st := s_best_of) rfl (c.fact 22 rfl)
  obtain ⟨d23, F23⟩ := c.def_ X G 23 (x := "best") (st := s_best) rfl (c.fact 23 rfl)
  obtain ⟨d24, F24⟩ := c.def_ X G 24 (x := "fewest") (st := s_fewest) rfl (c.fact 24 rfl)
  obtain ⟨d25, F25⟩ := c.def_ X G 25 (x := "steady") (st := s_steady) rfl (c.fact 25 rfl)
  obtain ⟨d26, F26⟩ := c.def_ X G 26 (x := "floor") (st := s_floor) rfl (c.fact 26 rfl)
  obtain ⟨d27, F27⟩ := c.def_ X G 27 (x := "_law_of") (st := s__law_of) rfl (c.fact 27 rfl)
  obtain ⟨d28, F28⟩ := c.def_ X G 28 (x := "law") (st := s_law) rfl (c.fact 28 rfl)
  obtain ⟨tk0, g0⟩ := He.int_ok X G (c.fact 29 rfl)
  obtain ⟨tk1, g1⟩ := He.int_ok X G (c.fact 30 rfl)
  obtain ⟨tk2, g2⟩ := He.int_ok X G (c.fact 31 rfl)
  obtain ⟨tk3, g3⟩ := He.int_ok X G (c.fact 32 rfl)
  obtain ⟨tk4, g4⟩ := He.int_ok X G (c.fact 33 rfl)
  have e := hfa.symm.trans F28.2
  cases e
  let T : Tx P w K mg _ := { D0 := He.ga K wantE.B, fI := iniAd K wantE.B, ini := fun base => cE.ini_ok X G iniTxt htop hfile base, gB := He.glo_ok X G (c.fact 48 rfl), e_BadBag := ⟨(cE.leaf (x := "BadBag") (by decide)).1, (cE.leaf (x := "BadBag") (by decide)).2.1, He.glo_ok X G (c.fact 49 rfl)⟩, e_BadThing := ⟨(cE.leaf (x := "BadThing") (by decide)).1, (cE.leaf (x := "BadThing") (by decide)).2.1, He.glo_ok X G (c.fact 50 rfl)⟩, e_OutOfRange := ⟨(cE.leaf (x := "OutOfRange") (by decide)).1, (cE.leaf (x := "OutOfRange") (by decide)).2.1, He.glo_ok X G (c.fact 51 rfl)⟩, e_TooMany := ⟨(cE.leaf (x := "TooMany") (by decide)).1, (cE.leaf (x := "TooMany") (by decide)).2.1, He.glo_ok X G (c.fact 52 rfl)⟩, e_WrongSize := ⟨(cE.leaf (x := "WrongSize") (by decide)).1, (cE.leaf (x := "WrongSize") (by decide)).2.1, He.glo_ok X G (c.fact 53 rfl)⟩, ct := fun x hx => (cE.leaf hx).2.2, ki := fun x y hx hy => cE.kit hx hy, a__law_draws := _, d__law_draws := d0, t__law_draws := tf_of F0 (fun _ _ _ _ _ _ us hl => match us, hl with | [_], _ => rfl), a__law_mix := _, d__law_mix := d1, t__law_mix := tf_of F1 (fun _ _ _ _ _ _ us hl => match us, hl with | [_, _, _], _ => rfl), a__law_name := _, d__law_name := d2, t__law_name := tf_of F2 (fun _ _ _ _ _ _ us hl => match us, hl with | [_], _ => rfl), a_check_things := _, d_check_things := d3, t_check_things := tf_of F3 (fun _ _ _ _ _ _ us hl => match us, hl with | [_], _ => rfl), a_sets_of := _, d_sets_of := d4, t_sets_of := tf_of F4 (fun _ _ _ _ _ _ us hl => match us, hl with | [_], _ => rfl), a_load_of := _, d_load_of := d5, t_load_of := tf_of F5 (fun _ _ _ _ _ _ us hl => match us, hl with | [_, _], _ => rfl), a_holds_of := _, d_holds_of := d6, t_holds_of := tf_of F6 (fun _ _ _ _ _ _ us hl => match us, hl with | [_, _], _ => rfl), a_order_of := _, d_order_of := d7, t_order_of := tf_of F7 (fun _ _ _ _ _ _ us hl => match us, hl with | [_, _], _ => rfl), a_can_hold_of := _, d_can_hold_of := d8, t_can_hold_of := tf_of F8 (fun _ _ _ _ _ _ us hl => match us, hl with | [_, _], _ => rfl), a_weight_of := _, d_weight_of := d9, t_weight_of := tf_of F9 (fun _ _ _ _ _ _ us hl => match us, hl with | [_, _], _ => rfl), a_heaviest := _, d_heaviest := d10, t_heaviest := tf_of F10 (fun _ _ _ _ _ _ us hl => match us, hl with | [_], _ => rfl), a_is_bag := _, d_is_bag := d11, t_is_bag := tf_of F11 (fun _ _ _ _ _ _ us hl => match us, hl with | [_, _], _ => rfl), a_holds := _, d_holds := d12, t_holds := tf_of F12 (fun _ _ _ _ _ _ us hl => match us, hl with | [_, _], _ => rfl), a_load := _, d_load := d13, t_load := tf_of F13 (fun _ _ _ _ _ _ us hl => match us, hl with | [_, _], _ => rfl), a_check_some := _, d_check_some := d14, t_check_some := tf_of F14 (fun _ _ _ _ _ _ us hl => match us, hl with | [_, _], _ => rfl), a_order := _, d_order := d15, t_order := tf_of F15 (fun _ _ _ _ _ _ us hl => match us, hl with | [_, _], _ => rfl), a_can_hold := _, d_can_hold := d16, t_can_hold := tf_of F16 (fun _ _ _ _ _ _ us hl => match us, hl with | [_, _], _ => rfl), a_check_bound := _, d_check_bound := d17, t_check_bound := tf_of F17 (fun _ _ _ _ _ _ us hl => match us, hl with | [_, _], _ => rfl), a_is_packing := _, d_is_packing := d18, t_is_packing := tf_of F18 (fun _ _ _ _ _ _ us hl => match us, hl with | [_, _, _], _ => rfl), a_check_few := _, d_check_few := d19, t_check_few := tf_of F19 (fun _ _ _ _ _ _ us hl => match us, hl with | [_, _], _ => rfl), a_fits := _, d_fits := d20, t_fits := tf_of F20 (fun _ _ _ _ _ _ us hl => match us, hl with | [_, _, _], _ => rfl), a_parted := _, d_parted := d21, t_parted := tf_of F21 (fun _ _ _ _ _ _ us hl => match us, hl with | [_, _, _, _, _], _ => rfl), a_best_of := _, d_best_of := d22, t_best_of := tf_of F22 (fun _ _ _ _ _ _ us hl => match us, hl with | [_, _], _ => rfl), a_best := _, d_best := d23, t_best := tf_of F23 (fun _ _ _ _ _ _ us hl => match us, hl with | [_, _], _ => rfl), a_fewest := _, d_fewest := d24, t_fewest := tf_of F24 (fun _ _ _ _ _ _ us hl => match us, hl with | [_, _], _ => rfl), a_steady := _, d_steady := d25, t_steady := tf_of F25 (fun _ _ _ _ _ _ us hl => match us, hl with | [_, _], _ => rfl), a_floor := _, d_floor := d26, t_floor := tf_of F26 (fun _ _ _ _ _ _ us hl => match us, hl with | [_, _], _ => rfl), a__law_of := _, d__law_of := d27, t__law_of := tf_of F27 (fun _ _ _ _ _ _ us hl => match us, hl with | [_, _, _, _], _ => rfl), a_law := _, d_law := d28, t_law := tf_of F28 (fun _ _ _ _ _ _ us hl => match us, hl with | [_], _ => rfl), k_MOST_BORNE := tk0, g_MOST_BORNE := g0, k_MOST_BOUND := tk1, g_MOST_BOUND := g1, k_MOST_PACKED := tk2, g_MOST_PACKED := g2, k_MOST_THINGS := tk3, g_MOST_THINGS := g3, k_MOST_WEIGHT := tk4, g_MOST_WEIGHT := g4, z_abs := He.free_ok X G (c.fact 34 rfl), z_all := He.free_ok X G (c.fact 35 rfl), z_enumerate := He.free_ok X G (c.fact 36 rfl), z_int := He.free_ok X G (c.fact 37 rfl), z_isinstance := He.free_ok X G (c.fact 38 rfl), z_len := He.free_ok X G (c.fact 39 rfl), z_list := He.free_ok X G (c.fact 40 rfl), z_min := He.free_ok X G (c.fact 41 rfl), z_range := He.free_ok X G (c.fact 42 rfl), z_repr := He.free_ok X G (c.fact 43 rfl), z_set := He.free_ok X G (c.fact 44 rfl), z_sorted := He.free_ok X G (c.fact 45 rfl), z_sum := He.free_ok X G (c.fact 46 rfl), z_zip := He.free_ok X G (c.fact 47 rfl), sm := c.sys }
  refine ⟨d28, fun s v => ?_, fun base => ok_law (P := P) (w := w) (base := base) (cl := _) T⟩
  obtain ⟨oc, od, kV, doc, pm, an, cdv, ct, osl, rfl, _, _⟩ := F28.1.ex
  exact .of_eq rfl
end My
open PySem PySem.W PySem.Calls PyProof.Rows
set_option maxHeartbeats 0 in
theorem PySem.Challenge.cw_bargainstold_k66_errors_of_packing_holds : PySem.Challenge.rw_bargainstold_k66_errors_of_packing.Holds := by
  w_on; o_law
  refine HandSHeadRun.head_any (r := OpenLaw.row PySem.Challenge.rw_bargainstold_k66_errors_of_packing) (q := view (OpenLaw.row PySem.Challenge.rw_bargainstold_k66_errors_of_packing).prog [43]) (H := My.wantE.hook 4) (ob := My.hob) (M := 20000) (loose := My.loose) (d := HandSHeadRun.topDef (OpenLaw.row PySem.Challenge.rw_bargainstold_k66_errors_of_packing).prog 43) (kwd := []) My.hob_eq
    (by kernel_rfl) (fun s => by kernel_rfl) My.topRun (by kernel_rfl) (by kernel_rfl) (by kernel_rfl) (by rfl) (by first | assumption | decide +kernel) (by decide +kernel) ⟨rfl, rfl, rfl, rfl, rfl, by decide +kernel⟩ ?hw ?hc
  case hw => w_witness2
  case hc =>
    refine Mir.walk_goE (l := PySem.Challenge.rw_bargainstold_k66_errors_of_packing) (n := 63) (k := 18) (x := "script") (f := My.f_law) rfl (by decide) (by kernel_rfl) ⟨rfl, by decide, by decide⟩ ?F (fun ns _ => My.law_holds ns)
    intro w mg fa h Y G hmg0
    obtain ⟨K, KX, c⟩ := Y
    have hmg : mg ("law" : PySem.Str) = some (.ref fa) := by
      have e : (HandSHeadRun.topDef (OpenLaw.row PySem.Challenge.rw_bargainstold_k66_errors_of_packing).prog 43).name = ("law" : PySem.Str) := by kernel_rfl
      rw [← e]
      exact hmg0
    obtain ⟨fd, hb, hF⟩ := My.facts (P := (PySem.Challenge.rw_bargainstold_k66_errors_of_packing).prog) (w := w) rfl KX G hmg (by kernel_rfl) (by kernel_rfl) c
    exact ⟨K, _, fd, KX, hb, hF⟩
