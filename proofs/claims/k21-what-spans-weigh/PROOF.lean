import PyProof.Rows.All
import Wide.All
import OpenK.AllK
import Wide.FinOn
import HandS.ForMost
import HandS.ForExc
import HandS.CallSlots
import HandS.Wide
import HandS.IsInst
import HandS.Strs
import HandS.Zip
import HandS.TupAny
import HandS.TupMul
import HandS.Conv
import HandS.Lambda
import HandS.Style
import HandS.RaiseMore
import KE.KNestM
import HandS.SetBool
import HandS.SetFor
import PyProof.ZipIter
import HandS.Zip0
import KE.GoesEnumKw
import PyProof.Draws
import PyProof.EnumMake
import HandS.Deep
import HandS.SortInts
import HandS.Defaults
import HandS.TupSets
import HandS.HotCalls
import HandS.ExcIs
import KE.DataMinMax
import KE.SortKeyed
import HandS.SortKw
import KE.KDictWalk
import HandS.TupLen
import HandS.More
import PySem.Challenge.RW_outlasts_k21_what_spans_weigh
set_option Elab.async false
set_option linter.all false
set_option maxRecDepth 100000
set_option maxHeartbeats 4000000
/-! D1: data read in the abstract heap, slots, what stays. -/
namespace DL
open PySem L2

/-- the key of a dict as data -/
def kD : Key → PyData
  | .inl i => .int i
  | .inr x => .str x
/-- the key of a dict by tuples of whole numbers -/
def kT (k : List Int) : PyData := .tuple (k.map PyData.int)
/-- a dict known to the object -/
def DTo (a : Addr) (o : Obj) : HO := .ext fun h => h.get? a = some o
/-- its entries: key, the key's tuple, value -/
abbrev Ent := List Key × Addr × Value
structure EsOk (a : Addr) (o : Obj) (xs : List Ent) : Prop where
  sm : (a == sysModules) = false
  ex : o.ExactDict
  es : ∃ es ep, o.data = .dict es ep ∧ ∀ (P : Program) (w : World), es.toList = xs.map (entryOfKey (tupleKind (mixKind P w)))
  nd : (xs.map (·.1)).Nodup
  sz : xs.length ≤ sizeLine
  ne : xs ≠ []

/-- a list of the written part -/
def WrL (K : PySem.W.Frag) (a : Addr) (xs : List V) : Prop := ∃ its n, K.lookup a = some { cls := Value.type "list", data := Data.seq its n } ∧ its.size ≤ sizeLine ∧ Vals xs its.toList ∧ a ≠ sysModules
/-- a list to be read -/
def LsR (K : PySem.W.Frag) (H : Hp) (a : Addr) (xs : List V) : Prop := Rd H a (.lst xs) ∨ WrL K a xs
theorem LsR.sq {K : PySem.W.Frag} {H : Hp} {a : Addr} {xs : List V} (h : LsR K H a xs) : SqL K H a xs := by
  rcases h with h | ⟨its, n, h1, h2, h3, _⟩
  · exact .inl h
  · exact .inr ⟨_, its, n, h1, rfl, rfl, rfl, h2, h3⟩
mutual
/-- v reads as d; its lists and dicts stand in the region F of what is never changed -/
inductive DF (K : PySem.W.Frag) (H : Hp) (F : Addr → Prop) : V → PyData → Prop where
  | non : DF K H F .non .none
  | bl (b : Bool) : DF K H F (.bl b) (.bool b)
  | int (i : Int) : DF K H F (.int i) (.int i)
  | str (x : Str) : DF K H F (.str x) (.str x)
  | lst {a : Addr} {xs : List V} {ds : List PyData} : F a → Rd H a (.lst xs) → DFs K H F xs ds → DF K H F (.ref a) (.list ds)
  | lstK {a : Addr} {xs : List V} {ds : List PyData} : WrL K a xs → DFs K H F xs ds → DF K H F (.ref a) (.list ds)
  | tup {a : Addr} {xs : List V} {ds : List PyData} : SqT K H a xs → DFs K H F xs ds → DF K H F (.ref a) (.tuple ds)
  | dct {a : Addr} {ks : List (Key × V)} {ds : List (PyData × PyData)} : F a → Rd H a (.dK ks) → DFk K H F ks ds → DF K H F (.ref a) (.dict ds)
  | dcT {a : Addr} {o : Obj} {xs : List Ent} {ds : List (PyData × PyData)} : F a → H a = some (DTo a o) → EsOk a o xs → DFt K H F xs ds → DF K H F (.ref a) (.dict ds)
inductive DFs (K : PySem.W.Frag) (H : Hp) (F : Addr → Prop) : List V → List PyData → Prop where
  | nil : DFs K H F [] []
  | cons {v : V} {d : PyData} {vs : List V} {ds : List PyData} : DF K H F v d → DFs K H F vs ds → DFs K H F (v :: vs) (d :: ds)
inductive DFk (K : PySem.W.Frag) (H : Hp) (F : Addr → Prop) : List (Key × V) → List (PyData × PyData) → Prop where
  | nil : DFk K H F [] []
  | cons {k : Key} {v : V} {d : PyData} {vs : List (Key × V)} {ds : List (PyData × PyData)} : DF K H F v d → DFk K H F vs ds → DFk K H F ((k, v) :: vs) ((kD k, d) :: ds)
inductive DFt (K : PySem.W.Frag) (H : Hp) (F : Addr → Prop) : List Ent → List (PyData × PyData) → Prop where
  | nil : DFt K H F [] []
  | cons {k : List Int} {q : Addr} {v : V} {u : Value} {d : PyData} {vs : List Ent} {ds : List (PyData × PyData)} : SqT K H q (k.map V.int) → L2.RelV v u → DF K H F v d → DFt K H F vs ds → DFt K H F ((k.map Sum.inl, q, u) :: vs) ((kT k, d) :: ds)
end

/-- an object that never changes by itself -/
def Still : HO → Prop
  | .tup _ => True
  | .frz _ _ => True
  | .xd _ => True
  | _ => False
/-- no table of code objects -/
def NT : HO → Prop
  | .tbl _ => False
  | _ => True
theorem NT.ne {o : HO} (h : NT o) (ps : Array Value) : o ≠ .tbl ps := fun e => by subst e; exact h
theorem nt_of {o : HO} (h : ∀ ps, o ≠ .tbl ps) : NT o := by
  cases o <;> first | trivial | exact h _ rfl
/-- neither a table nor a code object -/
def NC (o : HO) : Prop := NT o ∧ ∀ c q, o ≠ LamX.CodeO c q

/-- what the region and the still things hold stays -/
def Kept (F : Addr → Prop) (H H' : Hp) : Prop := ∀ b o, H b = some o → ((F b ∧ NT o) ∨ Still o) → H' b = some o

theorem Kept.refl {F : Addr → Prop} {H : Hp} : Kept F H H := fun _ _ h _ => h

theorem Kept.rdF {F : Addr → Prop} {H H' : Hp} {a : Addr} {u : HO} (k : Kept F H H') (hF : F a) (r : Rd H a u) (nt : NT u := by trivial) : Rd H' a u := by
  rcases r with r | ⟨o, r⟩
  · exact .inl (k _ _ r (.inl ⟨hF, nt⟩))
  · exact .inr ⟨o, k _ _ r (.inl ⟨hF, trivial⟩)⟩
theorem Kept.sqT {K : PySem.W.Frag} {F : Addr → Prop} {H H' : Hp} {a : Addr} {xs : List V} (k : Kept F H H') (r : SqT K H a xs) : SqT K H' a xs := by
  rcases r with (r | ⟨o, r⟩) | r
  · exact .inl (.inl (k _ _ r (.inr trivial)))
  · exact .inl (.inr ⟨o, k _ _ r (.inr trivial)⟩)
  · exact .inr r

section
variable {K : PySem.W.Frag} {H H' : Hp} {F F' : Addr → Prop}
mutual
theorem DF.mono (k : Kept F H H') (g : ∀ b, F b → F' b) : ∀ {v : V} {d : PyData}, DF K H F v d → DF K H' F' v d
  | _, _, .non => .non
  | _, _, .bl b => .bl b
  | _, _, .int i => .int i
  | _, _, .str x => .str x
  | _, _, .lst f r s => .lst (g _ f) (k.rdF f r) (DFs.mono k g s)
  | _, _, .lstK r s => .lstK r (DFs.mono k g s)
  | _, _, .tup r s => .tup (k.sqT r) (DFs.mono k g s)
  | _, _, .dct f r s => .dct (g _ f) (k.rdF f r) (DFk.mono k g s)
  | _, _, .dcT f r e s => .dcT (g _ f) (k _ _ r (.inl ⟨f, trivial⟩)) e (DFt.mono k g s)
theorem DFs.mono (k : Kept F H H') (g : ∀ b, F b → F' b) : ∀ {vs : List V} {ds : List PyData}, DFs K H F vs ds → DFs K H' F' vs ds
  | _, _, .nil => .nil
  | _, _, .cons a b => .cons (DF.mono k g a) (DFs.mono k g b)
theorem DFk.mono (k : Kept F H H') (g : ∀ b, F b → F' b) : ∀ {vs : List (Key × V)} {ds : List (PyData × PyData)}, DFk K H F vs ds → DFk K H' F' vs ds
  | _, _, .nil => .nil
  | _, _, .cons a b => .cons (DF.mono k g a) (DFk.mono k g b)
theorem DFt.mono (k : Kept F H H') (g : ∀ b, F b → F' b) : ∀ {vs : List Ent} {ds : List (PyData × PyData)}, DFt K H F vs ds → DFt K H' F' vs ds
  | _, _, .nil => .nil
  | _, _, .cons q r a b => .cons (k.sqT q) r (DF.mono k g a) (DFt.mono k g b)
end

theorem DFs.length : ∀ {vs : List V} {ds : List PyData}, DFs K H F vs ds → vs.length = ds.length
  | _, _, .nil => rfl
  | _, _, .cons _ b => by rw [List.length_cons, List.length_cons, DFs.length b]
theorem DFs.append : ∀ {vs us : List V} {ds es : List PyData}, DFs K H F vs ds → DFs K H F us es → DFs K H F (vs ++ us) (ds ++ es)
  | _, _, _, _, .nil, h => h
  | _, _, _, _, .cons a b, h => .cons a (DFs.append b h)
theorem DFs.get : ∀ {vs : List V} {ds : List PyData} {i : Nat} {d : PyData}, DFs K H F vs ds → ds[i]? = some d → ∃ v, vs[i]? = some v ∧ DF K H F v d
  | _, _, _, _, .nil, e => by simp at e
  | _, _, 0, _, .cons a _, e => by simp at e; subst e; exact ⟨_, rfl, a⟩
  | _, _, i + 1, d, .cons _ b, e => by
    obtain ⟨v, h1, h2⟩ := DFs.get (i := i) (d := d) b (by simpa using e)
    exact ⟨v, by simpa using h1, h2⟩
theorem DFs.get2 : ∀ {vs : List V} {ds : List PyData} {i : Nat} {v : V}, DFs K H F vs ds → vs[i]? = some v → ∃ d, ds[i]? = some d ∧ DF K H F v d
  | _, _, _, _, .nil, e => by simp at e
  | _, _, 0, _, .cons a _, e => by simp at e; subst e; exact ⟨_, rfl, a⟩
  | _, _, i + 1, v, .cons _ b, e => by
    obtain ⟨d, h1, h2⟩ := DFs.get2 (i := i) (v := v) b (by simpa using e)
    exact ⟨d, by simpa using h1, h2⟩
theorem DFs.set {v : V} {d : PyData} (h : DF K H F v d) : ∀ {vs : List V} {ds : List PyData} (i : Nat), DFs K H F vs ds → DFs K H F (vs.set i v) (ds.set i d)
  | _, _, _, .nil => .nil
  | _, _, 0, .cons _ b => .cons h b
  | _, _, i + 1, .cons a b => .cons a (DFs.set h i b)
theorem DFs.take : ∀ {vs : List V} {ds : List PyData} (n : Nat), DFs K H F vs ds → DFs K H F (vs.take n) (ds.take n)
  | _, _, 0, _ => .nil
  | _, _, _ + 1, .nil => .nil
  | _, _, n + 1, .cons a b => .cons a (DFs.take n b)
theorem DFs.drop : ∀ {vs : List V} {ds : List PyData} (n : Nat), DFs K H F vs ds → DFs K H F (vs.drop n) (ds.drop n)
  | _, _, 0, h => h
  | _, _, _ + 1, .nil => .nil
  | _, _, n + 1, .cons _ b => DFs.drop n b
theorem DFs.reverse : ∀ {vs : List V} {ds : List PyData}, DFs K H F vs ds → DFs K H F vs.reverse ds.reverse
  | _, _, .nil => .nil
  | _, _, .cons a b => by
    rw [List.reverse_cons, List.reverse_cons]
    exact DFs.append (DFs.reverse b) (.cons a .nil)
theorem DFs.dropLast {vs : List V} {ds : List PyData} (h : DFs K H F vs ds) : DFs K H F vs.dropLast ds.dropLast := by
  rw [List.dropLast_eq_take, List.dropLast_eq_take, h.length]
  exact h.take _
theorem DFs.ints : ∀ {vs : List V} {ns : List Int}, DFs K H F vs (ns.map PyData.int) → vs = ns.map V.int
  | _, [], .nil => rfl
  | _, n :: r, .cons a b => by
    cases a
    rw [List.map_cons, DFs.ints b]
theorem DFs.of_ints : ∀ (ns : List Int), DFs K H F (ns.map V.int) (ns.map PyData.int)
  | [] => .nil
  | n :: r => .cons (.int n) (DFs.of_ints r)
theorem DFs.bools : ∀ {vs : List V} {ns : List Bool}, DFs K H F vs (ns.map PyData.bool) → vs = ns.map V.bl
  | _, [], .nil => rfl
  | _, n :: r, .cons a b => by
    cases a
    rw [List.map_cons, DFs.bools b]
theorem DFs.strs : ∀ {vs : List V} {ns : List Str}, DFs K H F vs (ns.map PyData.str) → vs = ns.map V.str
  | _, [], .nil => rfl
  | _, n :: r, .cons a b => by
    cases a
    rw [List.map_cons, DFs.strs b]
end

/-! ### results and slots -/
inductive R where
  | dat (d : PyData)
  /-- a list or dict that one slot alone holds -/
  | own (d : PyData)
  /-- what slot i holds -/
  | slt (i : Nat)
  | fn (k : Nat)
  /-- a set of ints -/
  | st (xs : List Int)
  /-- an exception that was caught -/
  | ex (c : Nat) (fs : List PyData)
  /-- a new pair of two new lists -/
  | two (d e : PyData)

abbrev Rho := List (Option R)
/-- an expression's end: a result and the slots, or an exception -/
inductive Oc where
  | ok (r : R) (ρ : Rho)
  | er (c : Nat) (fs : List PyData) (ρ : Rho)

/-- the text's own things: the written part, the defs' places, the classes' places -/
structure Tb where
  K : PySem.W.Frag
  w : World
  fa : Nat → Addr
  ca : Nat → Addr
  /-- the tables of the defs that make lambdas -/
  tb : List (Addr × Str) := []
  /-- the exception that a suite holds: its place, its class, its dict -/
  hot : Option (Addr × Nat × Option Addr) := none

/-- a list or a dict at a, held by one alone -/
def OwnAt (K : PySem.W.Frag) (H : Hp) (F : Addr → Prop) (a : Addr) : PyData → Prop
  | .list ds => ∃ vs, H a = some (.lst vs) ∧ DFs K H F vs ds
  | .dict ds => (∃ ks, H a = some (.dK ks) ∧ DFk K H F ks ds) ∨ ∃ o xs, H a = some (DTo a o) ∧ EsOk a o xs ∧ DFt K H F xs ds
  | _ => False
def SetAt (w : World) (H : Hp) (a : Addr) (xs : List Int) : Prop := ∃ S, H a = some (SetO w a S xs.length) ∧ xs.Nodup ∧ ∀ k, S k = true ↔ k ∈ xs

/-- an exception object's fields -/
def ExcR (T : Tb) (H : Hp) (cls : Value) (d : Option Addr) (c : Nat) (fs : List PyData) : Prop :=
  cls = .ref (T.ca c) ∧ match fs with
    | [] => d = none
    | [.int m, .int n] => ∃ x, d = some x ∧ H x = some (.xd [("many", .int m), ("most", .int n)])
    | _ => False

def SlotR (T : Tb) (H : Hp) (F : Addr → Prop) (oa : Option Addr) (v : V) : R → Prop
  | .dat d => oa = none ∧ DF T.K H F v d
  | .own d => ∃ a, oa = some a ∧ v = .ref a ∧ OwnAt T.K H F a d
  | .slt _ => False
  | .fn k => oa = none ∧ v = .ref (T.fa k)
  | .st xs => ∃ a, oa = some a ∧ v = .ref a ∧ SetAt T.w H a xs
  | .ex c fs => oa = none ∧ ∃ a d, v = .ref a ∧ T.hot = some (a, c, d) ∧ ExcR T H (.ref (T.ca c)) d c fs
  | .two _ _ => False

structure EnvR (T : Tb) (H : Hp) (F : Addr → Prop) (O : Nat → Option Addr) (σ : L2.St) (ρ : Rho) : Prop where
  len : ρ.length = σ.length
  at_ : ∀ i r, ρ[i]? = some (some r) → ∃ v, σ[i]? = some (some v) ∧ SlotR T H F (O i) v r
  own : ∀ i a, O i = some a → ∃ r, ρ[i]? = some (some r)
  inj : ∀ i j a, O i = some a → O j = some a → i = j
  nf : ∀ i a, O i = some a → ¬ F a
  lv : ∀ b, F b → H b ≠ none
  tb : LamX.Tabs T.tb H

/-- what a stretch of the run leaves; s: whether slots may be stored in it -/
structure Ext (s : Bool) (H : Hp) (F : Addr → Prop) (O : Nat → Option Addr) (H' : Hp) (F' : Addr → Prop) (O' : Nat → Option Addr) : Prop where
  keep : ∀ b o, H b = some o → (∀ i, O i ≠ some b) → NT o → H' b = some o
  live : ∀ b, H' b = none → H b = none
  grow : ∀ b, F b → F' b
  new : ∀ b, F' b → F b ∨ (∃ i, O i = some b) ∨ H b = none
  own : ∀ i b, O' i = some b → O i = some b ∨ (s = true ∧ ((∃ j, O j = some b) ∨ H b = none))

theorem Ext.refl {s : Bool} {H : Hp} {F : Addr → Prop} {O : Nat → Option Addr} : Ext s H F O H F O :=
  ⟨fun _ _ h _ _ => h, fun _ h => h, fun _ h => h, fun _ h => .inl h, fun _ _ h => .inl h⟩
theorem Ext.ow {s : Bool} {H H' : Hp} {F F' : Addr → Prop} {O O' : Nat → Option Addr} (x : Ext s H F O H' F' O') {i : Nat} {b : Addr} (h : O' i = some b) : (∃ j, O j = some b) ∨ H b = none :=
  (x.own i b h).elim (fun z => .inl ⟨i, z⟩) fun z => z.2
theorem Ext.up {s : Bool} {H H' : Hp} {F F' : Addr → Prop} {O O' : Nat → Option Addr} (x : Ext false H F O H' F' O') : Ext s H F O H' F' O' :=
  ⟨x.keep, x.live, x.grow, x.new, fun i b h => (x.own i b h).elim .inl fun z => nomatch z.1⟩
theorem Ext.trans {s : Bool} {H H1 H2 : Hp} {F F1 F2 : Addr → Prop} {O O1 O2 : Nat → Option Addr} (a : Ext s H F O H1 F1 O1) (b : Ext s H1 F1 O1 H2 F2 O2) : Ext s H F O H2 F2 O2 := by
  refine ⟨fun c o h n z => b.keep c o (a.keep c o h n z) (fun i e => ?_) z, fun c h => a.live c (b.live c h), fun c h => b.grow c (a.grow c h), fun c h => ?_, fun i c h => ?_⟩
  · rcases a.ow e with ⟨j, q⟩ | q
    · exact n j q
    · rw [h] at q; cases q
  · rcases b.new c h with q | ⟨i, q⟩ | q
    · exact a.new c q
    · rcases a.ow q with z | z
      · exact .inr (.inl z)
      · exact .inr (.inr z)
    · exact .inr (.inr (a.live c q))
  · rcases b.own i c h with q | ⟨hs, ⟨j, q⟩ | q⟩
    · exact a.own i c q
    · exact .inr ⟨hs, a.ow q⟩
    · exact .inr ⟨hs, .inr (a.live c q)⟩

section
variable {T : Tb} {H H' : Hp} {F F' : Addr → Prop} {O O' : Nat → Option Addr} {σ : L2.St} {ρ : Rho}
theorem OwnAt.there {K : PySem.W.Frag} {a : Addr} : ∀ {d : PyData}, OwnAt K H F a d → ∃ o, H a = some o ∧ ¬ Still o
  | .list _, ⟨_, h, _⟩ => ⟨_, h, fun z => z⟩
  | .dict _, .inl ⟨_, h, _⟩ => ⟨_, h, fun z => z⟩
  | .dict _, .inr ⟨_, _, h, _⟩ => ⟨_, h, fun z => z⟩
theorem SetAt.there {w : World} {a : Addr} {xs : List Int} (h : SetAt w H a xs) : ∃ o, H a = some o ∧ ¬ Still o := by
  obtain ⟨S, h, _⟩ := h
  exact ⟨_, h, fun z => z⟩
/-- what a slot alone holds stands in the heap and may change -/
theorem EnvR.there (E : EnvR T H F O σ ρ) {i : Nat} {a : Addr} (h : O i = some a) : ∃ o, H a = some o ∧ ¬ Still o := by
  obtain ⟨r, e⟩ := E.own i a h
  obtain ⟨v, _, s⟩ := E.at_ i r e
  cases r with
  | dat d => obtain ⟨z, _⟩ := s; rw [h] at z; cases z
  | own d => obtain ⟨b, z, _, q⟩ := s; rw [h] at z; cases z; exact q.there
  | slt j => exact s.elim
  | fn k => obtain ⟨z, _⟩ := s; rw [h] at z; cases z
  | st xs => obtain ⟨b, z, _, q⟩ := s; rw [h] at z; cases z; exact q.there
  | ex c fs => obtain ⟨z, _⟩ := s; rw [h] at z; cases z
  | two d e => exact s.elim
theorem still_nt : ∀ {o : HO}, Still o → NT o
  | .tup _, _ => trivial
  | .frz _ _, _ => trivial
  | .xd _, _ => trivial
/-- a stretch keeps the region and the still things -/
theorem EnvR.kept {s : Bool} (E : EnvR T H F O σ ρ) (x : Ext s H F O H' F' O') : Kept F H H' := fun b o h q => x.keep b o h (fun i e => by
  rcases q with q | q
  · exact E.nf i b e q.1
  · obtain ⟨o', h', n⟩ := E.there e
    rw [h] at h'; cases h'
    exact n q) (q.elim (fun z => z.2) still_nt)
/-- a set's object is no code object -/
theorem set_nc {w : World} {a : Addr} {S : Int → Bool} {n : Nat} : NC (SetO w a S n) := by
  refine ⟨trivial, fun c q e => ?_⟩
  have e1 : (HO.ext fun h => SetR w h a S n) = HO.ext fun h => ∃ (oc : Obj) (vs : Array Value) (t : Tok), h.get? c = some oc ∧ oc.data = .fields vs ∧ vs[1]? = some (.str q t) := e
  injection e1 with e2
  by_cases hac : a = c
  · subst hac
    have g : Heap.get? ⟨Array.replicate (a + 1) ⟨.none, none, .fields #[.none, .str q default], #[]⟩, {}⟩ a = some ⟨.none, none, .fields #[.none, .str q default], #[]⟩ := by
      unfold Heap.get?
      simp
    have z := (congrFun e2 ⟨Array.replicate (a + 1) ⟨.none, none, .fields #[.none, .str q default], #[]⟩, {}⟩).mpr ⟨_, _, default, g, rfl, rfl⟩
    obtain ⟨o, es, ep, t, h1, _, h2, _⟩ := z
    rw [g] at h1
    cases h1
    cases h2
  · have g : Heap.get? ⟨((Array.replicate (a + c + 1) ⟨.none, none, .freed, #[]⟩).set! c ⟨.none, none, .fields #[.none, .str q default], #[]⟩), {}⟩ c = some ⟨.none, none, .fields #[.none, .str q default], #[]⟩ := by
      unfold Heap.get?
      simp [Array.getElem?_setIfInBounds]
      omega
    have g' : Heap.get? ⟨((Array.replicate (a + c + 1) ⟨.none, none, .freed, #[]⟩).set! c ⟨.none, none, .fields #[.none, .str q default], #[]⟩), {}⟩ a = none := by
      unfold Heap.get?
      simp [Array.getElem?_setIfInBounds, Ne.symm hac]
      rw [Array.getElem?_replicate, if_pos (by omega)]
    have z := (congrFun e2 _).mpr ⟨_, _, default, g, rfl, rfl⟩
    obtain ⟨o, es, ep, t, h1, _⟩ := z
    rw [g'] at h1
    cases h1
theorem lst_nc {vs : List V} : NC (.lst vs) := ⟨trivial, fun _ _ e => by unfold LamX.CodeO at e; cases e⟩
theorem dK_nc {vs : List (Key × V)} : NC (.dK vs) := ⟨trivial, fun _ _ e => by unfold LamX.CodeO at e; cases e⟩
theorem dTo_nc {a : Addr} {o : Obj} (x : o.ExactDict) (hd : ∃ es ep, o.data = .dict es ep) : NC (DTo a o) := by
  refine ⟨trivial, fun c q e => ?_⟩
  have e1 : (HO.ext fun h => h.get? a = some o) = HO.ext fun h => ∃ (oc : Obj) (vs : Array Value) (t : Tok), h.get? c = some oc ∧ oc.data = .fields vs ∧ vs[1]? = some (.str q t) := e
  injection e1 with e2
  obtain ⟨es, ep, hd⟩ := hd
  have g : Heap.get? ⟨((Array.replicate (a + 1) ⟨.none, none, .freed, #[]⟩).set! a o), {}⟩ a = some o := by
    unfold Heap.get?
    simp
    obtain ⟨oc, od, dt, sl⟩ := o
    simp only at hd
    subst hd
    rfl
  obtain ⟨oc, vs, t, h1, h2, _⟩ := (congrFun e2 _).mp g
  by_cases hac : c = a
  · subst hac
    rw [g] at h1
    cases h1
    rw [hd] at h2
    cases h2
  · have g' : Heap.get? ⟨((Array.replicate (a + 1) ⟨.none, none, .freed, #[]⟩).set! a o), {}⟩ c = none := by
      unfold Heap.get?
      simp [Array.getElem?_setIfInBounds, Ne.symm hac]
      by_cases hl : c < a + 1
      · rw [Array.getElem?_replicate, if_pos hl]
      · rw [Array.getElem?_replicate, if_neg hl]
    rw [g'] at h1
    cases h1
/-- what one alone holds is no table -/
theorem OwnAt.nc {K : PySem.W.Frag} {a : Addr} {o : HO} (ho : H a = some o) : ∀ {d : PyData}, OwnAt K H F a d → NC o
  | .list _, ⟨_, h, _⟩ => by rw [ho] at h; cases h; exact lst_nc
  | .dict _, .inl ⟨_, h, _⟩ => by rw [ho] at h; cases h; exact dK_nc
  | .dict _, .inr ⟨_, _, h, e, _⟩ => by
    rw [ho] at h
    cases h
    obtain ⟨es, ep, hd, _⟩ := e.es
    exact dTo_nc e.ex ⟨es, ep, hd⟩
theorem SetAt.nc {w : World} {a : Addr} {o : HO} {xs : List Int} (ho : H a = some o) (h : SetAt w H a xs) : NC o := by
  obtain ⟨S, h, _⟩ := h
  rw [ho] at h; cases h; exact set_nc
theorem EnvR.nc (E : EnvR T H F O σ ρ) {i : Nat} {a : Addr} {o : HO} (h : O i = some a) (ho : H a = some o) : NC o := by
  obtain ⟨r, e⟩ := E.own i a h
  obtain ⟨v, _, s⟩ := E.at_ i r e
  cases r with
  | dat d => obtain ⟨z, _⟩ := s; rw [h] at z; cases z
  | own d => obtain ⟨b, z, _, q⟩ := s; rw [h] at z; cases z; exact q.nc ho
  | slt j => exact s.elim
  | fn k => obtain ⟨z, _⟩ := s; rw [h] at z; cases z
  | st xs => obtain ⟨b, z, _, q⟩ := s; rw [h] at z; cases z; exact q.nc ho
  | ex c fs => obtain ⟨z, _⟩ := s; rw [h] at z; cases z
  | two d e => exact s.elim
/-- another object in the place of one that is no table -/
theorem tabs_put {L : List (Addr × Str)} {a : Addr} {o o' : HO} (t : LamX.Tabs L H) (ho : H a = some o) (n : NC o) : LamX.Tabs L (upd H a o') := fun p hp => by
  obtain ⟨ps, h1, h2, h3⟩ := t p hp
  have ne : p.1 ≠ a := fun z => by
    rw [z, ho] at h1
    cases h1
    exact n.1
  refine ⟨ps, by rw [upd_ne ne]; exact h1, h2, fun pos cv hc => ?_⟩
  obtain ⟨c, e1, e2⟩ := h3 pos cv hc
  refine ⟨c, e1, ?_⟩
  have nc : c ≠ a := fun z => by
    rw [z, ho] at e2
    cases e2
    exact n.2 _ _ rfl
  rw [upd_ne nc]
  exact e2
theorem ExcR.mono {cls : Value} {dx : Option Addr} {c : Nat} (k : Kept F H H') : ∀ {fs : List PyData}, ExcR T H cls dx c fs → ExcR T H' cls dx c fs
  | [], h => h
  | [.int _, .int _], ⟨h1, x, h2, h3⟩ => ⟨h1, x, h2, k _ _ h3 (.inr trivial)⟩
theorem OwnAt.mono {K : PySem.W.Frag} {a : Addr} (k : Kept F H H') (g : ∀ b, F b → F' b) (ha : ∀ o, H a = some o → H' a = some o) : ∀ {d : PyData}, OwnAt K H F a d → OwnAt K H' F' a d
  | .list _, ⟨vs, h, s⟩ => ⟨vs, ha _ h, s.mono k g⟩
  | .dict _, .inl ⟨vs, h, s⟩ => .inl ⟨vs, ha _ h, s.mono k g⟩
  | .dict _, .inr ⟨o, xs, h, e, s⟩ => .inr ⟨o, xs, ha _ h, e, s.mono k g⟩
theorem SetAt.mono {w : World} {a : Addr} {xs : List Int} (ha : ∀ o, H a = some o → H' a = some o) (h : SetAt w H a xs) : SetAt w H' a xs := by
  obtain ⟨S, h, q⟩ := h
  exact ⟨S, ha _ h, q⟩
theorem SlotR.mono {oa : Option Addr} {v : V} (k : Kept F H H') (g : ∀ b, F b → F' b) (ha : ∀ a o, oa = some a → H a = some o → H' a = some o) : ∀ {r : R}, SlotR T H F oa v r → SlotR T H' F' oa v r
  | .dat _, ⟨h1, h2⟩ => ⟨h1, h2.mono k g⟩
  | .own _, ⟨a, h1, h2, h3⟩ => ⟨a, h1, h2, h3.mono k g fun o => ha a o h1⟩
  | .fn _, h => h
  | .st _, ⟨a, h1, h2, h3⟩ => ⟨a, h1, h2, h3.mono fun o => ha a o h1⟩
  | .ex _ _, ⟨h1, a, d, h2, h3, h4⟩ => ⟨h1, a, d, h2, h3, h4.mono k⟩
/-- the slots stand over a heap that has grown -/
theorem EnvR.grown (E : EnvR T H F O σ ρ) (k : ∀ b o, H b = some o → H' b = some o) (g : ∀ b, F b → F' b) (n : ∀ i a, O i = some a → ¬ F' a) (l : ∀ b, F' b → H' b ≠ none) : EnvR T H' F' O σ ρ :=
  ⟨E.len, fun i r e => let ⟨v, h1, h2⟩ := E.at_ i r e; ⟨v, h1, h2.mono (fun b o h _ => k b o h) g fun a o _ h => k a o h⟩, E.own, E.inj, n, l, E.tb.ext k⟩
end

/-- a new object -/
theorem kept_new {H : Hp} {p : Addr} {o : HO} (hp : H p = none) : ∀ b u, H b = some u → upd H p o b = some u := fun b u e => by
  rw [upd_ne (ne_of_none e hp)]; exact e
section
variable {T : Tb} {H : Hp} {F : Addr → Prop} {O : Nat → Option Addr} {σ : L2.St} {ρ : Rho} {p : Addr} {o : HO}
theorem EnvR.ne_new (E : EnvR T H F O σ ρ) (hp : H p = none) : ∀ i, O i ≠ some p := fun i e => by
  obtain ⟨u, h, _⟩ := E.there e
  rw [hp] at h; cases h
/-- a new object that is nobody's, or goes into the region -/
theorem live_new (hp : H p = none) : ∀ b, H b ≠ none → upd H p o b ≠ none := fun b h => by
  cases q : H b with
  | none => exact absurd q h
  | some u => rw [kept_new hp b u q]; simp
theorem EnvR.laid (E : EnvR T H F O σ ρ) (hp : H p = none) : EnvR T (upd H p o) F O σ ρ := E.grown (kept_new hp) (fun _ h => h) E.nf fun b h => live_new hp b (E.lv b h)
theorem EnvR.laidF (E : EnvR T H F O σ ρ) (hp : H p = none) : EnvR T (upd H p o) (fun b => F b ∨ b = p) O σ ρ :=
  E.grown (kept_new hp) (fun _ h => .inl h) (fun i a e q => q.elim (E.nf i a e) fun z => E.ne_new hp i (z ▸ e)) fun b h => h.elim (fun z => live_new hp b (E.lv b z)) fun z => by rw [z, upd_same]; simp
theorem Ext.laid {s : Bool} (hp : H p = none) : Ext s H F O (upd H p o) F O :=
  ⟨fun b u h _ _ => kept_new hp b u h, fun b h => by
    by_cases e : b = p
    · subst e; exact hp
    · rw [upd_ne e] at h; exact h, fun _ h => h, fun _ h => .inl h, fun _ _ h => .inl h⟩
end
end DL

/-! D2: what an expression comes to, and the reading that says so. -/
namespace DL
open PySem L2

/-- an end of a piece: a thing and the slots, or an exception -/
inductive Oe (α : Type) where
  | ok (a : α) (ρ : Rho)
  | er (c : Nat) (fs : List PyData) (ρ : Rho)
abbrev EM := Rho → Option (Oe R)
abbrev AM := Rho → Option (Oe (List R))

def bindO {α β : Type} (o : Option (Oe α)) (g : α → Rho → Option (Oe β)) : Option (Oe β) :=
  match o with
  | some (.ok a ρ) => g a ρ
  | some (.er c fs ρ) => some (.er c fs ρ)
  | none => none
@[simp] theorem bindO_ok {α β : Type} (a : α) (ρ : Rho) (g : α → Rho → Option (Oe β)) : bindO (some (.ok a ρ)) g = g a ρ := rfl
@[simp] theorem bindO_er {α β : Type} (c : Nat) (fs : List PyData) (ρ : Rho) (g : α → Rho → Option (Oe β)) : bindO (some (.er c fs ρ)) g = some (.er c fs ρ) := rfl
@[simp] theorem bindO_none {α β : Type} (g : α → Rho → Option (Oe β)) : bindO none g = none := rfl

/-- what a slot holds, as data -/
def slotD : Option (Option R) → Option PyData
  | some (some (.dat d)) => some d
  | some (some (.own d)) => some d
  | _ => none
/-- a result as data, as it stands now -/
def val (ρ : Rho) : R → Option PyData
  | .dat d => some d
  | .own d => some d
  | .slt i => slotD ρ[i]?
  | _ => none
/-- a result as data that stays: what one slot held alone is so no more -/
def frz (ρ : Rho) : R → Option (PyData × Rho)
  | .dat d => some (d, ρ)
  | .own d => some (d, ρ)
  | .slt i => (slotD ρ[i]?).map fun d => (d, ρ.set i (some (.dat d)))
  | _ => none

/-- v is the result r; what is new in it is new since H0 -/
def ResR (T : Tb) (H0 H : Hp) (F : Addr → Prop) (O : Nat → Option Addr) (σ : L2.St) (v : V) : R → Prop
  | .dat d => DF T.K H F v d
  | .own d => ∃ a, v = .ref a ∧ H0 a = none ∧ ¬ F a ∧ (∀ i, O i ≠ some a) ∧ OwnAt T.K H F a d
  | .slt i => σ[i]? = some (some v)
  | .fn k => v = .ref (T.fa k)
  | .st xs => ∃ a, v = .ref a ∧ H0 a = none ∧ ¬ F a ∧ (∀ i, O i ≠ some a) ∧ SetAt T.w H a xs
  | .ex c fs => ∃ a dx, v = .ref a ∧ T.hot = some (a, c, dx) ∧ ExcR T H (.ref (T.ca c)) dx c fs
  | .two d e => ∃ p a b, v = .ref p ∧ H p = some (.tup [.ref a, .ref b]) ∧ a ≠ b ∧ (H0 a = none ∧ ¬ F a ∧ (∀ i, O i ≠ some a) ∧ OwnAt T.K H F a d) ∧ (H0 b = none ∧ ¬ F b ∧ (∀ i, O i ≠ some b) ∧ OwnAt T.K H F b e)
/-- v reads as d just now -/
def Vw (T : Tb) (H : Hp) (F : Addr → Prop) (v : V) (d : PyData) : Prop := DF T.K H F v d ∨ ∃ a, v = .ref a ∧ OwnAt T.K H F a d

section
variable {T : Tb} {H0 H H' : Hp} {F F' : Addr → Prop} {O O' : Nat → Option Addr} {σ : L2.St} {ρ : Rho} {v : V} {d : PyData}
theorem own_ext {s : Bool} (E : EnvR T H F O σ ρ) (x : Ext s H F O H' F' O') {a : Addr} {d : PyData} (h3 : ¬ F a) (h4 : ∀ i, O i ≠ some a) (h5 : OwnAt T.K H F a d) : ¬ F' a ∧ (∀ i, O' i ≠ some a) ∧ OwnAt T.K H' F' a d := by
  obtain ⟨o, ho, _⟩ := h5.there
  refine ⟨fun q => ?_, fun i q => ?_, h5.mono (E.kept x) x.grow fun o h => x.keep a o h h4 (h5.nc h).1⟩
  · rcases x.new a q with z | ⟨i, z⟩ | z
    · exact h3 z
    · exact h4 i z
    · rw [ho] at z; cases z
  · rcases x.ow q with ⟨j, z⟩ | z
    · exact h4 j z
    · rw [ho] at z; cases z
theorem ResR.mono {s : Bool} (E : EnvR T H F O σ ρ) (x : Ext s H F O H' F' O') : ∀ {r : R}, ResR T H0 H F O σ v r → ResR T H0 H' F' O' σ v r
  | .dat _, h => DF.mono (E.kept x) x.grow h
  | .own _, ⟨a, h1, h2, h3, h4, h5⟩ => by
    obtain ⟨o, ho, _⟩ := h5.there
    refine ⟨a, h1, h2, fun q => ?_, fun i q => ?_, h5.mono (E.kept x) x.grow fun o h => x.keep a o h h4 (h5.nc h).1⟩
    · rcases x.new a q with z | ⟨i, z⟩ | z
      · exact h3 z
      · exact h4 i z
      · rw [ho] at z; cases z
    · rcases x.ow q with ⟨j, z⟩ | z
      · exact h4 j z
      · rw [ho] at z; cases z
  | .slt _, h => h
  | .fn _, h => h
  | .st _, ⟨a, h1, h2, h3, h4, h5⟩ => by
    obtain ⟨o, ho, _⟩ := h5.there
    refine ⟨a, h1, h2, fun q => ?_, fun i q => ?_, h5.mono fun o h => x.keep a o h h4 (h5.nc h).1⟩
    · rcases x.new a q with z | ⟨i, z⟩ | z
      · exact h3 z
      · exact h4 i z
      · rw [ho] at z; cases z
    · rcases x.ow q with ⟨j, z⟩ | z
      · exact h4 j z
      · rw [ho] at z; cases z
  | .ex _ _, ⟨a, dx, h1, h2, h3⟩ => ⟨a, dx, h1, h2, h3.mono (E.kept x)⟩
  | .two _ _, ⟨p, a, b, h1, h2, h3, ⟨a1, a2, a3, a4⟩, b1, b2, b3, b4⟩ => ⟨p, a, b, h1, E.kept x _ _ h2 (.inr trivial), h3, ⟨a1, own_ext E x a2 a3 a4⟩, b1, own_ext E x b2 b3 b4⟩
/-- new since later is new since earlier -/
theorem ResR.back {H1 : Hp} (l : ∀ b, H1 b = none → H0 b = none) : ∀ {r : R}, ResR T H1 H F O σ v r → ResR T H0 H F O σ v r
  | .dat _, h => h
  | .own _, ⟨a, h1, h2, h3⟩ => ⟨a, h1, l a h2, h3⟩
  | .slt _, h => h
  | .fn _, h => h
  | .st _, ⟨a, h1, h2, h3⟩ => ⟨a, h1, l a h2, h3⟩
  | .ex _ _, h => h
  | .two _ _, ⟨p, a, b, h1, h2, h3, ⟨a1, a2⟩, b1, b2⟩ => ⟨p, a, b, h1, h2, h3, ⟨l a a1, a2⟩, l b b1, b2⟩
theorem slot_vw (E : EnvR T H F O σ ρ) {i : Nat} (hv : σ[i]? = some (some v)) (h : slotD ρ[i]? = some d) : Vw T H F v d := by
  cases q : ρ[i]? with
  | none => rw [q] at h; cases h
  | some o =>
    cases o with
    | none => rw [q] at h; cases h
    | some r =>
      obtain ⟨u, hu, s⟩ := E.at_ i r q
      rw [hv] at hu; cases hu
      rw [q] at h
      cases r with
      | dat e => cases h; exact .inl s.2
      | own e => cases h; obtain ⟨a, _, h2, h3⟩ := s; exact .inr ⟨a, h2, h3⟩
      | slt j => cases h
      | fn k => cases h
      | st xs => cases h
      | ex c fs => cases h
      | two d e => cases h
theorem val_vw (E : EnvR T H F O σ ρ) : ∀ {r : R}, ResR T H0 H F O σ v r → val ρ r = some d → Vw T H F v d
  | .dat _, h, e => by cases e; exact .inl h
  | .own _, ⟨a, h1, _, _, _, h5⟩, e => by cases e; exact .inr ⟨a, h1, h5⟩
  | .slt _, h, e => slot_vw E h e
/-! what a view tells -/
theorem Vw.non (h : Vw T H F v .none) : v = .non := by
  rcases h with h | ⟨_, _, h⟩
  · cases h; rfl
  · exact h.elim
theorem Vw.bl {b : Bool} (h : Vw T H F v (.bool b)) : v = .bl b := by
  rcases h with h | ⟨_, _, h⟩
  · cases h; rfl
  · exact h.elim
theorem Vw.int {i : Int} (h : Vw T H F v (.int i)) : v = .int i := by
  rcases h with h | ⟨_, _, h⟩
  · cases h; rfl
  · exact h.elim
theorem Vw.str {x : Str} (h : Vw T H F v (.str x)) : v = .str x := by
  rcases h with h | ⟨_, _, h⟩
  · cases h; rfl
  · exact h.elim
theorem Vw.tup {ds : List PyData} (h : Vw T H F v (.tuple ds)) : ∃ a xs, v = .ref a ∧ SqT T.K H a xs ∧ DFs T.K H F xs ds := by
  rcases h with h | ⟨_, _, h⟩
  · cases h with
    | tup r s => exact ⟨_, _, rfl, r, s⟩
  · exact h.elim
theorem Vw.lst {ds : List PyData} (h : Vw T H F v (.list ds)) : ∃ a xs, v = .ref a ∧ LsR T.K H a xs ∧ DFs T.K H F xs ds := by
  rcases h with h | ⟨a, e, xs, h, s⟩
  · cases h with
    | lst f r s => exact ⟨_, _, rfl, .inl r, s⟩
    | lstK r s => exact ⟨_, _, rfl, .inr r, s⟩
  · exact ⟨a, xs, e, .inl (.inl h), s⟩
theorem Vw.dctA {ds : List (PyData × PyData)} (h : Vw T H F v (.dict ds)) : ∃ a, v = .ref a ∧ ((∃ xs, Rd H a (.dK xs) ∧ DFk T.K H F xs ds) ∨ ∃ o xs, H a = some (DTo a o) ∧ EsOk a o xs ∧ DFt T.K H F xs ds) := by
  rcases h with h | ⟨a, e, ⟨xs, h, s⟩ | ⟨o, xs, h, q, s⟩⟩
  · cases h with
    | dct f r s => exact ⟨_, rfl, .inl ⟨_, r, s⟩⟩
    | dcT f r e s => exact ⟨_, rfl, .inr ⟨_, _, r, e, s⟩⟩
  · exact ⟨a, e, .inl ⟨xs, .inl h, s⟩⟩
  · exact ⟨a, e, .inr ⟨o, xs, h, q, s⟩⟩
theorem vw_fz {i : Nat} {a : Addr} (E : EnvR T H F O σ ρ) (h : O i = some a) {F' : Addr → Prop} (hF : ∀ b, F' b ↔ F b ∨ b = a) (hd : DF T.K H F' (.ref a) d) :
    EnvR T H F' (fun j => if j = i then none else O j) σ (ρ.set i (some (.dat d))) := by
  obtain ⟨r, er⟩ := E.own i a h
  have hi : i < ρ.length := by
    have := List.getElem?_eq_some_iff.mp er
    exact this.1
  refine ⟨by rw [List.length_set]; exact E.len, fun j r' e => ?_, fun j b e => ?_, fun j k b e1 e2 => ?_, fun j b e q => ?_, fun b q => ?_, E.tb⟩
  · by_cases hj : j = i
    · subst hj
      rw [List.getElem?_set_self hi] at e
      cases e
      obtain ⟨v, hv, s⟩ := E.at_ j r er
      have hva : v = .ref a := by
        cases r with
        | dat e => obtain ⟨z, _⟩ := s; rw [h] at z; cases z
        | own e => obtain ⟨b, z, q, _⟩ := s; rw [h] at z; cases z; exact q
        | slt k => exact s.elim
        | fn k => obtain ⟨z, _⟩ := s; rw [h] at z; cases z
        | st xs => obtain ⟨b, z, q, _⟩ := s; rw [h] at z; cases z; exact q
        | ex c fs => obtain ⟨z, _⟩ := s; rw [h] at z; cases z
        | two d e => exact s.elim
      exact ⟨v, hv, if_pos rfl, hva ▸ hd⟩
    · rw [List.getElem?_set_ne (Ne.symm hj)] at e
      obtain ⟨v, hv, s⟩ := E.at_ j r' e
      refine ⟨v, hv, ?_⟩
      rw [if_neg hj]
      exact s.mono (fun _ _ h _ => h) (fun b z => (hF b).mpr (.inl z)) fun _ _ _ h => h
  · by_cases hj : j = i
    · rw [if_pos hj] at e; cases e
    · rw [if_neg hj] at e
      obtain ⟨r', q⟩ := E.own j b e
      exact ⟨r', by rw [List.getElem?_set_ne (Ne.symm hj)]; exact q⟩
  · by_cases hj : j = i
    · rw [if_pos hj] at e1; cases e1
    · by_cases hk : k = i
      · rw [if_pos hk] at e2; cases e2
      · rw [if_neg hj] at e1
        rw [if_neg hk] at e2
        exact E.inj j k b e1 e2
  · by_cases hj : j = i
    · rw [if_pos hj] at e; cases e
    · rw [if_neg hj] at e
      rcases (hF b).mp q with z | z
      · exact E.nf j b e z
      · subst z; exact hj (E.inj j i b e h)
  · rcases (hF b).mp q with z | z
    · exact E.lv b z
    · subst z
      obtain ⟨o, ho, _⟩ := E.there h
      rw [ho]; simp
theorem OwnAt.df {a : Addr} (f : F a) : ∀ {d : PyData}, OwnAt T.K H F a d → DF T.K H F (.ref a) d
  | .list _, ⟨_, h, s⟩ => .lst f (.inl h) s
  | .dict _, .inl ⟨_, h, s⟩ => .dct f (.inl h) s
  | .dict _, .inr ⟨_, _, h, e, s⟩ => .dcT f h e s
/-- a slot that holds data may be set to them -/
theorem EnvR.setD {i : Nat} (E : EnvR T H F O σ ρ) (h : ρ[i]? = some (some (.dat d))) : EnvR T H F O σ (ρ.set i (some (.dat d))) := by
  have e : ρ.set i (some (.dat d)) = ρ := by
    refine List.ext_getElem? fun j => ?_
    by_cases hj : j = i
    · subst hj
      rw [List.getElem?_set_self (List.getElem?_eq_some_iff.mp h).1, h]
    · rw [List.getElem?_set_ne (Ne.symm hj)]
  rw [e]
  exact E
/-- a result is made data that stays -/
theorem fz {t : Bool} {B : Hp} {FB : Addr → Prop} {OB : Nat → Option Addr} (x : Ext t B FB OB H F O) (l : ∀ b, H0 b = none → B b = none) (E : EnvR T H F O σ ρ) {ρ' : Rho} : ∀ {r : R}, ResR T H0 H F O σ v r → frz ρ r = some (d, ρ') →
    ∃ F' O', Ext t B FB OB H F' O' ∧ EnvR T H F' O' σ ρ' ∧ DF T.K H F' v d ∧ (∀ b, F b → F' b) ∧ (∀ i a, O' i = some a → O i = some a) ∧ ∀ b, F' b → F b ∨ (∃ i, O i = some b) ∨ H0 b = none
  | .dat _, h, e => by cases e; exact ⟨F, O, x, E, h, fun _ h => h, fun _ _ h => h, fun _ h => .inl h⟩
  | .own _, ⟨a, h1, h2, h3, h4, h5⟩, e => by
    cases e
    have nf : ∀ i b, O i = some b → ¬ (F b ∨ b = a) := fun i b q z => z.elim (E.nf i b q) fun y => h4 i (y ▸ q)
    obtain ⟨o, ho, _⟩ := h5.there
    have lv : ∀ b, (F b ∨ b = a) → H b ≠ none := fun b h => h.elim (E.lv b) fun z => by rw [z, ho]; simp
    refine ⟨fun b => F b ∨ b = a, O, ⟨x.keep, x.live, fun b h => .inl (x.grow b h), fun b h => ?_, x.own⟩, E.grown (fun _ _ h => h) (fun _ h => .inl h) nf lv, ?_, fun _ h => .inl h, fun _ _ h => h, fun b h => h.elim .inl fun z => .inr (.inr (z ▸ h2))⟩
    · rcases h with h | rfl
      · exact x.new b h
      · exact .inr (.inr (l b h2))
    · rw [h1]
      exact OwnAt.df (F := fun b => F b ∨ b = a) (.inr rfl) (h5.mono (fun _ _ h _ => h) (fun _ h => .inl h) fun _ h => h)
  | .slt i, h, e => by
    have e' : (slotD ρ[i]?).map (fun d => (d, ρ.set i (some (.dat d)))) = some (d, ρ') := e
    cases q : ρ[i]? with
    | none => rw [q] at e'; cases e'
    | some o =>
      cases o with
      | none => rw [q] at e'; cases e'
      | some r =>
        obtain ⟨u, hu, s⟩ := E.at_ i r q
        have h' : σ[i]? = some (some v) := h
        rw [h'] at hu
        cases hu
        rw [q] at e'
        cases r with
        | dat e =>
          cases e'
          exact ⟨F, O, x, E.setD q, s.2, fun _ h => h, fun _ _ h => h, fun _ h => .inl h⟩
        | own e =>
          cases e'
          obtain ⟨a, z1, z2, z3⟩ := s
          subst z2
          have hd : DF T.K H (fun b => F b ∨ b = a) (.ref a) d := OwnAt.df (F := fun b => F b ∨ b = a) (.inr rfl) (z3.mono (fun _ _ h _ => h) (fun _ h => .inl h) fun _ h => h)
          refine ⟨fun b => F b ∨ b = a, fun j => if j = i then none else O j, ⟨x.keep, x.live, fun b h => .inl (x.grow b h), fun b h => ?_, fun j b e => ?_⟩, vw_fz E z1 (fun _ => Iff.rfl) hd, hd, fun _ h => .inl h, fun j b q => ?_, fun b h => h.elim .inl fun z => .inr (.inl ⟨i, z ▸ z1⟩)⟩
          · rcases h with h | rfl
            · exact x.new b h
            · exact .inr (x.ow z1)
          · by_cases hj : j = i
            · rw [if_pos hj] at e; cases e
            · rw [if_neg hj] at e
              exact x.own j b e
          · have q' : (if j = i then none else O j) = some b := q
            by_cases hj : j = i
            · rw [if_pos hj] at q'; cases q'
            · rw [if_neg hj] at q'; exact q'
        | slt j => cases e'
        | fn k => cases e'
        | st xs => cases e'
        | ex c fs => cases e'
        | two d e => cases e'
end

/-! ### readings -/
abbrev Reg := Addr → Prop
abbrev Ows := Nat → Option Addr
/-- how a thing β of the run tells a thing α of ours: since the heap, at the heap, the region, the owners -/
abbrev Tell (α β : Type) := L2.St → Hp → Hp → Reg → Ows → β → α → Prop
/-- the wish of what stands behind a piece -/
def Post {α β : Type} (T : Tb) (W : WX) (Rl : Tell α β) (σ : L2.St) (H : Hp) (F : Reg) (O : Ows) (Q : β → Hp → Prop) : Option (Oe α) → Prop
  | some (.ok a ρ) => ∀ v H' F' O', Ext false H F O H' F' O' → EnvR T H' F' O' σ ρ → Rl σ H H' F' O' v a → Q v H'
  | some (.er c fs ρ) => ∀ cls d H' F' O', Ext false H F O H' F' O' → EnvR T H' F' O' σ ρ → ExcR T H' cls d c fs → W cls d σ H'
  | none => False
/-- a piece's reading -/
def Tof {α β : Type} (T : Tb) (W : WX) (Rl : Tell α β) (f : Rho → Option (Oe α)) : L2.St → Hp → (β → Hp → Prop) → Prop := fun σ H Q =>
  ∃ ρ F O, EnvR T H F O σ ρ ∧ Post T W Rl σ H F O Q (f ρ)

def tlE (T : Tb) : Tell R V := fun σ H0 H F O v r => ResR T H0 H F O σ v r
def tlB : Tell Bool Bool := fun _ _ _ _ _ b c => b = c
inductive ResRs (T : Tb) (H0 H : Hp) (F : Reg) (O : Ows) (σ : L2.St) : List V → List R → Prop where
  | nil : ResRs T H0 H F O σ [] []
  | cons {v : V} {r : R} {vs : List V} {rs : List R} : ResR T H0 H F O σ v r → ResRs T H0 H F O σ vs rs → ResRs T H0 H F O σ (v :: vs) (r :: rs)
def tlA (T : Tb) : Tell (List R) (List V) := fun σ H0 H F O v r => ResRs T H0 H F O σ v r

section
variable {T : Tb} {W : WX} {α β γ δ : Type} {Ra : Tell α β} {Rb : Tell γ δ} {σ : L2.St} {ρ : Rho} {B H : Hp} {FB F : Reg} {OB O : Ows}
/-- one piece, then the rest -/
theorem stp {f : Rho → Option (Oe α)} {g : α → Rho → Option (Oe γ)} {Q : δ → Hp → Prop} {Q' : β → Hp → Prop} (x : Ext false B FB OB H F O) (E : EnvR T H F O σ ρ) (P : Post T W Rb σ B FB OB Q (bindO (f ρ) g))
    (k : ∀ v H1 a ρ1 F1 O1, Ext false H F O H1 F1 O1 → Ext false B FB OB H1 F1 O1 → EnvR T H1 F1 O1 σ ρ1 → Ra σ H H1 F1 O1 v a → Post T W Rb σ B FB OB Q (g a ρ1) → Q' v H1) : Tof T W Ra f σ H Q' := by
  refine ⟨ρ, F, O, E, ?_⟩
  cases q : f ρ with
  | none => rw [q] at P; exact P
  | some o =>
    rw [q] at P
    cases o with
    | ok a ρ1 => exact fun v H1 F1 O1 x1 E1 r1 => k v H1 a ρ1 F1 O1 x1 (x.trans x1) E1 r1 P
    | er c fs ρ1 => exact fun cls d H1 F1 O1 x1 E1 r1 => P cls d H1 F1 O1 (x.trans x1) E1 r1
/-- the whole piece -/
theorem stp1 {f : Rho → Option (Oe α)} {Q : β → Hp → Prop} {Q' : β → Hp → Prop} (E : EnvR T H F O σ ρ) (P : Post T W Ra σ H F O Q (f ρ)) (k : ∀ v H1, Q v H1 → Q' v H1) : Tof T W Ra f σ H Q' := by
  refine ⟨ρ, F, O, E, ?_⟩
  cases q : f ρ with
  | none => rw [q] at P; exact P
  | some o =>
    rw [q] at P
    cases o with
    | ok a ρ1 => exact fun v H1 F1 O1 x1 E1 r1 => k _ _ (P v H1 F1 O1 x1 E1 r1)
    | er c fs ρ1 => exact P
end

/-! ### the judgements -/
def SE (X : Cx) (T : Tb) (W : WX) (e : Expr) (f : EM) : Prop := PE X e (Tof T W (tlE T) f)
def ST (X : Cx) (T : Tb) (W : WX) (e : Expr) (f : Rho → Option (Oe Bool)) : Prop := PT X e (Tof T W tlB f)
def SA (X : Cx) (T : Tb) (W : WX) (es : List Expr) (f : AM) : Prop := PA X es (Tof T W (tlA T) f)
theorem pe_imp {X : Cx} {e : Expr} {t t' : TE} (h : PE X e t) (i : ∀ σ H Q, t' σ H Q → t σ H Q) : PE X e t' := ⟨fun pins s σ H Q I q => h.run pins s σ H Q I (i σ H Q q)⟩
theorem pt_imp {X : Cx} {e : Expr} {t t' : TT} (h : PT X e t) (i : ∀ σ H Q, t' σ H Q → t σ H Q) : PT X e t' := ⟨fun pins s σ H Q I q => h.run pins s σ H Q I (i σ H Q q)⟩
theorem pa_imp {X : Cx} {e : List Expr} {t t' : TA} (h : PA X e t) (i : ∀ σ H Q, t' σ H Q → t σ H Q) : PA X e t' := ⟨fun pos pins s σ H Q I q => h.run pos pins s σ H Q I (i σ H Q q)⟩

/-- the facts of the place where a piece runs -/
structure Cxt (X : Cx) (T : Tb) (W : WX) (n : Nat) : Prop where
  hK : X.K = T.K
  hw : X.w = T.w
  calm : X.calm = true
  room : Room n X.A
  gd : X.A.guards = some []
  tk : Takes X W
  po : PassesOwn (model X.prog X.w) X.A X.env X.xe
  nd : X.N.Nodup
  sm : X.base.get? sysModules ≠ none
theorem Cxt.mono {X : Cx} {T : Tb} {W : WX} {m n : Nat} (c : Cxt X T W n) (h : m ≤ n) : Cxt X T W m := ⟨c.hK, c.hw, c.calm, c.room.mono h, c.gd, c.tk, c.po, c.nd, c.sm⟩

/-! ### growth without owners -/
structure Gr (H : Hp) (F : Reg) (H' : Hp) (F' : Reg) : Prop where
  keep : ∀ b o, H b = some o → H' b = some o
  grow : ∀ b, F b → F' b
  new : ∀ b, F' b → F b ∨ (H b = none ∧ H' b ≠ none)
theorem Gr.refl {H : Hp} {F : Reg} : Gr H F H F := ⟨fun _ _ h => h, fun _ h => h, fun _ h => .inl h⟩
theorem Gr.laid {H : Hp} {F : Reg} {p : Addr} {o : HO} (hp : H p = none) : Gr H F (upd H p o) F := ⟨kept_new hp, fun _ h => h, fun _ h => .inl h⟩
theorem Gr.laidF {H : Hp} {F : Reg} {p : Addr} {o : HO} (hp : H p = none) : Gr H F (upd H p o) (fun b => F b ∨ b = p) := ⟨kept_new hp, fun _ h => .inl h, fun b h => h.elim .inl fun z => .inr ⟨z ▸ hp, by rw [z, upd_same]; simp⟩⟩
theorem Gr.live {H H' : Hp} {F F' : Reg} (g : Gr H F H' F') : ∀ b, H' b = none → H b = none := fun b h => by
  cases q : H b with
  | none => rfl
  | some o => rw [g.keep b o q] at h; cases h
theorem Gr.trans {H H1 H2 : Hp} {F F1 F2 : Reg} (a : Gr H F H1 F1) (b : Gr H1 F1 H2 F2) : Gr H F H2 F2 :=
  ⟨fun c o h => b.keep c o (a.keep c o h), fun c h => b.grow c (a.grow c h), fun c h => (b.new c h).elim (fun z => (a.new c z).elim .inl fun y => .inr ⟨y.1, fun q => y.2 (b.live c q)⟩) fun z => .inr ⟨a.live c z.1, z.2⟩⟩
theorem Gr.ext {s : Bool} {H H' : Hp} {F F' : Reg} {O : Ows} (g : Gr H F H' F') : Ext s H F O H' F' O :=
  ⟨fun b o h _ _ => g.keep b o h, g.live, g.grow, fun b h => (g.new b h).elim .inl fun z => .inr (.inr z.1), fun _ _ h => .inl h⟩
theorem EnvR.gr {T : Tb} {H H' : Hp} {F F' : Reg} {O : Ows} {σ : L2.St} {ρ : Rho} (E : EnvR T H F O σ ρ) (g : Gr H F H' F') : EnvR T H' F' O σ ρ :=
  E.grown g.keep g.grow (fun i a e q => (g.new a q).elim (E.nf i a e) fun z => E.ne_new z.1 i e) fun b h => (g.new b h).elim (fun z q => E.lv b z (g.live b q)) fun z => z.2
/-- a result that an operation made -/
def ResN (T : Tb) (H H' : Hp) (F' : Reg) (v : V) : R → Prop
  | .dat d => DF T.K H' F' v d
  | .own d => ∃ a, v = .ref a ∧ H a = none ∧ ¬ F' a ∧ OwnAt T.K H' F' a d
  | .st xs => ∃ a, v = .ref a ∧ H a = none ∧ ¬ F' a ∧ SetAt T.w H' a xs
  | _ => False
theorem ResN.r {T : Tb} {H H' : Hp} {F F' : Reg} {O : Ows} {σ : L2.St} {ρ : Rho} {v : V} (E : EnvR T H F O σ ρ) : ∀ {r : R}, ResN T H H' F' v r → ResR T H H' F' O σ v r
  | .dat _, h => h
  | .own _, ⟨a, h1, h2, h3, h4⟩ => ⟨a, h1, h2, h3, E.ne_new h2, h4⟩
  | .st _, ⟨a, h1, h2, h3, h4⟩ => ⟨a, h1, h2, h3, E.ne_new h2, h4⟩
/-- the end of an operation -/
theorem fin_op {T : Tb} {W : WX} {σ : L2.St} {ρ : Rho} {B H H' : Hp} {FB F F' : Reg} {OB O : Ows} {Q : VK} {v : V} {r : R} (x : Ext false B FB OB H F O) (E : EnvR T H F O σ ρ) (P : Post T W (tlE T) σ B FB OB Q (some (.ok r ρ))) (g : Gr H F H' F') (h : ResN T H H' F' v r) : Q v H' :=
  P v H' F' O (x.trans g.ext) (E.gr g) ((h.r E).back x.live)
/-- a new list of the asker's own; a new tuple -/
theorem resN_lst {T : Tb} {H : Hp} {F : Reg} {p : Addr} {vs : List V} {ds : List PyData} (hp : H p = none) (nf : ¬ F p) (s : DFs T.K H F vs ds) : ResN T H (upd H p (.lst vs)) F (.ref p) (.own (.list ds)) :=
  ⟨p, rfl, hp, nf, vs, upd_same, s.mono (fun b o h _ => kept_new hp b o h) fun _ h => h⟩
theorem resN_tup {T : Tb} {H : Hp} {F : Reg} {p : Addr} {vs : List V} {ds : List PyData} (hp : H p = none) (s : DFs T.K H F vs ds) : ResN T H (upd H p (.tup vs)) F (.ref p) (.dat (.tuple ds)) :=
  .tup (.inl (.inl upd_same)) (s.mono (fun b o h _ => kept_new hp b o h) fun _ h => h)
end DL

/-! D3: expressions. -/
namespace DL
open PySem L2

/-! ### pieces -/
def nmM (i : Nat) : EM := fun ρ => match ρ[i]? with
  | some (some (.dat d)) => some (.ok (.dat d) ρ)
  | some (some (.own _)) => some (.ok (.slt i) ρ)
  | some (some (.st _)) => some (.ok (.slt i) ρ)
  | some (some (.fn k)) => some (.ok (.fn k) ρ)
  | some (some (.ex c fs)) => some (.ok (.ex c fs) ρ)
  | _ => none
def cM (d : PyData) : EM := fun ρ => some (.ok (.dat d) ρ)
def fnM (k : Nat) : EM := fun ρ => some (.ok (.fn k) ρ)
/-- an operation on two things as data -/
def op2M (g : PyData → PyData → Option R) (fa fb : EM) : EM := fun ρ => bindO (fa ρ) fun r ρ1 => bindO (fb ρ1) fun s ρ2 =>
  match val ρ2 r, val ρ2 s with
  | some d, some e => (g d e).map fun z => .ok z ρ2
  | _, _ => none
def op1M (g : PyData → Option R) (fa : EM) : EM := fun ρ => bindO (fa ρ) fun r ρ1 =>
  match val ρ1 r with
  | some d => (g d).map fun z => .ok z ρ1
  | _ => none
/-- arguments of a call: a list that is nobody's becomes still -/
def tmp : R → R
  | .own d => .dat d
  | r => r
def nilA : AM := fun ρ => some (.ok [] ρ)
def consA (fe : EM) (fr : AM) : AM := fun ρ => bindO (fe ρ) fun r ρ1 => bindO (fr ρ1) fun rs ρ2 => some (.ok (tmp r :: rs) ρ2)
/-- parts of a display: all become still -/
def consD (fe : EM) (fr : AM) : AM := fun ρ => bindO (fe ρ) fun r ρ1 => match frz ρ1 r with
  | some (d, ρ2) => bindO (fr ρ2) fun rs ρ3 => some (.ok (.dat d :: rs) ρ3)
  | none => none
def vals (ρ : Rho) : List R → Option (List PyData)
  | [] => some []
  | r :: rs => match val ρ r, vals ρ rs with
    | some d, some ds => some (d :: ds)
    | _, _ => none
def opnM (g : List PyData → Option R) (fa : AM) : EM := fun ρ => bindO (fa ρ) fun rs ρ1 =>
  match vals ρ1 rs with
  | some ds => (g ds).map fun z => .ok z ρ1
  | none => none
/-- tests -/
def tsM (f : EM) : Rho → Option (Oe Bool) := fun ρ => bindO (f ρ) fun r ρ1 => match r with
  | .dat (.bool b) => some (.ok b ρ1)
  | _ => none
def andT (f g : Rho → Option (Oe Bool)) : Rho → Option (Oe Bool) := fun ρ => bindO (f ρ) fun b ρ1 => if b = true then g ρ1 else some (.ok false ρ1)
def orT (f g : Rho → Option (Oe Bool)) : Rho → Option (Oe Bool) := fun ρ => bindO (f ρ) fun b ρ1 => if b = true then some (.ok true ρ1) else g ρ1
def notT (f : Rho → Option (Oe Bool)) : Rho → Option (Oe Bool) := fun ρ => bindO (f ρ) fun b ρ1 => some (.ok (!b) ρ1)
/-- as values -/
def andM (f g : EM) : EM := fun ρ => bindO (f ρ) fun r ρ1 => match r with
  | .dat (.bool true) => g ρ1
  | .dat (.bool false) => some (.ok (.dat (.bool false)) ρ1)
  | _ => none
def orM (f g : EM) : EM := fun ρ => bindO (f ρ) fun r ρ1 => match r with
  | .dat (.bool true) => some (.ok (.dat (.bool true)) ρ1)
  | .dat (.bool false) => g ρ1
  | _ => none
def notM (f : EM) : EM := fun ρ => bindO (f ρ) fun r ρ1 => match r with
  | .dat (.bool b) => some (.ok (.dat (.bool (!b))) ρ1)
  | _ => none
def iteM (c : Rho → Option (Oe Bool)) (f g : EM) : EM := fun ρ => bindO (c ρ) fun b ρ1 => if b = true then f ρ1 else g ρ1
/-- all still -/
def dats : List R → Option (List PyData)
  | [] => some []
  | .dat d :: rs => (dats rs).map (d :: ·)
  | _ => none
def tupM (fa : AM) : EM := fun ρ => bindO (fa ρ) fun rs ρ1 => match dats rs with
  | some ds => if ds.length ≤ 100000 then some (.ok (.dat (.tuple ds)) ρ1) else none
  | none => none
def lstM (fa : AM) : EM := fun ρ => bindO (fa ρ) fun rs ρ1 => match dats rs with
  | some ds => if ds.length ≤ 100000 then some (.ok (.own (.list ds)) ρ1) else none
  | none => none
/-- two comparisons in a row -/
def chM (g g' : PyData → PyData → Option R) (fa fb fc : EM) : EM := fun ρ => bindO (fa ρ) fun r ρ1 => bindO (fb ρ1) fun s ρ2 =>
  match val ρ2 r, val ρ2 s with
  | some d, some e => match g d e with
    | some (.dat (.bool true)) => bindO (fc ρ2) fun t ρ3 => match val ρ3 s, val ρ3 t with
      | some e', some z => (g' e' z).map fun y => .ok y ρ3
      | _, _ => none
    | some (.dat (.bool false)) => some (.ok (.dat (.bool false)) ρ2)
    | _ => none
  | _, _ => none

section
variable {X : Cx} {T : Tb} {W : WX} {a b c : Expr} {fa fb fc : EM} {pos : Pos}

/-! ### names and constants -/
theorem se_nm (i : Nat) {x : Str} (hN : X.N[i]? = some x) (hv : Vis X.env.scope x) (hd : (x == ("__debug__" : Str)) = false := by decide) (hcd : (x == ("__classdict__" : Str)) = false := by decide) : SE X T W (.Name x pos) (nmM i) := by
  refine pe_imp (pe_var hN hv hd hcd) fun σ H Q ⟨ρ, F, O, E, P⟩ => ?_
  unfold nmM at P
  cases q : ρ[i]? with
  | none => rw [q] at P; exact P.elim
  | some o =>
    cases o with
    | none => rw [q] at P; exact P.elim
    | some r =>
      rw [q] at P
      obtain ⟨v, hv, s⟩ := E.at_ i r q
      refine ⟨v, hv, ?_⟩
      cases r with
      | dat d => exact P v H F O .refl E s.2
      | own d => exact P v H F O .refl E hv
      | slt j => exact P.elim
      | fn k => exact P v H F O .refl E s.2
      | st xs => exact P v H F O .refl E hv
      | ex c fs => exact P v H F O .refl E s.2
      | two d e => exact P.elim
theorem se_const {e : Expr} {v : V} {d : PyData} (h : PE X e (tC v)) (hd : ∀ H F, DF T.K H F v d) : SE X T W e (cM d) :=
  pe_imp h fun σ H Q ⟨ρ, F, O, E, P⟩ => P v H F O .refl E (hd H F)
theorem se_int {i j pos} : SE X T W (.Constant (.int i) j pos) (cM (.int i)) := se_const pe_int fun _ _ => .int i
theorem se_bl {i j pos} : SE X T W (.Constant (.bool i) j pos) (cM (.bool i)) := se_const pe_bl fun _ _ => .bl i
theorem se_non {j pos} : SE X T W (.Constant .none j pos) (cM .none) := se_const pe_non fun _ _ => .non
theorem se_str {i j pos} : SE X T W (.Constant (.str i) j pos) (cM (.str i)) := se_const pe_str fun _ _ => .str i
theorem se_glob {x : Str} {v : V} {u : Value} {d : PyData} (hg : L2.Gl X x) (hm : X.mg x = some u) (r : RelV v u) (hd : ∀ H F, DF T.K H F v d) (hdb : (x == ("__debug__" : Str)) = false := by decide) : SE X T W (.Name x pos) (cM d) :=
  se_const (pe_glob hg hm r hdb) hd
theorem se_fn {x : Str} {k : Nat} (hg : L2.Gl X x) (hm : X.mg x = some (.ref (T.fa k))) (hdb : (x == ("__debug__" : Str)) = false := by decide) : SE X T W (.Name x pos) (fnM k) :=
  pe_imp (pe_glob (v := .ref (T.fa k)) hg hm rfl hdb) fun σ H Q ⟨ρ, F, O, E, P⟩ => P _ H F O .refl E rfl

/-! ### operations -/
/-- what an operation's rule r does with data -/
def Does2 (T : Tb) (r : R2) (g : PyData → PyData → Option R) : Prop :=
  ∀ (x y : V) (d e : PyData) (z : R) (H : Hp) (F : Reg) (Q : VK), (∀ p, F p → H p ≠ none) → Vw T H F x d → Vw T H F y e → g d e = some z → (∀ v H' F', Gr H F H' F' → ResN T H H' F' v z → Q v H') → r x y H Q
theorem op2 {r : R2} {g : PyData → PyData → Option R} (dr : Does2 T r g) {σ : L2.St} {H : Hp} {Q : VK} (h : Tof T W (tlE T) (op2M g fa fb) σ H Q) : tOp r (Tof T W (tlE T) fa) (Tof T W (tlE T) fb) σ H Q := by
  obtain ⟨ρ, F, O, E, P⟩ := h
  refine stp .refl E P fun v H1 ra ρ1 F1 O1 x1 _ E1 r1 P1 => ?_
  refine stp x1 E1 P1 fun u H2 rb ρ2 F2 O2 x2 y2 E2 r2 P2 => ?_
  have r1' : ResR T H H2 F2 O2 σ v ra := ResR.mono E1 x2 r1
  cases q1 : val ρ2 ra with
  | none => rw [q1] at P2; exact P2.elim
  | some d =>
    cases q2 : val ρ2 rb with
    | none => rw [q1, q2] at P2; exact P2.elim
    | some e =>
      rw [q1, q2] at P2
      dsimp only at P2
      cases q3 : g d e with
      | none => rw [q3] at P2; exact P2.elim
      | some z =>
        rw [q3] at P2
        exact dr v u d e z H2 F2 Q E2.lv (val_vw E2 r1' q1) (val_vw E2 r2 q2) q3 fun w H3 F3 g3 n3 => fin_op y2 E2 P2 g3 n3
theorem se_op {op : Operator} {r : R2} {g : PyData → PyData → Option R} (ho : OpR X (binaryOp op) r) (dr : Does2 T r g) (ha : SE X T W a fa) (hb : SE X T W b fb) : SE X T W (.BinOp a op b pos) (op2M g fa fb) :=
  pe_imp (pe_op ho ha hb) fun _ _ _ h => op2 dr h
theorem se_cmp {op : CmpOp} {r : R2} {g : PyData → PyData → Option R} (ho : OpR X (compareOp op) r) (dr : Does2 T r g) (ha : SE X T W a fa) (hb : SE X T W b fb) (hm : behindInMarks op b = false) : SE X T W (.Compare a [op] [b] pos) (op2M g fa fb) :=
  pe_imp (pe_cmpR ho ha hb hm) fun _ _ _ h => op2 dr h
theorem se_ix {r : R2} {g : PyData → PyData → Option R} (ho : IxR X r) (dr : Does2 T r g) (hs : PlainIx b) (ha : SE X T W a fa) (hb : SE X T W b fb) : SE X T W (.Subscript a b pos) (op2M g fa fb) :=
  pe_imp (pe_ix ho ha hb hs) fun _ _ _ h => op2 dr h
def Does1 (T : Tb) (r : V → Hp → VK → Prop) (g : PyData → Option R) : Prop :=
  ∀ (x : V) (d : PyData) (z : R) (H : Hp) (F : Reg) (Q : VK), (∀ p, F p → H p ≠ none) → Vw T H F x d → g d = some z → (∀ v H' F', Gr H F H' F' → ResN T H H' F' v z → Q v H') → r x H Q
theorem op1 {r : V → Hp → VK → Prop} {g : PyData → Option R} (dr : Does1 T r g) {σ : L2.St} {H : Hp} {Q : VK} (h : Tof T W (tlE T) (op1M g fa) σ H Q) : Tof T W (tlE T) fa σ H fun x H1 => r x H1 Q := by
  obtain ⟨ρ, F, O, E, P⟩ := h
  refine stp .refl E P fun v H1 ra ρ1 F1 O1 x1 y1 E1 r1 P1 => ?_
  cases q1 : val ρ1 ra with
  | none => rw [q1] at P1; exact P1.elim
  | some d =>
    rw [q1] at P1
    dsimp only at P1
    cases q3 : g d with
    | none => rw [q3] at P1; exact P1.elim
    | some z =>
      rw [q3] at P1
      exact dr v d z H1 F1 Q E1.lv (val_vw E1 r1 q1) q3 fun w H3 F3 g3 n3 => fin_op y1 E1 P1 g3 n3
theorem se_un {op : UnaryOp} {r : V → Hp → VK → Prop} {g : PyData → Option R} (ho : UnR X (unaryOp op) r) (dr : Does1 T r g) (ha : SE X T W a fa) : SE X T W (.UnaryOp op a pos) (op1M g fa) :=
  pe_imp (pe_un ho ha) fun _ _ _ h => op1 dr h

/-! ### arguments -/
theorem sa_nil : SA X T W [] nilA := pa_imp pa_nil fun σ H Q ⟨ρ, F, O, E, P⟩ => P [] H F O .refl E .nil
theorem ResRs.mono {H0 H H' : Hp} {F F' : Reg} {O O' : Ows} {σ : L2.St} {ρ : Rho} (E : EnvR T H F O σ ρ) (x : Ext false H F O H' F' O') : ∀ {vs : List V} {rs : List R}, ResRs T H0 H F O σ vs rs → ResRs T H0 H' F' O' σ vs rs
  | _, _, .nil => .nil
  | _, _, .cons a b => .cons (ResR.mono E x a) (ResRs.mono E x b)
theorem ResRs.back {H0 H1 H : Hp} {F : Reg} {O : Ows} {σ : L2.St} (l : ∀ b, H1 b = none → H0 b = none) : ∀ {vs : List V} {rs : List R}, ResRs T H1 H F O σ vs rs → ResRs T H0 H F O σ vs rs
  | _, _, .nil => .nil
  | _, _, .cons a b => .cons (ResR.back l a) (ResRs.back l b)
/-- a temporary becomes still -/
theorem tmp_ok {B H0 H : Hp} {FB F : Reg} {OB O : Ows} {σ : L2.St} {ρ : Rho} {v : V} (x : Ext false B FB OB H F O) (l : ∀ b, H0 b = none → B b = none) (E : EnvR T H F O σ ρ) {r : R} (h : ResR T H0 H F O σ v r) :
    ∃ F', Ext false B FB OB H F' O ∧ EnvR T H F' O σ ρ ∧ ResR T H0 H F' O σ v (tmp r) := by
  cases r with
  | own d =>
    obtain ⟨a, h1, h2, h3, h4, h5⟩ := h
    have nf : ∀ i b, O i = some b → ¬ (F b ∨ b = a) := fun i b q z => z.elim (E.nf i b q) fun y => h4 i (y ▸ q)
    obtain ⟨o, ho, _⟩ := h5.there
    have lv : ∀ b, (F b ∨ b = a) → H b ≠ none := fun b h => h.elim (E.lv b) fun z => by rw [z, ho]; simp
    refine ⟨fun b => F b ∨ b = a, ⟨x.keep, x.live, fun b h => .inl (x.grow b h), fun b h => ?_, x.own⟩, E.grown (fun _ _ h => h) (fun _ h => .inl h) nf lv, ?_⟩
    · rcases h with h | rfl
      · exact x.new b h
      · exact .inr (.inr (l b h2))
    · rw [h1]
      exact OwnAt.df (F := fun b => F b ∨ b = a) (.inr rfl) (h5.mono (fun _ _ h _ => h) (fun _ h => .inl h) fun _ h => h)
  | dat d => exact ⟨F, x, E, h⟩
  | slt i => exact ⟨F, x, E, h⟩
  | fn k => exact ⟨F, x, E, h⟩
  | st xs => exact ⟨F, x, E, h⟩
  | ex c fs => exact ⟨F, x, E, h⟩
  | two d e => exact ⟨F, x, E, h⟩
variable {e : Expr} {es : List Expr} {fe : EM} {fr : AM}
theorem sa_cons (he : SE X T W e fe) (hr : SA X T W es fr) (hs : starEach (e :: es) X.env = (false, eval e X.env) :: starEach es X.env := by rfl) : SA X T W (e :: es) (consA fe fr) := by
  refine pa_imp (pa_cons he hr hs) fun σ H Q ⟨ρ, F, O, E, P⟩ => ?_
  refine stp .refl E P fun v H1 ra ρ1 F1 O1 _ y1 E1 r1 P1 => ?_
  obtain ⟨F1', y1', E1', r1'⟩ := tmp_ok y1 (fun _ h => h) E1 r1
  refine stp y1' E1' P1 fun vs H2 rs ρ2 F2 O2 x2 y2 E2 r2 P2 => ?_
  exact P2 _ _ _ _ y2 E2 (.cons (ResR.mono E1' x2 r1') (ResRs.back y1'.live r2))
theorem sd_cons (he : SE X T W e fe) (hr : SA X T W es fr) (hs : starEach (e :: es) X.env = (false, eval e X.env) :: starEach es X.env := by rfl) : SA X T W (e :: es) (consD fe fr) := by
  refine pa_imp (pa_cons he hr hs) fun σ H Q ⟨ρ, F, O, E, P⟩ => ?_
  refine stp .refl E P fun v H1 ra ρ1 F1 O1 _ y1 E1 r1 P1 => ?_
  cases q : frz ρ1 ra with
  | none => rw [q] at P1; exact P1.elim
  | some z =>
    obtain ⟨d, ρ1'⟩ := z
    rw [q] at P1
    obtain ⟨F1', O1', y1', E1', d1, _, _, _⟩ := fz y1 (fun _ h => h) E1 r1 q
    refine stp y1' E1' P1 fun vs H2 rs ρ2 F2 O2 x2 y2 E2 r2 P2 => ?_
    exact P2 _ _ _ _ y2 E2 (.cons (show ResR T H H2 F2 O2 σ v (.dat d) from DF.mono (E1'.kept x2) x2.grow d1) (ResRs.back y1'.live r2))
/-! views of many -/
inductive Vws (T : Tb) (H : Hp) (F : Reg) : List V → List PyData → Prop where
  | nil : Vws T H F [] []
  | cons {v : V} {d : PyData} {vs : List V} {ds : List PyData} : Vw T H F v d → Vws T H F vs ds → Vws T H F (v :: vs) (d :: ds)
theorem vals_vws {H0 H : Hp} {F : Reg} {O : Ows} {σ : L2.St} {ρ : Rho} (E : EnvR T H F O σ ρ) : ∀ {vs : List V} {rs : List R} {ds : List PyData}, ResRs T H0 H F O σ vs rs → vals ρ rs = some ds → Vws T H F vs ds
  | _, _, _, .nil, h => by cases h; exact .nil
  | _, r :: rs, ds, .cons a b, h => by
    unfold vals at h
    cases q1 : val ρ r with
    | none => rw [q1] at h; cases h
    | some d =>
      cases q2 : vals ρ rs with
      | none => rw [q1, q2] at h; cases h
      | some es =>
        rw [q1, q2] at h
        cases h
        exact .cons (val_vw E a q1) (vals_vws E b q2)
def DoesN (T : Tb) (r : List V → Hp → VK → Prop) (g : List PyData → Option R) : Prop :=
  ∀ (xs : List V) (ds : List PyData) (z : R) (H : Hp) (F : Reg) (Q : VK), (∀ p, F p → H p ≠ none) → Vws T H F xs ds → g ds = some z → (∀ v H' F', Gr H F H' F' → ResN T H H' F' v z → Q v H') → r xs H Q
theorem opn {r : List V → Hp → VK → Prop} {g : List PyData → Option R} (dr : DoesN T r g) {f : AM} {σ : L2.St} {H : Hp} {Q : VK} (h : Tof T W (tlE T) (opnM g f) σ H Q) : Tof T W (tlA T) f σ H fun vs H1 => r vs H1 Q := by
  obtain ⟨ρ, F, O, E, P⟩ := h
  refine stp .refl E P fun vs H1 rs ρ1 F1 O1 x1 y1 E1 r1 P1 => ?_
  cases q1 : vals ρ1 rs with
  | none => rw [q1] at P1; exact P1.elim
  | some ds =>
    rw [q1] at P1
    dsimp only at P1
    cases q3 : g ds with
    | none => rw [q3] at P1; exact P1.elim
    | some z =>
      rw [q3] at P1
      exact dr vs ds z H1 F1 Q E1.lv (vals_vws E1 r1 q1) q3 fun w H3 F3 g3 n3 => fin_op y1 E1 P1 g3 n3
/-- a built-in by its name, a built-in class -/
theorem se_callB {x : Str} {id : String} {r : List V → Hp → VK → Prop} {g : List PyData → Option R} {f : AM} {p : Pos} (hc : CallR X (.builtin id) r) (dr : DoesN T r g) (hg : L2.Gl X x) (hm : X.mg x = none) (hv : bootBuiltins x = some (.builtin id)) (ha : SA X T W (e :: es) f)
    (hn : x ≠ "__name__" := by decide) (hdb : (x == ("__debug__" : Str)) = false := by decide) (he : starEach (e :: es) X.env = (false, eval e X.env) :: starEach es X.env := by rfl) (hpl : (backTo pos (starEach es X.env)).any (·.1) = false := by rfl) :
    SE X T W (.Call (.Name x p) (e :: es) [] pos) (opnM g f) := pe_imp (pe_callB hc hg hm hv ha hn hdb he hpl) fun _ _ _ h => opn dr h
theorem se_callTy {x : Str} {id : String} {r : List V → Hp → VK → Prop} {g : List PyData → Option R} {f : AM} {p : Pos} (hc : CallR X (.type id) r) (dr : DoesN T r g) (hg : L2.Gl X x) (hm : X.mg x = none) (hv : bootBuiltins x = some (.type id)) (ha : SA X T W (e :: es) f)
    (hn : x ≠ "__name__" := by decide) (hdb : (x == ("__debug__" : Str)) = false := by decide) (he : starEach (e :: es) X.env = (false, eval e X.env) :: starEach es X.env := by rfl) (hpl : (backTo pos (starEach es X.env)).any (·.1) = false := by rfl) :
    SE X T W (.Call (.Name x p) (e :: es) [] pos) (opnM g f) := pe_imp (pe_callTy hc hg hm hv ha hn hdb he hpl) fun _ _ _ h => opn dr h

/-! ### displays -/
theorem dats_dfs {H0 H : Hp} {F : Reg} {O : Ows} {σ : L2.St} : ∀ {vs : List V} {rs : List R} {ds : List PyData}, ResRs T H0 H F O σ vs rs → dats rs = some ds → DFs T.K H F vs ds
  | _, _, _, .nil, h => by cases h; exact .nil
  | _, .dat d :: rs, ds, .cons a b, h => by
    have h' : (dats rs).map (d :: ·) = some ds := h
    cases q : dats rs with
    | none => rw [q] at h'; cases h'
    | some es => rw [q] at h'; cases h'; exact .cons a (dats_dfs b q)
theorem sz5 {n : Nat} (h : n ≤ 100000) : n ≤ sizeLine := Nat.le_trans h (by decide)
theorem se_tup {f : AM} {k : Nat} (h : SA X T W es f) : SE X T W (.Tuple es k pos) (tupM f) := by
  refine pe_imp (pe_tup h) fun σ H Q ⟨ρ, F, O, E, P⟩ => ?_
  refine stp .refl E P fun vs H1 rs ρ1 F1 O1 x1 y1 E1 r1 P1 => ?_
  cases q1 : dats rs with
  | none => rw [q1] at P1; exact P1.elim
  | some ds =>
    rw [q1] at P1
    dsimp only at P1
    have s := dats_dfs r1 q1
    split at P1
    · rename_i hz
      refine ⟨by rw [s.length]; exact sz5 hz, fun p hp => ?_⟩
      exact fin_op y1 E1 P1 (.laid hp) (resN_tup hp s)
    · exact P1.elim
theorem se_lst {f : AM} (h : SA X T W es f) : SE X T W (.List es pos) (lstM f) := by
  refine pe_imp (pe_lst h) fun σ H Q ⟨ρ, F, O, E, P⟩ => ?_
  refine stp .refl E P fun vs H1 rs ρ1 F1 O1 x1 y1 E1 r1 P1 => ?_
  cases q1 : dats rs with
  | none => rw [q1] at P1; exact P1.elim
  | some ds =>
    rw [q1] at P1
    dsimp only at P1
    have s := dats_dfs r1 q1
    split at P1
    · rename_i hz
      refine ⟨by rw [s.length]; exact sz5 hz, fun p hp => ?_⟩
      exact fin_op y1 E1 P1 (.laid hp) (resN_lst hp (fun q => E1.lv p q hp) s)
    · exact P1.elim

/-! ### tests -/
theorem ts_of {f : EM} {σ : L2.St} {H : Hp} {Q : Bool → Hp → Prop} (h : Tof T W tlB (tsM f) σ H Q) : Tof T W (tlE T) f σ H fun x H1 => ∃ k, x = .bl k ∧ Q k H1 := by
  obtain ⟨ρ, F, O, E, P⟩ := h
  refine stp .refl E P fun v H1 ra ρ1 F1 O1 x1 y1 E1 r1 P1 => ?_
  cases ra with
  | dat d =>
    cases d with
    | bool b =>
      have e : v = .bl b := by cases (show DF T.K H1 F1 v (.bool b) from r1); rfl
      exact ⟨b, e, P1 b H1 F1 O1 y1 E1 rfl⟩
    | none => exact P1.elim
    | int i => exact P1.elim
    | str x => exact P1.elim
    | list xs => exact P1.elim
    | tuple xs => exact P1.elim
    | dict xs => exact P1.elim
  | own d => exact P1.elim
  | slt i => exact P1.elim
  | fn k => exact P1.elim
  | st xs => exact P1.elim
  | ex c fs => exact P1.elim
  | two d e => exact P1.elim
variable {ta tb : Rho → Option (Oe Bool)}
theorem st_val {f : EM} (h : SE X T W e f) (he : ∀ whole, isTrue e X.env whole = (do let v ← whole; standAt e.pos; holding [v] (truthy v)) := by intro _; rfl) : ST X T W e (tsM f) :=
  pt_imp (pt_val h he) fun _ _ _ h => ts_of h
theorem st_cmp {op : CmpOp} {r : R2} {g : PyData → PyData → Option R} (ho : OpR X (compareOp op) r) (dr : Does2 T r g) (ha : SE X T W a fa) (hb : SE X T W b fb) (hm : behindInMarks op b = false) : ST X T W (.Compare a [op] [b] pos) (tsM (op2M g fa fb)) :=
  pt_imp (pt_cmpR ho ha hb hm) fun _ _ _ h => op2 dr (ts_of h)
def SW (X : Cx) (T : Tb) (W : WX) (e : Expr) (f : Rho → Option (Oe Bool)) : Prop := PW X e (Tof T W tlB f)
theorem pw_imp {X : Cx} {e : Expr} {t t' : TT} (h : PW X e t) (i : ∀ σ H Q, t' σ H Q → t σ H Q) : PW X e t' := ⟨fun whole pins s σ H Q I q => h.run whole pins s σ H Q I (i σ H Q q)⟩
theorem st_w {f : Rho → Option (Oe Bool)} (h : SW X T W e f) : ST X T W e f := PW.pt h
theorem sw_and1 (h : ST X T W a ta) : SW X T W (.BoolOp .And [a] pos) ta := pw_and1 h
theorem sw_or1 (h : ST X T W a ta) : SW X T W (.BoolOp .Or [a] pos) ta := pw_or1 h
theorem and_of {f g : Rho → Option (Oe Bool)} {σ : L2.St} {H : Hp} {Q : Bool → Hp → Prop} (h : Tof T W tlB (andT f g) σ H Q) : tAnd (Tof T W tlB f) (Tof T W tlB g) σ H Q := by
  obtain ⟨ρ, F, O, E, P⟩ := h
  refine stp .refl E P fun v H1 b ρ1 F1 O1 x1 y1 E1 r1 P1 => ?_
  have r1' : v = b := r1
  subst r1'
  cases v with
  | true =>
    rw [if_pos rfl] at P1 ⊢
    refine ⟨ρ1, F1, O1, E1, ?_⟩
    cases q : g ρ1 with
    | none => rw [q] at P1; exact P1
    | some o =>
      rw [q] at P1
      cases o with
      | ok c ρ2 => exact fun w H2 F2 O2 x2 E2 r2 => P1 w H2 F2 O2 (y1.trans x2) E2 r2
      | er c fs ρ2 => exact fun w d H2 F2 O2 x2 E2 r2 => P1 w d H2 F2 O2 (y1.trans x2) E2 r2
  | false =>
    rw [if_neg Bool.false_ne_true] at P1 ⊢
    exact P1 false H1 F1 O1 y1 E1 rfl
theorem or_of {f g : Rho → Option (Oe Bool)} {σ : L2.St} {H : Hp} {Q : Bool → Hp → Prop} (h : Tof T W tlB (orT f g) σ H Q) : tOr (Tof T W tlB f) (Tof T W tlB g) σ H Q := by
  obtain ⟨ρ, F, O, E, P⟩ := h
  refine stp .refl E P fun v H1 b ρ1 F1 O1 x1 y1 E1 r1 P1 => ?_
  have r1' : v = b := r1
  subst r1'
  cases v with
  | false =>
    rw [if_neg Bool.false_ne_true] at P1 ⊢
    refine ⟨ρ1, F1, O1, E1, ?_⟩
    cases q : g ρ1 with
    | none => rw [q] at P1; exact P1
    | some o =>
      rw [q] at P1
      cases o with
      | ok c ρ2 => exact fun w H2 F2 O2 x2 E2 r2 => P1 w H2 F2 O2 (y1.trans x2) E2 r2
      | er c fs ρ2 => exact fun w d H2 F2 O2 x2 E2 r2 => P1 w d H2 F2 O2 (y1.trans x2) E2 r2
  | true =>
    rw [if_pos rfl] at P1 ⊢
    exact P1 true H1 F1 O1 y1 E1 rfl
variable {rest : List Expr}
theorem sw_and (ha : ST X T W a ta) (hb : SW X T W (.BoolOp .And (b :: rest) pos) tb) : SW X T W (.BoolOp .And (a :: b :: rest) pos) (andT ta tb) := pw_imp (pw_and ha hb) fun _ _ _ h => and_of h
theorem sw_or (ha : ST X T W a ta) (hb : SW X T W (.BoolOp .Or (b :: rest) pos) tb) : SW X T W (.BoolOp .Or (a :: b :: rest) pos) (orT ta tb) := pw_imp (pw_or ha hb) fun _ _ _ h => or_of h
theorem st_not (ha : ST X T W a ta) : ST X T W (.UnaryOp .Not a pos) (notT ta) := by
  refine pt_imp (pt_not ha) fun σ H Q ⟨ρ, F, O, E, P⟩ => ?_
  refine stp .refl E P fun v H1 b ρ1 F1 O1 x1 y1 E1 r1 P1 => ?_
  have r1' : v = b := r1
  subst r1'
  exact P1 _ H1 F1 O1 y1 E1 rfl

/-! ### and, or, not, if as values -/
/-- the rest of a piece from the state where it stands -/
theorem rst {α β : Type} {Ra : Tell α β} {B H : Hp} {FB F : Reg} {OB O : Ows} {σ : L2.St} {ρ : Rho} {f : Rho → Option (Oe α)} {Q : β → Hp → Prop}
    (bk : ∀ H' F' O' v a, Ra σ H H' F' O' v a → Ra σ B H' F' O' v a) (x : Ext false B FB OB H F O) (E : EnvR T H F O σ ρ) (P : Post T W Ra σ B FB OB Q (f ρ)) : Tof T W Ra f σ H Q := by
  refine ⟨ρ, F, O, E, ?_⟩
  cases q : f ρ with
  | none => rw [q] at P; exact P
  | some o =>
    rw [q] at P
    cases o with
    | ok c ρ2 => exact fun w H2 F2 O2 x2 E2 r2 => P w H2 F2 O2 (x.trans x2) E2 (bk _ _ _ _ _ r2)
    | er c fs ρ2 => exact fun w d H2 F2 O2 x2 E2 r2 => P w d H2 F2 O2 (x.trans x2) E2 r2
theorem rstE {B H : Hp} {FB F : Reg} {OB O : Ows} {σ : L2.St} {ρ : Rho} {f : EM} {Q : VK} (x : Ext false B FB OB H F O) (E : EnvR T H F O σ ρ) (P : Post T W (tlE T) σ B FB OB Q (f ρ)) : Tof T W (tlE T) f σ H Q :=
  rst (fun _ _ _ _ _ h => ResR.back x.live h) x E P
theorem rstB {B H : Hp} {FB F : Reg} {OB O : Ows} {σ : L2.St} {ρ : Rho} {f : Rho → Option (Oe Bool)} {Q : Bool → Hp → Prop} (x : Ext false B FB OB H F O) (E : EnvR T H F O σ ρ) (P : Post T W tlB σ B FB OB Q (f ρ)) : Tof T W tlB f σ H Q :=
  rst (B := B) (fun _ _ _ _ _ h => h) x E P
theorem bl_of {H : Hp} {F : Reg} {v : V} {b : Bool} (h : DF T.K H F v (.bool b)) : v = .bl b := by cases h; rfl
theorem se_one {op : BoolOp} (h : SE X T W a fa) : SE X T W (.BoolOp op [a] pos) fa := pe_one h
theorem se_and (ha : SE X T W a fa) (hb : SE X T W (.BoolOp .And (b :: rest) pos) fb) : SE X T W (.BoolOp .And (a :: b :: rest) pos) (andM fa fb) := by
  refine pe_imp (pe_and ha hb) fun σ H Q ⟨ρ, F, O, E, P⟩ => ?_
  refine stp .refl E P fun v H1 r ρ1 F1 O1 x1 y1 E1 r1 P1 => ?_
  split at P1
  · refine ⟨true, bl_of r1, ?_⟩
    rw [if_pos rfl]
    exact rstE y1 E1 P1
  · refine ⟨false, bl_of r1, ?_⟩
    rw [if_neg Bool.false_ne_true]
    exact P1 _ H1 F1 O1 y1 E1 (.bl _)
  · exact P1.elim
theorem se_or (ha : SE X T W a fa) (hb : SE X T W (.BoolOp .Or (b :: rest) pos) fb) : SE X T W (.BoolOp .Or (a :: b :: rest) pos) (orM fa fb) := by
  refine pe_imp (pe_or ha hb) fun σ H Q ⟨ρ, F, O, E, P⟩ => ?_
  refine stp .refl E P fun v H1 r ρ1 F1 O1 x1 y1 E1 r1 P1 => ?_
  split at P1
  · refine ⟨true, bl_of r1, ?_⟩
    rw [if_pos rfl]
    exact P1 _ H1 F1 O1 y1 E1 (.bl _)
  · refine ⟨false, bl_of r1, ?_⟩
    rw [if_neg Bool.false_ne_true]
    exact rstE y1 E1 P1
  · exact P1.elim
theorem se_not (ha : SE X T W a fa) : SE X T W (.UnaryOp .Not a pos) (notM fa) := by
  refine pe_imp (pe_not ha) fun σ H Q ⟨ρ, F, O, E, P⟩ => ?_
  refine stp .refl E P fun v H1 r ρ1 F1 O1 x1 y1 E1 r1 P1 => ?_
  split at P1
  · exact ⟨_, bl_of r1, P1 _ H1 F1 O1 y1 E1 (.bl _)⟩
  · exact P1.elim
/-! ### chains -/
theorem ch_of {r r' : R2} {g g' : PyData → PyData → Option R} (dr : Does2 T r g) (dr' : Does2 T r' g') {σ : L2.St} {H : Hp} {Q : VK} (h : Tof T W (tlE T) (chM g g' fa fb fc) σ H Q) :
    tChain r r' (Tof T W (tlE T) fa) (Tof T W (tlE T) fb) (Tof T W (tlE T) fc) σ H Q := by
  obtain ⟨ρ, F, O, E, P⟩ := h
  refine stp .refl E P fun v H1 ra ρ1 F1 O1 x1 _ E1 r1 P1 => ?_
  refine stp x1 E1 P1 fun u H2 rb ρ2 F2 O2 x2 y2 E2 r2 P2 => ?_
  have r1' : ResR T H H2 F2 O2 σ v ra := ResR.mono E1 x2 r1
  cases q1 : val ρ2 ra with
  | none => rw [q1] at P2; exact P2.elim
  | some d =>
    cases q2 : val ρ2 rb with
    | none => rw [q1, q2] at P2; exact P2.elim
    | some e =>
      rw [q1, q2] at P2
      dsimp only at P2
      split at P2
      · rename_i q3
        refine dr v u d e _ H2 F2 _ E2.lv (val_vw E2 r1' q1) (val_vw E2 r2 q2) q3 fun w H3 F3 g3 n3 => ⟨true, bl_of n3, ?_⟩
        rw [if_pos rfl]
        have y3 := y2.trans (g3.ext (s := false) (O := O2))
        have E3 := E2.gr g3
        have r3 : ResR T H1 H3 F3 O2 σ u rb := ResR.mono E2 (g3.ext (s := false)) r2
        refine stp y3 E3 P2 fun w4 H4 rc ρ4 F4 O4 x4 y4 E4 r4 P4 => ?_
        have r5 : ResR T H1 H4 F4 O4 σ u rb := ResR.mono E3 x4 r3
        cases q4 : val ρ4 rb with
        | none => rw [q4] at P4; exact P4.elim
        | some e' =>
          cases q5 : val ρ4 rc with
          | none => rw [q4, q5] at P4; exact P4.elim
          | some z =>
            rw [q4, q5] at P4
            dsimp only at P4
            cases q6 : g' e' z with
            | none => rw [q6] at P4; exact P4.elim
            | some y =>
              rw [q6] at P4
              exact dr' u w4 e' z y H4 F4 Q E4.lv (val_vw E4 r5 q4) (val_vw E4 r4 q5) q6 fun w H5 F5 g5 n5 => fin_op y4 E4 P4 g5 n5
      · rename_i q3
        refine dr v u d e _ H2 F2 _ E2.lv (val_vw E2 r1' q1) (val_vw E2 r2 q2) q3 fun w H3 F3 g3 n3 => ⟨false, bl_of n3, ?_⟩
        rw [if_neg Bool.false_ne_true]
        exact P2 _ H3 F3 O2 (y2.trans g3.ext) (E2.gr g3) (.bl _)
      · exact P2.elim
theorem se_ch {op op' : CmpOp} {r r' : R2} {g g' : PyData → PyData → Option R} (ho : OpR X (compareOp op) r) (ho' : OpR X (compareOp op') r') (dr : Does2 T r g) (dr' : Does2 T r' g') (ha : SE X T W a fa) (hb : SE X T W b fb) (hc : SE X T W c fc)
    (hm : lastMarks [op, op'] [b, c] = false := by with_unfolding_all rfl) : SE X T W (.Compare a [op, op'] [b, c] pos) (chM g g' fa fb fc) := pe_imp (pe_chain ho ho' ha hb hc hm) fun _ _ _ h => ch_of dr dr' h
theorem st_ch {op op' : CmpOp} {r r' : R2} {g g' : PyData → PyData → Option R} (ho : OpR X (compareOp op) r) (ho' : OpR X (compareOp op') r') (dr : Does2 T r g) (dr' : Does2 T r' g') (ha : SE X T W a fa) (hb : SE X T W b fb) (hc : SE X T W c fc)
    (hm : lastMarks [op, op'] [b, c] = false := by with_unfolding_all rfl) : ST X T W (.Compare a [op, op'] [b, c] pos) (tsM (chM g g' fa fb fc)) := pt_imp (pt_chain ho ho' ha hb hc hm) fun _ _ _ h => ch_of dr dr' (ts_of h)
theorem se_ite (hc : ST X T W c ta) (ha : SE X T W a fa) (hb : SE X T W b fb) : SE X T W (.IfExp c a b pos) (iteM ta fa fb) := by
  refine pe_imp (pe_ifExp hc ha hb) fun σ H Q ⟨ρ, F, O, E, P⟩ => ?_
  refine stp .refl E P fun v H1 b ρ1 F1 O1 x1 y1 E1 r1 P1 => ?_
  have r1' : v = b := r1
  subst r1'
  cases v with
  | true => rw [if_pos rfl] at P1 ⊢; exact rstE y1 E1 P1
  | false => rw [if_neg Bool.false_ne_true] at P1 ⊢; exact rstE y1 E1 P1
end
end DL

/-! D4: the operations on data. -/
namespace DL
open PySem L2

/-! ### rules over the machine -/
section
variable {X : Cx} {pins : List (Addr × Obj)} {σ : L2.St} {H : Hp} {s : Shared} {a : Addr} {xs : List V}
theorem isL_of (I : L2.Inv X pins σ H s) (h : LsR X.K H a xs) : ∃ its n, Vals xs its ∧ IsL s.heap a its.toArray n ∧ xs.length ≤ sizeLine := by
  rcases h with (h | ⟨o, h⟩) | ⟨its, n, h1, h2, h3, _⟩
  · obtain ⟨z, its, n, r, e⟩ := I.hok a _ h
    exact ⟨its, n, r, e, z⟩
  · obtain ⟨_, z, its, n, r, e⟩ := I.hok a _ h
    exact ⟨its, n, r, e, z⟩
  · refine ⟨its.toList, n, h3, ?_, ?_⟩
    · have q := I.kIn a _ h1
      simpa using q
    · rw [h3.length]
      simpa using h2
end
/-- + -/
def rPlus (K : PySem.W.Frag) : R2 := fun x y H Q => (∃ i j, x = .int i ∧ y = .int j ∧ Q (.int (i + j)) H) ∨
  (∃ i j, x = .str i ∧ y = .str j ∧ i.length + j.length ≤ sizeLine ∧ Q (.str (i ++ j)) H) ∨
  (∃ l b xs zs, x = .ref l ∧ y = .ref b ∧ LsR K H l xs ∧ LsR K H b zs ∧ xs.length + zs.length ≤ sizeLine ∧ ∀ p, H p = none → Q (.ref p) (upd H p (.lst (xs ++ zs)))) ∨ rCatA K x y H Q
theorem op_plusL {X : Cx} : OpR X (binaryOp .Add) (fun x y H Q => ∃ l b xs zs, x = .ref l ∧ y = .ref b ∧ LsR X.K H l xs ∧ LsR X.K H b zs ∧ xs.length + zs.length ≤ sizeLine ∧ ∀ p, H p = none → Q (.ref p) (upd H p (.lst (xs ++ zs)))) := by
  intro pins s σ H x y v u Q I rx ry h
  obtain ⟨l, b, xs, zs, rfl, rfl, h1, h2, hz, q⟩ := h
  cases rx
  cases ry
  obtain ⟨i1, n1, r1, e1, _⟩ := isL_of I h1
  obtain ⟨i2, n2, r2, e2, _⟩ := isL_of I h2
  have l1 := r1.length
  have l2 := r2.length
  refine PySem.P.add_list e1 e2 ?_ (by simp only [List.size_toArray]; omega)
  rw [show i1.toArray ++ i2.toArray = (i1 ++ i2).toArray by simp]
  exact ⟨.ref _, _, I.lnew (t' := s.toks) (r1.append r2) (by rw [List.length_append]; exact hz), rfl, q _ I.fresh⟩
theorem op_plus {X : Cx} : OpR X (binaryOp .Add) (rPlus X.K) := op_add.or (op_add_str.or (op_plusL.or op_catA))
def CFd (_ j : Int) : Prop := j ≠ 0 ∧ j.natAbs.log2 < 9000
theorem op_fd {X : Cx} : OpR X (binaryOp .FloorDiv) (rI CFd fun i j => .int (i.fdiv j)) := opI fun _ _ _ _ _ _ _ hc q => PyProof.Rows.floordiv_int hc.1 q (.inl (PyProof.noPylong_of_log2 hc.2))

/-! ### what they do with data -/
/-- lengths are kept within a bound that every heap bears -/
abbrev lim : Nat := 100000
def dPlus : PyData → PyData → Option R
  | .int i, .int j => some (.dat (.int (i + j)))
  | .str i, .str j => if i.length + j.length ≤ lim then some (.dat (.str (i ++ j))) else none
  | .list xs, .list ys => if xs.length + ys.length ≤ lim then some (.own (.list (xs ++ ys))) else none
  | .tuple xs, .tuple ys => if xs.length + ys.length ≤ lim then some (.dat (.tuple (xs ++ ys))) else none
  | _, _ => none
def dMinus : PyData → PyData → Option R
  | .int i, .int j => some (.dat (.int (i - j)))
  | _, _ => none
def dMul : PyData → PyData → Option R
  | .int i, .int j => if i.natAbs.log2 + j.natAbs.log2 < 1000000 then some (.dat (.int (i * j))) else none
  | .tuple xs, .int k => if xs ≠ [] ∧ 2 ≤ k ∧ k ≤ 1000 ∧ xs.length ≤ 1000 then some (.dat (.tuple (List.replicate k.toNat xs).flatten)) else none
  | _, _ => none
def dFd : PyData → PyData → Option R
  | .int i, .int j => if j ≠ 0 ∧ j.natAbs.log2 < 9000 then some (.dat (.int (i.fdiv j))) else none
  | _, _ => none
def dMod : PyData → PyData → Option R
  | .int i, .int j => if j ≠ 0 then some (.dat (.int (i.fmod j))) else none
  | _, _ => none
def dPow : PyData → PyData → Option R
  | .int i, .int j => if 0 ≤ j ∧ j ≤ 1000000 ∧ i.natAbs < 2 ^ 64 then some (.dat (.int (i ^ j.toNat))) else none
  | _, _ => none
def dNeg : PyData → Option R
  | .int i => some (.dat (.int (-i)))
  | _ => none
def dLt : PyData → PyData → Option R
  | .int i, .int j => some (.dat (.bool (decide (i < j))))
  | _, _ => none
def dLe : PyData → PyData → Option R
  | .int i, .int j => some (.dat (.bool (decide (i ≤ j))))
  | _, _ => none
def dGt : PyData → PyData → Option R
  | .int i, .int j => some (.dat (.bool (decide (j < i))))
  | _, _ => none
def dGe : PyData → PyData → Option R
  | .int i, .int j => some (.dat (.bool (decide (j ≤ i))))
  | _, _ => none
def dEq : PyData → PyData → Option R
  | .str i, .str j => some (.dat (.bool (decide (i = j))))
  | d, e => if SeqAt.shaped d = true ∧ SeqAt.shaped e = true then some (.dat (.bool (PyData.eqv d e))) else none
def dNe : PyData → PyData → Option R
  | .str i, .str j => some (.dat (.bool (!decide (i = j))))
  | d, e => if SeqAt.shaped d = true ∧ SeqAt.shaped e = true then some (.dat (.bool (!PyData.eqv d e))) else none
/-- x is None -/
def isNone : PyData → Bool
  | .none => true
  | _ => false
def dIsN (d e : PyData) : Option R := match e with
  | .none => some (.dat (.bool (isNone d)))
  | _ => none
def dNotN (d e : PyData) : Option R := match e with
  | .none => some (.dat (.bool (!isNone d)))
  | _ => none
def dIx : PyData → PyData → Option R
  | .list xs, .int i => (atI xs i).map R.dat
  | .tuple xs, .int i => (atI xs i).map R.dat
  | .str x, .int i => if x.length ≤ lim then (atI x.cps.toList i).map fun c => R.dat (.str ⟨#[c]⟩) else none
  | _, _ => none

section
variable {T : Tb} {H : Hp} {F : Reg}
theorem Vw.df_flat {v : V} {d : PyData} (h : Vw T H F v d) (n : OwnAt T.K H F = OwnAt T.K H F) : Vw T H F v d := h
theorem lm {n : Nat} (h : n ≤ lim) : n ≤ sizeLine := Nat.le_trans h (by decide)
theorem does_plus : Does2 T (rPlus T.K) dPlus := by
  intro x y d e z H F Q lv hx hy hg hq
  unfold dPlus at hg
  split at hg
  · cases hg
    exact .inl ⟨_, _, hx.int, hy.int, hq _ H F .refl (.int _)⟩
  · split at hg
    · rename_i hz
      cases hg
      exact .inr (.inl ⟨_, _, hx.str, hy.str, lm hz, hq _ H F .refl (.str _)⟩)
    · cases hg
  · split at hg
    · rename_i hz
      cases hg
      obtain ⟨a, vs, rfl, h1, s1⟩ := hx.lst
      obtain ⟨b, us, rfl, h2, s2⟩ := hy.lst
      refine .inr (.inr (.inl ⟨a, b, vs, us, rfl, rfl, h1, h2, by rw [s1.length, s2.length]; exact lm hz, fun p hp => hq _ _ F (.laid hp) (resN_lst hp (fun q => lv p q hp) (s1.append s2))⟩))
    · cases hg
  · split at hg
    · rename_i hz
      cases hg
      obtain ⟨a, vs, rfl, h1, s1⟩ := hx.tup
      obtain ⟨b, us, rfl, h2, s2⟩ := hy.tup
      refine .inr (.inr (.inr ⟨a, b, vs, us, rfl, rfl, h1, h2, by rw [s1.length, s2.length]; exact lm hz, fun e => ?_, fun _ e => ?_, fun _ _ p hp => hq _ _ F (.laid hp) (resN_tup hp (s1.append s2))⟩))
      · subst e
        cases s1
        exact hq _ H F .refl (.tup h2 s2)
      · subst e
        cases s2
        rw [List.append_nil] at hq
        exact hq _ H F .refl (.tup h1 s1)
    · cases hg
  · cases hg
theorem does_minus : Does2 T (rI0 fun i j => .int (i - j)) dMinus := by
  intro x y d e z H F Q lv hx hy hg hq
  unfold dMinus at hg
  split at hg
  · cases hg
    exact ⟨_, _, hx.int, hy.int, hq _ H F .refl (.int _)⟩
  · cases hg
def rMulX (K : PySem.W.Frag) : R2 := fun x y H Q => rI CMulW (fun i j => .int (i * j)) x y H Q ∨ rRepT K x y H Q
theorem op_mulX {X : Cx} : OpR X (binaryOp .Mult) (rMulX X.K) := op_mulW.or op_repT
theorem DFs.rep {vs : List V} {ds : List PyData} (h : DFs T.K H F vs ds) : ∀ n : Nat, DFs T.K H F (List.replicate n vs).flatten (List.replicate n ds).flatten
  | 0 => .nil
  | n + 1 => by
    rw [List.replicate_succ, List.replicate_succ, List.flatten_cons, List.flatten_cons]
    exact h.append (DFs.rep h n)
theorem does_mul : Does2 T (rMulX T.K) dMul := by
  intro x y d e z H F Q lv hx hy hg hq
  unfold dMul at hg
  split at hg
  · split at hg
    · rename_i hz
      cases hg
      exact .inl ⟨_, _, hx.int, hy.int, hz, hq _ H F .refl (.int _)⟩
    · cases hg
  · split at hg
    · rename_i hz
      cases hg
      obtain ⟨a, vs, rfl, h1, s1⟩ := hx.tup
      refine .inr ⟨a, _, vs, rfl, hy.int, h1, fun e => ?_, hz.2.1, hz.2.2.1, by rw [s1.length]; exact hz.2.2.2, fun p hp => hq _ _ F (.laid hp) (resN_tup hp (s1.rep _))⟩
      subst e
      cases s1
      exact hz.1 rfl
    · cases hg
  · cases hg
theorem does_fd : Does2 T (rI CFd fun i j => .int (i.fdiv j)) dFd := by
  intro x y d e z H F Q lv hx hy hg hq
  unfold dFd at hg
  split at hg
  · split at hg
    · rename_i hz
      cases hg
      exact ⟨_, _, hx.int, hy.int, hz, hq _ H F .refl (.int _)⟩
    · cases hg
  · cases hg
theorem does_mod : Does2 T (rI (fun _ j => j ≠ 0) fun i j => .int (i.fmod j)) dMod := by
  intro x y d e z H F Q lv hx hy hg hq
  unfold dMod at hg
  split at hg
  · split at hg
    · rename_i hz
      cases hg
      exact ⟨_, _, hx.int, hy.int, hz, hq _ H F .refl (.int _)⟩
    · cases hg
  · cases hg
theorem does_pow : Does2 T (rI CPow fun i j => .int (i ^ j.toNat)) dPow := by
  intro x y d e z H F Q lv hx hy hg hq
  unfold dPow at hg
  split at hg
  · split at hg
    · rename_i hz
      cases hg
      exact ⟨_, _, hx.int, hy.int, hz, hq _ H F .refl (.int _)⟩
    · cases hg
  · cases hg
theorem does_neg : Does1 T (rU fun i => .int (-i)) dNeg := by
  intro x d z H F Q lv hx hg hq
  unfold dNeg at hg
  split at hg
  · cases hg
    exact ⟨_, hx.int, hq _ H F .refl (.int _)⟩
  · cases hg
theorem does_lt : Does2 T (rI0 fun i j => .bl (decide (i < j))) dLt := by
  intro x y d e z H F Q lv hx hy hg hq
  unfold dLt at hg
  split at hg
  · cases hg
    exact ⟨_, _, hx.int, hy.int, hq _ H F .refl (.bl _)⟩
  · cases hg
theorem does_le : Does2 T (rI0 fun i j => .bl (decide (i ≤ j))) dLe := by
  intro x y d e z H F Q lv hx hy hg hq
  unfold dLe at hg
  split at hg
  · cases hg
    exact ⟨_, _, hx.int, hy.int, hq _ H F .refl (.bl _)⟩
  · cases hg
theorem does_gt : Does2 T (rI0 fun i j => .bl (decide (j < i))) dGt := by
  intro x y d e z H F Q lv hx hy hg hq
  unfold dGt at hg
  split at hg
  · cases hg
    exact ⟨_, _, hx.int, hy.int, hq _ H F .refl (.bl _)⟩
  · cases hg
theorem does_ge : Does2 T (rI0 fun i j => .bl (decide (j ≤ i))) dGe := by
  intro x y d e z H F Q lv hx hy hg hq
  unfold dGe at hg
  split at hg
  · cases hg
    exact ⟨_, _, hx.int, hy.int, hq _ H F .refl (.bl _)⟩
  · cases hg
/-! == of data -/
mutual
theorem DF.dp : ∀ {v : V} {d : PyData}, DF T.K H F v d → d.canLay0 = true → L2.Dp T.K H v d
  | _, _, .non, _ => .non
  | _, _, .bl b, _ => .bl b
  | _, _, .int i, _ => .int i
  | _, _, .str x, _ => .str x
  | _, _, .lst f r s, h => .lst (.inl r) (DFs.dp s (by simpa [PyData.canLay0] using h))
  | _, _, .lstK r s, h => .lst (LsR.sq (.inr r)) (DFs.dp s (by simpa [PyData.canLay0] using h))
  | _, _, .tup r s, h => .tup r (DFs.dp s (by simpa [PyData.canLay0] using h))
  | _, _, .dct f r s, h => by simp [PyData.canLay0] at h
  | _, _, .dcT f r e s, h => by simp [PyData.canLay0] at h
theorem DFs.dp : ∀ {vs : List V} {ds : List PyData}, DFs T.K H F vs ds → PyData.canLayAll0 ds = true → L2.DpAll T.K H vs ds
  | _, _, .nil, _ => .nil
  | _, _, .cons a b, h => by
    have h' := h
    simp only [PyData.canLayAll0, Bool.and_eq_true] at h'
    exact .cons (DF.dp a h'.1) (DFs.dp b h'.2)
end
theorem Vw.dp {v : V} {d : PyData} (h : Vw T H F v d) (hs : SeqAt.shaped d = true) : L2.Dp T.K H v d := by
  have hc : d.canLay0 = true := by
    unfold SeqAt.shaped at hs
    simp only [Bool.and_eq_true] at hs
    exact hs.1
  rcases h with h | ⟨a, rfl, h⟩
  · exact h.dp hc
  · cases d with
    | list ds =>
      obtain ⟨vs, e, s⟩ := h
      exact .lst (.inl (.inl e)) (s.dp (by simpa [PyData.canLay0] using hc))
    | dict ds => simp [PyData.canLay0] at hc
    | none => exact h.elim
    | bool b => exact h.elim
    | int i => exact h.elim
    | str x => exact h.elim
    | tuple xs => exact h.elim
theorem does_eq : Does2 T (fun x y H Q => rEq x y H Q ∨ rEqD T.K x y H Q) dEq := by
  intro x y d e z H F Q lv hx hy hg hq
  unfold dEq at hg
  split at hg
  · cases hg
    have ex := hx.str
    have ey := hy.str
    subst ex ey
    refine .inl ⟨rfl, ?_⟩
    have := hq _ H F .refl (.bl _)
    simpa using this
  · split at hg
    · rename_i hz
      cases hg
      exact .inr ⟨_, _, hx.dp hz.1, hy.dp hz.2, hz.1, hz.2, hq _ H F .refl (.bl _)⟩
    · cases hg
theorem does_ne : Does2 T (fun x y H Q => rNe x y H Q ∨ rNeD T.K x y H Q) dNe := by
  intro x y d e z H F Q lv hx hy hg hq
  unfold dNe at hg
  split at hg
  · cases hg
    have ex := hx.str
    have ey := hy.str
    subst ex ey
    refine .inl ⟨rfl, ?_⟩
    have := hq _ H F .refl (.bl _)
    simpa using this
  · split at hg
    · rename_i hz
      cases hg
      exact .inr ⟨_, _, hx.dp hz.1, hy.dp hz.2, hz.1, hz.2, hq _ H F .refl (.bl _)⟩
    · cases hg
theorem Vw.isNone {v : V} {d : PyData} (h : Vw T H F v d) : decide (v = .non) = DL.isNone d := by
  rcases h with h | ⟨a, rfl, h⟩
  · cases h <;> simp [DL.isNone]
  · cases d with
    | list ds => simp [DL.isNone]
    | dict ds => simp [DL.isNone]
    | none => exact h.elim
    | bool b => exact h.elim
    | int i => exact h.elim
    | str x => exact h.elim
    | tuple xs => exact h.elim
theorem does_isN : Does2 T (fun x y H Q => y = .non ∧ Q (.bl (decide (x = .non))) H) dIsN := by
  intro x y d e z H F Q lv hx hy hg hq
  unfold dIsN at hg
  split at hg
  · cases hg
    refine ⟨hy.non, ?_⟩
    rw [hx.isNone]
    exact hq _ H F .refl (.bl _)
  · cases hg
theorem does_notN : Does2 T (fun x y H Q => y = .non ∧ Q (.bl (!decide (x = .non))) H) dNotN := by
  intro x y d e z H F Q lv hx hy hg hq
  unfold dNotN at hg
  split at hg
  · cases hg
    refine ⟨hy.non, ?_⟩
    rw [hx.isNone]
    exact hq _ H F .refl (.bl _)
  · cases hg
theorem atI_dfs {vs : List V} {ds : List PyData} {i : Int} {d : PyData} (s : DFs T.K H F vs ds) (h : atI ds i = some d) : ∃ v, atI vs i = some v ∧ DF T.K H F v d := by
  unfold atI at h ⊢
  rw [s.length]
  cases q : ixN ds.length i with
  | none => rw [q] at h; cases h
  | some j =>
    rw [q] at h
    exact s.get (show ds[j]? = some d from h)
theorem does_ix : Does2 T (rIx T.K) dIx := by
  intro x y d e z H F Q lv hx hy hg hq
  unfold dIx at hg
  split at hg
  · obtain ⟨a, vs, rfl, h1, s1⟩ := hx.lst
    obtain ⟨d', e1, e2⟩ := Option.map_eq_some_iff.mp hg
    subst e2
    obtain ⟨v, e3, h3⟩ := atI_dfs s1 e1
    exact .inl ⟨a, vs, _, v, rfl, hy.int, h1.sq, e3, hq _ H F .refl h3⟩
  · obtain ⟨a, vs, rfl, h1, s1⟩ := hx.tup
    obtain ⟨d', e1, e2⟩ := Option.map_eq_some_iff.mp hg
    subst e2
    obtain ⟨v, e3, h3⟩ := atI_dfs s1 e1
    exact .inr (.inl ⟨a, vs, _, v, rfl, hy.int, h1, e3, hq _ H F .refl h3⟩)
  · split at hg
    · rename_i hz
      obtain ⟨c, e1, e2⟩ := Option.map_eq_some_iff.mp hg
      subst e2
      exact .inr (.inr ⟨_, _, c, hx.str, hy.int, lm hz, e1, hq _ H F .refl (.str _)⟩)
    · cases hg
  · cases hg
end
end DL

/-! D5: statements. -/
namespace DL
open PySem L2

inductive Ot where
  | nx (ρ : Rho)
  | rt (r : R) (ρ : Rho)
  | bk (ρ : Rho)
  | ct (ρ : Rho)
  | er (c : Nat) (fs : List PyData) (ρ : Rho)
abbrev SM := Rho → Option Ot
/-- the slots that a def never stores stay -/
def Keeps (pr : Nat → Bool) (σ σ' : L2.St) : Prop := σ'.length = σ.length ∧ ∀ i, pr i = true → σ'[i]? = σ[i]?
theorem Keeps.refl {pr : Nat → Bool} {σ : L2.St} : Keeps pr σ σ := ⟨rfl, fun _ _ => rfl⟩
theorem Keeps.trans {pr : Nat → Bool} {σ σ1 σ2 : L2.St} (a : Keeps pr σ σ1) (b : Keeps pr σ1 σ2) : Keeps pr σ σ2 := ⟨b.1.trans a.1, fun i h => (b.2 i h).trans (a.2 i h)⟩
theorem Keeps.set {pr : Nat → Bool} {σ : L2.St} {i : Nat} {x : Option V} (h : pr i = false) : Keeps pr σ (σ.set i x) := ⟨List.length_set, fun j hj => by
  by_cases e : j = i
  · subst e; rw [h] at hj; cases hj
  · rw [List.getElem?_set_ne (Ne.symm e)]⟩

/-- a def's frame: the heap at its entry, how many parameters, the slots that it never stores -/
structure Fm where
  HB : Hp
  n : Nat
  pr : Nat → Bool
/-- the state between two statements -/
structure StR (T : Tb) (φ : Fm) (H : Hp) (F : Reg) (O : Ows) (σ : L2.St) (ρ : Rho) : Prop where
  E : EnvR T H F O σ ρ
  lb : ∀ b, H b = none → φ.HB b = none
  lf : ∀ i a, φ.n ≤ i → O i = some a → φ.HB a = none
theorem StR.step {T : Tb} {φ : Fm} {H H1 : Hp} {F F1 : Reg} {O O1 : Ows} {σ : L2.St} {ρ ρ1 : Rho} (S : StR T φ H F O σ ρ) (x : Ext false H F O H1 F1 O1) (E1 : EnvR T H1 F1 O1 σ ρ1) : StR T φ H1 F1 O1 σ ρ1 :=
  ⟨E1, fun b h => S.lb b (x.live b h), fun i a hi h => (x.own i a h).elim (S.lf i a hi) fun z => nomatch z.1⟩

def PostS (T : Tb) (W : WX) (φ : Fm) (σ : L2.St) (H : Hp) (F : Reg) (O : Ows) (D : Ends) : Option Ot → Prop
  | some (.nx ρ) => ∀ σ' H' F' O', Ext true H F O H' F' O' → StR T φ H' F' O' σ' ρ → Keeps φ.pr σ σ' → D.nx σ' H'
  | some (.rt r ρ) => ∀ v σ' H' F' O', Ext true H F O H' F' O' → StR T φ H' F' O' σ' ρ → Keeps φ.pr σ σ' → ResR T φ.HB H' F' O' [] v r → D.rt v H'
  | some (.bk ρ) => ∀ σ' H' F' O', Ext true H F O H' F' O' → StR T φ H' F' O' σ' ρ → Keeps φ.pr σ σ' → D.bk σ' H'
  | some (.ct ρ) => ∀ σ' H' F' O', Ext true H F O H' F' O' → StR T φ H' F' O' σ' ρ → Keeps φ.pr σ σ' → D.ct σ' H'
  | some (.er c fs ρ) => ∀ cls d σ' H' F' O', Ext true H F O H' F' O' → StR T φ H' F' O' σ' ρ → Keeps φ.pr σ σ' → ExcR T H' cls d c fs → W cls d σ' H'
  | none => False
def TSof (T : Tb) (W : WX) (φ : Fm) (f : SM) : TS := fun D σ H => ∃ ρ F O, StR T φ H F O σ ρ ∧ PostS T W φ σ H F O D (f ρ)
def SS (X : Cx) (T : Tb) (W : WX) (φ : Fm) (st : Stmt) (f : SM) : Prop := PS X st (TSof T W φ f)
def SB (X : Cx) (T : Tb) (W : WX) (φ : Fm) (st : List Stmt) (f : SM) : Prop := PSs X st (TSof T W φ f)
theorem ps_imp {X : Cx} {e : Stmt} {t t' : TS} (h : PS X e t) (i : ∀ D σ H, t' D σ H → t D σ H) : PS X e t' := ⟨fun pins s σ H D I q => h.run pins s σ H D I (i D σ H q)⟩
theorem pss_imp {X : Cx} {e : List Stmt} {t t' : TS} (h : PSs X e t) (i : ∀ D σ H, t' D σ H → t D σ H) : PSs X e t' := ⟨fun pins s σ H D I q => h.run pins s σ H D I (i D σ H q)⟩
theorem ps_impL {X : Cx} {e : Stmt} {t t' : TS} (h : PS X e t) (i : ∀ D σ H, σ.length = X.N.length → t' D σ H → t D σ H) : PS X e t' := ⟨fun pins s σ H D I q => h.run pins s σ H D I (i D σ H I.len q)⟩
theorem pe_impL {X : Cx} {e : Expr} {t t' : TE} (h : PE X e t) (i : ∀ σ H Q, σ.length = X.N.length → t' σ H Q → t σ H Q) : PE X e t' := ⟨fun pins s σ H Q I q => h.run pins s σ H Q I (i σ H Q I.len q)⟩

/-! ### pieces -/
def seqM (f g : SM) : SM := fun ρ => match f ρ with
  | some (.nx ρ1) => g ρ1
  | o => o
def skipM : SM := fun ρ => some (.nx ρ)
/-- an expression's end as a statement's -/
def bindS {α : Type} (o : Option (Oe α)) (g : α → Rho → Option Ot) : Option Ot := match o with
  | some (.ok a ρ) => g a ρ
  | some (.er c fs ρ) => some (.er c fs ρ)
  | none => none
@[simp] theorem bindS_ok {α : Type} (a : α) (ρ : Rho) (g : α → Rho → Option Ot) : bindS (some (.ok a ρ)) g = g a ρ := rfl
@[simp] theorem bindS_er {α : Type} (c : Nat) (fs : List PyData) (ρ : Rho) (g : α → Rho → Option Ot) : bindS (some (.er c fs ρ)) g = some (.er c fs ρ) := rfl
@[simp] theorem bindS_none {α : Type} (g : α → Rho → Option Ot) : bindS none g = none := rfl
def dropM (f : EM) : SM := fun ρ => bindS (f ρ) fun _ ρ1 => some (.nx ρ1)
def ifM (c : Rho → Option (Oe Bool)) (f g : SM) : SM := fun ρ => bindS (c ρ) fun b ρ1 => if b = true then f ρ1 else g ρ1
/-- what is stored in a slot -/
def asR (ρ : Rho) (i : Nat) : R → Option Rho
  | .dat d => some (ρ.set i (some (.dat d)))
  | .own d => some (ρ.set i (some (.own d)))
  | .st xs => some (ρ.set i (some (.st xs)))
  | .fn k => some (ρ.set i (some (.fn k)))
  | .slt j => (frz ρ (.slt j)).map fun p => p.2.set i (some (.dat p.1))
  | .ex _ _ => none
  | .two _ _ => none
def asgM (i : Nat) (f : EM) : SM := fun ρ => bindS (f ρ) fun r ρ1 => (asR ρ1 i r).map .nx
/-- n: how many parameters; what they hold is shared with the caller -/
def retR (n : Nat) (ρ : Rho) : R → Option (R × Rho)
  | .slt i => if i < n then (frz ρ (.slt i)).map fun p => (.dat p.1, p.2) else match ρ[i]? with
    | some (some (.own d)) => some (.own d, ρ.set i none)
    | some (some (.dat d)) => some (.dat d, ρ)
    | _ => none
  | .ex _ _ => none
  | r => some (r, ρ)
def retM (n : Nat) (f : EM) : SM := fun ρ => bindS (f ρ) fun r ρ1 => (retR n ρ1 r).map fun p => .rt p.1 p.2
def retN : SM := fun ρ => some (.rt (.dat .none) ρ)

section
variable {X : Cx} {T : Tb} {W : WX} {φ : Fm} {α β : Type} {Ra : Tell α β} {σ : L2.St} {ρ : Rho} {B H : Hp} {FB F : Reg} {OB O : Ows} {D : Ends} {σB : L2.St}
/-- an expression within a statement -/
theorem sps {f : Rho → Option (Oe α)} {g : α → Rho → Option Ot} {Q' : β → Hp → Prop} (x : Ext true B FB OB H F O) (ks : Keeps φ.pr σB σ) (S : StR T φ H F O σ ρ) (P : PostS T W φ σB B FB OB D (bindS (f ρ) g))
    (k : ∀ v H1 a ρ1 F1 O1, Ext false H F O H1 F1 O1 → Ext true B FB OB H1 F1 O1 → StR T φ H1 F1 O1 σ ρ1 → Ra σ H H1 F1 O1 v a → PostS T W φ σB B FB OB D (g a ρ1) → Q' v H1) : Tof T W Ra f σ H Q' := by
  refine ⟨ρ, F, O, S.E, ?_⟩
  cases q : f ρ with
  | none => rw [q] at P; exact P
  | some o =>
    rw [q] at P
    cases o with
    | ok a ρ1 => exact fun v H1 F1 O1 x1 E1 r1 => k v H1 a ρ1 F1 O1 x1 (x.trans x1.up) (S.step x1 E1) r1 P
    | er c fs ρ1 => exact fun cls d H1 F1 O1 x1 E1 r1 => P cls d σ H1 F1 O1 (x.trans x1.up) (S.step x1 E1) ks r1
/-- the rest of a statement from where it stands -/
theorem rsts {f : SM} (x : Ext true B FB OB H F O) (ks : Keeps φ.pr σB σ) (S : StR T φ H F O σ ρ) (P : PostS T W φ σB B FB OB D (f ρ)) : TSof T W φ f D σ H := by
  refine ⟨ρ, F, O, S, ?_⟩
  cases q : f ρ with
  | none => rw [q] at P; exact P
  | some o =>
    rw [q] at P
    cases o with
    | nx ρ1 => exact fun σ' H1 F1 O1 x1 E1 k1 => P σ' H1 F1 O1 (x.trans x1) E1 (ks.trans k1)
    | rt r ρ1 => exact fun v σ' H1 F1 O1 x1 E1 k1 r1 => P v σ' H1 F1 O1 (x.trans x1) E1 (ks.trans k1) r1
    | bk ρ1 => exact fun σ' H1 F1 O1 x1 E1 k1 => P σ' H1 F1 O1 (x.trans x1) E1 (ks.trans k1)
    | ct ρ1 => exact fun σ' H1 F1 O1 x1 E1 k1 => P σ' H1 F1 O1 (x.trans x1) E1 (ks.trans k1)
    | er c fs ρ1 => exact fun cls d σ' H1 F1 O1 x1 E1 k1 r1 => P cls d σ' H1 F1 O1 (x.trans x1) E1 (ks.trans k1) r1
end

section
variable {X : Cx} {T : Tb} {W : WX} {φ : Fm} {st : Stmt} {rest : List Stmt} {f g : SM} {e c : Expr} {fe : EM} {tc : Rho → Option (Oe Bool)} {pos : Pos}
theorem ss_nil : SB X T W φ [] skipM := pss_imp pss_nil fun D σ H ⟨ρ, F, O, S, P⟩ => P σ H F O .refl S .refl
theorem seq_of {D : Ends} {σ : L2.St} {H : Hp} (h : TSof T W φ (seqM f g) D σ H) : tSeq (TSof T W φ f) (TSof T W φ g) D σ H := by
  obtain ⟨ρ, F, O, S, P⟩ := h
  refine ⟨ρ, F, O, S, ?_⟩
  unfold seqM at P
  cases q : f ρ with
  | none => rw [q] at P; exact P
  | some o =>
    rw [q] at P
    cases o with
    | nx ρ1 => exact fun σ' H1 F1 O1 x1 E1 k1 => rsts x1 k1 E1 P
    | rt r ρ1 => exact P
    | bk ρ1 => exact P
    | ct ρ1 => exact P
    | er c fs ρ1 => exact P
theorem ss_cons (h1 : SS X T W φ st f) (h2 : SB X T W φ rest g) : SB X T W φ (st :: rest) (seqM f g) := pss_imp (pss_cons h1 h2) fun _ _ _ h => seq_of h
theorem ss_one (h : SS X T W φ st f) : SB X T W φ [st] f := pss_one h
theorem ss_pass : SS X T W φ (.Pass pos) skipM := ps_imp ps_pass fun D σ H ⟨ρ, F, O, S, P⟩ => P σ H F O .refl S .refl
theorem ss_expr (he : SE X T W e fe) (hs : swapsWith e none pos.line X.env = pure false := by rfl) : SS X T W φ (.Expr e pos) (dropM fe) := by
  refine ps_imp (ps_expr he hs) fun D σ H ⟨ρ, F, O, S, P⟩ => ?_
  exact sps .refl .refl S P fun v H1 a ρ1 F1 O1 x1 y1 S1 r1 P1 => P1 σ H1 F1 O1 y1 S1 .refl
theorem ss_if {a b : List Stmt} (hc : ST X T W c tc) (ha : SB X T W φ a f) (hb : SB X T W φ b g) : SS X T W φ (.If c a b pos) (ifM tc f g) := by
  refine ps_imp (ps_if hc ha hb) fun D σ H ⟨ρ, F, O, S, P⟩ => ?_
  refine sps .refl .refl S P fun v H1 b ρ1 F1 O1 x1 y1 S1 r1 P1 => ?_
  have r1' : v = b := r1
  subst r1'
  cases v with
  | true => rw [if_pos rfl] at P1 ⊢; exact rsts y1 .refl S1 P1
  | false => rw [if_neg Bool.false_ne_true] at P1 ⊢; exact rsts y1 .refl S1 P1

/-! ### slots are stored -/
/-- a slot forgets what it alone held -/
theorem EnvR.put {H : Hp} {F : Reg} {O : Ows} {σ : L2.St} {ρ : Rho} {i : Nat} {v : V} {r : R} {oa : Option Addr} (E : EnvR T H F O σ ρ) (hi : i < σ.length) (s : SlotR T H F oa v r) (h1 : ∀ a, oa = some a → ¬ F a) (h2 : ∀ a, oa = some a → ∀ j, O j ≠ some a) :
    EnvR T H F (fun j => if j = i then oa else O j) (σ.set i (some v)) (ρ.set i (some r)) := by
  have hl : i < ρ.length := by rw [E.len]; exact hi
  refine ⟨by rw [List.length_set, List.length_set]; exact E.len, fun j r' e => ?_, fun j b e => ?_, fun j k b e1 e2 => ?_, fun j b e q => ?_, E.lv, E.tb⟩
  · by_cases hj : j = i
    · subst hj
      rw [List.getElem?_set_self hl] at e
      cases e
      exact ⟨v, by rw [List.getElem?_set_self hi], by rw [if_pos rfl]; exact s⟩
    · rw [List.getElem?_set_ne (Ne.symm hj)] at e ⊢
      rw [if_neg hj]
      exact E.at_ j r' e
  · by_cases hj : j = i
    · subst hj
      exact ⟨r, by rw [List.getElem?_set_self hl]⟩
    · rw [if_neg hj] at e
      rw [List.getElem?_set_ne (Ne.symm hj)]
      exact E.own j b e
  · by_cases hj : j = i
    · rw [if_pos hj] at e1
      by_cases hk : k = i
      · rw [hj, hk]
      · rw [if_neg hk] at e2
        exact absurd e2 (h2 b e1 k)
    · rw [if_neg hj] at e1
      by_cases hk : k = i
      · rw [if_pos hk] at e2
        exact absurd e1 (h2 b e2 j)
      · rw [if_neg hk] at e2
        exact E.inj j k b e1 e2
  · by_cases hj : j = i
    · rw [if_pos hj] at e
      exact h1 b e q
    · rw [if_neg hj] at e
      exact E.nf j b e q
/-- a result is stored in a slot -/
theorem as_ok {B H0 H : Hp} {FB F : Reg} {OB O : Ows} {σ : L2.St} {ρ ρ' : Rho} {i : Nat} {v : V} (x : Ext true B FB OB H F O) (l : ∀ b, H0 b = none → B b = none) (E : EnvR T H F O σ ρ) (hi : i < σ.length) {r : R} (h : ResR T H0 H F O σ v r) (e : asR ρ i r = some ρ') :
    ∃ F' O', Ext true B FB OB H F' O' ∧ EnvR T H F' O' (σ.set i (some v)) ρ' ∧ ∀ j a, O' j = some a → O j = some a ∨ (j = i ∧ H0 a = none) := by
  have drop : ∀ {oa : Option Addr}, (∀ a, oa = some a → B a = none) → Ext true B FB OB H F (fun j => if j = i then oa else O j) := fun ho => ⟨x.keep, x.live, x.grow, x.new, fun j b q => by
    by_cases hj : j = i
    · rw [if_pos hj] at q
      exact .inr ⟨rfl, .inr (ho b q)⟩
    · rw [if_neg hj] at q
      exact x.own j b q⟩
  have sub : ∀ {oa : Option Addr}, (∀ a, oa = some a → H0 a = none) → ∀ j a, (if j = i then oa else O j) = some a → O j = some a ∨ (j = i ∧ H0 a = none) := fun ho j a q => by
    by_cases hj : j = i
    · rw [if_pos hj] at q
      exact .inr ⟨hj, ho a q⟩
    · rw [if_neg hj] at q
      exact .inl q
  cases r with
  | dat d =>
    cases e
    exact ⟨F, _, drop (oa := none) (fun _ q => nomatch q), E.put hi (oa := none) ⟨rfl, h⟩ (fun _ q => nomatch q) (fun _ q => nomatch q), sub fun _ q => nomatch q⟩
  | own d =>
    cases e
    obtain ⟨a, h1, h2, h3, h4, h5⟩ := h
    exact ⟨F, _, drop (oa := some a) (fun _ q => by cases q; exact l a h2), E.put hi (oa := some a) ⟨a, rfl, h1, h5⟩ (fun _ q => by cases q; exact h3) (fun _ q => by cases q; exact h4), sub fun _ q => by cases q; exact h2⟩
  | st xs =>
    cases e
    obtain ⟨a, h1, h2, h3, h4, h5⟩ := h
    exact ⟨F, _, drop (oa := some a) (fun _ q => by cases q; exact l a h2), E.put hi (oa := some a) ⟨a, rfl, h1, h5⟩ (fun _ q => by cases q; exact h3) (fun _ q => by cases q; exact h4), sub fun _ q => by cases q; exact h2⟩
  | fn k =>
    cases e
    exact ⟨F, _, drop (oa := none) (fun _ q => nomatch q), E.put hi (oa := none) ⟨rfl, h⟩ (fun _ q => nomatch q) (fun _ q => nomatch q), sub fun _ q => nomatch q⟩
  | ex c fs => cases e
  | two d d' => cases e
  | slt j =>
    have e' : (frz ρ (.slt j)).map (fun p => p.2.set i (some (.dat p.1))) = some ρ' := e
    obtain ⟨⟨d, ρ1⟩, e1, e2⟩ := Option.map_eq_some_iff.mp e'
    subst e2
    obtain ⟨F1, O1, x1, E1, d1, _, sb, _⟩ := fz x l E h e1
    refine ⟨F1, fun j => if j = i then none else O1 j, ⟨x1.keep, x1.live, x1.grow, x1.new, fun j b q => ?_⟩, E1.put hi (oa := none) ⟨rfl, d1⟩ (fun _ q => nomatch q) (fun _ q => nomatch q), fun j a q => ?_⟩
    · by_cases hj : j = i
      · rw [if_pos hj] at q; cases q
      · rw [if_neg hj] at q
        exact x1.own j b q
    · have q' : (if j = i then none else O1 j) = some a := q
      by_cases hj : j = i
      · rw [if_pos hj] at q'; cases q'
      · rw [if_neg hj] at q'
        exact .inl (sb j a q')
variable {i : Nat} {x : Str}
theorem asg_of {D : Ends} {σ : L2.St} {H : Hp} (hp : φ.pr i = false) (hN : i < σ.length) (h : TSof T W φ (asgM i fe) D σ H) : tAsg (Tof T W (tlE T) fe) (gName i) D σ H := by
  obtain ⟨ρ, F, O, S, P⟩ := h
  refine sps .refl .refl S P fun v H1 r ρ1 F1 O1 x1 y1 S1 r1 P1 => ?_
  cases q : asR ρ1 i r with
  | none => rw [q] at P1; exact P1.elim
  | some ρ2 =>
    rw [q] at P1
    obtain ⟨F2, O2, y2, E2, sb⟩ := as_ok y1 (fun _ h => h) S1.E hN r1 q
    exact P1 _ H1 F2 O2 y2 ⟨E2, S1.lb, fun j a hj e => (sb j a e).elim (S1.lf j a hj) fun z => S.lb a z.2⟩ (.set hp)
theorem lt_of_at {α : Type} {l : List α} {i : Nat} {x : α} (h : l[i]? = some x) : i < l.length := (List.getElem?_eq_some_iff.mp h).1
theorem ss_asg {pos' : Pos} (hp : φ.pr i = false) (hN : X.N.Nodup) (hi : X.N[i]? = some x) (hx : Loc X.env.scope x) (he : SE X T W e fe) (hs : swapsWith e (some (.Name x pos')) pos.line X.env = pure false := by rfl)
    (hf : X.fn x = true ∨ X.env.scope.names.lookup x = some .local := by first | exact .inl rfl | exact .inr rfl | assumption) : SS X T W φ (.Assign [.Name x pos'] e pos) (asgM i fe) :=
  ps_impL (ps_set hN hi hx he hs hf) fun D σ H hl h => asg_of hp (by rw [hl]; exact lt_of_at hi) h
/-- what a return hands back -/
theorem ret_ok {B H0 H : Hp} {FB F : Reg} {OB O : Ows} {σ : L2.St} {ρ ρ' : Rho} {v : V} (x : Ext true B FB OB H F O) (l : ∀ b, H0 b = none → B b = none) (l2 : ∀ b, H0 b = none → φ.HB b = none) (S : StR T φ H F O σ ρ) {r r' : R} (h : ResR T H0 H F O σ v r) (e : retR φ.n ρ r = some (r', ρ')) :
    ∃ F' O', Ext true B FB OB H F' O' ∧ StR T φ H F' O' σ ρ' ∧ ResR T φ.HB H F' O' [] v r' := by
  have E := S.E
  cases r with
  | dat d => cases e; exact ⟨F, O, x, S, h⟩
  | own d =>
    cases e
    obtain ⟨a, h1, h2, h3⟩ := h
    exact ⟨F, O, x, S, a, h1, l2 a h2, h3⟩
  | st xs =>
    cases e
    obtain ⟨a, h1, h2, h3⟩ := h
    exact ⟨F, O, x, S, a, h1, l2 a h2, h3⟩
  | fn k => cases e; exact ⟨F, O, x, S, h⟩
  | ex c fs => cases e
  | two d d' =>
    cases e
    obtain ⟨p, a, b, h1, h2, h3, ⟨a1, a2⟩, b1, b2⟩ := h
    exact ⟨F, O, x, S, p, a, b, h1, h2, h3, ⟨l2 a a1, a2⟩, l2 b b1, b2⟩
  | slt i =>
    unfold retR at e
    dsimp only at e
    split at e
    · obtain ⟨⟨d, ρ1⟩, e1, e2⟩ := Option.map_eq_some_iff.mp e
      cases e2
      obtain ⟨F1, O1, x1, E1, d1, _, sb, _⟩ := fz x l E h e1
      exact ⟨F1, O1, x1, ⟨E1, S.lb, fun j a hj q => S.lf j a hj (sb j a q)⟩, d1⟩
    · rename_i hi
      have h' : σ[i]? = some (some v) := h
      split at e
      · rename_i d q
        cases e
        obtain ⟨u, hu, a, z1, z2, z3⟩ := E.at_ i _ q
        rw [h'] at hu
        cases hu
        have hl : i < ρ.length := lt_of_at q
        have sb : ∀ j b, (if j = i then none else O j) = some b → O j = some b ∧ j ≠ i := fun j b q => by
          by_cases hj : j = i
          · rw [if_pos hj] at q; cases q
          · rw [if_neg hj] at q; exact ⟨q, hj⟩
        refine ⟨F, fun j => if j = i then none else O j, ⟨x.keep, x.live, x.grow, x.new, fun j b q => x.own j b (sb j b q).1⟩, ⟨⟨by rw [List.length_set]; exact E.len, fun j r e => ?_, fun j b e => ?_, fun j k b e1 e2 => E.inj j k b (sb j b e1).1 (sb k b e2).1, fun j b e => E.nf j b (sb j b e).1, E.lv, E.tb⟩, S.lb, fun j b hj q => S.lf j b hj (sb j b q).1⟩, a, z2, S.lf i a (Nat.le_of_not_lt hi) z1, E.nf i a z1, fun j q => (sb j a q).2 (E.inj j i a (sb j a q).1 z1), z3⟩
        · by_cases hj : j = i
          · subst hj; rw [List.getElem?_set_self hl] at e; cases e
          · rw [List.getElem?_set_ne (Ne.symm hj)] at e
            rw [if_neg hj]
            exact E.at_ j r e
        · rw [List.getElem?_set_ne (Ne.symm (sb j b e).2)]
          exact E.own j b (sb j b e).1
      · rename_i d q
        cases e
        obtain ⟨u, hu, z1, z2⟩ := E.at_ i _ q
        rw [h'] at hu
        cases hu
        exact ⟨F, O, x, S, z2⟩
      · cases e
theorem ss_ret (he : SE X T W e fe) : SS X T W φ (.Return (some e) pos) (retM φ.n fe) := by
  refine ps_imp (ps_ret he) fun D σ H ⟨ρ, F, O, S, P⟩ => ?_
  refine sps .refl .refl S P fun v H1 r ρ1 F1 O1 x1 y1 S1 r1 P1 => ?_
  cases q : retR φ.n ρ1 r with
  | none => rw [q] at P1; exact P1.elim
  | some p =>
    obtain ⟨r', ρ2⟩ := p
    rw [q] at P1
    obtain ⟨F2, O2, y2, S2, r2⟩ := ret_ok y1 (fun _ h => h) S.lb S1 r1 q
    exact P1 v σ H1 F2 O2 y2 S2 .refl r2
theorem ss_retN : SS X T W φ (.Return none pos) retN := ps_imp ps_retN fun D σ H ⟨ρ, F, O, S, P⟩ => P .non σ H F O .refl S .refl .non
end
end DL

/-! D6: targets, walks, for, list comprehensions. -/
namespace DL
open PySem L2

/-! ### targets -/
abbrev GM := PyData → Rho → Option Rho
abbrev GsM := List PyData → Rho → Option Rho
def gnM (i : Nat) : GM := fun d ρ => some (ρ.set i (some (.dat d)))
def gs0 : GsM := fun ds ρ => match ds with
  | [] => some ρ
  | _ => none
def gsC (g : GM) (gs : GsM) : GsM := fun ds ρ => match ds with
  | d :: r => (g d ρ).bind (gs r)
  | [] => none
def gtM (gs : GsM) : GM := fun d ρ => match d with
  | .tuple ds => gs ds ρ
  | _ => none

def Sub (O' O : Ows) : Prop := ∀ i a, O' i = some a → O i = some a
def TGof (T : Tb) (pr : Nat → Bool) (g : GM) : TG := fun v σ H Q => ∃ d ρ F O, EnvR T H F O σ ρ ∧ DF T.K H F v d ∧ match g d ρ with
  | none => False
  | some ρ' => ∀ σ' O', EnvR T H F O' σ' ρ' → Keeps pr σ σ' → Sub O' O → Q σ' H
def TGsof (T : Tb) (pr : Nat → Bool) (g : GsM) : TGs := fun vs σ H Q => ∃ ds ρ F O, EnvR T H F O σ ρ ∧ DFs T.K H F vs ds ∧ match g ds ρ with
  | none => False
  | some ρ' => ∀ σ' O', EnvR T H F O' σ' ρ' → Keeps pr σ σ' → Sub O' O → Q σ' H
def SG (X : Cx) (T : Tb) (pr : Nat → Bool) (e : Expr) (g : GM) : Prop := PG X e (TGof T pr g)
def SGs (X : Cx) (T : Tb) (pr : Nat → Bool) (es : List Expr) (g : GsM) : Prop := PGs X es (TGsof T pr g)
theorem pg_imp {X : Cx} {e : Expr} {t t' : TG} (h : PG X e t) (i : ∀ v σ H Q, σ.length = X.N.length → t' v σ H Q → t v σ H Q) : PG X e t' := ⟨fun pins s σ H x v Q I r q => h.run pins s σ H x v Q I r (i x σ H Q I.len q)⟩
theorem pgs_imp {X : Cx} {e : List Expr} {t t' : TGs} (h : PGs X e t) (i : ∀ v σ H Q, t' v σ H Q → t v σ H Q) : PGs X e t' := ⟨fun pins s σ H x v Q I r q => h.run pins s σ H x v Q I r (i x σ H Q q)⟩

section
variable {X : Cx} {T : Tb} {pr : Nat → Bool} {i : Nat} {x : Str} {pos : Pos} {e : Expr} {es : List Expr} {g : GM} {gs : GsM}
theorem sg_nm (hp : pr i = false) (hN : X.N.Nodup) (hi : X.N[i]? = some x) (hx : Loc X.env.scope x) (hf : X.fn x = true ∨ X.env.scope.names.lookup x = some .local := by first | exact .inl rfl | exact .inr rfl | assumption) : SG X T pr (.Name x pos) (gnM i) := by
  refine pg_imp (pg_name hN hi hx hf) fun v σ H Q hl ⟨d, ρ, F, O, E, dv, P⟩ => ?_
  have hlt : i < σ.length := by rw [hl]; exact lt_of_at hi
  refine P _ _ (E.put hlt (oa := none) ⟨rfl, dv⟩ (fun _ q => nomatch q) fun _ q => nomatch q) (.set hp) fun j a q => ?_
  by_cases hj : j = i
  · rw [if_pos hj] at q; cases q
  · rw [if_neg hj] at q; exact q
theorem sgs_nil : SGs X T pr [] gs0 := by
  refine pgs_imp pgs_nil fun vs σ H Q ⟨ds, ρ, F, O, E, dv, P⟩ => ?_
  cases dv with
  | nil => exact ⟨rfl, P σ O E .refl fun _ _ h => h⟩
  | cons a b => exact P.elim
theorem sgs_cons (h1 : SG X T pr e g) (h2 : SGs X T pr es gs) (hs : (assignEach (e :: es) X.env).map (·.2) = assign e X.env :: (assignEach es X.env).map (·.2) := by rfl) : SGs X T pr (e :: es) (gsC g gs) := by
  refine pgs_imp (pgs_cons h1 h2 hs) fun vs σ H Q ⟨ds, ρ, F, O, E, dv, P⟩ => ?_
  cases dv with
  | nil => exact P.elim
  | @cons v d vs ds a b =>
    refine ⟨v, vs, rfl, d, ρ, F, O, E, a, ?_⟩
    have P' : match (g d ρ).bind (gs ds) with
      | none => False
      | some ρ' => ∀ σ' O', EnvR T H F O' σ' ρ' → Keeps pr σ σ' → Sub O' O → Q σ' H := P
    cases q : g d ρ with
    | none => rw [q] at P'; exact P'.elim
    | some ρ1 =>
      rw [q] at P'
      refine fun σ1 O1 E1 k1 s1 => ⟨ds, ρ1, F, O1, E1, b, ?_⟩
      have P2 : match gs ds ρ1 with
        | none => False
        | some ρ' => ∀ σ' O', EnvR T H F O' σ' ρ' → Keeps pr σ σ' → Sub O' O → Q σ' H := P'
      cases q2 : gs ds ρ1 with
      | none => rw [q2] at P2; exact P2.elim
      | some ρ2 =>
        rw [q2] at P2
        exact fun σ2 O2 E2 k2 s2 => P2 σ2 O2 E2 (k1.trans k2) fun j a h => s1 j a (s2 j a h)
theorem sg_tup {k : Nat} (hK : X.K = T.K) (hc : X.calm = true) (h : SGs X T pr es gs) {n : Nat} (hg : ∀ ds ρ ρ', gs ds ρ = some ρ' → ds.length = n) (hn : (assignEach es X.env).length = n := by rfl) (hst : (assignEach es X.env).findIdx? (·.1) = none := by rfl) : SG X T pr (.Tuple es k pos) (gtM gs) := by
  refine pg_imp (pg_tup hc h hn hst) fun v σ H Q _ ⟨d, ρ, F, O, E, dv, P⟩ => ?_
  rw [hK]
  cases dv with
  | @tup a xs ds r s =>
    have P' : match gs ds ρ with
      | none => False
      | some ρ' => ∀ σ' O', EnvR T H F O' σ' ρ' → Keeps pr σ σ' → Sub O' O → Q σ' H := P
    refine ⟨a, xs, rfl, r, ?_, ds, ρ, F, O, E, s, P'⟩
    cases q : gs ds ρ with
    | none => rw [q] at P'; exact P'.elim
    | some ρ' => rw [s.length]; exact hg ds ρ ρ' q
  | non => exact P.elim
  | bl b => exact P.elim
  | int i => exact P.elim
  | str y => exact P.elim
  | lst a b c => exact P.elim
  | lstK a b => exact P.elim
  | dct a b c => exact P.elim
  | dcT a b c d => exact P.elim
theorem gs0_len : ∀ ds ρ ρ', gs0 ds ρ = some ρ' → ds.length = 0 := fun ds ρ ρ' h => by
  cases ds with
  | nil => rfl
  | cons a b => cases h
theorem gsC_len {n : Nat} (h : ∀ ds ρ ρ', gs ds ρ = some ρ' → ds.length = n) : ∀ ds ρ ρ', gsC g gs ds ρ = some ρ' → ds.length = n + 1 := fun ds ρ ρ' q => by
  cases ds with
  | nil => cases q
  | cons a b =>
    have q' : (g a ρ).bind (gs b) = some ρ' := q
    cases z : g a ρ with
    | none => rw [z] at q'; cases q'
    | some ρ1 =>
      rw [z] at q'
      rw [List.length_cons, h b ρ1 ρ' q']
end

/-! ### walks -/
abbrev IM := Rho → Option (Oe (List PyData))
/-- the iterator yields just these -/
structure ItOk (T : Tb) (J : It) (F : Reg) (H : Hp) (ds : List PyData) : Prop where
  go : ∀ H', Kept F H H' → ∀ i d, ds[i]? = some d → J.go i H' ∧ ∀ x H'', J.yld i H' x H'' → (∀ b o, H' b = some o → H'' b = some o) ∧ DF T.K H'' F x d
  stop : ∀ H', Kept F H H' → ∀ i, ds.length ≤ i → i ≤ ds.length → J.stop i H'
def tlI (T : Tb) : Tell (List PyData) It := fun _ _ H F _ J ds => ItOk T J F H ds
def SI (X : Cx) (T : Tb) (W : WX) (tg iter : Expr) (f : IM) : Prop := PI X tg iter (Tof T W (tlI T) f)
theorem pi_imp {X : Cx} {tg e : Expr} {t t' : TI} (h : PI X tg e t) (i : ∀ σ H Q, t' σ H Q → t σ H Q) : PI X tg e t' := ⟨fun pins s σ H Q I q => h.run pins s σ H Q I (i σ H Q q)⟩

def forL (g : GM) (body : SM) : List PyData → SM
  | [], ρ => some (.nx ρ)
  | x :: xs, ρ => match g x ρ with
    | none => none
    | some ρ1 => match body ρ1 with
      | some (.nx ρ2) => forL g body xs ρ2
      | some (.ct ρ2) => forL g body xs ρ2
      | some (.bk ρ2) => some (.nx ρ2)
      | o => o
def forM (it : IM) (g : GM) (body : SM) : SM := fun ρ => bindS (it ρ) fun ds ρ1 => forL g body ds ρ1

theorem Kept.trans {F F1 : Reg} {H H1 H2 : Hp} (a : Kept F H H1) (g : ∀ b, F b → F1 b) (b : Kept F1 H1 H2) : Kept F H H2 := fun c o h q => b c o (a c o h q) (q.elim (fun z => .inl ⟨g c z.1, z.2⟩) .inr)
theorem kept_all {F : Reg} {H H' : Hp} (k : ∀ b o, H b = some o → H' b = some o) : Kept F H H' := fun b o h _ => k b o h

section
variable {X : Cx} {T : Tb} {W : WX} {φ : Fm} {tg iter : Expr} {body : List Stmt} {it : IM} {g : GM} {fb : SM} {pos : Pos}
theorem for_of {D : Ends} {σ : L2.St} {H : Hp} (h : TSof T W φ (forM it g fb) D σ H) : tFor (Tof T W (tlI T) it) (TGof T φ.pr g) (TSof T W φ fb) D σ H := by
  obtain ⟨ρ, F, O, S, P⟩ := h
  refine sps .refl .refl S P fun J H1 ds ρ1 F1 O1 x1 y1 S1 r1 P1 => ?_
  refine ⟨fun i m σ' H' => ∃ ρ' F' O', m = ds.length - i ∧ i ≤ ds.length ∧ Ext true H F O H' F' O' ∧ Keeps φ.pr σ σ' ∧ StR T φ H' F' O' σ' ρ' ∧ Kept F1 H1 H' ∧ (∀ b, F1 b → F' b) ∧ PostS T W φ σ H F O D (forL g fb (ds.drop i) ρ'),
    ⟨ds.length, ρ1, F1, O1, by simp, Nat.zero_le _, y1, .refl, S1, .refl, fun _ h => h, P1⟩, ?_⟩
  rintro i m σ' H' ⟨ρ', F', O', rfl, hi, x', k', S', kp, gF, P'⟩
  by_cases hlt : i < ds.length
  · have hd : ds[i]? = some ds[i] := by simp [hlt]
    rw [List.drop_eq_getElem_cons hlt] at P'
    obtain ⟨go, yl⟩ := r1.go H' kp i _ hd
    refine .inr ⟨go, fun σ2 H2 => ∃ ρ' F' O', i + 1 ≤ ds.length ∧ Ext true H F O H2 F' O' ∧ Keeps φ.pr σ σ2 ∧ StR T φ H2 F' O' σ2 ρ' ∧ Kept F1 H1 H2 ∧ (∀ b, F1 b → F' b) ∧ PostS T W φ σ H F O D (forL g fb (ds.drop (i + 1)) ρ'), fun σ2 H2 ⟨ρ2, F2, O2, a, b⟩ => ⟨ds.length - (i + 1), by omega, ρ2, F2, O2, rfl, a, b⟩, fun x H'' y => ?_⟩
    obtain ⟨kH, dx⟩ := yl x H'' y
    have gr : Gr H' F' H'' F' := ⟨kH, fun _ h => h, fun _ h => .inl h⟩
    refine ⟨ds[i], ρ', F', O', S'.E.gr gr, dx.mono .refl gF, ?_⟩
    have P2 : PostS T W φ σ H F O D (match g ds[i] ρ' with
      | none => none
      | some ρ1 => match fb ρ1 with
        | some (.nx ρ2) => forL g fb (ds.drop (i + 1)) ρ2
        | some (.ct ρ2) => forL g fb (ds.drop (i + 1)) ρ2
        | some (.bk ρ2) => some (.nx ρ2)
        | o => o) := P'
    cases q : g ds[i] ρ' with
    | none => rw [q] at P2; exact P2.elim
    | some ρ2 =>
      rw [q] at P2
      dsimp only at P2
      refine fun σ3 O3 E3 k3 s3 => ?_
      have x3 : Ext true H F O H'' F' O3 := ⟨fun b o h n z => (x'.trans gr.ext).keep b o h n z, (x'.trans (gr.ext (O := O'))).live, x'.grow, x'.new, fun j b e => x'.own j b (s3 j b e)⟩
      have S3 : StR T φ H'' F' O3 σ3 ρ2 := ⟨E3, fun b h => S'.lb b (gr.live b h), fun j a hj e => S'.lf j a hj (s3 j a e)⟩
      have kp3 : Kept F1 H1 H'' := kp.trans gF (kept_all kH)
      refine ⟨ρ2, F', O3, S3, ?_⟩
      cases q2 : fb ρ2 with
      | none => rw [q2] at P2; exact P2
      | some o =>
        rw [q2] at P2
        cases o with
        | nx ρ4 => exact fun σ4 H4 F4 O4 x4 S4 k4 => ⟨ρ4, F4, O4, hlt, x3.trans x4, (k'.trans k3).trans k4, S4, kp3.trans gF (S3.E.kept x4), fun b h => x4.grow b (gF b h), P2⟩
        | ct ρ4 => exact fun σ4 H4 F4 O4 x4 S4 k4 => ⟨ρ4, F4, O4, hlt, x3.trans x4, (k'.trans k3).trans k4, S4, kp3.trans gF (S3.E.kept x4), fun b h => x4.grow b (gF b h), P2⟩
        | bk ρ4 => exact fun σ4 H4 F4 O4 x4 S4 k4 => P2 σ4 H4 F4 O4 (x3.trans x4) S4 ((k'.trans k3).trans k4)
        | rt r ρ4 => exact fun v σ4 H4 F4 O4 x4 S4 k4 r4 => P2 v σ4 H4 F4 O4 (x3.trans x4) S4 ((k'.trans k3).trans k4) r4
        | er c fs ρ4 => exact fun cls d σ4 H4 F4 O4 x4 S4 k4 r4 => P2 cls d σ4 H4 F4 O4 (x3.trans x4) S4 ((k'.trans k3).trans k4) r4
  · have e : i = ds.length := by omega
    subst e
    rw [List.drop_length] at P'
    exact .inl ⟨r1.stop H' kp _ (Nat.le_refl _) (Nat.le_refl _), P' σ' H' F' O' x' S' k'⟩
theorem ss_for (hp : PassesOwn (model X.prog X.w) X.A X.env X.xe) (hc : X.calm = true) (hi : SI X T W tg iter it) (hg : SG X T φ.pr tg g) (hb : SB X T W φ body fb) (hs : ∀ x, foldedSetIterable iter X.env x = pure x := by intro _; rfl) : SS X T W φ (.For tg iter body [] pos) (forM it g fb) :=
  ps_imp (ps_for hp hc hi hg hb hs) fun _ _ _ h => for_of h
end

/-! ### list comprehensions -/
def wipeR (ρ : Rho) : List Nat → Rho
  | [] => ρ
  | v :: vs => (wipeR ρ vs).set v none
def bindN {α β : Type} (o : Option (Oe α)) (g : α → Rho → Option β) : Option β := match o with
  | some (.ok a ρ) => g a ρ
  | _ => none
@[simp] theorem bindN_ok {α β : Type} (a : α) (ρ : Rho) (g : α → Rho → Option β) : bindN (some (.ok a ρ)) g = g a ρ := rfl
@[simp] theorem bindN_er {α β : Type} (c : Nat) (fs : List PyData) (ρ : Rho) (g : α → Rho → Option β) : bindN (some (.er c fs ρ)) g = none := rfl
@[simp] theorem bindN_none {α β : Type} (g : α → Rho → Option β) : bindN none g = none := rfl
def lcL (g : GM) (vs : List Nat) (c : Rho → Option (Oe Bool)) (f : EM) : List PyData → Rho → List PyData → Option (Oe R)
  | [], ρ, acc => some (.ok (.own (.list acc)) ρ)
  | x :: xs, ρ, acc => match g x ρ with
    | none => none
    | some ρ1 => bindN (c ρ1) fun b ρ2 => if b = true then bindN (f ρ2) fun r ρ3 => match frz ρ3 r with
        | some (d, ρ4) => if acc.length < lim then lcL g vs c f xs (wipeR ρ4 vs) (acc ++ [d]) else none
        | none => none
      else lcL g vs c f xs (wipeR ρ2 vs) acc
def lcM (it : IM) (g : GM) (vs : List Nat) (c : Rho → Option (Oe Bool)) (f : EM) : EM := fun ρ => bindO (it ρ) fun ds ρ1 => lcL g vs c f ds (wipeR ρ1 vs) []
def yesT : Rho → Option (Oe Bool) := fun ρ => some (.ok true ρ)
/-- within a comprehension no exception may leave -/
abbrev W0 : WX := fun _ _ _ _ => False

theorem wipeR_length (ρ : Rho) : ∀ vs : List Nat, (wipeR ρ vs).length = ρ.length
  | [] => rfl
  | v :: vs => by unfold wipeR; rw [List.length_set, wipeR_length ρ vs]
theorem wipeR_some {ρ : Rho} {i : Nat} {x : R} : ∀ {vs : List Nat}, (wipeR ρ vs)[i]? = some (some x) → ρ[i]? = some (some x) ∧ i ∉ vs
  | [], h => ⟨h, by simp⟩
  | v :: vs, h => by
    unfold wipeR at h
    by_cases hi : v = i
    · subst hi
      by_cases hv : v < (wipeR ρ vs).length
      · rw [List.getElem?_set_self hv] at h; cases h
      · rw [List.getElem?_eq_none (by simpa using hv)] at h; cases h
    · rw [List.getElem?_set_ne hi] at h
      obtain ⟨h1, h2⟩ := wipeR_some h
      exact ⟨h1, by simp only [List.mem_cons, not_or]; exact ⟨fun e => hi e.symm, h2⟩⟩
theorem wipe_other {σ : L2.St} {i : Nat} : ∀ {vs : List Nat}, i ∉ vs → (wipe σ vs)[i]? = σ[i]?
  | [], _ => rfl
  | v :: vs, h => by
    unfold wipe
    rw [List.getElem?_set_ne (fun e => h (by simp [e])), wipe_other (fun z => h (List.mem_cons_of_mem _ z))]
theorem wipeR_other {ρ : Rho} {i : Nat} : ∀ {vs : List Nat}, i ∉ vs → (wipeR ρ vs)[i]? = ρ[i]?
  | [], _ => rfl
  | v :: vs, h => by
    unfold wipeR
    rw [List.getElem?_set_ne (fun e => h (by simp [e])), wipeR_other (fun z => h (List.mem_cons_of_mem _ z))]
theorem wipe_in {σ : L2.St} {i : Nat} : ∀ {vs : List Nat}, i ∈ vs → i < σ.length → (wipe σ vs)[i]? = some none
  | v :: vs, h, hl => by
    unfold wipe
    by_cases e : v = i
    · subst e
      rw [List.getElem?_set_self (by rw [wipe_length]; exact hl)]
    · rw [List.getElem?_set_ne e]
      exact wipe_in ((List.mem_cons.mp h).elim (fun z => absurd z.symm e) id) hl
theorem wipe_eq {σ σ2 : L2.St} {vs : List Nat} (hl : σ2.length = σ.length) (h : ∀ i, i ∉ vs → σ2[i]? = σ[i]?) : wipe σ2 vs = wipe σ vs := by
  refine List.ext_getElem? fun i => ?_
  by_cases hi : i ∈ vs
  · by_cases hlt : i < σ.length
    · rw [wipe_in hi hlt, wipe_in hi (by rw [hl]; exact hlt)]
    · rw [List.getElem?_eq_none (by rw [wipe_length, hl]; omega), List.getElem?_eq_none (by rw [wipe_length]; omega)]
  · rw [wipe_other hi, wipe_other hi, h i hi]

section
variable {T : Tb} {H : Hp} {F : Reg} {O : Ows} {σ : L2.St} {ρ : Rho} {vs : List Nat}
theorem EnvR.unwipe (E : EnvR T H F O (wipe σ vs) ρ) : EnvR T H F O σ ρ :=
  ⟨by rw [E.len, wipe_length], fun i r e => let ⟨v, h1, h2⟩ := E.at_ i r e; ⟨v, (wipe_some h1).1, h2⟩, E.own, E.inj, E.nf, E.lv, E.tb⟩
theorem EnvR.wiped (E : EnvR T H F O σ ρ) : ∃ O', EnvR T H F O' (wipe σ vs) (wipeR ρ vs) ∧ Sub O' O := by
  have sb : Sub (fun j => if j ∈ vs then none else O j) O := fun j a q => by
    have q' : (if j ∈ vs then none else O j) = some a := q
    by_cases hj : j ∈ vs
    · rw [if_pos hj] at q'; cases q'
    · rw [if_neg hj] at q'; exact q'
  have ni : ∀ j a, (if j ∈ vs then none else O j) = some a → j ∉ vs := fun j a q hj => by rw [if_pos hj] at q; cases q
  refine ⟨fun j => if j ∈ vs then none else O j, ⟨by rw [wipe_length, wipeR_length]; exact E.len, fun i r e => ?_, fun i a e => ?_, fun i j a e1 e2 => E.inj i j a (sb i a e1) (sb j a e2), fun i a e => E.nf i a (sb i a e), E.lv, E.tb⟩, sb⟩
  · obtain ⟨h1, h2⟩ := wipeR_some e
    obtain ⟨v, h3, h4⟩ := E.at_ i r h1
    exact ⟨v, by rw [wipe_other h2]; exact h3, by rw [if_neg h2]; exact h4⟩
  · obtain ⟨r, h⟩ := E.own i a (sb i a e)
    exact ⟨r, by rw [wipeR_other (ni i a e)]; exact h⟩
/-- a list that is nobody's slot's changes -/
theorem EnvR.other {p : Addr} {o o' : HO} (E : EnvR T H F O σ ρ) (hp : H p = some o) (ns : ¬ Still o) (nf : ¬ F p) (no : ∀ i, O i ≠ some p) (nc : NC o := by first | exact lst_nc | exact dK_nc | exact set_nc) : EnvR T (upd H p o') F O σ ρ ∧ Kept F H (upd H p o') := by
  have k : Kept F H (upd H p o') := fun b u h q => by
    by_cases e : b = p
    · subst e
      rw [hp] at h; cases h
      exact (q.elim (fun z => nf z.1) ns).elim
    · rw [upd_ne e]; exact h
  refine ⟨⟨E.len, fun i r e => ?_, E.own, E.inj, E.nf, fun b h => ?_, tabs_put E.tb hp nc⟩, k⟩
  · obtain ⟨v, h1, h2⟩ := E.at_ i r e
    exact ⟨v, h1, h2.mono k (fun _ h => h) fun a u ha hu => by have n : a ≠ p := fun z => no i (by rw [ha, z]); rw [upd_ne n]; exact hu⟩
  · by_cases e : b = p
    · subst e; exact (nf h).elim
    · rw [upd_ne e]; exact E.lv b h
end

section
variable {X : Cx} {T : Tb} {W : WX} {pr : Nat → Bool} {it : IM} {g : GM} {vs : List Nat} {c : Rho → Option (Oe Bool)} {f : EM}
theorem tof_N {α β γ : Type} {Ra : Tell α β} {σ : L2.St} {ρ : Rho} {H : Hp} {F : Reg} {O : Ows} {h : Rho → Option (Oe α)} {k : α → Rho → Option γ} {Q' : β → Hp → Prop} {Pp : Option γ → Prop} (hn : ¬ Pp none) (E : EnvR T H F O σ ρ) (P : Pp (bindN (h ρ) k))
    (kk : ∀ v H1 a ρ1 F1 O1, Ext false H F O H1 F1 O1 → EnvR T H1 F1 O1 σ ρ1 → Ra σ H H1 F1 O1 v a → Pp (k a ρ1) → Q' v H1) : Tof T W0 Ra h σ H Q' := by
  refine ⟨ρ, F, O, E, ?_⟩
  cases q : h ρ with
  | none => rw [q] at P; exact hn P
  | some o =>
    rw [q] at P
    cases o with
    | ok a ρ1 => exact fun v H1 F1 O1 x1 E1 r1 => kk v H1 a ρ1 F1 O1 x1 E1 r1 P
    | er c fs ρ1 => exact fun _ _ _ _ _ _ _ _ => hn P
theorem lc_of {σ : L2.St} {H : Hp} {Q : VK} (hpr : ∀ i, i ∉ vs → pr i = true) (h : Tof T W (tlE T) (lcM it g vs c f) σ H Q) : tLc (Tof T W (tlI T) it) (TGof T pr g) (Tof T W0 tlB c) (Tof T W0 (tlE T) f) vs σ H Q := by
  obtain ⟨ρ, F, O, E, P⟩ := h
  refine stp .refl E P fun J H1 ds ρ1 F1 O1 x1 y1 E1 r1 P1 => ?_
  intro D hD
  have hDB : H D = none := y1.live D hD
  obtain ⟨Ow, Ew, sw⟩ := E1.wiped (vs := vs)
  refine ⟨fun i m H' => ∃ ρ' F' O' acc va, m = ds.length - i ∧ i ≤ ds.length ∧ Ext false H F O H' F' O' ∧ EnvR T H' F' O' (wipe σ vs) ρ' ∧ H' D = some (.lst va) ∧ DFs T.K H' F' va acc ∧ ¬ F' D ∧ (∀ j, O' j ≠ some D) ∧ Kept F1 H1 H' ∧ (∀ b, F1 b → F' b) ∧ Post T W (tlE T) σ H F O Q (lcL g vs c f (ds.drop i) ρ' acc),
    ⟨ds.length, wipeR ρ1 vs, F1, Ow, [], [], by simp, Nat.zero_le _, ?_, Ew.laid hD, upd_same, .nil, fun q => E1.lv D q hD, fun j q => E1.ne_new hD j (sw j D q), kept_all (kept_new hD), fun _ h => h, P1⟩, ?_⟩
  · have y2 : Ext false H F O (upd H1 D (.lst [])) F1 O1 := y1.trans (.laid hD)
    exact ⟨y2.keep, y2.live, y2.grow, y2.new, fun j b e => y2.own j b (sw j b e)⟩
  rintro i m H' ⟨ρ', F', O', acc, va, rfl, hi, x', E', hDl, sa, nD, oD, kp, gF, P'⟩
  by_cases hlt : i < ds.length
  · have hd : ds[i]? = some ds[i] := by simp [hlt]
    rw [List.drop_eq_getElem_cons hlt] at P'
    obtain ⟨go, yl⟩ := r1.go H' kp i _ hd
    refine .inr ⟨go, fun H2 => ∃ ρ' F' O' acc va, i + 1 ≤ ds.length ∧ Ext false H F O H2 F' O' ∧ EnvR T H2 F' O' (wipe σ vs) ρ' ∧ H2 D = some (.lst va) ∧ DFs T.K H2 F' va acc ∧ ¬ F' D ∧ (∀ j, O' j ≠ some D) ∧ Kept F1 H1 H2 ∧ (∀ b, F1 b → F' b) ∧ Post T W (tlE T) σ H F O Q (lcL g vs c f (ds.drop (i + 1)) ρ' acc), fun H2 ⟨ρ2, F2, O2, ac, va, a, b⟩ => ⟨ds.length - (i + 1), by omega, ρ2, F2, O2, ac, va, rfl, a, b⟩, fun x H'' y => ?_⟩
    obtain ⟨kH, dx⟩ := yl x H'' y
    have gr : Gr H' F' H'' F' := ⟨kH, fun _ h => h, fun _ h => .inl h⟩
    refine ⟨ds[i], ρ', F', O', E'.gr gr, dx.mono .refl gF, ?_⟩
    have P2 : Post T W (tlE T) σ H F O Q (match g ds[i] ρ' with
      | none => none
      | some ρ1 => bindN (c ρ1) fun b ρ2 => if b = true then bindN (f ρ2) fun r ρ3 => match frz ρ3 r with
          | some (d, ρ4) => if acc.length < lim then lcL g vs c f (ds.drop (i + 1)) (wipeR ρ4 vs) (acc ++ [d]) else none
          | none => none
        else lcL g vs c f (ds.drop (i + 1)) (wipeR ρ2 vs) acc) := P'
    cases q : g ds[i] ρ' with
    | none => rw [q] at P2; exact P2.elim
    | some ρ2 =>
      rw [q] at P2
      dsimp only at P2
      refine fun σ3 O3 E3 k3 s3 => ?_
      have hw : wipe σ3 vs = wipe σ vs := by
        have e0 : wipe σ3 vs = wipe (wipe σ vs) vs := wipe_eq k3.1 fun j hj => k3.2 j (hpr j hj)
        rw [e0]
        exact wipe_eq (wipe_length σ vs) fun j hj => wipe_other hj
      have oD' : ∀ j, O3 j ≠ some D := fun j z => oD j (s3 j D z)
      have x3 : Ext false H F O H'' F' O3 := ⟨fun b o h n z => kH b o (x'.keep b o h n z), fun b h => x'.live b (gr.live b h), x'.grow, x'.new, fun j b e => x'.own j b (s3 j b e)⟩
      have kp3 : Kept F1 H1 H'' := kp.trans gF (kept_all kH)
      have hD3 := kH D _ hDl
      have sa3 : DFs T.K H'' F' va acc := sa.mono (kept_all kH) fun _ h => h
      refine ⟨hw, ?_⟩
      refine tof_N (Pp := Post T W (tlE T) σ H F O Q) (fun z => z) E3 P2 fun b H4 b' ρ4 F4 O4 x4 E4 r4 P4 => ?_
      have r4' : b = b' := r4
      subst r4'
      have hD4 : H4 D = some (.lst va) := x4.keep D _ hD3 oD' trivial
      have nD4 : ¬ F4 D := fun z => by
        rcases x4.new D z with z | ⟨j, z⟩ | z
        · exact nD z
        · exact oD' j z
        · rw [hD3] at z; cases z
      have oD4 : ∀ j, O4 j ≠ some D := fun j z => (x4.ow z).elim (fun ⟨k, y⟩ => oD' k y) fun y => by rw [hD3] at y; cases y
      have kp4 := kp3.trans gF (E3.kept x4)
      have sa4 : DFs T.K H4 F4 va acc := sa3.mono (E3.kept x4) x4.grow
      cases b with
      | false =>
        rw [if_neg Bool.false_ne_true] at P4 ⊢
        obtain ⟨O5, E5, s5⟩ := E4.wiped (vs := vs)
        rw [hw] at E5
        have y4 := x3.trans x4
        exact ⟨_, F4, O5, acc, va, hlt, ⟨y4.keep, y4.live, y4.grow, y4.new, fun j b e => y4.own j b (s5 j b e)⟩, E5, hD4, sa4, nD4, fun j z => oD4 j (s5 j D z), kp4, fun b h => x4.grow b (gF b h), P4⟩
      | true =>
        rw [if_pos rfl] at P4 ⊢
        refine tof_N (Pp := Post T W (tlE T) σ H F O Q) (fun z => z) E4 P4 fun v H5 r ρ5 F5 O5 x5 E5 r5 P5 => ?_
        have hD5 : H5 D = some (.lst va) := x5.keep D _ hD4 oD4 trivial
        have nD5 : ¬ F5 D := fun z => by
          rcases x5.new D z with z | ⟨j, z⟩ | z
          · exact nD4 z
          · exact oD4 j z
          · rw [hD4] at z; cases z
        have oD5 : ∀ j, O5 j ≠ some D := fun j z => (x5.ow z).elim (fun ⟨k, y⟩ => oD4 k y) fun y => by rw [hD4] at y; cases y
        have kp5 := kp4.trans (fun b h => x4.grow b (gF b h)) (E4.kept x5)
        have sa5 : DFs T.K H5 F5 va acc := sa4.mono (E4.kept x5) x5.grow
        cases q6 : frz ρ5 r with
        | none => rw [q6] at P5; exact P5.elim
        | some p =>
          obtain ⟨d, ρ6⟩ := p
          rw [q6] at P5
          dsimp only at P5
          split at P5
          · rename_i hz
            have y5 := (x3.trans x4).trans x5
            obtain ⟨F6, O6, y6, E6, d6, g6, s6, n6⟩ := fz y5 (fun b h => (x3.trans x4).live b h) E5 r5 q6
            have nD6 : ¬ F6 D := fun z => by
              rcases n6 D z with z | ⟨j, z⟩ | z
              · exact nD5 z
              · exact oD5 j z
              · rw [hD4] at z; cases z
            have oD6 : ∀ j, O6 j ≠ some D := fun j z => oD5 j (s6 j D z)
            have sa6 : DFs T.K H5 F6 (va ++ [v]) (acc ++ [d]) := (sa5.mono .refl g6).append (.cons d6 .nil)
            refine ⟨va, hD5, by rw [sa5.length]; exact Nat.lt_of_lt_of_le hz (by decide), ?_⟩
            obtain ⟨O7, E7, s7⟩ := E6.wiped (vs := vs)
            rw [hw] at E7
            obtain ⟨E8, k8⟩ := E7.other (o' := .lst (va ++ [v])) hD5 (fun z => z) nD6 fun j z => oD6 j (s7 j D z)
            refine ⟨_, F6, O7, acc ++ [d], va ++ [v], hlt, ⟨fun b o h n z => ?_, fun b h => ?_, y6.grow, y6.new, fun j b e => y6.own j b (s7 j b e)⟩, E8, upd_same, sa6.mono k8 fun _ h => h, nD6, fun j z => oD6 j (s7 j D z), ?_, fun b h => g6 b (x5.grow b (x4.grow b (gF b h))), P5⟩
            · rw [upd_ne (ne_of_none h hDB)]
              exact y6.keep b o h n z
            · by_cases e : b = D
              · subst e; exact hDB
              · rw [upd_ne e] at h
                exact y6.live b h
            · exact kp5.trans (fun b h => g6 b (x5.grow b (x4.grow b (gF b h)))) k8
          · exact P5.elim
  · have e : i = ds.length := by omega
    subst e
    rw [List.drop_length] at P'
    exact .inl ⟨r1.stop H' kp _ (Nat.le_refl _) (Nat.le_refl _), P' (.ref D) H' F' O' x' E'.unwipe ⟨D, rfl, hDB, nD, oD, va, hDl, sa⟩⟩
end
end DL

/-! D7: what is walked; comprehensions as expressions. -/
namespace DL
open PySem L2 PyProof.Rows

/-! ### a list or a tuple -/
def iSeq (K : PySem.W.Frag) (tl : TE) : TI := fun σ H R => tl σ H fun x H1 => ∃ a, x = .ref a ∧ ((∃ xs, SqL K H1 a xs ∧ R (Itl K a) H1) ∨ (∃ xs, SqT K H1 a xs ∧ R (Itt K a) H1))
theorem pi_seq {X : Cx} {tg l : Expr} {tl : TE} (hl : PE X l tl) : PI X tg l (iSeq X.K tl) := by
  constructor
  intro pins s σ H R I h
  refine thn (hl.run pins s σ H _ I h) ?_
  rintro v s1 ⟨x, H1, I1, r1, a, rfl, z⟩
  have fr : ∀ b ∈ [s1.heap.objs.size], FpOk X pins H1 b := by
    intro b hb
    obtain rfl : b = s1.heap.objs.size := by simpa using hb
    exact I1.fpOk (Nat.le_refl _) (I1.hok.fresh (Nat.le_refl _))
  have J1 : ∀ o : Obj, L2.Inv X pins σ H1 { s1 with heap := s1.heap.push o } := fun o => I1.kept (t' := s1.toks) fun b u e => Heap.get?_push_of_some _ e
  cases r1
  rcases z with ⟨xs, hq, q⟩ | ⟨xs, hq, q⟩
  · obtain ⟨its, rv, p, _⟩ := I1.list hq
    refine wpAny_pyIter_list p.isList ?_
    exact ⟨_, [s1.heap.objs.size], _, _, H1, rfl, J1 _, turn_list a _, ⟨_, Heap.get?_push_size _ rfl, rfl, rfl⟩, fr, q⟩
  · obtain ⟨its, rv, p, _⟩ := I1.tuple hq
    refine wpAny_pyIter_tuple (show s1.heap.IsTuple a its.toArray from p) ?_
    exact ⟨_, [s1.heap.objs.size], _, _, H1, rfl, J1 _, turn_tuple a _, ⟨_, Heap.get?_push_size _ rfl, rfl, rfl⟩, fr, q⟩

/-- the items of a list or tuple -/
def itemsOf : PyData → Option (List PyData)
  | .list ds => some ds
  | .tuple ds => some ds
  | _ => none
def iM (f : EM) : IM := fun ρ => bindO (f ρ) fun r ρ1 => match frz ρ1 r with
  | some (d, ρ2) => (itemsOf d).map fun ds => .ok ds ρ2
  | none => none
def rngL (lo : Int) (n : Nat) : List PyData := (List.range n).map fun (k : Nat) => .int (lo + (k : Int))
/-- within the machine's bounds, asked so that nothing is counted down -/
def inW (j : Int) : Bool := Nat.ble j.toNat 4611686018427387903 && Nat.ble (-j).toNat 4611686018427387904
theorem inW_of {j : Int} (h : inW j = true) : -(2 ^ 62) ≤ j ∧ j < 2 ^ 62 := by
  unfold inW at h
  rw [Bool.and_eq_true] at h
  have a := Nat.le_of_ble_eq_true h.1
  have b := Nat.le_of_ble_eq_true h.2
  omega
theorem inW_is {j : Int} (h1 : -4611686018427387904 ≤ j) (h2 : j < 4611686018427387904) : inW j = true := by
  unfold inW
  rw [Bool.and_eq_true]
  exact ⟨Nat.ble_eq_true_of_le (by omega), Nat.ble_eq_true_of_le (by omega)⟩
def irM1 (fa : EM) : IM := fun ρ => bindO (fa ρ) fun r ρ1 => match r with
  | .dat (.int j) => if inW j = true then some (.ok (rngL 0 j.toNat) ρ1) else none
  | _ => none
def irM2 (fa fb : EM) : IM := fun ρ => bindO (fa ρ) fun r ρ1 => bindO (fb ρ1) fun s ρ2 => match r, s with
  | .dat (.int i), .dat (.int j) => if inW i = true ∧ inW j = true then some (.ok (rngL i (j - i).toNat) ρ2) else none
  | _, _ => none

section
variable {T : Tb} {K : PySem.W.Frag}
theorem LsR.kept {F : Reg} {H H' : Hp} {a : Addr} {xs : List V} (f : F a) (k : Kept F H H') (h : LsR K H a xs) : LsR K H' a xs := h.imp (k.rdF f) id
theorem sqL_inj {X : Cx} {pins : List (Addr × Obj)} {σ : L2.St} {H : Hp} {s : Shared} (I : L2.Inv X pins σ H s) {a : Addr} {xs ys : List V} (h : SqL X.K H a xs) (h' : SqL X.K H a ys) : xs = ys := I.list_inj h h'
end
section
variable {T : Tb} {F : Reg} {H : Hp}
theorem it_list {a : Addr} {xs : List V} {ds : List PyData} (r : ∀ H', Kept F H H' → SqL T.K H' a xs) (s : DFs T.K H F xs ds) : ItOk T (Itl T.K a) F H ds :=
  ⟨fun H' k i d h => by
    obtain ⟨v, hv, dv⟩ := s.get h
    refine ⟨⟨xs, v, r H' k, hv⟩, fun x H'' y => ?_⟩
    obtain ⟨rfl, y⟩ := y
    have e := y xs (r _ k)
    rw [hv] at e
    cases e
    exact ⟨fun _ _ h => h, dv.mono k fun _ h => h⟩, fun H' k i h _ => ⟨xs, r H' k, by rw [s.length]; exact h⟩⟩
theorem it_tup {a : Addr} {xs : List V} {ds : List PyData} (r : ∀ H', Kept F H H' → SqT T.K H' a xs) (s : DFs T.K H F xs ds) : ItOk T (Itt T.K a) F H ds :=
  ⟨fun H' k i d h => by
    obtain ⟨v, hv, dv⟩ := s.get h
    refine ⟨⟨xs, v, r H' k, hv⟩, fun x H'' y => ?_⟩
    obtain ⟨rfl, y⟩ := y
    have e := y xs (r _ k)
    rw [hv] at e
    cases e
    exact ⟨fun _ _ h => h, dv.mono k fun _ h => h⟩, fun H' k i h _ => ⟨xs, r H' k, by rw [s.length]; exact h⟩⟩
theorem rngL_get {lo : Int} {n i : Nat} {d : PyData} (h : (rngL lo n)[i]? = some d) : i < n ∧ d = .int (lo + i) := by
  unfold rngL at h
  rw [List.getElem?_map] at h
  by_cases hi : i < n
  · rw [List.getElem?_range hi] at h
    cases h
    exact ⟨hi, rfl⟩
  · rw [List.getElem?_eq_none (by simpa using hi)] at h
    cases h
theorem rngL_len (lo : Int) (n : Nat) : (rngL lo n).length = n := by unfold rngL; simp
theorem it_rng {lo : Int} {n : Nat} : ItOk T (Itr lo n) F H (rngL lo n) :=
  ⟨fun H' k i d h => by
    obtain ⟨hi, rfl⟩ := rngL_get h
    refine ⟨hi, fun x H'' y => ?_⟩
    obtain ⟨rfl, rfl⟩ := y
    exact ⟨fun _ _ h => h, .int _⟩, fun H' k i h _ => by rw [rngL_len] at h; exact h⟩
end

section
variable {X : Cx} {T : Tb} {W : WX} {tg e a b : Expr} {f fa fb : EM} {pos p : Pos}
theorem si_seq (hK : X.K = T.K) (he : SE X T W e f) : SI X T W tg e (iM f) := by
  refine pi_imp (pi_seq he) fun σ H Q ⟨ρ, F, O, E, P⟩ => ?_
  rw [hK]
  refine stp .refl E P fun v H1 r ρ1 F1 O1 x1 y1 E1 r1 P1 => ?_
  cases q : frz ρ1 r with
  | none => rw [q] at P1; exact P1.elim
  | some z =>
    obtain ⟨d, ρ2⟩ := z
    rw [q] at P1
    dsimp only at P1
    obtain ⟨F2, O2, y2, E2, d2, _, _, _⟩ := fz y1 (fun _ h => h) E1 r1 q
    cases d2 with
    | @lst a xs ds f r s => exact ⟨a, rfl, .inl ⟨xs, .inl r, P1 _ _ _ _ y2 E2 (it_list (fun H' k => .inl (k.rdF f r)) s)⟩⟩
    | @lstK a xs ds r s => exact ⟨a, rfl, .inl ⟨xs, LsR.sq (.inr r), P1 _ _ _ _ y2 E2 (it_list (fun H' k => LsR.sq (.inr r)) s)⟩⟩
    | @tup a xs ds r s => exact ⟨a, rfl, .inr ⟨xs, r, P1 _ _ _ _ y2 E2 (it_tup (fun H' k => k.sqT r) s)⟩⟩
    | non => exact P1.elim
    | bl b => exact P1.elim
    | int i => exact P1.elim
    | str x => exact P1.elim
    | dct a b c => exact P1.elim
    | dcT a b c d => exact P1.elim
theorem int_of {H : Hp} {F : Reg} {v : V} {i : Int} (h : DF T.K H F v (.int i)) : v = .int i := by cases h; rfl
theorem si_rng1 (hg : L2.Gl X "range") (hm : X.mg "range" = none) (ha : SE X T W a fa) (hs : starEach [a] X.env = [(false, eval a X.env)] := by rfl) : SI X T W tg (.Call (.Name "range" p) [a] [] pos) (irM1 fa) := by
  refine pi_imp (pi_range1 hg hm (pa_cons ha pa_nil hs) hs) fun σ H Q ⟨ρ, F, O, E, P⟩ => ?_
  refine stp .refl E P fun v H1 r ρ1 F1 O1 x1 y1 E1 r1 P1 => ?_
  split at P1
  · rename_i j
    split at P1
    · rename_i hz
      exact ⟨j, by rw [int_of r1], (inW_of hz).1, (inW_of hz).2, P1 _ _ _ _ y1 E1 it_rng⟩
    · exact P1.elim
  · exact P1.elim
theorem si_rng2 (hg : L2.Gl X "range") (hm : X.mg "range" = none) (ha : SE X T W a fa) (hb : SE X T W b fb) (hs : starEach [a, b] X.env = [(false, eval a X.env), (false, eval b X.env)] := by rfl) (hs2 : starEach [b] X.env = [(false, eval b X.env)] := by rfl) : SI X T W tg (.Call (.Name "range" p) [a, b] [] pos) (irM2 fa fb) := by
  refine pi_imp (pi_range2 hg hm (pa_cons ha (pa_cons hb pa_nil hs2) (by rw [hs, hs2])) hs hs2) fun σ H Q ⟨ρ, F, O, E, P⟩ => ?_
  refine stp .refl E P fun v H1 r ρ1 F1 O1 x1 y1 E1 r1 P1 => ?_
  refine stp y1 E1 P1 fun u H2 s ρ2 F2 O2 x2 y2 E2 r2 P2 => ?_
  split at P2
  · rename_i i j
    split at P2
    · rename_i hz
      exact ⟨i, j, by rw [int_of r1, int_of r2], ⟨(inW_of hz.1).1, (inW_of hz.1).2, (inW_of hz.2).1, (inW_of hz.2).2⟩, P2 _ _ _ _ y2 E2 it_rng⟩
    · exact P2.elim
  · exact P2.elim
end

/-! ### the facts of a block -/
theorem Cxt.blk {X : Cx} {T : Tb} {W : WX} {n : Nat} (c : Cxt X T W n) (s : Shared) (H : Hp) (scope : Scope) (env : Env) (fp : List Addr) : Cxt (X.blk s H scope env fp) T W0 n :=
  ⟨c.hK, c.hw, c.calm, c.room, c.gd, takes0, PassesOwn.never, c.nd, c.sm⟩
def STs (X : Cx) (T : Tb) (ifs : List Expr) (c : Rho → Option (Oe Bool)) : Prop := PTs X ifs (Tof T W0 tlB c)
section
variable {X : Cx} {T : Tb} {W : WX} {elt tg iter : Expr} {ifs : List Expr} {scope : Scope} {own : List (Str × Nat)} {pos : Pos} {it : IM} {g : GM} {c : Rho → Option (Oe Bool)} {f : EM} {pr : Nat → Bool}
theorem sts_nil : STs X T [] yesT := ⟨fun pins s σ H Q I ⟨ρ, F, O, E, P⟩ => pts_nil.run pins s σ H Q I (P true H F O .refl E rfl)⟩
theorem sts_one {e : Expr} (h : ST X T W0 e c) : STs X T [e] c := pts_one h
/-- pr: all slots but the block's own -/
def prB (vs : List Nat) (i : Nat) : Bool := !vs.contains i
theorem prB_ok {vs : List Nat} : ∀ i, i ∉ vs → prB vs i = true := fun i h => by simp [prB, h]
theorem se_lc (hc : X.calm = true) (hN : X.N.Nodup) (hi : SI X T W tg iter it) (ok : BlkOk X.N X.env.scope scope own)
    (hg : ∀ (s : Shared) (H : Hp) (C : Addr) (cl : List (Str × Addr)) (fp : List Addr), SG (X.blk s H scope (compEnvC scope cl C X.env) fp) T (prB (own.map (·.2))) tg g)
    (ht : ∀ (s : Shared) (H : Hp) (C : Addr) (cl : List (Str × Addr)) (fp : List Addr), STs (X.blk s H scope (compEnvC scope cl C X.env) fp) T ifs c)
    (he : ∀ (s : Shared) (H : Hp) (C : Addr) (cl : List (Str × Addr)) (fp : List Addr), SE (X.blk s H scope (compEnvC scope cl C X.env) fp) T W0 elt f) (hs : ∀ x, foldedSetIterable iter X.env x = pure x := by intro _; rfl) :
    SE X T W (.ListComp elt [⟨tg, iter, ifs, 0⟩] scope pos) (lcM it g (own.map (·.2)) c f) :=
  pe_imp (pe_lc hc hN hi ok hg ht he hs) fun _ _ _ h => lc_of prB_ok h
theorem ss_asgLc {φ : Fm} {i : Nat} {y : Str} {py spos : Pos} (hp : φ.pr i = false) (hc : X.calm = true) (hN : X.N.Nodup) (hy : X.N[i]? = some y) (hyl : X.env.scope.names.lookup y = some .local)
    (hsw : swapsWith (.ListComp elt [⟨tg, iter, ifs, 0⟩] scope pos) (some (.Name y py)) spos.line X.env = pure true) (hi : SI X T W tg iter it) (ok : BlkOk X.N X.env.scope scope own)
    (hg : ∀ (s : Shared) (H : Hp) (C : Addr) (cl : List (Str × Addr)) (fp : List Addr), SG (X.blk s H scope (compEnvC scope cl C X.env) fp) T (prB (own.map (·.2))) tg g)
    (ht : ∀ (s : Shared) (H : Hp) (C : Addr) (cl : List (Str × Addr)) (fp : List Addr), STs (X.blk s H scope (compEnvC scope cl C X.env) fp) T ifs c)
    (he : ∀ (s : Shared) (H : Hp) (C : Addr) (cl : List (Str × Addr)) (fp : List Addr), SE (X.blk s H scope (compEnvC scope cl C X.env) fp) T W0 elt f) (hs : ∀ x, foldedSetIterable iter X.env x = pure x := by intro _; rfl) :
    SS X T W φ (.Assign [.Name y py] (.ListComp elt [⟨tg, iter, ifs, 0⟩] scope pos) spos) (asgM i (lcM it g (own.map (·.2)) c f)) := by
  refine ps_impL (ps_setLc hc hN hy hyl hsw hi ok hg ht he hs) fun D σ H hl h => ?_
  exact lc_of prB_ok (asg_of hp (by rw [hl]; exact lt_of_at hy) h)
end
end DL

/-! D8: defs and their calls. -/
namespace DL
open PySem L2 PyProof.Rows

abbrev Sem := List R → Option (Oe R)
def PostF (T : Tb) (vs : List V) (H : Hp) (F : Reg) (O : Ows) (Q : VK) (E : XK) : Option (Oe R) → Prop
  | some (.ok r ρ) => ∀ v H' F' O', Ext true H F O H' F' O' → EnvR T H' F' O' (vs.map some) ρ → ResR T H H' F' O' [] v r → Q v H'
  | some (.er c fs ρ) => ∀ cls d H' F' O', Ext true H F O H' F' O' → EnvR T H' F' O' (vs.map some) ρ → ExcR T H' cls d c fs → E cls d H'
  | none => False
/-- a def's promise, by what it comes to -/
def spOf (T : Tb) (n : Nat) (sem : Sem) : Sp := fun vs H Q E => ∃ args F O, vs.length = n ∧ EnvR T H F O (vs.map some) (args.map some) ∧ PostF T vs H F O Q E (sem args)

/-- what the caller's slots hold behind a call: pr: the parameters that the def never stores -/
def outs (n : Nat) (pr : Nat → Bool) (ρ : Rho) : Rho := (List.range n).map fun i => if pr i = true then ρ[i]?.join else none
def runD (n m : Nat) (pr : Nat → Bool) (f : SM) : Sem := fun args => if args.length = n then match f (args.map some ++ List.replicate (m - n) none) with
    | some (.nx ρ) => some (.ok (.dat .none) (outs n pr ρ))
    | some (.rt r ρ) => some (.ok r (outs n pr ρ))
    | some (.er c fs ρ) => some (.er c fs (outs n pr ρ))
    | _ => none
  else none

/-- a def's promise where the walk knows that no repr runs around it -/
structure FnG (P : Program) (w : World) (K : PySem.W.Frag) (mg : Str → Option Value) (base : Heap) (k : Nat) (f : Addr) (fd : FuncData) (ps : List Str) (sp : Sp) : Prop where
  len : ∀ vs H Q E, sp vs H Q E → vs.length = ps.length
  run : ∀ (A : Around) (outer : List Env) (s : Shared) (H : Hp) (args : Args) (us : List Value) (vs : List V) (Q : VK) (E : XK), A.guards = some [] → Room k A → Env0 P w K mg base A outer s H → BindsTo s fd args (ps.zip us) →
    Vals vs us → sp vs H Q E → codeAny (model P w) A (.call (.ref f) args) (CR (L2.CX P w) outer P w H s Q E) s

section
variable {T : Tb}
theorem outs_get {n : Nat} {pr : Nat → Bool} {ρ : Rho} {i : Nat} {r : R} (h : (outs n pr ρ)[i]? = some (some r)) : i < n ∧ pr i = true ∧ ρ[i]? = some (some r) := by
  unfold outs at h
  rw [List.getElem?_map] at h
  by_cases hi : i < n
  · rw [List.getElem?_range hi] at h
    have h' : (if pr i = true then ρ[i]?.join else none) = some r := Option.some.inj h
    by_cases hp : pr i = true
    · rw [if_pos hp] at h'
      cases q : ρ[i]? with
      | none => rw [q] at h'; cases h'
      | some x => rw [q] at h'; exact ⟨hi, hp, by rw [show x = some r from h']⟩
    · rw [if_neg hp] at h'; cases h'
  · rw [List.getElem?_eq_none (by simpa using hi)] at h
    cases h
theorem outs_put {n : Nat} {pr : Nat → Bool} {ρ : Rho} {i : Nat} {r : R} (hi : i < n) (hp : pr i = true) (h : ρ[i]? = some (some r)) : (outs n pr ρ)[i]? = some (some r) := by
  unfold outs
  rw [List.getElem?_map, List.getElem?_range hi]
  show some (if pr i = true then ρ[i]?.join else none) = _
  rw [if_pos hp, h]
  rfl
theorem start_get {N : List Str} {vs : List V} {i : Nat} {v : V} (h : (L2.start N vs)[i]? = some (some v)) : vs[i]? = some v := by
  unfold L2.start at h
  by_cases hi : i < vs.length
  · rw [List.getElem?_append_left (by simpa using hi), List.getElem?_map] at h
    cases q : vs[i]? with
    | none => rw [q] at h; cases h
    | some u => rw [q] at h; cases h; rfl
  · rw [List.getElem?_append_right (by simpa using hi), List.getElem?_replicate] at h
    split at h <;> cases h
theorem start_put {N : List Str} {vs : List V} {i : Nat} {v : V} (h : vs[i]? = some v) : (L2.start N vs)[i]? = some (some v) := by
  have hi : i < vs.length := lt_of_at h
  unfold L2.start
  rw [List.getElem?_append_left (by simpa using hi), List.getElem?_map, h]
  rfl
/-- the slots at a def's entry -/
theorem env_start {N : List Str} {H : Hp} {F : Reg} {O : Ows} {vs : List V} {args : List R} (hN : vs.length ≤ N.length) (E : EnvR T H F O (vs.map some) (args.map some)) : EnvR T H F O (L2.start N vs) (args.map some ++ List.replicate (N.length - args.length) none) := by
  have hl : args.length = vs.length := by have := E.len; simpa using this
  have get : ∀ i r, (args.map some ++ List.replicate (N.length - args.length) none)[i]? = some (some r) → (args.map some)[i]? = some (some r) := fun i r e => by
    by_cases hi : i < args.length
    · rw [List.getElem?_append_left (by simpa using hi)] at e; exact e
    · rw [List.getElem?_append_right (by simpa using hi), List.getElem?_replicate] at e
      split at e <;> cases e
  refine ⟨?_, fun i r e => ?_, fun i a e => ?_, E.inj, E.nf, E.lv, E.tb⟩
  · unfold L2.start
    simp only [List.length_append, List.length_map, List.length_replicate]
    omega
  · obtain ⟨v, h1, h2⟩ := E.at_ i r (get i r e)
    refine ⟨v, ?_, h2⟩
    rw [List.getElem?_map] at h1
    cases q : vs[i]? with
    | none => rw [q] at h1; cases h1
    | some u => rw [q] at h1; cases h1; exact start_put q
  · obtain ⟨r, e1⟩ := E.own i a e
    have hi : i < args.length := by have := lt_of_at e1; simpa using this
    exact ⟨r, by rw [List.getElem?_append_left (by simpa using hi)]; exact e1⟩
/-- the parameters behind a def's end -/
theorem env_out {N : List Str} {φ : Fm} {H' : Hp} {F' : Reg} {O' : Ows} {σ' : L2.St} {ρ : Rho} {vs : List V} (hn : vs.length = φ.n) (S : StR T φ H' F' O' σ' ρ) (k : Keeps φ.pr (L2.start N vs) σ') :
    ∃ O2, EnvR T H' F' O2 (vs.map some) (outs φ.n φ.pr ρ) ∧ Sub O2 O' := by
  have E := S.E
  have sb : Sub (fun i => if i < φ.n ∧ φ.pr i = true then O' i else none) O' := fun i a e => by
    have e' : (if i < φ.n ∧ φ.pr i = true then O' i else none) = some a := e
    split at e'
    · exact e'
    · cases e'
  refine ⟨fun i => if i < φ.n ∧ φ.pr i = true then O' i else none, ⟨?_, fun i r e => ?_, fun i a e => ?_, fun i j a e1 e2 => E.inj i j a (sb i a e1) (sb j a e2), fun i a e => E.nf i a (sb i a e), E.lv, E.tb⟩, sb⟩
  · unfold outs
    simp [hn]
  · obtain ⟨h1, h2, h3⟩ := outs_get e
    obtain ⟨v, h4, h5⟩ := E.at_ i r h3
    refine ⟨v, ?_, by rw [if_pos ⟨h1, h2⟩]; exact h5⟩
    rw [k.2 i h2] at h4
    rw [List.getElem?_map, start_get h4]
    rfl
  · have e' : (if i < φ.n ∧ φ.pr i = true then O' i else none) = some a := e
    split at e'
    · rename_i h
      obtain ⟨r, e1⟩ := E.own i a e'
      exact ⟨r, outs_put h.1 h.2 e1⟩
    · cases e'
theorem Ext.sub {H H' : Hp} {F F' : Reg} {O O' O2 : Ows} {s : Bool} (x : Ext s H F O H' F' O') (sb : Sub O2 O') : Ext s H F O H' F' O2 := ⟨x.keep, x.live, x.grow, x.new, fun i b e => x.own i b (sb i b e)⟩
theorem ResR.sub {H0 H : Hp} {F : Reg} {O O2 : Ows} {σ : L2.St} {v : V} (sb : Sub O2 O) : ∀ {r : R}, ResR T H0 H F O σ v r → ResR T H0 H F O2 σ v r
  | .dat _, h => h
  | .own _, ⟨a, h1, h2, h3, h4, h5⟩ => ⟨a, h1, h2, h3, fun i e => h4 i (sb i a e), h5⟩
  | .slt _, h => h
  | .fn _, h => h
  | .st _, ⟨a, h1, h2, h3, h4, h5⟩ => ⟨a, h1, h2, h3, fun i e => h4 i (sb i a e), h5⟩
  | .ex _ _, h => h
  | .two _ _, ⟨p, a, b, h1, h2, h3, ⟨a1, a2, a3, a4⟩, b1, b2, b3, b4⟩ => ⟨p, a, b, h1, h2, h3, ⟨a1, a2, fun i e => a3 i (sb i a e), a4⟩, b1, b2, fun i e => b3 i (sb i b e), b4⟩
/-- from a def's promise to its body's reading -/
theorem body_of {N : List Str} {n : Nat} {pr : Nat → Bool} {m : SM} {vs : List V} {H : Hp} {Q : VK} {E : XK} (hN : n ≤ N.length) (h : spOf T n (runD n N.length pr m) vs H Q E) :
    TSof T (fun cls d _ H' => E cls d H') ⟨H, n, pr⟩ m { nx := fun _ H' => Q .non H', rt := Q } (L2.start N vs) H := by
  obtain ⟨args, F, O, hl, En, P⟩ := h
  have hla : args.length = n := by have := En.len; simp at this; omega
  unfold runD at P
  rw [if_pos hla] at P
  have E0 := env_start (N := N) (by omega) En
  rw [hla] at E0
  refine ⟨_, F, O, ⟨E0, fun b h => h, fun i a hi e => ?_⟩, ?_⟩
  · obtain ⟨r, e1⟩ := En.own i a e
    have h1 := lt_of_at e1
    simp at h1
    have hi' : n ≤ i := hi
    omega
  cases q : m (args.map some ++ List.replicate (N.length - n) none) with
  | none => rw [q] at P; exact P
  | some o =>
    rw [q] at P
    cases o with
    | nx ρ =>
      intro σ' H' F' O' x S k
      obtain ⟨O2, E2, sb⟩ := env_out hl S k
      exact P .non H' F' O2 (x.sub sb) E2 .non
    | rt r ρ =>
      intro v σ' H' F' O' x S k rr
      obtain ⟨O2, E2, sb⟩ := env_out hl S k
      exact P v H' F' O2 (x.sub sb) E2 (rr.sub sb)
    | er c fs ρ =>
      intro cls d σ' H' F' O' x S k rr
      obtain ⟨O2, E2, sb⟩ := env_out hl S k
      exact P cls d H' F' O2 (x.sub sb) E2 rr
    | bk ρ => exact P.elim
    | ct ρ => exact P.elim
end

/-- a def by its body: m is what the body comes to -/
theorem fn_g {T : Tb} {P : Program} {w : World} {K : PySem.W.Frag} {mg : Str → Option Value} {base : Heap} {k n : Nat} {x qual : Str} {st : Stmt} {f : Addr} {fd : FuncData} {N ps : List Str} {pr : Nat → Bool} {m : SM} (G : Fun K x qual st f fd) (S : FnScope N ps (defScope st)) (hn : ps.length = n)
    (hK : K = T.K) (hw : w = T.w) (hsm : base.get? sysModules ≠ none)
    (body : ∀ (X : Cx) (W : WX) (H : Hp), X.prog = P → X.w = w → X.K = K → X.mg = mg → X.base = base → X.N = N → X.env.scope = defScope st → X.env.scope.kind = .function → X.fn = (fun _ => true) → Cxt X T W k → SB X T W ⟨H, n, pr⟩ (defBody st) m) :
    FnG P w K mg base (k + 1) f fd ps (spOf T n (runD n N.length pr m)) := by
  have hN : n ≤ N.length := by
    have h := congrArg List.length S.pre
    rw [List.length_take] at h
    omega
  obtain ⟨oc, od, kV, doc, pm, an, cdv, ct, osl, rfl, lk, hcd⟩ := G.ex
  refine ⟨fun vs H Q E ⟨_, _, _, hl, _⟩ => hl.trans hn.symm, ?_⟩
  intro A outer s H args us vs Q E hg hr e0 hb r hsp
  have hl : vs.length = ps.length := by obtain ⟨_, _, _, q, _⟩ := hsp; exact q.trans hn.symm
  have kin : K.In s.heap := e0.mod.kin.keeps fun b o e => (e0.bs b o e).1
  have lim : s.heap.NoLimit := e0.mod.nolimit.keeps fun b o e => (e0.bs b o e).1
  have kinds : ∀ y ∈ ps.zip us, (defScope st).names.lookup y.1 = some .local ∨ ((defScope st).names.lookup y.1 = some .cell ∧ ((cellsFrom (s.heap.objs.size + 1) (defScope st).names []).lookup y.1).isSome = true) := by
    rintro ⟨y, v⟩ hy
    exact (S.par y (List.of_mem_zip hy).1).imp id fun q => ⟨q, PySem.W.cellsFrom_some _ _ _ (.inl q)⟩
  refine codeAny_call_function hr.depth (kin _ _ lk) rfl S.co S.gen rfl (PySem.W.codeRec_of kin hcd) (hb _ _ _ _ ?_)
  refine wpAny_newFunctionEnv_cells S.kind kinds ?_
  rintro env rfl s1 ic
  refine ⟨lim.keeps ic.toInCall.keep, codeAny_func ?_⟩
  let X := cxOf (L2.CX P w) P w K mg base N qual (defScope st) f cdv A outer s H E
  have I : L2.Inv X [] (L2.start N vs) H s1 := inv_start S hr.hd e0 hl r ic
  have cx : Cxt X T (fun cls d _ H' => E cls d H') k := ⟨hK, hw, rfl, hr.deeper _, hg, takes_of rfl rfl rfl rfl, passes_of rfl, S.nd, hsm⟩
  have B := body X _ H rfl rfl rfl rfl rfl rfl rfl S.kind rfl cx
  refine wpAny_mono (B.run [] s1 (L2.start N vs) H _ I (body_of hN hsp)) ?_ fun _ _ z => z
  intro fl s' hs
  cases fl with
  | ret u =>
    obtain ⟨v, σ', H', J, rv, q⟩ := hs
    exact ⟨v, H', J.os, J.bare, J.base, J.hok, rv, q⟩
  | next =>
    obtain ⟨σ', H', J, q⟩ := hs
    exact ⟨.non, H', J.os, J.bare, J.base, J.hok, rfl, q⟩
  | brk =>
    obtain ⟨_, _, _, q⟩ := hs
    exact q.elim
  | cont =>
    obtain ⟨_, _, _, q⟩ := hs
    exact q.elim

/-! ### calls -/
def pass1 (ρ : Rho) : R → Option R
  | .dat d => some (.dat d)
  | .fn k => some (.fn k)
  | .ex c fs => some (.ex c fs)
  | .slt i => match ρ[i]? with
    | some (some (.own d)) => some (.own d)
    | some (some (.dat d)) => some (.dat d)
    | some (some (.st xs)) => some (.st xs)
    | _ => none
  | _ => none
def passA (ρ : Rho) : List R → Option (List R)
  | [] => some []
  | r :: rs => match pass1 ρ r, passA ρ rs with
    | some a, some as => some (a :: as)
    | _, _ => none
def isSlt (j : Nat) : R → Bool
  | .slt i => i == j
  | _ => false
def posOf (j : Nat) : List R → Option Nat
  | [] => none
  | r :: rs => if isSlt j r = true then some 0 else (posOf j rs).map (· + 1)
def dist : List R → Bool
  | [] => true
  | .slt i :: rs => (posOf i rs).isNone && dist rs
  | _ :: rs => dist rs
def isOwn : Option R → Bool
  | some (.own _) => true
  | some (.st _) => true
  | _ => false
/-- what the slots hold behind the call -/
def backA (ρ : Rho) (rs : List R) (os : Rho) : Rho := ρ.mapIdx fun j x => if isOwn x = true then match posOf j rs with
    | some k => os[k]?.join
    | none => x
  else x
def callM (sem : Sem) (fa : AM) : EM := fun ρ => bindO (fa ρ) fun rs ρ1 => if dist rs = true then match passA ρ1 rs with
    | some args => match sem args with
      | some (.ok r os) => some (.ok r (backA ρ1 rs os))
      | some (.er c fs os) => some (.er c fs (backA ρ1 rs os))
      | none => none
    | none => none
  else none
end DL

/-! D9: calls of defs. -/
namespace DL
open PySem L2 PyProof.Rows

theorem posOf_some {j : Nat} : ∀ {rs : List R} {k : Nat}, posOf j rs = some k → rs[k]? = some (.slt j)
  | r :: rs, k, h => by
    unfold posOf at h
    split at h
    · rename_i q
      cases h
      cases r with
      | slt i => have e : i = j := by simpa [isSlt] using q
                 subst e; rfl
      | dat d => simp [isSlt] at q
      | own d => simp [isSlt] at q
      | fn d => simp [isSlt] at q
      | st d => simp [isSlt] at q
      | ex c d => simp [isSlt] at q
      | two c d => simp [isSlt] at q
    · obtain ⟨k', h1, rfl⟩ := Option.map_eq_some_iff.mp h
      simpa using posOf_some h1
theorem posOf_none {j : Nat} : ∀ {rs : List R} {k : Nat}, posOf j rs = none → rs[k]? ≠ some (.slt j)
  | [], _, _ => by simp
  | r :: rs, 0, h => fun e => by
    have e' : r = .slt j := by simpa using e
    subst e'
    simp [posOf, isSlt] at h
  | r :: rs, k + 1, h => fun e => by
    unfold posOf at h
    split at h
    · cases h
    · have h1 : posOf j rs = none := by simpa using h
      exact posOf_none (k := k) h1 (by simpa using e)
theorem dist_ok : ∀ {rs : List R} {j k k' : Nat}, dist rs = true → rs[k]? = some (.slt j) → rs[k']? = some (.slt j) → k = k'
  | r :: rs, j, 0, 0, _, _, _ => rfl
  | r :: rs, j, 0, k' + 1, h, e, e' => by
    have e1 : r = .slt j := by simpa using e
    subst e1
    simp only [dist, Bool.and_eq_true, Option.isNone_iff_eq_none] at h
    exact absurd (by simpa using e') (posOf_none (k := k') h.1)
  | r :: rs, j, k + 1, 0, h, e, e' => by
    have e1 : r = .slt j := by simpa using e'
    subst e1
    simp only [dist, Bool.and_eq_true, Option.isNone_iff_eq_none] at h
    exact absurd (by simpa using e) (posOf_none (k := k) h.1)
  | r :: rs, j, k + 1, k' + 1, h, e, e' => by
    have h' : dist rs = true := by
      cases r <;> simp only [dist, Bool.and_eq_true] at h <;> first | exact h.2 | exact h
    have a1 : rs[k]? = some (.slt j) := by simpa using e
    have a2 : rs[k']? = some (.slt j) := by simpa using e'
    rw [dist_ok h' a1 a2]

section
variable {T : Tb} {B H : Hp} {F : Reg} {O : Ows} {σ : L2.St} {ρ : Rho}
/-- the owners among the arguments -/
def Oa (O : Ows) (rs : List R) : Ows := fun k => match rs[k]? with
  | some (.slt i) => O i
  | _ => none
theorem Oa_some {rs : List R} {k : Nat} {a : Addr} (h : Oa O rs k = some a) : ∃ i, rs[k]? = some (.slt i) ∧ O i = some a := by
  unfold Oa at h
  split at h
  · rename_i i q; exact ⟨i, q, h⟩
  · cases h
theorem resRs_get : ∀ {vs : List V} {rs : List R} {k : Nat} {r : R}, ResRs T B H F O σ vs rs → rs[k]? = some r → ∃ v, vs[k]? = some v ∧ ResR T B H F O σ v r
  | _, _, _, _, .nil, e => by simp at e
  | _, _, 0, _, .cons a _, e => by simp at e; subst e; exact ⟨_, rfl, a⟩
  | _, _, k + 1, r, .cons _ b, e => by
    obtain ⟨v, h1, h2⟩ := resRs_get (k := k) (r := r) b (by simpa using e)
    exact ⟨v, by simpa using h1, h2⟩
theorem resRs_len : ∀ {vs : List V} {rs : List R}, ResRs T B H F O σ vs rs → vs.length = rs.length
  | _, _, .nil => rfl
  | _, _, .cons _ b => by rw [List.length_cons, List.length_cons, resRs_len b]
theorem passA_get : ∀ {rs args : List R} {k : Nat} {a : R}, passA ρ rs = some args → args[k]? = some a → ∃ r, rs[k]? = some r ∧ pass1 ρ r = some a
  | [], args, k, a, h, e => by cases h; simp at e
  | r :: rs, args, k, a, h, e => by
    unfold passA at h
    cases q1 : pass1 ρ r with
    | none => rw [q1] at h; cases h
    | some b =>
      cases q2 : passA ρ rs with
      | none => rw [q1, q2] at h; cases h
      | some bs =>
        rw [q1, q2] at h
        cases h
        cases k with
        | zero => simp at e; subst e; exact ⟨r, rfl, q1⟩
        | succ k =>
          obtain ⟨r', h1, h2⟩ := passA_get (k := k) (a := a) q2 (by simpa using e)
          exact ⟨r', by simpa using h1, h2⟩
theorem passA_len : ∀ {rs args : List R}, passA ρ rs = some args → args.length = rs.length
  | [], args, h => by cases h; rfl
  | r :: rs, args, h => by
    unfold passA at h
    cases q1 : pass1 ρ r with
    | none => rw [q1] at h; cases h
    | some b =>
      cases q2 : passA ρ rs with
      | none => rw [q1, q2] at h; cases h
      | some bs =>
        rw [q1, q2] at h
        cases h
        rw [List.length_cons, List.length_cons, passA_len q2]
theorem passA_there : ∀ {rs args : List R} {k : Nat} {r : R}, passA ρ rs = some args → rs[k]? = some r → ∃ a, args[k]? = some a := fun {rs args k r} h e => by
  have hk := lt_of_at e
  rw [← passA_len h] at hk
  exact ⟨args[k], by simp [hk]⟩
/-- the arguments, as a def takes them -/
theorem env_args (E : EnvR T H F O σ ρ) {vs : List V} {rs args : List R} (hd : dist rs = true) (r : ResRs T B H F O σ vs rs) (p : passA ρ rs = some args) : EnvR T H F (Oa O rs) (vs.map some) (args.map some) := by
  refine ⟨by rw [List.length_map, List.length_map, passA_len p, resRs_len r], fun k a e => ?_, fun k a e => ?_, fun k k' a e1 e2 => ?_, fun k a e => ?_, E.lv, E.tb⟩
  · have e' : args[k]? = some a := by
      rw [List.getElem?_map] at e
      cases q : args[k]? with
      | none => rw [q] at e; cases e
      | some b => rw [q] at e; cases e; rfl
    obtain ⟨s, h1, h2⟩ := passA_get p e'
    obtain ⟨v, h3, h4⟩ := resRs_get r h1
    refine ⟨v, by rw [List.getElem?_map, h3]; rfl, ?_⟩
    cases s with
    | dat d =>
      cases h2
      exact ⟨by unfold Oa; rw [h1], h4⟩
    | fn d =>
      cases h2
      exact ⟨by unfold Oa; rw [h1], h4⟩
    | own d => cases h2
    | st d => cases h2
    | ex c d =>
      cases h2
      exact ⟨by unfold Oa; rw [h1], h4⟩
    | two c d => cases h2
    | slt i =>
      have hO : Oa O rs k = O i := by unfold Oa; rw [h1]
      rw [hO]
      have h2' := h2
      unfold pass1 at h2'
      dsimp only at h2'
      split at h2'
      all_goals first
        | (rename_i q
           cases h2'
           obtain ⟨u, hu, su⟩ := E.at_ i _ q
           have h4' : σ[i]? = some (some v) := h4
           rw [h4'] at hu
           cases hu
           exact su)
        | cases h2'
  · obtain ⟨i, h1, h2⟩ := Oa_some e
    obtain ⟨b, h3⟩ := passA_there p h1
    exact ⟨b, by rw [List.getElem?_map, h3]; rfl⟩
  · obtain ⟨i, h1, h2⟩ := Oa_some e1
    obtain ⟨j, h3, h4⟩ := Oa_some e2
    have := E.inj i j a h2 h4
    subst this
    exact dist_ok hd h1 h3
  · obtain ⟨i, h1, h2⟩ := Oa_some e
    exact E.nf i a h2
/-- what a slot alone holds: its place -/
theorem own_at (E : EnvR T H F O σ ρ) {j : Nat} {x : Option R} (hx : ρ[j]? = some x) (h : isOwn x = true) : ∃ a, O j = some a ∧ σ[j]? = some (some (.ref a)) := by
  cases x with
  | none => cases h
  | some r =>
    obtain ⟨v, h1, s⟩ := E.at_ j r hx
    cases r with
    | own d => obtain ⟨a, h2, rfl, _⟩ := s; exact ⟨a, h2, h1⟩
    | st d => obtain ⟨a, h2, rfl, _⟩ := s; exact ⟨a, h2, h1⟩
    | dat d => cases h
    | slt i => cases h
    | fn d => cases h
    | ex c d => cases h
    | two c d => cases h
theorem own_is (E : EnvR T H F O σ ρ) {j : Nat} {a : Addr} (h : O j = some a) : ∃ x, ρ[j]? = some x ∧ isOwn x = true := by
  obtain ⟨r, e⟩ := E.own j a h
  obtain ⟨v, h1, s⟩ := E.at_ j r e
  refine ⟨some r, e, ?_⟩
  cases r with
  | own d => rfl
  | st d => rfl
  | dat d => obtain ⟨z, _⟩ := s; rw [h] at z; cases z
  | slt i => exact s.elim
  | fn d => obtain ⟨z, _⟩ := s; rw [h] at z; cases z
  | ex c d => obtain ⟨z, _⟩ := s; rw [h] at z; cases z
  | two c d => exact s.elim
/-- behind the call -/
theorem env_back (E : EnvR T H F O σ ρ) {vs : List V} {rs : List R} {args : List R} (hd : dist rs = true) (r : ResRs T B H F O σ vs rs) (p : passA ρ rs = some args) {H' : Hp} {F' : Reg} {O' : Ows} {os : Rho} (x : Ext true H F (Oa O rs) H' F' O') (E' : EnvR T H' F' O' (vs.map some) os) :
    ∃ O2, Ext false H F O H' F' O2 ∧ EnvR T H' F' O2 σ (backA ρ rs os) := by
  have Ea := env_args E hd r p
  -- an owner behind the call is the same as ahead of it
  have same : ∀ k j a, rs[k]? = some (.slt j) → O' k = some a → ∀ y, ρ[j]? = some y → isOwn y = true → O j = some a := fun k j a h1 h2 y hy ho => by
    obtain ⟨b, e1, e2⟩ := own_at E hy ho
    obtain ⟨q, e3⟩ := E'.own k a h2
    obtain ⟨v, e4, s⟩ := E'.at_ k q e3
    obtain ⟨u, e5, e6⟩ := resRs_get r h1
    have e6' : σ[j]? = some (some u) := e6
    rw [e2] at e6'
    cases e6'
    rw [List.getElem?_map, e5] at e4
    cases e4
    have va : V.ref b = V.ref a := by
      cases q with
      | own d => obtain ⟨c, z, w, _⟩ := s; rw [h2] at z; cases z; exact w
      | st d => obtain ⟨c, z, w, _⟩ := s; rw [h2] at z; cases z; exact w
      | dat d => obtain ⟨z, _⟩ := s; rw [h2] at z; cases z
      | slt i => exact s.elim
      | fn d => obtain ⟨z, _⟩ := s; rw [h2] at z; cases z
      | ex c d => obtain ⟨z, _⟩ := s; rw [h2] at z; cases z
      | two c d => exact s.elim
    cases va
    exact e1
  let O2 : Ows := fun j => match ρ[j]? with
    | some y => if isOwn y = true then match posOf j rs with
        | some k => O' k
        | none => O j
      else none
    | none => none
  have cases2 : ∀ j a, O2 j = some a → (∃ y, ρ[j]? = some y ∧ isOwn y = true ∧ ((∃ k, posOf j rs = some k ∧ O' k = some a) ∨ (posOf j rs = none ∧ O j = some a))) := fun j a h => by
    have h' : (match ρ[j]? with
      | some y => if isOwn y = true then match posOf j rs with
          | some k => O' k
          | none => O j
        else none
      | none => none) = some a := h
    cases q : ρ[j]? with
    | none => rw [q] at h'; cases h'
    | some y =>
      rw [q] at h'
      dsimp only at h'
      split at h'
      · rename_i ho
        refine ⟨y, rfl, ho, ?_⟩
        cases q2 : posOf j rs with
        | none => rw [q2] at h'; exact .inr ⟨rfl, h'⟩
        | some k => rw [q2] at h'; exact .inl ⟨k, rfl, h'⟩
      · cases h'
  have sub : ∀ j a, O2 j = some a → O j = some a := fun j a h => by
    obtain ⟨y, hy, ho, ⟨k, h1, h2⟩ | ⟨_, h2⟩⟩ := cases2 j a h
    · exact same k j a (posOf_some h1) h2 y hy ho
    · exact h2
  have kp : Kept F H H' := Ea.kept x
  have keepO : ∀ j a o, posOf j rs = none → O j = some a → H a = some o → H' a = some o := fun j a o h1 h2 h3 => x.keep a o h3 (fun k e => by
    obtain ⟨i, e1, e2⟩ := Oa_some e
    have := E.inj i j a e2 h2
    subst this
    exact posOf_none h1 e1) (E.nc h2 h3).1
  refine ⟨O2, ⟨fun b o h n z => x.keep b o h (fun k e => ?_) z, x.live, x.grow, fun b h => ?_, fun j b h => .inl (sub j b h)⟩, ⟨?_, fun j q e => ?_, fun j a h => ?_, fun i j a e1 e2 => E.inj i j a (sub i a e1) (sub j a e2), fun j a h => ?_, E'.lv, E'.tb⟩⟩
  · obtain ⟨i, _, e2⟩ := Oa_some e
    exact n i e2
  · rcases x.new b h with z | ⟨k, z⟩ | z
    · exact .inl z
    · obtain ⟨i, _, e2⟩ := Oa_some z
      exact .inr (.inl ⟨i, e2⟩)
    · exact .inr (.inr z)
  · unfold backA
    rw [List.length_mapIdx]
    exact E.len
  · unfold backA at e
    rw [List.getElem?_mapIdx] at e
    cases qj : ρ[j]? with
    | none => rw [qj] at e; cases e
    | some y =>
      rw [qj] at e
      have e' : (if isOwn y = true then match posOf j rs with
          | some k => os[k]?.join
          | none => y
        else y) = some q := Option.some.inj e
      have O2j : O2 j = if isOwn y = true then match posOf j rs with
          | some k => O' k
          | none => O j
        else none := by show (match ρ[j]? with
          | some y => if isOwn y = true then match posOf j rs with
              | some k => O' k
              | none => O j
            else none
          | none => none) = _
                        rw [qj]
      rw [O2j]
      by_cases ho : isOwn y = true
      · rw [if_pos ho] at e' ⊢
        cases qp : posOf j rs with
        | none =>
          rw [qp] at e'
          dsimp only at e' ⊢
          subst e'
          obtain ⟨v, h1, s⟩ := E.at_ j q qj
          exact ⟨v, h1, s.mono kp x.grow fun a o ha hh => keepO j a o qp ha hh⟩
        | some k =>
          rw [qp] at e'
          dsimp only at e' ⊢
          have e2 : os[k]? = some (some q) := by
            cases z : os[k]? with
            | none => rw [z] at e'; cases e'
            | some w => rw [z] at e'; rw [show w = some q from e']
          obtain ⟨v, h1, s⟩ := E'.at_ k q e2
          obtain ⟨u, e5, e6⟩ := resRs_get r (posOf_some qp)
          rw [List.getElem?_map, e5] at h1
          obtain rfl : u = v := by simpa using h1
          exact ⟨u, e6, s⟩
      · rw [if_neg ho] at e' ⊢
        subst e'
        obtain ⟨v, h1, s⟩ := E.at_ j q qj
        have hn : O j = none := by
          cases z : O j with
          | none => rfl
          | some a =>
            obtain ⟨y, hy, ho'⟩ := own_is E z
            rw [qj] at hy
            cases hy
            exact absurd ho' ho
        rw [hn] at s
        exact ⟨v, h1, s.mono kp x.grow fun a o ha _ => by cases ha⟩
  · obtain ⟨y, hy, ho, z⟩ := cases2 j a h
    unfold backA
    rw [List.getElem?_mapIdx, hy]
    show ∃ q, some (if isOwn y = true then match posOf j rs with
          | some k => os[k]?.join
          | none => y
        else y) = some (some q)
    rw [if_pos ho]
    rcases z with ⟨k, h1, h2⟩ | ⟨h1, h2⟩
    · rw [h1]
      obtain ⟨q, e⟩ := E'.own k a h2
      exact ⟨q, by dsimp only; rw [e]; rfl⟩
    · rw [h1]
      obtain ⟨q, e⟩ := E.own j a h2
      rw [hy] at e
      cases e
      exact ⟨q, rfl⟩
  · obtain ⟨y, hy, ho, ⟨k, h1, h2⟩ | ⟨h1, h2⟩⟩ := cases2 j a h
    · exact E'.nf k a h2
    · intro z
      rcases x.new a z with z | ⟨k, z⟩ | z
      · exact E.nf j a h2 z
      · obtain ⟨i, e1, e2⟩ := Oa_some z
        have := E.inj i j a e2 h2
        subst this
        exact posOf_none h1 e1
      · obtain ⟨o, ho, _⟩ := E.there h2
        rw [ho] at z; cases z
/-- a callee's result is ours -/
theorem res_back (E : EnvR T H F O σ ρ) {H' : Hp} {F' : Reg} {O' O2 : Ows} {v : V} (sb : ∀ i a, O2 i = some a → O i = some a) : ∀ {r : R}, ResR T H H' F' O' [] v r → ResR T H H' F' O2 σ v r
  | .dat _, h => h
  | .own _, ⟨a, h1, h2, h3, _, h5⟩ => ⟨a, h1, h2, h3, fun i e => E.ne_new h2 i (sb i a e), h5⟩
  | .slt i, h => by
    have h' : ([] : L2.St)[i]? = some (some v) := h
    simp at h'
  | .fn _, h => h
  | .st _, ⟨a, h1, h2, h3, _, h5⟩ => ⟨a, h1, h2, h3, fun i e => E.ne_new h2 i (sb i a e), h5⟩
  | .ex _ _, h => h
  | .two _ _, ⟨p, a, b, h1, h2, h3, ⟨a1, a2, _, a4⟩, b1, b2, _, b4⟩ => ⟨p, a, b, h1, h2, h3, ⟨a1, a2, fun i e => E.ne_new a1 i (sb i a e), a4⟩, b1, b2, fun i e => E.ne_new b1 i (sb i b e), b4⟩
end

/-- a def of the text: its name, its place, its promise -/
structure FnE (P : Program) (w : World) (mg : Str → Option Value) (base : Heap) (T : Tb) (x : Str) (k n : Nat) (sem : Sem) : Prop where
  ex : ∃ f fd ps, mg x = some (.ref f) ∧ PySem.W.keepIn T.K (.ref f) = true ∧ Binds T.K fd ps [] ∧ ps.length = n ∧ FnG P w T.K mg base k f fd ps (spOf T n sem)

section
variable {X : Cx} {T : Tb} {W : WX} {x : Str} {k n m : Nat} {sem : Sem} {e : Expr} {es : List Expr} {fa : AM} {p pos : Pos}
theorem call_of {σ : L2.St} {H : Hp} {Q : VK} (h : Tof T W (tlE T) (callM sem fa) σ H Q) (hl : ∀ vs rs H0 H1 F1 O1, ResRs T H0 H1 F1 O1 σ vs rs → ∀ args ρ, passA ρ rs = some args → ∀ o, sem args = some o → vs.length = n) :
    Tof T W (tlA T) fa σ H fun vs H1 => spOf T n sem vs H1 Q fun cls d H' => W cls d σ H' := by
  obtain ⟨ρ, F, O, E, P⟩ := h
  refine stp .refl E P fun vs H1 rs ρ1 F1 O1 x1 y1 E1 r1 P1 => ?_
  split at P1
  · rename_i hd
    cases q : passA ρ1 rs with
    | none => rw [q] at P1; exact P1.elim
    | some args =>
      rw [q] at P1
      dsimp only at P1
      cases q2 : sem args with
      | none => rw [q2] at P1; exact P1.elim
      | some o =>
        rw [q2] at P1
        refine ⟨args, F1, Oa O1 rs, hl vs rs _ _ _ _ r1 args ρ1 q o q2, env_args E1 hd r1 q, ?_⟩
        rw [q2]
        cases o with
        | ok r os =>
          intro v H2 F2 O2 x2 E2 r2
          obtain ⟨O3, x3, E3⟩ := env_back E1 hd r1 q x2 E2
          exact P1 v H2 F2 O3 (y1.trans x3) E3 ((res_back E1 (fun i a e => (x3.own i a e).elim id fun z => absurd z.1 Bool.false_ne_true) r2).back x1.live)
        | er c fs os =>
          intro cls d H2 F2 O2 x2 E2 r2
          obtain ⟨O3, x3, E3⟩ := env_back E1 hd r1 q x2 E2
          exact P1 cls d H2 F2 O3 (y1.trans x3) E3 r2
  · exact P1.elim
/-- f(e, ..) -/
theorem se_call (h : FnE X.prog X.w X.mg X.base T x k n sem) (c : Cxt X T W m) (hk : k ≤ m) (hg : L2.Gl X x) (ha : SA X T W (e :: es) fa) (hl : ∀ args o, sem args = some o → args.length = n) (hdb : (x == ("__debug__" : Str)) = false := by decide)
    (he : starEach (e :: es) X.env = (false, eval e X.env) :: starEach es X.env := by rfl) (hpl : (backTo pos (starEach es X.env)).any (·.1) = false := by rfl) : SE X T W (.Call (.Name x p) (e :: es) [] pos) (callM sem fa) := by
  obtain ⟨f, fd, ps, hm, hkp, hb, hn, G⟩ := h.ex
  rw [← c.hK] at hkp hb G
  refine ⟨fun pins s σ H Q I h => ?_⟩
  have h2 := call_of (n := n) h fun vs rs H0 H1 F1 O1 rr args ρ pa o so => by rw [resRs_len rr, ← passA_len pa]; exact hl args o so
  have fin : ∀ us s1, AP X pins σ (fun vs H1 => spOf T n sem vs H1 Q fun cls d H' => W cls d σ H') us s1 → X.K.In s1.heap ∧ wpAny (model X.prog X.w) X.A (call (.ref f) us) (EP X pins σ Q) X.xe s1 := by
    rintro us s1 ⟨vs, H1, I1, r, q⟩
    refine ⟨I1.kIn, ?_⟩
    have lus : us.length = ps.length := by rw [← r.length]; exact G.len _ _ _ _ q
    have bb := hb s1 us I1.kIn (by rw [List.append_nil]; exact lus)
    rw [List.append_nil] at bb
    refine wpAny_call (codeAny_mono (G.run X.A X.stack s1 H1 ⟨us, []⟩ us vs Q _ c.gd (c.room.mono hk) I1.env0 bb r q) ?_)
    intro r' s' hq
    cases r' with
    | error e => exact c.tk e s' (XE.of_call I1 (fun _ _ _ z => z) hq)
    | ok fl =>
      cases fl with
      | ret u => exact I1.after hq
      | next => exact hq.elim
      | brk => exact hq.elim
      | cont => exact hq.elim
  exact wpAny_Call_Name_kw (ld_glob I hg hm (PySem.W.callWith_K (h₀ := X.base) I.ok.mod.kin hkp (thn (ha.run pos pins s σ H _ I h2) fin) he hpl) hdb)
end
theorem runD_len {n N : Nat} {pr : Nat → Bool} {m : SM} : ∀ args o, runD n N pr m args = some o → args.length = n := fun args o h => by
  unfold runD at h
  split at h
  · assumption
  · cases h
end DL

/-! D10: stores, parallel assignment, while. -/
namespace DL
open PySem L2 PyProof.Rows

section
variable {T : Tb} {H : Hp} {F : Reg} {O : Ows} {σ : L2.St} {ρ : Rho}
/-- what a slot alone holds changes -/
theorem EnvR.mut {i : Nat} {a : Addr} {d d' : PyData} {o : HO} {s : Bool} (E : EnvR T H F O σ ρ) (h : ρ[i]? = some (some (.own d))) (ho : O i = some a) (new : Kept F H (upd H a o) → OwnAt T.K (upd H a o) F a d') :
    EnvR T (upd H a o) F O σ (ρ.set i (some (.own d'))) ∧ Ext s H F O (upd H a o) F O ∧ Kept F H (upd H a o) := by
  have x : Ext s H F O (upd H a o) F O := ⟨fun b u hb n _ => by rw [upd_ne (fun z => n i (by rw [ho, z]))]; exact hb, fun b hb => by
    by_cases e : b = a
    · subst e; rw [upd_same] at hb; cases hb
    · rw [upd_ne e] at hb; exact hb, fun _ h => h, fun _ h => .inl h, fun _ _ h => .inl h⟩
  have k := E.kept x
  have hl : i < ρ.length := lt_of_at h
  refine ⟨⟨by rw [List.length_set]; exact E.len, fun j r e => ?_, fun j b e => ?_, E.inj, E.nf, fun b hb z => ?_, by
    obtain ⟨u, hu, _⟩ := E.there ho
    exact tabs_put E.tb hu (E.nc ho hu)⟩, x, k⟩
  · by_cases hj : j = i
    · subst hj
      rw [List.getElem?_set_self hl] at e
      cases e
      obtain ⟨v, h1, b, h2, h3, _⟩ := E.at_ j _ h
      rw [ho] at h2
      cases h2
      exact ⟨v, h1, a, ho, h3, new k⟩
    · rw [List.getElem?_set_ne (Ne.symm hj)] at e
      obtain ⟨v, h1, h2⟩ := E.at_ j r e
      exact ⟨v, h1, h2.mono k (fun _ h => h) fun b u hb hu => by
        have n : b ≠ a := fun z => hj (E.inj j i a (by rw [hb, z]) ho)
        rw [upd_ne n]; exact hu⟩
  · by_cases hj : j = i
    · subst hj
      exact ⟨_, by rw [List.getElem?_set_self hl]⟩
    · rw [List.getElem?_set_ne (Ne.symm hj)]
      exact E.own j b e
  · by_cases e : b = a
    · subst e; exact E.nf i b ho hb
    · rw [upd_ne e] at z; exact E.lv b hb z
theorem own_lst (E : EnvR T H F O σ ρ) {i : Nat} {ds : List PyData} (h : ρ[i]? = some (some (.own (.list ds)))) : ∃ a vs, σ[i]? = some (some (.ref a)) ∧ O i = some a ∧ H a = some (.lst vs) ∧ DFs T.K H F vs ds := by
  obtain ⟨v, h1, a, h2, rfl, vs, h3, h4⟩ := E.at_ i _ h
  exact ⟨a, vs, h1, h2, h3, h4⟩
end

def isList : Option (Option R) → Bool
  | some (some (.own (.list _))) => true
  | _ => false
theorem isList_ex {x : Option (Option R)} (h : isList x = true) : ∃ ds, x = some (some (.own (.list ds))) := by
  unfold isList at h
  split at h
  · exact ⟨_, rfl⟩
  · cases h
/-- x.append(e) -/
def appM (i : Nat) (fe : EM) : SM := fun ρ => if isList ρ[i]? = true then bindS (fe ρ) fun r ρ1 => match frz ρ1 r with
    | some (d, ρ2) => match ρ2[i]? with
      | some (some (.own (.list ds))) => if ds.length < lim then some (.nx (ρ2.set i (some (.own (.list (ds ++ [d])))))) else none
      | _ => none
    | none => none
  else none
/-- x[i] = e -/
def setM (s : Nat) (fi fe : EM) : SM := fun ρ => bindS (fe ρ) fun r ρ1 => match frz ρ1 r with
  | some (d, ρ2) => if isList ρ2[s]? = true then bindS (fi ρ2) fun ri ρ3 => match ri, ρ3[s]? with
      | .dat (.int k), some (some (.own (.list ds))) => (ixN ds.length k).map fun j => .nx (ρ3.set s (some (.own (.list (ds.set j d)))))
      | _, _ => none
    else none
  | none => none
/-- a result that may be stored in a slot: what another slot holds is shared, so it stays -/
def sv (ρ : Rho) : R → Option (R × Rho)
  | .slt i => (frz ρ (.slt i)).map fun p => (.dat p.1, p.2)
  | .ex _ _ => none
  | .two _ _ => none
  | r => some (r, ρ)
/-- what a slot may hold -/
def Sto : R → Prop
  | .slt _ => False
  | .two _ _ => False
  | _ => True
def parM (i j : Nat) (fa fb : EM) : SM := fun ρ => bindS (fa ρ) fun r ρ1 => match sv ρ1 r with
  | some (r', ρ2) => bindS (fb ρ2) fun s ρ3 => match sv ρ3 s with
    | some (s', ρ4) => some (.nx ((ρ4.set i (some r')).set j (some s')))
    | none => none
  | none => none
def parM3 (i j l : Nat) (fa fb fc : EM) : SM := fun ρ => bindS (fa ρ) fun r ρ1 => match sv ρ1 r with
  | some (r', ρ2) => bindS (fb ρ2) fun s ρ3 => match sv ρ3 s with
    | some (s', ρ4) => bindS (fc ρ4) fun t ρ5 => match sv ρ5 t with
      | some (t', ρ6) => some (.nx (((ρ6.set i (some r')).set j (some s')).set l (some t')))
      | none => none
    | none => none
  | none => none
/-- a, b = e, e a tuple -/
def asgTM (g : GM) (fe : EM) : SM := fun ρ => bindS (fe ρ) fun r ρ1 => match frz ρ1 r with
  | some (d, ρ2) => (g d ρ2).map .nx
  | none => none
/-- how many turns a while is given: more than the whole numbers in its slots -/
def fuelR : Rho → Nat
  | [] => 1
  | some (.dat (.int i)) :: r => i.natAbs + 1 + fuelR r
  | _ :: r => fuelR r
def whL (c : Rho → Option (Oe Bool)) (body : SM) : Nat → SM
  | 0, _ => none
  | n + 1, ρ => bindS (c ρ) fun b ρ1 => if b = true then match body ρ1 with
      | some (.nx ρ2) => whL c body n ρ2
      | some (.ct ρ2) => whL c body n ρ2
      | some (.bk ρ2) => some (.nx ρ2)
      | o => o
    else some (.nx ρ1)
def whM (c : Rho → Option (Oe Bool)) (body : SM) : SM := fun ρ => whL c body (fuelR ρ) ρ

section
variable {X : Cx} {T : Tb} {W : WX} {φ : Fm} {e ei : Expr} {fe fi : EM} {pos p apos : Pos} {i : Nat} {x : Str}
theorem ss_app {ex : Expr} (h : PE X ex (tBM X.K "list" rAppend (tVar i) (tCons (Tof T W (tlE T) fe) tNil))) (hs : swapsWith ex none pos.line X.env = pure false := by rfl) : SS X T W φ (.Expr ex pos) (appM i fe) := by
  refine ps_imp (ps_expr h hs) fun D σ H ⟨ρ, F, O, S, P⟩ => ?_
  unfold appM at P
  split at P
  · rename_i hi
    obtain ⟨ds0, q0⟩ := isList_ex hi
    obtain ⟨a, vs0, h1, h2, h3, h4⟩ := own_lst S.E q0
    refine ⟨.ref a, h1, .inl ⟨rfl, vs0, .inl (.inl h3)⟩, ?_⟩
    refine sps .refl .refl S P fun v H1 r ρ1 F1 O1 x1 y1 S1 r1 P1 => ?_
    cases q : frz ρ1 r with
    | none => rw [q] at P1; exact P1.elim
    | some z =>
      obtain ⟨d, ρ2⟩ := z
      rw [q] at P1
      dsimp only at P1
      obtain ⟨F2, O2, y2, E2, d2, _, sb, _⟩ := fz y1 (fun _ h => h) S1.E r1 q
      split at P1
      · rename_i ds q2
        split at P1
        · rename_i hz
          obtain ⟨b, vs, g1, g2, g3, g4⟩ := own_lst E2 q2
          rw [h1] at g1
          cases g1
          refine ⟨a, vs, v, rfl, rfl, g3, by rw [g4.length]; exact Nat.lt_of_lt_of_le hz (by decide), ?_⟩
          obtain ⟨E3, x3, k3⟩ := E2.mut (o := .lst (vs ++ [v])) (d' := .list (ds ++ [d])) (s := true) q2 g2 fun k => ⟨_, upd_same, (g4.append (.cons d2 .nil)).mono k fun _ h => h⟩
          exact P1 σ _ F2 O2 (y2.trans x3) ⟨E3, fun b h => S1.lb b (x3.live b h), fun j b hj q => S1.lf j b hj (sb j b q)⟩ .refl
        · exact P1.elim
      · exact P1.elim
  · exact P.elim
theorem ss_set {s : Nat} {tg : Expr} (he : SE X T W e fe) (hpg : PG X tg (gSub (tVar s) (Tof T W (tlE T) fi) rSetL)) (hs : swapsWithSole [tg] e pos.line X.env = pure false := by rfl) (hw : swappedStores [tg] e X.env = pure none := by rfl) (h1 : (assignEach [tg] X.env).map (·.2) = [assign tg X.env] := by rfl) :
    SS X T W φ (.Assign [tg] e pos) (setM s fi fe) := by
  refine ps_imp (ps_asg he hpg hs hw h1) fun D σ H ⟨ρ, F, O, S, P⟩ => ?_
  refine sps .refl .refl S P fun v H1 r ρ1 F1 O1 x1 y1 S1 r1 P1 => ?_
  cases q : frz ρ1 r with
  | none => rw [q] at P1; exact P1.elim
  | some z =>
    obtain ⟨d, ρ2⟩ := z
    rw [q] at P1
    dsimp only at P1
    obtain ⟨F2, O2, y2, E2, d2, _, sb, _⟩ := fz y1 (fun _ h => h) S1.E r1 q
    have S2 : StR T φ H1 F2 O2 σ ρ2 := ⟨E2, S1.lb, fun j b hj q => S1.lf j b hj (sb j b q)⟩
    split at P1
    · rename_i hi
      obtain ⟨ds0, q0⟩ := isList_ex hi
      obtain ⟨a, vs0, h1, h2, h3, h4⟩ := own_lst E2 q0
      refine ⟨.ref a, h1, ?_⟩
      refine sps y2 .refl S2 P1 fun u H3 ri ρ3 F3 O3 x3 y3 S3 r3 P3 => ?_
      split at P3
      · rename_i k ds q3
        obtain ⟨j, e1, e2⟩ : ∃ j, ixN ds.length k = some j ∧ True := by
          cases z : ixN ds.length k with
          | none => rw [z] at P3; exact P3.elim
          | some j => exact ⟨j, rfl, trivial⟩
        rw [e1] at P3
        obtain ⟨b, vs, g1, g2, g3, g4⟩ := own_lst S3.E q3
        rw [h1] at g1
        cases g1
        refine ⟨a, vs, k, j, rfl, int_of r3, g3, by rw [g4.length]; exact e1, ?_⟩
        have d3 : DF T.K H3 F3 v d := d2.mono (E2.kept x3) x3.grow
        obtain ⟨E4, x4, k4⟩ := S3.E.mut (o := .lst (vs.set j v)) (d' := .list (ds.set j d)) (s := true) q3 g2 fun k => ⟨_, upd_same, (g4.set d3 j).mono k fun _ h => h⟩
        exact P3 σ _ F3 O3 (y3.trans x4) ⟨E4, fun b h => S3.lb b (x4.live b h), S3.lf⟩ .refl
      · exact P3.elim
    · exact P1.elim

/-! ### parallel assignment -/
theorem sv_ok {t : Bool} {B H0 H : Hp} {FB F : Reg} {OB O : Ows} {σ : L2.St} {ρ ρ' : Rho} {v : V} (x : Ext t B FB OB H F O) (l : ∀ b, H0 b = none → B b = none) (E : EnvR T H F O σ ρ) {r r' : R} (h : ResR T H0 H F O σ v r) (e : sv ρ r = some (r', ρ')) :
    ∃ F' O', Ext t B FB OB H F' O' ∧ EnvR T H F' O' σ ρ' ∧ ResR T H0 H F' O' σ v r' ∧ (∀ b, F b → F' b) ∧ Sub O' O ∧ (∀ b, F' b → F b ∨ ∃ i, O i = some b) ∧ Sto r' := by
  cases r with
  | dat d => cases e; exact ⟨F, O, x, E, h, fun _ h => h, fun _ _ h => h, fun _ h => .inl h, trivial⟩
  | own d => cases e; exact ⟨F, O, x, E, h, fun _ h => h, fun _ _ h => h, fun _ h => .inl h, trivial⟩
  | fn d => cases e; exact ⟨F, O, x, E, h, fun _ h => h, fun _ _ h => h, fun _ h => .inl h, trivial⟩
  | st d => cases e; exact ⟨F, O, x, E, h, fun _ h => h, fun _ _ h => h, fun _ h => .inl h, trivial⟩
  | ex c d => cases e
  | two c d => cases e
  | slt i =>
    obtain ⟨⟨d, ρ1⟩, e1, e2⟩ := Option.map_eq_some_iff.mp (show (frz ρ (.slt i)).map (fun p => (R.dat p.1, p.2)) = some (r', ρ') from e)
    cases e2
    -- here what is new in the region is the slot's own
    have h' : σ[i]? = some (some v) := h
    have key : ∀ (d1 : PyData), ρ[i]? = some (some (.dat d1)) ∨ ρ[i]? = some (some (.own d1)) → slotD ρ[i]? = some d1 := fun d1 z => z.elim (fun z => by rw [z]; rfl) fun z => by rw [z]; rfl
    cases q : ρ[i]? with
    | none => exact absurd e1 (by simp [frz, q, slotD])
    | some o =>
      cases o with
      | none => exact absurd e1 (by simp [frz, q, slotD])
      | some r =>
        obtain ⟨u, hu, s⟩ := E.at_ i r q
        rw [h'] at hu
        cases hu
        cases r with
        | dat d1 =>
          have e3 : some (d1, ρ.set i (some (.dat d1))) = some (d, ρ1) := by simpa [frz, q, slotD] using e1
          cases e3
          exact ⟨F, O, x, E.setD q, s.2, fun _ h => h, fun _ _ h => h, fun _ h => .inl h, trivial⟩
        | own d1 =>
          have e3 : some (d1, ρ.set i (some (.dat d1))) = some (d, ρ1) := by simpa [frz, q, slotD] using e1
          cases e3
          obtain ⟨a, z1, z2, z3⟩ := s
          subst z2
          have hd : DF T.K H (fun b => F b ∨ b = a) (.ref a) d := OwnAt.df (F := fun b => F b ∨ b = a) (.inr rfl) (z3.mono (fun _ _ h _ => h) (fun _ h => .inl h) fun _ h => h)
          have sb : Sub (fun j => if j = i then none else O j) O := fun j b q => by
            have q' : (if j = i then none else O j) = some b := q
            by_cases hj : j = i
            · rw [if_pos hj] at q'; cases q'
            · rw [if_neg hj] at q'; exact q'
          refine ⟨fun b => F b ∨ b = a, fun j => if j = i then none else O j, ⟨x.keep, x.live, fun b h => .inl (x.grow b h), fun b h => ?_, fun j b e => x.own j b (sb j b e)⟩, vw_fz E z1 (fun _ => Iff.rfl) hd, hd, fun _ h => .inl h, sb, fun b h => h.elim .inl fun z => .inr ⟨i, z ▸ z1⟩, trivial⟩
          rcases h with h | rfl
          · exact x.new b h
          · exact .inr (x.ow z1)
        | slt j => exact absurd e1 (by simp [frz, q, slotD])
        | fn k => exact absurd e1 (by simp [frz, q, slotD])
        | st xs => exact absurd e1 (by simp [frz, q, slotD])
        | ex c fs => exact absurd e1 (by simp [frz, q, slotD])
        | two c fs => exact absurd e1 (by simp [frz, q, slotD])
/-- where a result's own thing stands -/
def resA (v : V) : R → Option Addr
  | .own _ => match v with
    | .ref a => some a
    | _ => none
  | .st _ => match v with
    | .ref a => some a
    | _ => none
  | _ => none
theorem res_slot {H0 H : Hp} {F : Reg} {O : Ows} {σ : L2.St} {v : V} {r : R} (h : ResR T H0 H F O σ v r) (n : Sto r) : SlotR T H F (resA v r) v r ∧ ∀ a, resA v r = some a → ¬ F a ∧ (∀ i, O i ≠ some a) ∧ H0 a = none ∧ ∃ o, H a = some o := by
  cases r with
  | dat d => exact ⟨⟨rfl, h⟩, fun _ q => nomatch q⟩
  | fn d => exact ⟨⟨rfl, h⟩, fun _ q => nomatch q⟩
  | slt i => exact n.elim
  | two c d => exact n.elim
  | ex c d => exact ⟨⟨rfl, h⟩, fun _ q => nomatch q⟩
  | own d =>
    obtain ⟨a, rfl, h2, h3, h4, h5⟩ := h
    exact ⟨⟨a, rfl, rfl, h5⟩, fun b q => by
      cases q
      obtain ⟨o, ho, _⟩ := h5.there
      exact ⟨h3, h4, h2, o, ho⟩⟩
  | st d =>
    obtain ⟨a, rfl, h2, h3, h4, h5⟩ := h
    exact ⟨⟨a, rfl, rfl, h5⟩, fun b q => by
      cases q
      obtain ⟨o, ho, _⟩ := h5.there
      exact ⟨h3, h4, h2, o, ho⟩⟩
theorem res_up {H0 H : Hp} {F F' : Reg} {O O' : Ows} {σ : L2.St} {v : V} (g : ∀ b, F b → F' b) (sb : Sub O' O) (n : ∀ b, F' b → F b ∨ ∃ i, O i = some b) : ∀ {r : R}, ResR T H0 H F O σ v r → ResR T H0 H F' O' σ v r
  | .dat _, h => DF.mono .refl g h
  | .own _, ⟨a, h1, h2, h3, h4, h5⟩ => ⟨a, h1, h2, fun z => (n a z).elim h3 fun ⟨i, y⟩ => h4 i y, fun i z => h4 i (sb i a z), h5.mono .refl g fun _ h => h⟩
  | .slt _, h => h
  | .fn _, h => h
  | .st _, ⟨a, h1, h2, h3, h4, h5⟩ => ⟨a, h1, h2, fun z => (n a z).elim h3 fun ⟨i, y⟩ => h4 i y, fun i z => h4 i (sb i a z), h5⟩
  | .ex _ _, h => h
  | .two _ _, ⟨p, a, b, h1, h2, h3, ⟨a1, a2, a3, a4⟩, b1, b2, b3, b4⟩ => ⟨p, a, b, h1, h2, h3, ⟨a1, fun z => (n a z).elim a2 fun ⟨i, y⟩ => a3 i y, fun i z => a3 i (sb i a z), a4.mono .refl g fun _ h => h⟩, b1, fun z => (n b z).elim b2 fun ⟨i, y⟩ => b3 i y, fun i z => b3 i (sb i b z), b4.mono .refl g fun _ h => h⟩
theorem put_ok {B H : Hp} {FB F : Reg} {OB O : Ows} {σ : L2.St} {ρ : Rho} {v : V} {r : R} {i : Nat} (x : Ext true B FB OB H F O) (S : StR T φ H F O σ ρ) (hi : i < σ.length) (s : SlotR T H F (resA v r) v r) (c : ∀ a, resA v r = some a → ¬ F a ∧ (∀ k, O k ≠ some a) ∧ B a = none ∧ φ.HB a = none) :
    ∃ O', Ext true B FB OB H F O' ∧ StR T φ H F O' (σ.set i (some v)) (ρ.set i (some r)) ∧ ∀ k a, O' k = some a → O k = some a ∨ resA v r = some a := by
  have cs : ∀ k a, (if k = i then resA v r else O k) = some a → O k = some a ∨ resA v r = some a := fun k a q => by
    by_cases hk : k = i
    · rw [if_pos hk] at q; exact .inr q
    · rw [if_neg hk] at q; exact .inl q
  refine ⟨fun k => if k = i then resA v r else O k, ⟨x.keep, x.live, x.grow, x.new, fun k b q => ?_⟩, ⟨S.E.put hi s (fun a q => (c a q).1) fun a q => (c a q).2.1, S.lb, fun k b hk q => ?_⟩, cs⟩
  · rcases cs k b q with z | z
    · exact x.own k b z
    · exact .inr ⟨rfl, .inr (c b z).2.2.1⟩
  · rcases cs k b q with z | z
    · exact S.lf k b hk z
    · exact (c b z).2.2.2
theorem par_of {i j : Nat} {fa fb : EM} {D : Ends} {σ : L2.St} {H : Hp} (hp : φ.pr i = false) (hq : φ.pr j = false) (hi : i < σ.length) (hj : j < σ.length) (h : TSof T W φ (parM i j fa fb) D σ H) : tPar i j (tCons (Tof T W (tlE T) fa) (tCons (Tof T W (tlE T) fb) tNil)) D σ H := by
  obtain ⟨ρ, F, O, S, P⟩ := h
  refine sps .refl .refl S P fun v H1 r ρ1 F1 O1 x1 y1 S1 r1 P1 => ?_
  cases q1 : sv ρ1 r with
  | none => rw [q1] at P1; exact P1.elim
  | some z =>
    obtain ⟨r', ρ2⟩ := z
    rw [q1] at P1
    dsimp only at P1
    obtain ⟨F2, O2, y2, E2, r2, g2, sb2, _, n2⟩ := sv_ok y1 (fun _ h => h) S1.E r1 q1
    have S2 : StR T φ H1 F2 O2 σ ρ2 := ⟨E2, S1.lb, fun k b hk q => S1.lf k b hk (sb2 k b q)⟩
    refine sps y2 .refl S2 P1 fun u H3 s ρ3 F3 O3 x3 y3 S3 r3 P3 => ?_
    cases q3 : sv ρ3 s with
    | none => rw [q3] at P3; exact P3.elim
    | some z =>
      obtain ⟨s', ρ4⟩ := z
      rw [q3] at P3
      obtain ⟨F4, O4, y4, E4, r4, g4, sb4, nw4, n4⟩ := sv_ok y3 (fun b h => y1.live b h) S3.E r3 q3
      have S4 : StR T φ H3 F4 O4 σ ρ4 := ⟨E4, S3.lb, fun k b hk q => S3.lf k b hk (sb4 k b q)⟩
      have r5 : ResR T H H3 F4 O4 σ v r' := res_up g4 sb4 nw4 (ResR.mono E2 x3 r2)
      obtain ⟨s5, c5⟩ := res_slot r5 n2
      obtain ⟨s6, c6⟩ := res_slot r4 n4
      obtain ⟨_, c2⟩ := res_slot r2 n2
      obtain ⟨O5, y5, S5, w5⟩ := put_ok y4 S4 hi s5 fun a e => ⟨(c5 a e).1, (c5 a e).2.1, (c5 a e).2.2.1, S.lb a (c5 a e).2.2.1⟩
      have ne : ∀ a, resA u s' = some a → ∀ k, O5 k ≠ some a := fun a e k z => by
        rcases w5 k a z with z | z
        · exact (c6 a e).2.1 k z
        · obtain ⟨o, ho⟩ := (c2 a z).2.2.2
          have := (c6 a e).2.2.1
          rw [ho] at this; cases this
      obtain ⟨O6, y6, S6, _⟩ := put_ok y5 S5 (by rw [List.length_set]; exact hj) s6 fun a e => ⟨(c6 a e).1, ne a e, y1.live a (c6 a e).2.2.1, S1.lb a (c6 a e).2.2.1⟩
      exact ⟨v, u, rfl, P3 _ H3 F4 O6 y6 S6 (.trans (.set hp) (.set hq))⟩
theorem ss_par {st : Stmt} {i j : Nat} {x y : Str} {fa fb : EM} (hp : φ.pr i = false) (hq : φ.pr j = false) (hi : X.N[i]? = some x) (hj : X.N[j]? = some y) (h : PS X st (tPar i j (tCons (Tof T W (tlE T) fa) (tCons (Tof T W (tlE T) fb) tNil)))) : SS X T W φ st (parM i j fa fb) :=
  ps_impL h fun D σ H hl q => par_of hp hq (by rw [hl]; exact lt_of_at hi) (by rw [hl]; exact lt_of_at hj) q
theorem par3_of {i j l : Nat} {fa fb fc : EM} {D : Ends} {σ : L2.St} {H : Hp} (hp : φ.pr i = false) (hq : φ.pr j = false) (hr : φ.pr l = false) (hi : i < σ.length) (hj : j < σ.length) (hl : l < σ.length) (h : TSof T W φ (parM3 i j l fa fb fc) D σ H) :
    tPar3 i j l (tCons (Tof T W (tlE T) fa) (tCons (Tof T W (tlE T) fb) (tCons (Tof T W (tlE T) fc) tNil))) D σ H := by
  obtain ⟨ρ, F, O, S, P⟩ := h
  refine sps .refl .refl S P fun v H1 r ρ1 F1 O1 x1 y1 S1 r1 P1 => ?_
  cases q1 : sv ρ1 r with
  | none => rw [q1] at P1; exact P1.elim
  | some z =>
    obtain ⟨r', ρ2⟩ := z
    rw [q1] at P1
    dsimp only at P1
    obtain ⟨F2, O2, y2, E2, r2, g2, sb2, _, n2⟩ := sv_ok y1 (fun _ h => h) S1.E r1 q1
    have S2 : StR T φ H1 F2 O2 σ ρ2 := ⟨E2, S1.lb, fun k b hk q => S1.lf k b hk (sb2 k b q)⟩
    refine sps y2 .refl S2 P1 fun u H3 s ρ3 F3 O3 x3 y3 S3 r3 P3 => ?_
    cases q3 : sv ρ3 s with
    | none => rw [q3] at P3; exact P3.elim
    | some z =>
      obtain ⟨s', ρ4⟩ := z
      rw [q3] at P3
      dsimp only at P3
      obtain ⟨F4, O4, y4, E4, r4, g4, sb4, nw4, n4⟩ := sv_ok y3 (fun b h => y1.live b h) S3.E r3 q3
      have S4 : StR T φ H3 F4 O4 σ ρ4 := ⟨E4, S3.lb, fun k b hk q => S3.lf k b hk (sb4 k b q)⟩
      have r5 : ResR T H H3 F4 O4 σ v r' := res_up g4 sb4 nw4 (ResR.mono E2 x3 r2)
      refine sps y4 .refl S4 P3 fun w H5 t ρ5 F5 O5 x5 y5 S5 r6 P5 => ?_
      cases q5 : sv ρ5 t with
      | none => rw [q5] at P5; exact P5.elim
      | some z =>
        obtain ⟨t', ρ6⟩ := z
        rw [q5] at P5
        obtain ⟨F6, O6, y6, E6, r7, g6, sb6, nw6, n6⟩ := sv_ok y5 (fun b h => y3.live b h) S5.E r6 q5
        have S6 : StR T φ H5 F6 O6 σ ρ6 := ⟨E6, S5.lb, fun k b hk q => S5.lf k b hk (sb6 k b q)⟩
        have r8 : ResR T H H5 F6 O6 σ v r' := res_up g6 sb6 nw6 (ResR.mono E4 x5 r5)
        have r9 : ResR T H1 H5 F6 O6 σ u s' := res_up g6 sb6 nw6 (ResR.mono E4 x5 r4)
        obtain ⟨s8, c8⟩ := res_slot r8 n2
        obtain ⟨s9, c9⟩ := res_slot r9 n4
        obtain ⟨s7, c7⟩ := res_slot r7 n6
        obtain ⟨_, c2⟩ := res_slot r2 n2
        obtain ⟨_, c4⟩ := res_slot r4 n4
        obtain ⟨_, c5⟩ := res_slot r5 n2
        obtain ⟨Oa, ya, Sa, wa⟩ := put_ok y6 S6 hi s8 fun a e => ⟨(c8 a e).1, (c8 a e).2.1, (c8 a e).2.2.1, S.lb a (c8 a e).2.2.1⟩
        have ne : ∀ a, resA u s' = some a → ∀ k, Oa k ≠ some a := fun a e k z => by
          rcases wa k a z with z | z
          · exact (c9 a e).2.1 k z
          · obtain ⟨o, ho⟩ := (c2 a z).2.2.2
            have := (c9 a e).2.2.1
            rw [ho] at this; cases this
        obtain ⟨Ob, yb, Sb, wb⟩ := put_ok ya Sa (by rw [List.length_set]; exact hj) s9 fun a e => ⟨(c9 a e).1, ne a e, y1.live a (c9 a e).2.2.1, S1.lb a (c9 a e).2.2.1⟩
        have ne2 : ∀ a, resA w t' = some a → ∀ k, Ob k ≠ some a := fun a e k z => by
          rcases wb k a z with z | z
          · rcases wa k a z with z | z
            · exact (c7 a e).2.1 k z
            · obtain ⟨o, ho⟩ := (c5 a z).2.2.2
              have := (c7 a e).2.2.1
              rw [ho] at this; cases this
          · obtain ⟨o, ho⟩ := (c4 a z).2.2.2
            have := (c7 a e).2.2.1
            rw [ho] at this; cases this
        obtain ⟨Oc, yc, Sc, _⟩ := put_ok yb Sb (by rw [List.length_set, List.length_set]; exact hl) s7 fun a e => ⟨(c7 a e).1, ne2 a e, y3.live a (c7 a e).2.2.1, S3.lb a (c7 a e).2.2.1⟩
        exact ⟨v, u, w, rfl, P5 _ H5 F6 Oc yc Sc ((Keeps.trans (.set hp) (.set hq)).trans (.set hr))⟩
theorem ss_par3 {st : Stmt} {i j l : Nat} {x y z : Str} {fa fb fc : EM} (hp : φ.pr i = false) (hq : φ.pr j = false) (hr : φ.pr l = false) (hi : X.N[i]? = some x) (hj : X.N[j]? = some y) (hl : X.N[l]? = some z)
    (h : PS X st (tPar3 i j l (tCons (Tof T W (tlE T) fa) (tCons (Tof T W (tlE T) fb) (tCons (Tof T W (tlE T) fc) tNil))))) : SS X T W φ st (parM3 i j l fa fb fc) :=
  ps_impL h fun D σ H e q => par3_of hp hq hr (by rw [e]; exact lt_of_at hi) (by rw [e]; exact lt_of_at hj) (by rw [e]; exact lt_of_at hl) q
/-- a, b = e -/
theorem ss_asgT {tg : Expr} {g : GM} (he : SE X T W e fe) (hg : SG X T φ.pr tg g) (hs : swapsWithSole [tg] e pos.line X.env = pure false := by rfl) (hw : swappedStores [tg] e X.env = pure none := by rfl) (h1 : (assignEach [tg] X.env).map (·.2) = [assign tg X.env] := by rfl) :
    SS X T W φ (.Assign [tg] e pos) (asgTM g fe) := by
  refine ps_imp (ps_asg he hg hs hw h1) fun D σ H ⟨ρ, F, O, S, P⟩ => ?_
  refine sps .refl .refl S P fun v H1 r ρ1 F1 O1 x1 y1 S1 r1 P1 => ?_
  cases q : frz ρ1 r with
  | none => rw [q] at P1; exact P1.elim
  | some z =>
    obtain ⟨d, ρ2⟩ := z
    rw [q] at P1
    dsimp only at P1
    obtain ⟨F2, O2, y2, E2, d2, _, sb, _⟩ := fz y1 (fun _ h => h) S1.E r1 q
    refine ⟨d, ρ2, F2, O2, E2, d2, ?_⟩
    cases q2 : g d ρ2 with
    | none => rw [q2] at P1; exact P1.elim
    | some ρ3 =>
      rw [q2] at P1
      exact fun σ3 O3 E3 k3 s3 => P1 σ3 H1 F2 O3 (y2.sub s3) ⟨E3, S1.lb, fun j b hj e => S1.lf j b hj (sb j b (s3 j b e))⟩ k3
/-- while -/
theorem wh_of {c : Rho → Option (Oe Bool)} {fb : SM} {D : Ends} {σ : L2.St} {H : Hp} (h : TSof T W φ (whM c fb) D σ H) : tWhile (Tof T W tlB c) (TSof T W φ fb) D σ H := by
  obtain ⟨ρ, F, O, S, P⟩ := h
  refine ⟨fun m σ' H' => ∃ ρ' F' O', Ext true H F O H' F' O' ∧ Keeps φ.pr σ σ' ∧ StR T φ H' F' O' σ' ρ' ∧ PostS T W φ σ H F O D (whL c fb m ρ'), ⟨fuelR ρ, ρ, F, O, .refl, .refl, S, P⟩, ?_⟩
  rintro m σ' H' ⟨ρ', F', O', x', k', S', P'⟩
  cases m with
  | zero => exact P'.elim
  | succ m =>
    refine sps x' k' S' P' fun v H1 b ρ1 F1 O1 x1 y1 S1 r1 P1 => ?_
    have r1' : v = b := r1
    subst r1'
    cases v with
    | false => rw [if_neg Bool.false_ne_true] at P1 ⊢; exact P1 σ' H1 F1 O1 y1 S1 k'
    | true =>
      rw [if_pos rfl] at P1 ⊢
      refine ⟨fun σ2 H2 => ∃ ρ' F' O', Ext true H F O H2 F' O' ∧ Keeps φ.pr σ σ2 ∧ StR T φ H2 F' O' σ2 ρ' ∧ PostS T W φ σ H F O D (whL c fb m ρ'), fun σ2 H2 z => ⟨m, Nat.lt_succ_self m, z⟩, ρ1, F1, O1, S1, ?_⟩
      cases q : fb ρ1 with
      | none => rw [q] at P1; exact P1
      | some o =>
        rw [q] at P1
        cases o with
        | nx ρ4 => exact fun σ4 H4 F4 O4 x4 S4 k4 => ⟨ρ4, F4, O4, y1.trans x4, k'.trans k4, S4, P1⟩
        | ct ρ4 => exact fun σ4 H4 F4 O4 x4 S4 k4 => ⟨ρ4, F4, O4, y1.trans x4, k'.trans k4, S4, P1⟩
        | bk ρ4 => exact fun σ4 H4 F4 O4 x4 S4 k4 => P1 σ4 H4 F4 O4 (y1.trans x4) S4 (k'.trans k4)
        | rt r ρ4 => exact fun v σ4 H4 F4 O4 x4 S4 k4 r4 => P1 v σ4 H4 F4 O4 (y1.trans x4) S4 (k'.trans k4) r4
        | er c fs ρ4 => exact fun cls d σ4 H4 F4 O4 x4 S4 k4 r4 => P1 cls d σ4 H4 F4 O4 (y1.trans x4) S4 (k'.trans k4) r4
theorem ss_while {ce : Expr} {body : List Stmt} {c : Rho → Option (Oe Bool)} {fb : SM} (hp : PassesOwn (model X.prog X.w) X.A X.env X.xe) (hc : ST X T W ce c) (hb : SB X T W φ body fb) : SS X T W φ (.While ce body [] pos) (whM c fb) :=
  ps_imp (ps_while hp hc hb) fun _ _ _ h => wh_of h
end
end DL

/-! D11: the built-ins on data. -/
namespace DL
open PySem L2 PyProof.Rows

/-! ### one thing to one thing -/
def lenD : PyData → Option R
  | .list ds => some (.dat (.int ds.length))
  | .tuple ds => some (.dat (.int ds.length))
  | .str x => if x.length ≤ lim then some (.dat (.int x.length)) else none
  | _ => none
def absD : PyData → Option R
  | .int i => some (.dat (.int (if i < 0 then -i else i)))
  | _ => none
def tupD : PyData → Option R
  | .list ds => some (.dat (.tuple ds))
  | .tuple ds => some (.dat (.tuple ds))
  | _ => none
def lstD : PyData → Option R
  | .list ds => some (.own (.list ds))
  | .tuple ds => some (.own (.list ds))
  | _ => none
def intD : PyData → Option R
  | .int i => some (.dat (.int i))
  | .bool b => some (.dat (.int (if b then 1 else 0)))
  | _ => none
def strD : PyData → Option R
  | .int i => if i.natAbs.log2 < 1920 then some (.dat (.str (toString i))) else none
  | _ => none
def max2D : PyData → PyData → Option R
  | .int i, .int j => some (.dat (.int (if j > i then j else i)))
  | _, _ => none
def min2D : PyData → PyData → Option R
  | .int i, .int j => some (.dat (.int (if j < i then j else i)))
  | _, _ => none
def intsOf : List PyData → Option (List Int)
  | [] => some []
  | .int i :: r => (intsOf r).map (i :: ·)
  | _ => none
def boolsOf : List PyData → Option (List Bool)
  | [] => some []
  | .bool i :: r => (boolsOf r).map (i :: ·)
  | _ => none
theorem intsOf_eq : ∀ {ds : List PyData} {ns : List Int}, intsOf ds = some ns → ds = ns.map PyData.int
  | [], _, h => by cases h; rfl
  | .int i :: r, _, h => by
    obtain ⟨ns, h1, rfl⟩ := Option.map_eq_some_iff.mp (show (intsOf r).map (i :: ·) = _ from h)
    rw [List.map_cons, ← intsOf_eq h1]
@[simp] theorem intsOf_map : ∀ ns : List Int, intsOf (ns.map PyData.int) = some ns
  | [] => rfl
  | i :: r => by show (intsOf (r.map PyData.int)).map (i :: ·) = _; rw [intsOf_map r]; rfl
theorem boolsOf_eq : ∀ {ds : List PyData} {ns : List Bool}, boolsOf ds = some ns → ds = ns.map PyData.bool
  | [], _, h => by cases h; rfl
  | .bool i :: r, _, h => by
    obtain ⟨ns, h1, rfl⟩ := Option.map_eq_some_iff.mp (show (boolsOf r).map (i :: ·) = _ from h)
    rw [List.map_cons, ← boolsOf_eq h1]
@[simp] theorem boolsOf_map : ∀ ns : List Bool, boolsOf (ns.map PyData.bool) = some ns
  | [] => rfl
  | i :: r => by show (boolsOf (r.map PyData.bool)).map (i :: ·) = _; rw [boolsOf_map r]; rfl
def sumD (d : PyData) : Option R := (itemsOf d).bind fun ds => (intsOf ds).map fun ns => .dat (.int ns.sum)
def allD : PyData → Option R
  | .list ds => (boolsOf ds).map fun bs => .dat (.bool (bs.all id))
  | _ => none
def anyD : PyData → Option R
  | .list ds => (boolsOf ds).map fun bs => .dat (.bool (bs.any id))
  | _ => none
/-- as functions of a list of arguments -/
def on1 (g : PyData → Option R) : List PyData → Option R
  | [d] => g d
  | _ => none
def on2 (g : PyData → PyData → Option R) : List PyData → Option R
  | [d, e] => g d e
  | _ => none

section
variable {T : Tb}
theorem does1_on {r : List V → Hp → VK → Prop} {g : PyData → Option R} (h : Does1 T (fun x => r [x]) g) : DoesN T r (on1 g) := by
  intro xs ds z H F Q lv hx hg hq
  unfold on1 at hg
  split at hg
  · cases hx with
    | cons a b => cases b; exact h _ _ z H F Q lv a hg hq
  · cases hg
theorem does2_on {r : List V → Hp → VK → Prop} {g : PyData → PyData → Option R} (h : Does2 T (fun x y => r [x, y]) g) : DoesN T r (on2 g) := by
  intro xs ds z H F Q lv hx hg hq
  unfold on2 at hg
  split at hg
  · cases hx with
    | cons a b => cases b with
      | cons a' b' => cases b'; exact h _ _ _ _ z H F Q lv a a' hg hq
  · cases hg
def rLen (K : PySem.W.Frag) : List V → Hp → VK → Prop := fun xs H Q => (∃ p ys, xs = [.ref p] ∧ (SqL K H p ys ∨ SqT K H p ys) ∧ Q (.int ys.length) H) ∨ ∃ z, xs = [.str z] ∧ z.length ≤ sizeLine ∧ Q (.int z.length) H
theorem call_lenX {X : Cx} : CallR X (.builtin "len") (rLen X.K) := call_len_seq.or call_len_str
theorem does_len : DoesN T (rLen T.K) (on1 lenD) := does1_on fun x d z H F Q lv hx hg hq => by
  unfold lenD at hg
  split at hg
  · cases hg
    obtain ⟨a, vs, rfl, h1, s1⟩ := hx.lst
    exact .inl ⟨a, vs, rfl, .inl h1.sq, hq _ H F .refl (by rw [s1.length]; exact .int _)⟩
  · cases hg
    obtain ⟨a, vs, rfl, h1, s1⟩ := hx.tup
    exact .inl ⟨a, vs, rfl, .inr h1, hq _ H F .refl (by rw [s1.length]; exact .int _)⟩
  · split at hg
    · rename_i hz
      cases hg
      exact .inr ⟨_, by rw [hx.str], lm hz, hq _ H F .refl (.int _)⟩
    · cases hg
  · cases hg
theorem does_abs : DoesN T (fun xs H Q => ∃ i, xs = [.int i] ∧ Q (.int (if i < 0 then -i else i)) H) (on1 absD) := does1_on fun x d z H F Q lv hx hg hq => by
  unfold absD at hg
  split at hg
  · cases hg
    exact ⟨_, by rw [hx.int], hq _ H F .refl (.int _)⟩
  · cases hg
theorem does_tuple : DoesN T (fun xs H Q => ∃ p ys, xs = [.ref p] ∧ ((SqL T.K H p ys ∧ ∀ l, H l = none → Q (.ref l) (upd H l (.tup ys))) ∨ (SqT T.K H p ys ∧ Q (.ref p) H))) (on1 tupD) := does1_on fun x d z H F Q lv hx hg hq => by
  unfold tupD at hg
  split at hg
  · cases hg
    obtain ⟨a, vs, rfl, h1, s1⟩ := hx.lst
    exact ⟨a, vs, rfl, .inl ⟨h1.sq, fun l hl => hq _ _ F (.laid hl) (resN_tup hl s1)⟩⟩
  · cases hg
    obtain ⟨a, vs, rfl, h1, s1⟩ := hx.tup
    exact ⟨a, vs, rfl, .inr ⟨h1, hq _ H F .refl (.tup h1 s1)⟩⟩
  · cases hg
theorem does_list : DoesN T (fun xs H Q => ∃ p ys, xs = [.ref p] ∧ (SqL T.K H p ys ∨ SqT T.K H p ys) ∧ ∀ l, H l = none → Q (.ref l) (upd H l (.lst ys))) (on1 lstD) := does1_on fun x d z H F Q lv hx hg hq => by
  unfold lstD at hg
  split at hg
  · cases hg
    obtain ⟨a, vs, rfl, h1, s1⟩ := hx.lst
    exact ⟨a, vs, rfl, .inl h1.sq, fun l hl => hq _ _ F (.laid hl) (resN_lst hl (fun q => lv l q hl) s1)⟩
  · cases hg
    obtain ⟨a, vs, rfl, h1, s1⟩ := hx.tup
    exact ⟨a, vs, rfl, .inr h1, fun l hl => hq _ _ F (.laid hl) (resN_lst hl (fun q => lv l q hl) s1)⟩
  · cases hg
theorem does_int : DoesN T (fun xs H Q => (∃ i, xs = [.int i] ∧ Q (.int i) H) ∨ ∃ k, xs = [.bl k] ∧ Q (.int (if k then 1 else 0)) H) (on1 intD) := does1_on fun x d z H F Q lv hx hg hq => by
  unfold intD at hg
  split at hg
  · cases hg
    exact .inl ⟨_, by rw [hx.int], hq _ H F .refl (.int _)⟩
  · cases hg
    exact .inr ⟨_, by rw [hx.bl], hq _ H F .refl (.int _)⟩
  · cases hg
theorem does_str : DoesN T (fun xs H Q => ∃ i, xs = [.int i] ∧ i.natAbs.log2 < 1920 ∧ Q (.str (toString i)) H) (on1 strD) := does1_on fun x d z H F Q lv hx hg hq => by
  unfold strD at hg
  split at hg
  · split at hg
    · rename_i hz
      cases hg
      exact ⟨_, by rw [hx.int], hz, hq _ H F .refl (.str _)⟩
    · cases hg
  · cases hg
theorem does_max2 : DoesN T (fun xs H Q => ∃ i j, xs = [.int i, .int j] ∧ Q (.int (if j > i then j else i)) H) (on2 max2D) := does2_on fun x y d e z H F Q lv hx hy hg hq => by
  unfold max2D at hg
  split at hg
  · cases hg
    exact ⟨_, _, by rw [hx.int, hy.int], hq _ H F .refl (.int _)⟩
  · cases hg
theorem does_min2 : DoesN T (fun xs H Q => ∃ i j, xs = [.int i, .int j] ∧ Q (.int (if j < i then j else i)) H) (on2 min2D) := does2_on fun x y d e z H F Q lv hx hy hg hq => by
  unfold min2D at hg
  split at hg
  · cases hg
    exact ⟨_, _, by rw [hx.int, hy.int], hq _ H F .refl (.int _)⟩
  · cases hg
theorem does_all : DoesN T (rAll T.K) (on1 allD) := does1_on fun x d z H F Q lv hx hg hq => by
  unfold allD at hg
  split at hg
  · obtain ⟨bs, h1, rfl⟩ := Option.map_eq_some_iff.mp hg
    obtain ⟨a, vs, rfl, h2, s1⟩ := hx.lst
    rw [boolsOf_eq h1] at s1
    exact ⟨a, bs, rfl, by rw [← s1.bools]; exact h2.sq, hq _ H F .refl (.bl _)⟩
  · cases hg
theorem does_any : DoesN T (rAny T.K) (on1 anyD) := does1_on fun x d z H F Q lv hx hg hq => by
  unfold anyD at hg
  split at hg
  · obtain ⟨bs, h1, rfl⟩ := Option.map_eq_some_iff.mp hg
    obtain ⟨a, vs, rfl, h2, s1⟩ := hx.lst
    rw [boolsOf_eq h1] at s1
    exact ⟨a, bs, rfl, by rw [← s1.bools]; exact h2.sq, hq _ H F .refl (.bl _)⟩
  · cases hg
end

/-! ### sum of a list or tuple -/
def rSumX (K : PySem.W.Frag) : List V → Hp → VK → Prop := fun vs H Q => ∃ (a : Addr) (ns : List Int), vs = [V.ref a] ∧ (SqL K H a (ns.map V.int) ∨ SqT K H a (ns.map V.int)) ∧ Q (.int ns.sum) H
theorem cr_sumT {X : Cx} (hc : X.calm = true) : CallR X (.builtin "sum") (fun vs H Q => ∃ (a : Addr) (ns : List Int), vs = [V.ref a] ∧ SqT X.K H a (ns.map V.int) ∧ Q (.int ns.sum) H) := by
  intro pins s σ H vs us Q I r h
  obtain ⟨a, ns, rfl, hs, q⟩ := h
  obtain ⟨its, rv, hl, _⟩ := I.tuple hs
  rw [Vals.ref1 r]
  obtain ⟨xs, e⟩ := rv.ints.allInts.items
  have hn : numsOf (intItems xs).toList = ns := by rw [← e]; exact rv.ints.numsOf
  rw [nums_intItems] at hn
  rw [e] at hl
  have hlt : a < s.heap.objs.size := hl.lt
  refine call_sum_walkG (wpAny_pyIter_tuple (show s.heap.IsTuple a (intItems xs) from hl) ?_)
  have hl2 : (s.heap.push { cls := .type "tuple_iterator", data := .fields #[.ref a, .int 0 0] }).IsTuple a (intItems xs) := by
    obtain ⟨o, h1, h2⟩ := (show s.heap.IsTuple a (intItems xs) from hl)
    exact ⟨o, Heap.get?_push_of_some _ h1, h2⟩
  refine ⟨s.heap.objs.size, _, _, _, _, _, numAt xs, rfl, Walks.tuple (A := X.A.in1) (I.ok.hd hc) _ a (Nat.ne_of_lt hlt) (intItems xs), ⟨⟨_, Heap.get?_push_size _ rfl, rfl, rfl⟩, hl2⟩, fun b hb => ?_, (fun _ _ => intItems_at), fun h' tk t' hk => ?_⟩
  · have hb' : b = s.heap.objs.size ∨ b = a := by simpa using hb
    show b < (s.heap.push _).objs.size
    rw [Heap.size_push]
    rcases hb' with z | z
    · rw [z]; exact Nat.lt_succ_self _
    · rw [z]; exact Nat.lt_succ_of_lt hlt
  · have e2 : preSum (numAt xs) (intItems xs).size = ns.sum := by
      rw [show (intItems xs).size = xs.size by simp [intItems], preSum_eq, List.take_of_length_le (by simp), hn]
    rw [e2]
    refine ⟨.int _, H, I.kept (t' := tk) fun b o e => ?_, ⟨_, rfl⟩, q⟩
    exact hk b o (by
      intro hb
      have hb' : b = s.heap.objs.size := by simpa using hb
      exact absurd (Heap.lt_size e) (by rw [hb']; exact Nat.lt_irrefl _)) (Heap.get?_push_of_some _ e)
theorem cr_sumX {X : Cx} (hc : X.calm = true) : CallR X (.builtin "sum") (rSumX X.K) := fun pins s σ H vs us Q I r h => by
  obtain ⟨a, ns, e, z | z, q⟩ := h
  · exact cr_sum hc pins s σ H vs us Q I r ⟨a, ns, e, z, q⟩
  · exact cr_sumT hc pins s σ H vs us Q I r ⟨a, ns, e, z, q⟩
theorem does_sum {T : Tb} : DoesN T (rSumX T.K) (on1 sumD) := does1_on fun x d z H F Q lv hx hg hq => by
  unfold sumD at hg
  cases d with
  | list ds =>
    obtain ⟨ns, h1, rfl⟩ := Option.map_eq_some_iff.mp (show (intsOf ds).map _ = _ from hg)
    obtain ⟨a, vs, rfl, h2, s1⟩ := hx.lst
    rw [intsOf_eq h1] at s1
    exact ⟨a, ns, rfl, .inl (by rw [← s1.ints]; exact h2.sq), hq _ H F .refl (.int _)⟩
  | tuple ds =>
    obtain ⟨ns, h1, rfl⟩ := Option.map_eq_some_iff.mp (show (intsOf ds).map _ = _ from hg)
    obtain ⟨a, vs, rfl, h2, s1⟩ := hx.tup
    rw [intsOf_eq h1] at s1
    exact ⟨a, ns, rfl, .inr (by rw [← s1.ints]; exact h2), hq _ H F .refl (.int _)⟩
  | none => cases hg
  | bool b => cases hg
  | int i => cases hg
  | str x => cases hg
  | dict xs => cases hg

/-! ### isinstance -/
def tyN : PyData → String
  | .none => "NoneType"
  | .bool _ => "bool"
  | .int _ => "int"
  | .str _ => "str"
  | .list _ => "list"
  | .tuple _ => "tuple"
  | .dict _ => "dict"
def isiD (c : String) (d : PyData) : Option R := (kitB (tyN d) c).map fun b => .dat (.bool b)
section
variable {T : Tb} {H : Hp} {F : Reg}
/-- a value's type, dicts known to the object too -/
def TyY (K : PySem.W.Frag) (H : Hp) (x : V) (t : Value) : Prop := TyX K H x t ∨ ∃ a o, x = .ref a ∧ H a = some (DTo a o) ∧ o.cls = .type "dict" ∧ t = .type "dict"
theorem kit_ofY {X : Cx} {pins : List (Addr × Obj)} {σ : L2.St} {s : Shared} {x : V} {u t : Value} (I : L2.Inv X pins σ H s) (rx : RelV x u) (ty : TyY X.K H x t) : ∃ P : Heap → Prop, PySem.W.KitX X.K u t P ∧ P s.heap ∧ u ≠ .builtin "__main__.__loader__#opaque" := by
  rcases ty with ty | ⟨a, o, rfl, ea, ec, rfl⟩
  · exact kit_of I rx ty
  · cases (show u = Value.ref a from rx)
    have h1 : s.heap.get? a = some o := (I.hok a _ ea).1
    exact ⟨_, PySem.W.kitx_dict, ⟨o, h1, ec⟩, fun z => nomatch z⟩
def rIsiY (K : PySem.W.Frag) : List V → Hp → VK → Prop := fun xs H Q => ∃ (x c : V) (t u : Value) (b : Bool), xs = [x, c] ∧ ClsV c u ∧ TyY K H x t ∧ PySem.W.kitOne K t u = some b ∧ Q (.bl b) H
theorem call_isiY {X : Cx} : CallR X (.builtin "isinstance") (rIsiY X.K) := by
  intro pins s σ H xs us Q I r h
  obtain ⟨x, c, t, u, b, rfl, k, ty, e, q⟩ := h
  obtain ⟨u1, u2, rfl, r1, r2⟩ := vals2 r
  have e2 := k.eq r2
  subst e2
  obtain ⟨P, Z, p, hx⟩ := kit_ofY I r1 ty
  exact PySem.W.kia_one Z I.kIn p e hx fun tk => ⟨.bl b, H, I.tok tk, rfl, q⟩
theorem Vw.tyX {v : V} {d : PyData} (h : Vw T H F v d) : TyY T.K H v (.type (tyN d)) := by
  rcases h with h | ⟨a, rfl, h⟩
  · cases h with
    | non => exact .inl <| .base .non
    | bl b => exact .inl <| .base (.bl b)
    | int i => exact .inl <| .base (.int i)
    | str x => exact .inl <| .base (.str x)
    | lst f r s =>
      rcases r with r | ⟨o, r⟩
      · exact .inl <| .base (.lst r)
      · exact .inl <| .base (.frz r)
    | lstK r s =>
      obtain ⟨its, n, h1, _⟩ := r
      exact .inl <| .kList h1 rfl
    | tup r s =>
      rcases r with (r | ⟨o, r⟩) | ⟨o, its, n, r1, r2, _⟩
      · exact .inl <| .base (.tup r)
      · exact .inl <| .fTuple r
      · exact .inl <| .kTuple r1 r2
    | dct f r s =>
      rcases r with r | ⟨o, r⟩
      · exact .inl <| .base (.dK r)
      · exact .inl <| .fDict r
    | dcT f r e s => exact .inr ⟨_, _, rfl, r, e.ex.1, rfl⟩
  · cases d with
    | list ds => obtain ⟨vs, e, _⟩ := h; exact .inl <| .base (.lst e)
    | dict ds =>
      rcases h with ⟨vs, e, _⟩ | ⟨o, vs, e, q, _⟩
      · exact .inl <| .base (.dK e)
      · exact .inr ⟨_, _, rfl, e, q.ex.1, rfl⟩
    | none => exact h.elim
    | bool b => exact h.elim
    | int i => exact h.elim
    | str x => exact h.elim
    | tuple xs => exact h.elim
end
section
variable {X : Cx} {T : Tb} {W : WX} {e : Expr} {fe : EM} {p p2 pos : Pos}
/-- isinstance(e, c), c a built-in class -/
theorem se_isi {c : String} {cx : Str} (hK : X.K = T.K) (hg : L2.Gl X "isinstance") (hm : X.mg "isinstance" = none) (hgc : L2.Gl X cx) (hmc : X.mg cx = none) (hvc : bootBuiltins cx = some (.type c)) (he : SE X T W e fe) (hn : cx ≠ "__name__" := by decide) (hdb : (cx == ("__debug__" : Str)) = false := by decide)
    (hs : starEach [e, .Name cx p2] X.env = (false, eval e X.env) :: starEach [.Name cx p2] X.env := by rfl) (hpl : (backTo pos (starEach [.Name cx p2] X.env)).any (·.1) = false := by rfl) :
    SE X T W (.Call (.Name "isinstance" p) [e, .Name cx p2] [] pos) (op1M (isiD c) fe) := by
  have ha : PA X [e, .Name cx p2] (tCons (Tof T W (tlE T) fe) (tCons (tC (.ty c)) tNil)) := pa_cons he (pa_cons (pe_bltn (v := .ty c) hgc hmc hvc rfl hn hdb) pa_nil) hs
  refine pe_imp (pe_callB call_isiY hg hm (by decide +kernel) ha (by decide) (by decide) hs hpl) fun σ H Q h => ?_
  have h2 := op1 (r := fun x H Q => rIsiY T.K [x, .ty c] H Q) (g := isiD c) (fun x d z H F Q lv hx hg hq => by
    obtain ⟨b, h1, rfl⟩ := Option.map_eq_some_iff.mp (show (kitB (tyN d) c).map _ = some z from hg)
    exact ⟨x, .ty c, .type (tyN d), .type c, b, rfl, .ty c, hx.tyX, kit_ty h1, hq _ H F .refl (.bl _)⟩) h
  rw [hK]
  exact h2
end
end DL

/-! D12: repr, slices, displays of dicts, lists repeated. -/
namespace DL
open PySem L2 PyProof.Rows

/-! ### data are read by the machine -/
section
variable {X : Cx} {pins : List (Addr × Obj)} {σ : L2.St} {H : Hp} {s : Shared} {F : Reg}
theorem ne_sys (I : L2.Inv X pins σ H s) (sm : X.base.get? sysModules ≠ none) {a : Addr} (h : H a ≠ none) : a ≠ sysModules := fun e => by
  subst e
  cases q : X.base.get? sysModules with
  | none => exact sm q
  | some o => exact h (I.bs _ _ q).2
theorem rd_there {a : Addr} {u : HO} (r : Rd H a u) : H a ≠ none := by
  rcases r with r | ⟨o, r⟩ <;> rw [r] <;> simp
/-- the object of a dict to be read -/
theorem rd_dict (I : L2.Inv X pins σ H s) {a : Addr} {ks : List (Key × V)} (r : Rd H a (.dK ks)) : ∃ vs o es ep, KV ks vs ∧ s.heap.get? a = some o ∧ o.cls = .type "dict" ∧ o.data = .dict es ep ∧ Pairs (mixKind X.prog X.w) es.toList vs := by
  rcases r with r | ⟨ob, r⟩
  · obtain ⟨_, _, vs, r1, o, es, ep, h1, h2, h3, _, h5, _⟩ := I.hok a _ r
    exact ⟨vs, o, es, ep, r1, h1, h2.1, h3, h5⟩
  · obtain ⟨_, _, _, vs, r1, o, es, ep, h1, h2, h3, _, h5, _⟩ := I.hok a _ r
    exact ⟨vs, o, es, ep, r1, h1, h2.1, h3, h5⟩
theorem key_reads {h : Heap} {k : Key} {u : Value} (r : L2.RelV (kV k) u) : Reads h u (kD k) [] := by
  cases k with
  | inl i => obtain ⟨t, rfl⟩ := r; exact .int i t
  | inr x => obtain ⟨t, rfl⟩ := r; exact .str x t
theorem keys_reads {h : Heap} : ∀ {k : List Int} {us : List Value}, Vals (k.map V.int) us → ReadsAll h us (k.map PyData.int) []
  | [], _, .nil => .nil
  | _ :: _, _, .cons r t => by obtain ⟨z, rfl⟩ := r; exact .cons (as := []) (bs := []) (.int _ z) (keys_reads t)
theorem tkey_reads (I : L2.Inv X pins σ H s) {q : Addr} {k : List Int} (e : SqT X.K H q (k.map V.int)) : Reads s.heap (.ref q) (kT k) [] := by
  obtain ⟨its, rv, ⟨o, e, c, n, dd⟩, _⟩ := I.tuple e
  exact .tuple e c dd (by simpa using keys_reads rv)
mutual
theorem DF.reads (I : L2.Inv X pins σ H s) (sm : X.base.get? sysModules ≠ none) : ∀ {v : V} {d : PyData} {u : Value}, DF X.K H F v d → L2.RelV v u → ∃ as, Reads s.heap u d as ∧ sysModules ∉ as
  | _, _, _, .non, r => by cases r; exact ⟨[], .none, by simp⟩
  | _, _, _, .bl b, r => by cases r; exact ⟨[], .bool b, by simp⟩
  | _, _, _, .int i, r => by obtain ⟨t, rfl⟩ := r; exact ⟨[], .int i t, by simp⟩
  | _, _, _, .str x, r => by obtain ⟨t, rfl⟩ := r; exact ⟨[], .str x t, by simp⟩
  | _, _, _, .lst f l q, r => by
    cases r
    obtain ⟨its, n, rv, e, _⟩ := isL_of I (.inl l)
    obtain ⟨as, h1, h2⟩ := DFs.reads I sm q rv
    exact ⟨_, .list e rfl rfl (by simpa using h1), by simp only [List.mem_cons, not_or]; exact ⟨Ne.symm (ne_sys I sm (rd_there l)), h2⟩⟩
  | _, _, _, .lstK l q, r => by
    cases r
    obtain ⟨its, n, rv, e, _⟩ := isL_of I (.inr l)
    obtain ⟨as, h1, h2⟩ := DFs.reads I sm q rv
    obtain ⟨_, _, _, _, _, ne⟩ := l
    exact ⟨_, .list e rfl rfl (by simpa using h1), by simp only [List.mem_cons, not_or]; exact ⟨Ne.symm ne, h2⟩⟩
  | _, _, _, .tup l q, r => by
    cases r
    obtain ⟨its, rv, ⟨o, e, c, n, dd⟩, _⟩ := I.tuple l
    obtain ⟨as, h1, h2⟩ := DFs.reads I sm q rv
    exact ⟨_, .tuple e c dd (by simpa using h1), h2⟩
  | _, _, _, .dct f l q, r => by
    cases r
    obtain ⟨vs, o, es, ep, r1, e, c, dd, pp⟩ := rd_dict I l
    obtain ⟨as, bs, h1, h2, h3, h4⟩ := DFk.reads I sm q r1 pp
    exact ⟨_, .dict e c dd h1 h2, by simp only [List.cons_append, List.mem_cons, List.mem_append, not_or]; exact ⟨Ne.symm (ne_sys I sm (rd_there l)), h3, h4⟩⟩
  | _, _, _, @DF.dcT _ _ _ a o xs ds f l e q, r => by
    cases r
    obtain ⟨es, ep, dd, pp⟩ := e.es
    obtain ⟨as, bs, h1, h2, h3, h4⟩ := DFt.reads I sm q
    rw [← pp] at h1 h2
    exact ⟨_, .dict (I.hok a _ l).1 e.ex.1 dd h1 h2, by simp only [List.cons_append, List.mem_cons, List.mem_append, not_or]; exact ⟨fun z => by have := e.sm; rw [← z] at this; simp at this, h3, h4⟩⟩
theorem DFs.reads (I : L2.Inv X pins σ H s) (sm : X.base.get? sysModules ≠ none) : ∀ {vs : List V} {ds : List PyData} {us : List Value}, DFs X.K H F vs ds → Vals vs us → ∃ as, ReadsAll s.heap us ds as ∧ sysModules ∉ as
  | _, _, _, .nil, r => by cases r; exact ⟨[], .nil, by simp⟩
  | _, _, _, .cons a b, r => by
    cases r with
    | cons r1 r2 =>
      obtain ⟨as, h1, h2⟩ := DF.reads I sm a r1
      obtain ⟨bs, h3, h4⟩ := DFs.reads I sm b r2
      exact ⟨_, .cons h1 h3, by simp only [List.mem_append, not_or]; exact ⟨h2, h4⟩⟩
theorem DFk.reads (I : L2.Inv X pins σ H s) (sm : X.base.get? sysModules ≠ none) : ∀ {ks : List (Key × V)} {ds : List (PyData × PyData)} {vs : List (Key × Value)} {es : List DictEntry}, DFk X.K H F ks ds → KV ks vs → Pairs (mixKind X.prog X.w) es vs →
    ∃ as bs, ReadsAll s.heap (es.map (·.key)) (ds.map (·.1)) as ∧ ReadsAll s.heap (es.map (·.val)) (ds.map (·.2)) bs ∧ sysModules ∉ as ∧ sysModules ∉ bs
  | _, _, _, _, .nil, r, p => by cases r; cases p; exact ⟨[], [], .nil, .nil, by simp, by simp⟩
  | _, _, _, _, @DFk.cons _ _ _ k v d ks ds a b, r, p => by
    cases r with
    | @cons _ kv _ vs r1 r2 =>
      cases p with
      | @cons e _ es _ p1 p2 p3 =>
        obtain ⟨as, h1, h2⟩ := DF.reads I sm a r1.2
        obtain ⟨cs, es', h3, h4, h5, h6⟩ := DFk.reads I sm b r2 p3
        have hk : Reads s.heap e.key (kD k) [] := by
          have hkk : k = kv.1 := r1.1
          rcases keyIs_shape (show keyIs _ _ = true from p1) with ⟨i, t, e1, e2⟩ | ⟨x, t, e1, e2⟩
          · rw [e2, hkk, e1]; exact .int i t
          · rw [e2, hkk, e1]; exact .str x t
        refine ⟨_, _, .cons hk h3, .cons (p2 ▸ h1) h4, by simpa using h5, by simp only [List.mem_append, not_or]; exact ⟨h2, h6⟩⟩
theorem DFt.reads (I : L2.Inv X pins σ H s) (sm : X.base.get? sysModules ≠ none) : ∀ {xs : List Ent} {ds : List (PyData × PyData)}, DFt X.K H F xs ds →
    ∃ as bs, ReadsAll s.heap ((xs.map (entryOfKey (tupleKind (mixKind X.prog X.w)))).map (·.key)) (ds.map (·.1)) as ∧ ReadsAll s.heap ((xs.map (entryOfKey (tupleKind (mixKind X.prog X.w)))).map (·.val)) (ds.map (·.2)) bs ∧ sysModules ∉ as ∧ sysModules ∉ bs
  | _, _, .nil => ⟨[], [], .nil, .nil, by simp, by simp⟩
  | _, _, .cons q r a b => by
    obtain ⟨as, h1, h2⟩ := DF.reads I sm a r
    obtain ⟨cs, es', h3, h4, h5, h6⟩ := DFt.reads I sm b
    exact ⟨_, _, .cons (tkey_reads I q) h3, .cons h1 h4, by simpa using h5, by simp only [List.mem_append, not_or]; exact ⟨h2, h6⟩⟩
end
theorem Vw.reads {T : Tb} {v : V} {d : PyData} {u : Value} (hK : X.K = T.K) (I : L2.Inv X pins σ H s) (sm : X.base.get? sysModules ≠ none) (h : Vw T H F v d) (r : L2.RelV v u) : ∃ as, Reads s.heap u d as ∧ sysModules ∉ as := by
  rcases h with h | ⟨a, rfl, h⟩
  · rw [← hK] at h
    exact h.reads I sm r
  · cases d with
    | list ds =>
      obtain ⟨vs, e, q⟩ := h
      rw [← hK] at q
      exact DF.reads (F := fun b => F b ∨ b = a) I sm (.lst (.inr rfl) (.inl e) (q.mono .refl fun _ h => .inl h)) r
    | dict ds =>
      rcases h with ⟨vs, e, q⟩ | ⟨o, vs, e, x, q⟩
      · rw [← hK] at q
        exact DF.reads (F := fun b => F b ∨ b = a) I sm (.dct (.inr rfl) (.inl e) (q.mono .refl fun _ h => .inl h)) r
      · rw [← hK] at q
        exact DF.reads (F := fun b => F b ∨ b = a) I sm (.dcT (.inr rfl) e x (q.mono .refl fun _ h => .inl h)) r
    | none => exact h.elim
    | bool b => exact h.elim
    | int i => exact h.elim
    | str x => exact h.elim
    | tuple xs => exact h.elim
end

/-! ### repr -/
def reprOk (d : PyData) : Bool := d.showable && decide (d.shown.length ≤ lim) && decide (d.depth ≤ 60)
def reprD (d : PyData) : Option R := if reprOk d = true then some (.dat (.str d.shown)) else none
def rRepr (X : Cx) (T : Tb) : List V → Hp → VK → Prop := fun vs H Q => ∃ v d F, vs = [v] ∧ Vw T H F v d ∧ reprOk d = true ∧ Q (.str d.shown) H
theorem call_reprX {X : Cx} {T : Tb} {W : WX} {n : Nat} (c : Cxt X T W n) : CallR X (.builtin "repr") (rRepr X T) := by
  intro pins s σ H vs us Q I r h
  obtain ⟨v, d, F, rfl, hv, ok, q⟩ := h
  obtain ⟨u, rfl, ru⟩ := vals1 r
  unfold reprOk at ok
  simp only [Bool.and_eq_true, decide_eq_true_eq] at ok
  obtain ⟨⟨o1, o2⟩, o3⟩ := ok
  obtain ⟨as, rd, ns⟩ := hv.reads c.hK I c.sm ru
  have big : ∀ a, u = .ref a → wpAny (model X.prog X.w) X.A (call (.builtin "repr") [u]) (EP X pins σ Q) X.xe s := fun a e => by
    subst e
    refine PySem.repr_of_reads' rd o1 (fun _ => ns) c.gd (by have := c.room.units; omega) (fun _ _ h => h) (fun h' t tk hk => ?_) (lm o2)
    exact ⟨.str _, H, I.kept hk, ⟨_, rfl⟩, q⟩
  cases rd with
  | none => exact PySem.P.repr_of_none ⟨.str _, H, I.tok _, ⟨_, rfl⟩, by rw [show ("None" : Str) = PyData.shown .none by simp [PyData.shown]]; exact q⟩
  | bool b => exact PySem.P.repr_of_bool ⟨.str _, H, I.tok _, ⟨_, rfl⟩, by rw [show (if b then ("True" : Str) else "False") = PyData.shown (.bool b) by simp [PyData.shown]]; exact q⟩
  | int i t => exact PySem.P.repr_of_int (by simpa [PyData.showable] using o1) ⟨.str _, H, I.tok _, ⟨_, rfl⟩, by rw [show (toString i : Str) = PyData.shown (.int i) by simp [PyData.shown]]; exact q⟩
  | str x t => exact PySem.P.repr_of_str ⟨.str _, H, I.tok _, ⟨_, rfl⟩, by rw [show reprText x = PyData.shown (.str x) by simp [PyData.shown]]; exact q⟩ (by have := lm o2; simpa [PyData.shown] using this)
  | list a b c d => exact big _ rfl
  | tuple a b c d => exact big _ rfl
  | dict a b c d e => exact big _ rfl
theorem does_repr {X : Cx} {T : Tb} : DoesN T (rRepr X T) (on1 reprD) := does1_on fun x d z H F Q lv hx hg hq => by
  unfold reprD at hg
  split at hg
  · rename_i hz
    cases hg
    exact ⟨x, d, F, rfl, hx, hz, hq _ H F .refl (.str _)⟩
  · cases hg

/-! ### slices -/
def cutD (xs : List PyData) (lo hi : Option Int) : List PyData := (xs.drop (HT.sIx xs.length 0 lo)).take (HT.sIx xs.length xs.length hi - HT.sIx xs.length 0 lo)
def slD (d : PyData) (lo hi : Option Int) : Option R := match d with
  | .list ds => some (.own (.list (cutD ds lo hi)))
  | .tuple ds => some (.dat (.tuple (cutD ds lo hi)))
  | .str x => if x.length ≤ lim then some (.dat (.str (cutS x lo hi))) else none
  | _ => none
/-- a part of a slice -/
def ptM (o : Option EM) : Rho → Option (Oe (Option Int)) := fun ρ => match o with
  | none => some (.ok none ρ)
  | some f => bindO (f ρ) fun r ρ1 => match r with
    | .dat (.int i) => some (.ok (some i) ρ1)
    | _ => none
def slM (fe : EM) (lo hi : Option EM) : EM := fun ρ => bindO (fe ρ) fun r ρ1 => bindO (ptM lo ρ1) fun a ρ2 => bindO (ptM hi ρ2) fun b ρ3 => match val ρ3 r with
  | some d => (slD d a b).map fun z => .ok z ρ3
  | none => none
def tlO : Tell (Option Int) (Option Int) := fun _ _ _ _ _ b c => b = c
def SO (X : Cx) (T : Tb) (W : WX) (e : Option Expr) (f : Option EM) : Prop := PO X e (Tof T W tlO (ptM f))
section
variable {X : Cx} {T : Tb} {W : WX} {e : Expr} {f fe : EM} {lo hi : Option Expr} {flo fhi : Option EM} {p2 pos : Pos}
theorem po_imp {e : Option Expr} {t t' : TO} (h : PO X e t) (i : ∀ σ H Q, t' σ H Q → t σ H Q) : PO X e t' := ⟨fun pins s σ H Q I q => h.run pins s σ H Q I (i σ H Q q)⟩
theorem so_none : SO X T W none none := po_imp po_none fun σ H Q ⟨ρ, F, O, E, P⟩ => P none H F O .refl E rfl
theorem so_some (h : SE X T W e f) : SO X T W (some e) (some f) := po_imp (po_some h) fun σ H Q ⟨ρ, F, O, E, P⟩ => by
  refine stp .refl E P fun v H1 r ρ1 F1 O1 x1 y1 E1 r1 P1 => ?_
  split at P1
  · exact ⟨_, int_of r1, P1 _ H1 F1 O1 y1 E1 rfl⟩
  · exact P1.elim
def rSlX (K : PySem.W.Frag) : V → Option Int → Option Int → Hp → VK → Prop := fun x lo hi H Q => rSlL K x lo hi H Q ∨ (rSlA K x lo hi H Q ∨ rSlS x lo hi H Q)
theorem sl_X : SlR X (rSlX X.K) := sl_list.or (sl_tupA.or sl_str)
theorem cut_dfs {K : PySem.W.Frag} {H : Hp} {F : Reg} {vs : List V} {ds : List PyData} (s : DFs K H F vs ds) (lo hi : Option Int) : DFs K H F (cutV vs lo hi) (cutD ds lo hi) := by
  unfold cutV cutD
  rw [s.length]
  exact (s.drop _).take _
theorem cut_all {xs : List PyData} {lo hi : Option Int} (h : HT.sIx xs.length 0 lo = 0 ∧ HT.sIx xs.length xs.length hi = xs.length) : cutD xs lo hi = xs := by
  unfold cutD
  rw [h.1, h.2]
  simp
theorem se_slice (hK : X.K = T.K) (he : SE X T W e fe) (hl : SO X T W lo flo) (hh : SO X T W hi fhi) : SE X T W (.Subscript e (.Slice lo hi none p2) pos) (slM fe flo fhi) := by
  refine pe_imp (pe_slice sl_X he hl hh) fun σ H Q ⟨ρ, F, O, E, P⟩ => ?_
  rw [hK]
  refine stp .refl E P fun v H1 r ρ1 F1 O1 x1 y1 E1 r1 P1 => ?_
  refine stp y1 E1 P1 fun a H2 a' ρ2 F2 O2 x2 y2 E2 r2 P2 => ?_
  refine stp y2 E2 P2 fun b H3 b' ρ3 F3 O3 x3 y3 E3 r3 P3 => ?_
  have e2 : a = a' := r2
  have e3 : b = b' := r3
  subst e2 e3
  have r1' : ResR T H H3 F3 O3 σ v r := ResR.mono E2 x3 (ResR.mono E1 x2 r1)
  cases q : val ρ3 r with
  | none => rw [q] at P3; exact P3.elim
  | some d =>
    rw [q] at P3
    dsimp only at P3
    have hv := val_vw E3 r1' q
    cases d with
    | list ds =>
      obtain ⟨l, vs, rfl, h1, s1⟩ := hv.lst
      exact .inl ⟨l, vs, rfl, h1.sq, fun p hp => fin_op y3 E3 P3 (.laid hp) (resN_lst hp (fun q => E3.lv p q hp) (cut_dfs s1 a b))⟩
    | tuple ds =>
      obtain ⟨l, vs, rfl, h1, s1⟩ := hv.tup
      refine .inr (.inl ⟨l, vs, rfl, h1, fun z => ?_, fun _ p hp => fin_op y3 E3 P3 (.laid hp) (resN_tup hp (cut_dfs s1 a b))⟩)
      rw [s1.length] at z
      exact fin_op y3 E3 P3 .refl (show DF T.K H3 F3 (.ref l) (.tuple (cutD ds a b)) from by rw [cut_all z]; exact .tup h1 s1)
    | str x =>
      have P4 : Post T W (tlE T) σ H F O Q ((if x.length ≤ lim then some (R.dat (.str (cutS x a b))) else none).map fun z => Oe.ok z ρ3) := P3
      split at P4
      · rename_i hz
        exact .inr (.inr ⟨x, hv.str, lm hz, fin_op y3 E3 P4 .refl (.str _)⟩)
      · exact P4.elim
    | none => exact P3.elim
    | bool b => exact P3.elim
    | int i => exact P3.elim
    | dict xs => exact P3.elim
end
end DL

/-! D13: the end of a law. -/
namespace DL
open PySem L2 PyProof.Rows

/-- the defs that make lambdas: their code objects and tables, as the top has left them -/
structure TabsAt (K : PySem.W.Frag) (h : Heap) (mg : Str → Option Value) (cs : List (Addr × Addr)) : Prop where
  tab : ∀ p ∈ cs, h.get? p.2 = some { cls := .none, data := .fields #[] }
  out : ∀ p ∈ cs, K.lookup p.2 = none
  code : ∀ p ∈ cs, PySem.W.CodeHd h p.1 p.2
  bm : ∃ (bm : Addr) (ob : Obj), mg "__builtins__" = some (.ref bm) ∧ bm ≠ builtinsNs ∧ h.get? bm = some ob ∧ ob.cls = .type "module" ∧ ob.dict = some builtinsNs ∧ ob.data = .plain
def isTab (cs : List (Addr × Addr)) (b : Addr) : Prop := ∃ p ∈ cs, p.2 = b
instance (cs : List (Addr × Addr)) (b : Addr) : Decidable (isTab cs b) := by unfold isTab; infer_instance
section
variable {K : PySem.W.Frag} {h : Heap} {mg : Str → Option Value} {cs : List (Addr × Addr)}
theorem TabsAt.at (t : TabsAt K h mg cs) {b : Addr} (e : isTab cs b) : h.get? b = some { cls := .none, data := .fields #[] } := by
  obtain ⟨p, hp, rfl⟩ := e
  exact t.tab p hp
theorem TabsAt.not (t : TabsAt K h mg cs) {b : Addr} {o : Obj} (e : h.get? b = some o) (n : o.data ≠ .fields #[]) : ¬ isTab cs b := fun z => by
  rw [t.at z] at e
  cases e
  exact n rfl
/-- the tables over the base that hides what is tracked -/
theorem TabsAt.base (t : TabsAt K h mg cs) (ns : h.Ns mainGlobals mg) {g : Heap} (gt : ∀ b o, h.get? b = some o → ¬ isTab cs b → (∀ us n, o.data ≠ .seq us n) → g.get? b = some o) : ∀ p ∈ cs, LamX.TabB g mg p.1 p.2 := fun p hp => by
  have hp2 := t.tab p hp
  refine ⟨?_, ?_, fun z => ?_⟩
  · obtain ⟨o, us, file, tf, flags, tg, inF, text, tt, e1, r1, r2, r⟩ := t.code p hp
    refine ⟨o, us, file, tf, flags, tg, inF, text, tt, gt _ _ e1 (t.not e1 fun z => ?_) (fun vs n z => ?_), r1, r2, r⟩
    · rw [r2] at z
      cases z
      simp at r
    · rw [r2] at z
      cases z
  · obtain ⟨b, ob, b1, b2, b3, b4, b5, b6⟩ := t.bm
    refine ⟨b, ob, b1, b2, fun q => ?_, fun q => ?_, gt _ _ b3 (t.not b3 fun z => by rw [b6] at z; cases z) (fun vs n z => by rw [b6] at z; cases z), b4, b5, b6⟩
    · obtain ⟨o, es, ep, e, hd, _⟩ := ns
      rw [q, e] at b3
      cases b3
      rw [hd] at b6
      cases b6
    · rw [q, hp2] at b3
      cases b3
      cases b6
  · obtain ⟨o, es, ep, e, hd, _⟩ := ns
    rw [z, hp2] at e
    cases e
    cases hd
end
/-- the law's call at the heap that the top has left: from the law's promise at every base -/
theorem law_g {P : Program} {w : World} {T : Tb} {mg mb : Str → Option Value} {k : Nat} {fa a : Addr} {fd : FuncData} {x : Str} {sem : Sem} {s1 : Shared} {vs : List Value} {ns : List Int} {cs : List (Addr × Addr)} (KX : T.K.In s1.heap) (gl : s1.heap.Ns mainGlobals mg) (bl : s1.heap.Ns builtinsNs mb)
    (bb : ∀ x : Str, x ≠ "__name__" → mb x = bootBuiltins x) (nl : s1.heap.NoLimit) (sy : ∃ mm, s1.heap.Ns sysModules mm) (gn : s1.gens = #[]) (ha : s1.heap.get? a = some { cls := .type "list", data := .seq vs.toArray }) (hi : IntsAre vs ns) (hl : ns.length ≤ lim) (hr : Room k callerA)
    (tc : TabsAt T.K s1.heap mg cs) (htb : ∀ q ∈ T.tb, isTab cs q.1)
    (G : ∀ base : Heap, T.K.In base → base.Ns mainGlobals mg → base.get? sysModules ≠ none → (∀ p ∈ cs, LamX.TabB base mg p.1 p.2) → FnG P w T.K mg base k fa fd [x] (spOf T 1 sem)) (hb : ∀ (s : Shared) (u : Value), BindsTo s fd ⟨[u], []⟩ [(x, u)])
    (hs : ∃ os, sem [.dat (.list (ns.map .int))] = some (.ok (.dat (.bool true)) os)) :
    codeAny (model P w) callerA (.call (.ref fa) ⟨[.ref a], []⟩) (fun r s' => r = .ok (.ret (.bool true)) ∧ OldK s1.heap s'.heap ∧ s'.os = s1.os ∧ AllBare s'.gens) s1 := by
  have rv := vals_ints hi
  have aT : ¬ isTab cs a := tc.not ha fun z => by cases z
  have nds : ∀ {b : Addr} {m : Str → Option Value}, s1.heap.Ns b m → b ≠ a := fun {b m} ⟨o, es, ep, e, dd, _⟩ z => by
    subst z
    rw [ha] at e
    cases e
    exact absurd dd (by intro q; cases q)
  have ndt : ∀ {b : Addr} {m : Str → Option Value}, s1.heap.Ns b m → ¬ isTab cs b := fun {b m} ⟨o, es, ep, e, dd, _⟩ => tc.not e fun z => by rw [dd] at z; cases z
  obtain ⟨mm, sy⟩ := sy
  -- over any abstract heap that tracks the tables and at most the script
  have core : ∀ (H : Hp) (F : Reg), (∀ b, H b ≠ none → ¬ isTab cs b → b = a ∧ T.K.lookup a = none ∧ ∃ o xs, H b = some (.frz o (.lst xs))) → (∀ b, isTab cs b → H b = some (.tbl #[])) → HOk P w H s1.heap → (∀ b, F b → H b ≠ none) → DF T.K H F (.ref a) (.list (ns.map .int)) →
      codeAny (model P w) callerA (.call (.ref fa) ⟨[.ref a], []⟩) (fun r s' => r = .ok (.ret (.bool true)) ∧ OldK s1.heap s'.heap ∧ s'.os = s1.os ∧ AllBare s'.gens) s1 := by
    intro H F hH hT hok hF dd
    have free : ∀ {b : Addr}, b ≠ a → ¬ isTab cs b → H b = none := fun {b} n nt => by
      cases q : H b with
      | none => rfl
      | some o => exact absurd (hH b (by rw [q]; simp) nt).1 n
    have ns' : ∀ {b : Addr} {m : Str → Option Value}, s1.heap.Ns b m → (hidT s1.heap H).Ns b m := fun {b m} z => by
      have n := nds z
      have n2 := ndt z
      obtain ⟨o, es, ep, e, r⟩ := z
      exact ⟨o, es, ep, hidT_get e (free n n2), r⟩
    have kb : T.K.In (hidT s1.heap H) := fun b o e => hidT_get (KX b o e) (by
      cases q : H b with
      | none => rfl
      | some u =>
        by_cases ht : isTab cs b
        · obtain ⟨p, hp, rfl⟩ := ht
          rw [tc.out p hp] at e; cases e
        · obtain ⟨rfl, z, _⟩ := hH b (by rw [q]; simp) ht
          rw [z] at e; cases e)
    have md : Mod T.K mg (hidT s1.heap H) := ⟨kb, ns' gl, ⟨mb, ns' bl, bb⟩, by
      obtain ⟨mc, h1, h2⟩ := nl
      exact ⟨mc, ns' h1, h2⟩⟩
    have sm : (hidT s1.heap H).get? sysModules ≠ none := by
      obtain ⟨o, es, ep, e, _⟩ := ns' sy
      rw [e]; simp
    have tB : ∀ p ∈ cs, LamX.TabB (hidT s1.heap H) mg p.1 p.2 := tc.base gl fun b o e nt nsq => hidT_get e (free (fun z => by rw [z, ha] at e; cases e; exact nsq _ _ rfl) nt)
    have e0 : Env0 P w T.K mg (hidT s1.heap H) callerA [] s1 H := ⟨rfl, md, fun b o e => of_hidT e, Nat.le_of_eq (hidT_size _ _), trivial, fun b z => absurd (show b ∈ ([] : List Addr) from z) (by simp), hok, .of_eq gn⟩
    obtain ⟨os, hs⟩ := hs
    have sp : spOf T 1 sem [.ref a] H (fun v _ => v = .bl true) (fun _ _ _ => False) := by
      refine ⟨[.dat (.list (ns.map .int))], F, fun _ => none, rfl, ⟨rfl, fun i r e => ?_, (fun _ _ q => nomatch q), (fun _ _ _ q => nomatch q), (fun _ _ q => nomatch q), hF, fun q hq => .nil (hT _ (htb q hq))⟩, ?_⟩
      · cases i with
        | zero => simp at e; subst e; exact ⟨.ref a, rfl, rfl, dd⟩
        | succ i => simp at e
      · rw [hs]
        exact fun v H' F' O' _ _ r => bl_of r
    refine codeAny_mono ((G _ kb (ns' gl) sm tB).run callerA [] s1 H ⟨[.ref a], []⟩ [.ref a] [.ref a] _ _ rfl hr e0 (hb s1 (.ref a)) (.cons rfl .nil) sp) ?_
    intro r s' h
    cases r with
    | error e =>
      obtain ⟨_, _, _, _, _, _, _, _, _, _, _, _, z⟩ := h
      exact z.elim
    | ok fl =>
      cases fl with
      | next => exact h.elim
      | brk => exact h.elim
      | cont => exact h.elim
      | ret u =>
        obtain ⟨v, H', os', bare, un, hok', rr, qv⟩ := h
        subst qv
        obtain rfl : u = Value.bool true := rr
        have kp : ∀ b o, ¬ isTab cs b → s1.heap.get? b = some o → s'.heap.get? b = some o := fun b o nt e => by
          by_cases n : H b = none
          · exact un.keep b o e n (by intro z; exact absurd (show b ∈ ([] : List Addr) from z) (by simp)) (by simp)
          · obtain ⟨_, _, ob, xs, z⟩ := hH b n nt
            obtain ⟨e1, _⟩ := hok b _ z
            obtain ⟨e2, _⟩ := hok' b _ (un.frzs b ob _ z)
            rw [e] at e1
            cases e1
            exact e2
        have gw : ∀ b, isTab cs b → ∃ us : Array Value, s'.heap.get? b = some { cls := .none, data := .fields us } := fun b ht => by
          obtain ⟨us, z⟩ := un.tbls b #[] (hT b ht)
          exact ⟨_, hok' b _ z⟩
        refine ⟨rfl, ⟨fun b o e => ?_, fun b o e => ?_⟩, os', bare⟩
        · by_cases ht : isTab cs b
          · obtain ⟨us, hu⟩ := gw b ht
            have e' := e
            rw [tc.at ht] at e'
            cases e'
            obtain ⟨p, hp, rfl⟩ := ht
            exact .inr (.inl ⟨((tc.code p hp).tab (tc.tab p hp)).isCodeTable, rfl, #[], us, rfl, by simpa using hu⟩)
          · exact .inl (kp b o ht e)
        · by_cases ht : isTab cs b
          · obtain ⟨us, hu⟩ := gw b ht
            exact ⟨_, hu⟩
          · exact ⟨o, kp b o ht e⟩
  have lv := hi.length
  cases hk : T.K.lookup a with
  | some o =>
    have e := KX a o hk
    rw [ha] at e
    cases e
    refine core (fun b => if isTab cs b then some (.tbl #[]) else none) (fun _ => False) (fun b z nt => absurd (if_neg nt) z) (fun b ht => if_pos ht) (fun b u z => ?_) (fun _ z => z.elim) (.lstK ⟨vs.toArray, _, hk, ?_, by simpa using rv, ?_⟩ (DFs.of_ints ns))
    · by_cases ht : isTab cs b
      · have z' := (if_pos ht).symm.trans z
        cases z'
        exact tc.at ht
      · have z' := (if_neg ht).symm.trans z
        cases z'
    · rw [List.size_toArray, lv]
      exact lm hl
    · exact Ne.symm (nds sy)
  | none =>
    have h1 : (fun b => if b = a then some (HO.frz { cls := .type "list", data := .seq vs.toArray } (.lst (ns.map V.int))) else if isTab cs b then some (.tbl #[]) else none : Hp) a = some (.frz { cls := .type "list", data := .seq vs.toArray } (.lst (ns.map V.int))) := if_pos rfl
    refine core (fun b => if b = a then some (.frz { cls := .type "list", data := .seq vs.toArray } (.lst (ns.map V.int))) else if isTab cs b then some (.tbl #[]) else none) (fun b => b = a) (fun b z nt => ?_) (fun b ht => ?_) (fun b u z => ?_) (fun b z => ?_) (.lst rfl (.inr ⟨_, h1⟩) (DFs.of_ints ns))
    · by_cases e : b = a
      · subst e
        exact ⟨rfl, hk, _, _, h1⟩
      · exact absurd ((if_neg e).trans (if_neg nt)) z
    · exact (if_neg (show ¬ b = a from fun z => aT (z ▸ ht))).trans (if_pos ht)
    · by_cases e : b = a
      · subst e
        have z' := h1.symm.trans z
        cases z'
        exact ⟨ha, by rw [List.length_map]; exact lm hl, vs, _, rv, ha⟩
      · by_cases ht : isTab cs b
        · have z' := ((if_neg e).trans (if_pos ht)).symm.trans z
          cases z'
          exact tc.at ht
        · have z' := ((if_neg e).trans (if_neg ht)).symm.trans z
          cases z'
    · rw [z, if_pos rfl]
      simp
/-- the goal that the head leaves; ts: the tables of the defs that make lambdas -/
theorem walk_g {l : PySem.W.OpenLaw} {n k : Nat} {q : Program} {loose : List Str} {XP : (Str → Option Value) → Heap → Prop} {YP : World → Heap → Prop} {d : DefRec} {K : Params → PySem.W.Frag} {x : Str} (ts : List Addr) (hn : l.most = some n) (hn2 : n ≤ lim) (hdf : d.params.defaults = []) (hr : Room k callerA) (him : importsNone q = true)
    (hY : ∀ (w : World) (h : Heap), YP w h → (K w.params).In h) (hYT : ∀ (w : World) (h : Heap), YP w h → ∀ P ∈ ts, h.get? P = some (PySem.W.tabObj #[]))
    (F : ∀ (w : World) (mg : Str → Option Value) (fa : Addr) (h : Heap), (K w.params).In h → h.Ns mainGlobals mg → mg d.name = some (.ref fa) → ∃ (fd : FuncData) (T : Tb) (sem : Sem) (tn : List (Addr × Addr)), T.K = K w.params ∧ T.w = w ∧ (∀ (s : Shared) (u : Value), BindsTo s fd ⟨[u], []⟩ [(x, u)]) ∧
      ((∀ t ∈ tn, PySem.W.codeHdIn T.K t.1 t.2 = true ∧ t.2 ∈ ts ∧ T.K.lookup t.2 = none) ∧ ∀ q ∈ T.tb, isTab tn q.1) ∧
      (∀ base : Heap, T.K.In base → base.Ns mainGlobals mg → base.get? sysModules ≠ none → (∀ t ∈ tn, LamX.TabB base mg t.1 t.2) → FnG l.prog w T.K mg base k fa fd [x] (spOf T 1 sem)) ∧ ∀ ns : List Int, ns.length ≤ n → ∃ os, sem [.dat (.list (ns.map .int))] = some (.ok (.dat (.bool true)) os)) :
    PySem.W.WalkO q loose XP YP l.row.toRowW d [] (fun f vs => PySem.call f vs) := by
  refine Att.attach_call hn hdf ?_
  intro w s0 s1 mg mb fa o pm cd doc a vs ns G Y ho hd hcd hmg hobj hints hlen hg
  have kx := hY w _ Y
  have ky := hYT w _ Y
  obtain ⟨fd, T, sem, tn, e1, e2, hb, ⟨ht, htb⟩, hF, hS⟩ := F w mg fa _ kx G.T.g hmg
  rw [← e1] at kx
  obtain ⟨mm, hm, _⟩ := (G.T.seer him).mods
  have tc : TabsAt T.K s1.heap mg tn := ⟨fun p hp => ky _ (ht p hp).2.1, fun p hp => (ht p hp).2.2, fun p hp => PySem.W.codeHd_of_K kx (ht p hp).1, G.T.bmain⟩
  exact law_g kx G.T.g G.T.b G.T.builtins G.T.nolimit ⟨mm, hm⟩ hg hobj hints (Nat.le_trans hlen hn2) hr tc htb hF hb (hS ns hlen)
end DL

/-! D14: the place of a piece in the text, by facts that the kernel reckons. -/
namespace DL
open PySem L2 PyProof.Rows

/-- the names by slot and the scope -/
structure At (X : Cx) (N : List Str) (sc : Scope) : Prop where
  hN : X.N = N
  hs : X.env.scope = sc
def visB (sc : Scope) (x : Str) : Bool := match sc.names.lookup x with
  | some .local => true
  | some .cell => true
  | some .free => true
  | _ => false
def locB (sc : Scope) (x : Str) : Bool := match sc.names.lookup x with
  | some .local => true
  | some .cell => true
  | _ => false
def lclB (sc : Scope) (x : Str) : Bool := match sc.names.lookup x with
  | some .local => true
  | _ => false
def glB (sc : Scope) (x : Str) : Bool := match sc.names.lookup x with
  | some .globalImplicit => true
  | _ => false
theorem visB_ok {sc : Scope} {x : Str} (h : visB sc x = true) : Vis sc x := by
  unfold visB at h
  split at h
  · exact .inl (by assumption)
  · exact .inr (.inl (by assumption))
  · exact .inr (.inr (by assumption))
  · cases h
theorem locB_ok {sc : Scope} {x : Str} (h : locB sc x = true) : Loc sc x := by
  unfold locB at h
  split at h
  · exact .inl (by assumption)
  · exact .inr (by assumption)
  · cases h
theorem lclB_ok {sc : Scope} {x : Str} (h : lclB sc x = true) : sc.names.lookup x = some .local := by
  unfold lclB at h
  split at h
  · assumption
  · cases h
theorem glB_ok {sc : Scope} {x : Str} (h : glB sc x = true) : sc.names.lookup x = some .globalImplicit := by
  unfold glB at h
  split at h
  · assumption
  · cases h
/-- a slot's name is seen -/
def nmB (N : List Str) (sc : Scope) (i : Nat) (x : Str) : Bool := decide (N[i]? = some x) && visB sc x && !(x == ("__debug__" : Str)) && !(x == ("__classdict__" : Str))
def tgB (N : List Str) (sc : Scope) (i : Nat) (x : Str) : Bool := decide (N[i]? = some x) && locB sc x
def gnB (sc : Scope) (x : Str) : Bool := glB sc x && !(x == ("__debug__" : Str)) && !decide (x = "__name__")

section
variable {X : Cx} {T : Tb} {W : WX} {N : List Str} {sc : Scope} {φ : Fm} {pos p : Pos} {x : Str} {i : Nat}
theorem At.gl (a : At X N sc) (h : gnB sc x = true) : L2.Gl X x ∧ (x == ("__debug__" : Str)) = false ∧ x ≠ "__name__" := by
  unfold gnB at h
  simp only [Bool.and_eq_true, Bool.not_eq_true', decide_eq_false_iff_not] at h
  refine ⟨?_, h.1.2, h.2⟩
  show X.env.scope.names.lookup x = _
  rw [a.hs]
  exact glB_ok h.1.1
theorem se_n (a : At X N sc) (i : Nat) (h : nmB N sc i x = true) : SE X T W (.Name x pos) (nmM i) := by
  unfold nmB at h
  simp only [Bool.and_eq_true, decide_eq_true_eq, Bool.not_eq_true'] at h
  exact se_nm i (by rw [a.hN]; exact h.1.1.1) (by rw [a.hs]; exact visB_ok h.1.1.2) h.1.2 h.2
theorem pe_n (a : At X N sc) (i : Nat) (h : nmB N sc i x = true) : PE X (.Name x pos) (tVar i) := by
  unfold nmB at h
  simp only [Bool.and_eq_true, decide_eq_true_eq, Bool.not_eq_true'] at h
  exact pe_var (by rw [a.hN]; exact h.1.1.1) (by rw [a.hs]; exact visB_ok h.1.1.2) h.1.2 h.2
theorem sg_n {pr : Nat → Bool} (a : At X N sc) (nd : X.N.Nodup) (fn : X.fn x = true ∨ sc.names.lookup x = some .local) (i : Nat) (h : tgB N sc i x = true) (hp : pr i = false) : SG X T pr (.Name x pos) (gnM i) := by
  unfold tgB at h
  simp only [Bool.and_eq_true, decide_eq_true_eq] at h
  exact sg_nm hp nd (by rw [a.hN]; exact h.1) (by rw [a.hs]; exact locB_ok h.2) (by rw [a.hs]; exact fn)
theorem ss_a {e : Expr} {fe : EM} {pos' : Pos} (a : At X N sc) (nd : X.N.Nodup) (fn : ∀ x, X.fn x = true) (i : Nat) (h : tgB N sc i x = true) (hp : φ.pr i = false) (he : SE X T W e fe) (hs : swapsWith e (some (.Name x pos')) pos.line X.env = pure false := by rfl) : SS X T W φ (.Assign [.Name x pos'] e pos) (asgM i fe) := by
  unfold tgB at h
  simp only [Bool.and_eq_true, decide_eq_true_eq] at h
  exact ss_asg hp nd (by rw [a.hN]; exact h.1) (by rw [a.hs]; exact locB_ok h.2) he hs (.inl (fn x))
/-- the block of a comprehension -/
theorem At.blk (a : At X N sc) (s : Shared) (H : Hp) (scope : Scope) (cl : List (Str × Addr)) (C : Addr) (fp : List Addr) : At (X.blk s H scope (compEnvC scope cl C X.env) fp) N (relS scope sc) := by
  refine ⟨a.hN, ?_⟩
  show relabel scope X.env = _
  rw [← a.hs]
  rfl
theorem At.blkOk {scope : Scope} {own : List (Str × Nat)} (a : At X N sc) (h : blkC N sc scope own = true) : BlkOk X.N X.env.scope scope own := by
  rw [a.hN, a.hs]
  exact blkOk_by h
/-- y = [..]: a local's name -/
theorem At.sw {elt : Expr} {gs : List Comprehension} {scope : Scope} {py : Pos} {y : Str} {l : Nat} (a : At X N sc) (hk : X.env.scope.kind = .function) (h : (lclB sc y && (py.line == pos.line) && !(scope.names.any fun (n, k) => n == y && (k == .local || k == .cell))) = true) :
    swapsWith (.ListComp elt gs scope pos) (some (.Name y py)) l X.env = pure true := by
  simp only [Bool.and_eq_true, Bool.not_eq_true'] at h
  exact sw_true hk (by rw [a.hs]; exact lclB_ok h.1.1) h.1.2 h.2
theorem ss_aLc {elt tg iter : Expr} {ifs : List Expr} {scope : Scope} {own : List (Str × Nat)} {it : IM} {g : GM} {c : Rho → Option (Oe Bool)} {f : EM} {y : Str} {py spos : Pos} (a : At X N sc) (hk : X.env.scope.kind = .function) (nd : X.N.Nodup) (hc : X.calm = true) (i : Nat) (h : tgB N sc i y = true) (hp : φ.pr i = false)
    (hw : (lclB sc y && (py.line == pos.line) && !(scope.names.any fun (n, k) => n == y && (k == .local || k == .cell))) = true) (hi : SI X T W tg iter it) (ok : blkC N sc scope own = true)
    (hg : ∀ (s : Shared) (H : Hp) (C : Addr) (cl : List (Str × Addr)) (fp : List Addr), SG (X.blk s H scope (compEnvC scope cl C X.env) fp) T (prB (own.map (·.2))) tg g)
    (ht : ∀ (s : Shared) (H : Hp) (C : Addr) (cl : List (Str × Addr)) (fp : List Addr), STs (X.blk s H scope (compEnvC scope cl C X.env) fp) T ifs c)
    (he : ∀ (s : Shared) (H : Hp) (C : Addr) (cl : List (Str × Addr)) (fp : List Addr), SE (X.blk s H scope (compEnvC scope cl C X.env) fp) T W0 elt f) (hs : ∀ x, foldedSetIterable iter X.env x = pure x := by intro _; rfl) :
    SS X T W φ (.Assign [.Name y py] (.ListComp elt [⟨tg, iter, ifs, 0⟩] scope pos) spos) (asgM i (lcM it g (own.map (·.2)) c f)) := by
  have hw' := hw
  simp only [Bool.and_eq_true, Bool.not_eq_true'] at hw'
  unfold tgB at h
  simp only [Bool.and_eq_true, decide_eq_true_eq] at h
  exact ss_asgLc hp hc nd (by rw [a.hN]; exact h.1) (by rw [a.hs]; exact lclB_ok hw'.1.1) (a.sw hk hw) hi (a.blkOk ok) hg ht he hs
/-- a built-in by its name -/
theorem se_b {id : String} {r : List V → Hp → VK → Prop} {g : List PyData → Option R} {f : AM} {e : Expr} {es : List Expr} (a : At X N sc) (hx : gnB sc x = true) (hc : CallR X (.builtin id) r) (dr : DoesN T r g) (hm : X.mg x = none) (hv : bootBuiltins x = some (.builtin id)) (ha : SA X T W (e :: es) f)
    (he : starEach (e :: es) X.env = (false, eval e X.env) :: starEach es X.env := by rfl) (hpl : (backTo pos (starEach es X.env)).any (·.1) = false := by rfl) :
    SE X T W (.Call (.Name x p) (e :: es) [] pos) (opnM g f) := se_callB hc dr (a.gl hx).1 hm hv ha (a.gl hx).2.2 (a.gl hx).2.1 he hpl
theorem se_t {id : String} {r : List V → Hp → VK → Prop} {g : List PyData → Option R} {f : AM} {e : Expr} {es : List Expr} (a : At X N sc) (hx : gnB sc x = true) (hc : CallR X (.type id) r) (dr : DoesN T r g) (hm : X.mg x = none) (hv : bootBuiltins x = some (.type id)) (ha : SA X T W (e :: es) f)
    (he : starEach (e :: es) X.env = (false, eval e X.env) :: starEach es X.env := by rfl) (hpl : (backTo pos (starEach es X.env)).any (·.1) = false := by rfl) :
    SE X T W (.Call (.Name x p) (e :: es) [] pos) (opnM g f) := se_callTy hc dr (a.gl hx).1 hm hv ha (a.gl hx).2.2 (a.gl hx).2.1 he hpl
theorem se_f {k n m : Nat} {sem : Sem} {f : AM} {e : Expr} {es : List Expr} (a : At X N sc) (hx : gnB sc x = true) (c : Cxt X T W m) (h : FnE X.prog X.w X.mg X.base T x k n sem) (hl : ∀ args o, sem args = some o → args.length = n) (hk : k ≤ m) (ha : SA X T W (e :: es) f)
    (he : starEach (e :: es) X.env = (false, eval e X.env) :: starEach es X.env := by rfl) (hpl : (backTo pos (starEach es X.env)).any (·.1) = false := by rfl) : SE X T W (.Call (.Name x p) (e :: es) [] pos) (callM sem f) :=
  se_call h c hk (a.gl hx).1 ha hl (a.gl hx).2.1 he hpl
theorem se_g {v : V} {d : PyData} (a : At X N sc) (hx : gnB sc x = true) (h : ∃ u v, X.mg x = some u ∧ L2.RelV v u ∧ ∀ H F, DF T.K H F v d) : SE X T W (.Name x pos) (cM d) := by
  obtain ⟨u, v, h1, h2, h3⟩ := h
  exact se_glob (a.gl hx).1 h1 h2 h3 (a.gl hx).2.1
theorem se_is {c : String} {cx : Str} {e : Expr} {fe : EM} {p2 : Pos} (a : At X N sc) (hK : X.K = T.K) (h1 : gnB sc "isinstance" = true) (hm : X.mg "isinstance" = none) (h2 : gnB sc cx = true) (hmc : X.mg cx = none) (hvc : bootBuiltins cx = some (.type c)) (he : SE X T W e fe)
    (hs : starEach [e, .Name cx p2] X.env = (false, eval e X.env) :: starEach [.Name cx p2] X.env := by rfl) (hpl : (backTo pos (starEach [.Name cx p2] X.env)).any (·.1) = false := by rfl) :
    SE X T W (.Call (.Name "isinstance" p) [e, .Name cx p2] [] pos) (op1M (isiD c) fe) := se_isi hK (a.gl h1).1 hm (a.gl h2).1 hmc hvc he (a.gl h2).2.2 (a.gl h2).2.1 hs hpl
/-- a, b = e, f: two local names -/
theorem swap2 {ea eb : Expr} {y : Str} {px py pt : Pos} {kt k2 : Nat} {pt2 : Pos} (a : At X N sc) (hk : X.env.scope.kind = .function) (h : (lclB sc x && lclB sc y && !(x == y) && (py.line == px.line)) = true)
    (h1 : ([ea, eb].any fun | .Starred .. => true | _ => false) = false := by rfl) (h2 : [ea, eb].all (foldedForSure 8) = false := by rfl) (h3 : [ea, eb].all (constantsAlone 8) = false := by rfl) :
    swappedStores [.Tuple [.Name x px, .Name y py] kt pt] (.Tuple [ea, eb] k2 pt2) X.env = pure (some [x, y]) := by
  simp only [Bool.and_eq_true, Bool.not_eq_true', beq_iff_eq] at h
  obtain ⟨⟨⟨hx, hy⟩, hxy⟩, hl⟩ := h
  have kx : X.env.kindOf x = some .local := by show X.env.scope.names.lookup x = _; rw [a.hs]; exact lclB_ok hx
  have ky : X.env.kindOf y = some .local := by show X.env.scope.names.lookup y = _; rw [a.hs]; exact lclB_ok hy
  have bk : X.env.blockKind = .function := by unfold Env.blockKind; rw [hk]; rfl
  have hne : (y == x) = false := by
    have : x ≠ y := by simpa using hxy
    simpa using Ne.symm this
  unfold swappedStores
  simp [kx, ky, bk, hl, h1, h2, h3, Expr.pos, List.eraseDups_cons, hne, hxy]
  intro h
  simp only [List.any_cons, List.any_nil, Bool.or_false, Bool.or_eq_false_iff] at h1
  rcases h with h | h
  · cases ea <;> first | exact absurd h Bool.false_ne_true | exact absurd h1.1.symm Bool.false_ne_true
  · cases eb <;> first | exact absurd h Bool.false_ne_true | exact absurd h1.2.symm Bool.false_ne_true
theorem swap3 {ea eb ec : Expr} {y z : Str} {px py pz pt : Pos} {kt k2 : Nat} {pt2 : Pos} (a : At X N sc) (hk : X.env.scope.kind = .function) (h : (lclB sc x && lclB sc y && lclB sc z && !(x == y) && !(x == z) && !(y == z) && (py.line == px.line) && (pz.line == px.line)) = true)
    (h1 : ([ea, eb, ec].any fun | .Starred .. => true | _ => false) = false := by rfl) (h2 : [ea, eb, ec].all (foldedForSure 8) = false := by rfl) (h3 : [ea, eb, ec].all (constantsAlone 8) = false := by rfl) :
    swappedStores [.Tuple [.Name x px, .Name y py, .Name z pz] kt pt] (.Tuple [ea, eb, ec] k2 pt2) X.env = pure (some [x, y, z]) := by
  simp only [Bool.and_eq_true, Bool.not_eq_true', beq_iff_eq] at h
  obtain ⟨⟨⟨⟨⟨⟨⟨hx, hy⟩, hz⟩, hxy⟩, hxz⟩, hyz⟩, hl⟩, hl2⟩ := h
  have kx : X.env.kindOf x = some .local := by show X.env.scope.names.lookup x = _; rw [a.hs]; exact lclB_ok hx
  have ky : X.env.kindOf y = some .local := by show X.env.scope.names.lookup y = _; rw [a.hs]; exact lclB_ok hy
  have kz : X.env.kindOf z = some .local := by show X.env.scope.names.lookup z = _; rw [a.hs]; exact lclB_ok hz
  have bk : X.env.blockKind = .function := by unfold Env.blockKind; rw [hk]; rfl
  have sw : ∀ {u v : Str}, (u == v) = false → (v == u) = false := fun {u v} q => by
    have : u ≠ v := by simpa using q
    simpa using Ne.symm this
  unfold swappedStores
  simp [kx, ky, kz, bk, hl, hl2, h1, h2, h3, Expr.pos, List.eraseDups_cons, sw hxy, sw hxz, sw hyz, hxy, hxz, hyz]
  intro h
  simp only [List.any_cons, List.any_nil, Bool.or_false, Bool.or_eq_false_iff] at h1
  rcases h with h | h | h
  · cases ea <;> first | exact absurd h Bool.false_ne_true | exact absurd h1.1.symm Bool.false_ne_true
  · cases eb <;> first | exact absurd h Bool.false_ne_true | exact absurd h1.2.1.symm Bool.false_ne_true
  · cases ec <;> first | exact absurd h Bool.false_ne_true | exact absurd h1.2.2.symm Bool.false_ne_true
theorem ss_p2 {ea eb : Expr} {fa fb : EM} {y : Str} {px py pt : Pos} {kt k2 : Nat} {pt2 : Pos} (a : At X N sc) (hk : X.env.scope.kind = .function) (nd : X.N.Nodup) (hc : X.calm = true) (i j : Nat) (hi : decide (N[i]? = some x) = true) (hj : decide (N[j]? = some y) = true) (hij : i ≠ j) (hp : φ.pr i = false) (hq : φ.pr j = false)
    (h : (lclB sc x && lclB sc y && !(x == y) && (py.line == px.line)) = true) (ha : SE X T W ea fa) (hb : SE X T W eb fb) (hs : starEach [ea, eb] X.env = (false, eval ea X.env) :: starEach [eb] X.env := by rfl) (hs2 : starEach [eb] X.env = (false, eval eb X.env) :: starEach [] X.env := by rfl)
    (h1 : ([ea, eb].any fun | .Starred .. => true | _ => false) = false := by rfl) (h2 : [ea, eb].all (foldedForSure 8) = false := by rfl) (h3 : [ea, eb].all (constantsAlone 8) = false := by rfl)
    (hw : swapsWithSole [.Tuple [.Name x px, .Name y py] kt pt] (.Tuple [ea, eb] k2 pt2) pos.line X.env = pure false := by rfl) :
    SS X T W φ (.Assign [.Tuple [.Name x px, .Name y py] kt pt] (.Tuple [ea, eb] k2 pt2) pos) (parM i j fa fb) := by
  have h' := h
  simp only [Bool.and_eq_true, Bool.not_eq_true', beq_iff_eq] at h'
  have gi : X.N[i]? = some x := by rw [a.hN]; exact of_decide_eq_true hi
  have gj : X.N[j]? = some y := by rw [a.hN]; exact of_decide_eq_true hj
  exact ss_par hp hq gi gj (ps_par hc nd gi gj hij (by rw [a.hs]; exact lclB_ok h'.1.1.1) (by rw [a.hs]; exact lclB_ok h'.1.1.2) (pa_cons ha (pa_cons hb pa_nil hs2) hs) (swap2 a hk h h1 h2 h3) hw)
theorem ss_p3 {ea eb ec : Expr} {fa fb fc : EM} {y z : Str} {px py pz pt : Pos} {kt k2 : Nat} {pt2 : Pos} (a : At X N sc) (hk : X.env.scope.kind = .function) (nd : X.N.Nodup) (hc : X.calm = true) (i j l : Nat) (hi : decide (N[i]? = some x) = true) (hj : decide (N[j]? = some y) = true) (hl : decide (N[l]? = some z) = true) (hij : i ≠ j) (hil : i ≠ l) (hjl : j ≠ l) (hp : φ.pr i = false) (hq : φ.pr j = false) (hr : φ.pr l = false)
    (h : (lclB sc x && lclB sc y && lclB sc z && !(x == y) && !(x == z) && !(y == z) && (py.line == px.line) && (pz.line == px.line)) = true) (ha : SE X T W ea fa) (hb : SE X T W eb fb) (hcc : SE X T W ec fc) (hs : starEach [ea, eb, ec] X.env = (false, eval ea X.env) :: starEach [eb, ec] X.env := by rfl) (hs2 : starEach [eb, ec] X.env = (false, eval eb X.env) :: starEach [ec] X.env := by rfl) (hs3 : starEach [ec] X.env = (false, eval ec X.env) :: starEach [] X.env := by rfl)
    (h1 : ([ea, eb, ec].any fun | .Starred .. => true | _ => false) = false := by rfl) (h2 : [ea, eb, ec].all (foldedForSure 8) = false := by rfl) (h3 : [ea, eb, ec].all (constantsAlone 8) = false := by rfl)
    (hw : swapsWithSole [.Tuple [.Name x px, .Name y py, .Name z pz] kt pt] (.Tuple [ea, eb, ec] k2 pt2) pos.line X.env = pure false := by rfl) :
    SS X T W φ (.Assign [.Tuple [.Name x px, .Name y py, .Name z pz] kt pt] (.Tuple [ea, eb, ec] k2 pt2) pos) (parM3 i j l fa fb fc) := by
  have h' := h
  simp only [Bool.and_eq_true, Bool.not_eq_true', beq_iff_eq] at h'
  have gi : X.N[i]? = some x := by rw [a.hN]; exact of_decide_eq_true hi
  have gj : X.N[j]? = some y := by rw [a.hN]; exact of_decide_eq_true hj
  have gl : X.N[l]? = some z := by rw [a.hN]; exact of_decide_eq_true hl
  exact ss_par3 hp hq hr gi gj gl (ps_par3 hc nd gi gj gl hij hil hjl (by rw [a.hs]; exact lclB_ok h'.1.1.1.1.1.1.1) (by rw [a.hs]; exact lclB_ok h'.1.1.1.1.1.1.2) (by rw [a.hs]; exact lclB_ok h'.1.1.1.1.1.2) (pa_cons ha (pa_cons hb (pa_cons hcc pa_nil hs3) hs2) hs) (swap3 a hk h h1 h2 h3) hw)
end
/-- a def of the text, with its promise -/
theorem fn_e {T : Tb} {P : Program} {w : World} {mg : Str → Option Value} {base : Heap} {k n : Nat} {x qual : Str} {st : Stmt} {f : Addr} {fd : FuncData} {N ps : List Str} {pr : Nat → Bool} {m : SM} (G : Fun T.K x qual st f fd) (S : FnScope N ps (defScope st)) (hn : ps.length = n) (hmg : mg x = some (.ref f)) (hb : Binds T.K fd ps [])
    (hw : w = T.w) (hsm : base.get? sysModules ≠ none)
    (body : ∀ (X : Cx) (W : WX) (H : Hp), X.prog = P → X.w = w → X.mg = mg → X.base = base → At X N (defScope st) → X.env.scope.kind = .function → (∀ x, X.fn x = true) → Cxt X T W k → SB X T W ⟨H, n, pr⟩ (defBody st) m) :
    FnE P w mg base T x (k + 1) n (runD n N.length pr m) :=
  ⟨f, fd, ps, hmg, G.kp, hb, hn, fn_g G S hn rfl hw hsm fun X W H h1 h2 _ h4 h5 h6 h7 h8 h9 c => body X W H h1 h2 h4 h5 ⟨h6, h7⟩ h8 (fun x => by rw [h9]) c⟩
end DL

/-! D15: the rules in the form that a program prints. -/
namespace DL
open PySem L2 PyProof.Rows
section
variable {X : Cx} {T : Tb} {W : WX} {n : Nat} {N : List Str} {sc : Scope} {a b d e : Expr} {fa fb fd fe : EM} {pos p : Pos}
theorem e_add (c : Cxt X T W n) (ha : SE X T W a fa) (hb : SE X T W b fb) : SE X T W (.BinOp a .Add b pos) (op2M dPlus fa fb) := se_op (c.hK ▸ op_plus) does_plus ha hb
theorem e_sub (c : Cxt X T W n) (ha : SE X T W a fa) (hb : SE X T W b fb) : SE X T W (.BinOp a .Sub b pos) (op2M dMinus fa fb) := se_op op_sub does_minus ha hb
theorem e_mul (c : Cxt X T W n) (ha : SE X T W a fa) (hb : SE X T W b fb) : SE X T W (.BinOp a .Mult b pos) (op2M dMul fa fb) := se_op (c.hK ▸ op_mulX) does_mul ha hb
theorem e_fd (c : Cxt X T W n) (ha : SE X T W a fa) (hb : SE X T W b fb) : SE X T W (.BinOp a .FloorDiv b pos) (op2M dFd fa fb) := se_op op_fd does_fd ha hb
theorem e_mod (c : Cxt X T W n) (ha : SE X T W a fa) (hb : SE X T W b fb) : SE X T W (.BinOp a .Mod b pos) (op2M dMod fa fb) := se_op op_modN does_mod ha hb
theorem e_pow (c : Cxt X T W n) (ha : SE X T W a fa) (hb : SE X T W b fb) : SE X T W (.BinOp a .Pow b pos) (op2M dPow fa fb) := se_op op_pow does_pow ha hb
theorem e_neg (c : Cxt X T W n) (ha : SE X T W a fa) : SE X T W (.UnaryOp .USub a pos) (op1M dNeg fa) := se_un un_neg does_neg ha
/-! comparisons: op, rule, what it does -/
theorem e_lt (c : Cxt X T W n) (ha : SE X T W a fa) (hb : SE X T W b fb) : SE X T W (.Compare a [.Lt] [b] pos) (op2M dLt fa fb) := se_cmp op_lt does_lt ha hb (nomark _)
theorem e_le (c : Cxt X T W n) (ha : SE X T W a fa) (hb : SE X T W b fb) : SE X T W (.Compare a [.LtE] [b] pos) (op2M dLe fa fb) := se_cmp op_le does_le ha hb (nomark _)
theorem e_gt (c : Cxt X T W n) (ha : SE X T W a fa) (hb : SE X T W b fb) : SE X T W (.Compare a [.Gt] [b] pos) (op2M dGt fa fb) := se_cmp op_gt does_gt ha hb (nomark _)
theorem e_ge (c : Cxt X T W n) (ha : SE X T W a fa) (hb : SE X T W b fb) : SE X T W (.Compare a [.GtE] [b] pos) (op2M dGe fa fb) := se_cmp op_ge does_ge ha hb (nomark _)
theorem e_eq (c : Cxt X T W n) (ha : SE X T W a fa) (hb : SE X T W b fb) : SE X T W (.Compare a [.Eq] [b] pos) (op2M dEq fa fb) := se_cmp (op_eq.or (c.hK ▸ op_eqD c.room.units)) does_eq ha hb (nomark _)
theorem e_ne (c : Cxt X T W n) (ha : SE X T W a fa) (hb : SE X T W b fb) : SE X T W (.Compare a [.NotEq] [b] pos) (op2M dNe fa fb) := se_cmp (op_ne.or (c.hK ▸ op_neD c.room.units)) does_ne ha hb (nomark _)
theorem e_isN (c : Cxt X T W n) (ha : SE X T W a fa) (hb : SE X T W b fb) : SE X T W (.Compare a [.Is] [b] pos) (op2M dIsN fa fb) := se_cmp op_isN does_isN ha hb (nomark _)
theorem e_notN (c : Cxt X T W n) (ha : SE X T W a fa) (hb : SE X T W b fb) : SE X T W (.Compare a [.IsNot] [b] pos) (op2M dNotN fa fb) := se_cmp op_notN does_notN ha hb (nomark _)
theorem t_lt (c : Cxt X T W n) (ha : SE X T W a fa) (hb : SE X T W b fb) : ST X T W (.Compare a [.Lt] [b] pos) (tsM (op2M dLt fa fb)) := st_cmp op_lt does_lt ha hb (nomark _)
theorem t_le (c : Cxt X T W n) (ha : SE X T W a fa) (hb : SE X T W b fb) : ST X T W (.Compare a [.LtE] [b] pos) (tsM (op2M dLe fa fb)) := st_cmp op_le does_le ha hb (nomark _)
theorem t_gt (c : Cxt X T W n) (ha : SE X T W a fa) (hb : SE X T W b fb) : ST X T W (.Compare a [.Gt] [b] pos) (tsM (op2M dGt fa fb)) := st_cmp op_gt does_gt ha hb (nomark _)
theorem t_ge (c : Cxt X T W n) (ha : SE X T W a fa) (hb : SE X T W b fb) : ST X T W (.Compare a [.GtE] [b] pos) (tsM (op2M dGe fa fb)) := st_cmp op_ge does_ge ha hb (nomark _)
theorem t_eq (c : Cxt X T W n) (ha : SE X T W a fa) (hb : SE X T W b fb) : ST X T W (.Compare a [.Eq] [b] pos) (tsM (op2M dEq fa fb)) := st_cmp (op_eq.or (c.hK ▸ op_eqD c.room.units)) does_eq ha hb (nomark _)
theorem t_ne (c : Cxt X T W n) (ha : SE X T W a fa) (hb : SE X T W b fb) : ST X T W (.Compare a [.NotEq] [b] pos) (tsM (op2M dNe fa fb)) := st_cmp (op_ne.or (c.hK ▸ op_neD c.room.units)) does_ne ha hb (nomark _)
theorem t_isN (c : Cxt X T W n) (ha : SE X T W a fa) (hb : SE X T W b fb) : ST X T W (.Compare a [.Is] [b] pos) (tsM (op2M dIsN fa fb)) := st_cmp op_isN does_isN ha hb (nomark _)
theorem t_notN (c : Cxt X T W n) (ha : SE X T W a fa) (hb : SE X T W b fb) : ST X T W (.Compare a [.IsNot] [b] pos) (tsM (op2M dNotN fa fb)) := st_cmp op_notN does_notN ha hb (nomark _)
/-- the four orders, for chains -/
inductive Ord : CmpOp → (PyData → PyData → Option R) → Prop where
  | lt : Ord .Lt dLt
  | le : Ord .LtE dLe
  | gt : Ord .Gt dGt
  | ge : Ord .GtE dGe
theorem Ord.ok {op : CmpOp} {g : PyData → PyData → Option R} (o : Ord op g) : ∃ r, OpR X (compareOp op) r ∧ Does2 T r g := by
  cases o with
  | lt => exact ⟨_, op_lt, does_lt⟩
  | le => exact ⟨_, op_le, does_le⟩
  | gt => exact ⟨_, op_gt, does_gt⟩
  | ge => exact ⟨_, op_ge, does_ge⟩
theorem e_ch {op op' : CmpOp} {g g' : PyData → PyData → Option R} (o : Ord op g) (o' : Ord op' g') (ha : SE X T W a fa) (hb : SE X T W b fb) (hd : SE X T W d fd) (hm : lastMarks [op, op'] [b, d] = false := by with_unfolding_all rfl) : SE X T W (.Compare a [op, op'] [b, d] pos) (chM g g' fa fb fd) := by
  obtain ⟨r, h1, h2⟩ := o.ok (X := X) (T := T)
  obtain ⟨r', h3, h4⟩ := o'.ok (X := X) (T := T)
  exact se_ch h1 h3 h2 h4 ha hb hd hm
theorem t_ch {op op' : CmpOp} {g g' : PyData → PyData → Option R} (o : Ord op g) (o' : Ord op' g') (ha : SE X T W a fa) (hb : SE X T W b fb) (hd : SE X T W d fd) (hm : lastMarks [op, op'] [b, d] = false := by with_unfolding_all rfl) : ST X T W (.Compare a [op, op'] [b, d] pos) (tsM (chM g g' fa fb fd)) := by
  obtain ⟨r, h1, h2⟩ := o.ok (X := X) (T := T)
  obtain ⟨r', h3, h4⟩ := o'.ok (X := X) (T := T)
  exact st_ch h1 h3 h2 h4 ha hb hd hm
theorem e_ix (c : Cxt X T W n) (ha : SE X T W a fa) (hb : SE X T W b fb) (hs : PlainIx b := by exact fun _ _ => rfl) : SE X T W (.Subscript a b pos) (op2M dIx fa fb) := se_ix (c.hK ▸ ix_seq) does_ix hs ha hb
/-! built-ins -/
variable {es : List Expr} {f : AM}
theorem e_len (l : At X N sc) (c : Cxt X T W n) (hx : gnB sc "len" = true) (hm : X.mg "len" = none) (ha : SA X T W [e] f) (he : starEach [e] X.env = (false, eval e X.env) :: starEach [] X.env := by rfl) : SE X T W (.Call (.Name "len" p) [e] [] pos) (opnM (on1 lenD) f) :=
  se_b l hx (c.hK ▸ call_lenX) does_len hm PySem.boot_len ha he rfl
theorem e_abs (l : At X N sc) (c : Cxt X T W n) (hx : gnB sc "abs" = true) (hm : X.mg "abs" = none) (ha : SA X T W [e] f) (he : starEach [e] X.env = (false, eval e X.env) :: starEach [] X.env := by rfl) : SE X T W (.Call (.Name "abs" p) [e] [] pos) (opnM (on1 absD) f) :=
  se_b l hx call_abs does_abs hm (by decide +kernel) ha he rfl
theorem e_sum (l : At X N sc) (c : Cxt X T W n) (hx : gnB sc "sum" = true) (hm : X.mg "sum" = none) (ha : SA X T W [e] f) (he : starEach [e] X.env = (false, eval e X.env) :: starEach [] X.env := by rfl) : SE X T W (.Call (.Name "sum" p) [e] [] pos) (opnM (on1 sumD) f) :=
  se_b l hx (c.hK ▸ cr_sumX c.calm) does_sum hm (by decide +kernel) ha he rfl
theorem e_all (l : At X N sc) (c : Cxt X T W n) (hx : gnB sc "all" = true) (hm : X.mg "all" = none) (ha : SA X T W [e] f) (he : starEach [e] X.env = (false, eval e X.env) :: starEach [] X.env := by rfl) : SE X T W (.Call (.Name "all" p) [e] [] pos) (opnM (on1 allD) f) :=
  se_b l hx (c.hK ▸ cr_all c.calm) does_all hm (by decide +kernel) ha he rfl
theorem e_any (l : At X N sc) (c : Cxt X T W n) (hx : gnB sc "any" = true) (hm : X.mg "any" = none) (ha : SA X T W [e] f) (he : starEach [e] X.env = (false, eval e X.env) :: starEach [] X.env := by rfl) : SE X T W (.Call (.Name "any" p) [e] [] pos) (opnM (on1 anyD) f) :=
  se_b l hx (c.hK ▸ cr_any c.calm) does_any hm (by decide +kernel) ha he rfl
theorem e_repr (l : At X N sc) (c : Cxt X T W n) (hx : gnB sc "repr" = true) (hm : X.mg "repr" = none) (ha : SA X T W [e] f) (he : starEach [e] X.env = (false, eval e X.env) :: starEach [] X.env := by rfl) : SE X T W (.Call (.Name "repr" p) [e] [] pos) (opnM (on1 reprD) f) :=
  se_b l hx (call_reprX c) does_repr hm (by decide +kernel) ha he rfl
theorem e_max2 (l : At X N sc) (c : Cxt X T W n) (hx : gnB sc "max" = true) (hm : X.mg "max" = none) (ha : SA X T W [e, d] f) (he : starEach [e, d] X.env = (false, eval e X.env) :: starEach [d] X.env := by rfl) (hpl : (backTo pos (starEach [d] X.env)).any (·.1) = false := by rfl) : SE X T W (.Call (.Name "max" p) [e, d] [] pos) (opnM (on2 max2D) f) :=
  se_b l hx (call_max2 c.calm) does_max2 hm (by decide +kernel) ha he hpl
theorem e_min2 (l : At X N sc) (c : Cxt X T W n) (hx : gnB sc "min" = true) (hm : X.mg "min" = none) (ha : SA X T W [e, d] f) (he : starEach [e, d] X.env = (false, eval e X.env) :: starEach [d] X.env := by rfl) (hpl : (backTo pos (starEach [d] X.env)).any (·.1) = false := by rfl) : SE X T W (.Call (.Name "min" p) [e, d] [] pos) (opnM (on2 min2D) f) :=
  se_b l hx (call_min2 c.calm) does_min2 hm (by decide +kernel) ha he hpl
theorem e_tuple (l : At X N sc) (c : Cxt X T W n) (hx : gnB sc "tuple" = true) (hm : X.mg "tuple" = none) (ha : SA X T W [e] f) (he : starEach [e] X.env = (false, eval e X.env) :: starEach [] X.env := by rfl) : SE X T W (.Call (.Name "tuple" p) [e] [] pos) (opnM (on1 tupD) f) :=
  se_t l hx (c.hK ▸ call_tuple_of) does_tuple hm (by decide +kernel) ha he rfl
theorem e_list (l : At X N sc) (c : Cxt X T W n) (hx : gnB sc "list" = true) (hm : X.mg "list" = none) (ha : SA X T W [e] f) (he : starEach [e] X.env = (false, eval e X.env) :: starEach [] X.env := by rfl) : SE X T W (.Call (.Name "list" p) [e] [] pos) (opnM (on1 lstD) f) :=
  se_t l hx (c.hK ▸ call_list_of) does_list hm (by decide +kernel) ha he rfl
theorem e_int (l : At X N sc) (c : Cxt X T W n) (hx : gnB sc "int" = true) (hm : X.mg "int" = none) (ha : SA X T W [e] f) (he : starEach [e] X.env = (false, eval e X.env) :: starEach [] X.env := by rfl) : SE X T W (.Call (.Name "int" p) [e] [] pos) (opnM (on1 intD) f) :=
  se_t l hx call_int1 does_int hm (by decide +kernel) ha he rfl
theorem e_rng1 {tg : Expr} (l : At X N sc) (hx : gnB sc "range" = true) (hm : X.mg "range" = none) (ha : SE X T W a fa) (hs : starEach [a] X.env = [(false, eval a X.env)] := by rfl) : SI X T W tg (.Call (.Name "range" p) [a] [] pos) (irM1 fa) := si_rng1 (l.gl hx).1 hm ha hs
theorem e_rng2 {tg : Expr} (l : At X N sc) (hx : gnB sc "range" = true) (hm : X.mg "range" = none) (ha : SE X T W a fa) (hb : SE X T W b fb) (hs : starEach [a, b] X.env = [(false, eval a X.env), (false, eval b X.env)] := by rfl) (hs2 : starEach [b] X.env = [(false, eval b X.env)] := by rfl) : SI X T W tg (.Call (.Name "range" p) [a, b] [] pos) (irM2 fa fb) := si_rng2 (l.gl hx).1 hm ha hb hs hs2
end
end DL

/-! D16: refusals. -/
namespace DL
open PySem L2 PyProof.Rows

/-- the classes above an own one over ValueError -/
abbrev veM : List Value := [.type "ValueError", .type "Exception", .type "BaseException", .type "object"]
/-- a class of errors of the text, made without anything -/
structure ExE (mg : Str → Option Value) (T : Tb) (x : Str) (c : Nat) : Prop where
  g : mg x = some (.ref (T.ca c))
  k : PySem.W.keepIn T.K (.ref (T.ca c)) = true
  x : PySem.W.excIn T.K (T.ca c) veM "ValueError.__new__" = true
  b : PySem.W.subIn T.K (.ref (T.ca c)) (.type "BaseException") = some true
  t : PySem.W.typeIn T.K (.ref (T.ca c)) = some (.type "type")
def raiseM (c : Nat) : SM := fun ρ => some (.er c [] ρ)

theorem pmk0 {X : Cx} {C : Addr} {x : Str} {p pos : Pos} (q : PySem.W.excIn X.K C veM "ValueError.__new__" = true) (gC : X.mg x = some (.ref C)) (kC : PySem.W.keepIn X.K (.ref C) = true) (r : Raises X (.ref C)) (hg : L2.Gl X x) (hdb : (x == ("__debug__" : Str)) = false) :
    PMk X (.Call (.Name x p) [] [] pos) (fun _ H Q => Q (.ref C) none H) := by
  intro pins s σ H Q I h
  have go : wpAny (model X.prog X.w) X.A (call (.ref C) []) (MkP X pins σ Q) X.xe s := by
    obtain ⟨bm, N, nm, qn, bs, hdct, sn, sub, ab, col, dd, k0, k1, k2, k3, k5, mN, hC, hN, hni, T⟩ := exc_obj I.kIn q
    refine wpAny_call_exc_subT PySem.F.excBase_ValueError T hC hN hni ?_ (by show 0 ≤ sizeLine; exact Nat.zero_le _)
    intro h' e hm
    exact mk_of I hm r h (I.hok.gone hm.new)
  exact wpAny_Call_Name_kw (ld_glob I hg gC (PySem.W.callWith_K0 I.kIn kC go) hdb)
section
variable {X : Cx} {T : Tb} {W : WX} {n k : Nat} {N : List Str} {sc : Scope} {φ : Fm} {pos p p2 : Pos} {x : Str}
theorem s_raise (l : At X N sc) (c : Cxt X T W n) (h : ExE X.mg T x k) (hx : gnB sc x = true) : SS X T W φ (.Raise (some (.Call (.Name x p) [] [] p2)) none pos) (raiseM k) := by
  have hK := c.hK
  have r : Raises X (.ref (T.ca k)) := raises_own (by rw [hK]; exact h.b) (by rw [hK]; exact h.t)
  refine ps_imp (ps_raise c.calm c.tk (pmk0 (by rw [hK]; exact h.x) h.g (by rw [hK]; exact h.k) r (l.gl hx).1 (l.gl hx).2.1)) fun D σ H ⟨ρ, F, O, S, P⟩ => ?_
  exact P _ none σ H F O .refl S .refl ⟨rfl, rfl⟩
end
end DL

/-! D17: the join of a walk and its plain law. -/
namespace DL
open PySem L2 PyProof.Rows
/-- what a walk has to give -/
def Walked (ts : List Addr) (P : Program) (w : World) (K : PySem.W.Frag) (mg : Str → Option Value) (fa : Addr) (x : Str) (k : Nat) (pr : Sem → Prop) : Prop :=
  ∃ (fd : FuncData) (T : Tb) (sem : Sem) (tn : List (Addr × Addr)), T.K = K ∧ T.w = w ∧ (∀ (s : Shared) (u : Value), BindsTo s fd ⟨[u], []⟩ [(x, u)]) ∧
      ((∀ t ∈ tn, PySem.W.codeHdIn T.K t.1 t.2 = true ∧ t.2 ∈ ts ∧ T.K.lookup t.2 = none) ∧ ∀ q ∈ T.tb, isTab tn q.1) ∧
      (∀ base : Heap, T.K.In base → base.Ns mainGlobals mg → base.get? sysModules ≠ none → (∀ t ∈ tn, LamX.TabB base mg t.1 t.2) → FnG P w T.K mg base k fa fd [x] (spOf T 1 sem)) ∧ pr sem
theorem fin_g {ts : List Addr} {P : Program} {w : World} {K : PySem.W.Frag} {mg : Str → Option Value} {fa : Addr} {x : Str} {k n : Nat} {sl : Sem}
    (tr : ∀ ns : List Int, ns.length ≤ n → ∃ os, sl [.dat (.list (ns.map .int))] = some (.ok (.dat (.bool true)) os))
    (h : Walked ts P w K mg fa x k fun sem => sem = sl) : Walked ts P w K mg fa x k fun sem => ∀ ns : List Int, ns.length ≤ n → ∃ os, sem [.dat (.list (ns.map .int))] = some (.ok (.dat (.bool true)) os) := by
  obtain ⟨fd, T, sem, tn, a, b, c, d, e, f⟩ := h
  exact ⟨fd, T, sem, tn, a, b, c, d, e, f ▸ tr⟩
theorem no_tabs {ts : List Addr} {T : Tb} (h : T.tb = []) : (∀ t ∈ ([] : List (Addr × Addr)), PySem.W.codeHdIn T.K t.1 t.2 = true ∧ t.2 ∈ ts ∧ T.K.lookup t.2 = none) ∧ ∀ q ∈ T.tb, isTab [] q.1 :=
  ⟨fun _ h => absurd h List.not_mem_nil, fun q hq => by rw [h] at hq; cases hq⟩
end DL
namespace DL
open PySem L2
/-- the stores of a tuple of constants stand in their order -/
theorem swap_cst {ts vs : List Expr} {k k2 : Nat} {p p2 : Pos} {env : Env} (h : vs.all (foldedForSure 8) = true) : swappedStores [.Tuple ts k p] (.Tuple vs k2 p2) env = pure none := by
  unfold swappedStores
  simp only [h]
  repeat (first | rfl | split)
end DL

/-! D18: pieces at work, for the plain law: no machine from here on. -/
namespace DL
open PySem L2
/-- a proof whose steps a reader of terms need not take again -/
theorem eqI {α : Sort _} {a b : α} (h : a = b) : a = b := h

theorem bindO_cg {α β : Type} {o o' : Option (Oe α)} {g : α → Rho → Option (Oe β)} (h : o = o') : bindO o g = bindO o' g := by rw [h]
theorem bindS_cg {α : Type} {o o' : Option (Oe α)} {g : α → Rho → Option Ot} (h : o = o') : bindS o g = bindS o' g := by rw [h]
theorem bindN_cg {α β : Type} {o o' : Option (Oe α)} {g : α → Rho → Option β} (h : o = o') : bindN o g = bindN o' g := by rw [h]

/-- what follows a statement -/
def thenS (o : Option Ot) (g : SM) : Option Ot := match o with
  | some (.nx ρ1) => g ρ1
  | o => o
theorem thenS_cg {o o' : Option Ot} {g : SM} (h : o = o') : thenS o g = thenS o' g := by rw [h]
@[simp] theorem thenS_nx (ρ : Rho) (g : SM) : thenS (some (.nx ρ)) g = g ρ := eqI rfl
@[simp] theorem thenS_rt (r : R) (ρ : Rho) (g : SM) : thenS (some (.rt r ρ)) g = some (.rt r ρ) := eqI rfl
@[simp] theorem thenS_bk (ρ : Rho) (g : SM) : thenS (some (.bk ρ)) g = some (.bk ρ) := eqI rfl
@[simp] theorem thenS_ct (ρ : Rho) (g : SM) : thenS (some (.ct ρ)) g = some (.ct ρ) := eqI rfl
@[simp] theorem thenS_er (c : Nat) (fs : List PyData) (ρ : Rho) (g : SM) : thenS (some (.er c fs ρ)) g = some (.er c fs ρ) := eqI rfl
@[simp] theorem seqM_e (f g : SM) (ρ : Rho) : seqM f g ρ = thenS (f ρ) g := eqI rfl
@[simp] theorem skipM_e (ρ : Rho) : skipM ρ = some (.nx ρ) := eqI rfl
@[simp] theorem dropM_e (f : EM) (ρ : Rho) : dropM f ρ = bindS (f ρ) fun _ ρ1 => some (.nx ρ1) := eqI rfl
/-- one of two -/
def pick {α : Type} (b : Bool) (f g : Rho → Option α) (ρ : Rho) : Option α := if b = true then f ρ else g ρ
theorem pick_cg {α : Type} {b b' : Bool} {f g : Rho → Option α} {ρ : Rho} (h : b = b') : pick b f g ρ = pick b' f g ρ := by rw [h]
@[simp] theorem pick_t {α : Type} (f g : Rho → Option α) (ρ : Rho) : pick true f g ρ = f ρ := eqI rfl
@[simp] theorem pick_f {α : Type} (f g : Rho → Option α) (ρ : Rho) : pick false f g ρ = g ρ := eqI rfl
@[simp] theorem ifM_e (c : Rho → Option (Oe Bool)) (f g : SM) (ρ : Rho) : ifM c f g ρ = bindS (c ρ) fun b ρ1 => pick b f g ρ1 := eqI rfl
@[simp] theorem iteM_e (c : Rho → Option (Oe Bool)) (f g : EM) (ρ : Rho) : iteM c f g ρ = bindO (c ρ) fun b ρ1 => pick b f g ρ1 := eqI rfl
@[simp] theorem andT_e (f g : Rho → Option (Oe Bool)) (ρ : Rho) : andT f g ρ = bindO (f ρ) fun b ρ1 => pick b g (fun ρ => some (.ok false ρ)) ρ1 := eqI rfl
@[simp] theorem orT_e (f g : Rho → Option (Oe Bool)) (ρ : Rho) : orT f g ρ = bindO (f ρ) fun b ρ1 => pick b (fun ρ => some (.ok true ρ)) g ρ1 := eqI rfl
@[simp] theorem notT_e (f : Rho → Option (Oe Bool)) (ρ : Rho) : notT f ρ = bindO (f ρ) fun b ρ1 => some (.ok (!b) ρ1) := eqI rfl
@[simp] theorem yesT_e (ρ : Rho) : yesT ρ = some (.ok true ρ) := eqI rfl
def tsR (r : R) (ρ1 : Rho) : Option (Oe Bool) := match r with
  | .dat (.bool b) => some (.ok b ρ1)
  | _ => none
@[simp] theorem tsR_e (b : Bool) (ρ : Rho) : tsR (.dat (.bool b)) ρ = some (.ok b ρ) := eqI rfl
@[simp] theorem tsM_e (f : EM) (ρ : Rho) : tsM f ρ = bindO (f ρ) tsR := eqI rfl
/-- a truth, then -/
def bR (r : R) (f g : EM) (ρ : Rho) : Option (Oe R) := match r with
  | .dat (.bool true) => f ρ
  | .dat (.bool false) => g ρ
  | _ => none
theorem bR_cg {r r' : R} {f g : EM} {ρ : Rho} (h : r = r') : bR r f g ρ = bR r' f g ρ := by rw [h]
@[simp] theorem bR_e (b : Bool) (f g : EM) (ρ : Rho) : bR (.dat (.bool b)) f g ρ = pick b f g ρ := by cases b <;> rfl
@[simp] theorem andM_e (f g : EM) (ρ : Rho) : andM f g ρ = bindO (f ρ) fun r ρ1 => bR r g (cM (.bool false)) ρ1 := by
  unfold andM bR; cases f ρ with
  | none => rfl
  | some o => cases o with
    | er _ _ _ => rfl
    | ok r ρ1 => cases r with
      | dat d => cases d with
        | bool b => cases b <;> rfl
        | _ => rfl
      | _ => rfl
@[simp] theorem orM_e (f g : EM) (ρ : Rho) : orM f g ρ = bindO (f ρ) fun r ρ1 => bR r (cM (.bool true)) g ρ1 := by
  unfold orM bR; cases f ρ with
  | none => rfl
  | some o => cases o with
    | er _ _ _ => rfl
    | ok r ρ1 => cases r with
      | dat d => cases d with
        | bool b => cases b <;> rfl
        | _ => rfl
      | _ => rfl
def ntR (r : R) (ρ1 : Rho) : Option (Oe R) := match r with
  | .dat (.bool b) => some (.ok (.dat (.bool (!b))) ρ1)
  | _ => none
@[simp] theorem ntR_e (b : Bool) (ρ : Rho) : ntR (.dat (.bool b)) ρ = some (.ok (.dat (.bool (!b))) ρ) := eqI rfl
@[simp] theorem notM_e (f : EM) (ρ : Rho) : notM f ρ = bindO (f ρ) ntR := eqI rfl

/-- a slot read -/
def nmR (i : Nat) (o : Option (Option R)) (ρ : Rho) : Option (Oe R) := match o with
  | some (some (.dat d)) => some (.ok (.dat d) ρ)
  | some (some (.own _)) => some (.ok (.slt i) ρ)
  | some (some (.st _)) => some (.ok (.slt i) ρ)
  | some (some (.fn k)) => some (.ok (.fn k) ρ)
  | some (some (.ex c fs)) => some (.ok (.ex c fs) ρ)
  | _ => none
@[simp] theorem nmR_x (i c : Nat) (fs : List PyData) (ρ : Rho) : nmR i (some (some (.ex c fs))) ρ = some (.ok (.ex c fs) ρ) := eqI rfl
@[simp] theorem nmR_d (i : Nat) (d : PyData) (ρ : Rho) : nmR i (some (some (.dat d))) ρ = some (.ok (.dat d) ρ) := eqI rfl
@[simp] theorem nmR_o (i : Nat) (d : PyData) (ρ : Rho) : nmR i (some (some (.own d))) ρ = some (.ok (.slt i) ρ) := eqI rfl
@[simp] theorem nmR_s (i : Nat) (d : List Int) (ρ : Rho) : nmR i (some (some (.st d))) ρ = some (.ok (.slt i) ρ) := eqI rfl
@[simp] theorem nmM_e (i : Nat) (ρ : Rho) : nmM i ρ = nmR i ρ[i]? ρ := eqI rfl
@[simp] theorem cM_e (d : PyData) (ρ : Rho) : cM d ρ = some (.ok (.dat d) ρ) := eqI rfl
@[simp] theorem val_d (ρ : Rho) (d : PyData) : val ρ (.dat d) = some d := eqI rfl
@[simp] theorem val_o (ρ : Rho) (d : PyData) : val ρ (.own d) = some d := eqI rfl
@[simp] theorem val_s (ρ : Rho) (i : Nat) : val ρ (.slt i) = slotD ρ[i]? := eqI rfl
@[simp] theorem slotD_d (d : PyData) : slotD (some (some (.dat d))) = some d := eqI rfl
@[simp] theorem slotD_o (d : PyData) : slotD (some (some (.own d))) = some d := eqI rfl
@[simp] theorem frz_d (ρ : Rho) (d : PyData) : frz ρ (.dat d) = some (d, ρ) := eqI rfl
@[simp] theorem frz_o (ρ : Rho) (d : PyData) : frz ρ (.own d) = some (d, ρ) := eqI rfl
@[simp] theorem frz_s (ρ : Rho) (i : Nat) : frz ρ (.slt i) = (slotD ρ[i]?).map fun d => (d, ρ.set i (some (.dat d))) := eqI rfl
/-- an answer in its place -/
def retO (o : Option R) (ρ : Rho) : Option (Oe R) := match o with
  | some z => some (.ok z ρ)
  | none => none
@[simp] theorem retO_e (z : R) (ρ : Rho) : retO (some z) ρ = some (.ok z ρ) := eqI rfl
def op2R (g : PyData → PyData → Option R) (ρ : Rho) (a b : Option PyData) : Option (Oe R) := match a, b with
  | some d, some e => retO (g d e) ρ
  | _, _ => none
@[simp] theorem op2R_e (g : PyData → PyData → Option R) (ρ : Rho) (d e : PyData) : op2R g ρ (some d) (some e) = retO (g d e) ρ := eqI rfl
theorem map_retO (o : Option R) (ρ : Rho) : (o.map fun z => Oe.ok z ρ) = retO o ρ := by cases o <;> rfl
@[simp] theorem op2M_e (g : PyData → PyData → Option R) (fa fb : EM) (ρ : Rho) : op2M g fa fb ρ = bindO (fa ρ) fun r ρ1 => bindO (fb ρ1) fun s ρ2 => op2R g ρ2 (val ρ2 r) (val ρ2 s) := by
  unfold op2M op2R; simp only [map_retO] <;> rfl
def op1R (g : PyData → Option R) (ρ : Rho) (a : Option PyData) : Option (Oe R) := match a with
  | some d => retO (g d) ρ
  | _ => none
@[simp] theorem op1R_e (g : PyData → Option R) (ρ : Rho) (d : PyData) : op1R g ρ (some d) = retO (g d) ρ := eqI rfl
@[simp] theorem op1M_e (g : PyData → Option R) (fa : EM) (ρ : Rho) : op1M g fa ρ = bindO (fa ρ) fun r ρ1 => op1R g ρ1 (val ρ1 r) := by
  unfold op1M op1R; simp only [map_retO] <;> rfl
@[simp] theorem tmp_d (d : PyData) : tmp (.dat d) = .dat d := eqI rfl
@[simp] theorem tmp_x (c : Nat) (fs : List PyData) : tmp (.ex c fs) = .ex c fs := eqI rfl
@[simp] theorem tmp_o (d : PyData) : tmp (.own d) = .dat d := eqI rfl
@[simp] theorem tmp_s (d : Nat) : tmp (.slt d) = .slt d := eqI rfl
@[simp] theorem nilA_e (ρ : Rho) : nilA ρ = some (.ok [] ρ) := eqI rfl
@[simp] theorem consA_e (fe : EM) (fr : AM) (ρ : Rho) : consA fe fr ρ = bindO (fe ρ) fun r ρ1 => bindO (fr ρ1) fun rs ρ2 => some (.ok (tmp r :: rs) ρ2) := eqI rfl
/-- stilled, then -/
def bindF {β : Type} (o : Option (PyData × Rho)) (g : PyData → Rho → Option β) : Option β := match o with
  | some (d, ρ) => g d ρ
  | none => none
theorem bindF_cg {β : Type} {o o' : Option (PyData × Rho)} {g : PyData → Rho → Option β} (h : o = o') : bindF o g = bindF o' g := by rw [h]
@[simp] theorem bindF_e {β : Type} (d : PyData) (ρ : Rho) (g : PyData → Rho → Option β) : bindF (some (d, ρ)) g = g d ρ := eqI rfl
theorem bindF_is {β : Type} (o : Option (PyData × Rho)) (g : PyData → Rho → Option β) : (match o with | some (d, ρ) => g d ρ | none => none) = bindF o g := rfl
@[simp] theorem consD_e (fe : EM) (fr : AM) (ρ : Rho) : consD fe fr ρ = bindO (fe ρ) fun r ρ1 => bindF (frz ρ1 r) fun d ρ2 => bindO (fr ρ2) fun rs ρ3 => some (.ok (.dat d :: rs) ρ3) := eqI rfl
def consV (a : Option PyData) (b : Option (List PyData)) : Option (List PyData) := match a, b with
  | some d, some ds => some (d :: ds)
  | _, _ => none
@[simp] theorem consV_e (d : PyData) (ds : List PyData) : consV (some d) (some ds) = some (d :: ds) := eqI rfl
@[simp] theorem vals_0 (ρ : Rho) : vals ρ [] = some [] := eqI rfl
@[simp] theorem vals_c (ρ : Rho) (r : R) (rs : List R) : vals ρ (r :: rs) = consV (val ρ r) (vals ρ rs) := eqI rfl
def opnR (g : List PyData → Option R) (ρ : Rho) (a : Option (List PyData)) : Option (Oe R) := match a with
  | some d => retO (g d) ρ
  | _ => none
@[simp] theorem opnR_e (g : List PyData → Option R) (ρ : Rho) (d : List PyData) : opnR g ρ (some d) = retO (g d) ρ := eqI rfl
@[simp] theorem opnM_e (g : List PyData → Option R) (fa : AM) (ρ : Rho) : opnM g fa ρ = bindO (fa ρ) fun rs ρ1 => opnR g ρ1 (vals ρ1 rs) := by
  unfold opnM opnR; simp only [map_retO]
  congr; funext rs ρ1; cases vals ρ1 rs <;> rfl
@[simp] theorem on1_e (g : PyData → Option R) (d : PyData) : on1 g [d] = g d := eqI rfl
@[simp] theorem on2_e (g : PyData → PyData → Option R) (d e : PyData) : on2 g [d, e] = g d e := eqI rfl
@[simp] theorem dats_0 : dats [] = some [] := eqI rfl
@[simp] theorem dats_c (d : PyData) (rs : List R) : dats (.dat d :: rs) = (dats rs).map (d :: ·) := eqI rfl
def tupR (o : Option (List PyData)) (ρ : Rho) : Option (Oe R) := match o with
  | some ds => if ds.length ≤ 100000 then some (.ok (.dat (.tuple ds)) ρ) else none
  | none => none
@[simp] theorem tupR_e (ds : List PyData) (ρ : Rho) : tupR (some ds) ρ = if ds.length ≤ 100000 then some (.ok (.dat (.tuple ds)) ρ) else none := eqI rfl
@[simp] theorem tupM_e (fa : AM) (ρ : Rho) : tupM fa ρ = bindO (fa ρ) fun rs ρ1 => tupR (dats rs) ρ1 := eqI rfl
def lstR (o : Option (List PyData)) (ρ : Rho) : Option (Oe R) := match o with
  | some ds => if ds.length ≤ 100000 then some (.ok (.own (.list ds)) ρ) else none
  | none => none
@[simp] theorem lstR_e (ds : List PyData) (ρ : Rho) : lstR (some ds) ρ = if ds.length ≤ 100000 then some (.ok (.own (.list ds)) ρ) else none := eqI rfl
@[simp] theorem lstM_e (fa : AM) (ρ : Rho) : lstM fa ρ = bindO (fa ρ) fun rs ρ1 => lstR (dats rs) ρ1 := eqI rfl
/-- the second comparison -/
def chR (o : Option R) (k : EM) (ρ : Rho) : Option (Oe R) := match o with
  | some (.dat (.bool true)) => k ρ
  | some (.dat (.bool false)) => some (.ok (.dat (.bool false)) ρ)
  | _ => none
theorem chR_cg {o o' : Option R} {k : EM} {ρ : Rho} (h : o = o') : chR o k ρ = chR o' k ρ := by rw [h]
@[simp] theorem chR_e (b : Bool) (k : EM) (ρ : Rho) : chR (some (.dat (.bool b))) k ρ = pick b k (cM (.bool false)) ρ := by cases b <;> rfl
def chR2 (g : PyData → PyData → Option R) (a b : Option PyData) (k : EM) (ρ : Rho) : Option (Oe R) := match a, b with
  | some d, some e => chR (g d e) k ρ
  | _, _ => none
theorem chR2_cg {g : PyData → PyData → Option R} {a a' b b' : Option PyData} {k : EM} {ρ : Rho} (h : a = a') (h2 : b = b') : chR2 g a b k ρ = chR2 g a' b' k ρ := by rw [h, h2]
@[simp] theorem chR2_e (g : PyData → PyData → Option R) (d e : PyData) (k : EM) (ρ : Rho) : chR2 g (some d) (some e) k ρ = chR (g d e) k ρ := eqI rfl
@[simp] theorem chM_e (g g' : PyData → PyData → Option R) (fa fb fc : EM) (ρ : Rho) : chM g g' fa fb fc ρ = bindO (fa ρ) fun r ρ1 => bindO (fb ρ1) fun s ρ2 => chR2 g (val ρ2 r) (val ρ2 s) (fun ρ => bindO (fc ρ) fun t ρ3 => op2R g' ρ3 (val ρ3 s) (val ρ3 t)) ρ2 := by
  unfold chM chR2 chR op2R; simp only [map_retO] <;> rfl

/-! ### statements -/
def nxO (o : Option Rho) : Option Ot := match o with
  | some ρ => some (.nx ρ)
  | none => none
@[simp] theorem nxO_e (ρ : Rho) : nxO (some ρ) = some (.nx ρ) := eqI rfl
theorem map_nxO (o : Option Rho) : o.map Ot.nx = nxO o := by cases o <;> rfl
@[simp] theorem asR_d (ρ : Rho) (i : Nat) (d : PyData) : asR ρ i (.dat d) = some (ρ.set i (some (.dat d))) := eqI rfl
@[simp] theorem asR_o (ρ : Rho) (i : Nat) (d : PyData) : asR ρ i (.own d) = some (ρ.set i (some (.own d))) := eqI rfl
@[simp] theorem asR_s (ρ : Rho) (i j : Nat) : asR ρ i (.slt j) = (slotD ρ[j]?).map fun d => (ρ.set j (some (.dat d))).set i (some (.dat d)) := by
  show ((slotD ρ[j]?).map _).map _ = _
  rw [Option.map_map]; rfl
@[simp] theorem asgM_e (i : Nat) (f : EM) (ρ : Rho) : asgM i f ρ = bindS (f ρ) fun r ρ1 => nxO (asR ρ1 i r) := by
  unfold asgM; simp only [map_nxO]
def rtO (o : Option (R × Rho)) : Option Ot := match o with
  | some p => some (.rt p.1 p.2)
  | none => none
@[simp] theorem rtO_e (r : R) (ρ : Rho) : rtO (some (r, ρ)) = some (.rt r ρ) := eqI rfl
@[simp] theorem retR_d (n : Nat) (ρ : Rho) (d : PyData) : retR n ρ (.dat d) = some (.dat d, ρ) := eqI rfl
@[simp] theorem retR_o (n : Nat) (ρ : Rho) (d : PyData) : retR n ρ (.own d) = some (.own d, ρ) := eqI rfl
def rtR (n i : Nat) (ρ : Rho) (o : Option (Option R)) : Option (R × Rho) := if i < n then (slotD o).map fun d => (.dat d, ρ.set i (some (.dat d))) else match o with
    | some (some (.own d)) => some (.own d, ρ.set i none)
    | some (some (.dat d)) => some (.dat d, ρ)
    | _ => none
@[simp] theorem rtR_o (n i : Nat) (ρ : Rho) (d : PyData) : rtR n i ρ (some (some (.own d))) = if i < n then some (.dat d, ρ.set i (some (.dat d))) else some (.own d, ρ.set i none) := by unfold rtR; split <;> rfl
@[simp] theorem rtR_d (n i : Nat) (ρ : Rho) (d : PyData) : rtR n i ρ (some (some (.dat d))) = if i < n then some (.dat d, ρ.set i (some (.dat d))) else some (.dat d, ρ) := by unfold rtR; split <;> rfl
@[simp] theorem retR_t (n : Nat) (ρ : Rho) (d e : PyData) : retR n ρ (.two d e) = some (.two d e, ρ) := eqI rfl
@[simp] theorem retR_s (n : Nat) (ρ : Rho) (i : Nat) : retR n ρ (.slt i) = rtR n i ρ ρ[i]? := by
  unfold retR rtR; simp only [frz_s, Option.map_map]; rfl
@[simp] theorem retM_e (n : Nat) (f : EM) (ρ : Rho) : retM n f ρ = bindS (f ρ) fun r ρ1 => rtO (retR n ρ1 r) := by
  unfold retM; congr; funext r ρ1; cases retR n ρ1 r <;> rfl
@[simp] theorem retN_e (ρ : Rho) : retN ρ = some (.rt (.dat .none) ρ) := eqI rfl
@[simp] theorem raiseM_e (c : Nat) (ρ : Rho) : raiseM c ρ = some (.er c [] ρ) := eqI rfl
@[simp] theorem isList_e (ds : List PyData) : isList (some (some (.own (.list ds)))) = true := eqI rfl
def appR (i : Nat) (d : PyData) (ρ : Rho) (o : Option (Option R)) : Option Ot := match o with
  | some (some (.own (.list ds))) => if ds.length < lim then some (.nx (ρ.set i (some (.own (.list (ds ++ [d])))))) else none
  | _ => none
@[simp] theorem appR_e (i : Nat) (d : PyData) (ρ : Rho) (ds : List PyData) : appR i d ρ (some (some (.own (.list ds)))) = if ds.length < lim then some (.nx (ρ.set i (some (.own (.list (ds ++ [d])))))) else none := eqI rfl
@[simp] theorem appM_e (i : Nat) (fe : EM) (ρ : Rho) : appM i fe ρ = pick (isList ρ[i]?) (fun ρ => bindS (fe ρ) fun r ρ1 => bindF (frz ρ1 r) fun d ρ2 => appR i d ρ2 ρ2[i]?) (fun _ => none) ρ := eqI rfl
def setR (s : Nat) (d : PyData) (ri : R) (ρ : Rho) (o : Option (Option R)) : Option Ot := match ri, o with
  | .dat (.int k), some (some (.own (.list ds))) => nxO ((ixN ds.length k).map fun j => ρ.set s (some (.own (.list (ds.set j d)))))
  | _, _ => none
@[simp] theorem setR_e (s : Nat) (d : PyData) (k : Int) (ρ : Rho) (ds : List PyData) : setR s d (.dat (.int k)) ρ (some (some (.own (.list ds)))) = nxO ((ixN ds.length k).map fun j => ρ.set s (some (.own (.list (ds.set j d))))) := eqI rfl
@[simp] theorem setM_e (s : Nat) (fi fe : EM) (ρ : Rho) : setM s fi fe ρ = bindS (fe ρ) fun r ρ1 => bindF (frz ρ1 r) fun d ρ2 => pick (isList ρ2[s]?) (fun ρ => bindS (fi ρ) fun ri ρ3 => setR s d ri ρ3 ρ3[s]?) (fun _ => none) ρ2 := by
  unfold setM setR pick bindF
  congr; funext r ρ1; cases frz ρ1 r with
  | none => rfl
  | some p =>
    obtain ⟨d, ρ2⟩ := p
    simp only
    congr; funext ri ρ3
    simp only [← map_nxO, Option.map_map]
    rfl
/-- kept in a slot, then -/
def bindV (o : Option (R × Rho)) (g : R → Rho → Option Ot) : Option Ot := match o with
  | some (d, ρ) => g d ρ
  | none => none
theorem bindV_cg {o o' : Option (R × Rho)} {g : R → Rho → Option Ot} (h : o = o') : bindV o g = bindV o' g := by rw [h]
@[simp] theorem bindV_e (d : R) (ρ : Rho) (g : R → Rho → Option Ot) : bindV (some (d, ρ)) g = g d ρ := eqI rfl
@[simp] theorem sv_d (ρ : Rho) (d : PyData) : sv ρ (.dat d) = some (.dat d, ρ) := eqI rfl
@[simp] theorem sv_o (ρ : Rho) (d : PyData) : sv ρ (.own d) = some (.own d, ρ) := eqI rfl
@[simp] theorem sv_s (ρ : Rho) (i : Nat) : sv ρ (.slt i) = (slotD ρ[i]?).map fun d => (.dat d, ρ.set i (some (.dat d))) := by
  show ((slotD ρ[i]?).map _).map _ = _
  rw [Option.map_map]; rfl
@[simp] theorem parM_e (i j : Nat) (fa fb : EM) (ρ : Rho) : parM i j fa fb ρ = bindS (fa ρ) fun r ρ1 => bindV (sv ρ1 r) fun r' ρ2 => bindS (fb ρ2) fun s ρ3 => bindV (sv ρ3 s) fun s' ρ4 => some (.nx ((ρ4.set i (some r')).set j (some s'))) := eqI rfl
@[simp] theorem parM3_e (i j l : Nat) (fa fb fc : EM) (ρ : Rho) : parM3 i j l fa fb fc ρ = bindS (fa ρ) fun r ρ1 => bindV (sv ρ1 r) fun r' ρ2 => bindS (fb ρ2) fun s ρ3 => bindV (sv ρ3 s) fun s' ρ4 => bindS (fc ρ4) fun t ρ5 => bindV (sv ρ5 t) fun t' ρ6 => some (.nx (((ρ6.set i (some r')).set j (some s')).set l (some t'))) := eqI rfl
@[simp] theorem asgTM_e (g : GM) (fe : EM) (ρ : Rho) : asgTM g fe ρ = bindS (fe ρ) fun r ρ1 => bindF (frz ρ1 r) fun d ρ2 => nxO (g d ρ2) := by
  unfold asgTM bindF; simp only [map_nxO] <;> rfl

/-! ### iterables, targets -/
@[simp] theorem gnM_e (i : Nat) (d : PyData) (ρ : Rho) : gnM i d ρ = some (ρ.set i (some (.dat d))) := eqI rfl
@[simp] theorem gs0_e (ρ : Rho) : gs0 [] ρ = some ρ := eqI rfl
def bindG (o : Option Rho) (g : Rho → Option Rho) : Option Rho := match o with
  | some ρ => g ρ
  | none => none
theorem bindG_cg {o o' : Option Rho} {g : Rho → Option Rho} (h : o = o') : bindG o g = bindG o' g := by rw [h]
@[simp] theorem bindG_e (ρ : Rho) (g : Rho → Option Rho) : bindG (some ρ) g = g ρ := eqI rfl
@[simp] theorem gtM_e (gs : GsM) (ds : List PyData) (ρ : Rho) : gtM gs (.tuple ds) ρ = gs ds ρ := eqI rfl
@[simp] theorem itemsOf_l (ds : List PyData) : itemsOf (.list ds) = some ds := eqI rfl
@[simp] theorem itemsOf_t (ds : List PyData) : itemsOf (.tuple ds) = some ds := eqI rfl
def okI (o : Option (List PyData)) (ρ : Rho) : Option (Oe (List PyData)) := match o with
  | some ds => some (.ok ds ρ)
  | none => none
@[simp] theorem okI_e (ds : List PyData) (ρ : Rho) : okI (some ds) ρ = some (.ok ds ρ) := eqI rfl
@[simp] theorem iM_e (f : EM) (ρ : Rho) : iM f ρ = bindO (f ρ) fun r ρ1 => bindF (frz ρ1 r) fun d ρ2 => okI (itemsOf d) ρ2 := by
  unfold iM bindF; congr; funext r ρ1; cases frz ρ1 r with
  | none => rfl
  | some p =>
    obtain ⟨d, ρ2⟩ := p
    show (itemsOf d).map _ = okI (itemsOf d) ρ2
    cases itemsOf d <;> rfl
def rg1 (r : R) (ρ : Rho) : Option (Oe (List PyData)) := match r with
  | .dat (.int j) => if inW j = true then some (.ok (rngL 0 j.toNat) ρ) else none
  | _ => none
theorem rg1_is {j : Int} (ρ : Rho) (h1 : -4611686018427387904 ≤ j) (h2 : j < 4611686018427387904) : rg1 (.dat (.int j)) ρ = some (.ok (rngL 0 j.toNat) ρ) := if_pos (inW_is h1 h2)
@[simp] theorem irM1_e (f : EM) (ρ : Rho) : irM1 f ρ = bindO (f ρ) rg1 := eqI rfl
def rg2 (r s : R) (ρ : Rho) : Option (Oe (List PyData)) := match r, s with
  | .dat (.int i), .dat (.int j) => if inW i = true ∧ inW j = true then some (.ok (rngL i (j - i).toNat) ρ) else none
  | _, _ => none
theorem rg2_is {i j : Int} (ρ : Rho) (h1 : -4611686018427387904 ≤ i) (h2 : i < 4611686018427387904) (h3 : -4611686018427387904 ≤ j) (h4 : j < 4611686018427387904) : rg2 (.dat (.int i)) (.dat (.int j)) ρ = some (.ok (rngL i (j - i).toNat) ρ) := if_pos ⟨inW_is h1 h2, inW_is h3 h4⟩
@[simp] theorem irM2_e (f g : EM) (ρ : Rho) : irM2 f g ρ = bindO (f ρ) fun r ρ1 => bindO (g ρ1) fun s ρ2 => rg2 r s ρ2 := eqI rfl
@[simp] theorem wipeR_0 (ρ : Rho) : wipeR ρ [] = ρ := eqI rfl
@[simp] theorem wipeR_c (ρ : Rho) (v : Nat) (vs : List Nat) : wipeR ρ (v :: vs) = (wipeR ρ vs).set v none := eqI rfl
@[simp] theorem gsC_e (g : GM) (gs : GsM) (d : PyData) (ds : List PyData) (ρ : Rho) : gsC g gs (d :: ds) ρ = bindG (g d ρ) (gs ds) := by
  show (g d ρ).bind (gs ds) = bindG (g d ρ) (gs ds)
  unfold bindG
  cases g d ρ <;> rfl

/-! ### calls -/
def bindP (o : Option (List R)) (g : List R → Option (Oe R)) : Option (Oe R) := match o with
  | some a => g a
  | none => none
theorem bindP_cg {o o' : Option (List R)} {g : List R → Option (Oe R)} (h : o = o') : bindP o g = bindP o' g := by rw [h]
@[simp] theorem bindP_e (a : List R) (g : List R → Option (Oe R)) : bindP (some a) g = g a := eqI rfl
/-- behind a call -/
def bkO (o : Option (Oe R)) (ρ : Rho) (rs : List R) : Option (Oe R) := match o with
  | some (.ok r os) => some (.ok r (backA ρ rs os))
  | some (.er c fs os) => some (.er c fs (backA ρ rs os))
  | none => none
@[simp] theorem bkO_ok (r : R) (os ρ : Rho) (rs : List R) : bkO (some (.ok r os)) ρ rs = some (.ok r (backA ρ rs os)) := eqI rfl
@[simp] theorem bkO_er (c : Nat) (fs : List PyData) (os ρ : Rho) (rs : List R) : bkO (some (.er c fs os)) ρ rs = some (.er c fs (backA ρ rs os)) := eqI rfl
@[simp] theorem callM_e (sem : Sem) (fa : AM) (ρ : Rho) : callM sem fa ρ = bindO (fa ρ) fun rs ρ1 => pick (dist rs) (fun ρ => bindP (passA ρ rs) fun as => bkO (sem as) ρ rs) (fun _ => none) ρ1 := by
  unfold callM pick bindP bkO
  rfl
@[simp] theorem dist_0 : dist [] = true := eqI rfl
@[simp] theorem dist_d (d : PyData) (rs : List R) : dist (.dat d :: rs) = dist rs := eqI rfl
@[simp] theorem dist_o (d : PyData) (rs : List R) : dist (.own d :: rs) = dist rs := eqI rfl
@[simp] theorem dist_s (i : Nat) (rs : List R) : dist (.slt i :: rs) = ((posOf i rs).isNone && dist rs) := eqI rfl
@[simp] theorem posOf_0 (j : Nat) : posOf j [] = none := eqI rfl
@[simp] theorem posOf_d (j : Nat) (d : PyData) (rs : List R) : posOf j (.dat d :: rs) = (posOf j rs).map (· + 1) := eqI rfl
@[simp] theorem posOf_s (j i : Nat) (rs : List R) : posOf j (.slt i :: rs) = if (i == j) = true then some 0 else (posOf j rs).map (· + 1) := eqI rfl
@[simp] theorem passA_0 (ρ : Rho) : passA ρ [] = some [] := eqI rfl
def consP (a : Option R) (b : Option (List R)) : Option (List R) := match a, b with
  | some d, some ds => some (d :: ds)
  | _, _ => none
@[simp] theorem consP_e (d : R) (ds : List R) : consP (some d) (some ds) = some (d :: ds) := eqI rfl
@[simp] theorem passA_c (ρ : Rho) (r : R) (rs : List R) : passA ρ (r :: rs) = consP (pass1 ρ r) (passA ρ rs) := eqI rfl
@[simp] theorem pass1_d (ρ : Rho) (d : PyData) : pass1 ρ (.dat d) = some (.dat d) := eqI rfl
def p1 (o : Option (Option R)) : Option R := match o with
    | some (some (.own d)) => some (.own d)
    | some (some (.dat d)) => some (.dat d)
    | some (some (.st xs)) => some (.st xs)
    | _ => none
@[simp] theorem p1_o (d : PyData) : p1 (some (some (.own d))) = some (.own d) := eqI rfl
@[simp] theorem p1_d (d : PyData) : p1 (some (some (.dat d))) = some (.dat d) := eqI rfl
@[simp] theorem p1_s (d : List Int) : p1 (some (some (.st d))) = some (.st d) := eqI rfl
@[simp] theorem pass1_x (ρ : Rho) (c : Nat) (fs : List PyData) : pass1 ρ (.ex c fs) = some (.ex c fs) := eqI rfl
@[simp] theorem pass1_s (ρ : Rho) (i : Nat) : pass1 ρ (.slt i) = p1 ρ[i]? := eqI rfl
/-- a slot behind a call -/
def bk1 (x : Option R) (o : Option Nat) (os : Rho) : Option R := if isOwn x = true then match o with
    | some k => os[k]?.join
    | none => x
  else x
@[simp] theorem bk1_x (x : Option R) (os : Rho) : bk1 x none os = x := by unfold bk1; split <;> rfl
@[simp] theorem bk1_n (o : Option Nat) (os : Rho) : bk1 none o os = none := eqI rfl
@[simp] theorem bk1_d (d : PyData) (o : Option Nat) (os : Rho) : bk1 (some (.dat d)) o os = some (.dat d) := eqI rfl
@[simp] theorem bk1_o (d : PyData) (os : Rho) : bk1 (some (.own d)) none os = some (.own d) := eqI rfl
@[simp] theorem bk1_p (d : PyData) (k : Nat) (os : Rho) : bk1 (some (.own d)) (some k) os = os[k]?.join := eqI rfl
@[simp] theorem bk1_so (d : List Int) (os : Rho) : bk1 (some (.st d)) none os = some (.st d) := eqI rfl
@[simp] theorem bk1_sp (d : List Int) (k : Nat) (os : Rho) : bk1 (some (.st d)) (some k) os = os[k]?.join := eqI rfl
def bkL (rs : List R) (os : Rho) : Nat → Rho → Rho
  | _, [] => []
  | j, x :: xs => bk1 x (posOf j rs) os :: bkL rs os (j + 1) xs
@[simp] theorem bkL_0 (rs : List R) (os : Rho) (j : Nat) : bkL rs os j [] = [] := eqI rfl
@[simp] theorem bkL_c (rs : List R) (os : Rho) (j : Nat) (x : Option R) (xs : Rho) : bkL rs os j (x :: xs) = bk1 x (posOf j rs) os :: bkL rs os (j + 1) xs := eqI rfl
theorem bkL_is (rs : List R) (os : Rho) : ∀ (ρ : Rho) (j : Nat), bkL rs os j ρ = ρ.mapIdx fun i x => bk1 x (posOf (i + j) rs) os
  | [], _ => rfl
  | x :: xs, j => by
    rw [List.mapIdx_cons, bkL_c, bkL_is rs os xs (j + 1), Nat.zero_add]
    congr 1
    congr 1
    funext i y
    rw [Nat.add_assoc, Nat.add_comm 1 j]
@[simp] theorem backA_e (ρ : Rho) (rs : List R) (os : Rho) : backA ρ rs os = bkL rs os 0 ρ := by rw [bkL_is]; rfl

/-- the end of a def's run -/
def fnR (n : Nat) (pr : Nat → Bool) (o : Option Ot) : Option (Oe R) := match o with
    | some (.nx ρ) => some (.ok (.dat .none) (outs n pr ρ))
    | some (.rt r ρ) => some (.ok r (outs n pr ρ))
    | some (.er c fs ρ) => some (.er c fs (outs n pr ρ))
    | _ => none
@[simp] theorem fnR_nx (n : Nat) (pr : Nat → Bool) (ρ : Rho) : fnR n pr (some (.nx ρ)) = some (.ok (.dat .none) (outs n pr ρ)) := eqI rfl
@[simp] theorem fnR_rt (n : Nat) (pr : Nat → Bool) (r : R) (ρ : Rho) : fnR n pr (some (.rt r ρ)) = some (.ok r (outs n pr ρ)) := eqI rfl
@[simp] theorem fnR_er (n : Nat) (pr : Nat → Bool) (c : Nat) (fs : List PyData) (ρ : Rho) : fnR n pr (some (.er c fs ρ)) = some (.er c fs (outs n pr ρ)) := eqI rfl
theorem outs_1 (pr : Nat → Bool) (ρ : Rho) : outs 1 pr ρ = [if pr 0 = true then ρ[0]?.join else none] := rfl
theorem outs_2 (pr : Nat → Bool) (ρ : Rho) : outs 2 pr ρ = [if pr 0 = true then ρ[0]?.join else none, if pr 1 = true then ρ[1]?.join else none] := rfl
theorem outs_3 (pr : Nat → Bool) (ρ : Rho) : outs 3 pr ρ = [if pr 0 = true then ρ[0]?.join else none, if pr 1 = true then ρ[1]?.join else none, if pr 2 = true then ρ[2]?.join else none] := rfl
theorem outs_4 (pr : Nat → Bool) (ρ : Rho) : outs 4 pr ρ = [if pr 0 = true then ρ[0]?.join else none, if pr 1 = true then ρ[1]?.join else none, if pr 2 = true then ρ[2]?.join else none, if pr 3 = true then ρ[3]?.join else none] := rfl
theorem outs_5 (pr : Nat → Bool) (ρ : Rho) : outs 5 pr ρ = [if pr 0 = true then ρ[0]?.join else none, if pr 1 = true then ρ[1]?.join else none, if pr 2 = true then ρ[2]?.join else none, if pr 3 = true then ρ[3]?.join else none, if pr 4 = true then ρ[4]?.join else none] := rfl
theorem runD_at (n m : Nat) (pr : Nat → Bool) (f : SM) (args : List R) (h : args.length = n) : runD n m pr f args = fnR n pr (f (args.map some ++ List.replicate (m - n) none)) := by
  unfold runD; rw [if_pos h]; rfl

/-! ### data -/
@[simp] theorem dPlus_i (i j : Int) : dPlus (.int i) (.int j) = some (.dat (.int (i + j))) := eqI rfl
@[simp] theorem dPlus_l (i j : List PyData) : dPlus (.list i) (.list j) = if i.length + j.length ≤ lim then some (.own (.list (i ++ j))) else none := eqI rfl
@[simp] theorem dPlus_t (i j : List PyData) : dPlus (.tuple i) (.tuple j) = if i.length + j.length ≤ lim then some (.dat (.tuple (i ++ j))) else none := eqI rfl
@[simp] theorem dMinus_i (i j : Int) : dMinus (.int i) (.int j) = some (.dat (.int (i - j))) := eqI rfl
@[simp] theorem dMul_i (i j : Int) : dMul (.int i) (.int j) = if i.natAbs.log2 + j.natAbs.log2 < 1000000 then some (.dat (.int (i * j))) else none := eqI rfl
@[simp] theorem dFd_i (i j : Int) : dFd (.int i) (.int j) = if j ≠ 0 ∧ j.natAbs.log2 < 9000 then some (.dat (.int (i.fdiv j))) else none := eqI rfl
@[simp] theorem dMod_i (i j : Int) : dMod (.int i) (.int j) = if j ≠ 0 then some (.dat (.int (i.fmod j))) else none := eqI rfl
@[simp] theorem dNeg_i (i : Int) : dNeg (.int i) = some (.dat (.int (-i))) := eqI rfl
@[simp] theorem dLt_i (i j : Int) : dLt (.int i) (.int j) = some (.dat (.bool (decide (i < j)))) := eqI rfl
@[simp] theorem dLe_i (i j : Int) : dLe (.int i) (.int j) = some (.dat (.bool (decide (i ≤ j)))) := eqI rfl
@[simp] theorem dGt_i (i j : Int) : dGt (.int i) (.int j) = some (.dat (.bool (decide (j < i)))) := eqI rfl
@[simp] theorem dGe_i (i j : Int) : dGe (.int i) (.int j) = some (.dat (.bool (decide (j ≤ i)))) := eqI rfl
@[simp] theorem dIx_l (xs : List PyData) (i : Int) : dIx (.list xs) (.int i) = (atI xs i).map R.dat := eqI rfl
@[simp] theorem dIx_t (xs : List PyData) (i : Int) : dIx (.tuple xs) (.int i) = (atI xs i).map R.dat := eqI rfl
theorem shaped_int (i : Int) : SeqAt.shaped (.int i) = true := rfl
theorem shaped_bool (i : Bool) : SeqAt.shaped (.bool i) = true := rfl
theorem shaped_none : SeqAt.shaped .none = true := rfl
@[simp] theorem dEq_i (i j : Int) : dEq (.int i) (.int j) = some (.dat (.bool (decide (i = j)))) := by
  show (if SeqAt.shaped (.int i) = true ∧ SeqAt.shaped (.int j) = true then some (R.dat (.bool (PyData.eqv (.int i) (.int j)))) else none) = _
  rw [if_pos ⟨rfl, rfl⟩]; rfl
@[simp] theorem dNe_i (i j : Int) : dNe (.int i) (.int j) = some (.dat (.bool (!decide (i = j)))) := by
  show (if SeqAt.shaped (.int i) = true ∧ SeqAt.shaped (.int j) = true then some (R.dat (.bool (!PyData.eqv (.int i) (.int j)))) else none) = _
  rw [if_pos ⟨rfl, rfl⟩]; rfl
@[simp] theorem dEq_s (i j : Str) : dEq (.str i) (.str j) = some (.dat (.bool (decide (i = j)))) := eqI rfl
@[simp] theorem dNe_s (i j : Str) : dNe (.str i) (.str j) = some (.dat (.bool (!decide (i = j)))) := eqI rfl
@[simp] theorem lenD_l (ds : List PyData) : lenD (.list ds) = some (.dat (.int ds.length)) := eqI rfl
@[simp] theorem lenD_t (ds : List PyData) : lenD (.tuple ds) = some (.dat (.int ds.length)) := eqI rfl
@[simp] theorem tupD_l (ds : List PyData) : tupD (.list ds) = some (.dat (.tuple ds)) := eqI rfl
@[simp] theorem tupD_t (ds : List PyData) : tupD (.tuple ds) = some (.dat (.tuple ds)) := eqI rfl
@[simp] theorem lstD_l (ds : List PyData) : lstD (.list ds) = some (.own (.list ds)) := eqI rfl
@[simp] theorem lstD_t (ds : List PyData) : lstD (.tuple ds) = some (.own (.list ds)) := eqI rfl
@[simp] theorem intD_i (i : Int) : intD (.int i) = some (.dat (.int i)) := eqI rfl
@[simp] theorem intD_b (i : Bool) : intD (.bool i) = some (.dat (.int (if i then 1 else 0))) := eqI rfl
@[simp] theorem absD_i (i : Int) : absD (.int i) = some (.dat (.int (if i < 0 then -i else i))) := eqI rfl
@[simp] theorem max2D_i (i j : Int) : max2D (.int i) (.int j) = some (.dat (.int (if j > i then j else i))) := eqI rfl
@[simp] theorem min2D_i (i j : Int) : min2D (.int i) (.int j) = some (.dat (.int (if j < i then j else i))) := eqI rfl
@[simp] theorem sumD_l (ns : List Int) : sumD (.list (ns.map PyData.int)) = some (.dat (.int ns.sum)) := by simp [sumD]
@[simp] theorem sumD_t (ns : List Int) : sumD (.tuple (ns.map PyData.int)) = some (.dat (.int ns.sum)) := by simp [sumD]
@[simp] theorem allD_l (bs : List Bool) : allD (.list (bs.map PyData.bool)) = some (.dat (.bool (bs.all id))) := by simp [allD]
@[simp] theorem anyD_l (bs : List Bool) : anyD (.list (bs.map PyData.bool)) = some (.dat (.bool (bs.any id))) := by simp [anyD]
theorem atI_nn {α : Type} (xs : List α) (i : Int) (h : 0 ≤ i) : atI xs i = xs[i.toNat]? := by
  unfold atI ixN
  rw [if_pos h]
  split
  · rfl
  · rename_i g
    show none = _
    rw [List.getElem?_eq_none]
    omega
theorem atI_neg {α : Type} (xs : List α) (i : Int) (h : i < 0) (h2 : -(xs.length : Int) ≤ i) : atI xs i = xs[(i + xs.length).toNat]? := by
  unfold atI ixN
  rw [if_neg (by omega), if_pos h2]
  rfl

/-! ### loops -/
@[simp] theorem forM_e (it : IM) (g : GM) (body : SM) (ρ : Rho) : forM it g body ρ = bindS (it ρ) fun ds ρ1 => forL g body ds ρ1 := eqI rfl
@[simp] theorem lcM_e (it : IM) (g : GM) (vs : List Nat) (c : Rho → Option (Oe Bool)) (f : EM) (ρ : Rho) : lcM it g vs c f ρ = bindO (it ρ) fun ds ρ1 => lcL g vs c f ds (wipeR ρ1 vs) [] := eqI rfl
/-- one turn of a loop that goes on -/
def turn (g : GM) (body : SM) (x : PyData) (ρ : Rho) : Option Ot := match g x ρ with
  | none => none
  | some ρ1 => body ρ1
/-- a loop whose every turn goes on: I holds ahead of each -/
theorem forL_inv {g : GM} {body : SM} (I : List PyData → Rho → Prop) : ∀ (xs : List PyData) (ρ : Rho), I xs ρ →
    (∀ x r ρ, I (x :: r) ρ → ∃ ρ1 ρ2, g x ρ = some ρ1 ∧ (body ρ1 = some (.nx ρ2) ∨ body ρ1 = some (.ct ρ2)) ∧ I r ρ2) → ∃ ρ', forL g body xs ρ = some (.nx ρ') ∧ I [] ρ'
  | [], ρ, h, _ => ⟨ρ, rfl, h⟩
  | x :: r, ρ, h, st => by
    obtain ⟨ρ1, ρ2, e1, e2, h2⟩ := st x r ρ h
    obtain ⟨ρ', e3, h3⟩ := forL_inv I r ρ2 h2 st
    refine ⟨ρ', ?_, h3⟩
    show (match g x ρ with | none => none | some ρ1 => match body ρ1 with | some (.nx ρ2) => forL g body r ρ2 | some (.ct ρ2) => forL g body r ρ2 | some (.bk ρ2) => some (.nx ρ2) | o => o) = _
    rw [e1]
    rcases e2 with e2 | e2 <;> (simp only [e2]; exact e3)
/-- a comprehension whose every turn gives one thing: J holds ahead of each, P of what is given -/
theorem lcL_inv {g : GM} {vs : List Nat} {c : Rho → Option (Oe Bool)} {f : EM} (J : List PyData → List PyData → Rho → Prop) : ∀ (xs : List PyData) (ρ : Rho) (acc : List PyData), acc.length + xs.length ≤ lim → J xs acc ρ →
    (∀ x r acc ρ, J (x :: r) acc ρ → ∃ ρ1 ρ2, g x ρ = some ρ1 ∧ ((∃ q ρ3 ρ4 d, c ρ1 = some (.ok true ρ2) ∧ f ρ2 = some (.ok q ρ3) ∧ frz ρ3 q = some (d, ρ4) ∧ J r (acc ++ [d]) (wipeR ρ4 vs)) ∨ (c ρ1 = some (.ok false ρ2) ∧ J r acc (wipeR ρ2 vs)))) →
    ∃ ds ρ', lcL g vs c f xs ρ acc = some (.ok (.own (.list ds)) ρ') ∧ J [] ds ρ'
  | [], ρ, acc, _, h, _ => ⟨acc, ρ, rfl, h⟩
  | x :: r, ρ, acc, hl, h, st => by
    rw [List.length_cons] at hl
    obtain ⟨ρ1, ρ2, e1, z⟩ := st x r acc ρ h
    rcases z with ⟨q, ρ3, ρ4, d, e2, e3, e4, hJ⟩ | ⟨e2, hJ⟩
    · obtain ⟨ds, ρ', e5, h5⟩ := lcL_inv J r (wipeR ρ4 vs) (acc ++ [d]) (by rw [List.length_append]; simp only [List.length_cons, List.length_nil]; omega) hJ st
      refine ⟨ds, ρ', ?_, h5⟩
      unfold lcL
      simp only [e1, e2, e3, e4, bindN_ok, if_true]
      rw [if_pos (by omega)]
      exact e5
    · obtain ⟨ds, ρ', e5, h5⟩ := lcL_inv J r (wipeR ρ2 vs) acc (by omega) hJ st
      refine ⟨ds, ρ', ?_, h5⟩
      unfold lcL
      simp only [e1, e2, bindN_ok]
      exact e5
/-- the plain map: every turn leaves the slots as they were -/
theorem lcL_map {α : Type} {g : GM} {vs : List Nat} {f : EM} {ρ : Rho} (inD outD : α → PyData) (xs : List α) (hl : xs.length ≤ lim)
    (st : ∀ x ∈ xs, ∃ ρ1 q ρ3 ρ4, g (inD x) ρ = some ρ1 ∧ f ρ1 = some (.ok q ρ3) ∧ frz ρ3 q = some (outD x, ρ4) ∧ wipeR ρ4 vs = ρ) :
    lcL g vs yesT f (xs.map inD) ρ [] = some (.ok (.own (.list (xs.map outD))) ρ) := by
  have key : ∀ (xs : List α) (acc : List PyData), acc.length + xs.length ≤ lim → (∀ x ∈ xs, ∃ ρ1 q ρ3 ρ4, g (inD x) ρ = some ρ1 ∧ f ρ1 = some (.ok q ρ3) ∧ frz ρ3 q = some (outD x, ρ4) ∧ wipeR ρ4 vs = ρ) →
      lcL g vs yesT f (xs.map inD) ρ acc = some (.ok (.own (.list (acc ++ xs.map outD))) ρ) := by
    intro xs
    induction xs with
    | nil => intro acc _ _; rw [List.map_nil, List.map_nil, List.append_nil]; rfl
    | cons x r ih =>
      intro acc hl st
      rw [List.length_cons] at hl
      obtain ⟨ρ1, q, ρ3, ρ4, e1, e2, e3, e4⟩ := st x (List.mem_cons_self ..)
      have e5 := ih (acc ++ [outD x]) (by rw [List.length_append]; simp only [List.length_cons, List.length_nil]; omega) fun y hy => st y (List.mem_cons_of_mem _ hy)
      rw [List.map_cons, List.map_cons]
      unfold lcL
      simp only [e1, e2, e3, e4, bindN_ok, yesT_e, if_true]
      rw [if_pos (by omega), e5, List.append_assoc]
      rfl
  have := key xs [] (by simpa using hl) st
  simpa using this
end DL

/-! D19: plain facts on data. -/
namespace DL
open PySem L2

theorem canLayAll_of : ∀ {ds : List PyData}, (∀ d ∈ ds, d.canLay0 = true) → PyData.canLayAll0 ds = true
  | [], _ => by simp [PyData.canLayAll0]
  | d :: r, h => by
    simp only [PyData.canLayAll0, Bool.and_eq_true]
    exact ⟨h d (List.mem_cons_self ..), canLayAll_of fun x hx => h x (List.mem_cons_of_mem _ hx)⟩
theorem depthAll_of {n : Nat} : ∀ {ds : List PyData}, (∀ d ∈ ds, d.depth ≤ n) → PyData.depthAll ds ≤ n
  | [], _ => by simp [PyData.depthAll]
  | d :: r, h => by
    simp only [PyData.depthAll]
    exact Nat.max_le.mpr ⟨h d (List.mem_cons_self ..), depthAll_of fun x hx => h x (List.mem_cons_of_mem _ hx)⟩
theorem showableAll_of : ∀ {ds : List PyData}, (∀ d ∈ ds, d.showable = true) → PyData.showableAll ds = true
  | [], _ => by simp [PyData.showableAll]
  | d :: r, h => by
    simp only [PyData.showableAll, Bool.and_eq_true]
    exact ⟨h d (List.mem_cons_self ..), showableAll_of fun x hx => h x (List.mem_cons_of_mem _ hx)⟩
theorem shownAll_len {n : Nat} : ∀ {ds : List PyData}, (∀ d ∈ ds, d.shown.length ≤ n) → ((PyData.shownAll ds).map (·.length)).sum ≤ n * ds.length ∧ (PyData.shownAll ds).length = ds.length
  | [], _ => by simp [PyData.shownAll]
  | d :: r, h => by
    obtain ⟨a, b⟩ := shownAll_len (ds := r) fun x hx => h x (List.mem_cons_of_mem _ hx)
    have c := h d (List.mem_cons_self ..)
    simp only [PyData.shownAll, List.map_cons, List.sum_cons, List.length_cons, b, Nat.mul_add, Nat.mul_one]
    exact ⟨by omega, trivial⟩
/-- may be compared -/
structure Eqb (m : Nat) (d : PyData) : Prop where
  l : d.canLay0 = true
  p : d.depth ≤ m
theorem Eqb.int (i : Int) : Eqb 0 (.int i) := ⟨rfl, Nat.le_refl 0⟩
theorem Eqb.bool (i : Bool) : Eqb 0 (.bool i) := ⟨rfl, Nat.le_refl 0⟩
theorem Eqb.none : Eqb 0 .none := ⟨rfl, Nat.le_refl 0⟩
theorem Eqb.mono {m n : Nat} {d : PyData} (h : Eqb m d) (l : m ≤ n) : Eqb n d := ⟨h.l, Nat.le_trans h.p l⟩
theorem Eqb.list {m : Nat} {ds : List PyData} (h : ∀ d ∈ ds, Eqb m d) : Eqb (m + 1) (.list ds) :=
  ⟨by simp only [PyData.canLay0]; exact canLayAll_of fun d hd => (h d hd).l, by simp only [PyData.depth]; exact Nat.succ_le_succ (depthAll_of fun d hd => (h d hd).p)⟩
theorem Eqb.tuple {m : Nat} {ds : List PyData} (h : ∀ d ∈ ds, Eqb m d) : Eqb (m + 1) (.tuple ds) :=
  ⟨by simp only [PyData.canLay0]; exact canLayAll_of fun d hd => (h d hd).l, by simp only [PyData.depth]; exact Nat.succ_le_succ (depthAll_of fun d hd => (h d hd).p)⟩
theorem Eqb.shaped {m : Nat} {d : PyData} (h : Eqb m d) (l : m ≤ 64) : SeqAt.shaped d = true := by
  unfold SeqAt.shaped
  rw [h.l, Bool.true_and, decide_eq_true_eq]
  exact Nat.le_trans h.p l
theorem dNe_of {d e : PyData} {m n : Nat} (h : Eqb m d) (h2 : Eqb n e) (l : m ≤ 64) (l2 : n ≤ 64) (ns : ∀ i j, d = .str i → e = .str j → False) : dNe d e = some (.dat (.bool (!PyData.eqv d e))) := by
  unfold dNe
  split
  · exact (ns _ _ rfl rfl).elim
  · rw [if_pos ⟨h.shaped l, h2.shaped l2⟩]
theorem dEq_of {d e : PyData} {m n : Nat} (h : Eqb m d) (h2 : Eqb n e) (l : m ≤ 64) (l2 : n ≤ 64) (ns : ∀ i j, d = .str i → e = .str j → False) : dEq d e = some (.dat (.bool (PyData.eqv d e))) := by
  unfold dEq
  split
  · exact (ns _ _ rfl rfl).elim
  · rw [if_pos ⟨h.shaped l, h2.shaped l2⟩]
theorem eqv_nil (ds : List PyData) : PyData.eqv (.list ds) (.list []) = ds.isEmpty := by
  cases ds <;> simp [PyData.eqv, PyData.eqvAll]
/-- x != [] -/
theorem dNe_nil {ds : List PyData} {m : Nat} (h : ∀ d ∈ ds, Eqb m d) (l : m ≤ 63) : dNe (.list ds) (.list []) = some (.dat (.bool (!ds.isEmpty))) := by
  rw [dNe_of (Eqb.list h) (Eqb.list (m := 0) (ds := []) (by simp)) (by omega) (by omega) (by intro i j h; cases h), eqv_nil]

/-- may be shown, in at most n signs -/
structure Rp (n m : Nat) (d : PyData) : Prop where
  s : d.showable = true
  l : d.shown.length ≤ n
  p : d.depth ≤ m
theorem Rp.int {i : Int} (h : i.natAbs < 10 ^ 12) : Rp 13 0 (.int i) := by
  refine ⟨?_, PyData.shown_int_le h, Nat.le_refl 0⟩
  simp only [PyData.showable, decide_eq_true_eq]
  by_cases z : i.natAbs = 0
  · rw [z]; decide
  · exact Nat.lt_trans ((Nat.log2_lt z).mpr (Nat.lt_trans h (show 10 ^ 12 < 2 ^ 40 by decide))) (by decide)
theorem Rp.mono {n m n' m' : Nat} {d : PyData} (h : Rp n m d) (l : n ≤ n') (l2 : m ≤ m') : Rp n' m' d := ⟨h.s, Nat.le_trans h.l l, Nat.le_trans h.p l2⟩
theorem Rp.tuple {n m k : Nat} {ds : List PyData} (h : ∀ d ∈ ds, Rp n m d) (hl : ds.length ≤ k) : Rp ((n + 2) * k + 3) (m + 1) (.tuple ds) := by
  refine ⟨?_, ?_, ?_⟩
  · simp only [PyData.showable]; exact showableAll_of fun d hd => (h d hd).s
  · simp only [PyData.shown]
    obtain ⟨a, b⟩ := shownAll_len (n := n) (ds := ds) fun d hd => (h d hd).l
    have c := tupleText_len_le (PyData.shownAll ds)
    rw [b] at c
    have e : (n + 2) * ds.length ≤ (n + 2) * k := Nat.mul_le_mul_left _ hl
    have e' : (n + 2) * ds.length = n * ds.length + 2 * ds.length := Nat.add_mul ..
    omega
  · simp only [PyData.depth]; exact Nat.succ_le_succ (depthAll_of fun d hd => (h d hd).p)
theorem Rp.list {n m k : Nat} {ds : List PyData} (h : ∀ d ∈ ds, Rp n m d) (hl : ds.length ≤ k) : Rp ((n + 2) * k + 3) (m + 1) (.list ds) := by
  refine ⟨?_, ?_, ?_⟩
  · simp only [PyData.showable]; exact showableAll_of fun d hd => (h d hd).s
  · simp only [PyData.shown]
    obtain ⟨a, b⟩ := shownAll_len (n := n) (ds := ds) fun d hd => (h d hd).l
    have c := listText_len_le (PyData.shownAll ds)
    rw [b] at c
    have e : (n + 2) * ds.length ≤ (n + 2) * k := Nat.mul_le_mul_left _ hl
    have e' : (n + 2) * ds.length = n * ds.length + 2 * ds.length := Nat.add_mul ..
    omega
  · simp only [PyData.depth]; exact Nat.succ_le_succ (depthAll_of fun d hd => (h d hd).p)
theorem Rp.reprD {n m : Nat} {d : PyData} (h : Rp n m d) (l : n ≤ lim) (l2 : m ≤ 60) : reprD d = some (.dat (.str d.shown)) := by
  unfold DL.reprD
  rw [if_pos]
  unfold reprOk
  rw [h.s, Bool.true_and, Bool.and_eq_true, decide_eq_true_eq, decide_eq_true_eq]
  exact ⟨Nat.le_trans h.l l, Nat.le_trans h.p l2⟩

theorem log2_lt {i : Int} {n : Nat} (h1 : 0 ≤ i) (h2 : i < 2 ^ n) (hn : 0 < n): i.natAbs.log2 < n := by
  obtain ⟨m, rfl⟩ := Int.eq_ofNat_of_zero_le h1
  rw [Int.natAbs_natCast]
  by_cases h : m = 0
  · subst h; simpa using hn
  · rw [Nat.log2_lt h]
    exact_mod_cast h2
theorem mul_ok {i j : Int} (h1 : 0 ≤ i) (h2 : i < 2 ^ 62) (h3 : 0 ≤ j) (h4 : j < 2 ^ 62) : i.natAbs.log2 + j.natAbs.log2 < 1000000 := by
  have a := log2_lt (n := 62) h1 h2 (by decide)
  have b := log2_lt (n := 62) h3 h4 (by decide)
  omega
theorem mul_is {i j : Int} (h1 : 0 ≤ i) (h2 : i < 2 ^ 62) (h3 : 0 ≤ j) (h4 : j < 2 ^ 62) : dMul (.int i) (.int j) = some (.dat (.int (i * j))) := by
  rw [dMul_i, if_pos (mul_ok h1 h2 h3 h4)]
theorem rngL_length (lo : Int) (n : Nat) : (rngL lo n).length = n := by simp [rngL]
theorem rngL_mem {lo : Int} {n : Nat} {d : PyData} (h : d ∈ rngL lo n) : ∃ k : Nat, k < n ∧ d = .int (lo + k) := by
  simp only [rngL, List.mem_map, List.mem_range] at h
  obtain ⟨k, hk, rfl⟩ := h
  exact ⟨k, hk, rfl⟩
theorem rngL_zero (lo : Int) : rngL lo 0 = [] := rfl
theorem rngL_succ (lo : Int) (n : Nat) : rngL lo (n + 1) = .int lo :: rngL (lo + 1) n := by
  simp only [rngL, List.range_succ_eq_map, List.map_cons, List.map_map]
  congr 1
  · simp
  · apply List.map_congr_left
    intro k _
    simp only [Function.comp]
    congr 1
    simp only [Nat.succ_eq_add_one, Int.natCast_add]
    omega
theorem atI_of {α : Type} {xs : List α} {i : Int} (h : 0 ≤ i) (h2 : i < xs.length) : ∃ x, atI xs i = some x ∧ x ∈ xs := by
  refine ⟨xs[i.toNat]'(by omega), ?_, List.getElem_mem _⟩
  rw [atI_nn _ _ h, List.getElem?_eq_getElem (by omega)]
theorem atI_map {α β : Type} (f : α → β) {xs : List α} {i : Int} (h : 0 ≤ i) (h2 : i < xs.length) : ∃ x, atI (xs.map f) i = some (f x) ∧ x ∈ xs := by
  refine ⟨xs[i.toNat]'(by omega), ?_, List.getElem_mem _⟩
  rw [atI_nn _ _ h, List.getElem?_map, List.getElem?_eq_getElem (by omega)]
  rfl
theorem ix3 {x y z v : Int} (h1 : 0 ≤ v) (h2 : v < 3) : ∃ w, atI [PyData.int x, .int y, .int z] v = some (.int w) ∧ (w = x ∨ w = y ∨ w = z) := by
  have : v = 0 ∨ v = 1 ∨ v = 2 := by omega
  rcases this with rfl | rfl | rfl
  · exact ⟨x, rfl, .inl rfl⟩
  · exact ⟨y, rfl, .inr (.inl rfl)⟩
  · exact ⟨z, rfl, .inr (.inr rfl)⟩
theorem ix4 {x y z u v : Int} (h1 : 0 ≤ v) (h2 : v < 4) : ∃ w, atI [PyData.int x, .int y, .int z, .int u] v = some (.int w) ∧ (w = x ∨ w = y ∨ w = z ∨ w = u) := by
  have : v = 0 ∨ v = 1 ∨ v = 2 ∨ v = 3 := by omega
  rcases this with rfl | rfl | rfl | rfl
  · exact ⟨x, rfl, .inl rfl⟩
  · exact ⟨y, rfl, .inr (.inl rfl)⟩
  · exact ⟨z, rfl, .inr (.inr (.inl rfl))⟩
  · exact ⟨u, rfl, .inr (.inr (.inr rfl))⟩
/-! isinstance of the plain types -/
@[simp] theorem isi_int_none : isiD "int" .none = some (.dat (.bool false)) := by
  show (kitB "NoneType" "int").map (fun b => R.dat (.bool b)) = _
  rw [show kitB "NoneType" "int" = some false by decide +kernel]
  rfl
@[simp] theorem isi_int_bool (b : Bool) : isiD "int" (.bool b) = some (.dat (.bool true)) := by
  show (kitB "bool" "int").map (fun b => R.dat (.bool b)) = _
  rw [show kitB "bool" "int" = some true by decide +kernel]
  rfl
@[simp] theorem isi_int_int (i : Int) : isiD "int" (.int i) = some (.dat (.bool true)) := by
  show (kitB "int" "int").map (fun b => R.dat (.bool b)) = _
  rw [show kitB "int" "int" = some true by decide +kernel]
  rfl
@[simp] theorem isi_int_str (x : Str) : isiD "int" (.str x) = some (.dat (.bool false)) := by
  show (kitB "str" "int").map (fun b => R.dat (.bool b)) = _
  rw [show kitB "str" "int" = some false by decide +kernel]
  rfl
@[simp] theorem isi_int_list (xs : List PyData) : isiD "int" (.list xs) = some (.dat (.bool false)) := by
  show (kitB "list" "int").map (fun b => R.dat (.bool b)) = _
  rw [show kitB "list" "int" = some false by decide +kernel]
  rfl
@[simp] theorem isi_int_tuple (xs : List PyData) : isiD "int" (.tuple xs) = some (.dat (.bool false)) := by
  show (kitB "tuple" "int").map (fun b => R.dat (.bool b)) = _
  rw [show kitB "tuple" "int" = some false by decide +kernel]
  rfl
@[simp] theorem isi_int_dict (xs : List (PyData × PyData)) : isiD "int" (.dict xs) = some (.dat (.bool false)) := by
  show (kitB "dict" "int").map (fun b => R.dat (.bool b)) = _
  rw [show kitB "dict" "int" = some false by decide +kernel]
  rfl
@[simp] theorem isi_bool_none : isiD "bool" .none = some (.dat (.bool false)) := by
  show (kitB "NoneType" "bool").map (fun b => R.dat (.bool b)) = _
  rw [show kitB "NoneType" "bool" = some false by decide +kernel]
  rfl
@[simp] theorem isi_bool_bool (b : Bool) : isiD "bool" (.bool b) = some (.dat (.bool true)) := by
  show (kitB "bool" "bool").map (fun b => R.dat (.bool b)) = _
  rw [show kitB "bool" "bool" = some true by decide +kernel]
  rfl
@[simp] theorem isi_bool_int (i : Int) : isiD "bool" (.int i) = some (.dat (.bool false)) := by
  show (kitB "int" "bool").map (fun b => R.dat (.bool b)) = _
  rw [show kitB "int" "bool" = some false by decide +kernel]
  rfl
@[simp] theorem isi_bool_str (x : Str) : isiD "bool" (.str x) = some (.dat (.bool false)) := by
  show (kitB "str" "bool").map (fun b => R.dat (.bool b)) = _
  rw [show kitB "str" "bool" = some false by decide +kernel]
  rfl
@[simp] theorem isi_bool_list (xs : List PyData) : isiD "bool" (.list xs) = some (.dat (.bool false)) := by
  show (kitB "list" "bool").map (fun b => R.dat (.bool b)) = _
  rw [show kitB "list" "bool" = some false by decide +kernel]
  rfl
@[simp] theorem isi_bool_tuple (xs : List PyData) : isiD "bool" (.tuple xs) = some (.dat (.bool false)) := by
  show (kitB "tuple" "bool").map (fun b => R.dat (.bool b)) = _
  rw [show kitB "tuple" "bool" = some false by decide +kernel]
  rfl
@[simp] theorem isi_bool_dict (xs : List (PyData × PyData)) : isiD "bool" (.dict xs) = some (.dat (.bool false)) := by
  show (kitB "dict" "bool").map (fun b => R.dat (.bool b)) = _
  rw [show kitB "dict" "bool" = some false by decide +kernel]
  rfl
@[simp] theorem isi_tuple_none : isiD "tuple" .none = some (.dat (.bool false)) := by
  show (kitB "NoneType" "tuple").map (fun b => R.dat (.bool b)) = _
  rw [show kitB "NoneType" "tuple" = some false by decide +kernel]
  rfl
@[simp] theorem isi_tuple_bool (b : Bool) : isiD "tuple" (.bool b) = some (.dat (.bool false)) := by
  show (kitB "bool" "tuple").map (fun b => R.dat (.bool b)) = _
  rw [show kitB "bool" "tuple" = some false by decide +kernel]
  rfl
@[simp] theorem isi_tuple_int (i : Int) : isiD "tuple" (.int i) = some (.dat (.bool false)) := by
  show (kitB "int" "tuple").map (fun b => R.dat (.bool b)) = _
  rw [show kitB "int" "tuple" = some false by decide +kernel]
  rfl
@[simp] theorem isi_tuple_str (x : Str) : isiD "tuple" (.str x) = some (.dat (.bool false)) := by
  show (kitB "str" "tuple").map (fun b => R.dat (.bool b)) = _
  rw [show kitB "str" "tuple" = some false by decide +kernel]
  rfl
@[simp] theorem isi_tuple_list (xs : List PyData) : isiD "tuple" (.list xs) = some (.dat (.bool false)) := by
  show (kitB "list" "tuple").map (fun b => R.dat (.bool b)) = _
  rw [show kitB "list" "tuple" = some false by decide +kernel]
  rfl
@[simp] theorem isi_tuple_tuple (xs : List PyData) : isiD "tuple" (.tuple xs) = some (.dat (.bool true)) := by
  show (kitB "tuple" "tuple").map (fun b => R.dat (.bool b)) = _
  rw [show kitB "tuple" "tuple" = some true by decide +kernel]
  rfl
@[simp] theorem isi_tuple_dict (xs : List (PyData × PyData)) : isiD "tuple" (.dict xs) = some (.dat (.bool false)) := by
  show (kitB "dict" "tuple").map (fun b => R.dat (.bool b)) = _
  rw [show kitB "dict" "tuple" = some false by decide +kernel]
  rfl
@[simp] theorem isi_str_none : isiD "str" .none = some (.dat (.bool false)) := by
  show (kitB "NoneType" "str").map (fun b => R.dat (.bool b)) = _
  rw [show kitB "NoneType" "str" = some false by decide +kernel]
  rfl
@[simp] theorem isi_str_bool (b : Bool) : isiD "str" (.bool b) = some (.dat (.bool false)) := by
  show (kitB "bool" "str").map (fun b => R.dat (.bool b)) = _
  rw [show kitB "bool" "str" = some false by decide +kernel]
  rfl
@[simp] theorem isi_str_int (i : Int) : isiD "str" (.int i) = some (.dat (.bool false)) := by
  show (kitB "int" "str").map (fun b => R.dat (.bool b)) = _
  rw [show kitB "int" "str" = some false by decide +kernel]
  rfl
@[simp] theorem isi_str_str (x : Str) : isiD "str" (.str x) = some (.dat (.bool true)) := by
  show (kitB "str" "str").map (fun b => R.dat (.bool b)) = _
  rw [show kitB "str" "str" = some true by decide +kernel]
  rfl
@[simp] theorem isi_str_list (xs : List PyData) : isiD "str" (.list xs) = some (.dat (.bool false)) := by
  show (kitB "list" "str").map (fun b => R.dat (.bool b)) = _
  rw [show kitB "list" "str" = some false by decide +kernel]
  rfl
@[simp] theorem isi_str_tuple (xs : List PyData) : isiD "str" (.tuple xs) = some (.dat (.bool false)) := by
  show (kitB "tuple" "str").map (fun b => R.dat (.bool b)) = _
  rw [show kitB "tuple" "str" = some false by decide +kernel]
  rfl
@[simp] theorem isi_str_dict (xs : List (PyData × PyData)) : isiD "str" (.dict xs) = some (.dat (.bool false)) := by
  show (kitB "dict" "str").map (fun b => R.dat (.bool b)) = _
  rw [show kitB "dict" "str" = some false by decide +kernel]
  rfl
@[simp] theorem isi_list_none : isiD "list" .none = some (.dat (.bool false)) := by
  show (kitB "NoneType" "list").map (fun b => R.dat (.bool b)) = _
  rw [show kitB "NoneType" "list" = some false by decide +kernel]
  rfl
@[simp] theorem isi_list_bool (b : Bool) : isiD "list" (.bool b) = some (.dat (.bool false)) := by
  show (kitB "bool" "list").map (fun b => R.dat (.bool b)) = _
  rw [show kitB "bool" "list" = some false by decide +kernel]
  rfl
@[simp] theorem isi_list_int (i : Int) : isiD "list" (.int i) = some (.dat (.bool false)) := by
  show (kitB "int" "list").map (fun b => R.dat (.bool b)) = _
  rw [show kitB "int" "list" = some false by decide +kernel]
  rfl
@[simp] theorem isi_list_str (x : Str) : isiD "list" (.str x) = some (.dat (.bool false)) := by
  show (kitB "str" "list").map (fun b => R.dat (.bool b)) = _
  rw [show kitB "str" "list" = some false by decide +kernel]
  rfl
@[simp] theorem isi_list_list (xs : List PyData) : isiD "list" (.list xs) = some (.dat (.bool true)) := by
  show (kitB "list" "list").map (fun b => R.dat (.bool b)) = _
  rw [show kitB "list" "list" = some true by decide +kernel]
  rfl
@[simp] theorem isi_list_tuple (xs : List PyData) : isiD "list" (.tuple xs) = some (.dat (.bool false)) := by
  show (kitB "tuple" "list").map (fun b => R.dat (.bool b)) = _
  rw [show kitB "tuple" "list" = some false by decide +kernel]
  rfl
@[simp] theorem isi_list_dict (xs : List (PyData × PyData)) : isiD "list" (.dict xs) = some (.dat (.bool false)) := by
  show (kitB "dict" "list").map (fun b => R.dat (.bool b)) = _
  rw [show kitB "dict" "list" = some false by decide +kernel]
  rfl
@[simp] theorem isi_dict_none : isiD "dict" .none = some (.dat (.bool false)) := by
  show (kitB "NoneType" "dict").map (fun b => R.dat (.bool b)) = _
  rw [show kitB "NoneType" "dict" = some false by decide +kernel]
  rfl
@[simp] theorem isi_dict_bool (b : Bool) : isiD "dict" (.bool b) = some (.dat (.bool false)) := by
  show (kitB "bool" "dict").map (fun b => R.dat (.bool b)) = _
  rw [show kitB "bool" "dict" = some false by decide +kernel]
  rfl
@[simp] theorem isi_dict_int (i : Int) : isiD "dict" (.int i) = some (.dat (.bool false)) := by
  show (kitB "int" "dict").map (fun b => R.dat (.bool b)) = _
  rw [show kitB "int" "dict" = some false by decide +kernel]
  rfl
@[simp] theorem isi_dict_str (x : Str) : isiD "dict" (.str x) = some (.dat (.bool false)) := by
  show (kitB "str" "dict").map (fun b => R.dat (.bool b)) = _
  rw [show kitB "str" "dict" = some false by decide +kernel]
  rfl
@[simp] theorem isi_dict_list (xs : List PyData) : isiD "dict" (.list xs) = some (.dat (.bool false)) := by
  show (kitB "list" "dict").map (fun b => R.dat (.bool b)) = _
  rw [show kitB "list" "dict" = some false by decide +kernel]
  rfl
@[simp] theorem isi_dict_tuple (xs : List PyData) : isiD "dict" (.tuple xs) = some (.dat (.bool false)) := by
  show (kitB "tuple" "dict").map (fun b => R.dat (.bool b)) = _
  rw [show kitB "tuple" "dict" = some false by decide +kernel]
  rfl
@[simp] theorem isi_dict_dict (xs : List (PyData × PyData)) : isiD "dict" (.dict xs) = some (.dat (.bool true)) := by
  show (kitB "dict" "dict").map (fun b => R.dat (.bool b)) = _
  rw [show kitB "dict" "dict" = some true by decide +kernel]
  rfl

/-! ### one turn of a comprehension -/
def bindR {β : Type} (o : Option Rho) (g : Rho → Option β) : Option β := match o with
  | some ρ => g ρ
  | none => none
theorem bindR_cg {β : Type} {o o' : Option Rho} {g : Rho → Option β} (h : o = o') : bindR o g = bindR o' g := by rw [h]
@[simp] theorem bindR_e {β : Type} (ρ : Rho) (g : Rho → Option β) : bindR (some ρ) g = g ρ := eqI rfl
/-- what a turn gives, and the slots behind it -/
def ev (g : GM) (vs : List Nat) (c : Rho → Option (Oe Bool)) (f : EM) (x : PyData) (ρ : Rho) : Option (Option PyData × Rho) :=
  bindR (g x ρ) fun ρ1 => bindN (c ρ1) fun b ρ2 => pick b (fun ρ2 => bindN (f ρ2) fun q ρ3 => bindF (frz ρ3 q) fun d ρ4 => some (some d, wipeR ρ4 vs)) (fun ρ2 => some (none, wipeR ρ2 vs)) ρ2
theorem lcL_ev {g : GM} {vs : List Nat} {c : Rho → Option (Oe Bool)} {f : EM} (x : PyData) (xs : List PyData) (ρ : Rho) (acc : List PyData) {o : Option PyData} {ρ' : Rho} (h : ev g vs c f x ρ = some (o, ρ')) (hl : acc.length < lim) :
    lcL g vs c f (x :: xs) ρ acc = lcL g vs c f xs ρ' (acc ++ o.toList) := by
  unfold ev at h
  rw [lcL]
  cases e1 : g x ρ with
  | none => rw [e1] at h; cases h
  | some ρ1 =>
    rw [e1, bindR_e] at h
    simp only
    cases e2 : c ρ1 with
    | none => rw [e2] at h; cases h
    | some oc =>
      cases oc with
      | er _ _ _ => rw [e2] at h; cases h
      | ok b ρ2 =>
        rw [e2, bindN_ok] at h
        rw [bindN_ok]
        cases b with
        | false =>
          rw [pick_f] at h
          cases h
          simp
        | true =>
          rw [pick_t] at h
          rw [if_pos rfl]
          cases e3 : f ρ2 with
          | none => rw [e3] at h; cases h
          | some oq =>
            cases oq with
            | er _ _ _ => rw [e3] at h; cases h
            | ok q ρ3 =>
              rw [e3, bindN_ok] at h
              rw [bindN_ok]
              cases e4 : frz ρ3 q with
              | none => rw [e4] at h; cases h
              | some pr =>
                obtain ⟨d, ρ4⟩ := pr
                rw [e4, bindF_e] at h
                cases h
                simp only
                rw [if_pos hl]
                rfl
/-- a comprehension whose turns leave the slots as they were -/
theorem lcL_fm {α : Type} {g : GM} {vs : List Nat} {c : Rho → Option (Oe Bool)} {f : EM} {ρ : Rho} (inD : α → PyData) (out : α → Option PyData) (xs : List α) (hl : xs.length ≤ lim)
    (st : ∀ x ∈ xs, ev g vs c f (inD x) ρ = some (out x, ρ)) : lcL g vs c f (xs.map inD) ρ [] = some (.ok (.own (.list (xs.filterMap out))) ρ) := by
  have key : ∀ (xs : List α) (acc : List PyData), acc.length + xs.length ≤ lim → (∀ x ∈ xs, ev g vs c f (inD x) ρ = some (out x, ρ)) →
      lcL g vs c f (xs.map inD) ρ acc = some (.ok (.own (.list (acc ++ xs.filterMap out))) ρ) := by
    intro xs
    induction xs with
    | nil => intro acc _ _; rw [List.map_nil, List.filterMap_nil, List.append_nil]; rfl
    | cons x r ih =>
      intro acc hl st
      rw [List.length_cons] at hl
      rw [List.map_cons, lcL_ev _ _ _ _ (st x (List.mem_cons_self ..)) (by omega)]
      have : (out x).toList.length ≤ 1 := by cases out x <;> simp
      rw [ih _ (by rw [List.length_append]; omega) fun y hy => st y (List.mem_cons_of_mem _ hy), List.append_assoc]
      cases h : out x <;> simp [h]
  have := key xs [] (by simpa using hl) st
  simpa using this
theorem lcL_mp {α : Type} {g : GM} {vs : List Nat} {c : Rho → Option (Oe Bool)} {f : EM} {ρ : Rho} (inD out : α → PyData) (xs : List α) (hl : xs.length ≤ lim)
    (st : ∀ x ∈ xs, ev g vs c f (inD x) ρ = some (some (out x), ρ)) : lcL g vs c f (xs.map inD) ρ [] = some (.ok (.own (.list (xs.map out))) ρ) := by
  rw [lcL_fm inD (fun x => some (out x)) xs hl st, List.filterMap_eq_map']
end DL

/-! D20: sets of whole numbers: a set comprehension. -/
namespace DL
open PySem L2 PyProof.Rows PpSet

section
variable {X : Cx}
/-- an int goes into the set at D -/
theorem put_in {pins : List (Addr × Obj)} {σ : L2.St} {G : Hp} {t : Shared} {E : Value → Shared → Prop} {D : Addr} {S : Int → Bool} {n : Nat} {k : Int} {u : Value} {Q : Value → Shared → Prop} (J : L2.Inv X pins σ G t) (hD : G D = some (SetO X.w D S n)) (room : n + 1 < scanBound) (hu : L2.RelV (.int k) u)
    (q : ∀ t', L2.Inv X pins σ (upd G D (SetO X.w D (fun j => S j || decide (j = k)) (if S k = true then n else n + 1))) t' → Q .none t') : wpAny (model X.prog X.w) X.A (call (.builtin "set.add") [.ref D, u]) Q E t := by
  obtain ⟨tk, rfl⟩ := hu
  refine setR_add (setO_get J hD) room fun h' sb nw => q _ ?_
  obtain ⟨o, _, _, _, ho, _⟩ := id nw
  exact J.write (e := D) (t' := t.toks + 1) (by rw [hD]; trivial) (.inl rfl) (fun b v hb hv => (sb.2 b hb).trans hv) ⟨o, ho⟩ (setO_new nw)
/-- what a set comprehension of ints does; D the new set -/
def tSi (w : World) (wi : TI) (g : TG) (tt : TT) (te : TE) (vs : List Nat) : TE := fun σ H Q => wi σ H fun J H1 => ∀ D, H1 D = none → ∃ V : Nat → Nat → Hp → Prop, (∃ m, V 0 m (upd H1 D (SetO w D (fun _ => false) 0))) ∧
  ∀ i m H, V i m H → (J.stop i H ∧ Q (.ref D) H) ∨ (J.go i H ∧ ∃ N : Hp → Prop, (∀ H', N H' → ∃ m', m' < m ∧ V (i + 1) m' H') ∧
    ∀ x H', J.yld i H x H' → g x (wipe σ vs) H' fun σ2 H2 => wipe σ2 vs = wipe σ vs ∧ tt σ2 H2 fun b H3 => if b = true then te σ2 H3 fun y H4 => ∃ (k : Int) (S : Int → Bool) (n : Nat), y = .int k ∧ H4 D = some (SetO w D S n) ∧ n + 1 < scanBound ∧ N (upd H4 D (SetO w D (fun j => S j || decide (j = k)) (if S k = true then n else n + 1))) else N H3)
variable {elt tg iter : Expr} {ifs : List Expr} {scope : Scope} {own : List (PySem.Str × Nat)} {pos : Pos} {wi : TI} {g : TG} {tt : TT} {te : TE}
/-- the loop itself, its block laid out -/
theorem si_loop {pins : List (Addr × Obj)} {t0 t1 : Shared} {σ : L2.St} {G0 : Hp} {ce : Env} {fp : List Addr} {it D : Addr} {tn : Nat → Heap → Prop} {J : It} {V : Nat → Nat → Hp → Prop} {m0 : Nat} {Q : VK} {R : Result → Shared → Prop} (hc : X.calm = true)
    (T : Turn X.prog X.w X.K tg J fp it tn) (J0 : L2.Inv X pins σ G0 t0) (f0 : ∀ b ∈ fp, FpOk X pins G0 b ∧ b < t0.heap.objs.size) (cL : ce.locals = t0.heap.objs.size) (J1 : L2.Inv (X.blk t0 G0 scope ce fp) [] (wipe σ (own.map (·.2))) G0 t1) (s1 : tn 0 t1.heap) (v0 : V 0 m0 G0)
    (pg : PG (X.blk t0 G0 scope ce fp) tg g) (pt : PTs (X.blk t0 G0 scope ce fp) ifs tt) (pe : PE (X.blk t0 G0 scope ce fp) elt te)
    (turn : ∀ i m H, V i m H → (J.stop i H ∧ Q (.ref D) H) ∨ (J.go i H ∧ ∃ N : Hp → Prop, (∀ H', N H' → ∃ m', m' < m ∧ V (i + 1) m' H') ∧
      ∀ x H', J.yld i H x H' → g x (wipe σ (own.map (·.2))) H' fun σ2 H2 => wipe σ2 (own.map (·.2)) = wipe σ (own.map (·.2)) ∧ tt σ2 H2 fun b H3 => if b = true then te σ2 H3 fun y H4 => ∃ (k : Int) (S : Int → Bool) (n : Nat), y = .int k ∧ H4 D = some (SetO X.w D S n) ∧ n + 1 < scanBound ∧ N (upd H4 D (SetO X.w D (fun j => S j || decide (j = k)) (if S k = true then n else n + 1))) else N H3))
    (fin : ∀ t' m H', L2.Inv X pins σ H' t' → Q (.ref D) H' → t'.heap.Ns t0.heap.objs.size m → FpOk X pins H' t0.heap.objs.size → R (.ok .next) t') :
    codeAny (model X.prog X.w) X.A (.compLoop (.SetComp elt [⟨tg, iter, ifs, 0⟩] scope pos) 0 (.ref it) (.ref D) ce) R t1 := by
  have still : ∀ {τ : L2.St} {G : Hp} {t : Shared}, L2.Inv (X.blk t0 G0 scope ce fp) [] τ G t → (∀ b ∈ fp, G b = none) → ∀ b ∈ fp, FpOk (X.blk t0 G0 scope ce fp) [] G b := fun {τ G t} K hn b hb => by
    have z := K.ok.exf b hb
    exact ⟨hn b hb, z.1, K.ok.exfs b hb, .inl hb, fun x c e => z.2 x c e, fun p hp => absurd (show p ∈ ([] : List (Addr × Obj)) ++ [] from hp) (by simp)⟩
  refine compLoopS_any (fun m t => ∃ i G, L2.Inv (X.blk t0 G0 scope ce fp) [] (wipe σ (own.map (·.2))) G t ∧ tn i t.heap ∧ (∀ b ∈ fp, G b = none) ∧ V i m G) ?_ m0 ⟨0, G0, J1, s1, fun b hb => (f0 b hb).1.1, v0⟩
  rintro m t2 ⟨i, G2, J2, st2, nf, v2⟩
  rcases turn i m G2 v2 with ⟨stop, hq⟩ | ⟨go, N, hN, step⟩
  · refine thnF (T.done (X.blk t0 G0 scope ce fp) rfl rfl rfl hc i [] t2 _ G2 (fun _ _ => False) J2 (still J2 nf) st2 stop) fun r t3 ⟨er, J3⟩ => ?_
    subst er
    have back : L2.Inv X pins σ G2 t3 := J0.call' (ch := fp) J3.os J3.base J3.hok J3.bare fun b hb => by
      obtain ⟨_, z1, _, z3, z4, z5⟩ := (f0 b hb).1
      exact ⟨z3, z1, z4, z5⟩
    have nC : G2 t0.heap.objs.size = none := cL ▸ (J3.free : G2 ce.locals = none)
    obtain ⟨nm, hn, _⟩ := J3.loc
    have hn' : t3.heap.Ns ce.locals nm := hn
    rw [cL] at hn'
    exact fin t3 nm G2 back hq hn' (J0.fpOk (Nat.le_refl _) nC)
  · refine thnF (T.item (X.blk t0 G0 scope ce fp) rfl rfl rfl hc i [] t2 _ G2 (fun _ _ => False) J2 (still J2 nf) st2 go) fun r t3 ⟨u, er, w3⟩ => ?_
    subst er
    refine thnF w3 fun _ t4 ⟨x, G4, J4, rx, yl, st4, n4⟩ => ?_
    have J4p := J4.pinned (still J4 n4) (T.obj _ _ st4)
    refine thnF (pg.run _ t4 _ G4 x u _ J4p rx (step x G4 yl)) fun _ t5 ⟨σ5, G5, J5, hw5, q5⟩ => ?_
    refine thnF (pt.run _ t5 σ5 G5 _ J5 q5) fun b t6 ⟨G6, J6, q6⟩ => ?_
    have close : ∀ {t' : Shared} {G' : Hp}, L2.Inv (X.blk t0 G0 scope ce fp) ([] ++ pinsAt fp t4.heap) σ5 G' t' → N G' → ∃ m', m' < m ∧ ∃ i G, L2.Inv (X.blk t0 G0 scope ce fp) [] (wipe σ (own.map (·.2))) G t' ∧ tn i t'.heap ∧ (∀ b ∈ fp, G b = none) ∧ V i m' G := fun {t' G'} J' hn => by
      obtain ⟨m', hm, v'⟩ := hN G' hn
      have pin : ∀ b ∈ fp, ∀ o, t4.heap.get? b = some o → t'.heap.get? b = some o ∧ G' b = none := fun b hb o e => by
        have z := J'.pin (b, o) (List.mem_append_right _ (List.mem_append_right _ (mem_pinsAt hb e)))
        exact ⟨z.1, z.2.1⟩
      have len : (wipe σ (own.map (·.2))).length = σ5.length := by rw [← hw5, wipe_length]
      refine ⟨m', hm, i + 1, G', J'.unpinned.weak len (fun j v e => ?_), T.keep _ _ _ st4 fun b hb o e => (pin b hb o e).1, fun b hb => ?_, v'⟩
      · exact (wipe_some (hw5 ▸ e)).1
      · obtain ⟨o, e, _⟩ := T.obj _ _ st4 b hb
        exact (pin b hb o e).2
    cases b with
    | false => exact close J6 q6
    | true =>
      refine thnF (pe.run _ t6 σ5 G6 _ J6 q6) fun z t7 ⟨y, G7, J7, r7, k, S, n, ey, hD, room, hn⟩ => ?_
      subst ey
      exact put_in (X := X.blk t0 G0 scope ce fp) J7 hD room r7 fun t8 J8 => close J8 hn
/-- the set comprehension as a value -/
theorem pe_si (hc : X.calm = true) (hN : X.N.Nodup) (hi : PI X tg iter wi) (ok : BlkOk X.N X.env.scope scope own)
    (hg : ∀ (s : Shared) (H : Hp) (C : Addr) (cl : List (PySem.Str × Addr)) (fp : List Addr), PG (X.blk s H scope (compEnvC scope cl C X.env) fp) tg g)
    (ht : ∀ (s : Shared) (H : Hp) (C : Addr) (cl : List (PySem.Str × Addr)) (fp : List Addr), PTs (X.blk s H scope (compEnvC scope cl C X.env) fp) ifs tt)
    (he : ∀ (s : Shared) (H : Hp) (C : Addr) (cl : List (PySem.Str × Addr)) (fp : List Addr), PE (X.blk s H scope (compEnvC scope cl C X.env) fp) elt te)
    (hs : ∀ x, foldedSetIterable iter X.env x = pure x := by intro _; rfl) : PE X (.SetComp elt [⟨tg, iter, ifs, 0⟩] scope pos) (tSi X.w wi g tt te (own.map (·.2))) := by
  refine ⟨fun pins s σ H Q I h => ?_⟩
  have cells : ∀ y ∈ scope.names, y.2 = .free → ∃ c, X.env.cells.lookup y.1 = some c := fun y hy e => I.ok.has _ (ok.free y hy e)
  rw [eval_SetComp]
  refine wpAny_comprehension_free rfl hs (closure_ok cells) ok.kind (fun y hy e => by rw [ok.uniq y hy, e]) (thn (hi.run pins s σ H _ I h) fun xv s1 hx => thn hx fun itv s2 ⟨it, fp, tn, J, H2, ei, I2, T, st2, f2, q⟩ => ?_)
  subst ei
  refine newSet_ok (newEnv_comp ?_)
  have nD : H2 s2.heap.objs.size = none := I2.hok.fresh (Nat.le_refl _)
  obtain ⟨V, ⟨m0, v0⟩, turn⟩ := q _ nD
  have I3 : L2.Inv X pins σ (upd H2 s2.heap.objs.size (SetO X.w s2.heap.objs.size (fun _ => false) 0)) { s2 with heap := s2.heap.push { cls := .type "set", dict := none, data := .set #[] 0 (.fresh 0 0 (!X.w.params.followText "set-order")) } } :=
    I2.laid (t' := s2.toks) (fun b o e => Heap.get?_push_of_some _ e) (Nat.le_refl _) (setO_new (setR_fresh X.w))
  have f3 : ∀ b ∈ fp, FpOk X pins (upd H2 s2.heap.objs.size (SetO X.w s2.heap.objs.size (fun _ => false) 0)) b ∧ b < (s2.heap.push { cls := .type "set", dict := none, data := .set #[] 0 (.fresh 0 0 (!X.w.params.followText "set-order")) }).objs.size := fun b hb => by
    obtain ⟨o, e, _⟩ := T.obj _ _ st2 b hb
    have lt := Heap.lt_size e
    exact ⟨⟨by rw [upd_ne (Nat.ne_of_lt lt)]; exact (f2 b hb).1, (f2 b hb).2⟩, by rw [Heap.size_push]; exact Nat.lt_succ_of_lt lt⟩
  have J4 := block_start I3 ok hN f3
  have st4 := T.keep _ _ _ st2 fun b _ o e => pushCells_keeps scope.names _ _ _ (Heap.get?_push_of_some { cls := .type "dict", data := .dict #[] } (Heap.get?_push_of_some { cls := .type "set", dict := none, data := .set #[] 0 (.fresh 0 0 (!X.w.params.followText "set-order")) } e))
  have lp := si_loop (iter := iter) (pos := pos) (R := compPost (model X.prog X.w) X.A X.xe none (EP X pins σ Q) (.ref s2.heap.objs.size) _) hc T I3 f3 rfl J4 st4 v0 (hg _ _ _ _ _) (ht _ _ _ _ _) (he _ _ _ _ _) turn fun t' m H' J' hq hn f => ⟨m, hn, fun h'' sb => ?_⟩
  · exact codeAny_compStart_set lp (T.self X.A 0 _ _ _ st4 lp)
  · obtain ⟨f0, f1, f2, f3, f4, f5⟩ := f
    exact ⟨.ref _, H', J'.turned (t' := t'.toks) (fun b o hb e => (sb.2 b hb).trans e) f0 f1 f3 f4 f5, rfl, hq⟩
end
end DL

/-! D21: sets of whole numbers in the pieces; sorted(set). -/
namespace DL
open PySem L2 PyProof.Rows

/-! ### plain -/
def addK (acc : List Int) (k : Int) : List Int := if k ∈ acc then acc else acc ++ [k]
theorem addK_nodup {acc : List Int} {k : Int} (h : acc.Nodup) : (addK acc k).Nodup := by
  unfold addK
  split
  · exact h
  · rename_i hk
    rw [List.nodup_append]
    exact ⟨h, by simp, fun a ha b hb e => by rw [List.mem_singleton] at hb; exact hk (hb ▸ e ▸ ha)⟩
theorem addK_mem {acc : List Int} {k j : Int} : j ∈ addK acc k ↔ j ∈ acc ∨ j = k := by
  unfold addK
  split
  · rename_i hk
    exact ⟨.inl, fun h => h.elim id fun e => e ▸ hk⟩
  · simp
/-- in rising order, each once -/
def insU (k : Int) : List Int → List Int
  | [] => [k]
  | x :: r => if k < x then k :: x :: r else if k = x then x :: r else x :: insU k r
def sortU : List Int → List Int
  | [] => []
  | k :: r => insU k (sortU r)
theorem insU_mem {k j : Int} : ∀ {l : List Int}, j ∈ insU k l ↔ j = k ∨ j ∈ l
  | [] => by simp [insU]
  | x :: r => by
    unfold insU
    split
    · simp
    · split
      · rename_i e
        subst e
        simp
      · rw [List.mem_cons, insU_mem, List.mem_cons]
        constructor
        · rintro (h | h | h)
          · exact .inr (.inl h)
          · exact .inl h
          · exact .inr (.inr h)
        · rintro (h | h | h)
          · exact .inr (.inl h)
          · exact .inl h
          · exact .inr (.inr h)
theorem insU_pw {k : Int} : ∀ {l : List Int}, l.Pairwise (· < ·) → (insU k l).Pairwise (· < ·)
  | [], _ => by simp [insU]
  | x :: r, h => by
    rw [List.pairwise_cons] at h
    unfold insU
    split
    · rename_i hk
      rw [List.pairwise_cons, List.pairwise_cons]
      refine ⟨fun y hy => ?_, h.1, h.2⟩
      rcases List.mem_cons.mp hy with e | e
      · omega
      · have := h.1 y e
        omega
    · split
      · rw [List.pairwise_cons]; exact h
      · rw [List.pairwise_cons]
        refine ⟨fun y hy => ?_, insU_pw h.2⟩
        rcases insU_mem.mp hy with e | e
        · omega
        · exact h.1 y e
theorem sortU_mem {j : Int} : ∀ {l : List Int}, j ∈ sortU l ↔ j ∈ l
  | [] => by simp [sortU]
  | x :: r => by rw [sortU, insU_mem, sortU_mem, List.mem_cons]
theorem sortU_pw : ∀ {l : List Int}, (sortU l).Pairwise (· < ·)
  | [] => by simp [sortU]
  | x :: r => insU_pw sortU_pw
theorem pw_eq : ∀ {a b : List Int}, a.Pairwise (· < ·) → b.Pairwise (· < ·) → (∀ k, k ∈ a ↔ k ∈ b) → a = b
  | [], [], _, _, _ => rfl
  | [], y :: b, _, _, h => absurd ((h y).mpr (List.mem_cons_self ..)) (by simp)
  | x :: a, [], _, _, h => absurd ((h x).mp (List.mem_cons_self ..)) (by simp)
  | x :: a, y :: b, ha, hb, h => by
    rw [List.pairwise_cons] at ha hb
    have e : x = y := by
      rcases List.mem_cons.mp ((h x).mp (List.mem_cons_self ..)) with e | e
      · exact e
      · rcases List.mem_cons.mp ((h y).mpr (List.mem_cons_self ..)) with e' | e'
        · exact e'.symm
        · have := hb.1 x e
          have := ha.1 y e'
          omega
    subst e
    rw [pw_eq ha.2 hb.2 fun k => ?_]
    constructor
    · intro hk
      rcases List.mem_cons.mp ((h k).mp (List.mem_cons_of_mem _ hk)) with e | e
      · have := ha.1 k hk
        omega
      · exact e
    · intro hk
      rcases List.mem_cons.mp ((h k).mpr (List.mem_cons_of_mem _ hk)) with e | e
      · have := hb.1 k hk
        omega
      · exact e

/-! ### pieces -/
def scL (g : GM) (vs : List Nat) (c : Rho → Option (Oe Bool)) (f : EM) : List PyData → Rho → List Int → Option (Oe R)
  | [], ρ, acc => some (.ok (.st acc) ρ)
  | x :: xs, ρ, acc => match g x ρ with
    | none => none
    | some ρ1 => bindN (c ρ1) fun b ρ2 => if b = true then bindN (f ρ2) fun r ρ3 => match r with
        | .dat (.int k) => if acc.length < 100 then scL g vs c f xs (wipeR ρ3 vs) (addK acc k) else none
        | _ => none
      else scL g vs c f xs (wipeR ρ2 vs) acc
def scM (it : IM) (g : GM) (vs : List Nat) (c : Rho → Option (Oe Bool)) (f : EM) : EM := fun ρ => bindO (it ρ) fun ds ρ1 => scL g vs c f ds (wipeR ρ1 vs) []
/-- sorted(a set) -/
def srtR (r : R) (ρ : Rho) : Option (Oe R) := match r with
  | .st xs => if xs.length < 64 then some (.ok (.own (.list ((sortU xs).map .int))) ρ) else none
  | _ => none
def sortSM (f : EM) : EM := fun ρ => bindO (f ρ) srtR

section
variable {X : Cx} {T : Tb} {W : WX} {pr : Nat → Bool} {it : IM} {g : GM} {vs : List Nat} {c : Rho → Option (Oe Bool)} {f : EM}
theorem setAt_add {w : World} {D : Addr} {S : Int → Bool} {acc : List Int} {k : Int} {H : Hp} (hn : acc.Nodup) (hS : ∀ j, S j = true ↔ j ∈ acc) : SetAt w (upd H D (SetO w D (fun j => S j || decide (j = k)) (if S k = true then acc.length else acc.length + 1))) D (addK acc k) := by
  refine ⟨fun j => S j || decide (j = k), ?_, addK_nodup hn, fun j => ?_⟩
  · rw [upd_same]
    have : (addK acc k).length = if S k = true then acc.length else acc.length + 1 := by
      unfold addK
      by_cases h : S k = true
      · rw [if_pos ((hS k).mp h), if_pos h]
      · rw [if_neg (fun z => h ((hS k).mpr z)), if_neg h, List.length_append]; rfl
    rw [this]
  · rw [Bool.or_eq_true, decide_eq_true_eq, hS j, addK_mem]
theorem sc_of {σ : L2.St} {H : Hp} {Q : VK} (hpr : ∀ i, i ∉ vs → pr i = true) (h : Tof T W (tlE T) (scM it g vs c f) σ H Q) : tSi T.w (Tof T W (tlI T) it) (TGof T pr g) (Tof T W0 tlB c) (Tof T W0 (tlE T) f) vs σ H Q := by
  obtain ⟨ρ, F, O, E, P⟩ := h
  refine stp .refl E P fun J H1 ds ρ1 F1 O1 x1 y1 E1 r1 P1 => ?_
  intro D hD
  have hDB : H D = none := y1.live D hD
  obtain ⟨Ow, Ew, sw⟩ := E1.wiped (vs := vs)
  refine ⟨fun i m H' => ∃ ρ' F' O' acc, m = ds.length - i ∧ i ≤ ds.length ∧ Ext false H F O H' F' O' ∧ EnvR T H' F' O' (wipe σ vs) ρ' ∧ SetAt T.w H' D acc ∧ ¬ F' D ∧ (∀ j, O' j ≠ some D) ∧ Kept F1 H1 H' ∧ (∀ b, F1 b → F' b) ∧ Post T W (tlE T) σ H F O Q (scL g vs c f (ds.drop i) ρ' acc),
    ⟨ds.length, wipeR ρ1 vs, F1, Ow, [], by simp, Nat.zero_le _, ?_, Ew.laid hD, ⟨_, upd_same, List.nodup_nil, by simp⟩, fun q => E1.lv D q hD, fun j q => E1.ne_new hD j (sw j D q), kept_all (kept_new hD), fun _ h => h, P1⟩, ?_⟩
  · have y2 : Ext false H F O (upd H1 D (SetO T.w D (fun _ => false) 0)) F1 O1 := y1.trans (.laid hD)
    exact ⟨y2.keep, y2.live, y2.grow, y2.new, fun j b e => y2.own j b (sw j b e)⟩
  rintro i m H' ⟨ρ', F', O', acc, rfl, hi, x', E', sa, nD, oD, kp, gF, P'⟩
  by_cases hlt : i < ds.length
  · have hd : ds[i]? = some ds[i] := by simp [hlt]
    rw [List.drop_eq_getElem_cons hlt] at P'
    obtain ⟨go, yl⟩ := r1.go H' kp i _ hd
    refine .inr ⟨go, fun H2 => ∃ ρ' F' O' acc, i + 1 ≤ ds.length ∧ Ext false H F O H2 F' O' ∧ EnvR T H2 F' O' (wipe σ vs) ρ' ∧ SetAt T.w H2 D acc ∧ ¬ F' D ∧ (∀ j, O' j ≠ some D) ∧ Kept F1 H1 H2 ∧ (∀ b, F1 b → F' b) ∧ Post T W (tlE T) σ H F O Q (scL g vs c f (ds.drop (i + 1)) ρ' acc), fun H2 ⟨ρ2, F2, O2, ac, a, b⟩ => ⟨ds.length - (i + 1), by omega, ρ2, F2, O2, ac, rfl, a, b⟩, fun x H'' y => ?_⟩
    obtain ⟨kH, dx⟩ := yl x H'' y
    have gr : Gr H' F' H'' F' := ⟨kH, fun _ h => h, fun _ h => .inl h⟩
    refine ⟨ds[i], ρ', F', O', E'.gr gr, dx.mono .refl gF, ?_⟩
    rw [scL] at P'
    cases q : g ds[i] ρ' with
    | none => rw [q] at P'; exact P'.elim
    | some ρ2 =>
      rw [q] at P'
      dsimp only at P'
      refine fun σ3 O3 E3 k3 s3 => ?_
      have hw : wipe σ3 vs = wipe σ vs := by
        have e0 : wipe σ3 vs = wipe (wipe σ vs) vs := wipe_eq k3.1 fun j hj => k3.2 j (hpr j hj)
        rw [e0]
        exact wipe_eq (wipe_length σ vs) fun j hj => wipe_other hj
      have oD' : ∀ j, O3 j ≠ some D := fun j z => oD j (s3 j D z)
      have x3 : Ext false H F O H'' F' O3 := ⟨fun b o h n z => kH b o (x'.keep b o h n z), fun b h => x'.live b (gr.live b h), x'.grow, x'.new, fun j b e => x'.own j b (s3 j b e)⟩
      have kp3 : Kept F1 H1 H'' := kp.trans gF (kept_all kH)
      have sa3 : SetAt T.w H'' D acc := sa.mono fun o h => kH D o h
      obtain ⟨o3, ho3, _⟩ := sa3.there
      refine ⟨hw, ?_⟩
      refine tof_N (Pp := Post T W (tlE T) σ H F O Q) (fun z => z) E3 P' fun b H4 b' ρ4 F4 O4 x4 E4 r4 P4 => ?_
      have r4' : b = b' := r4
      subst r4'
      have nD4 : ¬ F4 D := fun z => by
        rcases x4.new D z with z | ⟨j, z⟩ | z
        · exact nD z
        · exact oD' j z
        · rw [ho3] at z; cases z
      have oD4 : ∀ j, O4 j ≠ some D := fun j z => (x4.ow z).elim (fun ⟨k, y⟩ => oD' k y) fun y => by rw [ho3] at y; cases y
      have kp4 := kp3.trans gF (E3.kept x4)
      have sa4 : SetAt T.w H4 D acc := sa3.mono fun o h => x4.keep D o h oD' (sa3.nc h).1
      obtain ⟨o4, ho4, _⟩ := sa4.there
      cases b with
      | false =>
        rw [if_neg Bool.false_ne_true] at P4 ⊢
        obtain ⟨O5, E5, s5⟩ := E4.wiped (vs := vs)
        rw [hw] at E5
        have y4 := x3.trans x4
        exact ⟨_, F4, O5, acc, hlt, ⟨y4.keep, y4.live, y4.grow, y4.new, fun j b e => y4.own j b (s5 j b e)⟩, E5, sa4, nD4, fun j z => oD4 j (s5 j D z), kp4, fun b h => x4.grow b (gF b h), P4⟩
      | true =>
        rw [if_pos rfl] at P4 ⊢
        refine tof_N (Pp := Post T W (tlE T) σ H F O Q) (fun z => z) E4 P4 fun v H5 r ρ5 F5 O5 x5 E5 r5 P5 => ?_
        have nD5 : ¬ F5 D := fun z => by
          rcases x5.new D z with z | ⟨j, z⟩ | z
          · exact nD4 z
          · exact oD4 j z
          · rw [ho4] at z; cases z
        have oD5 : ∀ j, O5 j ≠ some D := fun j z => (x5.ow z).elim (fun ⟨k, y⟩ => oD4 k y) fun y => by rw [ho4] at y; cases y
        have kp5 := kp4.trans (fun b h => x4.grow b (gF b h)) (E4.kept x5)
        have sa5 : SetAt T.w H5 D acc := sa4.mono fun o h => x5.keep D o h oD4 (sa4.nc h).1
        obtain ⟨S, hS, nd, hm⟩ := sa5
        split at P5
        · rename_i k
          split at P5
          · rename_i hz
            have ev : v = .int k := by
              have r5' : DF T.K H5 F5 v (.int k) := r5
              cases r5'
              rfl
            have y5 := (x3.trans x4).trans x5
            refine ⟨k, S, acc.length, ev, hS, Nat.lt_of_le_of_lt (Nat.succ_le_of_lt hz) (by decide), ?_⟩
            obtain ⟨O7, E7, s7⟩ := E5.wiped (vs := vs)
            rw [hw] at E7
            obtain ⟨E8, k8⟩ := E7.other (o' := SetO T.w D (fun j => S j || decide (j = k)) (if S k = true then acc.length else acc.length + 1)) hS (fun z => z) nD5 fun j z => oD5 j (s7 j D z)
            refine ⟨_, F5, O7, addK acc k, hlt, ⟨fun b o h n z => ?_, fun b h => ?_, y5.grow, y5.new, fun j b e => y5.own j b (s7 j b e)⟩, E8, setAt_add nd hm, nD5, fun j z => oD5 j (s7 j D z), ?_, fun b h => x5.grow b (x4.grow b (gF b h)), P5⟩
            · rw [upd_ne (ne_of_none h hDB)]
              exact y5.keep b o h n z
            · by_cases e : b = D
              · subst e; exact hDB
              · rw [upd_ne e] at h
                exact y5.live b h
            · exact kp5.trans (fun b h => x5.grow b (x4.grow b (gF b h))) k8
          · exact P5.elim
        · exact P5.elim
  · have e : i = ds.length := by omega
    subst e
    rw [List.drop_length] at P'
    exact .inl ⟨r1.stop H' kp _ (Nat.le_refl _) (Nat.le_refl _), P' (.ref D) H' F' O' x' E'.unwipe ⟨D, rfl, hDB, nD, oD, sa⟩⟩
variable {n : Nat} {elt tg iter : Expr} {ifs : List Expr} {scope : Scope} {own : List (Str × Nat)} {pos p : Pos}
theorem se_sc (cx : Cxt X T W n) (hi : SI X T W tg iter it) (ok : BlkOk X.N X.env.scope scope own)
    (hg : ∀ (s : Shared) (H : Hp) (C : Addr) (cl : List (Str × Addr)) (fp : List Addr), SG (X.blk s H scope (compEnvC scope cl C X.env) fp) T (prB (own.map (·.2))) tg g)
    (ht : ∀ (s : Shared) (H : Hp) (C : Addr) (cl : List (Str × Addr)) (fp : List Addr), STs (X.blk s H scope (compEnvC scope cl C X.env) fp) T ifs c)
    (he : ∀ (s : Shared) (H : Hp) (C : Addr) (cl : List (Str × Addr)) (fp : List Addr), SE (X.blk s H scope (compEnvC scope cl C X.env) fp) T W0 elt f) (hs : ∀ x, foldedSetIterable iter X.env x = pure x := by intro _; rfl) :
    SE X T W (.SetComp elt [⟨tg, iter, ifs, 0⟩] scope pos) (scM it g (own.map (·.2)) c f) :=
  pe_imp (pe_si cx.calm cx.nd hi ok hg ht he hs) fun _ _ _ h => by rw [cx.hw]; exact sc_of prB_ok h
theorem sorted_of {σ : L2.St} {H : Hp} {Q : VK} (h : Tof T W (tlE T) (sortSM f) σ H Q) : tCB (rSortedSet T.w) (tCons (Tof T W (tlE T) f) tNil) σ H Q := by
  obtain ⟨ρ, F, O, E, P⟩ := h
  refine stp .refl E P fun v H1 r ρ1 F1 O1 x1 y1 E1 r1 P1 => ?_
  cases r with
  | st xs =>
    obtain ⟨a, rfl, _, nF, nO, S, hS, nd, hm⟩ := r1
    unfold srtR at P1
    dsimp only at P1
    split at P1
    · rename_i h64
      refine ⟨a, S, xs.length, rfl, hS, h64, fun ns q pw mem len hq => ?_⟩
      have e : ns = sortU xs := pw_eq pw sortU_pw fun k => by rw [mem, hm, sortU_mem]
      subst e
      exact fin_op y1 E1 P1 (.laid hq) (resN_lst hq (fun z => E1.lv q z hq) (DFs.of_ints _))
    · exact P1.elim
  | dat d => exact P1.elim
  | own d => exact P1.elim
  | slt d => exact P1.elim
  | fn d => exact P1.elim
  | ex d e => exact P1.elim
  | two d e => exact P1.elim
theorem e_sortS {N : List Str} {sc : Scope} {e : Expr} (a : At X N sc) (cx : Cxt X T W n) (hx : gnB sc "sorted" = true) (hm : X.mg "sorted" = none) (he : SE X T W e f)
    (hs : starEach [e] X.env = (false, eval e X.env) :: starEach [] X.env := by rfl) (hpl : (backTo pos (starEach [] X.env)).any (·.1) = false := by rfl) :
    SE X T W (.Call (.Name "sorted" p) [e] [] pos) (sortSM f) :=
  pe_imp (pe_callB (cr_sortedSet cx.calm) (a.gl hx).1 hm rfl (pa_cons he pa_nil hs) (a.gl hx).2.2 (a.gl hx).2.1 hs hpl) fun _ _ _ h => by rw [cx.hw]; exact sorted_of h
end
end DL

/-! D22: set(xs) of a list of whole numbers. -/
namespace DL
open PySem L2 PyProof.Rows

/-- a set just made -/
abbrev nuS (w : World) : Obj := { cls := .type "set", dict := none, data := .set #[] 0 (.fresh 0 0 (!w.params.followText "set-order")) }
section
variable {P : Program} {w : World} {A : Around} {E : Value → Shared → Prop} {s : Shared}
theorem set_of_list {l : Addr} {items : Array Value} (ns : List Int) {Q : Value → Shared → Prop} (hh : A.handled = none) (hl : s.heap.IsList l items) (hit : IntsAre items.toList ns) (hb : ns.length + 1 < scanBound)
    (h : ∀ (g : Heap) (tk c : Nat), SetR w g s.heap.objs.size (fun j => decide (j ∈ ns)) c → (∀ b o, s.heap.get? b = some o → g.get? b = some o) → Q (.ref s.heap.objs.size) { s with heap := g, toks := tk }) :
    wpAny (model P w) A (call (.type "set") [.ref l]) Q E s := by
  have size_is : items.size = ns.length := by rw [← Array.length_toList]; exact IntsAre.length hit
  obtain ⟨mc, mt, mro⟩ := F.called_set.mro
  have made := F.called_set.made
  have subs := F.called_set.sub
  refine wpAny_call (codeAny_of_tree ?_)
  show wpAny (model P w) _ (callAny (.type "set") ⟨[.ref l], []⟩) _ _ _
  refine wpAny_pure ⟨Code.quiet_builtin _ (by decide +kernel), codeAny_builtin F.entry_type_call ?_⟩
  rw [Around.under_plain (weight_type_call_type "set" [.ref l] []) rfl]
  have u1 := F.called_set.notType
  have u2 := F.called_set.canCreate
  have u3 := F.typeCall_set_1 (.ref l)
  repeat (any_goals (first | assumption | wp_step))
  refine codeAny_mono (code_set_led1 (.ref l) (E := E) (Q₁ := fun obj t => obj = .ref s.heap.objs.size ∧ t = { s with heap := s.heap.push (nuS w) }) ⟨rfl, rfl⟩) fun r t ht => ?_
  cases r with
  | error e => exact ht
  | ok fl => cases fl with
    | ret obj =>
      obtain ⟨rfl, rfl⟩ := ht
      have gS : (s.heap.push (nuS w)).get? s.heap.objs.size = some (nuS w) := Heap.get?_push_size _ rfl
      have tS : Shared.TypeIs { s with heap := s.heap.push (nuS w) } (.ref s.heap.objs.size) "set" := ⟨_, gS, rfl⟩
      have i1 := F.called_set.init.lookup
      have i2 := F.called_set.init.bind (.ref s.heap.objs.size)
      repeat (any_goals (first | assumption | wp_step))
      refine codeAny_mono (codeAny_call_builtin (R := wants (fun r t => r = .none ∧ ∃ g tk c, t = { s with heap := g, toks := tk } ∧ SetR w g s.heap.objs.size (fun j => decide (j ∈ ns)) c ∧ (∀ b o, s.heap.get? b = some o → g.get? b = some o)) E) F.called_set.init.plain F.entry_set_init (check_set_init_1 tS ?_)) fun r2 t2 h2 => ?_
      · obtain ⟨⟨lc, ld, lda, lsl⟩, gl, cl, nl, dl⟩ := hl
        simp only at cl dl
        subst cl dl
        have gl' : (s.heap.push (nuS w)).get? l = some { cls := .type "list", dict := ld, data := .seq items nl, slots := lsl } := Heap.get?_push_of_some _ gl
        have n1 := F.sub_list_set
        have n2 := F.sub_list_frozenset
        have n3 : (Value.type "list" == Value.type "dict") = false := by decide
        have isl : (s.heap.push (nuS w)).IsList l items := ⟨_, gl', rfl, nl, rfl⟩
        have ltl : l < s.heap.objs.size := Heap.lt_size gl
        unfold Builtin.«set.__init__» noKeywords Builtin.Frozenset.updateFrom
        generalize hPI : pyIter = PI
        wp_walk
        subst hPI
        refine wpAny_pyIter_list isl (wpAny_bind (wpAny_runValue ?_))
        have h3 : A.in1.in1.in1.handled = none := by simp [hh]
        have z1 : (s.heap.push (nuS w)).objs.size = s.heap.objs.size + 1 := Heap.size_push ..
        refine set_update_ints ((Walks.list h3 _ l (by rw [z1]; exact Nat.ne_of_lt (Nat.lt_succ_of_lt ltl)) items).toS) s.heap.objs.size (by rw [z1]; simp only [List.mem_cons, List.not_mem_nil, or_false, not_or]; exact ⟨Nat.ne_of_lt (Nat.lt_succ_self _), Nat.ne_of_gt ltl⟩) ns size_is hb (fun i v hv => ?_) (items.size - 0) 0 _ (by omega) (Nat.zero_le _) ⟨⟨_, Heap.get?_push_size _ rfl, rfl, rfl⟩, isl.push _⟩ ⟨0, Nat.le_refl 0, setR_new_at (Heap.get?_push_of_some _ gS)⟩ ?_
        · have hi : i < ns.length := by rw [← size_is]; exact (Array.getElem?_eq_some_iff.mp hv).1
          obtain ⟨t, e⟩ := IntsAre.int_at hit i v (by rw [Array.getElem?_toList]; exact hv)
          exact ⟨ns[i], t, List.getElem?_eq_getElem hi, by rw [e, List.getD_eq_getElem?_getD, List.getElem?_eq_getElem hi]; rfl⟩
        · rintro ⟨g, gn, dr, tk, os⟩ c mv _ hR
          have e1 : gn = s.gens := mv.gens
          have e2 : dr = s.drawn := mv.drawn
          have e3 : os = s.os := mv.os
          subst e1 e2 e3
          show wpAny _ _ _ _ _ _
          refine wpAny_pure ?_
          show wpAny _ _ (ret Value.none) _ _ _
          refine wpAny_pure ⟨rfl, g, tk, c, rfl, hR, fun b o e => ?_⟩
          have lb : b < s.heap.objs.size := Heap.lt_size e
          exact mv.heap b o (by rw [z1]; simp only [List.mem_cons, List.not_mem_nil, or_false, not_or]; exact ⟨Nat.ne_of_lt lb, Nat.ne_of_lt (Nat.lt_succ_of_lt lb)⟩) (Heap.get?_push_of_some _ (Heap.get?_push_of_some _ e))
      · cases r2 with
        | error e => exact h2
        | ok fl2 => cases fl2 with
          | ret r =>
            obtain ⟨rfl, g, tk, c, rfl, hR, hk⟩ := h2
            repeat (any_goals (first | assumption | wp_step))
            exact h g tk c hR hk
          | _ => exact h2.elim
    | _ => exact ht.elim
end
theorem vals_ints : ∀ {ns : List Int} {us : List Value}, Vals (ns.map V.int) us → IntsAre us ns
  | [], _, .nil => .nil
  | n :: r, _, .cons h t => by
    obtain ⟨tk, rfl⟩ := h
    exact .cons _ _ (vals_ints t)
/-- the ints in a list, each once -/
def onceL : List Int → List Int → List Int
  | [], acc => acc
  | k :: r, acc => onceL r (addK acc k)
theorem onceL_mem {j : Int} : ∀ {ns acc : List Int}, j ∈ onceL ns acc ↔ j ∈ acc ∨ j ∈ ns
  | [], acc => by simp [onceL]
  | k :: r, acc => by rw [onceL, onceL_mem, addK_mem, List.mem_cons, or_assoc]
theorem onceL_nodup : ∀ {ns acc : List Int}, acc.Nodup → (onceL ns acc).Nodup
  | [], acc, h => h
  | k :: r, acc, h => by rw [onceL]; exact onceL_nodup (addK_nodup h)
def setD : PyData → Option R
  | .list ds => (intsOf ds).bind fun ns => if ns.length < 4000 then some (.st (onceL ns [])) else none
  | _ => none
def rSetL (K : PySem.W.Frag) (w : World) : List V → Hp → VK → Prop := fun xs H Q => ∃ (a : Addr) (ns : List Int), xs = [V.ref a] ∧ SqL K H a (ns.map V.int) ∧ ns.length < 4000 ∧ ∀ p, H p = none → ∀ H', (∀ b o, H b = some o → H' b = some o) → (∀ b, H b = none → b ≠ p → H' b = none) → SetAt w H' p (onceL ns []) → Q (.ref p) H'
theorem cr_setL {X : Cx} (hc : X.calm = true) : CallR X (.type "set") (rSetL X.K X.w) := by
  intro pins s σ H xs us Q I r h
  obtain ⟨a, ns, rfl, hl, hn, q⟩ := h
  rw [Vals.ref1 r]
  obtain ⟨its, rv, pl, _⟩ := I.list hl
  have fresh : H s.heap.objs.size = none := I.hok.fresh (Nat.le_refl _)
  refine set_of_list ns (I.ok.hd hc) pl.isList (by simpa using vals_ints rv) (Nat.lt_of_le_of_lt (Nat.succ_le_of_lt hn) (by decide)) fun g tk c hR hk => ?_
  obtain ⟨o, es, ep, t, ho, hx, hd, hg, nd, hm, hb, hf, hsz, _⟩ := id hR
  have len : c = (onceL ns []).length := by
    rw [← hsz, ← Array.length_toList, ← List.length_map (f := keyOf)]
    refine List.Perm.length_eq ((List.perm_ext_iff_of_nodup nd (onceL_nodup List.nodup_nil)).mpr fun j => ?_)
    rw [← hm, decide_eq_true_eq, onceL_mem]
    simp
  refine ⟨.ref s.heap.objs.size, upd H s.heap.objs.size (SetO X.w s.heap.objs.size (fun j => decide (j ∈ ns)) c), I.laid (t' := tk) hk (Nat.le_refl _) (setO_new hR), rfl, q _ fresh _ (kept_new fresh) (fun b hb ne => by rw [upd_ne ne]; exact hb) ⟨fun j => decide (j ∈ ns), ?_, onceL_nodup List.nodup_nil, fun j => ?_⟩⟩
  · rw [upd_same, len]
  · rw [decide_eq_true_eq, onceL_mem]
    simp
theorem does_set {T : Tb} : DoesN T (rSetL T.K T.w) (on1 setD) := does1_on fun x d z H F Q lv hx hg hq => by
  unfold setD at hg
  split at hg
  · rename_i ds
    cases e : intsOf ds with
    | none => rw [e] at hg; cases hg
    | some ns =>
      rw [e] at hg
      have hg' : (if ns.length < 4000 then some (R.st (onceL ns [])) else none) = some z := hg
      split at hg'
      · rename_i hn
        cases hg'
        obtain ⟨a, vs, rfl, h1, s1⟩ := hx.lst
        have ev : vs = ns.map V.int := by
          rw [intsOf_eq e] at s1
          exact DFs.ints s1
        subst ev
        refine ⟨a, ns, rfl, h1.sq, hn, fun p hp H' hk hn' hs => hq _ H' F ⟨hk, fun _ h => h, fun _ h => .inl h⟩ ⟨p, rfl, hp, fun z => lv p z hp, hs⟩⟩
      · cases hg'
  · cases hg
end DL

/-! D23: sets: the rule for set(xs), and the pieces at work. -/
namespace DL
open PySem L2 PyProof.Rows
section
variable {X : Cx} {T : Tb} {W : WX} {n : Nat} {N : List Str} {sc : Scope} {pos p : Pos} {e : Expr} {fa : AM}
theorem e_set (a : At X N sc) (cx : Cxt X T W n) (hx : gnB sc "set" = true) (hm : X.mg "set" = none) (ha : SA X T W [e] fa)
    (he : starEach [e] X.env = (false, eval e X.env) :: starEach [] X.env := by rfl) (hpl : (backTo pos (starEach [] X.env)).any (·.1) = false := by rfl) :
    SE X T W (.Call (.Name "set" p) [e] [] pos) (opnM (on1 setD) fa) := by
  have h : CallR X (.type "set") (rSetL T.K T.w) := by
    have := cr_setL (X := X) cx.calm
    rw [cx.hK, cx.hw] at this
    exact this
  exact se_t a hx h does_set hm rfl ha he hpl
end
@[simp] theorem scM_e (it : IM) (g : GM) (vs : List Nat) (c : Rho → Option (Oe Bool)) (f : EM) (ρ : Rho) : scM it g vs c f ρ = bindO (it ρ) fun ds ρ1 => scL g vs c f ds (wipeR ρ1 vs) [] := eqI rfl
@[simp] theorem sortSM_e (f : EM) (ρ : Rho) : sortSM f ρ = bindO (f ρ) srtR := eqI rfl
@[simp] theorem srtR_e (xs : List Int) (ρ : Rho) : srtR (.st xs) ρ = if xs.length < 64 then some (.ok (.own (.list ((sortU xs).map .int))) ρ) else none := eqI rfl
@[simp] theorem setD_l (ns : List Int) : setD (.list (ns.map .int)) = if ns.length < 4000 then some (.st (onceL ns [])) else none := by
  show (intsOf _).bind _ = _
  rw [intsOf_map]
  rfl
theorem onceL_len : ∀ (ns acc : List Int), (onceL ns acc).length ≤ acc.length + ns.length
  | [], acc => by simp [onceL]
  | k :: r, acc => by
    rw [onceL, List.length_cons]
    have h := onceL_len r (addK acc k)
    have : (addK acc k).length ≤ acc.length + 1 := by unfold addK; split <;> simp
    omega
/-- what a turn gives, and the slots behind it -/
def evi (g : GM) (vs : List Nat) (c : Rho → Option (Oe Bool)) (f : EM) (x : PyData) (ρ : Rho) : Option (Option R × Rho) :=
  bindR (g x ρ) fun ρ1 => bindN (c ρ1) fun b ρ2 => pick b (fun ρ2 => bindN (f ρ2) fun q ρ3 => some (some q, wipeR ρ3 vs)) (fun ρ2 => some (none, wipeR ρ2 vs)) ρ2
theorem scL_ev {g : GM} {vs : List Nat} {c : Rho → Option (Oe Bool)} {f : EM} (x : PyData) (xs : List PyData) (ρ : Rho) (acc : List Int) {o : Option Int} {ρ' : Rho} (h : evi g vs c f x ρ = some (o.map fun k => .dat (.int k), ρ')) (hl : acc.length < 100) :
    scL g vs c f (x :: xs) ρ acc = scL g vs c f xs ρ' (onceL o.toList acc) := by
  unfold evi at h
  rw [scL]
  cases e1 : g x ρ with
  | none => rw [e1] at h; cases h
  | some ρ1 =>
    rw [e1, bindR_e] at h
    simp only
    cases e2 : c ρ1 with
    | none => rw [e2] at h; cases h
    | some oc =>
      cases oc with
      | er _ _ _ => rw [e2] at h; cases h
      | ok b ρ2 =>
        rw [e2, bindN_ok] at h
        rw [bindN_ok]
        cases b with
        | false =>
          rw [pick_f] at h
          cases o with
          | none => cases h; rfl
          | some k => cases h
        | true =>
          rw [pick_t] at h
          rw [if_pos rfl]
          cases e3 : f ρ2 with
          | none => rw [e3] at h; cases h
          | some oq =>
            cases oq with
            | er _ _ _ => rw [e3] at h; cases h
            | ok q ρ3 =>
              rw [e3, bindN_ok] at h
              rw [bindN_ok]
              cases o with
              | none => cases h
              | some k =>
                cases h
                simp only
                rw [if_pos hl]
                rfl
theorem onceL_app : ∀ (a b acc : List Int), onceL (a ++ b) acc = onceL b (onceL a acc)
  | [], b, acc => rfl
  | k :: r, b, acc => onceL_app r b (addK acc k)
/-- a set comprehension whose turns leave the slots as they were -/
theorem scL_fm {α : Type} {g : GM} {vs : List Nat} {c : Rho → Option (Oe Bool)} {f : EM} {ρ : Rho} (inD : α → PyData) (out : α → Option Int) (xs : List α) (hl : xs.length ≤ 100)
    (st : ∀ x ∈ xs, evi g vs c f (inD x) ρ = some ((out x).map fun k => .dat (.int k), ρ)) : scL g vs c f (xs.map inD) ρ [] = some (.ok (.st (onceL (xs.filterMap out) [])) ρ) := by
  have key : ∀ (xs : List α) (acc : List Int), acc.length + xs.length ≤ 100 → (∀ x ∈ xs, evi g vs c f (inD x) ρ = some ((out x).map fun k => .dat (.int k), ρ)) →
      scL g vs c f (xs.map inD) ρ acc = some (.ok (.st (onceL (xs.filterMap out) acc)) ρ) := by
    intro xs
    induction xs with
    | nil => intro acc _ _; rfl
    | cons x r ih =>
      intro acc hl st
      rw [List.length_cons] at hl
      rw [List.map_cons, scL_ev _ _ _ _ (st x (List.mem_cons_self ..)) (by omega)]
      have : (onceL (out x).toList acc).length ≤ acc.length + 1 := by
        refine Nat.le_trans (onceL_len _ _) ?_
        cases out x <;> simp
      rw [ih _ (by omega) fun y hy => st y (List.mem_cons_of_mem _ hy)]
      cases h : out x <;> simp [h, onceL]
  exact key xs [] (by simpa using hl) st
end DL

/-! D24: [x] * n. -/
namespace DL
open PySem L2 PyProof.Rows
def repR (r s : R) (ρ : Rho) : Option (Oe R) := match r, s with
  | .own (.list ds), .dat (.int k) => if (-9223372036854775808 ≤ k ∧ k < 9223372036854775808) ∧ ds.length * k.toNat ≤ lim then some (.ok (.own (.list (List.replicate k.toNat ds).flatten)) ρ) else none
  | _, _ => none
def repM (fa fb : EM) : EM := fun ρ => bindO (fa ρ) fun r ρ1 => bindO (fb ρ1) fun s ρ2 => repR r s ρ2
@[simp] theorem repM_e (fa fb : EM) (ρ : Rho) : repM fa fb ρ = bindO (fa ρ) fun r ρ1 => bindO (fb ρ1) fun s ρ2 => repR r s ρ2 := rfl
@[simp] theorem repR_e (ds : List PyData) (k : Int) (ρ : Rho) : repR (.own (.list ds)) (.dat (.int k)) ρ = if (-9223372036854775808 ≤ k ∧ k < 9223372036854775808) ∧ ds.length * k.toNat ≤ lim then some (.ok (.own (.list (List.replicate k.toNat ds).flatten)) ρ) else none := rfl
section
variable {X : Cx} {T : Tb} {W : WX} {n : Nat} {a b : Expr} {fa fb : EM} {pos : Pos}
theorem rep_of {σ : L2.St} {H : Hp} {Q : VK} (h : Tof T W (tlE T) (repM fa fb) σ H Q) : tOp rRep (Tof T W (tlE T) fa) (Tof T W (tlE T) fb) σ H Q := by
  obtain ⟨ρ, F, O, E, P⟩ := h
  refine stp .refl E P fun v H1 ra ρ1 F1 O1 x1 _ E1 r1 P1 => ?_
  refine stp x1 E1 P1 fun u H2 rb ρ2 F2 O2 x2 y2 E2 r2 P2 => ?_
  have r1' : ResR T H H2 F2 O2 σ v ra := ResR.mono E1 x2 r1
  unfold repR at P2
  split at P2
  · rename_i ds k
    split at P2
    · rename_i hz
      obtain ⟨p, rfl, _, nF, nO, vs, hv, s1⟩ := r1'
      have e2 : u = .int k := by
        have r2' : DF T.K H2 F2 u (.int k) := r2
        cases r2'
        rfl
      exact ⟨p, k, vs, rfl, e2, hv, hz.1.1, hz.1.2, by rw [s1.length]; exact Nat.le_trans hz.2 (by decide), fun l hl => fin_op y2 E2 P2 (.laid hl) (resN_lst hl (fun z => E2.lv l z hl) (s1.rep _))⟩
    · exact P2.elim
  · exact P2.elim
theorem e_rep (cx : Cxt X T W n) (ha : SE X T W a fa) (hb : SE X T W b fb) : SE X T W (.BinOp a .Mult b pos) (repM fa fb) := pe_imp (pe_op op_rep ha hb) fun _ _ _ h => rep_of h
end
end DL

/-! D25: zip(a, b, strict=True), a and b each a list or a tuple. -/
namespace DL
open PySem L2 PyProof.Rows
open Builtin.SmallTypes (nextOf nextOrEnd)

/-- an iterator at i over what stands at l: its states and what it gives -/
structure Nx (P : Program) (w : World) (i l : Addr) (St : Nat → Heap → Prop) (el : Nat → Option Value) : Prop where
  ob : ∀ k h, St k h → ∃ o, h.get? i = some o ∧ (∀ v, o.data ≠ .cell v) ∧ o.cls ≠ .type "zip" ∧ o.cls ≠ .type "tuple"
  keep : ∀ k h h', St k h → (∀ o, h.get? i = some o → h'.get? i = some o) → (∀ o, h.get? l = some o → h'.get? l = some o) → St k h'
  item : ∀ (A : Around) (E : Value → Shared → Prop) (s : Shared) (Q : Value → Shared → Prop) (k : Nat) (x : Value), St k s.heap → el k = some x → (∀ h', St (k + 1) h' → Heap.SameBut i s.heap h' → Q x { s with heap := h' }) → wpAny (model P w) A (nextOf (.ref i)) Q E s
  stop : ∀ (A : Around) (E : Value → Shared → Prop) (s : Shared) (Q : Value → Shared → Prop) (k : Nat), A.handled = none → St k s.heap → el k = none →
    (∀ h' e, Heap.ExtBut i s.heap h' → (∃ o, h'.get? e = some o ∧ o.cls = .type "StopIteration") → E (.ref e) { s with heap := h' }) → wpAny (model P w) A (nextOf (.ref i)) Q E s
theorem nx_list {P : Program} {w : World} {i l : Addr} (hne : l ≠ i) (xs : Array Value) : Nx P w i l (fun k h => h.IsListIter i l k ∧ h.IsList l xs) fun k => xs[k]? where
  ob := fun k h st => by
    obtain ⟨⟨o, ho, hc, hd⟩, _⟩ := st
    exact ⟨o, ho, (fun v z => by rw [hd] at z; cases z), (by rw [hc]; decide), (by rw [hc]; decide)⟩
  keep := fun k h h' st k1 k2 => ⟨st.1.at k1, st.2.at k2⟩
  item := fun A E s Q k x st hx hQ => wpAny_nextOf_list_item st.1 st.2 hx fun h' a b => hQ h' ⟨a, st.2.extBut b.extBut hne⟩ b
  stop := fun A E s Q k hh st hx hE => wpAny_nextOf_list_end hh st.1 st.2 hx fun h' e a b => hE h' e a b
theorem nx_tup {P : Program} {w : World} {i l : Addr} (hne : l ≠ i) (xs : Array Value) : Nx P w i l (fun k h => h.IsTupleIter i l k ∧ h.IsTuple l xs) fun k => xs[k]? where
  ob := fun k h st => by
    obtain ⟨⟨o, ho, hc, hd⟩, _⟩ := st
    exact ⟨o, ho, (fun v z => by rw [hd] at z; cases z), (by rw [hc]; decide), (by rw [hc]; decide)⟩
  keep := fun k h h' st k1 k2 => ⟨st.1.at k1, st.2.at k2⟩
  item := fun A E s Q k x st hx hQ => RZ.nextOf_tuple_item st.1 st.2 hx fun h' a b => hQ h' ⟨a, st.2.extBut b.extBut hne⟩ b
  stop := fun A E s Q k hh st hx hE => RZ.nextOf_tuple_end hh st.1 st.2 hx fun h' e a b => hE h' e a b
section
variable {P : Program} {w : World} {A : Around} {E : Value → Shared → Prop} {s : Shared} {i l : Addr} {St : Nat → Heap → Prop} {el : Nat → Option Value}
theorem Nx.some_ (N : Nx P w i l St el) {Q : Option Value → Shared → Prop} {k : Nat} {x : Value} (st : St k s.heap) (hx : el k = some x) (hQ : ∀ h', St (k + 1) h' → Heap.SameBut i s.heap h' → Q (some x) { s with heap := h' }) : wpAny (model P w) A (nextOrEnd (.ref i)) Q E s := by
  unfold nextOrEnd
  exact wpAny_bind (wpAny_attempt (N.item _ _ s _ k x st hx fun h' a b => wpAny_pure (hQ h' a b)))
theorem Nx.none_ (N : Nx P w i l St el) {Q : Option Value → Shared → Prop} {k : Nat} (hh : A.handled = none) (st : St k s.heap) (hx : el k = none) (hQ : ∀ h', Heap.ExtBut i s.heap h' → Q none { s with heap := h' }) : wpAny (model P w) A (nextOrEnd (.ref i)) Q E s := by
  unfold nextOrEnd
  refine wpAny_bind (wpAny_attempt (N.stop _ _ s _ k hh st hx fun h' e a b => ?_))
  obtain ⟨o, ho, hc⟩ := b
  exact wpAny_bind (wpAny_isInstance (T := "StopIteration") (b := true) ⟨o, ho, hc⟩ isSubtype_stop (wpAny_pure (hQ h' a)))
end
/-- a strict zip's record -/
abbrev IsZs (h : Heap) (z TI TO : Addr) (f0 : Value) : Prop :=
  h.get? z = some { cls := .type "zip", dict := none, data := .fields #[f0, .bool false, .bool true, .ref TI, .ref TO], slots := #[] }
section
variable {P : Program} {w : World} {A : Around} {E : Value → Shared → Prop} {s : Shared} {z TI TO i1 i2 l1 l2 : Addr} {S1 S2 : Nat → Heap → Prop} {e1 e2 : Nat → Option Value}
theorem zs_item (D : ZipApart z TI TO i1 i2 l1 l2) (N1 : Nx P w i1 l1 S1 e1) (N2 : Nx P w i2 l2 S2 e2) {k1 k2 : Nat} {x y a b : Value} {Q : Value → Shared → Prop} (hz : IsZs s.heap z TI TO .none) (hTI : IsPair s.heap TI (.ref i1) (.ref i2)) (hTO : IsPair s.heap TO a b) (h1 : S1 k1 s.heap) (h2 : S2 k2 s.heap) (hx : e1 k1 = some x) (hy : e2 k2 = some y)
    (hQ : ∀ h', IsZs h' z TI TO (rawInt s.heap.objs.size) → IsPair h' TO x y → S1 (k1 + 1) h' → S2 (k2 + 1) h' → IsPair h' s.heap.objs.size x y → h'.objs.size = s.heap.objs.size + 1 → (∀ c o, c ≠ z → c ≠ TO → c ≠ i1 → c ≠ i2 → s.heap.get? c = some o → h'.get? c = some o) → Q (.ref s.heap.objs.size) { s with heap := h' }) :
    wpAny (model P w) A (Builtin.«zip.__next__» ⟨[.ref z], []⟩) (fun fin s' => ∃ v, fin = .done (.ret v) ∧ Q v s') E s := by
  show wpAny (model P w) A (field (.ref z) 2 >>= _) _ _ _
  refine wpAny_bind (wpAny_field hz rfl (x := .bool true) rfl ?_)
  show wpAny (model P w) A (field (.ref z) 3 >>= _) _ _ _
  refine wpAny_bind (wpAny_field hz rfl (x := .ref TI) rfl (wpAny_bind (wpAny_seqItems hTI rfl ?_)))
  show wpAny (model P w) A (Builtin.SmallTypes.ownedTupleIsFree (.ref z) >>= _) _ _ _
  unfold Builtin.SmallTypes.ownedTupleIsFree
  refine wpAny_bind (wpAny_bind (wpAny_field hz rfl (x := .none) rfl (wpAny_pure ?_)))
  simp only [if_true]
  refine wpAny_bind (wpAny_rule (wpAny_bind (wpAny_field hz rfl (x := .ref TO) rfl (wpAny_bind (wpAny_setField_rec hz (by simp) fun g1 z1 b1 => ?_)))))
  have z1' : IsZs g1 z TI TO .ellipsis := z1
  refine wpAny_bind ?_
  simp only [List.zipIdx_cons, List.zipIdx_nil, List.forIn_cons, List.forIn_nil]
  refine wpAny_bind (wpAny_bind (wpAny_onRaise ?_))
  show wpAny (model P w) A (nextOrEnd (.ref i1)) _ _ _
  refine N1.some_ (N1.keep _ _ _ h1 (fun o e => b1.extBut _ _ D.i1z e) fun o e => b1.extBut _ _ D.l1z e) hx fun g2 s12 b2 => ?_
  have o2 : IsPair g2 TO a b := b2.extBut _ _ D.TOi1 (b1.extBut _ _ D.TOz hTO)
  refine wpAny_bind (wpAny_seqItems o2 rfl (wpAny_bind (wpAny_updateSeq_pair o2 fun g3 o3 b3 => wpAny_bind (wpAny_letGo (wpAny_pure ?_)))))
  have o3' : IsPair g3 TO x b := o3
  refine wpAny_bind (wpAny_bind (wpAny_onRaise ?_))
  show wpAny (model P w) A (nextOrEnd (.ref i2)) _ _ _
  refine N2.some_ (N2.keep _ _ _ h2 (fun o e => b3.extBut _ _ D.TOi2.symm (b2.extBut _ _ D.i12.symm (b1.extBut _ _ D.i2z e))) fun o e => b3.extBut _ _ D.l2TO (b2.extBut _ _ D.l2i1 (b1.extBut _ _ D.l2z e))) hy fun g4 s24 b4 => ?_
  have o4 : IsPair g4 TO x b := b4.extBut _ _ D.TOi2 o3'
  refine wpAny_bind (wpAny_seqItems o4 rfl (wpAny_bind (wpAny_updateSeq_pair o4 fun g5 o5 b5 => wpAny_bind (wpAny_letGo (wpAny_pure (wpAny_pure ?_))))))
  have o5' : IsPair g5 TO x y := o5
  have sz : g5.objs.size = s.heap.objs.size := by rw [b5.1, b4.1, b3.1, b2.1, b1.1]
  have z5 : IsZs g5 z TI TO .ellipsis := b5.extBut _ _ D.TOz.symm (b4.extBut _ _ D.i2z.symm (b3.extBut _ _ D.TOz.symm (b2.extBut _ _ D.i1z.symm z1')))
  have s15 : S1 (k1 + 1) g5 := N1.keep _ _ _ s12 (fun o e => b5.extBut _ _ D.TOi1.symm (b4.extBut _ _ D.i12 (b3.extBut _ _ D.TOi1.symm e))) fun o e => b5.extBut _ _ D.l1TO (b4.extBut _ _ D.l1i2 (b3.extBut _ _ D.l1TO e))
  have s25 : S2 (k2 + 1) g5 := N2.keep _ _ _ s24 (fun o e => b5.extBut _ _ D.TOi2.symm e) fun o e => b5.extBut _ _ D.l2TO e
  have k5 : ∀ c o, c ≠ z → c ≠ TO → c ≠ i1 → c ≠ i2 → s.heap.get? c = some o → g5.get? c = some o := fun c o n1 n2 n3 n4 e => b5.extBut _ _ n2 (b4.extBut _ _ n4 (b3.extBut _ _ n2 (b2.extBut _ _ n3 (b1.extBut _ _ n1 e))))
  refine wpAny_bind (wpAny_seqItems o5' rfl (wpAny_bind (wpAny_newTuple ?_)))
  have zlt : z < g5.objs.size := Heap.lt_size z5
  show wpAny (model P w) A (Builtin.SmallTypes.ownedTupleHandOut (.ref z) (.ref g5.objs.size) >>= _) _ _ _
  unfold Builtin.SmallTypes.ownedTupleHandOut
  have z6 : IsZs (g5.push { cls := .type "tuple", data := .seq #[x, y] }) z TI TO .ellipsis := Heap.get?_push_of_some _ z5
  refine wpAny_bind (wpAny_bind (wpAny_setField_rec z6 (by simp) fun g7 z7 b7 => ?_))
  have z7' : IsZs g7 z TI TO (rawInt g5.objs.size) := z7
  refine wpAny_setField_rec z7' (by simp) fun g8 z8 b8 => ?_
  have z8' : IsZs g8 z TI TO (rawInt g5.objs.size) := z8
  have up : ∀ c o, c ≠ z → g5.get? c = some o → g8.get? c = some o := fun c o n1 e => b8.extBut _ _ n1 (b7.extBut _ _ n1 (Heap.get?_push_of_some _ e))
  have t8 : IsPair g8 g5.objs.size x y := b8.extBut _ _ (Nat.ne_of_gt zlt) (b7.extBut _ _ (Nat.ne_of_gt zlt) (Heap.get?_push_size _ rfl))
  have sz8 : g8.objs.size = g5.objs.size + 1 := by rw [b8.1, b7.1, Heap.size_push]
  rw [sz] at z8' t8 sz8
  refine wpAny_pure ⟨_, rfl, ?_⟩
  show Q (.ref g5.objs.size) _
  rw [sz]
  exact hQ g8 z8' (up _ _ D.TOz o5') (N1.keep _ _ _ s15 (fun o e => up _ o D.i1z e) fun o e => up _ o D.l1z e) (N2.keep _ _ _ s25 (fun o e => up _ o D.i2z e) fun o e => up _ o D.l2z e) t8 sz8 fun c o n1 n2 n3 n4 e => up c o n1 (k5 c o n1 n2 n3 n4 e)
/-- both end at once -/
theorem zs_end (hh : A.handled = none) (D : ZipApart z TI TO i1 i2 l1 l2) (N1 : Nx P w i1 l1 S1 e1) (N2 : Nx P w i2 l2 S2 e2) {k1 k2 : Nat} {a b : Value} {Q : Fin → Shared → Prop} (hz : IsZs s.heap z TI TO .none) (hTI : IsPair s.heap TI (.ref i1) (.ref i2)) (hTO : IsPair s.heap TO a b) (h1 : S1 k1 s.heap) (h2 : S2 k2 s.heap) (hx : e1 k1 = none) (hy : e2 k2 = none)
    (hE : ∀ h' e, (∀ c o, c ≠ z → c ≠ TO → c ≠ i1 → c ≠ i2 → s.heap.get? c = some o → h'.get? c = some o) → (∃ o, h'.get? e = some o ∧ o.cls = .type "StopIteration") → E (.ref e) { s with heap := h' }) :
    wpAny (model P w) A (Builtin.«zip.__next__» ⟨[.ref z], []⟩) Q E s := by
  show wpAny (model P w) A (field (.ref z) 2 >>= _) _ _ _
  refine wpAny_bind (wpAny_field hz rfl (x := .bool true) rfl ?_)
  show wpAny (model P w) A (field (.ref z) 3 >>= _) _ _ _
  refine wpAny_bind (wpAny_field hz rfl (x := .ref TI) rfl (wpAny_bind (wpAny_seqItems hTI rfl ?_)))
  show wpAny (model P w) A (Builtin.SmallTypes.ownedTupleIsFree (.ref z) >>= _) _ _ _
  unfold Builtin.SmallTypes.ownedTupleIsFree
  refine wpAny_bind (wpAny_bind (wpAny_field hz rfl (x := .none) rfl (wpAny_pure ?_)))
  simp only [if_true]
  refine wpAny_bind (wpAny_rule (wpAny_bind (wpAny_field hz rfl (x := .ref TO) rfl (wpAny_bind (wpAny_setField_rec hz (by simp) fun g1 z1 b1 => ?_)))))
  have z1' : IsZs g1 z TI TO .ellipsis := z1
  refine wpAny_bind ?_
  simp only [List.zipIdx_cons, List.zipIdx_nil, List.forIn_cons, List.forIn_nil]
  refine wpAny_bind (wpAny_bind (wpAny_onRaise ?_))
  show wpAny (model P w) A (nextOrEnd (.ref i1)) _ _ _
  refine N1.none_ hh (N1.keep _ _ _ h1 (fun o e => b1.extBut _ _ D.i1z e) fun o e => b1.extBut _ _ D.l1z e) hx fun g2 b2 => ?_
  have z2 : IsZs g2 z TI TO .ellipsis := b2 _ _ D.i1z.symm z1'
  refine wpAny_bind (wpAny_setField_rec z2 (by simp) fun g3 z3 b3 => ?_)
  have z3' : IsZs g3 z TI TO .none := z3
  refine wpAny_bind (wpAny_bind ?_)
  simp only [List.drop_succ_cons, List.drop_zero, List.zipIdx_cons, List.zipIdx_nil, List.forIn_cons, List.forIn_nil]
  refine wpAny_bind (wpAny_bind (N2.none_ hh (N2.keep _ _ _ h2 (fun o e => b3.extBut _ _ D.i2z (b2 _ _ D.i12.symm (b1.extBut _ _ D.i2z e))) fun o e => b3.extBut _ _ D.l2z (b2 _ _ D.l2i1 (b1.extBut _ _ D.l2z e))) hy fun g4 b4 => ?_))
  refine wpAny_pure (wpAny_pure (wpAny_bind (wpAny_rule ?_)))
  show wpAny (model P w) A (newExc (.type "StopIteration") [] >>= _) _ _ _
  simp only [newExc, newTuple]
  refine wpAny_bind (wpAny_bind (wpAny_newObj_type ?_ (by size_fits)))
  refine wpAny_bind (m := firstArgMember _ _) (wpAny_of_eq (a := Value.none) (by first | rfl | (simp only [firstArgMember]; rfl)) (wpAny_newObj_type ?_ (by size_fits)))
  simp only [raiseNew]
  refine wpAny_bind (wpAny_handled ?_)
  rw [hh]
  refine wpAny_bind (wpAny_pure (wpAny_throw ?_))
  exact hE _ _ (fun c o n1 n2 n3 n4 e => Heap.get?_push_of_some _ (Heap.get?_push_of_some _ (b4 _ _ n4 (b3.extBut _ _ n1 (b2 _ _ n3 (b1.extBut _ _ n1 e)))))) ⟨_, Heap.get?_push_size _ rfl, rfl⟩
end
end DL

/-! D26: strict zip: the iterator as a whole, and its making. -/
namespace DL
open PySem L2 PyProof.Rows
section
variable {P : Program} {w : World} {A : Around} {E : Value → Shared → Prop} {s : Shared} {z TI TO i1 i2 l1 l2 : Addr} {S1 S2 : Nat → Heap → Prop} {e1 e2 : Nat → Option Value}
theorem zs_next (D : ZipApart z TI TO i1 i2 l1 l2) (N1 : Nx P w i1 l1 S1 e1) (N2 : Nx P w i2 l2 S2 e2) {k1 k2 : Nat} {x y a b : Value} {Q : Option Value → Shared → Prop} (hz : IsZs s.heap z TI TO .none) (hTI : IsPair s.heap TI (.ref i1) (.ref i2)) (hTO : IsPair s.heap TO a b) (h1 : S1 k1 s.heap) (h2 : S2 k2 s.heap) (hx : e1 k1 = some x) (hy : e2 k2 = some y)
    (hQ : ∀ h', IsZs h' z TI TO (rawInt s.heap.objs.size) → IsPair h' TO x y → S1 (k1 + 1) h' → S2 (k2 + 1) h' → IsPair h' s.heap.objs.size x y → h'.objs.size = s.heap.objs.size + 1 → (∀ c o, c ≠ z → c ≠ TO → c ≠ i1 → c ≠ i2 → s.heap.get? c = some o → h'.get? c = some o) → Q (some (.ref s.heap.objs.size)) { s with heap := h' }) :
    wpAny (model P w) A (pyNext (.ref z)) Q E s := by
  have ty : s.TypeIs (.ref z) "zip" := ⟨_, hz, rfl⟩
  unfold pyNext
  refine wpAny_bind (wpAny_attempt (wpAny_callSpecial?_slot (name := Str.ofString "__next__") ty F.slot_zip_next (wpAny_call_entry F.slot_zip_next ty F.entry_zip_next (zs_item D N1 N2 hz hTI hTO h1 h2 hx hy fun h' a1 a2 a3 a4 a5 a6 a7 => ?_) (F.args_zip_next_1 _))))
  exact wpAny_pure (hQ h' a1 a2 a3 a4 a5 a6 a7)
theorem zs_stop (hh : A.handled = none) (D : ZipApart z TI TO i1 i2 l1 l2) (N1 : Nx P w i1 l1 S1 e1) (N2 : Nx P w i2 l2 S2 e2) {k1 k2 : Nat} {a b : Value} {Q : Option Value → Shared → Prop} (hz : IsZs s.heap z TI TO .none) (hTI : IsPair s.heap TI (.ref i1) (.ref i2)) (hTO : IsPair s.heap TO a b) (h1 : S1 k1 s.heap) (h2 : S2 k2 s.heap) (hx : e1 k1 = none) (hy : e2 k2 = none)
    (hQ : ∀ h', (∀ c o, c ≠ z → c ≠ TO → c ≠ i1 → c ≠ i2 → s.heap.get? c = some o → h'.get? c = some o) → Q none { s with heap := h' }) : wpAny (model P w) A (pyNext (.ref z)) Q E s := by
  have ty : s.TypeIs (.ref z) "zip" := ⟨_, hz, rfl⟩
  unfold pyNext
  refine wpAny_bind (wpAny_attempt (wpAny_callSpecial?_slot (name := Str.ofString "__next__") ty F.slot_zip_next (wpAny_call_entry F.slot_zip_next ty F.entry_zip_next (zs_end (A := A.in1) (show A.in1.handled = none from hh) D N1 N2 hz hTI hTO h1 h2 hx hy fun h' e hk he => ?_) (F.args_zip_next_1 _))))
  obtain ⟨o, ho, hc⟩ := he
  exact wpAny_bind (wpAny_isInstance (T := "StopIteration") (b := true) ⟨o, ho, hc⟩ isSubtype_stop (wpAny_pure (hQ _ hk)))
theorem zs_go {elts : List Expr} {x1 : Nat} {pos : Pos} {T : Addr} {Q : Unit → Shared → Prop} (hz : IsZs s.heap z TI TO (rawInt T)) (hQ : ∀ h', IsZs h' z TI TO .none → Heap.SameBut z s.heap h' → Q () { s with heap := h' }) :
    wpAny (model P w) A (letOwnedTupleGo (.Tuple elts x1 pos) (.ref z) (.ref T)) Q E s := by
  unfold letOwnedTupleGo
  refine wpAny_bind (wpAny_load hz ?_)
  show wpAny (model P w) A (if (["enumerate", "zip", "dict_itemiterator", "dict_reverseitemiterator", "odict_iterator", "itertools.zip_longest", "itertools.pairwise"].contains "zip" && (#[rawInt T, .bool false, .bool true, .ref TI, .ref TO] : Array Value)[0]? == some (rawInt T)) = true then _ else _) Q E s
  rw [if_pos (by simp)]
  refine wpAny_bind (wpAny_rule ?_)
  show wpAny (model P w) A (setField (.ref z) 0 .none) Q E s
  exact wpAny_setField_rec hz (by simp) fun h' a b => hQ h' a b
theorem zs_iter {f0 : Value} {Q : Value → Shared → Prop} (hz : IsZs s.heap z TI TO f0) (h : Q (.ref z) s) : wpAny (model P w) A (pyIter (.ref z)) Q E s := by
  have ty : s.TypeIs (.ref z) "zip" := ⟨_, hz, rfl⟩
  refine wpAny_pyIter_slot ty F.slot_zip_iter (wpAny_call_entry F.slot_zip_iter ty F.entry_zip_iter ?_ (F.args_zip_iter_1 _))
  show wpAny (model P w) _ (ret (.ref z)) _ _ s
  exact wpAny_pure ⟨_, rfl, "zip", _, ty, F.slot_zip_next.lookup, h⟩
end
/-! ### the making -/
theorem tc_zs (a b c : Value) : checkTypeCall "zip" ⟨[a, b], [(Str.ofString "strict", c)]⟩ = pure () := by kernel_rfl
theorem nc_zs (a b c : Value) : checkBuiltinCall "zip.__new__" ⟨[.type "zip", a, b], [(Str.ofString "strict", c)]⟩ = pure () := by kernel_rfl
theorem oi_zs (o a b c : Value) : argsOk "object.__init__" ⟨[o, a, b], [(Str.ofString "strict", c)]⟩ := by unfold argsOk; kernel_rfl
abbrev itO (c : String) (l : Addr) : Obj := { cls := .type c, data := .fields #[.ref l, .int 0 0] }
abbrev zA (c : String) (h : Heap) (l : Addr) : Heap := h.push (itO c l)
abbrev zB (c1 c2 : String) (h : Heap) (l1 l2 : Addr) : Heap := (zA c1 h l1).push (itO c2 l2)
abbrev zC (c1 c2 : String) (h : Heap) (l1 l2 : Addr) : Heap := (zB c1 c2 h l1 l2).push { cls := .type "tuple", data := .seq #[.ref h.objs.size, .ref (zA c1 h l1).objs.size] }
abbrev zD (c1 c2 : String) (h : Heap) (l1 l2 : Addr) : Heap := (zC c1 c2 h l1 l2).push { cls := .type "tuple", data := .seq #[.none, .none] }
/-- the heap behind zip(a, b, strict=True) -/
abbrev zE (c1 c2 : String) (h : Heap) (l1 l2 : Addr) : Heap := (zD c1 c2 h l1 l2).push { cls := .type "zip", data := .fields #[.none, .bool false, .bool true, .ref (zB c1 c2 h l1 l2).objs.size, .ref (zC c1 c2 h l1 l2).objs.size] }
theorem zs_newLL (l1 l2 : Addr) (xs ys : Array Value) : Meets (Builtin.«zip.__new__» ⟨[.type "zip", .ref l1, .ref l2], [(Str.ofString "strict", .bool true)]⟩) (fun _ R s => (s.heap.IsList l1 xs ∧ s.heap.IsList l2 ys) ∧ R (.ok (.ret (.ref (zD "list_iterator" "list_iterator" s.heap l1 l2).objs.size))) { s with heap := zE "list_iterator" "list_iterator" s.heap l1 l2 }) :=
  .of_wp fun P w A R s h => by
    obtain ⟨hp, g, d, tk, os⟩ := s
    obtain ⟨⟨k1, k2⟩, h⟩ := h
    have hsub := sub_zip
    have j1 : Heap.IsList (Shared.heap ⟨hp, g, d, tk, os⟩) l1 xs := k1
    have j2 : Heap.IsList (Shared.heap ⟨hp.push (itO "list_iterator" l1), g, d, tk, os⟩) l2 ys := Heap.IsList.push k2 _
    wp_walk using wpAny_pyIter_list j1, wpAny_pyIter_list j2
    exact ⟨_, rfl, h⟩
theorem zs_newLT (l1 l2 : Addr) (xs ys : Array Value) : Meets (Builtin.«zip.__new__» ⟨[.type "zip", .ref l1, .ref l2], [(Str.ofString "strict", .bool true)]⟩) (fun _ R s => (s.heap.IsList l1 xs ∧ s.heap.IsTuple l2 ys) ∧ R (.ok (.ret (.ref (zD "list_iterator" "tuple_iterator" s.heap l1 l2).objs.size))) { s with heap := zE "list_iterator" "tuple_iterator" s.heap l1 l2 }) :=
  .of_wp fun P w A R s h => by
    obtain ⟨hp, g, d, tk, os⟩ := s
    obtain ⟨⟨k1, k2⟩, h⟩ := h
    have hsub := sub_zip
    have j1 : Heap.IsList (Shared.heap ⟨hp, g, d, tk, os⟩) l1 xs := k1
    have j2 : Heap.IsTuple (Shared.heap ⟨hp.push (itO "list_iterator" l1), g, d, tk, os⟩) l2 ys := Heap.IsTuple.push k2 _
    wp_walk using wpAny_pyIter_list j1, wpAny_pyIter_tuple j2
    exact ⟨_, rfl, h⟩
theorem zs_newTL (l1 l2 : Addr) (xs ys : Array Value) : Meets (Builtin.«zip.__new__» ⟨[.type "zip", .ref l1, .ref l2], [(Str.ofString "strict", .bool true)]⟩) (fun _ R s => (s.heap.IsTuple l1 xs ∧ s.heap.IsList l2 ys) ∧ R (.ok (.ret (.ref (zD "tuple_iterator" "list_iterator" s.heap l1 l2).objs.size))) { s with heap := zE "tuple_iterator" "list_iterator" s.heap l1 l2 }) :=
  .of_wp fun P w A R s h => by
    obtain ⟨hp, g, d, tk, os⟩ := s
    obtain ⟨⟨k1, k2⟩, h⟩ := h
    have hsub := sub_zip
    have j1 : Heap.IsTuple (Shared.heap ⟨hp, g, d, tk, os⟩) l1 xs := k1
    have j2 : Heap.IsList (Shared.heap ⟨hp.push (itO "tuple_iterator" l1), g, d, tk, os⟩) l2 ys := Heap.IsList.push k2 _
    wp_walk using wpAny_pyIter_tuple j1, wpAny_pyIter_list j2
    exact ⟨_, rfl, h⟩
theorem zs_newTT (l1 l2 : Addr) (xs ys : Array Value) : Meets (Builtin.«zip.__new__» ⟨[.type "zip", .ref l1, .ref l2], [(Str.ofString "strict", .bool true)]⟩) (fun _ R s => (s.heap.IsTuple l1 xs ∧ s.heap.IsTuple l2 ys) ∧ R (.ok (.ret (.ref (zD "tuple_iterator" "tuple_iterator" s.heap l1 l2).objs.size))) { s with heap := zE "tuple_iterator" "tuple_iterator" s.heap l1 l2 }) :=
  .of_wp fun P w A R s h => by
    obtain ⟨hp, g, d, tk, os⟩ := s
    obtain ⟨⟨k1, k2⟩, h⟩ := h
    have hsub := sub_zip
    have j1 : Heap.IsTuple (Shared.heap ⟨hp, g, d, tk, os⟩) l1 xs := k1
    have j2 : Heap.IsTuple (Shared.heap ⟨hp.push (itO "tuple_iterator" l1), g, d, tk, os⟩) l2 ys := Heap.IsTuple.push k2 _
    wp_walk using wpAny_pyIter_tuple j1, wpAny_pyIter_tuple j2
    exact ⟨_, rfl, h⟩
section
variable {P : Program} {w : World} {A : Around} {E : Value → Shared → Prop} {s : Shared}
/-- what stands behind the making -/
structure ZsNew (c1 c2 : String) (n : Nat) (l1 l2 : Addr) (h h' : Heap) : Prop where
  z : IsZs h' (n + 4) (n + 2) (n + 3) .none
  ti : IsPair h' (n + 2) (.ref n) (.ref (n + 1))
  to : IsPair h' (n + 3) .none .none
  i1 : h'.get? n = some (itO c1 l1)
  i2 : h'.get? (n + 1) = some (itO c2 l2)
  keep : ∀ c o, h.get? c = some o → h'.get? c = some o
theorem zsNew {c1 c2 : String} {h : Heap} {l1 l2 : Addr} : (zD c1 c2 h l1 l2).objs.size = h.objs.size + 4 ∧ ZsNew c1 c2 h.objs.size l1 l2 h (zE c1 c2 h l1 l2) := by
  have q1 : (zA c1 h l1).objs.size = h.objs.size + 1 := Heap.size_push ..
  have q2 : (zB c1 c2 h l1 l2).objs.size = h.objs.size + 2 := by rw [Heap.size_push, q1]
  have q3 : (zC c1 c2 h l1 l2).objs.size = h.objs.size + 3 := by rw [Heap.size_push, q2]
  have q4 : (zD c1 c2 h l1 l2).objs.size = h.objs.size + 4 := by rw [Heap.size_push, q3]
  have r5 : (zE c1 c2 h l1 l2).get? (zD c1 c2 h l1 l2).objs.size = some _ := Heap.get?_push_size _ rfl
  have r4 : (zE c1 c2 h l1 l2).get? (zC c1 c2 h l1 l2).objs.size = some _ := Heap.get?_push_of_some _ (Heap.get?_push_size _ rfl)
  have r3 : (zE c1 c2 h l1 l2).get? (zB c1 c2 h l1 l2).objs.size = some _ := Heap.get?_push_of_some _ (Heap.get?_push_of_some _ (Heap.get?_push_size _ rfl))
  have r2 : (zE c1 c2 h l1 l2).get? (zA c1 h l1).objs.size = some _ := Heap.get?_push_of_some _ (Heap.get?_push_of_some _ (Heap.get?_push_of_some _ (Heap.get?_push_size _ rfl)))
  have r1 : (zE c1 c2 h l1 l2).get? h.objs.size = some _ := Heap.get?_push_of_some _ (Heap.get?_push_of_some _ (Heap.get?_push_of_some _ (Heap.get?_push_of_some _ (Heap.get?_push_size _ rfl))))
  rw [q2, q3, q4] at r5
  rw [q1, q2] at r3
  rw [q3] at r4
  rw [q1] at r2
  exact ⟨q4, r5, r3, r4, r1, r2, fun c o e => Heap.get?_push_of_some _ (Heap.get?_push_of_some _ (Heap.get?_push_of_some _ (Heap.get?_push_of_some _ (Heap.get?_push_of_some _ e))))⟩
theorem zs_callLL {l1 l2 : Addr} {xs ys : Array Value} {Q : Value → Shared → Prop} (h1 : s.heap.IsList l1 xs) (h2 : s.heap.IsList l2 ys) (h : ∀ h', ZsNew "list_iterator" "list_iterator" s.heap.objs.size l1 l2 s.heap h' → Q (.ref (s.heap.objs.size + 4)) { s with heap := h' }) :
    wpAny (model P w) A (call (.type "zip") [.ref l1, .ref l2] [(Str.ofString "strict", .bool true)]) Q E s := by
  refine callType_newKw F.called_zip (by decide) (tc_zs _ _ _) (nc_zs _ _ _) (fun o => oi_zs o _ _ _) F.entry_zip_new (zs_newLL l1 l2 xs ys) ⟨⟨h1, h2⟩, ?_⟩
  obtain ⟨e, Z⟩ := zsNew (c1 := "list_iterator") (c2 := "list_iterator") (h := s.heap) (l1 := l1) (l2 := l2)
  show _ ∧ _
  rw [e]
  exact ⟨⟨_, Z.z, rfl⟩, h _ Z⟩
theorem zs_callLT {l1 l2 : Addr} {xs ys : Array Value} {Q : Value → Shared → Prop} (h1 : s.heap.IsList l1 xs) (h2 : s.heap.IsTuple l2 ys) (h : ∀ h', ZsNew "list_iterator" "tuple_iterator" s.heap.objs.size l1 l2 s.heap h' → Q (.ref (s.heap.objs.size + 4)) { s with heap := h' }) :
    wpAny (model P w) A (call (.type "zip") [.ref l1, .ref l2] [(Str.ofString "strict", .bool true)]) Q E s := by
  refine callType_newKw F.called_zip (by decide) (tc_zs _ _ _) (nc_zs _ _ _) (fun o => oi_zs o _ _ _) F.entry_zip_new (zs_newLT l1 l2 xs ys) ⟨⟨h1, h2⟩, ?_⟩
  obtain ⟨e, Z⟩ := zsNew (c1 := "list_iterator") (c2 := "tuple_iterator") (h := s.heap) (l1 := l1) (l2 := l2)
  show _ ∧ _
  rw [e]
  exact ⟨⟨_, Z.z, rfl⟩, h _ Z⟩
theorem zs_callTL {l1 l2 : Addr} {xs ys : Array Value} {Q : Value → Shared → Prop} (h1 : s.heap.IsTuple l1 xs) (h2 : s.heap.IsList l2 ys) (h : ∀ h', ZsNew "tuple_iterator" "list_iterator" s.heap.objs.size l1 l2 s.heap h' → Q (.ref (s.heap.objs.size + 4)) { s with heap := h' }) :
    wpAny (model P w) A (call (.type "zip") [.ref l1, .ref l2] [(Str.ofString "strict", .bool true)]) Q E s := by
  refine callType_newKw F.called_zip (by decide) (tc_zs _ _ _) (nc_zs _ _ _) (fun o => oi_zs o _ _ _) F.entry_zip_new (zs_newTL l1 l2 xs ys) ⟨⟨h1, h2⟩, ?_⟩
  obtain ⟨e, Z⟩ := zsNew (c1 := "tuple_iterator") (c2 := "list_iterator") (h := s.heap) (l1 := l1) (l2 := l2)
  show _ ∧ _
  rw [e]
  exact ⟨⟨_, Z.z, rfl⟩, h _ Z⟩
theorem zs_callTT {l1 l2 : Addr} {xs ys : Array Value} {Q : Value → Shared → Prop} (h1 : s.heap.IsTuple l1 xs) (h2 : s.heap.IsTuple l2 ys) (h : ∀ h', ZsNew "tuple_iterator" "tuple_iterator" s.heap.objs.size l1 l2 s.heap h' → Q (.ref (s.heap.objs.size + 4)) { s with heap := h' }) :
    wpAny (model P w) A (call (.type "zip") [.ref l1, .ref l2] [(Str.ofString "strict", .bool true)]) Q E s := by
  refine callType_newKw F.called_zip (by decide) (tc_zs _ _ _) (nc_zs _ _ _) (fun o => oi_zs o _ _ _) F.entry_zip_new (zs_newTT l1 l2 xs ys) ⟨⟨h1, h2⟩, ?_⟩
  obtain ⟨e, Z⟩ := zsNew (c1 := "tuple_iterator") (c2 := "tuple_iterator") (h := s.heap) (l1 := l1) (l2 := l2)
  show _ ∧ _
  rw [e]
  exact ⟨⟨_, Z.z, rfl⟩, h _ Z⟩
end
end DL

/-! D27: walking a strict zip. -/
namespace DL
open PySem L2 PyProof.Rows

/-- lists or tuples, and their iterators -/
structure Kd where
  It : Heap → Addr → Addr → Nat → Prop
  Ct : Heap → Addr → Array Value → Prop
  Sq : PySem.W.Frag → Hp → Addr → List V → Prop
structure KdOk (k : Kd) : Prop where
  ob : ∀ h i a n, k.It h i a n → ∃ o, h.get? i = some o ∧ ∀ v, o.data ≠ .cell v
  at_ : ∀ h h' i a n, k.It h i a n → (∀ o, h.get? i = some o → h'.get? i = some o) → k.It h' i a n
  nx : ∀ (P : Program) (w : World) (i a : Addr) (xs : Array Value), a ≠ i → Nx P w i a (fun n h => k.It h i a n ∧ k.Ct h a xs) fun n => xs[n]?
  read : ∀ (X : Cx) (pins : List (Addr × Obj)) (σ : L2.St) (H : Hp) (s : Shared) (a : Addr) (xs : List V), L2.Inv X pins σ H s → k.Sq X.K H a xs → ∃ its : List Value, Vals xs its ∧ k.Ct s.heap a its.toArray ∧ a < s.heap.objs.size
  inj : ∀ (X : Cx) (pins : List (Addr × Obj)) (σ : L2.St) (H : Hp) (s : Shared) (a : Addr) (xs ys : List V), L2.Inv X pins σ H s → k.Sq X.K H a xs → k.Sq X.K H a ys → xs = ys
def kdL : Kd := ⟨fun h i a n => h.IsListIter i a n, fun h a xs => h.IsList a xs, fun K H a xs => SqL K H a xs⟩
def kdT : Kd := ⟨fun h i a n => h.IsTupleIter i a n, fun h a xs => h.IsTuple a xs, fun K H a xs => SqT K H a xs⟩
theorem kdL_ok : KdOk kdL where
  ob := fun h i a n ⟨o, ho, _, hd⟩ => ⟨o, ho, fun v z => by rw [hd] at z; cases z⟩
  at_ := fun h h' i a n st k => st.at k
  nx := fun P w i a xs hne => nx_list hne xs
  read := fun X pins σ H s a xs I h => by
    obtain ⟨its, rv, p, _⟩ := I.list h
    exact ⟨its, rv, p.isList, p.lt⟩
  inj := fun X pins σ H s a xs ys I h h' => I.list_inj h h'
theorem kdT_ok : KdOk kdT where
  ob := fun h i a n ⟨o, ho, _, hd⟩ => ⟨o, ho, fun v z => by rw [hd] at z; cases z⟩
  at_ := fun h h' i a n st k => st.at k
  nx := fun P w i a xs hne => nx_tup hne xs
  read := fun X pins σ H s a xs I h => by
    obtain ⟨its, rv, p, _⟩ := I.tuple h
    obtain ⟨o, ho, _⟩ := id p
    exact ⟨its, rv, p, Heap.lt_size ho⟩
  inj := fun X pins σ H s a xs ys I h h' => I.tuple_inj h h'
def Itk (k1 k2 : Kd) (K : PySem.W.Frag) (a b : Addr) : It :=
  ⟨fun i H => ∃ (xs ys : List V) (x y : V), k1.Sq K H a xs ∧ k2.Sq K H b ys ∧ xs[i]? = some x ∧ ys[i]? = some y,
    fun i H v H' => ∃ T x y, v = .ref T ∧ H T = none ∧ H' = upd H T (.tup [x, y]) ∧ (∀ xs, k1.Sq K H a xs → xs[i]? = some x) ∧ ∀ ys, k2.Sq K H b ys → ys[i]? = some y,
    fun i H => ∃ xs ys : List V, k1.Sq K H a xs ∧ k2.Sq K H b ys ∧ xs.length ≤ i ∧ ys.length ≤ i⟩
theorem turn_zs {k1 k2 : Kd} (o1 : KdOk k1) (o2 : KdOk k2) {P : Program} {w : World} {K : PySem.W.Frag} {elts : List Expr} {kk : Nat} {tpos : Pos} {a b z TI TO i1 i2 : Addr} (D : ZipApart z TI TO i1 i2 a b) :
    Turn P w K (.Tuple elts kk tpos) (Itk k1 k2 K a b) [z, TI, TO, i1, i2] z (fun i h => IsZs h z TI TO .none ∧ IsPair h TI (.ref i1) (.ref i2) ∧ (∃ x y, IsPair h TO x y) ∧ k1.It h i1 a i ∧ k2.It h i2 b i) where
  mem := by simp
  obj := fun i h ⟨hz, hTI, ⟨x, y, hTO⟩, h1, h2⟩ c hc => by
    simp only [List.mem_cons, List.not_mem_nil, or_false] at hc
    rcases hc with rfl | rfl | rfl | rfl | rfl
    · exact ⟨_, hz, fun v q => nomatch q⟩
    · exact ⟨_, hTI, fun v q => nomatch q⟩
    · exact ⟨_, hTO, fun v q => nomatch q⟩
    · exact o1.ob _ _ _ _ h1
    · exact o2.ob _ _ _ _ h2
  keep := fun i h h' ⟨hz, hTI, ⟨x, y, hTO⟩, h1, h2⟩ k => ⟨k z (by simp) _ hz, k TI (by simp) _ hTI, ⟨x, y, k TO (by simp) _ hTO⟩, o1.at_ _ _ _ _ _ h1 fun o q => k i1 (by simp) o q, o2.at_ _ _ _ _ _ h2 fun o q => k i2 (by simp) o q⟩
  item := by
    intro X hP hw hK hc i pins s σ H E I hf st hg
    subst hP hw hK
    obtain ⟨hz, hTI, ⟨x0, y0, hTO⟩, h1, h2⟩ := st
    obtain ⟨xs, ys, x, y, hqx, hqy, hx, hy⟩ := hg
    obtain ⟨its, rv, p, _⟩ := o1.read X pins σ H s a xs I hqx
    obtain ⟨its2, rv2, p2, _⟩ := o2.read X pins σ H s b ys I hqy
    obtain ⟨u, hu, ru⟩ := rv.get hx
    obtain ⟨u2, hu2, ru2⟩ := rv2.get hy
    have hzl : z < s.heap.objs.size := Heap.lt_size hz
    refine zs_next D (o1.nx X.prog X.w i1 a its.toArray D.l1i1) (o2.nx X.prog X.w i2 b its2.toArray D.l2i2) hz hTI hTO ⟨h1, p⟩ ⟨h2, p2⟩ (x := u) (y := u2) (by simpa using hu) (by simpa using hu2) fun h' z' TO' h1' h2' hT hsz hk => ?_
    refine ⟨_, rfl, zs_go (s := { s with heap := h' }) z' fun h'' z'' sb => ?_⟩
    have hT2 : h''.get? s.heap.objs.size = some { cls := .type "tuple", data := .seq #[u, u2] } := (sb.2 _ (Nat.ne_of_gt hzl)).trans hT
    have nw : ObjOk X.prog X.w (upd H s.heap.objs.size (.tup [x, y])) h'' s.heap.objs.size (.tup [x, y]) := ⟨by show 2 ≤ sizeLine; decide, [u, u2], .cons ru (.cons ru2 .nil), ⟨_, hT2, rfl, _, rfl⟩⟩
    have away : ∀ c, c ∉ [z, TI, TO, i1, i2] → c ≠ z ∧ c ≠ TO ∧ c ≠ i1 ∧ c ≠ i2 := fun c hc => by
      simp only [List.mem_cons, List.not_mem_nil, or_false, not_or] at hc
      exact ⟨hc.1, hc.2.2.1, hc.2.2.2.1, hc.2.2.2.2⟩
    have I1 : L2.Inv X pins σ (upd H s.heap.objs.size (.tup [x, y])) { s with heap := h'' } := I.turnedNew (t' := s.toks) (ch := [z, TI, TO, i1, i2]) (fun c o hb q => by
      obtain ⟨n1, n2, n3, n4⟩ := away c hb
      exact (sb.2 c n1).trans (hk c o n1 n2 n3 n4 q)) hf (Nat.le_refl _) nw
    refine ⟨.ref s.heap.objs.size, _, I1, rfl, ⟨_, x, y, rfl, I.hok.fresh (Nat.le_refl _), rfl, fun l hl => by rw [o1.inj X pins σ H s a l xs I hl hqx]; exact hx, fun l hl => by rw [o2.inj X pins σ H s b l ys I hl hqy]; exact hy⟩,
      ⟨z'', (sb.2 _ D.TIz).trans (hk _ _ D.TIz D.TITO D.TIi1 D.TIi2 hTI), ⟨u, u2, (sb.2 _ D.TOz).trans TO'⟩, o1.at_ _ _ _ _ _ h1'.1 fun o q => (sb.2 _ D.i1z).trans q, o2.at_ _ _ _ _ _ h2'.1 fun o q => (sb.2 _ D.i2z).trans q⟩, fun c hcm => ?_⟩
    have hlt : c < s.heap.objs.size := by
      have hcm' := hcm
      simp only [List.mem_cons, List.not_mem_nil, or_false] at hcm'
      rcases hcm' with rfl | rfl | rfl | rfl | rfl
      · exact hzl
      · exact Heap.lt_size hTI
      · exact Heap.lt_size hTO
      · obtain ⟨_, e, _⟩ := o1.ob _ _ _ _ h1; exact Heap.lt_size e
      · obtain ⟨_, e, _⟩ := o2.ob _ _ _ _ h2; exact Heap.lt_size e
    rw [upd_ne (Nat.ne_of_lt hlt)]
    exact (hf c hcm).1
  done := by
    intro X hP hw hK hc i pins s σ H E I hf st hg
    subst hP hw hK
    obtain ⟨hz, hTI, ⟨x0, y0, hTO⟩, h1, h2⟩ := st
    obtain ⟨xs, ys, hqx, hqy, e1, e2⟩ := hg
    obtain ⟨its, rv, p, _⟩ := o1.read X pins σ H s a xs I hqx
    obtain ⟨its2, rv2, p2, _⟩ := o2.read X pins σ H s b ys I hqy
    have l1 := rv.length
    have l2 := rv2.length
    refine zs_stop (I.ok.hd hc) D (o1.nx X.prog X.w i1 a its.toArray D.l1i1) (o2.nx X.prog X.w i2 b its2.toArray D.l2i2) hz hTI hTO ⟨h1, p⟩ ⟨h2, p2⟩ (by simp; omega) (by simp; omega) fun h' hk => ⟨rfl, I.turnedL (t' := s.toks) (ch := [z, TI, TO, i1, i2]) (fun c o hb q => ?_) hf⟩
    simp only [List.mem_cons, List.not_mem_nil, or_false, not_or] at hb
    exact hk c o hb.1 hb.2.2.1 hb.2.2.2.1 hb.2.2.2.2 q
  self := fun A i s Q E st h => zs_iter st.1 h

/-! ### the call with its keyword -/
section
variable {M : Model} {A : Around} {E : Value → Shared → Prop} {s : Shared} {env : Env} {pos : Pos}
theorem cw_kw {T : String} {e : Expr} {rest : List Expr} {kws : List Keyword} {Q : Value → Shared → Prop} (hall : (backToKw pos (keywordEach kws env)).all (·.1.isSome) = true) (hpl : (backTo pos (starEach (e :: rest) env)).any (·.1) = false) (hkw : (backToKw pos (keywordEach kws env)).any (·.1.isNone) = false)
    (h : wpAny M A (spliced (backTo pos (starEach (e :: rest) env))) (fun vs s₁ => wpAny M A (evalAll ((backToKw pos (keywordEach kws env)).map (·.2))) (fun ks s₂ => wpAny M A (call (.type T) vs (((backToKw pos (keywordEach kws env)).filterMap (·.1)).zip ks)) Q E s₂) E s₁) E s)
    (he : starEach (e :: rest) env = (false, eval e env) :: starEach rest env) : wpAny M A (callWith pos (.type T) [] (backTo pos (starEach (e :: rest) env)) (backToKw pos (keywordEach kws env))) Q E s := by
  unfold callWith
  refine wpAny_bind (wpAny_holding (evalArgs_kw2 hall (wpAny_mono h (fun vs s₁ h₁ => wpAny_mono h₁ (fun ks s₂ h₂ => ?_) fun _ _ x => x) fun _ _ x => x) he))
  refine wpAny_bind (wpAny_standAt ?_)
  simp only [hpl, hkw, Bool.or_false]
  refine wpAny_bind (wpAny_pure ?_)
  exact wpAny_bind (wpAny_mono h₂ (fun r s₃ hr => wpAny_bind (wpAny_holding (wpAny_point (wpAny_pure hr)))) fun _ _ x => x)
end
/-- zip(a, b, strict=True) is walked -/
def iZs (K : PySem.W.Frag) (ta : TA) : TI := fun σ H R => ta σ H fun vs H1 => ∃ a b xs ys, vs = [.ref a, .ref b] ∧ ((SqL K H1 a xs ∧ SqL K H1 b ys ∧ R (Itk kdL kdL K a b) H1) ∨ (SqL K H1 a xs ∧ SqT K H1 b ys ∧ R (Itk kdL kdT K a b) H1) ∨ (SqT K H1 a xs ∧ SqL K H1 b ys ∧ R (Itk kdT kdL K a b) H1) ∨ (SqT K H1 a xs ∧ SqT K H1 b ys ∧ R (Itk kdT kdT K a b) H1))
theorem pie_zs {X : Cx} {pins : List (Addr × Obj)} {σ : L2.St} {s : Shared} {H : Hp} {elts : List Expr} {kk : Nat} {tpos : Pos} {R : It → Hp → Prop} {k1 k2 : Kd} (o1 : KdOk k1) (o2 : KdOk k2) {c1 c2 : String} {a b : Addr} {g : Heap} (I : L2.Inv X pins σ H s) (la : a < s.heap.objs.size) (lb : b < s.heap.objs.size)
    (Z : ZsNew c1 c2 s.heap.objs.size a b s.heap g) (t1 : k1.It g s.heap.objs.size a 0) (t2 : k2.It g (s.heap.objs.size + 1) b 0) (q : R (Itk k1 k2 X.K a b) H) : PIE X pins σ (.Tuple elts kk tpos) R (.ref (s.heap.objs.size + 4)) { s with heap := g } := by
  refine ⟨s.heap.objs.size + 4, [s.heap.objs.size + 4, s.heap.objs.size + 2, s.heap.objs.size + 3, s.heap.objs.size, s.heap.objs.size + 1], _, _, H, rfl, I.kept (t' := s.toks) Z.keep, turn_zs o1 o2 (PySem.W.ktu_apart s.heap.objs.size a b la lb), ⟨Z.z, Z.ti, ⟨_, _, Z.to⟩, t1, t2⟩, fun c hc => ?_, q⟩
  have le : s.heap.objs.size ≤ c := by
    simp only [List.mem_cons, List.not_mem_nil, or_false] at hc
    rcases hc with rfl | rfl | rfl | rfl | rfl
    · exact Nat.le_add_right _ _
    · exact Nat.le_add_right _ _
    · exact Nat.le_add_right _ _
    · exact Nat.le_refl _
    · exact Nat.le_add_right _ _
  exact I.fpOk le (I.hok.fresh le)
theorem pi_zs {X : Cx} {e e2 : Expr} {ta : TA} {p pos tpos cp kp : Pos} {elts : List Expr} {kk cu : Nat} (hg : Gl X "zip") (hm : X.mg "zip" = none) (ha : PA X [e, e2] ta)
    (hs : starEach [e, e2] X.env = (false, eval e X.env) :: starEach [e2] X.env := by rfl) (hpl : (backTo pos (starEach [e, e2] X.env)).any (·.1) = false := by rfl) :
    PI X (.Tuple elts kk tpos) (.Call (.Name "zip" p) [e, e2] [⟨some "strict", .Constant (.bool true) cu cp, kp⟩] pos) (iZs X.K ta) := by
  refine ⟨fun pins s σ H R I h => ?_⟩
  refine wpAny_Call_Name_kw (ld_blt I hg hm PyProof.Rows.boot_zip (cw_kw rfl hpl rfl (thn (ha.run pos pins s σ H _ I h) fun us s1 ⟨vs, H1, I1, r1, q1⟩ => ?_) hs))
  refine thn ((pk_cons (nm := some "strict") (kpos := kp) (pe_bl (X := X) (b := true)) pk_nil).run pos pins s1 σ H1 (fun zs H2 => zs = [.bl true] ∧ ∃ a b xs ys, vs = [.ref a, .ref b] ∧ ((SqL X.K H2 a xs ∧ SqL X.K H2 b ys ∧ R (Itk kdL kdL X.K a b) H2) ∨ (SqL X.K H2 a xs ∧ SqT X.K H2 b ys ∧ R (Itk kdL kdT X.K a b) H2) ∨ (SqT X.K H2 a xs ∧ SqL X.K H2 b ys ∧ R (Itk kdT kdL X.K a b) H2) ∨ (SqT X.K H2 a xs ∧ SqT X.K H2 b ys ∧ R (Itk kdT kdT X.K a b) H2))) I1 ⟨rfl, q1⟩) fun ws s2 ⟨zs, H2, I2, r2, ez, a, b, xs, ys, ev, q2⟩ => ?_
  subst ez ev
  have e1 : us = [.ref a, .ref b] := by
    cases r1 with
    | cons r rr => cases rr with
      | cons r' rr =>
        cases rr
        cases r
        cases r'
        rfl
  have e2 : ws = [.bool true] := by
    cases r2 with
    | cons r rr =>
      cases rr
      cases r
      rfl
  subst e1 e2
  rcases q2 with ⟨hx, hy, q⟩ | ⟨hx, hy, q⟩ | ⟨hx, hy, q⟩ | ⟨hx, hy, q⟩
  · obtain ⟨_, _, p1, la⟩ := kdL_ok.read X pins σ H2 s2 a xs I2 hx
    obtain ⟨_, _, p2, lb⟩ := kdL_ok.read X pins σ H2 s2 b ys I2 hy
    exact zs_callLL p1 p2 fun h' Z => zs_iter Z.z (pie_zs kdL_ok kdL_ok I2 la lb Z ⟨_, Z.i1, rfl, rfl⟩ ⟨_, Z.i2, rfl, rfl⟩ q)
  · obtain ⟨_, _, p1, la⟩ := kdL_ok.read X pins σ H2 s2 a xs I2 hx
    obtain ⟨_, _, p2, lb⟩ := kdT_ok.read X pins σ H2 s2 b ys I2 hy
    exact zs_callLT p1 p2 fun h' Z => zs_iter Z.z (pie_zs kdL_ok kdT_ok I2 la lb Z ⟨_, Z.i1, rfl, rfl⟩ ⟨_, Z.i2, rfl, rfl⟩ q)
  · obtain ⟨_, _, p1, la⟩ := kdT_ok.read X pins σ H2 s2 a xs I2 hx
    obtain ⟨_, _, p2, lb⟩ := kdL_ok.read X pins σ H2 s2 b ys I2 hy
    exact zs_callTL p1 p2 fun h' Z => zs_iter Z.z (pie_zs kdT_ok kdL_ok I2 la lb Z ⟨_, Z.i1, rfl, rfl⟩ ⟨_, Z.i2, rfl, rfl⟩ q)
  · obtain ⟨_, _, p1, la⟩ := kdT_ok.read X pins σ H2 s2 a xs I2 hx
    obtain ⟨_, _, p2, lb⟩ := kdT_ok.read X pins σ H2 s2 b ys I2 hy
    exact zs_callTT p1 p2 fun h' Z => zs_iter Z.z (pie_zs kdT_ok kdT_ok I2 la lb Z ⟨_, Z.i1, rfl, rfl⟩ ⟨_, Z.i2, rfl, rfl⟩ q)
end DL

/-! D28: zip(a, b, strict=True) in the pieces. -/
namespace DL
open PySem L2 PyProof.Rows
def pairD (x y : PyData) : PyData := .tuple [x, y]
def izR (o : Option (List PyData)) (ρ : Rho) : Option (Oe (List PyData)) := match o with
  | some [d, e] => match itemsOf d, itemsOf e with
    | some xs, some ys => if xs.length = ys.length then some (.ok (List.zipWith pairD xs ys) ρ) else none
    | _, _ => none
  | _ => none
def izM (f : AM) : IM := fun ρ => bindO (f ρ) fun rs ρ1 => izR (dats rs) ρ1
@[simp] theorem izM_e (f : AM) (ρ : Rho) : izM f ρ = bindO (f ρ) fun rs ρ1 => izR (dats rs) ρ1 := eqI rfl
@[simp] theorem izR_ll (xs ys : List PyData) (ρ : Rho) : izR (some [.list xs, .list ys]) ρ = if xs.length = ys.length then some (.ok (List.zipWith pairD xs ys) ρ) else none := eqI rfl
@[simp] theorem izR_lt (xs ys : List PyData) (ρ : Rho) : izR (some [.list xs, .tuple ys]) ρ = if xs.length = ys.length then some (.ok (List.zipWith pairD xs ys) ρ) else none := eqI rfl
@[simp] theorem izR_tl (xs ys : List PyData) (ρ : Rho) : izR (some [.tuple xs, .list ys]) ρ = if xs.length = ys.length then some (.ok (List.zipWith pairD xs ys) ρ) else none := eqI rfl
@[simp] theorem izR_tt (xs ys : List PyData) (ρ : Rho) : izR (some [.tuple xs, .tuple ys]) ρ = if xs.length = ys.length then some (.ok (List.zipWith pairD xs ys) ρ) else none := eqI rfl
section
variable {T : Tb} {H : Hp} {F : Reg}
/-- what stands at v is walked, and stays -/
theorem walk_of {v : V} {d : PyData} {ds : List PyData} (h : DF T.K H F v d) (e : itemsOf d = some ds) : ∃ a vs, v = .ref a ∧ DFs T.K H F vs ds ∧ ((∀ H', Kept F H H' → SqL T.K H' a vs) ∨ (∀ H', Kept F H H' → SqT T.K H' a vs)) := by
  cases h with
  | lst f r s => cases e; exact ⟨_, _, rfl, s, .inl fun H' k => .inl (k.rdF f r)⟩
  | lstK r s => cases e; exact ⟨_, _, rfl, s, .inl fun H' k => LsR.sq (.inr r)⟩
  | tup r s => cases e; exact ⟨_, _, rfl, s, .inr fun H' k => k.sqT r⟩
  | non => cases e
  | bl b => cases e
  | int i => cases e
  | str x => cases e
  | dct a b c => cases e
  | dcT a b c d => cases e
theorem it_zs {k1 k2 : Kd} {a b : Addr} {vs us : List V} {xs ys : List PyData} (h1 : ∀ H', Kept F H H' → k1.Sq T.K H' a vs) (h2 : ∀ H', Kept F H H' → k2.Sq T.K H' b us) (s1 : DFs T.K H F vs xs) (s2 : DFs T.K H F us ys) (hl : xs.length = ys.length) : ItOk T (Itk k1 k2 T.K a b) F H (List.zipWith pairD xs ys) where
  go := fun H' k i d hd => by
    rw [List.getElem?_zipWith] at hd
    cases e1 : xs[i]? with
    | none => rw [e1] at hd; cases hd
    | some x =>
      cases e2 : ys[i]? with
      | none => rw [e1, e2] at hd; cases hd
      | some y =>
        rw [e1, e2] at hd
        cases hd
        obtain ⟨v, hv, dv⟩ := s1.get e1
        obtain ⟨u, hu, du⟩ := s2.get e2
        refine ⟨⟨vs, us, v, u, h1 H' k, h2 H' k, hv, hu⟩, ?_⟩
        rintro w H'' ⟨t, p, q, rfl, ht, rfl, f1, f2⟩
        have ep := f1 _ (h1 H' k)
        have eq := f2 _ (h2 H' k)
        rw [hv] at ep
        rw [hu] at eq
        cases ep
        cases eq
        have k2' : Kept F H (upd H' t (.tup [v, u])) := fun b o h z => kept_new ht b o (k b o h z)
        exact ⟨kept_new ht, .tup (.inl (.inl upd_same)) (.cons (dv.mono k2' fun _ h => h) (.cons (du.mono k2' fun _ h => h) .nil))⟩
  stop := fun H' k i h1' h2' => by
    rw [List.length_zipWith] at h1' h2'
    exact ⟨vs, us, h1 H' k, h2 H' k, by rw [s1.length]; omega, by rw [s2.length]; omega⟩
end
section
variable {X : Cx} {T : Tb} {W : WX} {n : Nat} {N : List Str} {sc : Scope} {pos p tpos cp kp : Pos} {e e2 : Expr} {fa : AM} {elts : List Expr} {kk cu : Nat}
theorem e_zs (a : At X N sc) (cx : Cxt X T W n) (hx : gnB sc "zip" = true) (hm : X.mg "zip" = none) (ha : SA X T W [e, e2] fa)
    (hs : starEach [e, e2] X.env = (false, eval e X.env) :: starEach [e2] X.env := by rfl) (hpl : (backTo pos (starEach [e, e2] X.env)).any (·.1) = false := by rfl) :
    SI X T W (.Tuple elts kk tpos) (.Call (.Name "zip" p) [e, e2] [⟨some "strict", .Constant (.bool true) cu cp, kp⟩] pos) (izM fa) := by
  refine pi_imp (pi_zs (a.gl hx).1 hm ha hs hpl) fun σ H Q ⟨ρ, F, O, E, P⟩ => ?_
  rw [cx.hK]
  refine stp .refl E P fun vs H1 rs ρ1 F1 O1 x1 y1 E1 r1 P1 => ?_
  cases q : dats rs with
  | none => rw [q] at P1; exact P1.elim
  | some ds =>
    rw [q] at P1
    have sd := dats_dfs r1 q
    unfold izR at P1
    split at P1
    · rename_i d d' hds
      cases hds
      split at P1
      · rename_i xs ys i1 i2
        split at P1
        · rename_i hl
          cases sd with
          | cons s1 sr => cases sr with
            | cons s2 sn =>
              cases sn
              obtain ⟨b1, v1, rfl, t1, k1⟩ := walk_of s1 i1
              obtain ⟨b2, v2, rfl, t2, k2⟩ := walk_of s2 i2
              refine ⟨b1, b2, v1, v2, rfl, ?_⟩
              rcases k1 with k1 | k1 <;> rcases k2 with k2 | k2
              · exact .inl ⟨k1 _ .refl, k2 _ .refl, P1 _ _ _ _ y1 E1 (it_zs (k1 := kdL) (k2 := kdL) k1 k2 t1 t2 hl)⟩
              · exact .inr (.inl ⟨k1 _ .refl, k2 _ .refl, P1 _ _ _ _ y1 E1 (it_zs (k1 := kdL) (k2 := kdT) k1 k2 t1 t2 hl)⟩)
              · exact .inr (.inr (.inl ⟨k1 _ .refl, k2 _ .refl, P1 _ _ _ _ y1 E1 (it_zs (k1 := kdT) (k2 := kdL) k1 k2 t1 t2 hl)⟩))
              · exact .inr (.inr (.inr ⟨k1 _ .refl, k2 _ .refl, P1 _ _ _ _ y1 E1 (it_zs (k1 := kdT) (k2 := kdT) k1 k2 t1 t2 hl)⟩))
        · exact P1.elim
      · exact P1.elim
    · exact P1.elim
end
end DL

/-! D29: longer numbers shown. -/
namespace DL
open PySem L2
theorem Rp.int2 {i : Int} {k : Nat} (hk : 0 < k) (hk2 : k ≤ 1920) (h : i.natAbs < 2 ^ k) : Rp (k + 1) 0 (.int i) := by
  have l : i.natAbs.log2 < k := by
    by_cases z : i.natAbs = 0
    · rw [z]; simpa using hk
    · exact (Nat.log2_lt z).mpr h
  refine ⟨?_, ?_, Nat.le_refl 0⟩
  · simp only [PyData.showable, decide_eq_true_eq]
    omega
  · have e := int_text_length_le hk l
    show (Str.ofString (toString i)).length ≤ k + 1
    rw [ofString_length]
    exact e
end DL

/-! D30: fractions as rationals. -/
namespace DL
open PySem L2
/-! ### fractions as rationals -/
theorem q_num {t b : Int} (hb : 0 < b) : (Rat.divInt t b).num = t.fdiv (Int.gcd t b : Int) := by
  rw [Rat.num_divInt, Int.sign_eq_one_of_pos hb, Int.one_mul, Int.gcd_comm, Int.fdiv_eq_ediv_of_nonneg _ (by omega)]
theorem q_den {t b : Int} (hb : 0 < b) : ((Rat.divInt t b).den : Int) = b.fdiv (Int.gcd t b : Int) := by
  rw [Rat.den_divInt, if_neg (by omega), Int.gcd_comm, Int.fdiv_eq_ediv_of_nonneg _ (by omega)]
  obtain ⟨n, rfl⟩ := Int.eq_ofNat_of_zero_le (show 0 ≤ b by omega)
  rw [Int.natAbs_natCast]
  rfl
/-- a number that fits into so many bits -/
structure Sz (k : Nat) (q : Rat) : Prop where
  n : q.num.natAbs < 2 ^ k
  d : q.den < 2 ^ k
theorem Sz.mono {k m : Nat} {q : Rat} (h : Sz k q) (l : k ≤ m) : Sz m q :=
  ⟨Nat.lt_of_lt_of_le h.n (Nat.pow_le_pow_right (by decide) l), Nat.lt_of_lt_of_le h.d (Nat.pow_le_pow_right (by decide) l)⟩
theorem Sz.mk' {k : Nat} {n : Int} {d : Nat} (h1 : n.natAbs < 2 ^ k) (h2 : d < 2 ^ k) (h3 : d ≠ 0) : Sz k (mkRat n d) := by
  constructor
  · rw [Rat.num_mkRat, if_neg h3]
    exact Nat.lt_of_le_of_lt (Int.natAbs_ediv_le_natAbs ..) h1
  · rw [Rat.den_mkRat, if_neg h3]
    exact Nat.lt_of_le_of_lt (Nat.div_le_self ..) h2
theorem Sz.divInt {k : Nat} {n d : Int} (h1 : n.natAbs < 2 ^ k) (h2 : d < 2 ^ k) (h3 : 0 < d) : Sz k (Rat.divInt n d) := by
  obtain ⟨m, rfl⟩ := Int.eq_ofNat_of_zero_le (show 0 ≤ d by omega)
  have e : Rat.divInt n ((m : Nat) : Int) = mkRat n m := Rat.divInt_ofNat n m
  show Sz k (Rat.divInt n ((m : Nat) : Int))
  rw [e]
  exact Sz.mk' h1 (by exact_mod_cast h2) (by omega)
theorem Sz.mul {j k : Nat} {p q : Rat} (h1 : Sz j p) (h2 : Sz k q) : Sz (j + k) (p * q) := by
  rw [Rat.mul_def']
  refine Sz.mk' ?_ ?_ (Nat.mul_ne_zero p.den_nz q.den_nz)
  · rw [Int.natAbs_mul, Nat.pow_add]
    exact Nat.mul_lt_mul'' h1.n h2.n
  · rw [Nat.pow_add]
    exact Nat.mul_lt_mul'' h1.d h2.d
theorem Sz.addn {j k : Nat} {p q : Rat} (h1 : Sz j p) (h2 : Sz k q) : (p.num * q.den + q.num * p.den).natAbs < 2 ^ (j + k + 1) := by
  have a : (p.num * q.den).natAbs < 2 ^ (j + k) := by
    rw [Int.natAbs_mul, Nat.pow_add]
    exact Nat.mul_lt_mul'' h1.n h2.d
  have b : (q.num * p.den).natAbs < 2 ^ (j + k) := by
    rw [Int.natAbs_mul, Nat.add_comm, Nat.pow_add]
    exact Nat.mul_lt_mul'' h2.n h1.d
  have c := Int.natAbs_add_le (p.num * q.den) (q.num * p.den)
  rw [Nat.pow_succ]
  omega
theorem Sz.denm {j k : Nat} {p q : Rat} (h1 : Sz j p) (h2 : Sz k q) : p.den * q.den < 2 ^ (j + k) := by
  rw [Nat.pow_add]
  exact Nat.mul_lt_mul'' h1.d h2.d
theorem Sz.add {j k : Nat} {p q : Rat} (h1 : Sz j p) (h2 : Sz k q) : Sz (j + k + 1) (p + q) := by
  rw [Rat.add_def']
  refine Sz.mk' (h1.addn h2) ?_ (Nat.mul_ne_zero p.den_nz q.den_nz)
  exact Nat.lt_of_lt_of_le (h1.denm h2) (Nat.pow_le_pow_right (by decide) (by omega))
theorem Sz.neg {k : Nat} {p : Rat} (h : Sz k p) : Sz k (-p) := ⟨by rw [Rat.neg_num, Int.natAbs_neg]; exact h.n, by rw [Rat.neg_den]; exact h.d⟩
theorem Sz.pow {k : Nat} {p : Rat} (h : Sz k p) (hk : 0 < k) : ∀ n : Nat, Sz (k * n + 1) (p ^ n)
  | 0 => by rw [Rat.pow_zero]; exact ⟨by show 1 < 2 ^ (k * 0 + 1); simp, by show 1 < 2 ^ (k * 0 + 1); simp⟩
  | n + 1 => by
    rw [Rat.pow_succ]
    exact ((Sz.pow h hk n).mul h).mono (by rw [Nat.mul_succ]; omega)
theorem Sz.int {k : Nat} {i : Int} (h : i.natAbs < 2 ^ k) (hk : 0 < k) : Sz k (i : Rat) := ⟨by rw [Rat.num_intCast]; exact h, by rw [Rat.den_intCast]; exact Nat.one_lt_two_pow (by omega)⟩
theorem q_mul (p q : Rat) : Rat.divInt (p.num * q.num) ((p.den : Int) * (q.den : Int)) = p * q := by
  rw [Rat.mul_def', ← Rat.divInt_ofNat]
  rfl
theorem q_add (p q : Rat) : Rat.divInt (p.num * q.den + q.num * p.den) ((p.den : Int) * (q.den : Int)) = p + q := by
  rw [Rat.add_def', ← Rat.divInt_ofNat]
  rfl
theorem q_pos (p : Rat) : 0 < (p.den : Int) := by have := p.den_pos; omega

/-- a fraction as data -/
def frQ (q : Rat) : PyData := .tuple [.int q.num, .int (q.den : Int)]
theorem frQ_low {t b : Int} (hb : 0 < b) : PyData.tuple [.int (t.fdiv (Int.gcd t b : Int)), .int (b.fdiv (Int.gcd t b : Int))] = frQ (Rat.divInt t b) := by
  unfold frQ
  rw [q_num hb, q_den hb]
theorem frQ_int (i : Int) : PyData.tuple [.int i, .int 1] = frQ (i : Rat) := by
  unfold frQ
  rw [Rat.num_intCast, Rat.den_intCast]
  rfl
theorem log2_le {i : Int} {n : Nat} (h : i.natAbs < 2 ^ n) : i.natAbs.log2 ≤ n := by
  by_cases z : i.natAbs = 0
  · rw [z]; simp
  · exact Nat.le_of_lt ((Nat.log2_lt z).mpr h)
theorem mulB {x y : Int} {j k : Nat} (h1 : x.natAbs < 2 ^ j) (h2 : y.natAbs < 2 ^ k) (l : j + k < 1000000) : dMul (.int x) (.int y) = some (.dat (.int (x * y))) := by
  have a := log2_le h1
  have b := log2_le h2
  rw [dMul_i, if_pos (by omega)]
theorem fdB {x y : Int} (h0 : y ≠ 0) (h : y.natAbs < 2 ^ 8900) : dFd (.int x) (.int y) = some (.dat (.int (x.fdiv y))) := by
  have a := log2_le h
  rw [dFd_i, if_pos ⟨h0, by omega⟩]
theorem Rp.frQ {k : Nat} {q : Rat} (h : Sz k q) (hk : 0 < k) (hk2 : k ≤ 1920) : Rp (2 * k + 9) 1 (frQ q) := by
  refine (Rp.tuple (n := k + 1) (m := 0) (k := 2) ?_ (by simp)).mono (by omega) (by omega)
  intro d hd
  simp only [List.mem_cons, List.not_mem_nil, or_false] at hd
  rcases hd with rfl | rfl
  · exact Rp.int2 hk hk2 h.n
  · exact Rp.int2 hk hk2 (by rw [Int.natAbs_natCast]; exact h.d)
theorem Eqb.frQ (q : Rat) : Eqb 1 (frQ q) := Eqb.tuple (m := 0) (by simp [Eqb.int])
theorem eqv_frQ (p q : Rat) : PyData.eqv (frQ p) (frQ q) = decide (p = q) := by
  have h : PyData.eqv (frQ p) (frQ q) = (decide (p.num = q.num) && decide ((p.den : Int) = (q.den : Int))) := by
    rw [Bool.eq_iff_iff]
    simp [DL.frQ, PyData.eqv, PyData.eqvAll]
  rw [h, Bool.eq_iff_iff]
  simp only [Bool.and_eq_true, decide_eq_true_eq]
  constructor
  · intro ⟨a, b⟩
    exact Rat.ext a (by exact_mod_cast b)
  · rintro rfl; exact ⟨rfl, rfl⟩
theorem frQ_inj {p q : Rat} (h : frQ p = frQ q) : p = q := by
  unfold frQ at h
  injection h with h
  injection h with a b
  injection b with b c
  injection a with a
  injection b with b
  exact Rat.ext a (by exact_mod_cast b)
end DL

/-! D31: spans, rows, steps; plain. -/
namespace DL
open PySem L2
/-- a span: begin, until, kind -/
structure Sp where
  b : Int
  u : Int
  k : Int
def Sp.d (s : Sp) : PyData := .tuple [.int s.b, .int s.u, .int s.k]
structure Sp.Ok (s : Sp) : Prop where
  b0 : 0 ≤ s.b
  bu : s.b < s.u
  u9 : s.u ≤ 999
  k0 : 0 ≤ s.k
  k4 : s.k ≤ 4
theorem Sp.eqb (s : Sp) : Eqb 1 s.d := Eqb.tuple (m := 0) (by simp [Eqb.int])
theorem eqb_spans (L : List Sp) : ∀ d ∈ L.map Sp.d, Eqb 1 d := by
  intro d hd
  obtain ⟨s, _, rfl⟩ := List.mem_map.mp hd
  exact s.eqb
theorem len_fm {α : Type} (p : α → Bool) (x : PyData) (L : List α) : (L.filterMap fun s => if p s = true then some x else none).length = L.countP p := by
  induction L with
  | nil => rfl
  | cons s r ih =>
    rw [List.filterMap_cons, List.countP_cons]
    cases p s <;> simp [ih]
theorem rp_spn {s : Sp} (h1 : 0 ≤ s.b ∧ s.b ≤ 9999) (h2 : 0 ≤ s.u ∧ s.u ≤ 9999) (h3 : 0 ≤ s.k ∧ s.k ≤ 4) : Rp 48 1 s.d := by
  refine Rp.tuple (n := 13) (m := 0) (k := 3) ?_ (by simp)
  intro d hd
  simp only [List.mem_cons, List.not_mem_nil, or_false] at hd
  rcases hd with rfl | rfl | rfl
  · exact Rp.int (by omega)
  · exact Rp.int (by omega)
  · exact Rp.int (by omega)
theorem rp_spans {α : Type} {L : List α} {f : α → Sp} (h : ∀ s ∈ L, (0 ≤ (f s).b ∧ (f s).b ≤ 9999) ∧ (0 ≤ (f s).u ∧ (f s).u ≤ 9999) ∧ 0 ≤ (f s).k ∧ (f s).k ≤ 4) (h2 : L.length ≤ 40) : Rp 2003 2 (.tuple (L.map fun s => (f s).d)) := by
  refine Rp.tuple (n := 48) (m := 1) (k := 40) ?_ (by simpa using h2)
  intro d hd
  obtain ⟨s, hs, rfl⟩ := List.mem_map.mp hd
  obtain ⟨a, b, c⟩ := h s hs
  exact rp_spn a b c
theorem gcd_step {a b : Int} : Int.gcd b (a.fmod b) = Int.gcd a b := by
  have e : a.fmod b = a - b * a.fdiv b := by
    have := Int.mul_fdiv_add_fmod a b
    omega
  rw [e]
  apply Nat.dvd_antisymm
  · refine Int.dvd_gcd ?_ ?_
    · have h1 := Int.gcd_dvd_left b (a - b * a.fdiv b)
      have h2 := Int.gcd_dvd_right b (a - b * a.fdiv b)
      have := Int.dvd_add h2 (Int.dvd_mul_of_dvd_left (b := b) (c := a.fdiv b) h1)
      simpa using this
    · exact Int.gcd_dvd_left ..
  · refine Int.dvd_gcd (Int.gcd_dvd_right ..) ?_
    exact Int.dvd_sub (Int.gcd_dvd_left ..) (Int.dvd_mul_of_dvd_left (Int.gcd_dvd_right ..))
/-- a fraction in lowest terms -/
def low (t b : Int) : PyData := .tuple [.int (t.fdiv (Int.gcd t b : Int)), .int (b.fdiv (Int.gcd t b : Int))]
theorem gcd_bd {t b : Int} (hb : 0 < b) : 0 < (Int.gcd t b : Int) ∧ (Int.gcd t b : Int) ≤ b := by
  have h1 : 0 < Int.gcd t b := Int.gcd_pos_of_ne_zero_right t (by omega)
  have h2 : (Int.gcd t b : Int) ∣ b := Int.gcd_dvd_right ..
  exact ⟨by omega, Int.le_of_dvd hb h2⟩
theorem rp_low {t b : Int} (h1 : 0 ≤ t) (h2 : t < 10 ^ 12) (h3 : 0 < b) (h4 : b < 10 ^ 12) : Rp 33 1 (low t b) := by
  obtain ⟨g1, g2⟩ := gcd_bd (t := t) h3
  have q : ∀ x : Int, 0 ≤ x → x < 10 ^ 12 → Rp 13 0 (.int (x.fdiv (Int.gcd t b : Int))) := fun x hx hx2 => by
    refine Rp.int ?_
    rw [Int.fdiv_eq_ediv_of_nonneg _ (by omega)]
    have a1 := Int.ediv_nonneg hx (show 0 ≤ (Int.gcd t b : Int) by omega)
    have a2 := Int.ediv_le_self (b := (Int.gcd t b : Int)) hx
    omega
  refine Rp.tuple (n := 13) (m := 0) (k := 2) ?_ (by simp)
  intro d hd
  simp only [List.mem_cons, List.not_mem_nil, or_false] at hd
  rcases hd with rfl | rfl
  · exact q t h1 h2
  · exact q b (by omega) h4
def wat (L : List Sp) (t : Int) : Nat := L.countP fun s => decide (s.b < t ∧ t ≤ s.u)
def cnt (L : List Sp) (t k : Int) : Nat := L.countP fun s => decide (s.u = t ∧ s.k = k)
def untils (L : List Sp) : List Int := L.filterMap fun s => if 0 < s.k then some s.u else none
def times (L : List Sp) : List Int := sortU (onceL (untils L) [])
def endsD (L : List Sp) (t : Int) : PyData := .tuple [.int (cnt L t 1), .int (cnt L t 2), .int (cnt L t 3), .int (cnt L t 4)]
def rowD (L : List Sp) (t : Int) : PyData := .tuple [.int t, .int (wat L t), endsD L t]
theorem sortU_len : ∀ l : List Int, (sortU l).length ≤ l.length
  | [] => by simp [sortU]
  | k :: r => by
    have h : ∀ l : List Int, (insU k l).length ≤ l.length + 1 := fun l => by
      induction l with
      | nil => simp [insU]
      | cons x r ih =>
        unfold insU
        split
        · simp only [List.length_cons]; omega
        · split
          · simp only [List.length_cons]; omega
          · simp only [List.length_cons]; omega
    rw [sortU, List.length_cons]
    exact Nat.le_trans (h _) (Nat.succ_le_succ (sortU_len r))
theorem untils_len (L : List Sp) : (untils L).length ≤ L.length := List.length_filterMap_le ..
theorem times_len (L : List Sp) : (times L).length ≤ L.length := Nat.le_trans (sortU_len _) (Nat.le_trans (onceL_len _ _) (by simpa using untils_len L))
theorem times_mem {L : List Sp} {t : Int} (h : t ∈ times L) : ∃ s ∈ L, s.u = t ∧ 0 < s.k := by
  unfold times at h
  rw [sortU_mem, onceL_mem] at h
  rcases h with h | h
  · cases h
  · unfold untils at h
    obtain ⟨s, hs, e⟩ := List.mem_filterMap.mp h
    by_cases c : 0 < s.k
    · rw [if_pos c] at e
      exact ⟨s, hs, Option.some.inj e, c⟩
    · rw [if_neg c] at e; cases e
def sumE (L : List Sp) (t : Int) : Int := ([(cnt L t 1 : Int), cnt L t 2, cnt L t 3, cnt L t 4]).sum
theorem sum_ends (L : List Sp) (t : Int) : sumD (endsD L t) = some (.dat (.int (sumE L t))) := sumD_t [(cnt L t 1 : Int), cnt L t 2, cnt L t 3, cnt L t 4]
theorem cnt_cons (s : Sp) (r : List Sp) (t k : Int) : cnt (s :: r) t k = cnt r t k + if s.u = t ∧ s.k = k then 1 else 0 := by
  unfold cnt; rw [List.countP_cons]; simp only [decide_eq_true_eq]
theorem wat_cons (s : Sp) (r : List Sp) (t : Int) : wat (s :: r) t = wat r t + if s.b < t ∧ t ≤ s.u then 1 else 0 := by
  unfold wat; rw [List.countP_cons]; simp only [decide_eq_true_eq]
theorem ends_le (t : Int) : ∀ (L : List Sp), (∀ s ∈ L, s.Ok) → cnt L t 1 + cnt L t 2 + cnt L t 3 + cnt L t 4 ≤ wat L t
  | [], _ => by simp [cnt, wat]
  | s :: r, h => by
    have ih := ends_le t r fun x hx => h x (List.mem_cons_of_mem _ hx)
    have bu := (h s (List.mem_cons_self ..)).bu
    rw [cnt_cons, cnt_cons, cnt_cons, cnt_cons, wat_cons]
    split <;> split <;> split <;> split <;> split <;> omega
theorem wat_le (L : List Sp) (t : Int) : wat L t ≤ L.length := List.countP_le_length
theorem sumE_bd {L : List Sp} (h : ∀ s ∈ L, s.Ok) (t : Int) : 0 ≤ sumE L t ∧ sumE L t ≤ wat L t := by
  have e := ends_le t L h
  unfold sumE
  simp only [List.sum_cons, List.sum_nil]
  omega
theorem wat_pos {L : List Sp} (h : ∀ s ∈ L, s.Ok) {t : Int} (ht : t ∈ times L) : 0 < wat L t := by
  obtain ⟨s, hs, e, _⟩ := times_mem ht
  unfold wat
  rw [List.countP_pos_iff]
  have bu := (h s hs).bu
  exact ⟨s, hs, by simp; omega⟩
theorem times_pw (L : List Sp) : (times L).Pairwise (· < ·) := sortU_pw
theorem two_pow_lt {a b : Nat} (h : a ≤ b) : (2 : Int) ^ a ≤ 2 ^ b := by exact_mod_cast Nat.pow_le_pow_right (show 0 < 2 by decide) h
theorem lt8000 {n : Int} (h : n < 2 ^ 64) : n < 2 ^ 8000 := Int.lt_of_lt_of_le h (two_pow_lt (by decide))
theorem zip_maps {α : Type} (f g : α → PyData) : ∀ l : List α, List.zipWith pairD (l.map f) (l.map g) = l.map fun x => pairD (f x) (g x)
  | [] => rfl
  | x :: r => by rw [List.map_cons, List.map_cons, List.zipWith_cons_cons, zip_maps f g r, List.map_cons]
theorem atI_last {α : Type} (xs : List α) (h : xs ≠ []) : atI xs (-1) = xs.getLast? := by
  have hp : 0 < xs.length := List.length_pos_iff.mpr h
  rw [atI_neg _ _ (by omega) (by omega), List.getLast?_eq_getElem?]
  congr 1
  omega
theorem low_q {t b : Int} (hb : 0 < b) : low t b = frQ (Rat.divInt t b) := frQ_low hb

theorem cnt_le (L : List Sp) (t k : Int) : cnt L t k ≤ L.length := List.countP_le_length
theorem rp_row {L : List Sp} (h2 : L.length ≤ 63) {t : Int} (h : t.natAbs < 10 ^ 12) : Rp 198 2 (rowD L t) := by
  have ei : ∀ n : Nat, n ≤ 63 → Rp 13 0 (.int (n : Int)) := fun n hn => Rp.int (by omega)
  have c := fun k => cnt_le L t k
  have w := wat_le L t
  refine Rp.tuple (n := 63) (m := 1) (k := 3) ?_ (by simp)
  intro d hd
  simp only [List.mem_cons, List.not_mem_nil, or_false] at hd
  rcases hd with rfl | rfl | rfl
  · exact (Rp.int h).mono (by omega) (by omega)
  · exact (ei _ (by omega)).mono (by omega) (by omega)
  · refine Rp.tuple (n := 13) (m := 0) (k := 4) ?_ (by simp)
    intro d hd
    simp only [List.mem_cons, List.not_mem_nil, or_false] at hd
    rcases hd with rfl | rfl | rfl | rfl
    · have := c 1; exact ei _ (by omega)
    · have := c 2; exact ei _ (by omega)
    · have := c 3; exact ei _ (by omega)
    · have := c 4; exact ei _ (by omega)
theorem rp_rows {L : List Sp} (h : ∀ s ∈ L, s.Ok) (h2 : L.length ≤ 63) : reprD (.list ((times L).map (rowD L))) = some (.dat (.str (PyData.shown (.list ((times L).map (rowD L)))))) := by
  have tl := times_len L
  refine (Rp.list (n := 198) (m := 2) (k := 63) ?_ (by rw [List.length_map]; omega)).reprD (by decide) (by decide)
  intro d hd
  obtain ⟨t, ht, rfl⟩ := List.mem_map.mp hd
  obtain ⟨s, hs, rfl, _⟩ := times_mem ht
  have b0 := (h s hs).b0
  have bu := (h s hs).bu
  have u9 := (h s hs).u9
  exact rp_row h2 (by omega)
theorem rp_bk {L : List Sp} (h : ∀ s ∈ L, s.Ok) (h2 : L.length ≤ 40) : reprD (.tuple (L.map Sp.d)) = some (.dat (.str (PyData.shown (.tuple (L.map Sp.d))))) := by
  refine (rp_spans (f := fun s => s) (fun s hs => ?_) h2).reprD (by decide) (by decide)
  obtain ⟨q1, q2, q3, q4, q5⟩ := h s hs
  exact ⟨⟨by omega, by omega⟩, ⟨by omega, by omega⟩, by omega, by omega⟩

/-! ### one turn of a loop -/
theorem turn_e (g : GM) (body : SM) (x : PyData) (ρ : Rho) : turn g body x ρ = bindR (g x ρ) body := by
  unfold turn bindR
  cases g x ρ <;> rfl
/-- a loop whose every turn goes on, with a state that is reckoned -/
theorem forL_st {α S : Type} {g : GM} {body : SM} (inD : α → PyData) (I : S → Rho → Prop) (step : S → α → S) (s0 : S) (L : List α) (ρ : Rho) (h0 : I s0 ρ)
    (ht : ∀ pre x post ρ, L = pre ++ x :: post → I (pre.foldl step s0) ρ → ∃ ρ2, bindR (g (inD x) ρ) body = some (.nx ρ2) ∧ I (step (pre.foldl step s0) x) ρ2) :
    ∃ ρ', forL g body (L.map inD) ρ = some (.nx ρ') ∧ I (L.foldl step s0) ρ' := by
  have key : ∀ (B A : List α) (ρ : Rho), L = A ++ B → I (A.foldl step s0) ρ → ∃ ρ', forL g body (B.map inD) ρ = some (.nx ρ') ∧ I (L.foldl step s0) ρ' := by
    intro B
    induction B with
    | nil => intro A ρ e h; rw [List.append_nil] at e; subst e; exact ⟨ρ, rfl, h⟩
    | cons x r ih =>
      intro A ρ e h
      obtain ⟨ρ2, e1, h1⟩ := ht A x r ρ e h
      obtain ⟨ρ', e2, h2⟩ := ih (A ++ [x]) ρ2 (by rw [e, List.append_assoc]; rfl) (by rw [List.foldl_append]; exact h1)
      refine ⟨ρ', ?_, h2⟩
      cases q : g (inD x) ρ with
      | none => rw [q] at e1; cases e1
      | some ρ1 =>
        rw [q, bindR_e] at e1
        show (match g (inD x) ρ with | none => none | some ρ1 => match body ρ1 with | some (.nx ρ2) => forL g body (r.map inD) ρ2 | some (.ct ρ2) => forL g body (r.map inD) ρ2 | some (.bk ρ2) => some (.nx ρ2) | o => o) = _
        rw [q]
        simp only [e1]
        exact e2
  exact key L [] ρ rfl h0
/-! ### steps -/
def scanQ (f : Int → Rat → Rat) : Rat → List Int → List (Int × Rat)
  | _, [] => []
  | q, t :: r => (t, f t q) :: scanQ f (f t q) r
def foldQ (f : Int → Rat → Rat) (q : Rat) (A : List Int) : Rat := A.foldl (fun q t => f t q) q
def stQ (p : Int × Rat) : PyData := .tuple [.int p.1, frQ p.2]
theorem foldQ_snoc (f : Int → Rat → Rat) (q : Rat) (A : List Int) (t : Int) : foldQ f q (A ++ [t]) = f t (foldQ f q A) := by unfold foldQ; rw [List.foldl_append]; rfl
theorem scanQ_snoc (f : Int → Rat → Rat) (t : Int) : ∀ (A : List Int) (q : Rat), scanQ f q (A ++ [t]) = scanQ f q A ++ [(t, f t (foldQ f q A))]
  | [], q => rfl
  | x :: A, q => by rw [List.cons_append, scanQ, scanQ, scanQ_snoc f t A]; rfl
theorem scanQ_len (f : Int → Rat → Rat) : ∀ (A : List Int) (q : Rat), (scanQ f q A).length = A.length
  | [], q => rfl
  | x :: A, q => by rw [scanQ, List.length_cons, List.length_cons, scanQ_len f A]
theorem scanQ_fst (f : Int → Rat → Rat) : ∀ (A : List Int) (q : Rat), (scanQ f q A).map (·.1) = A
  | [], q => rfl
  | x :: A, q => by rw [scanQ, List.map_cons, scanQ_fst f A]
theorem scanQ_congr {f g : Int → Rat → Rat} : ∀ (A : List Int) (q : Rat), (∀ t ∈ A, ∀ q, f t q = g t q) → scanQ f q A = scanQ g q A
  | [], q, _ => rfl
  | x :: A, q, h => by rw [scanQ, scanQ, h x (List.mem_cons_self ..), scanQ_congr A _ fun t ht => h t (List.mem_cons_of_mem _ ht)]
theorem foldQ_congr {f g : Int → Rat → Rat} (A : List Int) (q : Rat) (h : ∀ t ∈ A, ∀ q, f t q = g t q) : foldQ f q A = foldQ g q A := by
  induction A generalizing q with
  | nil => rfl
  | cons x A ih =>
    show foldQ f (f x q) A = foldQ g (g x q) A
    rw [h x (List.mem_cons_self ..)]
    exact ih _ fun t ht => h t (List.mem_cons_of_mem _ ht)
/-- the step that stands at a time -/
def atQ (f : Int → Rat → Rat) (q : Rat) (A : List Int) (time : Int) : Rat := foldQ f q (A.filter fun t => decide (t ≤ time))
theorem scanQ_upto (f : Int → Rat → Rat) (time : Int) : ∀ (A : List Int) (q : Rat), A.Pairwise (· < ·) → ((scanQ f q A).filterMap fun p => if p.1 ≤ time then some p.2 else none) = (scanQ f q (A.filter fun t => decide (t ≤ time))).map (·.2)
  | [], q, _ => rfl
  | x :: A, q, h => by
    rw [List.pairwise_cons] at h
    by_cases c : x ≤ time
    · rw [List.filter_cons_of_pos (by simpa using c), scanQ, scanQ, List.map_cons, List.filterMap_cons]
      simp only [c, if_true]
      rw [scanQ_upto f time A _ h.2]
    · have e : (x :: A).filter (fun t => decide (t ≤ time)) = [] := by
        rw [List.filter_eq_nil_iff]
        intro y hy
        rw [decide_eq_true_eq]
        rcases List.mem_cons.mp hy with z | z
        · rw [z]; exact c
        · have := h.1 y z; omega
      rw [e]
      show _ = []
      rw [List.filterMap_eq_nil_iff]
      intro p hp
      have hm : p.1 ∈ x :: A := by rw [← scanQ_fst f (x :: A) q]; exact List.mem_map_of_mem hp
      have : ¬ p.1 ≤ time := by
        rcases List.mem_cons.mp hm with z | z
        · rw [z]; exact c
        · have := h.1 _ z; omega
      rw [if_neg this]
theorem scanQ_last (f : Int → Rat → Rat) : ∀ (A : List Int) (q : Rat), (q :: (scanQ f q A).map (·.2)).getLast? = some (foldQ f q A)
  | [], q => rfl
  | x :: A, q => by
    rw [scanQ, List.map_cons, List.getLast?_cons_cons, scanQ_last f A]
    rfl
theorem scanQ_at (f : Int → Rat → Rat) (time : Int) (A : List Int) (q : Rat) (h : A.Pairwise (· < ·)) : (q :: (scanQ f q A).filterMap fun p => if p.1 ≤ time then some p.2 else none).getLast? = some (atQ f q A time) := by
  rw [scanQ_upto f time A q h, scanQ_last]
  rfl
theorem foldQ_sz {f : Int → Rat → Rat} {c : Nat} : ∀ (A : List Int) (q : Rat) (k : Nat), (∀ t ∈ A, ∀ q k, Sz k q → Sz (k + c) (f t q)) → Sz k q → Sz (k + c * A.length) (foldQ f q A)
  | [], q, k, _, h => h
  | x :: A, q, k, hf, h => by
    have := foldQ_sz (f := f) (c := c) A (f x q) (k + c) (fun t ht => hf t (List.mem_cons_of_mem _ ht)) (hf x (List.mem_cons_self ..) q k h)
    rw [List.length_cons]
    exact this.mono (by rw [Nat.mul_succ]; omega)
theorem scanQ_sz {f : Int → Rat → Rat} {c : Nat} : ∀ (A : List Int) (q : Rat) (k : Nat), (∀ t ∈ A, ∀ q k, Sz k q → Sz (k + c) (f t q)) → Sz k q → ∀ p ∈ scanQ f q A, Sz (k + c * A.length) p.2
  | [], q, k, _, h => by simp [scanQ]
  | x :: A, q, k, hf, h => by
    intro p hp
    rw [scanQ] at hp
    rw [List.length_cons, Nat.mul_succ]
    rcases List.mem_cons.mp hp with z | z
    · rw [z]
      exact (hf x (List.mem_cons_self ..) q k h).mono (by omega)
    · exact (scanQ_sz (f := f) (c := c) A (f x q) (k + c) (fun t ht => hf t (List.mem_cons_of_mem _ ht)) (hf x (List.mem_cons_self ..) q k h) p z).mono (by omega)
theorem atQ_sz {f : Int → Rat → Rat} {c : Nat} (A : List Int) (q : Rat) (k : Nat) (time : Int) (hf : ∀ t ∈ A, ∀ q k, Sz k q → Sz (k + c) (f t q)) (h : Sz k q) : Sz (k + c * A.length) (atQ f q A time) := by
  have := foldQ_sz (A.filter fun t => decide (t ≤ time)) q k (fun t ht => hf t (List.mem_filter.mp ht).1) h
  refine this.mono ?_
  have := Nat.mul_le_mul_left c (List.length_filter_le (fun t => decide (t ≤ time)) A)
  omega
/-! ### parts and rates of a book's rows -/
def partQ (L : List Sp) (t : Int) : Rat := Rat.divInt (wat L t - sumE L t) (wat L t)
def rateQ (L : List Sp) (t : Int) : Rat := Rat.divInt (sumE L t) (wat L t)
theorem natAbs_lt {i : Int} {n : Nat} (h1 : 0 ≤ i) (h2 : i < 2 ^ n) : i.natAbs < 2 ^ n := by
  obtain ⟨m, rfl⟩ := Int.eq_ofNat_of_zero_le h1
  rw [Int.natAbs_natCast]
  exact_mod_cast h2
theorem partQ_sz {L : List Sp} (h : ∀ s ∈ L, s.Ok) (h2 : L.length ≤ 63) {t : Int} (ht : t ∈ times L) : Sz 6 (partQ L t) := by
  obtain ⟨a, b⟩ := sumE_bd h t
  have c := wat_pos h ht
  have d := wat_le L t
  exact Sz.divInt (natAbs_lt (by omega) (by omega)) (by omega) (by omega)
theorem rateQ_sz {L : List Sp} (h : ∀ s ∈ L, s.Ok) (h2 : L.length ≤ 63) {t : Int} (ht : t ∈ times L) : Sz 6 (rateQ L t) := by
  obtain ⟨a, b⟩ := sumE_bd h t
  have c := wat_pos h ht
  have d := wat_le L t
  exact Sz.divInt (natAbs_lt (by omega) (by omega)) (by omega) (by omega)
theorem one_sz : Sz 1 (1 : Rat) := ⟨by decide, by decide⟩
theorem zero_sz : Sz 1 (0 : Rat) := ⟨by decide, by decide⟩
theorem frQ_1 : frQ 1 = .tuple [.int 1, .int 1] := rfl
theorem frQ_0 : frQ 0 = .tuple [.int 0, .int 1] := rfl
/-- the shares of the rows -/
def shF (L : List Sp) (t : Int) (q : Rat) : Rat := q * partQ L t
def raF (L : List Sp) (t : Int) (q : Rat) : Rat := q + rateQ L t
theorem shF_sz {L : List Sp} (h : ∀ s ∈ L, s.Ok) (h2 : L.length ≤ 63) : ∀ t ∈ times L, ∀ q k, Sz k q → Sz (k + 6) (shF L t q) := fun t ht q k hq => hq.mul (partQ_sz h h2 ht)
theorem raF_sz {L : List Sp} (h : ∀ s ∈ L, s.Ok) (h2 : L.length ≤ 63) : ∀ t ∈ times L, ∀ q k, Sz k q → Sz (k + 7) (raF L t q) := fun t ht q k hq => hq.add (rateQ_sz h h2 ht)
theorem Rp.stQ {k : Nat} {p : Int × Rat} (h : p.1.natAbs < 10 ^ 12) (h2 : Sz k p.2) (hk : 2 ≤ k) (hk2 : k ≤ 1920) : Rp (4 * k + 25) 2 (stQ p) := by
  refine (Rp.tuple (n := 2 * k + 9) (m := 1) (k := 2) ?_ (by simp)).mono (by omega) (by omega)
  intro d hd
  simp only [List.mem_cons, List.not_mem_nil, or_false] at hd
  rcases hd with rfl | rfl
  · exact (Rp.int h).mono (by omega) (by omega)
  · exact Rp.frQ h2 (by omega) hk2
theorem rp_scan {L : List Sp} (h : ∀ s ∈ L, s.Ok) {f : Int → Rat → Rat} {k : Nat} (hk : 2 ≤ k) (hk2 : k ≤ 500) (h2 : L.length ≤ 40) {q : Rat} (hs : ∀ p ∈ scanQ f q (times L), Sz k p.2) : reprD (.list ((scanQ f q (times L)).map stQ)) = some (.dat (.str (PyData.shown (.list ((scanQ f q (times L)).map stQ))))) := by
  have tl := times_len L
  refine (Rp.list (n := 4 * k + 25) (m := 2) (k := 40) ?_ (by rw [List.length_map, scanQ_len]; omega)).reprD (show _ ≤ 100000 by omega) (by decide)
  intro d hd
  obtain ⟨p, hp, rfl⟩ := List.mem_map.mp hd
  have hm : p.1 ∈ times L := by rw [← scanQ_fst f (times L) q]; exact List.mem_map_of_mem hp
  obtain ⟨s, hs', e, _⟩ := times_mem hm
  obtain ⟨q1, q2, q3, q4, q5⟩ := h s hs'
  exact Rp.stQ (by omega) (hs p hp) hk (by omega)
theorem times_bd {L : List Sp} (h : ∀ s ∈ L, s.Ok) {t : Int} (ht : t ∈ times L) : 1 ≤ t ∧ t ≤ 999 := by
  obtain ⟨s, hs, e, _⟩ := times_mem ht
  obtain ⟨q1, q2, q3, q4, q5⟩ := h s hs
  omega

/-! ### slices at work -/
def slR (o : Option PyData) (a b : Option Int) (ρ : Rho) : Option (Oe R) := match o with
  | some d => retO (slD d a b) ρ
  | none => none
def ptR (r : R) (ρ : Rho) : Option (Oe (Option Int)) := match r with
  | .dat (.int i) => some (.ok (some i) ρ)
  | _ => none
@[simp] theorem slR_e (d : PyData) (a b : Option Int) (ρ : Rho) : slR (some d) a b ρ = retO (slD d a b) ρ := eqI rfl
@[simp] theorem ptR_e (i : Int) (ρ : Rho) : ptR (.dat (.int i)) ρ = some (.ok (some i) ρ) := eqI rfl
@[simp] theorem ptM_0 (ρ : Rho) : ptM none ρ = some (.ok none ρ) := eqI rfl
@[simp] theorem ptM_1 (f : EM) (ρ : Rho) : ptM (some f) ρ = bindO (f ρ) ptR := eqI rfl
@[simp] theorem slM_e (fe : EM) (lo hi : Option EM) (ρ : Rho) : slM fe lo hi ρ = bindO (fe ρ) fun r ρ1 => bindO (ptM lo ρ1) fun a ρ2 => bindO (ptM hi ρ2) fun b ρ3 => slR (val ρ3 r) a b ρ3 := by
  unfold slM
  congr 1
  funext r ρ1
  congr 1
  funext a ρ2
  congr 1
  funext b ρ3
  cases val ρ3 r with
  | none => rfl
  | some d => exact map_retO _ _
@[simp] theorem slD_l (ds : List PyData) (a b : Option Int) : slD (.list ds) a b = some (.own (.list (cutD ds a b))) := eqI rfl
@[simp] theorem slD_t (ds : List PyData) (a b : Option Int) : slD (.tuple ds) a b = some (.dat (.tuple (cutD ds a b))) := eqI rfl
theorem cut_to (xs : List PyData) {i : Int} (h : 0 ≤ i) : cutD xs none (some i) = xs.take i.toNat := by
  unfold cutD HT.sIx
  simp only [List.drop_zero, Nat.sub_zero]
  rw [if_neg (by omega)]
  by_cases c : i.toNat ≤ xs.length
  · rw [Nat.min_eq_left c]
  · rw [Nat.min_eq_right (by omega), List.take_length, List.take_of_length_le (by omega)]
theorem cut_from (xs : List PyData) {i : Int} (h : 0 ≤ i) : cutD xs (some i) none = xs.drop i.toNat := by
  unfold cutD HT.sIx
  simp only
  rw [if_neg (by omega)]
  by_cases c : i.toNat ≤ xs.length
  · rw [Nat.min_eq_left c, List.take_of_length_le (by rw [List.length_drop]; omega)]
  · rw [Nat.min_eq_right (by omega), List.drop_eq_nil_of_le (by omega : xs.length ≤ i.toNat), List.drop_length, List.take_nil]
theorem cut_neg (xs : List PyData) {i : Int} (h : i < 0) : cutD xs (some i) none = xs.drop (i + xs.length).toNat := by
  unfold cutD HT.sIx
  simp only
  rw [if_pos h, List.take_of_length_le (by rw [List.length_drop]; omega)]
theorem cut_toneg (xs : List PyData) {i : Int} (h : i < 0) : cutD xs none (some i) = xs.take (i + xs.length).toNat := by
  unfold cutD HT.sIx
  simp only [List.drop_zero, Nat.sub_zero]
  rw [if_pos h]
theorem cut_mid (xs : List PyData) {i j : Int} (h : 0 ≤ i) (h2 : i ≤ j) : cutD xs (some i) (some j) = (xs.drop i.toNat).take (j - i).toNat := by
  unfold cutD HT.sIx
  simp only
  rw [if_neg (by omega), if_neg (by omega)]
  by_cases c : i.toNat ≤ xs.length
  · rw [Nat.min_eq_left c]
    by_cases d : j.toNat ≤ xs.length
    · rw [Nat.min_eq_left d]
      congr 1
      omega
    · rw [Nat.min_eq_right (by omega), List.take_of_length_le (by rw [List.length_drop]; omega), List.take_of_length_le (by rw [List.length_drop]; omega)]
  · rw [List.drop_eq_nil_of_le (by omega), List.drop_eq_nil_of_le (by omega), List.take_nil, List.take_nil]
@[simp] theorem cut_1 (x : PyData) (xs : List PyData) : cutD (x :: xs) (some 1) none = xs := by rw [cut_from _ (by decide)]; rfl
theorem foldl_snoc {α : Type} : ∀ (l acc : List α), l.foldl (fun A t => A ++ [t]) acc = acc ++ l
  | [], acc => by simp
  | x :: r, acc => by rw [List.foldl_cons, foldl_snoc r, List.append_assoc]; rfl
theorem foldl_snoc0 {α : Type} (l : List α) : l.foldl (fun A t => A ++ [t]) [] = l := by rw [foldl_snoc]; rfl
theorem den_lt {p q : Rat} {j k : Nat} (h1 : Sz j p) (h2 : Sz k q) (l : j + k ≤ 8000) : (p.den : Int) * (q.den : Int) < 2 ^ 8000 := by
  have a := Nat.lt_of_lt_of_le (h1.denm h2) (Nat.pow_le_pow_right (show 0 < 2 by decide) l)
  have b : ((p.den * q.den : Nat) : Int) < ((2 ^ 8000 : Nat) : Int) := Int.ofNat_lt.mpr a
  rw [Int.natCast_mul, Int.natCast_pow] at b
  exact b
theorem dEq_pair (a b c d : Int) : dEq (.tuple [.int a, .int b]) (.tuple [.int c, .int d]) = some (.dat (.bool (decide (a = c) && decide (b = d)))) := by
  rw [dEq_of (Eqb.tuple (m := 0) (by simp [Eqb.int])) (Eqb.tuple (m := 0) (by simp [Eqb.int])) (by decide) (by decide) (by intro i j h; cases h)]
  have : PyData.eqv (.tuple [.int a, .int b]) (.tuple [.int c, .int d]) = (decide (a = c) && decide (b = d)) := by
    rw [Bool.eq_iff_iff]
    simp [PyData.eqv, PyData.eqvAll]
  rw [this]
/-- a top and a bottom that fit into so many bits -/
structure Sp2 (k : Nat) (a b : Int) : Prop where
  n : a.natAbs < 2 ^ k
  p : 0 < b
  d : b.natAbs < 2 ^ k
theorem Sz.r {k : Nat} {q : Rat} (h : Sz k q) : Sp2 k q.num (q.den : Int) := ⟨h.n, q_pos q, by rw [Int.natAbs_natCast]; exact h.d⟩
theorem Sp2.q {k : Nat} {a b : Int} (h : Sp2 k a b) : Sz k (Rat.divInt a b) := by
  obtain ⟨m, rfl⟩ := Int.eq_ofNat_of_zero_le (Int.le_of_lt h.p)
  have hm := h.d
  rw [Int.natAbs_natCast] at hm
  exact Sz.divInt h.n (by exact_mod_cast hm) h.p
theorem Sp2.of {k : Nat} {a b : Int} (h1 : 0 ≤ a) (h2 : a < 2 ^ k) (h3 : 0 < b) (h4 : b < 2 ^ k) : Sp2 k a b := ⟨natAbs_lt h1 h2, h3, natAbs_lt (by omega) h4⟩
theorem Sp2.lt {j k : Nat} {a b c d : Int} (h1 : Sp2 j a b) (h2 : Sp2 k c d) (l : j + k ≤ 8000) : b * d < 2 ^ 8000 := by
  obtain ⟨m, rfl⟩ := Int.eq_ofNat_of_zero_le (Int.le_of_lt h1.p)
  obtain ⟨n, rfl⟩ := Int.eq_ofNat_of_zero_le (Int.le_of_lt h2.p)
  have hm := h1.d
  have hn := h2.d
  rw [Int.natAbs_natCast] at hm hn
  have a := Nat.mul_lt_mul'' hm hn
  rw [← Nat.pow_add] at a
  have a := Nat.lt_of_lt_of_le a (Nat.pow_le_pow_right (show 0 < 2 by decide) l)
  have b : ((m * n : Nat) : Int) < ((2 ^ 8000 : Nat) : Int) := Int.ofNat_lt.mpr a
  rw [Int.natCast_mul, Int.natCast_pow] at b
  exact b
theorem q_addR {a b c d : Int} (hb : 0 < b) (hd : 0 < d) : Rat.divInt (a * d + c * b) (b * d) = Rat.divInt a b + Rat.divInt c d := (Rat.divInt_add_divInt a c (by omega) (by omega)).symm
theorem q_mulR {a b c d : Int} : Rat.divInt (a * c) (b * d) = Rat.divInt a b * Rat.divInt c d := (Rat.divInt_mul_divInt a c).symm
/-! with a condition, for a discharger -/
theorem dPlus_lc {i j : List PyData} (h : i.length + j.length ≤ 100000) : dPlus (.list i) (.list j) = some (.own (.list (i ++ j))) := if_pos h
theorem dPlus_tc {i j : List PyData} (h : i.length + j.length ≤ 100000) : dPlus (.tuple i) (.tuple j) = some (.dat (.tuple (i ++ j))) := if_pos h
theorem appR_c {i : Nat} {d : PyData} {ρ : Rho} {ds : List PyData} (h : ds.length < 100000) : appR i d ρ (some (some (.own (.list ds)))) = some (.nx (ρ.set i (some (.own (.list (ds ++ [d])))))) := if_pos h
/-- the law's loop over its cells -/
theorem loopK {body : SM} {ns : List Int} (P : Rho → Prop) (hb : ∀ (k : Nat) (es : Rho), P es → ∃ e1 es', body (some (.dat (.list (ns.map .int))) :: some (.dat (.int k)) :: es) = some (.nx (some (.dat (.list (ns.map .int))) :: e1 :: es')) ∧ P es') (n : Nat) (e1 : Option R) (es : Rho) (h : P es) :
    ∃ e1' es', forL (gnM 1) body (rngL 0 n) (some (.dat (.list (ns.map .int))) :: e1 :: es) = some (.nx (some (.dat (.list (ns.map .int))) :: e1' :: es')) ∧ P es' := by
  obtain ⟨ρ', e, _, e1', es', rfl, h'⟩ := forL_inv (g := gnM 1) (body := body) (fun xs ρ => (∀ y ∈ xs, ∃ k : Nat, y = .int k) ∧ ∃ e1 es, ρ = some (.dat (.list (ns.map .int))) :: e1 :: es ∧ P es) (rngL 0 n) (some (.dat (.list (ns.map .int))) :: e1 :: es)
    ⟨fun x hx => by obtain ⟨k, _, rfl⟩ := rngL_mem hx; exact ⟨k, by rw [Int.zero_add]⟩, _, _, rfl, h⟩ (by
      rintro x r ρ ⟨hx, e1, es, rfl, h⟩
      obtain ⟨k, rfl⟩ := hx x (List.mem_cons_self ..)
      obtain ⟨e1', es', e, h'⟩ := hb k es h
      exact ⟨_, _, rfl, .inl e, fun y hy => hx y (List.mem_cons_of_mem _ hy), _, _, rfl, h'⟩)
  exact ⟨e1', es', e, h'⟩
/-- how often it turns -/
theorem turns_is {ns : List Int} {c : Int} (hc : 0 ≤ c ∧ c ≤ 100) : ∃ m : Nat, ∀ ρ, rg1 (.dat (.int (if (if c < ns.length then c else (ns.length : Int)) > 1 then (if c < ns.length then c else (ns.length : Int)) else 1))) ρ = some (.ok (rngL 0 m) ρ) :=
  ⟨_, fun ρ => rg1_is ρ (by split <;> split <;> omega) (by split <;> split <;> omega)⟩
end DL

/-! D32: zip(a, b), a and b each a list or a tuple; it ends with the shorter one. -/
namespace DL
open PySem PyProof.Rows
open L2 hiding Sp
open Builtin.SmallTypes (nextOf nextOrEnd)
/-- a plain zip's record -/
abbrev IsZp (h : Heap) (z TI TO : Addr) (f0 : Value) : Prop :=
  h.get? z = some { cls := .type "zip", dict := none, data := .fields #[f0, .bool false, .bool false, .ref TI, .ref TO], slots := #[] }
section
variable {P : Program} {w : World} {A : Around} {E : Value → Shared → Prop} {s : Shared} {z TI TO i1 i2 l1 l2 : Addr} {S1 S2 : Nat → Heap → Prop} {e1 e2 : Nat → Option Value}
theorem zp_item (D : ZipApart z TI TO i1 i2 l1 l2) (N1 : Nx P w i1 l1 S1 e1) (N2 : Nx P w i2 l2 S2 e2) {k1 k2 : Nat} {x y a b : Value} {Q : Value → Shared → Prop} (hz : IsZp s.heap z TI TO .none) (hTI : IsPair s.heap TI (.ref i1) (.ref i2)) (hTO : IsPair s.heap TO a b) (h1 : S1 k1 s.heap) (h2 : S2 k2 s.heap) (hx : e1 k1 = some x) (hy : e2 k2 = some y)
    (hQ : ∀ h', IsZp h' z TI TO (rawInt s.heap.objs.size) → IsPair h' TO x y → S1 (k1 + 1) h' → S2 (k2 + 1) h' → IsPair h' s.heap.objs.size x y → h'.objs.size = s.heap.objs.size + 1 → (∀ c o, c ≠ z → c ≠ TO → c ≠ i1 → c ≠ i2 → s.heap.get? c = some o → h'.get? c = some o) → Q (.ref s.heap.objs.size) { s with heap := h' }) :
    wpAny (model P w) A (Builtin.«zip.__next__» ⟨[.ref z], []⟩) (fun fin s' => ∃ v, fin = .done (.ret v) ∧ Q v s') E s := by
  show wpAny (model P w) A (field (.ref z) 2 >>= _) _ _ _
  refine wpAny_bind (wpAny_field hz rfl (x := .bool false) rfl ?_)
  show wpAny (model P w) A (field (.ref z) 3 >>= _) _ _ _
  refine wpAny_bind (wpAny_field hz rfl (x := .ref TI) rfl (wpAny_bind (wpAny_seqItems hTI rfl ?_)))
  show wpAny (model P w) A (Builtin.SmallTypes.ownedTupleIsFree (.ref z) >>= _) _ _ _
  unfold Builtin.SmallTypes.ownedTupleIsFree
  refine wpAny_bind (wpAny_bind (wpAny_field hz rfl (x := .none) rfl (wpAny_pure ?_)))
  simp only [if_true]
  refine wpAny_bind (wpAny_rule (wpAny_bind (wpAny_field hz rfl (x := .ref TO) rfl (wpAny_bind (wpAny_setField_rec hz (by simp) fun g1 z1 b1 => ?_)))))
  have z1' : IsZp g1 z TI TO .ellipsis := z1
  refine wpAny_bind ?_
  simp only [List.zipIdx_cons, List.zipIdx_nil, List.forIn_cons, List.forIn_nil]
  refine wpAny_bind (wpAny_bind (wpAny_onRaise ?_))
  show wpAny (model P w) A (nextOf (.ref i1) >>= _) _ _ _
  refine wpAny_bind (N1.item _ _ _ _ k1 x (N1.keep _ _ _ h1 (fun o e => b1.extBut _ _ D.i1z e) fun o e => b1.extBut _ _ D.l1z e) hx fun g2 s12 b2 => wpAny_pure ?_)
  have o2 : IsPair g2 TO a b := b2.extBut _ _ D.TOi1 (b1.extBut _ _ D.TOz hTO)
  refine wpAny_bind (wpAny_seqItems o2 rfl (wpAny_bind (wpAny_updateSeq_pair o2 fun g3 o3 b3 => wpAny_bind (wpAny_letGo (wpAny_pure ?_)))))
  have o3' : IsPair g3 TO x b := o3
  refine wpAny_bind (wpAny_bind (wpAny_onRaise ?_))
  show wpAny (model P w) A (nextOf (.ref i2) >>= _) _ _ _
  refine wpAny_bind (N2.item _ _ _ _ k2 y (N2.keep _ _ _ h2 (fun o e => b3.extBut _ _ D.TOi2.symm (b2.extBut _ _ D.i12.symm (b1.extBut _ _ D.i2z e))) fun o e => b3.extBut _ _ D.l2TO (b2.extBut _ _ D.l2i1 (b1.extBut _ _ D.l2z e))) hy fun g4 s24 b4 => wpAny_pure ?_)
  have o4 : IsPair g4 TO x b := b4.extBut _ _ D.TOi2 o3'
  refine wpAny_bind (wpAny_seqItems o4 rfl (wpAny_bind (wpAny_updateSeq_pair o4 fun g5 o5 b5 => wpAny_bind (wpAny_letGo (wpAny_pure (wpAny_pure ?_))))))
  have o5' : IsPair g5 TO x y := o5
  have sz : g5.objs.size = s.heap.objs.size := by rw [b5.1, b4.1, b3.1, b2.1, b1.1]
  have z5 : IsZp g5 z TI TO .ellipsis := b5.extBut _ _ D.TOz.symm (b4.extBut _ _ D.i2z.symm (b3.extBut _ _ D.TOz.symm (b2.extBut _ _ D.i1z.symm z1')))
  have s15 : S1 (k1 + 1) g5 := N1.keep _ _ _ s12 (fun o e => b5.extBut _ _ D.TOi1.symm (b4.extBut _ _ D.i12 (b3.extBut _ _ D.TOi1.symm e))) fun o e => b5.extBut _ _ D.l1TO (b4.extBut _ _ D.l1i2 (b3.extBut _ _ D.l1TO e))
  have s25 : S2 (k2 + 1) g5 := N2.keep _ _ _ s24 (fun o e => b5.extBut _ _ D.TOi2.symm e) fun o e => b5.extBut _ _ D.l2TO e
  have k5 : ∀ c o, c ≠ z → c ≠ TO → c ≠ i1 → c ≠ i2 → s.heap.get? c = some o → g5.get? c = some o := fun c o n1 n2 n3 n4 e => b5.extBut _ _ n2 (b4.extBut _ _ n4 (b3.extBut _ _ n2 (b2.extBut _ _ n3 (b1.extBut _ _ n1 e))))
  refine wpAny_bind (wpAny_seqItems o5' rfl (wpAny_bind (wpAny_newTuple ?_)))
  have zlt : z < g5.objs.size := Heap.lt_size z5
  show wpAny (model P w) A (Builtin.SmallTypes.ownedTupleHandOut (.ref z) (.ref g5.objs.size) >>= _) _ _ _
  unfold Builtin.SmallTypes.ownedTupleHandOut
  have z6 : IsZp (g5.push { cls := .type "tuple", data := .seq #[x, y] }) z TI TO .ellipsis := Heap.get?_push_of_some _ z5
  refine wpAny_bind (wpAny_bind (wpAny_setField_rec z6 (by simp) fun g7 z7 b7 => ?_))
  have z7' : IsZp g7 z TI TO (rawInt g5.objs.size) := z7
  refine wpAny_setField_rec z7' (by simp) fun g8 z8 b8 => ?_
  have z8' : IsZp g8 z TI TO (rawInt g5.objs.size) := z8
  have up : ∀ c o, c ≠ z → g5.get? c = some o → g8.get? c = some o := fun c o n1 e => b8.extBut _ _ n1 (b7.extBut _ _ n1 (Heap.get?_push_of_some _ e))
  have t8 : IsPair g8 g5.objs.size x y := b8.extBut _ _ (Nat.ne_of_gt zlt) (b7.extBut _ _ (Nat.ne_of_gt zlt) (Heap.get?_push_size _ rfl))
  have sz8 : g8.objs.size = g5.objs.size + 1 := by rw [b8.1, b7.1, Heap.size_push]
  rw [sz] at z8' t8 sz8
  refine wpAny_pure ⟨_, rfl, ?_⟩
  show Q (.ref g5.objs.size) _
  rw [sz]
  exact hQ g8 z8' (up _ _ D.TOz o5') (N1.keep _ _ _ s15 (fun o e => up _ o D.i1z e) fun o e => up _ o D.l1z e) (N2.keep _ _ _ s25 (fun o e => up _ o D.i2z e) fun o e => up _ o D.l2z e) t8 sz8 fun c o n1 n2 n3 n4 e => up c o n1 (k5 c o n1 n2 n3 n4 e)
/-- one of them ends -/
theorem zp_end (hh : A.handled = none) (D : ZipApart z TI TO i1 i2 l1 l2) (N1 : Nx P w i1 l1 S1 e1) (N2 : Nx P w i2 l2 S2 e2) {k1 k2 : Nat} {a b : Value} {Q : Fin → Shared → Prop} (hz : IsZp s.heap z TI TO .none) (hTI : IsPair s.heap TI (.ref i1) (.ref i2)) (hTO : IsPair s.heap TO a b) (h1 : S1 k1 s.heap) (h2 : S2 k2 s.heap) (hx : e1 k1 = none ∨ e2 k2 = none)
    (hE : ∀ h' e, (∀ c o, c ≠ z → c ≠ TO → c ≠ i1 → c ≠ i2 → s.heap.get? c = some o → h'.get? c = some o) → (∃ o, h'.get? e = some o ∧ o.cls = .type "StopIteration") → E (.ref e) { s with heap := h' }) :
    wpAny (model P w) A (Builtin.«zip.__next__» ⟨[.ref z], []⟩) Q E s := by
  show wpAny (model P w) A (field (.ref z) 2 >>= _) _ _ _
  refine wpAny_bind (wpAny_field hz rfl (x := .bool false) rfl ?_)
  show wpAny (model P w) A (field (.ref z) 3 >>= _) _ _ _
  refine wpAny_bind (wpAny_field hz rfl (x := .ref TI) rfl (wpAny_bind (wpAny_seqItems hTI rfl ?_)))
  show wpAny (model P w) A (Builtin.SmallTypes.ownedTupleIsFree (.ref z) >>= _) _ _ _
  unfold Builtin.SmallTypes.ownedTupleIsFree
  refine wpAny_bind (wpAny_bind (wpAny_field hz rfl (x := .none) rfl (wpAny_pure ?_)))
  simp only [if_true]
  refine wpAny_bind (wpAny_rule (wpAny_bind (wpAny_field hz rfl (x := .ref TO) rfl (wpAny_bind (wpAny_setField_rec hz (by simp) fun g1 z1 b1 => ?_)))))
  have z1' : IsZp g1 z TI TO .ellipsis := z1
  refine wpAny_bind ?_
  simp only [List.zipIdx_cons, List.zipIdx_nil, List.forIn_cons, List.forIn_nil]
  refine wpAny_bind (wpAny_bind (wpAny_onRaise ?_))
  show wpAny (model P w) A (nextOf (.ref i1) >>= _) _ _ _
  have k1' := N1.keep _ _ _ h1 (fun o e => b1.extBut _ _ D.i1z e) fun o e => b1.extBut _ _ D.l1z e
  cases q : e1 k1 with
  | none =>
    refine wpAny_bind (N1.stop _ _ _ _ k1 hh k1' q fun g2 e b2 he => ?_)
    obtain ⟨oe, hoe, hce⟩ := he
    have z2 : IsZp g2 z TI TO .ellipsis := b2 _ _ D.i1z.symm z1'
    have hez : e ≠ z := fun y => by subst y; rw [z2] at hoe; cases hoe; simp at hce
    exact wpAny_setField_rec z2 (by simp) fun g3 _ b3 => hE g3 e (fun c o n1 n2 n3 n4 y => b3.extBut _ _ n1 (b2 _ _ n3 (b1.extBut _ _ n1 y))) ⟨oe, b3.extBut _ _ hez hoe, hce⟩
  | some x =>
    have hy : e2 k2 = none := by rcases hx with h | h; rw [q] at h; cases h; exact h
    refine wpAny_bind (N1.item _ _ _ _ k1 x k1' q fun g2 s12 b2 => wpAny_pure ?_)
    have o2 : IsPair g2 TO a b := b2.extBut _ _ D.TOi1 (b1.extBut _ _ D.TOz hTO)
    refine wpAny_bind (wpAny_seqItems o2 rfl (wpAny_bind (wpAny_updateSeq_pair o2 fun g3 o3 b3 => wpAny_bind (wpAny_letGo (wpAny_pure ?_)))))
    refine wpAny_bind (wpAny_bind (wpAny_onRaise ?_))
    show wpAny (model P w) A (nextOf (.ref i2) >>= _) _ _ _
    refine wpAny_bind (N2.stop _ _ _ _ k2 hh (N2.keep _ _ _ h2 (fun o e => b3.extBut _ _ D.TOi2.symm (b2.extBut _ _ D.i12.symm (b1.extBut _ _ D.i2z e))) fun o e => b3.extBut _ _ D.l2TO (b2.extBut _ _ D.l2i1 (b1.extBut _ _ D.l2z e))) hy fun g4 e b4 he => ?_)
    obtain ⟨oe, hoe, hce⟩ := he
    have z4 : IsZp g4 z TI TO .ellipsis := b4 _ _ D.i2z.symm (b3.extBut _ _ D.TOz.symm (b2.extBut _ _ D.i1z.symm z1'))
    have hez : e ≠ z := fun y => by subst y; rw [z4] at hoe; cases hoe; simp at hce
    exact wpAny_setField_rec z4 (by simp) fun g5 _ b5 => hE g5 e (fun c o n1 n2 n3 n4 y => b5.extBut _ _ n1 (b4 _ _ n4 (b3.extBut _ _ n2 (b2.extBut _ _ n3 (b1.extBut _ _ n1 y))))) ⟨oe, b5.extBut _ _ hez hoe, hce⟩
end
section
variable {P : Program} {w : World} {A : Around} {E : Value → Shared → Prop} {s : Shared} {z TI TO i1 i2 l1 l2 : Addr} {S1 S2 : Nat → Heap → Prop} {e1 e2 : Nat → Option Value}
theorem zp_next (D : ZipApart z TI TO i1 i2 l1 l2) (N1 : Nx P w i1 l1 S1 e1) (N2 : Nx P w i2 l2 S2 e2) {k1 k2 : Nat} {x y a b : Value} {Q : Option Value → Shared → Prop} (hz : IsZp s.heap z TI TO .none) (hTI : IsPair s.heap TI (.ref i1) (.ref i2)) (hTO : IsPair s.heap TO a b) (h1 : S1 k1 s.heap) (h2 : S2 k2 s.heap) (hx : e1 k1 = some x) (hy : e2 k2 = some y)
    (hQ : ∀ h', IsZp h' z TI TO (rawInt s.heap.objs.size) → IsPair h' TO x y → S1 (k1 + 1) h' → S2 (k2 + 1) h' → IsPair h' s.heap.objs.size x y → h'.objs.size = s.heap.objs.size + 1 → (∀ c o, c ≠ z → c ≠ TO → c ≠ i1 → c ≠ i2 → s.heap.get? c = some o → h'.get? c = some o) → Q (some (.ref s.heap.objs.size)) { s with heap := h' }) :
    wpAny (model P w) A (pyNext (.ref z)) Q E s := by
  have ty : s.TypeIs (.ref z) "zip" := ⟨_, hz, rfl⟩
  unfold pyNext
  refine wpAny_bind (wpAny_attempt (wpAny_callSpecial?_slot (name := Str.ofString "__next__") ty F.slot_zip_next (wpAny_call_entry F.slot_zip_next ty F.entry_zip_next (zp_item D N1 N2 hz hTI hTO h1 h2 hx hy fun h' a1 a2 a3 a4 a5 a6 a7 => ?_) (F.args_zip_next_1 _))))
  exact wpAny_pure (hQ h' a1 a2 a3 a4 a5 a6 a7)
theorem zp_stop (hh : A.handled = none) (D : ZipApart z TI TO i1 i2 l1 l2) (N1 : Nx P w i1 l1 S1 e1) (N2 : Nx P w i2 l2 S2 e2) {k1 k2 : Nat} {a b : Value} {Q : Option Value → Shared → Prop} (hz : IsZp s.heap z TI TO .none) (hTI : IsPair s.heap TI (.ref i1) (.ref i2)) (hTO : IsPair s.heap TO a b) (h1 : S1 k1 s.heap) (h2 : S2 k2 s.heap) (hx : e1 k1 = none ∨ e2 k2 = none)
    (hQ : ∀ h', (∀ c o, c ≠ z → c ≠ TO → c ≠ i1 → c ≠ i2 → s.heap.get? c = some o → h'.get? c = some o) → Q none { s with heap := h' }) : wpAny (model P w) A (pyNext (.ref z)) Q E s := by
  have ty : s.TypeIs (.ref z) "zip" := ⟨_, hz, rfl⟩
  unfold pyNext
  refine wpAny_bind (wpAny_attempt (wpAny_callSpecial?_slot (name := Str.ofString "__next__") ty F.slot_zip_next (wpAny_call_entry F.slot_zip_next ty F.entry_zip_next (zp_end (A := A.in1) (show A.in1.handled = none from hh) D N1 N2 hz hTI hTO h1 h2 hx fun h' e hk he => ?_) (F.args_zip_next_1 _))))
  obtain ⟨o, ho, hc⟩ := he
  exact wpAny_bind (wpAny_isInstance (T := "StopIteration") (b := true) ⟨o, ho, hc⟩ isSubtype_stop (wpAny_pure (hQ _ hk)))
theorem zp_go {elts : List Expr} {x1 : Nat} {pos : Pos} {T : Addr} {Q : Unit → Shared → Prop} (hz : IsZp s.heap z TI TO (rawInt T)) (hQ : ∀ h', IsZp h' z TI TO .none → Heap.SameBut z s.heap h' → Q () { s with heap := h' }) :
    wpAny (model P w) A (letOwnedTupleGo (.Tuple elts x1 pos) (.ref z) (.ref T)) Q E s := by
  unfold letOwnedTupleGo
  refine wpAny_bind (wpAny_load hz ?_)
  show wpAny (model P w) A (if (["enumerate", "zip", "dict_itemiterator", "dict_reverseitemiterator", "odict_iterator", "itertools.zip_longest", "itertools.pairwise"].contains "zip" && (#[rawInt T, .bool false, .bool false, .ref TI, .ref TO] : Array Value)[0]? == some (rawInt T)) = true then _ else _) Q E s
  rw [if_pos (by simp)]
  refine wpAny_bind (wpAny_rule ?_)
  show wpAny (model P w) A (setField (.ref z) 0 .none) Q E s
  exact wpAny_setField_rec hz (by simp) fun h' a b => hQ h' a b
theorem zp_iter {f0 : Value} {Q : Value → Shared → Prop} (hz : IsZp s.heap z TI TO f0) (h : Q (.ref z) s) : wpAny (model P w) A (pyIter (.ref z)) Q E s := by
  have ty : s.TypeIs (.ref z) "zip" := ⟨_, hz, rfl⟩
  refine wpAny_pyIter_slot ty F.slot_zip_iter (wpAny_call_entry F.slot_zip_iter ty F.entry_zip_iter ?_ (F.args_zip_iter_1 _))
  show wpAny (model P w) _ (ret (.ref z)) _ _ s
  exact wpAny_pure ⟨_, rfl, "zip", _, ty, F.slot_zip_next.lookup, h⟩
end
/-! ### the making -/
abbrev zpE (c1 c2 : String) (h : Heap) (l1 l2 : Addr) : Heap := (zD c1 c2 h l1 l2).push { cls := .type "zip", data := .fields #[.none, .bool false, .bool false, .ref (zB c1 c2 h l1 l2).objs.size, .ref (zC c1 c2 h l1 l2).objs.size] }
theorem zp_newLL (l1 l2 : Addr) (xs ys : Array Value) : Meets (Builtin.«zip.__new__» ⟨[.type "zip", .ref l1, .ref l2], []⟩) (fun _ R s => (s.heap.IsList l1 xs ∧ s.heap.IsList l2 ys) ∧ R (.ok (.ret (.ref (zD "list_iterator" "list_iterator" s.heap l1 l2).objs.size))) { s with heap := zpE "list_iterator" "list_iterator" s.heap l1 l2 }) :=
  .of_wp fun P w A R s h => by
    obtain ⟨hp, g, d, tk, os⟩ := s
    obtain ⟨⟨k1, k2⟩, h⟩ := h
    have hsub := sub_zip
    have j1 : Heap.IsList (Shared.heap ⟨hp, g, d, tk, os⟩) l1 xs := k1
    have j2 : Heap.IsList (Shared.heap ⟨hp.push (itO "list_iterator" l1), g, d, tk, os⟩) l2 ys := Heap.IsList.push k2 _
    wp_walk using wpAny_pyIter_list j1, wpAny_pyIter_list j2
    exact ⟨_, rfl, h⟩
theorem zp_newLT (l1 l2 : Addr) (xs ys : Array Value) : Meets (Builtin.«zip.__new__» ⟨[.type "zip", .ref l1, .ref l2], []⟩) (fun _ R s => (s.heap.IsList l1 xs ∧ s.heap.IsTuple l2 ys) ∧ R (.ok (.ret (.ref (zD "list_iterator" "tuple_iterator" s.heap l1 l2).objs.size))) { s with heap := zpE "list_iterator" "tuple_iterator" s.heap l1 l2 }) :=
  .of_wp fun P w A R s h => by
    obtain ⟨hp, g, d, tk, os⟩ := s
    obtain ⟨⟨k1, k2⟩, h⟩ := h
    have hsub := sub_zip
    have j1 : Heap.IsList (Shared.heap ⟨hp, g, d, tk, os⟩) l1 xs := k1
    have j2 : Heap.IsTuple (Shared.heap ⟨hp.push (itO "list_iterator" l1), g, d, tk, os⟩) l2 ys := Heap.IsTuple.push k2 _
    wp_walk using wpAny_pyIter_list j1, wpAny_pyIter_tuple j2
    exact ⟨_, rfl, h⟩
theorem zp_newTL (l1 l2 : Addr) (xs ys : Array Value) : Meets (Builtin.«zip.__new__» ⟨[.type "zip", .ref l1, .ref l2], []⟩) (fun _ R s => (s.heap.IsTuple l1 xs ∧ s.heap.IsList l2 ys) ∧ R (.ok (.ret (.ref (zD "tuple_iterator" "list_iterator" s.heap l1 l2).objs.size))) { s with heap := zpE "tuple_iterator" "list_iterator" s.heap l1 l2 }) :=
  .of_wp fun P w A R s h => by
    obtain ⟨hp, g, d, tk, os⟩ := s
    obtain ⟨⟨k1, k2⟩, h⟩ := h
    have hsub := sub_zip
    have j1 : Heap.IsTuple (Shared.heap ⟨hp, g, d, tk, os⟩) l1 xs := k1
    have j2 : Heap.IsList (Shared.heap ⟨hp.push (itO "tuple_iterator" l1), g, d, tk, os⟩) l2 ys := Heap.IsList.push k2 _
    wp_walk using wpAny_pyIter_tuple j1, wpAny_pyIter_list j2
    exact ⟨_, rfl, h⟩
theorem zp_newTT (l1 l2 : Addr) (xs ys : Array Value) : Meets (Builtin.«zip.__new__» ⟨[.type "zip", .ref l1, .ref l2], []⟩) (fun _ R s => (s.heap.IsTuple l1 xs ∧ s.heap.IsTuple l2 ys) ∧ R (.ok (.ret (.ref (zD "tuple_iterator" "tuple_iterator" s.heap l1 l2).objs.size))) { s with heap := zpE "tuple_iterator" "tuple_iterator" s.heap l1 l2 }) :=
  .of_wp fun P w A R s h => by
    obtain ⟨hp, g, d, tk, os⟩ := s
    obtain ⟨⟨k1, k2⟩, h⟩ := h
    have hsub := sub_zip
    have j1 : Heap.IsTuple (Shared.heap ⟨hp, g, d, tk, os⟩) l1 xs := k1
    have j2 : Heap.IsTuple (Shared.heap ⟨hp.push (itO "tuple_iterator" l1), g, d, tk, os⟩) l2 ys := Heap.IsTuple.push k2 _
    wp_walk using wpAny_pyIter_tuple j1, wpAny_pyIter_tuple j2
    exact ⟨_, rfl, h⟩
section
variable {P : Program} {w : World} {A : Around} {E : Value → Shared → Prop} {s : Shared}
/-- what stands behind the making -/
structure ZpNew (c1 c2 : String) (n : Nat) (l1 l2 : Addr) (h h' : Heap) : Prop where
  z : IsZp h' (n + 4) (n + 2) (n + 3) .none
  ti : IsPair h' (n + 2) (.ref n) (.ref (n + 1))
  to : IsPair h' (n + 3) .none .none
  i1 : h'.get? n = some (itO c1 l1)
  i2 : h'.get? (n + 1) = some (itO c2 l2)
  keep : ∀ c o, h.get? c = some o → h'.get? c = some o
theorem zpNew {c1 c2 : String} {h : Heap} {l1 l2 : Addr} : (zD c1 c2 h l1 l2).objs.size = h.objs.size + 4 ∧ ZpNew c1 c2 h.objs.size l1 l2 h (zpE c1 c2 h l1 l2) := by
  have q1 : (zA c1 h l1).objs.size = h.objs.size + 1 := Heap.size_push ..
  have q2 : (zB c1 c2 h l1 l2).objs.size = h.objs.size + 2 := by rw [Heap.size_push, q1]
  have q3 : (zC c1 c2 h l1 l2).objs.size = h.objs.size + 3 := by rw [Heap.size_push, q2]
  have q4 : (zD c1 c2 h l1 l2).objs.size = h.objs.size + 4 := by rw [Heap.size_push, q3]
  have r5 : (zpE c1 c2 h l1 l2).get? (zD c1 c2 h l1 l2).objs.size = some _ := Heap.get?_push_size _ rfl
  have r4 : (zpE c1 c2 h l1 l2).get? (zC c1 c2 h l1 l2).objs.size = some _ := Heap.get?_push_of_some _ (Heap.get?_push_size _ rfl)
  have r3 : (zpE c1 c2 h l1 l2).get? (zB c1 c2 h l1 l2).objs.size = some _ := Heap.get?_push_of_some _ (Heap.get?_push_of_some _ (Heap.get?_push_size _ rfl))
  have r2 : (zpE c1 c2 h l1 l2).get? (zA c1 h l1).objs.size = some _ := Heap.get?_push_of_some _ (Heap.get?_push_of_some _ (Heap.get?_push_of_some _ (Heap.get?_push_size _ rfl)))
  have r1 : (zpE c1 c2 h l1 l2).get? h.objs.size = some _ := Heap.get?_push_of_some _ (Heap.get?_push_of_some _ (Heap.get?_push_of_some _ (Heap.get?_push_of_some _ (Heap.get?_push_size _ rfl))))
  rw [q2, q3, q4] at r5
  rw [q1, q2] at r3
  rw [q3] at r4
  rw [q1] at r2
  exact ⟨q4, r5, r3, r4, r1, r2, fun c o e => Heap.get?_push_of_some _ (Heap.get?_push_of_some _ (Heap.get?_push_of_some _ (Heap.get?_push_of_some _ (Heap.get?_push_of_some _ e))))⟩
theorem zp_callLL {l1 l2 : Addr} {xs ys : Array Value} {Q : Value → Shared → Prop} (h1 : s.heap.IsList l1 xs) (h2 : s.heap.IsList l2 ys) (h : ∀ h', ZpNew "list_iterator" "list_iterator" s.heap.objs.size l1 l2 s.heap h' → Q (.ref (s.heap.objs.size + 4)) { s with heap := h' }) :
    wpAny (model P w) A (call (.type "zip") [.ref l1, .ref l2]) Q E s := by
  refine callType_new F.called_zip (by decide) (F.typeCall_zip_2 _ _) (F.newCall_zip_2 _ _) (fun o => F.args_object_init_3 o _ _) F.entry_zip_new (zp_newLL l1 l2 xs ys) ⟨⟨h1, h2⟩, ?_⟩
  obtain ⟨e, Z⟩ := zpNew (c1 := "list_iterator") (c2 := "list_iterator") (h := s.heap) (l1 := l1) (l2 := l2)
  show _ ∧ _
  rw [e]
  exact ⟨⟨_, Z.z, rfl⟩, h _ Z⟩
theorem zp_callLT {l1 l2 : Addr} {xs ys : Array Value} {Q : Value → Shared → Prop} (h1 : s.heap.IsList l1 xs) (h2 : s.heap.IsTuple l2 ys) (h : ∀ h', ZpNew "list_iterator" "tuple_iterator" s.heap.objs.size l1 l2 s.heap h' → Q (.ref (s.heap.objs.size + 4)) { s with heap := h' }) :
    wpAny (model P w) A (call (.type "zip") [.ref l1, .ref l2]) Q E s := by
  refine callType_new F.called_zip (by decide) (F.typeCall_zip_2 _ _) (F.newCall_zip_2 _ _) (fun o => F.args_object_init_3 o _ _) F.entry_zip_new (zp_newLT l1 l2 xs ys) ⟨⟨h1, h2⟩, ?_⟩
  obtain ⟨e, Z⟩ := zpNew (c1 := "list_iterator") (c2 := "tuple_iterator") (h := s.heap) (l1 := l1) (l2 := l2)
  show _ ∧ _
  rw [e]
  exact ⟨⟨_, Z.z, rfl⟩, h _ Z⟩
theorem zp_callTL {l1 l2 : Addr} {xs ys : Array Value} {Q : Value → Shared → Prop} (h1 : s.heap.IsTuple l1 xs) (h2 : s.heap.IsList l2 ys) (h : ∀ h', ZpNew "tuple_iterator" "list_iterator" s.heap.objs.size l1 l2 s.heap h' → Q (.ref (s.heap.objs.size + 4)) { s with heap := h' }) :
    wpAny (model P w) A (call (.type "zip") [.ref l1, .ref l2]) Q E s := by
  refine callType_new F.called_zip (by decide) (F.typeCall_zip_2 _ _) (F.newCall_zip_2 _ _) (fun o => F.args_object_init_3 o _ _) F.entry_zip_new (zp_newTL l1 l2 xs ys) ⟨⟨h1, h2⟩, ?_⟩
  obtain ⟨e, Z⟩ := zpNew (c1 := "tuple_iterator") (c2 := "list_iterator") (h := s.heap) (l1 := l1) (l2 := l2)
  show _ ∧ _
  rw [e]
  exact ⟨⟨_, Z.z, rfl⟩, h _ Z⟩
theorem zp_callTT {l1 l2 : Addr} {xs ys : Array Value} {Q : Value → Shared → Prop} (h1 : s.heap.IsTuple l1 xs) (h2 : s.heap.IsTuple l2 ys) (h : ∀ h', ZpNew "tuple_iterator" "tuple_iterator" s.heap.objs.size l1 l2 s.heap h' → Q (.ref (s.heap.objs.size + 4)) { s with heap := h' }) :
    wpAny (model P w) A (call (.type "zip") [.ref l1, .ref l2]) Q E s := by
  refine callType_new F.called_zip (by decide) (F.typeCall_zip_2 _ _) (F.newCall_zip_2 _ _) (fun o => F.args_object_init_3 o _ _) F.entry_zip_new (zp_newTT l1 l2 xs ys) ⟨⟨h1, h2⟩, ?_⟩
  obtain ⟨e, Z⟩ := zpNew (c1 := "tuple_iterator") (c2 := "tuple_iterator") (h := s.heap) (l1 := l1) (l2 := l2)
  show _ ∧ _
  rw [e]
  exact ⟨⟨_, Z.z, rfl⟩, h _ Z⟩
end
def Itp (k1 k2 : Kd) (K : PySem.W.Frag) (a b : Addr) : It :=
  ⟨fun i H => ∃ (xs ys : List V) (x y : V), k1.Sq K H a xs ∧ k2.Sq K H b ys ∧ xs[i]? = some x ∧ ys[i]? = some y,
    fun i H v H' => ∃ T x y, v = .ref T ∧ H T = none ∧ H' = upd H T (.tup [x, y]) ∧ (∀ xs, k1.Sq K H a xs → xs[i]? = some x) ∧ ∀ ys, k2.Sq K H b ys → ys[i]? = some y,
    fun i H => ∃ xs ys : List V, k1.Sq K H a xs ∧ k2.Sq K H b ys ∧ (xs.length ≤ i ∨ ys.length ≤ i)⟩
theorem turn_zp {k1 k2 : Kd} (o1 : KdOk k1) (o2 : KdOk k2) {P : Program} {w : World} {K : PySem.W.Frag} {elts : List Expr} {kk : Nat} {tpos : Pos} {a b z TI TO i1 i2 : Addr} (D : ZipApart z TI TO i1 i2 a b) :
    Turn P w K (.Tuple elts kk tpos) (Itp k1 k2 K a b) [z, TI, TO, i1, i2] z (fun i h => IsZp h z TI TO .none ∧ IsPair h TI (.ref i1) (.ref i2) ∧ (∃ x y, IsPair h TO x y) ∧ k1.It h i1 a i ∧ k2.It h i2 b i) where
  mem := by simp
  obj := fun i h ⟨hz, hTI, ⟨x, y, hTO⟩, h1, h2⟩ c hc => by
    simp only [List.mem_cons, List.not_mem_nil, or_false] at hc
    rcases hc with rfl | rfl | rfl | rfl | rfl
    · exact ⟨_, hz, fun v q => nomatch q⟩
    · exact ⟨_, hTI, fun v q => nomatch q⟩
    · exact ⟨_, hTO, fun v q => nomatch q⟩
    · exact o1.ob _ _ _ _ h1
    · exact o2.ob _ _ _ _ h2
  keep := fun i h h' ⟨hz, hTI, ⟨x, y, hTO⟩, h1, h2⟩ k => ⟨k z (by simp) _ hz, k TI (by simp) _ hTI, ⟨x, y, k TO (by simp) _ hTO⟩, o1.at_ _ _ _ _ _ h1 fun o q => k i1 (by simp) o q, o2.at_ _ _ _ _ _ h2 fun o q => k i2 (by simp) o q⟩
  item := by
    intro X hP hw hK hc i pins s σ H E I hf st hg
    subst hP hw hK
    obtain ⟨hz, hTI, ⟨x0, y0, hTO⟩, h1, h2⟩ := st
    obtain ⟨xs, ys, x, y, hqx, hqy, hx, hy⟩ := hg
    obtain ⟨its, rv, p, _⟩ := o1.read X pins σ H s a xs I hqx
    obtain ⟨its2, rv2, p2, _⟩ := o2.read X pins σ H s b ys I hqy
    obtain ⟨u, hu, ru⟩ := rv.get hx
    obtain ⟨u2, hu2, ru2⟩ := rv2.get hy
    have hzl : z < s.heap.objs.size := Heap.lt_size hz
    refine zp_next D (o1.nx X.prog X.w i1 a its.toArray D.l1i1) (o2.nx X.prog X.w i2 b its2.toArray D.l2i2) hz hTI hTO ⟨h1, p⟩ ⟨h2, p2⟩ (x := u) (y := u2) (by simpa using hu) (by simpa using hu2) fun h' z' TO' h1' h2' hT hsz hk => ?_
    refine ⟨_, rfl, zp_go (s := { s with heap := h' }) z' fun h'' z'' sb => ?_⟩
    have hT2 : h''.get? s.heap.objs.size = some { cls := .type "tuple", data := .seq #[u, u2] } := (sb.2 _ (Nat.ne_of_gt hzl)).trans hT
    have nw : ObjOk X.prog X.w (upd H s.heap.objs.size (.tup [x, y])) h'' s.heap.objs.size (.tup [x, y]) := ⟨by show 2 ≤ sizeLine; decide, [u, u2], .cons ru (.cons ru2 .nil), ⟨_, hT2, rfl, _, rfl⟩⟩
    have away : ∀ c, c ∉ [z, TI, TO, i1, i2] → c ≠ z ∧ c ≠ TO ∧ c ≠ i1 ∧ c ≠ i2 := fun c hc => by
      simp only [List.mem_cons, List.not_mem_nil, or_false, not_or] at hc
      exact ⟨hc.1, hc.2.2.1, hc.2.2.2.1, hc.2.2.2.2⟩
    have I1 : L2.Inv X pins σ (upd H s.heap.objs.size (.tup [x, y])) { s with heap := h'' } := I.turnedNew (t' := s.toks) (ch := [z, TI, TO, i1, i2]) (fun c o hb q => by
      obtain ⟨n1, n2, n3, n4⟩ := away c hb
      exact (sb.2 c n1).trans (hk c o n1 n2 n3 n4 q)) hf (Nat.le_refl _) nw
    refine ⟨.ref s.heap.objs.size, _, I1, rfl, ⟨_, x, y, rfl, I.hok.fresh (Nat.le_refl _), rfl, fun l hl => by rw [o1.inj X pins σ H s a l xs I hl hqx]; exact hx, fun l hl => by rw [o2.inj X pins σ H s b l ys I hl hqy]; exact hy⟩,
      ⟨z'', (sb.2 _ D.TIz).trans (hk _ _ D.TIz D.TITO D.TIi1 D.TIi2 hTI), ⟨u, u2, (sb.2 _ D.TOz).trans TO'⟩, o1.at_ _ _ _ _ _ h1'.1 fun o q => (sb.2 _ D.i1z).trans q, o2.at_ _ _ _ _ _ h2'.1 fun o q => (sb.2 _ D.i2z).trans q⟩, fun c hcm => ?_⟩
    have hlt : c < s.heap.objs.size := by
      have hcm' := hcm
      simp only [List.mem_cons, List.not_mem_nil, or_false] at hcm'
      rcases hcm' with rfl | rfl | rfl | rfl | rfl
      · exact hzl
      · exact Heap.lt_size hTI
      · exact Heap.lt_size hTO
      · obtain ⟨_, e, _⟩ := o1.ob _ _ _ _ h1; exact Heap.lt_size e
      · obtain ⟨_, e, _⟩ := o2.ob _ _ _ _ h2; exact Heap.lt_size e
    rw [upd_ne (Nat.ne_of_lt hlt)]
    exact (hf c hcm).1
  done := by
    intro X hP hw hK hc i pins s σ H E I hf st hg
    subst hP hw hK
    obtain ⟨hz, hTI, ⟨x0, y0, hTO⟩, h1, h2⟩ := st
    obtain ⟨xs, ys, hqx, hqy, e1⟩ := hg
    obtain ⟨its, rv, p, _⟩ := o1.read X pins σ H s a xs I hqx
    obtain ⟨its2, rv2, p2, _⟩ := o2.read X pins σ H s b ys I hqy
    have l1 := rv.length
    have l2 := rv2.length
    refine zp_stop (I.ok.hd hc) D (o1.nx X.prog X.w i1 a its.toArray D.l1i1) (o2.nx X.prog X.w i2 b its2.toArray D.l2i2) hz hTI hTO ⟨h1, p⟩ ⟨h2, p2⟩ (e1.imp (fun e => by simp; omega) fun e => by simp; omega) fun h' hk => ⟨rfl, I.turnedL (t' := s.toks) (ch := [z, TI, TO, i1, i2]) (fun c o hb q => ?_) hf⟩
    simp only [List.mem_cons, List.not_mem_nil, or_false, not_or] at hb
    exact hk c o hb.1 hb.2.2.1 hb.2.2.2.1 hb.2.2.2.2 q
  self := fun A i s Q E st h => zp_iter st.1 h

/-- zip(a, b) is walked -/
def iZp (K : PySem.W.Frag) (ta : TA) : TI := fun σ H R => ta σ H fun vs H1 => ∃ a b xs ys, vs = [.ref a, .ref b] ∧ ((SqL K H1 a xs ∧ SqL K H1 b ys ∧ R (Itp kdL kdL K a b) H1) ∨ (SqL K H1 a xs ∧ SqT K H1 b ys ∧ R (Itp kdL kdT K a b) H1) ∨ (SqT K H1 a xs ∧ SqL K H1 b ys ∧ R (Itp kdT kdL K a b) H1) ∨ (SqT K H1 a xs ∧ SqT K H1 b ys ∧ R (Itp kdT kdT K a b) H1))
theorem pie_zp {X : Cx} {pins : List (Addr × Obj)} {σ : L2.St} {s : Shared} {H : Hp} {elts : List Expr} {kk : Nat} {tpos : Pos} {R : It → Hp → Prop} {k1 k2 : Kd} (o1 : KdOk k1) (o2 : KdOk k2) {c1 c2 : String} {a b : Addr} {g : Heap} (I : L2.Inv X pins σ H s) (la : a < s.heap.objs.size) (lb : b < s.heap.objs.size)
    (Z : ZpNew c1 c2 s.heap.objs.size a b s.heap g) (t1 : k1.It g s.heap.objs.size a 0) (t2 : k2.It g (s.heap.objs.size + 1) b 0) (q : R (Itp k1 k2 X.K a b) H) : PIE X pins σ (.Tuple elts kk tpos) R (.ref (s.heap.objs.size + 4)) { s with heap := g } := by
  refine ⟨s.heap.objs.size + 4, [s.heap.objs.size + 4, s.heap.objs.size + 2, s.heap.objs.size + 3, s.heap.objs.size, s.heap.objs.size + 1], _, _, H, rfl, I.kept (t' := s.toks) Z.keep, turn_zp o1 o2 (PySem.W.ktu_apart s.heap.objs.size a b la lb), ⟨Z.z, Z.ti, ⟨_, _, Z.to⟩, t1, t2⟩, fun c hc => ?_, q⟩
  have le : s.heap.objs.size ≤ c := by
    simp only [List.mem_cons, List.not_mem_nil, or_false] at hc
    rcases hc with rfl | rfl | rfl | rfl | rfl
    · exact Nat.le_add_right _ _
    · exact Nat.le_add_right _ _
    · exact Nat.le_add_right _ _
    · exact Nat.le_refl _
    · exact Nat.le_add_right _ _
  exact I.fpOk le (I.hok.fresh le)
theorem pi_zp {X : Cx} {e e2 : Expr} {ta : TA} {p pos tpos : Pos} {elts : List Expr} {kk : Nat} (hg : L2.Gl X "zip") (hm : X.mg "zip" = none) (ha : PA X [e, e2] ta)
    (hs : starEach [e, e2] X.env = (false, eval e X.env) :: starEach [e2] X.env := by rfl) (hpl : (backTo pos (starEach [e2] X.env)).any (·.1) = false := by rfl) :
    PI X (.Tuple elts kk tpos) (.Call (.Name "zip" p) [e, e2] [] pos) (iZp X.K ta) := by
  refine ⟨fun pins s σ H R I h => ?_⟩
  refine Call_ (ld_blt I hg hm PyProof.Rows.boot_zip (PyProof.Rows.callWith_type1 (thn (ha.run pos pins s σ H _ I h) fun us s2 ⟨vs, H2, I2, r1, a, b, xs, ys, ev, q2⟩ => ?_) hs hpl))
  subst ev
  have e1 : us = [.ref a, .ref b] := by
    cases r1 with
    | cons r rr => cases rr with
      | cons r' rr =>
        cases rr
        cases r
        cases r'
        rfl
  subst e1
  rcases q2 with ⟨hx, hy, q⟩ | ⟨hx, hy, q⟩ | ⟨hx, hy, q⟩ | ⟨hx, hy, q⟩
  · obtain ⟨_, _, p1, la⟩ := kdL_ok.read X pins σ H2 s2 a xs I2 hx
    obtain ⟨_, _, p2, lb⟩ := kdL_ok.read X pins σ H2 s2 b ys I2 hy
    exact zp_callLL p1 p2 fun h' Z => zp_iter Z.z (pie_zp kdL_ok kdL_ok I2 la lb Z ⟨_, Z.i1, rfl, rfl⟩ ⟨_, Z.i2, rfl, rfl⟩ q)
  · obtain ⟨_, _, p1, la⟩ := kdL_ok.read X pins σ H2 s2 a xs I2 hx
    obtain ⟨_, _, p2, lb⟩ := kdT_ok.read X pins σ H2 s2 b ys I2 hy
    exact zp_callLT p1 p2 fun h' Z => zp_iter Z.z (pie_zp kdL_ok kdT_ok I2 la lb Z ⟨_, Z.i1, rfl, rfl⟩ ⟨_, Z.i2, rfl, rfl⟩ q)
  · obtain ⟨_, _, p1, la⟩ := kdT_ok.read X pins σ H2 s2 a xs I2 hx
    obtain ⟨_, _, p2, lb⟩ := kdL_ok.read X pins σ H2 s2 b ys I2 hy
    exact zp_callTL p1 p2 fun h' Z => zp_iter Z.z (pie_zp kdT_ok kdL_ok I2 la lb Z ⟨_, Z.i1, rfl, rfl⟩ ⟨_, Z.i2, rfl, rfl⟩ q)
  · obtain ⟨_, _, p1, la⟩ := kdT_ok.read X pins σ H2 s2 a xs I2 hx
    obtain ⟨_, _, p2, lb⟩ := kdT_ok.read X pins σ H2 s2 b ys I2 hy
    exact zp_callTT p1 p2 fun h' Z => zp_iter Z.z (pie_zp kdT_ok kdT_ok I2 la lb Z ⟨_, Z.i1, rfl, rfl⟩ ⟨_, Z.i2, rfl, rfl⟩ q)
def ipR (o : Option (List PyData)) (ρ : Rho) : Option (Oe (List PyData)) := match o with
  | some [d, e] => match itemsOf d, itemsOf e with
    | some xs, some ys => some (.ok (List.zipWith pairD xs ys) ρ)
    | _, _ => none
  | _ => none
def ipM (f : AM) : IM := fun ρ => bindO (f ρ) fun rs ρ1 => ipR (dats rs) ρ1
@[simp] theorem ipM_e (f : AM) (ρ : Rho) : ipM f ρ = bindO (f ρ) fun rs ρ1 => ipR (dats rs) ρ1 := eqI rfl
@[simp] theorem ipR_ll (xs ys : List PyData) (ρ : Rho) : ipR (some [.list xs, .list ys]) ρ = some (.ok (List.zipWith pairD xs ys) ρ) := eqI rfl
@[simp] theorem ipR_lt (xs ys : List PyData) (ρ : Rho) : ipR (some [.list xs, .tuple ys]) ρ = some (.ok (List.zipWith pairD xs ys) ρ) := eqI rfl
@[simp] theorem ipR_tl (xs ys : List PyData) (ρ : Rho) : ipR (some [.tuple xs, .list ys]) ρ = some (.ok (List.zipWith pairD xs ys) ρ) := eqI rfl
@[simp] theorem ipR_tt (xs ys : List PyData) (ρ : Rho) : ipR (some [.tuple xs, .tuple ys]) ρ = some (.ok (List.zipWith pairD xs ys) ρ) := eqI rfl
section
variable {T : Tb} {H : Hp} {F : Reg}
theorem it_zp {k1 k2 : Kd} {a b : Addr} {vs us : List V} {xs ys : List PyData} (h1 : ∀ H', Kept F H H' → k1.Sq T.K H' a vs) (h2 : ∀ H', Kept F H H' → k2.Sq T.K H' b us) (s1 : DFs T.K H F vs xs) (s2 : DFs T.K H F us ys) : ItOk T (Itp k1 k2 T.K a b) F H (List.zipWith pairD xs ys) where
  go := fun H' k i d hd => by
    rw [List.getElem?_zipWith] at hd
    cases e1 : xs[i]? with
    | none => rw [e1] at hd; cases hd
    | some x =>
      cases e2 : ys[i]? with
      | none => rw [e1, e2] at hd; cases hd
      | some y =>
        rw [e1, e2] at hd
        cases hd
        obtain ⟨v, hv, dv⟩ := s1.get e1
        obtain ⟨u, hu, du⟩ := s2.get e2
        refine ⟨⟨vs, us, v, u, h1 H' k, h2 H' k, hv, hu⟩, ?_⟩
        rintro w H'' ⟨t, p, q, rfl, ht, rfl, f1, f2⟩
        have ep := f1 _ (h1 H' k)
        have eq := f2 _ (h2 H' k)
        rw [hv] at ep
        rw [hu] at eq
        cases ep
        cases eq
        have k2' : Kept F H (upd H' t (.tup [v, u])) := fun b o h z => kept_new ht b o (k b o h z)
        exact ⟨kept_new ht, .tup (.inl (.inl upd_same)) (.cons (dv.mono k2' fun _ h => h) (.cons (du.mono k2' fun _ h => h) .nil))⟩
  stop := fun H' k i h1' h2' => by
    rw [List.length_zipWith] at h1' h2'
    exact ⟨vs, us, h1 H' k, h2 H' k, by rw [s1.length, s2.length]; omega⟩
end
section
variable {X : Cx} {T : Tb} {W : WX} {n : Nat} {N : List Str} {sc : Scope} {pos p tpos cp kp : Pos} {e e2 : Expr} {fa : AM} {elts : List Expr} {kk cu : Nat}
theorem e_zp (a : At X N sc) (cx : Cxt X T W n) (hx : gnB sc "zip" = true) (hm : X.mg "zip" = none) (ha : SA X T W [e, e2] fa)
    (hs : starEach [e, e2] X.env = (false, eval e X.env) :: starEach [e2] X.env := by rfl) (hpl : (backTo pos (starEach [e2] X.env)).any (·.1) = false := by rfl) :
    SI X T W (.Tuple elts kk tpos) (.Call (.Name "zip" p) [e, e2] [] pos) (ipM fa) := by
  refine pi_imp (pi_zp (a.gl hx).1 hm ha hs hpl) fun σ H Q ⟨ρ, F, O, E, P⟩ => ?_
  rw [cx.hK]
  refine stp .refl E P fun vs H1 rs ρ1 F1 O1 x1 y1 E1 r1 P1 => ?_
  cases q : dats rs with
  | none => rw [q] at P1; exact P1.elim
  | some ds =>
    rw [q] at P1
    have sd := dats_dfs r1 q
    unfold ipR at P1
    split at P1
    · rename_i d d' hds
      cases hds
      split at P1
      · rename_i xs ys i1 i2
        · cases sd with
          | cons s1 sr => cases sr with
            | cons s2 sn =>
              cases sn
              obtain ⟨b1, v1, rfl, t1, k1⟩ := walk_of s1 i1
              obtain ⟨b2, v2, rfl, t2, k2⟩ := walk_of s2 i2
              refine ⟨b1, b2, v1, v2, rfl, ?_⟩
              rcases k1 with k1 | k1 <;> rcases k2 with k2 | k2
              · exact .inl ⟨k1 _ .refl, k2 _ .refl, P1 _ _ _ _ y1 E1 (it_zp (k1 := kdL) (k2 := kdL) k1 k2 t1 t2)⟩
              · exact .inr (.inl ⟨k1 _ .refl, k2 _ .refl, P1 _ _ _ _ y1 E1 (it_zp (k1 := kdL) (k2 := kdT) k1 k2 t1 t2)⟩)
              · exact .inr (.inr (.inl ⟨k1 _ .refl, k2 _ .refl, P1 _ _ _ _ y1 E1 (it_zp (k1 := kdT) (k2 := kdL) k1 k2 t1 t2)⟩))
              · exact .inr (.inr (.inr ⟨k1 _ .refl, k2 _ .refl, P1 _ _ _ _ y1 E1 (it_zp (k1 := kdT) (k2 := kdT) k1 k2 t1 t2)⟩))
      · exact P1.elim
    · exact P1.elim
end
end DL

/-! D33: enumerate(a), a a list or a tuple. -/
namespace DL
open PySem PyProof.Rows
open L2 hiding Sp
open AutoSeq1 (wpAny_loadPart')

theorem en_draws {P : Program} {w : World} {A : Around} (hh : A.handled = none) {k : Kd} (o : KdOk k) {it a : Addr} (hne : a ≠ it) (xs : Array Value) :
    Draws P w A it [it, a] xs.size (fun i x => xs[i]? = some x) (fun i h => k.It h it a i ∧ k.Ct h a xs) := by
  have N := o.nx P w it a xs hne
  refine ⟨fun i h st => ?_, fun i h h' st kp => ?_, fun i s Q E hi st hQ => ?_, fun s Q E st hE => ?_⟩
  · obtain ⟨ob, hob, _⟩ := N.ob i h st
    exact ⟨ob, hob⟩
  · exact N.keep i h h' st (fun ob e => kp it (by simp) ob e) fun ob e => kp a (by simp) ob e
  · exact N.item A E s Q i xs[i] st (by simp [hi]) fun h' st' sb => hQ _ h' s.toks (by simp [hi]) st' sb
  · exact N.stop A E s Q xs.size hh st (by simp) hE
/-- what stands at a, each item in a new pair with its number -/
def Ien (k : Kd) (K : PySem.W.Frag) (a : Addr) : It :=
  ⟨fun i H => ∃ (xs : List V) (x : V), k.Sq K H a xs ∧ xs[i]? = some x,
    fun i H v H' => ∃ T x, v = .ref T ∧ H T = none ∧ H' = upd H T (.tup [.int (i : Nat), x]) ∧ ∀ xs, k.Sq K H a xs → xs[i]? = some x,
    fun i H => ∃ xs : List V, k.Sq K H a xs ∧ xs.length ≤ i⟩
theorem turn_en {k : Kd} (o : KdOk k) {P : Program} {w : World} {K : PySem.W.Frag} {elts : List Expr} {kk : Nat} {tpos : Pos} {a e it : Addr} (h1 : e ≠ it) (h2 : a ≠ it) (h3 : a ≠ e) :
    Turn P w K (.Tuple elts kk tpos) (Ien k K a) [e, it] e (fun i h => (∃ old, IsEnum h e it ((i : Nat) : Int) old) ∧ k.It h it a i) where
  mem := List.mem_cons_self ..
  obj := fun i h ⟨⟨old, he⟩, hi⟩ c hc => by
    simp only [List.mem_cons, List.not_mem_nil, or_false] at hc
    rcases hc with rfl | rfl
    · exact ⟨_, he, fun v q => nomatch q⟩
    · exact o.ob _ _ _ _ hi
  keep := fun i h h' ⟨⟨old, he⟩, hi⟩ kp => ⟨⟨old, kp e (by simp) _ he⟩, o.at_ _ _ _ _ _ hi fun ob q => kp it (by simp) ob q⟩
  item := by
    intro X hP hw hK hc i pins s σ H E I hf st hg
    subst hP hw hK
    obtain ⟨⟨old, he⟩, hi⟩ := st
    obtain ⟨xs, x, hq, hx⟩ := hg
    obtain ⟨its, rv, p, _⟩ := o.read X pins σ H s a xs I hq
    obtain ⟨u, hu, ru⟩ := rv.get hx
    have el : e < s.heap.objs.size := Heap.lt_size he
    have il : it < s.heap.objs.size := by obtain ⟨_, q, _⟩ := o.ob _ _ _ _ hi; exact Heap.lt_size q
    have lt : i < its.toArray.size := by
      have := List.getElem?_eq_some_iff.mp hu
      simpa using this.1
    refine wpAny_pyNext_enum_itemD (en_draws (A := X.A.in1) (show X.A.in1.handled = none from I.ok.hd hc) o h2 its.toArray) he ⟨hi, p⟩ lt h1 (by simp [h1, h3.symm]) fun y h' tk hy ho st' hT hsz hk => ?_
    have ey : y = u := by
      have hy' : its[i]? = some y := by simpa using hy
      rw [hu] at hy'
      exact (Option.some.inj hy').symm
    subst ey
    refine ⟨_, rfl, wpAny_letOwnedTupleGo_enum (s := { s with heap := h', toks := tk + 1 }) ho fun h'' he'' sb => ?_⟩
    have t2 : h''.get? s.heap.objs.size = some { cls := .type "tuple", data := .seq #[.int i tk, y] } := (sb.2 _ (Nat.ne_of_gt el)).trans hT
    have nw : ObjOk X.prog X.w (upd H s.heap.objs.size (.tup [.int (i : Nat), x])) h'' s.heap.objs.size (.tup [.int (i : Nat), x]) := ⟨show 2 ≤ sizeLine by decide, [.int i tk, y], .cons ⟨_, rfl⟩ (.cons ru .nil), ⟨_, t2, rfl, _, rfl⟩⟩
    have away : ∀ c, c ∉ [e, it] → c ≠ e ∧ c ≠ it := fun c hc => by
      simp only [List.mem_cons, List.not_mem_nil, or_false, not_or] at hc
      exact hc
    have I1 : L2.Inv X pins σ (upd H s.heap.objs.size (.tup [.int (i : Nat), x])) { s with heap := h'', toks := tk + 1 } := I.turnedNew (ch := [e, it]) (fun c ob hb q => by
      obtain ⟨n1, n2⟩ := away c hb
      exact (sb.2 c n1).trans (hk c ob n1 n2 q)) hf (Nat.le_refl _) nw
    refine ⟨.ref s.heap.objs.size, _, I1, rfl, ⟨_, x, rfl, I.hok.fresh (Nat.le_refl _), rfl, fun l hl => by rw [o.inj X pins σ H s a l xs I hl hq]; exact hx⟩, ⟨⟨y, ?_⟩, o.at_ _ _ _ _ _ st'.1 fun ob q => (sb.2 it h1.symm).trans q⟩, fun c hcm => ?_⟩
    · rw [show ((i + 1 : Nat) : Int) = (i : Int) + 1 by omega]
      exact he''
    · have lt' : c < s.heap.objs.size := by
        have hcm' := hcm
        simp only [List.mem_cons, List.not_mem_nil, or_false] at hcm'
        rcases hcm' with rfl | rfl
        · exact el
        · exact il
      rw [upd_ne (Nat.ne_of_lt lt')]
      exact (hf c hcm).1
  done := by
    intro X hP hw hK hc i pins s σ H E I hf st hg
    subst hP hw hK
    obtain ⟨⟨old, he⟩, hi⟩ := st
    obtain ⟨xs, hq, hx⟩ := hg
    obtain ⟨its, rv, p, _⟩ := o.read X pins σ H s a xs I hq
    obtain ⟨f0, f1, f2, f3, f4, f5⟩ := hf it (by simp)
    have hl := rv.length
    have N := o.nx X.prog X.w it a its.toArray h2
    have ty : s.TypeIs (.ref e) "enumerate" := ⟨_, he, rfl⟩
    unfold pyNext
    refine wpAny_bind (wpAny_attempt (wpAny_callSpecial?_slot (name := Str.ofString "__next__") ty F.slot_enumerate_next (wpAny_call_entry F.slot_enumerate_next ty F.entry_enumerate_next ?_ (F.args_enumerate_next_1 _))))
    show wpAny (model X.prog X.w) X.A.in1 (field (.ref e) 2 >>= _) _ _ _
    refine wpAny_bind (wpAny_field he rfl (x := .ref it) rfl (wpAny_bind (N.stop _ _ _ _ i (show X.A.in1.handled = none from I.ok.hd hc) ⟨hi, p⟩ (by simp; omega) fun h' z b he' => ?_)))
    obtain ⟨ob, hob, hcl⟩ := he'
    exact wpAny_bind (wpAny_isInstance (T := "StopIteration") (b := true) ⟨ob, hob, hcl⟩ isSubtype_stop (wpAny_pure ⟨rfl, I.turned (t' := s.toks) (fun c ob hb q => b c ob hb q) f0 f1 f3 f4 f5⟩))
  self := fun A i s Q E ⟨⟨_, he⟩, _⟩ h => wpAny_pyIter_enum he h
abbrev enO : Obj := { cls := .type "enumerate", data := .fields #[.none, .bool false, .none, rawInt 0, .none, .none] }
theorem en_newT (l : Addr) (xs : Array Value) (n : Nat) (dc : Option Addr) (sl : Array (Option Value)) : Meets (Builtin.«enumerate.__new__» ⟨[.type "enumerate", .ref l], []⟩) (fun _ R s => s.heap.get? l = some { cls := .type "tuple", dict := dc, data := .seq xs n, slots := sl } ∧
      R (.ok (.ret (.ref (zA "tuple_iterator" s.heap l).objs.size))) { s with heap := (zA "tuple_iterator" s.heap l).push { cls := .type "enumerate", data := .fields #[.none, .bool false, .ref s.heap.objs.size, rawInt 0, .none, .none] } }) :=
  .of_wp fun P w A R s h => by
    obtain ⟨hp, g, d, tk, os⟩ := s
    obtain ⟨k1, h⟩ := h
    have hsub := sub_enumerate
    have j1 : Heap.IsTuple (Shared.heap ⟨hp, g, d, tk, os⟩) l xs := ⟨_, k1, rfl, n, rfl⟩
    wp_walk using wpAny_loadPart' k1
    refine wpAny_stack_any fun st => wpAny_pure ?_
    split
    · rename_i c _ _ _ _ _
      cases (c == Value.type "enumerate")
      all_goals
        wp_walk using wpAny_loadPart' k1, wpAny_pyIter_tuple j1
        exact ⟨_, rfl, h⟩
    · wp_walk using wpAny_loadPart' k1, wpAny_pyIter_tuple j1
      exact ⟨_, rfl, h⟩
section
variable {P : Program} {w : World} {A : Around} {E : Value → Shared → Prop} {s : Shared}
theorem en_callT {l : Addr} {xs : Array Value} {Q : Value → Shared → Prop} (h1 : s.heap.IsTuple l xs)
    (h : ∀ h', IsEnum h' (s.heap.objs.size + 1) s.heap.objs.size 0 .none → h'.IsTupleIter s.heap.objs.size l 0 → (∀ c o, s.heap.get? c = some o → h'.get? c = some o) → Q (.ref (s.heap.objs.size + 1)) { s with heap := h' }) :
    wpAny (model P w) A (call (.type "enumerate") [.ref l]) Q E s := by
  obtain ⟨⟨c, dc, dt, sl⟩, ho, hc, n, hd⟩ := h1
  cases hc
  cases hd
  refine callType_new F.called_enumerate (by decide) (F.typeCall_enumerate_1 _) (F.newCall_enumerate_1 _) (fun o => F.args_object_init_2 o _) F.entry_enumerate_new (en_newT l xs n dc sl) ⟨ho, ?_⟩
  have q1 : (zA "tuple_iterator" s.heap l).objs.size = s.heap.objs.size + 1 := Heap.size_push ..
  show _ ∧ _
  rw [q1]
  have r2 : ((zA "tuple_iterator" s.heap l).push { cls := .type "enumerate", data := .fields #[.none, .bool false, .ref s.heap.objs.size, rawInt 0, .none, .none] }).get? (zA "tuple_iterator" s.heap l).objs.size = some _ := Heap.get?_push_size _ rfl
  rw [q1] at r2
  exact ⟨⟨_, r2, rfl⟩, h _ r2 ⟨_, Heap.get?_push_of_some _ (Heap.get?_push_size _ rfl), rfl, rfl⟩ fun c o e => Heap.get?_push_of_some _ (Heap.get?_push_of_some _ e)⟩
end
/-- enumerate(a) is walked -/
def iEn (K : PySem.W.Frag) (ta : TA) : TI := fun σ H R => ta σ H fun vs H1 => ∃ a xs, vs = [.ref a] ∧ ((SqL K H1 a xs ∧ R (Ien kdL K a) H1) ∨ (SqT K H1 a xs ∧ R (Ien kdT K a) H1))
theorem pi_en {X : Cx} {e : Expr} {ta : TA} {p pos tpos : Pos} {elts : List Expr} {kk : Nat} (hg : L2.Gl X "enumerate") (hm : X.mg "enumerate" = none) (ha : PA X [e] ta)
    (hs : starEach [e] X.env = [(false, eval e X.env)] := by rfl) :
    PI X (.Tuple elts kk tpos) (.Call (.Name "enumerate" p) [e] [] pos) (iEn X.K ta) := by
  refine ⟨fun pins s σ H R I h => ?_⟩
  refine Call_ (ld_blt I hg hm boot_enumerate (PyProof.Rows.callWith_type1 (thn (ha.run pos pins s σ H _ I h) fun us s2 ⟨vs, H2, I2, r1, a, xs, ev, q2⟩ => ?_) hs rfl))
  subst ev
  have e1 : us = [.ref a] := by
    cases r1 with
    | cons r rr =>
      cases rr
      cases r
      rfl
  subst e1
  have fr : ∀ c ∈ [s2.heap.objs.size + 1, s2.heap.objs.size], FpOk X pins H2 c := fun c hc => by
    have le : s2.heap.objs.size ≤ c := by
      simp only [List.mem_cons, List.not_mem_nil, or_false] at hc
      rcases hc with rfl | rfl
      · exact Nat.le_add_right _ _
      · exact Nat.le_refl _
    exact I2.fpOk le (I2.hok.fresh le)
  rcases q2 with ⟨hx, q⟩ | ⟨hx, q⟩
  · obtain ⟨its, _, p1, la⟩ := kdL_ok.read X pins σ H2 s2 a xs I2 hx
    exact call_enumerate_list p1 fun h' he hi _ hk => wpAny_pyIter_enum he ⟨_, [s2.heap.objs.size + 1, s2.heap.objs.size], _, _, H2, rfl, I2.kept (t' := s2.toks) hk, turn_en kdL_ok (Nat.succ_ne_self _) (Nat.ne_of_lt la) (Nat.ne_of_lt (Nat.lt_succ_of_lt la)), ⟨⟨.none, he⟩, hi⟩, fr, q⟩
  · obtain ⟨its, _, p1, la⟩ := kdT_ok.read X pins σ H2 s2 a xs I2 hx
    exact en_callT p1 fun h' he hi hk => wpAny_pyIter_enum he ⟨_, [s2.heap.objs.size + 1, s2.heap.objs.size], _, _, H2, rfl, I2.kept (t' := s2.toks) hk, turn_en kdT_ok (Nat.succ_ne_self _) (Nat.ne_of_lt la) (Nat.ne_of_lt (Nat.lt_succ_of_lt la)), ⟨⟨.none, he⟩, hi⟩, fr, q⟩
/-! ### in the pieces -/
def enumL (ds : List PyData) : List PyData := ds.mapIdx fun i d => .tuple [.int (i : Int), d]
def enR (o : Option PyData) (ρ : Rho) : Option (Oe (List PyData)) := match o with
  | some d => match itemsOf d with
    | some xs => some (.ok (enumL xs) ρ)
    | none => none
  | none => none
def enM (f : EM) : IM := fun ρ => bindO (f ρ) fun r ρ1 => bindF (frz ρ1 r) fun d ρ2 => enR (some d) ρ2
@[simp] theorem enM_e (f : EM) (ρ : Rho) : enM f ρ = bindO (f ρ) fun r ρ1 => bindF (frz ρ1 r) fun d ρ2 => enR (some d) ρ2 := eqI rfl
@[simp] theorem enR_l (xs : List PyData) (ρ : Rho) : enR (some (.list xs)) ρ = some (.ok (enumL xs) ρ) := eqI rfl
@[simp] theorem enR_t (xs : List PyData) (ρ : Rho) : enR (some (.tuple xs)) ρ = some (.ok (enumL xs) ρ) := eqI rfl
section
variable {T : Tb} {H : Hp} {F : Reg}
theorem it_en {k : Kd} {a : Addr} {vs : List V} {xs : List PyData} (h1 : ∀ H', Kept F H H' → k.Sq T.K H' a vs) (s1 : DFs T.K H F vs xs) : ItOk T (Ien k T.K a) F H (enumL xs) where
  go := fun H' kp i d hd => by
    unfold enumL at hd
    rw [List.getElem?_mapIdx] at hd
    cases e1 : xs[i]? with
    | none => rw [e1] at hd; cases hd
    | some x =>
      rw [e1] at hd
      cases hd
      obtain ⟨v, hv, dv⟩ := s1.get e1
      refine ⟨⟨vs, v, h1 H' kp, hv⟩, ?_⟩
      rintro w H'' ⟨t, p, rfl, ht, rfl, f1⟩
      have ep := f1 _ (h1 H' kp)
      rw [hv] at ep
      cases ep
      have k2' : Kept F H (upd H' t (.tup [.int (i : Nat), v])) := fun b o h z => kept_new ht b o (kp b o h z)
      exact ⟨kept_new ht, .tup (.inl (.inl upd_same)) (.cons (.int _) (.cons (dv.mono k2' fun _ h => h) .nil))⟩
  stop := fun H' kp i h1' h2' => ⟨vs, h1 H' kp, by unfold enumL at h1'; rw [List.length_mapIdx] at h1'; rw [s1.length]; exact h1'⟩
end
section
variable {X : Cx} {T : Tb} {W : WX} {n : Nat} {N : List Str} {sc : Scope} {pos p tpos : Pos} {e : Expr} {f : EM} {elts : List Expr} {kk : Nat}
theorem e_en (a : At X N sc) (cx : Cxt X T W n) (hx : gnB sc "enumerate" = true) (hm : X.mg "enumerate" = none) (he : SE X T W e f) (hs : starEach [e] X.env = [(false, eval e X.env)] := by rfl) :
    SI X T W (.Tuple elts kk tpos) (.Call (.Name "enumerate" p) [e] [] pos) (enM f) := by
  refine pi_imp (pi_en (a.gl hx).1 hm (pa_cons he pa_nil hs) hs) fun σ H Q ⟨ρ, F, O, E, P⟩ => ?_
  rw [cx.hK]
  refine stp .refl E P fun v H1 r ρ1 F1 O1 x1 y1 E1 r1 P1 => ?_
  cases q : frz ρ1 r with
  | none => rw [q] at P1; exact P1.elim
  | some z =>
    obtain ⟨d, ρ2⟩ := z
    rw [q, bindF_e] at P1
    obtain ⟨F2, O2, y2, E2, d2, _, _, _⟩ := fz y1 (fun _ h => h) E1 r1 q
    unfold enR at P1
    dsimp only at P1
    cases i1 : itemsOf d with
    | none => rw [i1] at P1; exact P1.elim
    | some xs =>
      rw [i1] at P1
      obtain ⟨b1, v1, rfl, t1, k1⟩ := walk_of d2 i1
      refine ⟨b1, v1, rfl, ?_⟩
      rcases k1 with k1 | k1
      · exact .inl ⟨k1 _ .refl, P1 _ _ _ _ y2 E2 (it_en (k := kdL) k1 t1)⟩
      · exact .inr ⟨k1 _ .refl, P1 _ _ _ _ y2 E2 (it_en (k := kdT) k1 t1)⟩
end
end DL

/-! D34: list.pop(i), list.clear(), dicts displayed and asked. -/
namespace DL
open PySem PyProof.Rows
open L2 hiding Sp

/-! ### pop and clear -/
def popR (i : Nat) (r : R) (ρ : Rho) (o : Option (Option R)) : Option (Oe R) := match r, o with
  | .dat (.int k), some (some (.own (.list ds))) => if ds.length ≤ lim then match ixN ds.length k with
    | some j => match ds[j]? with
      | some d => some (.ok (.dat d) (ρ.set i (some (.own (.list (ds.eraseIdx j))))))
      | none => none
    | none => none
    else none
  | _, _ => none
def popM (i : Nat) (fe : EM) : EM := fun ρ => if isList ρ[i]? = true then bindO (fe ρ) fun r ρ1 => popR i r ρ1 ρ1[i]? else none
@[simp] theorem popM_e (i : Nat) (fe : EM) (ρ : Rho) : popM i fe ρ = pick (isList ρ[i]?) (fun ρ => bindO (fe ρ) fun r ρ1 => popR i r ρ1 ρ1[i]?) (fun _ => none) ρ := eqI rfl
theorem popR_is {i : Nat} {k : Int} {ρ : Rho} {ds : List PyData} {d : PyData} (h0 : 0 ≤ k) (h : ds[k.toNat]? = some d) (hl : ds.length ≤ 100000) : popR i (.dat (.int k)) ρ (some (some (.own (.list ds)))) = some (.ok (.dat d) (ρ.set i (some (.own (.list (ds.eraseIdx k.toNat)))))) := by
  have hk : k.toNat < ds.length := (List.getElem?_eq_some_iff.mp h).1
  have e : ixN ds.length k = some k.toNat := by unfold ixN; rw [if_pos h0, if_pos (by omega)]
  show (if ds.length ≤ lim then _ else _) = _
  rw [if_pos hl, e]
  show (match ds[k.toNat]? with | some d => some (Oe.ok (R.dat d) (ρ.set i (some (.own (.list (ds.eraseIdx k.toNat)))))) | none => none) = _
  rw [h]
theorem DFs.eraseIdx {K : PySem.W.Frag} {H : Hp} {F : Addr → Prop} : ∀ {vs : List V} {ds : List PyData} (i : Nat), DFs K H F vs ds → DFs K H F (vs.eraseIdx i) (ds.eraseIdx i)
  | _, _, _, .nil => .nil
  | _, _, 0, .cons _ b => b
  | _, _, i + 1, .cons a b => .cons a (DFs.eraseIdx i b)
def clrM (i : Nat) : SM := fun ρ => if isList ρ[i]? = true then some (.nx (ρ.set i (some (.own (.list []))))) else none
@[simp] theorem clrM_e (i : Nat) (ρ : Rho) : clrM i ρ = pick (isList ρ[i]?) (fun ρ => some (.nx (ρ.set i (some (.own (.list [])))))) (fun _ => none) ρ := eqI rfl
section
variable {X : Cx} {T : Tb} {W : WX} {φ : Fm} {e ei : Expr} {fe fi : EM} {pos p apos : Pos} {i : Nat} {x : Str}
theorem se_pop {ex : Expr} (h : PE X ex (tBM X.K "list" rPopAt (tVar i) (tCons (Tof T W (tlE T) fe) tNil))) : SE X T W ex (popM i fe) := by
  refine pe_imp h fun σ H Q ⟨ρ, F, O, E, P⟩ => ?_
  unfold popM at P
  split at P
  · rename_i hi
    obtain ⟨ds0, q0⟩ := isList_ex hi
    obtain ⟨a, vs0, h1, h2, h3, h4⟩ := own_lst E q0
    refine ⟨.ref a, h1, .inl ⟨rfl, vs0, .inl (.inl h3)⟩, ?_⟩
    refine stp .refl E P fun v H1 r ρ1 F1 O1 x1 y1 E1 r1 P1 => ?_
    unfold popR at P1
    split at P1
    · rename_i k ds q2
      split at P1
      · rename_i hz
        split at P1
        · rename_i j ej
          split at P1
          · rename_i d ed
            obtain ⟨b, vs, g1, g2, g3, g4⟩ := own_lst E1 q2
            rw [h1] at g1
            cases g1
            obtain ⟨u, eu, du⟩ := g4.get ed
            obtain ⟨i1, i2, i3, i4⟩ := ixN_seq ej
            refine ⟨a, vs, k, j, u, rfl, by rw [int_of r1], g3, by simp only [lim] at hz; omega, by simp only [lim] at hz; omega, by rw [g4.length]; exact i1, eu, ?_⟩
            obtain ⟨E3, x3, k3⟩ := E1.mut (o := .lst (vs.eraseIdx j)) (d' := .list (ds.eraseIdx j)) (s := false) q2 g2 fun k => ⟨_, upd_same, (g4.eraseIdx j).mono k fun _ h => h⟩
            exact P1 u _ F1 O1 (y1.trans x3) E3 (du.mono k3 fun _ h => h)
          · exact P1.elim
        · exact P1.elim
      · exact P1.elim
    · exact P1.elim
  · exact P.elim
theorem ss_clr {ex : Expr} (h : PE X ex (tBM0 X.K "list" rClear (tVar i))) (hs : swapsWith ex none pos.line X.env = pure false := by rfl) : SS X T W φ (.Expr ex pos) (clrM i) := by
  refine ps_imp (ps_expr h hs) fun D σ H ⟨ρ, F, O, S, P⟩ => ?_
  unfold clrM at P
  split at P
  · rename_i hi
    obtain ⟨ds0, q0⟩ := isList_ex hi
    obtain ⟨a, vs0, h1, h2, h3, h4⟩ := own_lst S.E q0
    refine ⟨.ref a, h1, .inl ⟨rfl, vs0, .inl (.inl h3)⟩, ?_⟩
    obtain ⟨E3, x3, k3⟩ := S.E.mut (o := .lst []) (d' := .list []) (s := true) q0 h2 fun k => ⟨_, upd_same, .nil⟩
    exact ⟨a, vs0, rfl, rfl, h3, P σ _ F O x3 ⟨E3, fun b h => S.lb b (x3.live b h), S.lf⟩ .refl⟩
  · exact P.elim
end

/-! ### a dict's keys -/
/-- whether a thing is this key -/
def keq : PyData → PyData → Bool
  | .int i, .int j => decide (i = j)
  | .str x, .str y => decide (x = y)
  | _, _ => false
def isKey : PyData → Bool
  | .int _ => true
  | .str _ => true
  | _ => false
/-- what stands at a key -/
def atK : List (PyData × PyData) → PyData → Option PyData
  | [], _ => none
  | (k, d) :: r, y => if keq k y = true then some d else atK r y
theorem keq_kD (k j : Key) : keq (kD k) (kD j) = decide (k = j) := by
  cases k <;> cases j <;> simp [keq, kD]
theorem isKey_ex {d : PyData} (h : isKey d = true) : ∃ k, d = kD k := by
  cases d with
  | int i => exact ⟨.inl i, rfl⟩
  | str x => exact ⟨.inr x, rfl⟩
  | _ => cases h
theorem kD_vw {T : Tb} {H : Hp} {F : Reg} {v : V} {k : Key} (h : Vw T H F v (kD k)) : v = kV k := by
  cases k with
  | inl i => exact h.int
  | inr x => exact h.str
theorem atK_dfk {K : PySem.W.Frag} {H : Hp} {F : Reg} (k : Key) : ∀ {ks : List (Key × V)} {ds : List (PyData × PyData)} {d : PyData}, DFk K H F ks ds → atK ds (kD k) = some d → ∃ v, valV ks k = some v ∧ DF K H F v d
  | _, _, _, .nil, h => by cases h
  | _, _, d, .cons (k := k') (v := v) a b, h => by
    unfold atK at h
    rw [keq_kD] at h
    by_cases e : k' = k
    · rw [if_pos (by simpa using e)] at h
      cases h
      exact ⟨v, valV_pos (p := (k', v)) e, a⟩
    · rw [if_neg (by simpa using e)] at h
      obtain ⟨u, h1, h2⟩ := atK_dfk k b h
      exact ⟨u, by rw [valV_neg (p := (k', v)) e]; exact h1, h2⟩
theorem atK_dft {K : PySem.W.Frag} {H : Hp} {F : Reg} (k : Key) : ∀ {ks : List Ent} {ds : List (PyData × PyData)}, DFt K H F ks ds → atK ds (kD k) = none
  | _, _, .nil => rfl
  | _, _, .cons _ _ a b => by
    unfold atK
    rw [if_neg (by cases k <;> simp [keq, kT, kD])]
    exact atK_dft k b
def rIxK : R2 := fun x y H Q => ∃ a kvs k v, x = .ref a ∧ Rd H a (.dK kvs) ∧ y = kV k ∧ valV kvs k = some v ∧ Q v H
theorem ix_dK {X : Cx} : IxR X rIxK := by
  intro value slice pins s σ H x y v u Q I rx ry h hs
  obtain ⟨a, kvs, k, r, rfl, e, rfl, l, q⟩ := h
  obtain rfl : v = Value.ref a := rx
  obtain ⟨z, hd, vs, rel, dd⟩ := dk_rd I.hok e
  obtain ⟨w', hw, rw'⟩ := RelO.some_of (v := r) (o := valueAt vs k) (by have h := rel.val k; rw [l] at h; exact h)
  exact tail_any dd.typeIs slot_dict_getitem.lookup (wpAny_getItem_of (kV_is ry) dd.mapOf hw ⟨r, H, I.tok _, rw', q⟩) hs
/-- an item of a list, tuple, text or dict -/
def dIxA : PyData → PyData → Option R
  | .dict ds, y => if isKey y = true then (atK ds y).map R.dat else none
  | d, e => dIx d e
@[simp] theorem dIxA_l (xs : List PyData) (i : Int) : dIxA (.list xs) (.int i) = (atI xs i).map R.dat := eqI rfl
@[simp] theorem dIxA_t (xs : List PyData) (i : Int) : dIxA (.tuple xs) (.int i) = (atI xs i).map R.dat := eqI rfl
@[simp] theorem dIxA_s (x : Str) (i : Int) : dIxA (.str x) (.int i) = dIx (.str x) (.int i) := eqI rfl
@[simp] theorem dIxA_ds (ds : List (PyData × PyData)) (x : Str) : dIxA (.dict ds) (.str x) = (atK ds (.str x)).map R.dat := eqI rfl
@[simp] theorem dIxA_di (ds : List (PyData × PyData)) (x : Int) : dIxA (.dict ds) (.int x) = (atK ds (.int x)).map R.dat := eqI rfl
theorem does_ixA {T : Tb} : Does2 T (fun x y H Q => rIx T.K x y H Q ∨ rIxK x y H Q) dIxA := by
  intro x y d e z H F Q lv hx hy hg hq
  unfold dIxA at hg
  split at hg
  · split at hg
    · rename_i ds hk
      obtain ⟨k, rfl⟩ := isKey_ex hk
      obtain ⟨d', e1, e2⟩ := Option.map_eq_some_iff.mp hg
      subst e2
      obtain ⟨a, rfl, ⟨ks, h1, s1⟩ | ⟨o, ks, h1, _, s1⟩⟩ := hx.dctA
      · obtain ⟨v, e3, h3⟩ := atK_dfk k s1 e1
        exact .inr ⟨a, ks, k, v, rfl, h1, kD_vw hy, e3, hq _ H F .refl h3⟩
      · rw [atK_dft k s1] at e1
        cases e1
    · cases hg
  · exact .inl (does_ix x y d e z H F Q lv hx hy hg hq)
section
variable {X : Cx} {T : Tb} {W : WX} {n : Nat} {a b : Expr} {fa fb : EM} {pos : Pos}
theorem e_ixA (c : Cxt X T W n) (ha : SE X T W a fa) (hb : SE X T W b fb) (hs : PlainIx b := by exact fun _ _ => rfl) : SE X T W (.Subscript a b pos) (op2M dIxA fa fb) :=
  se_ix ((c.hK ▸ ix_seq (X := X)).or ix_dK) does_ixA hs ha hb
end

/-! ### displays -/
/-- all keys apart -/
def apartK : List (PyData × PyData) → Bool
  | [] => true
  | (k, _) :: r => isKey k && (r.all fun p => !keq k p.1) && apartK r
def prR (rk : R) (o : Option (PyData × Rho)) (k : PyData → PyData → Rho → Option (Oe (List (PyData × PyData)))) : Option (Oe (List (PyData × PyData))) := match rk, o with
  | .dat kd, some (d, ρ) => if isKey kd = true then k kd d ρ else none
  | _, _ => none
@[simp] theorem prR_s (x : Str) (d : PyData) (ρ : Rho) (k : PyData → PyData → Rho → Option (Oe (List (PyData × PyData)))) : prR (.dat (.str x)) (some (d, ρ)) k = k (.str x) d ρ := eqI rfl
@[simp] theorem prR_i (x : Int) (d : PyData) (ρ : Rho) (k : PyData → PyData → Rho → Option (Oe (List (PyData × PyData)))) : prR (.dat (.int x)) (some (d, ρ)) k = k (.int x) d ρ := eqI rfl
def prsM : List (EM × EM) → Rho → Option (Oe (List (PyData × PyData)))
  | [], ρ => some (.ok [] ρ)
  | (fk, fv) :: r, ρ => bindO (fk ρ) fun rk ρ1 => bindO (fv ρ1) fun rv ρ2 => prR rk (frz ρ2 rv) fun kd d ρ3 => bindO (prsM r ρ3) fun ps ρ4 => some (.ok ((kd, d) :: ps) ρ4)
@[simp] theorem prsM_0 (ρ : Rho) : prsM [] ρ = some (.ok [] ρ) := eqI rfl
@[simp] theorem prsM_c (fk fv : EM) (r : List (EM × EM)) (ρ : Rho) : prsM ((fk, fv) :: r) ρ = bindO (fk ρ) fun rk ρ1 => bindO (fv ρ1) fun rv ρ2 => prR rk (frz ρ2 rv) fun kd d ρ3 => bindO (prsM r ρ3) fun ps ρ4 => some (.ok ((kd, d) :: ps) ρ4) := eqI rfl
def dctR (ps : List (PyData × PyData)) (ρ : Rho) : Option (Oe R) := if apartK ps = true ∧ ps.length ≤ 15 then some (.ok (.own (.dict ps)) ρ) else none
def dctM (l : List (EM × EM)) : EM := fun ρ => bindO (prsM l ρ) dctR
@[simp] theorem dctM_e (l : List (EM × EM)) (ρ : Rho) : dctM l ρ = bindO (prsM l ρ) dctR := eqI rfl
theorem putK_new {κ : Type} [DecidableEq κ] : ∀ (kvs : List (κ × V)) (k : κ) (v : V), (∀ p ∈ kvs, p.1 ≠ k) → putK kvs k v = kvs ++ [(k, v)] := fun kvs k v h => by
  unfold putK
  rw [if_neg]
  intro z
  rw [List.any_eq_true] at z
  obtain ⟨p, hp, q⟩ := z
  exact h p hp (by simpa using q)
theorem mergeK_new : ∀ (more kvs : List (Key × V)), more.Pairwise (fun p q => p.1 ≠ q.1) → (∀ p ∈ kvs, ∀ q ∈ more, p.1 ≠ q.1) → mergeK kvs more = kvs ++ more
  | [], kvs, _, _ => by simp [mergeK]
  | p :: r, kvs, h, h2 => by
    rw [List.pairwise_cons] at h
    show mergeK (putK kvs p.1 p.2) r = _
    rw [putK_new kvs p.1 p.2 fun q hq => h2 q hq p (List.mem_cons_self ..), mergeK_new r _ h.2, List.append_assoc]
    · rfl
    · intro q hq z hz
      rcases List.mem_append.mp hq with hq | hq
      · exact h2 q hq z (List.mem_cons_of_mem _ hz)
      · rw [List.mem_singleton] at hq
        subst hq
        exact h.1 z hz
/-- the pairs in the run -/
inductive Prs (T : Tb) (H : Hp) (F : Reg) : List (Key × V) → List (PyData × PyData) → Prop where
  | nil : Prs T H F [] []
  | cons {k : Key} {v : V} {d : PyData} {vs : List (Key × V)} {ds : List (PyData × PyData)} : DF T.K H F v d → Prs T H F vs ds → Prs T H F ((k, v) :: vs) ((kD k, d) :: ds)
section
variable {X : Cx} {T : Tb} {W : WX} {n : Nat}
/-- pieces and readings of the pairs -/
inductive Rdg (X : Cx) (T : Tb) (W : WX) (pos : Pos) : List (Option Expr) → List Expr → List (EM × EM) → List (TE × TE) → Prop where
  | nil : Rdg X T W pos [] [] [] []
  | cons {k v : Expr} {ks : List (Option Expr)} {vs : List Expr} {fk fv : EM} {l : List (EM × EM)} {ts : List (TE × TE)} : SE X T W k fk → SE X T W v fv → Rdg X T W pos ks vs l ts → Rdg X T W pos (some k :: ks) (v :: vs) ((fk, fv) :: l) ((Tof T W (tlE T) fk, Tof T W (tlE T) fv) :: ts)
theorem Rdg.pps {pos : Pos} : ∀ {ks : List (Option Expr)} {vs : List Expr} {l : List (EM × EM)} {ts : List (TE × TE)}, Rdg X T W pos ks vs l ts → PPs X pos ks vs ts
  | _, _, _, _, .nil => pps_nil
  | _, _, _, _, .cons a b c => pps_cons a b c.pps
theorem Rdg.all {pos : Pos} : ∀ {ks : List (Option Expr)} {vs : List Expr} {l : List (EM × EM)} {ts : List (TE × TE)}, Rdg X T W pos ks vs l ts → ks.all (·.isSome) = true ∧ ks.length = vs.length ∧ ks.length = l.length
  | _, _, _, _, .nil => ⟨rfl, rfl, rfl⟩
  | _, _, _, _, .cons a b c => by obtain ⟨h1, h2, h3⟩ := c.all; simp [h1, h2, h3]; omega
theorem DFk.of {H : Hp} {F : Reg} : ∀ {kvs : List (Key × V)} {ds : List (PyData × PyData)}, Prs T H F kvs ds → DFk T.K H F kvs ds
  | _, _, .nil => .nil
  | _, _, .cons a b => .cons a (DFk.of b)
theorem Prs.mono {H H' : Hp} {F F' : Reg} (k : Kept F H H') (g : ∀ b, F b → F' b) : ∀ {kvs : List (Key × V)} {ds : List (PyData × PyData)}, Prs T H F kvs ds → Prs T H' F' kvs ds
  | _, _, .nil => .nil
  | _, _, .cons a b => .cons (a.mono k g) (Prs.mono k g b)
theorem Prs.apart {H : Hp} {F : Reg} : ∀ {kvs : List (Key × V)} {ds : List (PyData × PyData)}, Prs T H F kvs ds → apartK ds = true → kvs.Pairwise (fun p q => p.1 ≠ q.1)
  | _, _, .nil, _ => .nil
  | _, _, .cons (k := k) (v := v) a b, h => by
    unfold apartK at h
    simp only [Bool.and_eq_true] at h
    refine List.pairwise_cons.mpr ⟨fun q hq => ?_, Prs.apart b h.2⟩
    have key : ∀ {kvs : List (Key × V)} {ds : List (PyData × PyData)}, Prs T H F kvs ds → (ds.all fun p => !keq (kD k) p.1) = true → ∀ q ∈ kvs, k ≠ q.1 := by
      intro kvs ds h
      induction h with
      | nil => intro _ q hq; cases hq
      | cons a b ih =>
        intro hd q hq
        rw [List.all_cons, Bool.and_eq_true] at hd
        rcases List.mem_cons.mp hq with rfl | hq
        · have h1 := hd.1
          rw [keq_kD] at h1
          simpa using h1
        · exact ih hd.2 q hq
    exact key b h.1.2 q hq
theorem Prs.len {H : Hp} {F : Reg} : ∀ {kvs : List (Key × V)} {ds : List (PyData × PyData)}, Prs T H F kvs ds → kvs.length = ds.length
  | _, _, .nil => rfl
  | _, _, .cons _ b => by rw [List.length_cons, List.length_cons, Prs.len b]
theorem bindO_assoc {α β γ : Type} (o : Option (Oe α)) (f : α → Rho → Option (Oe β)) (g : β → Rho → Option (Oe γ)) : bindO (bindO o f) g = bindO o fun a ρ => bindO (f a ρ) g := by
  cases o with
  | none => rfl
  | some o => cases o <;> rfl
/-- an object that is nobody's stays -/
theorem Ext.nob {H H1 : Hp} {F F1 : Reg} {O O1 : Ows} {D : Addr} {o : HO} (x : Ext false H F O H1 F1 O1) (h : H D = some o) (nf : ¬ F D) (no : ∀ i, O i ≠ some D) (nt : NT o := by trivial) : H1 D = some o ∧ ¬ F1 D ∧ ∀ i, O1 i ≠ some D := by
  refine ⟨x.keep D o h no nt, fun z => ?_, fun i z => (x.ow z).elim (fun ⟨j, y⟩ => no j y) fun y => by rw [h] at y; cases y⟩
  rcases x.new D z with z | ⟨j, z⟩ | z
  · exact nf z
  · exact no j z
  · rw [h] at z; cases z
/-- the pairs, made with an object at D that is nobody's -/
theorem prs_of {pos : Pos} {D : Addr} : ∀ {ks : List (Option Expr)} {vs : List Expr} {l : List (EM × EM)} {ts : List (TE × TE)}, Rdg X T W pos ks vs l ts → ∀ {σ : L2.St} {B H : Hp} {FB F : Reg} {OB O : Ows} {ρ : Rho} {Q : VK} {g : List (PyData × PyData) → Rho → Option (Oe R)} {Q' : List (V × V) → Hp → Prop},
    Ext false B FB OB H F O → EnvR T H F O σ ρ → H D = some (.dK []) → ¬ F D → (∀ i, O i ≠ some D) → Post T W (tlE T) σ B FB OB Q (bindO (prsM l ρ) g) →
    (∀ kvs ds H1 ρ1 F1 O1, Ext false B FB OB H1 F1 O1 → EnvR T H1 F1 O1 σ ρ1 → H1 D = some (.dK []) → ¬ F1 D → (∀ i, O1 i ≠ some D) → Kept F H H1 → (∀ b, F b → F1 b) → Prs T H1 F1 kvs ds → Post T W (tlE T) σ B FB OB Q (g ds ρ1) → Q' (kvs.map fun kv => (kV kv.1, kv.2)) H1) → tPairs ts σ H Q'
  | _, _, _, _, .nil, σ, B, H, FB, F, OB, O, ρ, Q, g, Q', x, E, hD, nf, no, P, k => k [] [] H ρ F O x E hD nf no .refl (fun _ h => h) .nil P
  | _, _, _, _, .cons a b c, σ, B, H, FB, F, OB, O, ρ, Q, g, Q', x, E, hD, nf, no, P, k => by
    rw [prsM_c, bindO_assoc] at P
    refine stp x E P fun v H1 rk ρ1 F1 O1 x1 y1 E1 r1 P1 => ?_
    obtain ⟨hD1, nf1, no1⟩ := x1.nob hD nf no
    rw [bindO_assoc] at P1
    refine stp y1 E1 P1 fun u H2 rv ρ2 F2 O2 x2 y2 E2 r2 P2 => ?_
    obtain ⟨hD2, nf2, no2⟩ := x2.nob hD1 nf1 no1
    unfold prR at P2
    split at P2
    · rename_i kd d ρ3 q
      split at P2
      · rename_i hk
        obtain ⟨k0, rfl⟩ := isKey_ex hk
        obtain ⟨F3, O3, y3, E3, d3, g3, s3, n3⟩ := fz y2 y1.live E2 r2 q
        have nf3 : ¬ F3 D := fun z => by
          rcases n3 D z with z | ⟨j, z⟩ | z
          · exact nf2 z
          · exact no2 j z
          · rw [hD1] at z; cases z
        have kp : Kept F H H2 := (E.kept x1).trans x1.grow (E1.kept x2)
        rw [bindO_assoc] at P2
        refine prs_of c y3 E3 hD2 nf3 (fun i z => no2 i (s3 i D z)) P2 fun kvs ds H4 ρ4 F4 O4 x4 E4 hD4 nf4 no4 kp4 g4 pr4 P4 => ?_
        have ek : v = kV k0 := kD_vw (.inl r1)
        have := k ((k0, u) :: kvs) ((kD k0, d) :: ds) H4 ρ4 F4 O4 x4 E4 hD4 nf4 no4 (kp.trans (fun b h => g3 b (x2.grow b (x1.grow b h))) kp4) (fun b h => g4 b (g3 b (x2.grow b (x1.grow b h)))) (.cons (d3.mono kp4 g4) pr4) P4
        rw [ek]
        exact this
      · exact P2.elim
    · exact P2.elim
theorem se_dct {pos : Pos} {ks : List (Option Expr)} {vs : List Expr} {l : List (EM × EM)} {ts : List (TE × TE)} (r : Rdg X T W pos ks vs l ts) (h0 : ks ≠ []) (h15 : ks.length ≤ 15) : SE X T W (.Dict ks vs pos) (dctM l) := by
  obtain ⟨a1, a2, a3⟩ := r.all
  refine pe_imp (pe_disp r.pps a1 a2 h0 h15) fun σ H Q ⟨ρ, F, O, E, P⟩ => ?_
  intro D hD
  refine prs_of (D := D) r (B := H) (FB := F) (OB := O) (.laid hD) (E.laid hD) upd_same (fun q => E.lv D q hD) (E.ne_new hD) P fun kvs ds H1 ρ1 F1 O1 x1 E1 hD1 nf1 no1 kp1 g1 pr1 P1 => ?_
  unfold dctR at P1
  split at P1
  · rename_i hz
    refine ⟨hD1, kvs, rfl, by rw [pr1.len]; exact hz.2, ?_⟩
    obtain ⟨E2, k2⟩ := E1.other (o' := .dK kvs) hD1 (fun z => z) nf1 no1
    rw [mergeK_new kvs [] (pr1.apart hz.1) (by simp), List.nil_append]
    refine P1 (.ref D) _ F1 O1 ⟨fun b o h n z => ?_, fun b h => ?_, x1.grow, x1.new, x1.own⟩ E2 ⟨D, rfl, hD, nf1, no1, .inl ⟨kvs, upd_same, (DFk.of pr1).mono k2 fun _ h => h⟩⟩
    · rw [upd_ne (ne_of_none h hD)]
      exact x1.keep b o h n z
    · by_cases e : b = D
      · subst e; exact hD
      · rw [upd_ne e] at h
        exact x1.live b h
  · exact P1.elim
end
theorem pre_mem {α : Type} {L pre post : List α} {x : α} (h : L = pre ++ x :: post) : x ∈ L ∧ ∀ y ∈ pre, y ∈ L := by
  subst h
  exact ⟨by simp, fun y hy => by simp [hy]⟩
end DL

/-! D35: in, not in, min and max of a list, sorted lists of ints, an empty dict. -/
namespace DL
open PySem PyProof.Rows
open L2 hiding Sp

/-! ### in -/
def flatD : PyData → Bool
  | .none => true
  | .bool _ => true
  | .int _ => true
  | .str _ => true
  | _ => false
def toV : PyData → V
  | .bool b => .bl b
  | .int i => .int i
  | .str x => .str x
  | _ => .non
def eqF (z d : PyData) : Bool := eqV (toV z) (toV d)
def anyF (ds : List PyData) (d : PyData) : Bool := ds.any fun z => eqF z d
theorem Vw.flat {T : Tb} {H : Hp} {F : Reg} {v : V} {d : PyData} (h : Vw T H F v d) (f : flatD d = true) : v = toV d ∧ flatV v = true := by
  cases d with
  | none => have e := h.non; subst e; exact ⟨rfl, rfl⟩
  | bool b => have e := h.bl; subst e; exact ⟨rfl, rfl⟩
  | int b => have e := h.int; subst e; exact ⟨rfl, rfl⟩
  | str b => have e := h.str; subst e; exact ⟨rfl, rfl⟩
  | list ds => cases f
  | tuple ds => cases f
  | dict ds => cases f
theorem DFs.flat {T : Tb} {H : Hp} {F : Reg} : ∀ {vs : List V} {ds : List PyData}, DFs T.K H F vs ds → ds.all flatD = true → vs = ds.map toV ∧ vs.all flatV = true
  | _, _, .nil, _ => ⟨rfl, rfl⟩
  | _, _, .cons a b, f => by
    rw [List.all_cons, Bool.and_eq_true] at f
    obtain ⟨e1, f1⟩ := Vw.flat (T := T) (.inl a) f.1
    obtain ⟨e2, f2⟩ := DFs.flat b f.2
    exact ⟨by rw [List.map_cons, ← e1, ← e2], by rw [List.all_cons, f1, f2]; rfl⟩
def dInX (neg : Bool) (d e : PyData) : Option R := match itemsOf e with
  | some ds => if flatD d = true ∧ ds.all flatD = true then some (.dat (.bool (if neg then !anyF ds d else anyF ds d))) else none
  | none => none
def dIn : PyData → PyData → Option R := dInX false
def dNin : PyData → PyData → Option R := dInX true
theorem does_inX {T : Tb} (neg : Bool) : Does2 T (rIn T.K neg) (dInX neg) := by
  intro x y d e z H F Q lv hx hy hg hq
  unfold dInX at hg
  split at hg
  · rename_i ds hi
    split at hg
    · rename_i hf
      cases hg
      obtain ⟨e1, f1⟩ := hx.flat hf.1
      have key : ∀ (a : Addr) (vs : List V), y = .ref a → (SqL T.K H a vs ∨ SqT T.K H a vs) → DFs T.K H F vs ds → rIn T.K neg x y H Q := by
        intro a vs ey sq s1
        obtain ⟨e2, f2⟩ := s1.flat hf.2
        refine ⟨a, vs, ey, sq, f1, f2, ?_⟩
        have e3 : inV x vs = anyF ds d := by
          unfold inV anyF
          rw [e1, e2, List.any_map]
          rfl
        rw [e3]
        exact hq _ H F .refl (.bl _)
      cases e with
      | list es =>
        cases hi
        obtain ⟨a, vs, ey, h1, s1⟩ := hy.lst
        exact key a vs ey (.inl h1.sq) s1
      | tuple es =>
        cases hi
        obtain ⟨a, vs, ey, h1, s1⟩ := hy.tup
        exact key a vs ey (.inr h1) s1
      | none => cases hi
      | bool b => cases hi
      | int b => cases hi
      | str b => cases hi
      | dict b => cases hi
    · cases hg
  · cases hg
section
variable {X : Cx} {T : Tb} {W : WX} {n : Nat} {a b : Expr} {fa fb : EM} {pos : Pos}
theorem e_in (c : Cxt X T W n) (ha : SE X T W a fa) (hb : SE X T W b fb) (hm : behindInMarks .In b = false := by rfl) : SE X T W (.Compare a [.In] [b] pos) (op2M dIn fa fb) := se_cmp (c.hK ▸ op_in_seq) (does_inX false) ha hb hm
theorem e_nin (c : Cxt X T W n) (ha : SE X T W a fa) (hb : SE X T W b fb) (hm : behindInMarks .NotIn b = false := by rfl) : SE X T W (.Compare a [.NotIn] [b] pos) (op2M dNin fa fb) := se_cmp (c.hK ▸ op_notIn_seq) (does_inX true) ha hb hm
theorem t_in (c : Cxt X T W n) (ha : SE X T W a fa) (hb : SE X T W b fb) (hm : behindInMarks .In b = false := by rfl) : ST X T W (.Compare a [.In] [b] pos) (tsM (op2M dIn fa fb)) := st_cmp (c.hK ▸ op_in_seq) (does_inX false) ha hb hm
theorem t_nin (c : Cxt X T W n) (ha : SE X T W a fa) (hb : SE X T W b fb) (hm : behindInMarks .NotIn b = false := by rfl) : ST X T W (.Compare a [.NotIn] [b] pos) (tsM (op2M dNin fa fb)) := st_cmp (c.hK ▸ op_notIn_seq) (does_inX true) ha hb hm
end
/-! in, at work -/
theorem dIn_l {d : PyData} {ds : List PyData} (h : flatD d = true) (h2 : ds.all flatD = true) : dIn d (.list ds) = some (.dat (.bool (anyF ds d))) := by
  show dInX false d (.list ds) = _
  unfold dInX
  simp only [itemsOf]
  rw [if_pos ⟨h, h2⟩]
  rfl
theorem dIn_t {d : PyData} {ds : List PyData} (h : flatD d = true) (h2 : ds.all flatD = true) : dIn d (.tuple ds) = some (.dat (.bool (anyF ds d))) := by
  show dInX false d (.tuple ds) = _
  unfold dInX
  simp only [itemsOf]
  rw [if_pos ⟨h, h2⟩]
  rfl
theorem dNin_l {d : PyData} {ds : List PyData} (h : flatD d = true) (h2 : ds.all flatD = true) : dNin d (.list ds) = some (.dat (.bool (!anyF ds d))) := by
  show dInX true d (.list ds) = _
  unfold dInX
  simp only [itemsOf]
  rw [if_pos ⟨h, h2⟩]
  rfl
theorem dNin_t {d : PyData} {ds : List PyData} (h : flatD d = true) (h2 : ds.all flatD = true) : dNin d (.tuple ds) = some (.dat (.bool (!anyF ds d))) := by
  show dInX true d (.tuple ds) = _
  unfold dInX
  simp only [itemsOf]
  rw [if_pos ⟨h, h2⟩]
  rfl
theorem flat_ints (ns : List Int) : (ns.map PyData.int).all flatD = true := by
  rw [List.all_map, List.all_eq_true]
  intro x _
  rfl
theorem any_ints (ns : List Int) (i : Int) : anyF (ns.map PyData.int) (.int i) = decide (i ∈ ns) := by
  unfold anyF
  rw [List.any_map, Bool.eq_iff_iff, List.any_eq_true, decide_eq_true_eq]
  constructor
  · rintro ⟨x, hx, e⟩
    have e' : (x == i) = true := e
    rw [beq_iff_eq] at e'
    exact e' ▸ hx
  · intro h
    exact ⟨i, h, show (i == i) = true by simp⟩

/-! ### min and max of a list of ints -/
def minL : List Int → Int
  | [] => 0
  | [x] => x
  | x :: r => if x ≤ minL r then x else minL r
def maxL : List Int → Int
  | [] => 0
  | [x] => x
  | x :: r => if maxL r ≤ x then x else maxL r
theorem minL_is : ∀ {ns : List Int}, ns ≠ [] → minL ns ∈ ns ∧ ∀ y ∈ ns, minL ns ≤ y
  | [], h => absurd rfl h
  | [x], _ => by simp [minL]
  | x :: y :: r, _ => by
    obtain ⟨h1, h2⟩ := minL_is (ns := y :: r) (by simp)
    have e : minL (x :: y :: r) = if x ≤ minL (y :: r) then x else minL (y :: r) := rfl
    rw [e]
    split
    · rename_i c
      refine ⟨List.mem_cons_self .., fun z hz => ?_⟩
      rcases List.mem_cons.mp hz with rfl | hz
      · exact Int.le_refl _
      · exact Int.le_trans c (h2 z hz)
    · rename_i c
      refine ⟨List.mem_cons_of_mem _ h1, fun z hz => ?_⟩
      rcases List.mem_cons.mp hz with rfl | hz
      · omega
      · exact h2 z hz
theorem maxL_is : ∀ {ns : List Int}, ns ≠ [] → maxL ns ∈ ns ∧ ∀ y ∈ ns, y ≤ maxL ns
  | [], h => absurd rfl h
  | [x], _ => by simp [maxL]
  | x :: y :: r, _ => by
    obtain ⟨h1, h2⟩ := maxL_is (ns := y :: r) (by simp)
    have e : maxL (x :: y :: r) = if maxL (y :: r) ≤ x then x else maxL (y :: r) := rfl
    rw [e]
    split
    · rename_i c
      refine ⟨List.mem_cons_self .., fun z hz => ?_⟩
      rcases List.mem_cons.mp hz with rfl | hz
      · exact Int.le_refl _
      · exact Int.le_trans (h2 z hz) c
    · rename_i c
      refine ⟨List.mem_cons_of_mem _ h1, fun z hz => ?_⟩
      rcases List.mem_cons.mp hz with rfl | hz
      · omega
      · exact h2 z hz
def minD : PyData → Option R
  | .list ds => (intsOf ds).bind fun ns => if ns.isEmpty = true then none else some (.dat (.int (minL ns)))
  | _ => none
def maxD : PyData → Option R
  | .list ds => (intsOf ds).bind fun ns => if ns.isEmpty = true then none else some (.dat (.int (maxL ns)))
  | _ => none
theorem minD_l {ns : List Int} (h : ns ≠ []) : minD (.list (ns.map PyData.int)) = some (.dat (.int (minL ns))) := by
  show (intsOf _).bind _ = _
  rw [intsOf_map]
  show (if ns.isEmpty = true then none else _) = _
  rw [if_neg (by simpa using h)]
theorem maxD_l {ns : List Int} (h : ns ≠ []) : maxD (.list (ns.map PyData.int)) = some (.dat (.int (maxL ns))) := by
  show (intsOf _).bind _ = _
  rw [intsOf_map]
  show (if ns.isEmpty = true then none else _) = _
  rw [if_neg (by simpa using h)]
theorem does_min {T : Tb} : DoesN T (rMin T.K) (on1 minD) := does1_on fun x d z H F Q lv hx hg hq => by
  unfold minD at hg
  split at hg
  · rename_i ds
    obtain ⟨ns, h1, h2⟩ := Option.bind_eq_some_iff.mp hg
    split at h2
    · cases h2
    · rename_i hne
      cases h2
      obtain ⟨a, vs, rfl, h3, s1⟩ := hx.lst
      rw [intsOf_eq h1] at s1
      have ne : ns ≠ [] := by simpa using hne
      obtain ⟨m1, m2⟩ := minL_is ne
      refine ⟨a, ns, rfl, by rw [← s1.ints]; exact h3.sq, List.length_pos_iff.mpr ne, fun m hm hle => ?_⟩
      have e : m = minL ns := Int.le_antisymm (hle _ m1) (m2 m hm)
      rw [e]
      exact hq _ H F .refl (.int _)
  · cases hg
theorem does_max {T : Tb} : DoesN T (rMax T.K) (on1 maxD) := does1_on fun x d z H F Q lv hx hg hq => by
  unfold maxD at hg
  split at hg
  · rename_i ds
    obtain ⟨ns, h1, h2⟩ := Option.bind_eq_some_iff.mp hg
    split at h2
    · cases h2
    · rename_i hne
      cases h2
      obtain ⟨a, vs, rfl, h3, s1⟩ := hx.lst
      rw [intsOf_eq h1] at s1
      have ne : ns ≠ [] := by simpa using hne
      obtain ⟨m1, m2⟩ := maxL_is ne
      refine ⟨a, ns, rfl, by rw [← s1.ints]; exact h3.sq, List.length_pos_iff.mpr ne, fun m hm hle => ?_⟩
      have e : m = maxL ns := Int.le_antisymm (m2 m hm) (hle _ m1)
      rw [e]
      exact hq _ H F .refl (.int _)
  · cases hg

/-! ### sorted lists of ints -/
def insI (x : Int) : List Int → List Int
  | [] => [x]
  | y :: r => if x ≤ y then x :: y :: r else y :: insI x r
def sortI : List Int → List Int
  | [] => []
  | x :: r => insI x (sortI r)
theorem insI_perm (x : Int) : ∀ l : List Int, (insI x l).Perm (x :: l)
  | [] => .refl _
  | y :: r => by
    unfold insI
    split
    · exact .refl _
    · exact ((insI_perm x r).cons y).trans (List.Perm.swap ..)
theorem sortI_perm : ∀ l : List Int, (sortI l).Perm l
  | [] => .refl _
  | x :: r => (insI_perm x (sortI r)).trans ((sortI_perm r).cons x)
theorem insI_pw (x : Int) : ∀ l : List Int, l.Pairwise (· ≤ ·) → (insI x l).Pairwise (· ≤ ·)
  | [], _ => List.pairwise_singleton _ _
  | y :: r, h => by
    rw [List.pairwise_cons] at h
    unfold insI
    split
    · rename_i c
      refine List.pairwise_cons.mpr ⟨fun z hz => ?_, List.pairwise_cons.mpr h⟩
      rcases List.mem_cons.mp hz with rfl | hz
      · exact c
      · exact Int.le_trans c (h.1 z hz)
    · rename_i c
      refine List.pairwise_cons.mpr ⟨fun z hz => ?_, insI_pw x r h.2⟩
      rcases List.mem_cons.mp ((insI_perm x r).mem_iff.mp hz) with rfl | hz
      · omega
      · exact h.1 z hz
theorem sortI_pw : ∀ l : List Int, (sortI l).Pairwise (· ≤ ·)
  | [] => .nil
  | x :: r => insI_pw x _ (sortI_pw r)
theorem sort_uniq : ∀ {l m : List Int}, l.Perm m → l.Pairwise (· ≤ ·) → m.Pairwise (· ≤ ·) → l = m
  | [], m, p, _, _ => by rw [p.symm.eq_nil]
  | x :: l, [], p, _, _ => absurd p.eq_nil (by simp)
  | x :: l, y :: m, p, h1, h2 => by
    rw [List.pairwise_cons] at h1 h2
    have e : x = y := by
      have a : x ≤ y := by
        rcases List.mem_cons.mp (p.symm.subset (List.mem_cons_self ..)) with z | z
        · omega
        · exact h1.1 y z
      have b : y ≤ x := by
        rcases List.mem_cons.mp (p.subset (List.mem_cons_self ..)) with z | z
        · omega
        · exact h2.1 x z
      omega
    subst e
    rw [sort_uniq (p.cons_inv) h1.2 h2.2]
theorem sortI_len (l : List Int) : (sortI l).length = l.length := (sortI_perm l).length_eq
def sortD : PyData → Option R
  | .list ds => (intsOf ds).map fun ns => .own (.list ((sortI ns).map PyData.int))
  | _ => none
@[simp] theorem sortD_l (ns : List Int) : sortD (.list (ns.map PyData.int)) = some (.own (.list ((sortI ns).map PyData.int))) := by
  show (intsOf _).map _ = _
  rw [intsOf_map]
  rfl
theorem does_sort {T : Tb} : DoesN T (rSortedI T.K) (on1 sortD) := does1_on fun x d z H F Q lv hx hg hq => by
  unfold sortD at hg
  split at hg
  · rename_i ds
    obtain ⟨ns, h1, rfl⟩ := Option.map_eq_some_iff.mp hg
    obtain ⟨a, vs, rfl, h3, s1⟩ := hx.lst
    rw [intsOf_eq h1] at s1
    refine ⟨a, ns, rfl, by rw [← s1.ints]; exact h3.sq, fun ns' p hp hpw hn => ?_⟩
    have e : ns' = sortI ns := sort_uniq (hp.trans (sortI_perm ns).symm) hpw (sortI_pw ns)
    rw [e]
    exact hq _ _ F (.laid hn) (resN_lst hn (fun q => lv p q hn) (DFs.of_ints _))
  · cases hg

section
variable {X : Cx} {T : Tb} {W : WX} {n : Nat} {N : List Str} {sc : Scope} {e d : Expr} {f : AM} {pos p : Pos}
theorem e_min1 (l : At X N sc) (c : Cxt X T W n) (hx : gnB sc "min" = true) (hm : X.mg "min" = none) (ha : SA X T W [e] f) (he : starEach [e] X.env = (false, eval e X.env) :: starEach [] X.env := by rfl) : SE X T W (.Call (.Name "min" p) [e] [] pos) (opnM (on1 minD) f) :=
  se_b l hx (c.hK ▸ cr_min c.calm) does_min hm (by decide +kernel) ha he rfl
theorem e_max1 (l : At X N sc) (c : Cxt X T W n) (hx : gnB sc "max" = true) (hm : X.mg "max" = none) (ha : SA X T W [e] f) (he : starEach [e] X.env = (false, eval e X.env) :: starEach [] X.env := by rfl) : SE X T W (.Call (.Name "max" p) [e] [] pos) (opnM (on1 maxD) f) :=
  se_b l hx (c.hK ▸ cr_max c.calm) does_max hm (by decide +kernel) ha he rfl
theorem e_sorted (l : At X N sc) (c : Cxt X T W n) (hx : gnB sc "sorted" = true) (hm : X.mg "sorted" = none) (ha : SA X T W [e] f) (he : starEach [e] X.env = (false, eval e X.env) :: starEach [] X.env := by rfl) : SE X T W (.Call (.Name "sorted" p) [e] [] pos) (opnM (on1 sortD) f) :=
  se_b l hx (c.hK ▸ cr_sortedI) does_sort hm (by decide +kernel) ha he rfl
/-! ### {} -/
def dict0M : EM := fun ρ => some (.ok (.own (.dict [])) ρ)
@[simp] theorem dict0M_e (ρ : Rho) : dict0M ρ = some (.ok (.own (.dict [])) ρ) := eqI rfl
theorem e_dict0 (c : Cxt X T W n) : SE X T W (.Dict [] [] pos) dict0M :=
  pe_imp pe_dnewK fun σ H Q ⟨ρ, F, O, E, P⟩ => fun p hp => P (.ref p) _ F O (.laid hp) (E.laid hp) ⟨p, rfl, hp, fun q => E.lv p q hp, E.ne_new hp, .inl ⟨[], upd_same, .nil⟩⟩
end
end DL

/-! D36: a tuple taken no times, once. -/
namespace DL
open PySem PyProof.Rows
open L2 hiding Sp
open AutoSeq1 (wpAny_loadPart')
theorem tm_one (l : Addr) (items : Array Value) (n : Nat) (dd : Option Addr) (sl : Array (Option Value)) (u : Tok) :
    Meets (Builtin.«tuple.__mul__» ⟨[.ref l, .int 1 u], []⟩) (fun _ R s => s.heap.get? l = some { cls := .type "tuple", dict := dd, data := .seq items n, slots := sl } ∧ R (.ok (.ret (Value.ref l))) s) :=
  .of_wp fun P w A R s h => by
    obtain ⟨hp, g, d, tk, os⟩ := s
    obtain ⟨hl, h⟩ := h
    have f1 := AutoSeq1.idx_int
    have c0 : (decide ((1 : Int) < -(2 ^ 63)) || decide ((1 : Int) ≥ 2 ^ 63)) = false := by decide
    have c1 : (items.isEmpty || (1 : Int) == 1) = true := by simp
    wp_walk using wpAny_loadPart' hl
    repeat (first
      | (refine wpAny_ite_false (decide_eq_false (by rw [c0]; exact Bool.false_ne_true)) ?_; wp_walk using wpAny_loadPart' hl)
      | (refine wpAny_ite_true (decide_eq_true c1) ?_; wp_walk using wpAny_loadPart' hl))
    exact ⟨_, rfl, h⟩
theorem tm_none (l : Addr) (items : Array Value) (n : Nat) (dd : Option Addr) (sl : Array (Option Value)) (x : Int) (u : Tok) (c0 : (decide (x < -(2 ^ 63)) || decide (x ≥ 2 ^ 63)) = false) (c1 : (items.isEmpty || x == 1) = false) (c2 : (decide (x ≤ 0) || items.isEmpty) = true) :
    Meets (Builtin.«tuple.__mul__» ⟨[.ref l, .int x u], []⟩) (fun _ R s => s.heap.get? l = some { cls := .type "tuple", dict := dd, data := .seq items n, slots := sl } ∧ R (.ok (.ret (Value.ref s.heap.objs.size))) { s with heap := s.heap.push { cls := Value.type "tuple", data := Data.seq #[] }, toks := s.toks }) :=
  .of_wp fun P w A R s h => by
    obtain ⟨hp, g, d, tk, os⟩ := s
    obtain ⟨hl, h⟩ := h
    have f1 := AutoSeq1.idx_int
    wp_walk using wpAny_loadPart' hl
    repeat (first
      | (refine wpAny_ite_false (decide_eq_false (by rw [c0]; exact Bool.false_ne_true)) ?_; wp_walk using wpAny_loadPart' hl)
      | (refine wpAny_ite_false (decide_eq_false (by rw [c1]; exact Bool.false_ne_true)) ?_; wp_walk using wpAny_loadPart' hl)
      | (refine wpAny_ite_true (decide_eq_true c2) ?_; wp_walk using wpAny_loadPart' hl))
    exact ⟨_, rfl, h⟩
/-- a tuple times 1 is itself, times 0 or less a new one without items -/
def rRep1 (K : PySem.W.Frag) : R2 := fun x y H Q => ∃ l k xs, x = .ref l ∧ y = .int k ∧ SqT K H l xs ∧ ((k = 1 ∧ Q (.ref l) H) ∨ (xs ≠ [] ∧ -1000 ≤ k ∧ k ≤ 0 ∧ ∀ p, H p = none → Q (.ref p) (upd H p (.tup []))))
theorem op_rep1 {X : Cx} : OpR X (binaryOp .Mult) (rRep1 X.K) := by
  intro pins s σ H x y v u Q I rx ry h
  obtain ⟨l, k, xs, rfl, rfl, hT, h⟩ := h
  cases rx
  obtain ⟨t, rfl⟩ := ry
  obtain ⟨its, r, ⟨⟨cls, dd, data, sl⟩, ho, hc, n, hd⟩, hs⟩ := I.tuple hT
  cases hc
  cases hd
  have road : ∀ {Q' : Value → Shared → Prop}, wpAny (model X.prog X.w) X.A (call (.builtin "tuple.__mul__") [.ref l, .int k t]) Q' X.xe s → wpAny (model X.prog X.w) X.A (binaryOp .Mult (.ref l) (.int k t)) Q' X.xe s := fun z =>
    wpAny_binaryOp_repeat_ref (T := "tuple") (U := "int") (by decide) ⟨_, ho, rfl⟩ (fun s' => typeIs_int s' k t) noFill_tuple_mul F.fills_int_mul F.slot_int_rmul repeat_tuple F.slot_int_index.lookup
      (call_meets F.slot_int_rmul (typeIs_int s k t) F.entry_int_rmul (F.args_int_rmul_2 _ _) (int_rmul_tuple k t l its.toArray n dd sl) ⟨ho, rfl, ⟨_, ho, rfl⟩, z⟩)
  rcases h with ⟨rfl, q⟩ | ⟨hne, h0, h1, q⟩
  · exact road (call_meets F.slot_tuple_mul ⟨_, ho, rfl⟩ F.entry_tuple_mul (F.args_tuple_mul_2 _ _) (tm_one l its.toArray n dd sl t) ⟨ho, .ref l, H, I, rfl, q⟩)
  · have hi : its.toArray.isEmpty = false := by
      cases its with
      | nil => cases r; exact absurd rfl hne
      | cons a b => rfl
    have c0 : (decide (k < -(2 ^ 63)) || decide (k ≥ 2 ^ 63)) = false := by
      rw [decide_eq_false (by omega), decide_eq_false (by omega)] <;> rfl
    have c1 : (its.toArray.isEmpty || k == 1) = false := by
      rw [hi, Bool.false_or]
      exact beq_eq_false_iff_ne.mpr (by omega)
    have c2 : (decide (k ≤ 0) || its.toArray.isEmpty) = true := by rw [decide_eq_true h1]; rfl
    refine road (call_meets F.slot_tuple_mul ⟨_, ho, rfl⟩ F.entry_tuple_mul (F.args_tuple_mul_2 _ _) (tm_none l its.toArray n dd sl k t c0 c1 c2) ⟨ho, ?_⟩)
    exact ⟨.ref s.heap.objs.size, _, I.laid (t' := s.toks) (o := .tup []) (fun b ob q => Heap.get?_push_of_some _ q) (Nat.le_refl _) ⟨Nat.zero_le _, [], .nil, IsTup.new _ _⟩, rfl, q _ (I.hok.fresh (Nat.le_refl _))⟩
def dMulA : PyData → PyData → Option R
  | .tuple xs, .int k => if k = 1 then some (.dat (.tuple xs)) else if xs ≠ [] ∧ -1000 ≤ k ∧ k ≤ 0 then some (.dat (.tuple [])) else dMul (.tuple xs) (.int k)
  | d, e => dMul d e
theorem does_mulA {T : Tb} : Does2 T (fun x y H Q => rRep1 T.K x y H Q ∨ rMulX T.K x y H Q) dMulA := by
  intro x y d e z H F Q lv hx hy hg hq
  unfold dMulA at hg
  split at hg
  · rename_i xs k
    split at hg
    · rename_i hk
      cases hg
      subst hk
      obtain ⟨a, vs, rfl, h1, s1⟩ := hx.tup
      exact .inl ⟨a, 1, vs, rfl, hy.int, h1, .inl ⟨rfl, hq _ H F .refl (.tup h1 s1)⟩⟩
    · split at hg
      · rename_i hk
        cases hg
        obtain ⟨a, vs, rfl, h1, s1⟩ := hx.tup
        refine .inl ⟨a, k, vs, rfl, hy.int, h1, .inr ⟨fun e => ?_, hk.2.1, hk.2.2, fun p hp => hq _ _ F (.laid hp) (resN_tup hp .nil)⟩⟩
        subst e
        cases s1
        exact hk.1 rfl
      · exact .inr (does_mul x y _ _ z H F Q lv hx hy hg hq)
  · exact .inr (does_mul x y d e z H F Q lv hx hy hg hq)
section
variable {X : Cx} {T : Tb} {W : WX} {n : Nat} {a b : Expr} {fa fb : EM} {pos : Pos}
theorem e_mulA (c : Cxt X T W n) (ha : SE X T W a fa) (hb : SE X T W b fb) : SE X T W (.BinOp a .Mult b pos) (op2M dMulA fa fb) := se_op ((c.hK ▸ op_rep1 (X := X)).or (c.hK ▸ op_mulX)) does_mulA ha hb
end
theorem dMulA_t {xs : List PyData} {k : Int} (h : xs ≠ []) (h0 : 0 ≤ k) (h1 : k ≤ 1000) (hl : xs.length ≤ 1000) : dMulA (.tuple xs) (.int k) = some (.dat (.tuple (List.replicate k.toNat xs).flatten)) := by
  show (if k = 1 then _ else _) = _
  split
  · rename_i c
    subst c
    simp
  · split
    · rename_i c
      have e : k.toNat = 0 := by omega
      rw [e]
      rfl
    · rename_i c1 c2
      show (if xs ≠ [] ∧ 2 ≤ k ∧ k ≤ 1000 ∧ xs.length ≤ 1000 then _ else _) = _
      rw [if_pos]
      refine ⟨h, ?_, h1, hl⟩
      by_cases z : k ≤ 0
      · exact absurd ⟨h, by omega, z⟩ c2
      · omega
end DL

/-! D37: defs with defaults. -/
namespace DL
open PySem PyProof.Rows
open L2 hiding Sp
theorem fn_gD {T : Tb} {P : Program} {w : World} {K : PySem.W.Frag} {mg : Str → Option Value} {base : Heap} {k n : Nat} {x qual : Str} {st : Stmt} {f : Addr} {fd : FuncData} {N ps : List Str} {pr : Nat → Bool} {m : SM} {dvs : List V} {kws : List (Str × V)} (G : FunD K x qual (defArgs st) (defBody st) (defScope st) dvs kws f fd) (S : FnScope N ps (defScope st)) (hn : ps.length = n)
    (hK : K = T.K) (hw : w = T.w) (hsm : base.get? sysModules ≠ none)
    (body : ∀ (X : Cx) (W : WX) (H : Hp), X.prog = P → X.w = w → X.K = K → X.mg = mg → X.base = base → X.N = N → X.env.scope = defScope st → X.env.scope.kind = .function → X.fn = (fun _ => true) → Cxt X T W k → SB X T W ⟨H, n, pr⟩ (defBody st) m) :
    FnG P w K mg base (k + 1) f fd ps (spOf T n (runD n N.length pr m)) := by
  have hN : n ≤ N.length := by
    have h := congrArg List.length S.pre
    rw [List.length_take] at h
    omega
  obtain ⟨oc, od, dV, kV, doc, pm, an, cdv, ct, osl, rfl, lk, hcd, _, _⟩ := G.ex
  refine ⟨fun vs H Q E ⟨_, _, _, hl, _⟩ => hl.trans hn.symm, ?_⟩
  intro A outer s H args us vs Q E hg hr e0 hb r hsp
  have hl : vs.length = ps.length := by obtain ⟨_, _, _, q, _⟩ := hsp; exact q.trans hn.symm
  have kin : K.In s.heap := e0.mod.kin.keeps fun b o e => (e0.bs b o e).1
  have lim : s.heap.NoLimit := e0.mod.nolimit.keeps fun b o e => (e0.bs b o e).1
  have kinds : ∀ y ∈ ps.zip us, (defScope st).names.lookup y.1 = some .local ∨ ((defScope st).names.lookup y.1 = some .cell ∧ ((cellsFrom (s.heap.objs.size + 1) (defScope st).names []).lookup y.1).isSome = true) := by
    rintro ⟨y, v⟩ hy
    exact (S.par y (List.of_mem_zip hy).1).imp id fun q => ⟨q, PySem.W.cellsFrom_some _ _ _ (.inl q)⟩
  refine codeAny_call_function hr.depth (kin _ _ lk) rfl S.co S.gen rfl (PySem.W.codeRec_of kin hcd) (hb _ _ _ _ ?_)
  refine wpAny_newFunctionEnv_cells S.kind kinds ?_
  rintro env rfl s1 ic
  refine ⟨lim.keeps ic.toInCall.keep, codeAny_func ?_⟩
  let X := cxOf (L2.CX P w) P w K mg base N qual (defScope st) f cdv A outer s H E
  have I : L2.Inv X [] (L2.start N vs) H s1 := inv_start S hr.hd e0 hl r ic
  have cx : Cxt X T (fun cls d _ H' => E cls d H') k := ⟨hK, hw, rfl, hr.deeper _, hg, takes_of rfl rfl rfl rfl, passes_of rfl, S.nd, hsm⟩
  have B := body X _ H rfl rfl rfl rfl rfl rfl rfl S.kind rfl cx
  refine wpAny_mono (B.run [] s1 (L2.start N vs) H _ I (body_of hN hsp)) ?_ fun _ _ z => z
  intro fl s' hs
  cases fl with
  | ret u =>
    obtain ⟨v, σ', H', J, rv, q⟩ := hs
    exact ⟨v, H', J.os, J.bare, J.base, J.hok, rv, q⟩
  | next =>
    obtain ⟨σ', H', J, q⟩ := hs
    exact ⟨.non, H', J.os, J.bare, J.base, J.hok, rfl, q⟩
  | brk =>
    obtain ⟨_, _, _, q⟩ := hs
    exact q.elim
  | cont =>
    obtain ⟨_, _, _, q⟩ := hs
    exact q.elim

/-! ### calls -/
/-- a def with a default that is left out -/
structure FnD (P : Program) (w : World) (mg : Str → Option Value) (base : Heap) (T : Tb) (x : Str) (k n : Nat) (sem : Sem) (dds : List PyData) : Prop where
  ex : ∃ f fd ps dus dvs, mg x = some (.ref f) ∧ PySem.W.keepIn T.K (.ref f) = true ∧ Binds T.K fd ps dus ∧ ps.length = n ∧ FnG P w T.K mg base k f fd ps (spOf T n sem) ∧ Vals dvs dus ∧ ∀ H F, DFs T.K H F dvs dds
theorem fn_eD {T : Tb} {P : Program} {w : World} {mg : Str → Option Value} {base : Heap} {k n : Nat} {x qual : Str} {st : Stmt} {f : Addr} {fd : FuncData} {N ps : List Str} {pr : Nat → Bool} {m : SM} {dvs : List V} (G : FunD T.K x qual (defArgs st) (defBody st) (defScope st) dvs [] f fd) (S : FnScope N ps (defScope st)) (hn : ps.length = n) (hmg : mg x = some (.ref f))
    (hw : w = T.w) (hsm : base.get? sysModules ≠ none)
    (body : ∀ (X : Cx) (W : WX) (H : Hp), X.prog = P → X.w = w → X.mg = mg → X.base = base → At X N (defScope st) → X.env.scope.kind = .function → (∀ x, X.fn x = true) → Cxt X T W k → SB X T W ⟨H, n, pr⟩ (defBody st) m) :
    (Binds T.K fd ps [] → FnE P w mg base T x (k + 1) n (runD n N.length pr m)) ∧ ∀ dds, (∃ ds, Vals dvs ds ∧ Binds T.K fd ps ds) → (∀ H F, DFs T.K H F dvs dds) → FnD P w mg base T x (k + 1) n (runD n N.length pr m) dds := by
  have g := fn_gD (T := T) (P := P) (w := w) (mg := mg) (base := base) (k := k) (pr := pr) (m := m) G S hn rfl hw hsm fun X W H h1 h2 _ h4 h5 h6 h7 h8 h9 c => body X W H h1 h2 h4 h5 ⟨h6, h7⟩ h8 (fun x => by rw [h9]) c
  exact ⟨fun hb => ⟨f, fd, ps, hmg, G.kp, hb, hn, g⟩, fun dds ⟨ds, hv, hb⟩ hd => ⟨f, fd, ps, ds, dvs, hmg, G.kp, hb, hn, g, hv, hd⟩⟩
/-- arguments, with the defaults behind them -/
def appA (fa : AM) (dds : List PyData) : AM := fun ρ => bindO (fa ρ) fun rs ρ1 => some (.ok (rs ++ dds.map R.dat) ρ1)
@[simp] theorem appA_e (fa : AM) (dds : List PyData) (ρ : Rho) : appA fa dds ρ = bindO (fa ρ) fun rs ρ1 => some (.ok (rs ++ dds.map R.dat) ρ1) := eqI rfl
section
variable {X : Cx} {T : Tb} {W : WX} {x : Str} {k n m : Nat} {sem : Sem} {e : Expr} {es : List Expr} {fa : AM} {p pos : Pos} {dds : List PyData} {N : List Str} {sc : Scope}
theorem resRs_app {H0 H : Hp} {F : Reg} {O : Ows} {σ : L2.St} {dvs : List V} (hd : DFs T.K H F dvs dds) : ∀ {vs : List V} {rs : List R}, ResRs T H0 H F O σ vs rs → ResRs T H0 H F O σ (vs ++ dvs) (rs ++ dds.map R.dat)
  | _, _, .nil => by
    have key : ∀ {dvs : List V} {dds : List PyData}, DFs T.K H F dvs dds → ResRs T H0 H F O σ dvs (dds.map R.dat) := by
      intro dvs dds hd
      induction dvs generalizing dds with
      | nil => cases hd; exact .nil
      | cons v r ih => cases hd with
        | cons a b => exact .cons a (ih b)
    exact key hd
  | _, _, .cons a b => .cons a (resRs_app hd b)
theorem tof_app {σ : L2.St} {H : Hp} {dvs : List V} {Q : List V → Hp → Prop} (hd : ∀ H F, DFs T.K H F dvs dds) (h : Tof T W (tlA T) (appA fa dds) σ H Q) : Tof T W (tlA T) fa σ H fun vs H1 => Q (vs ++ dvs) H1 := by
  obtain ⟨ρ, F, O, E, P⟩ := h
  refine ⟨ρ, F, O, E, ?_⟩
  unfold appA at P
  cases q : fa ρ with
  | none => rw [q] at P; exact P
  | some o =>
    rw [q] at P
    cases o with
    | ok a ρ1 => exact fun v H1 F1 O1 x1 E1 r1 => P (v ++ dvs) H1 F1 O1 x1 E1 (resRs_app (hd H1 F1) r1)
    | er c fs ρ1 => exact P
theorem se_callD (h : FnD X.prog X.w X.mg X.base T x k n sem dds) (c : Cxt X T W m) (hk : k ≤ m) (hg : L2.Gl X x) (ha : SA X T W (e :: es) fa) (hl : ∀ args o, sem args = some o → args.length = n) (hdb : (x == ("__debug__" : Str)) = false := by decide)
    (he : starEach (e :: es) X.env = (false, eval e X.env) :: starEach es X.env := by rfl) (hpl : (backTo pos (starEach es X.env)).any (·.1) = false := by rfl) : SE X T W (.Call (.Name x p) (e :: es) [] pos) (callM sem (appA fa dds)) := by
  obtain ⟨f, fd, ps, dus, dvs, hm, hkp, hb, hn, G, hv, hd⟩ := h.ex
  rw [← c.hK] at hkp hb G
  refine ⟨fun pins s σ H Q I h => ?_⟩
  have h2 := tof_app hd (call_of (n := n) h fun vs rs H0 H1 F1 O1 rr args ρ pa o so => by rw [resRs_len rr, ← passA_len pa]; exact hl args o so)
  have fin : ∀ us s1, AP X pins σ (fun vs H1 => spOf T n sem (vs ++ dvs) H1 Q fun cls d H' => W cls d σ H') us s1 → X.K.In s1.heap ∧ wpAny (model X.prog X.w) X.A (call (.ref f) us) (EP X pins σ Q) X.xe s1 := by
    rintro us s1 ⟨vs, H1, I1, r, q⟩
    refine ⟨I1.kIn, ?_⟩
    have r2 := r.append hv
    have lus : (us ++ dus).length = ps.length := by rw [← r2.length]; exact G.len _ _ _ _ q
    have bb := hb s1 us I1.kIn lus
    refine wpAny_call (codeAny_mono (G.run X.A X.stack s1 H1 ⟨us, []⟩ (us ++ dus) (vs ++ dvs) Q _ c.gd (c.room.mono hk) I1.env0 bb r2 q) ?_)
    intro r' s' hq
    cases r' with
    | error e => exact c.tk e s' (XE.of_call I1 (fun _ _ _ z => z) hq)
    | ok fl =>
      cases fl with
      | ret u => exact I1.after hq
      | next => exact hq.elim
      | brk => exact hq.elim
      | cont => exact hq.elim
  exact wpAny_Call_Name_kw (ld_glob I hg hm (PySem.W.callWith_K (h₀ := X.base) I.ok.mod.kin hkp (thn (ha.run pos pins s σ H _ I h2) fin) he hpl) hdb)
theorem se_fD (a : At X N sc) (hx : gnB sc x = true) (c : Cxt X T W m) (h : FnD X.prog X.w X.mg X.base T x k n sem dds) (hl : ∀ args o, sem args = some o → args.length = n) (hk : k ≤ m) (ha : SA X T W (e :: es) fa) (hdb : (x == ("__debug__" : Str)) = false := by decide)
    (he : starEach (e :: es) X.env = (false, eval e X.env) :: starEach es X.env := by rfl) (hpl : (backTo pos (starEach es X.env)).any (·.1) = false := by rfl) : SE X T W (.Call (.Name x p) (e :: es) [] pos) (callM sem (appA fa dds)) := se_callD h c hk (a.gl hx).1 ha hl hdb he hpl
end
theorem funD_mk {K : PySem.W.Frag} {x qual : Str} {st : Stmt} {f tD : Addr} {oc : Value} {od an : Option Addr} {osl : Array (Option Value)} {kV doc pm cdv ct : Value} {o : Obj} {its : List Value} {n : Nat} {dvs : List V} (l : K.lookup f = some ⟨oc, od, .func (PySem.W.fnOf x qual (defArgs st) (defBody st) (defScope st) (.ref tD) kV doc pm an cdv ct), osl⟩)
    (c : PySem.W.codeIn K cdv qual = true) (k : PySem.W.keepIn K (.ref f) = true) (lT : K.lookup tD = some o) (oT : o.data = .seq its.toArray n) (hv : Vals dvs its) (hne : dvs ≠ []) : FunD K x qual (defArgs st) (defBody st) (defScope st) dvs [] f (PySem.W.fnOf x qual (defArgs st) (defBody st) (defScope st) (.ref tD) kV doc pm an cdv ct) :=
  ⟨⟨oc, od, .ref tD, kV, doc, pm, an, cdv, ct, osl, rfl, l, c, .inr ⟨hne, tD, o, its, n, rfl, lT, oT, hv⟩, .inl rfl⟩, k⟩
theorem binds_nil {K : PySem.W.Frag} {fd : FuncData} {ps : List Str} {dvs : List V} (h : ∃ ds, Vals dvs ds ∧ Binds K fd ps ds) (e : dvs = []) : Binds K fd ps [] := by
  obtain ⟨ds, hv, hb⟩ := h
  subst e
  cases hv
  exact hb
end DL

/-! D38: parallel stores into captured names; is True; [::-1]; sorted pairs. -/
namespace DL
open PySem PySem.Spec PyProof.Rows
open L2 hiding Sp
/-! ### a, b = x, y with a captured name -/
def celB (sc : Scope) (ts : List Expr) : Bool :=
  (ts.filterMap fun
    | .Name id pos => if sc.names.lookup id == some .local && pos.line == (ts.head?.map (·.pos.line)).getD 0 then some id else none
    | _ => none).length != ts.length
theorem swap_cel {X : Cx} {N : List Str} {sc : Scope} {ts vs : List Expr} {k k2 : Nat} {p p2 : Pos} (a : At X N sc) (h : celB sc ts = true) : swappedStores [.Tuple ts k p] (.Tuple vs k2 p2) X.env = pure none := by
  have h' : ((ts.filterMap fun
    | .Name id pos => if X.env.kindOf id == some .local && pos.line == (ts.head?.map (·.pos.line)).getD 0 then some id else none
    | _ => none).length != ts.length) = true := by
    have e : ∀ id, X.env.kindOf id = sc.names.lookup id := fun id => by show X.env.scope.names.lookup id = _; rw [a.hs]
    simp only [e]
    exact h
  unfold swappedStores
  simp only [Bool.true_or]
  repeat (first | rfl | exact absurd (Bool.or_eq_true_iff.mpr (.inl h')) (by assumption) | split)

/-! ### is True -/
def boolOf : PyData → Option Bool
  | .bool b => some b
  | _ => none
def dIsB (d e : PyData) : Option R := match e with
  | .bool b => some (.dat (.bool (boolOf d == some b)))
  | _ => dIsN d e
def dNotB (d e : PyData) : Option R := match e with
  | .bool b => some (.dat (.bool (!(boolOf d == some b))))
  | _ => dNotN d e
def rIsB : R2 := fun x y H Q => (y = .non ∧ Q (.bl (decide (x = .non))) H) ∨ ∃ b, y = .bl b ∧ Q (.bl (decide (x = .bl b))) H
def rNotB : R2 := fun x y H Q => (y = .non ∧ Q (.bl (!decide (x = .non))) H) ∨ ∃ b, y = .bl b ∧ Q (.bl (!decide (x = .bl b))) H
theorem op_isB {X : Cx} : OpR X (compareOp .Is) rIsB := by
  intro pins s σ H x y v u Q I rx ry h
  rcases h with h | ⟨b, rfl, q⟩
  · exact op_isN pins s σ H x y v u Q I rx ry h
  · cases ry
    have key : plainIs v (.bool b) = true ∧ decide (x = .bl b) = (v == Value.bool b) := by
      cases x with
      | bl c => cases rx; refine ⟨rfl, ?_⟩; cases b <;> cases c <;> rfl
      | _ => first
        | (cases rx; exact ⟨rfl, by simp⟩)
        | (obtain ⟨t, rfl⟩ := rx; exact ⟨rfl, by simp⟩)
    exact wpAny_is_plain key.1 (fin_bl I q key.2)
theorem op_notB {X : Cx} : OpR X (compareOp .IsNot) rNotB := by
  intro pins s σ H x y v u Q I rx ry h
  rcases h with h | ⟨b, rfl, q⟩
  · exact op_notN pins s σ H x y v u Q I rx ry h
  · cases ry
    have key : plainIs v (.bool b) = true ∧ decide (x = .bl b) = (v == Value.bool b) := by
      cases x with
      | bl c => cases rx; refine ⟨rfl, ?_⟩; cases b <;> cases c <;> rfl
      | _ => first
        | (cases rx; exact ⟨rfl, by simp⟩)
        | (obtain ⟨t, rfl⟩ := rx; exact ⟨rfl, by simp⟩)
    exact wpAny_isNot_plain key.1 (fin_bl I q (by rw [key.2]))
theorem Vw.isB {T : Tb} {H : Hp} {F : Reg} {v : V} {d : PyData} {b : Bool} (h : Vw T H F v d) : decide (v = .bl b) = (boolOf d == some b) := by
  rcases h with h | ⟨a, rfl, h⟩
  · cases h with
    | bl c => cases b <;> cases c <;> rfl
    | _ => simp [boolOf]
  · cases d with
    | list ds => simp [boolOf]
    | dict ds => simp [boolOf]
    | none => exact h.elim
    | bool b => exact h.elim
    | int i => exact h.elim
    | str x => exact h.elim
    | tuple xs => exact h.elim
theorem does_isB {T : Tb} : Does2 T rIsB dIsB := by
  intro x y d e z H F Q lv hx hy hg hq
  unfold dIsB at hg
  split at hg
  · rename_i b
    cases hg
    refine .inr ⟨b, hy.bl, ?_⟩
    rw [hx.isB]
    exact hq _ H F .refl (.bl _)
  · exact .inl (does_isN x y d e z H F Q lv hx hy hg hq)
theorem does_notB {T : Tb} : Does2 T rNotB dNotB := by
  intro x y d e z H F Q lv hx hy hg hq
  unfold dNotB at hg
  split at hg
  · rename_i b
    cases hg
    refine .inr ⟨b, hy.bl, ?_⟩
    rw [hx.isB]
    exact hq _ H F .refl (.bl _)
  · exact .inl (does_notN x y d e z H F Q lv hx hy hg hq)
section
variable {X : Cx} {T : Tb} {W : WX} {n : Nat} {a b : Expr} {fa fb : EM} {pos : Pos}
theorem e_isB (c : Cxt X T W n) (ha : SE X T W a fa) (hb : SE X T W b fb) : SE X T W (.Compare a [.Is] [b] pos) (op2M dIsB fa fb) := se_cmp op_isB does_isB ha hb (nomark _)
theorem e_notB (c : Cxt X T W n) (ha : SE X T W a fa) (hb : SE X T W b fb) : SE X T W (.Compare a [.IsNot] [b] pos) (op2M dNotB fa fb) := se_cmp op_notB does_notB ha hb (nomark _)
theorem t_isB (c : Cxt X T W n) (ha : SE X T W a fa) (hb : SE X T W b fb) : ST X T W (.Compare a [.Is] [b] pos) (tsM (op2M dIsB fa fb)) := st_cmp op_isB does_isB ha hb (nomark _)
theorem t_notB (c : Cxt X T W n) (ha : SE X T W a fa) (hb : SE X T W b fb) : ST X T W (.Compare a [.IsNot] [b] pos) (tsM (op2M dNotB fa fb)) := st_cmp op_notB does_notB ha hb (nomark _)
end
@[simp] theorem dIsB_b (b c : Bool) : dIsB (.bool b) (.bool c) = some (.dat (.bool (b == c))) := by
  show some (R.dat (.bool (some b == some c))) = _
  rw [show (some b == some c) = (b == c) from rfl]
@[simp] theorem dNotB_b (b c : Bool) : dNotB (.bool b) (.bool c) = some (.dat (.bool (!(b == c)))) := by
  show some (R.dat (.bool (!(some b == some c)))) = _
  rw [show (some b == some c) = (b == c) from rfl]

/-! ### t[::-1] -/
section
variable {prog : Program} {w : World} {A : Around} {E : Value → Shared → Prop} {s : Shared}
theorem fmap_cg {α β : Type} {f g : α → Option β} : ∀ {l : List α}, (∀ x ∈ l, f x = g x) → l.filterMap f = l.filterMap g
  | [], _ => rfl
  | x :: r, h => by rw [List.filterMap_cons, List.filterMap_cons, h x (List.mem_cons_self ..), fmap_cg fun y hy => h y (List.mem_cons_of_mem _ hy)]
theorem pick_rev (xs : Array Value) : ((List.range xs.size).filterMap fun (m : Nat) => xs[(((xs.size : Int) - 1) + (m : Int) * (-1)).toNat]?).toArray = xs.toList.reverse.toArray := by
  have h := HT.pick_gen xs.toList.reverse.toArray 0 xs.size
  have e : ((List.range xs.size).filterMap fun (m : Nat) => xs[(((xs.size : Int) - 1) + (m : Int) * (-1)).toNat]?) = (List.range xs.size).filterMap fun (m : Nat) => xs.toList.reverse.toArray[(((0 : Nat) : Int) + (m : Int) * 1).toNat]? := by
    refine fmap_cg fun m hm => ?_
    rw [List.mem_range] at hm
    have e1 : (((xs.size : Int) - 1) + (m : Int) * (-1)).toNat = xs.size - 1 - m := by omega
    have e2 : (((0 : Nat) : Int) + (m : Int) * 1).toNat = m := by omega
    rw [e1, e2, ← Array.getElem?_toList, ← Array.getElem?_toList, List.getElem?_reverse (by rw [Array.length_toList]; exact hm), Array.length_toList]
  rw [e, h]
  simp only [List.drop_zero]
  rw [List.take_of_length_le (by simp)]
theorem applied_rev {sl : Addr} {vs : Value} {n : Nat} {Q : Int × Int × Nat → Shared → Prop} (hs : s.heap.IsSliceOf sl .none .none vs) (ps : IsPart vs (some (-1))) (h : Q ((n : Int) - 1, -1, n) s) :
    wpAny (model prog w) A (Builtin.Slice.sliceApplied (.ref sl) (pure (n : Int))) Q E s := by
  obtain ⟨os, hos, hcs, hds⟩ := id hs
  unfold Builtin.Slice.sliceApplied Builtin.Slice.sliceFields
  refine wpAny_bind (wpAny_bind (wpAny_field hos hds (x := .none) rfl (wpAny_bind (wpAny_field hos hds (x := .none) rfl (wpAny_bind (wpAny_field hos hds (x := vs) rfl (wpAny_pure ?_)))))))
  refine wpAny_bind (HT.slicePart_ ps ?_)
  show wpAny _ _ (if ((-1 : Int) == 0) = true then _ else _) _ _ s
  rw [if_neg (by decide)]
  refine wpAny_bind (HT.slicePart_ .none (wpAny_bind (HT.slicePart_ .none (wpAny_bind (wpAny_pure ?_)))))
  show wpAny _ _ (match Builtin.Slice.sliceAdjust none none (-1) (n : Int) with | (lo, hi) => pure (lo, (-1 : Int), Builtin.Slice.slicePlaces lo hi (-1))) _ _ s
  have e1 : Builtin.Slice.sliceAdjust none none (-1) (n : Int) = ((n : Int) - 1, -1) := rfl
  have e2 : Builtin.Slice.slicePlaces ((n : Int) - 1) (-1) (-1) = n := by
    unfold Builtin.Slice.slicePlaces
    rw [if_neg (by decide)]
    by_cases c : (n : Int) - 1 > -1
    · rw [if_pos c, show -(-1 : Int) = 1 from rfl, Int.ediv_one]; omega
    · rw [if_neg c]; omega
  rw [e1]
  show wpAny _ _ (pure ((n : Int) - 1, (-1 : Int), Builtin.Slice.slicePlaces ((n : Int) - 1) (-1) (-1))) _ _ s
  rw [e2]
  exact wpAny_pure h
theorem getItem_tuple_rev {t sl : Addr} {items : Array Value} {vs : Value} {Q : Value → Shared → Prop} (ht : IsTup s.heap t items) (hs : s.heap.IsSliceOf sl .none .none vs) (ps : IsPart vs (some (-1)))
    (h : Q (.ref s.heap.objs.size) { s with heap := s.heap.push { cls := .type "tuple", data := .seq items.toList.reverse.toArray } })
    (hsz : items.size ≤ sizeLine) : wpAny (model prog w) A (getItem (.ref t) (.ref sl)) Q E s := by
  have htake : sizeOk (.seq items.toList.reverse.toArray) := by
    show items.toList.reverse.toArray.size ≤ sizeLine
    rw [List.size_toArray, List.length_reverse, Array.length_toList]
    exact hsz
  obtain ⟨os, hos, hcs, hds⟩ := id hs
  have hTs : s.TypeIs (.ref sl) "slice" := ⟨os, hos, hcs⟩
  unfold getItem
  try with_reducible refine wpAny_holding ?_
  first | refine wpAny_bind (wpAny_pure ?_) | skip
  refine wpAny_bind (wpAny_sequenceKey ht.typeIs (by decide) ?_)
  refine wpAny_bind (wpAny_callSpecial?_slot (name := Str.ofString "__getitem__") ht.typeIs PyProof.Rows.slot_tuple_getitem
    (wpAny_call_entry PyProof.Rows.slot_tuple_getitem ht.typeIs entry_tuple_getitem ?_ (args_tuple_getitem _ _)))
  show wpAny _ _ (Builtin.Tuple.tupleItemsOf (.ref t) >>= _) _ _ s
  refine wpAny_bind (PyProof.Rows.tupleItemsOf_ ht ?_)
  refine wpAny_bind (wpAny_typeOf hTs ?_)
  rw [if_pos (by decide)]
  refine wpAny_bind (applied_rev hs ps ?_)
  have hno : ¬ ((((items.size : Int) - 1) == 0 && (-1 : Int) == 1 && items.size == items.size) = true) := by simp
  show wpAny _ _ (if (((items.size : Int) - 1) == 0 && (-1 : Int) == 1 && items.size == items.size) = true then _ else _) _ _ s
  rw [if_neg hno, pick_rev]
  first
    | exact wpAny_bind (m := Builtin.Tuple.tupleExact _) (wpAny_newObj_type (wpAny_pure ⟨_, rfl, wpAny_pure h⟩) htake)
    | exact wpAny_bind (m := Builtin.Tuple.tupleExact _) (wpAny_newObj_type (wpAny_bind (wpAny_pure (wpAny_pure ⟨_, rfl, wpAny_pure h⟩))) htake)
    | exact wpAny_bind (wpAny_bind (m := Builtin.Tuple.tupleExact _) (wpAny_newObj_type (wpAny_pure (wpAny_pure ⟨_, rfl, wpAny_pure h⟩)) htake))
    | exact wpAny_bind (wpAny_bind (m := Builtin.Tuple.tupleExact _) (wpAny_newObj_type (wpAny_pure ⟨_, rfl, wpAny_pure h⟩) htake))
end

/-- x[::-1] of a list or a tuple -/
def tRev (K : PySem.W.Frag) (te : TE) : TE := fun σ H Q => te σ H fun x H1 => (∃ a xs, x = .ref a ∧ SqL K H1 a xs ∧ ∀ p, H1 p = none → Q (.ref p) (upd H1 p (.lst xs.reverse))) ∨ ∃ a xs, x = .ref a ∧ SqT K H1 a xs ∧ ∀ p, H1 p = none → Q (.ref p) (upd H1 p (.tup xs.reverse))
section
variable {X : Cx}
theorem pe_rev {e : Expr} {te : TE} {k : Nat} {p1 p2 p3 pos : Pos} (he : PE X e te) : PE X (.Subscript e (.Slice none none (some (.UnaryOp .USub (.Constant (.int 1) k p1) p2)) p3) pos) (tRev X.K te) := by
  refine ⟨fun pins s σ H Q I h => ?_⟩
  refine Subscript_ (thn (he.run pins s σ H _ I h) fun v s1 ⟨x, H1, I1, r1, q1⟩ => ?_)
  have hst : PO X (some (.UnaryOp .USub (.Constant (.int 1) k p1) p2)) (tPart (tUn (rU fun i => .int (-i)) (tC (.int 1)))) := po_some (pe_un un_neg pe_int)
  refine wpAny_Slice (thn (po_none.run pins s1 σ H1 (fun o H2 => o = none ∧ H2 = H1) I1 ⟨rfl, rfl⟩) fun vl s2 ⟨l, H2, I2, pl, el, e2⟩ => ?_)
  subst el e2
  refine thn (po_none.run pins s2 σ H2 (fun o H3 => o = none ∧ H3 = H2) I2 ⟨rfl, rfl⟩) fun vu s3 ⟨u, H3, I3, pu, eu, e3⟩ => ?_
  subst eu e3
  refine thn (hst.run pins s3 σ H3 (fun o H4 => o = some (-1) ∧ H4 = H3) I3 ⟨1, rfl, -1, rfl, rfl, rfl⟩) fun vs s4 ⟨o, H4, I4, ps, eo, e4⟩ => ?_
  subst eo e4
  have I5 : Inv X pins σ H4 { s4 with heap := s4.heap.push { cls := .type "slice", data := .fields #[vl, vu, vs] } } := I4.kept (t' := s4.toks) fun b ob q => Heap.get?_push_of_some _ q
  rcases q1 with ⟨a, xs, ex, hx, q⟩ | ⟨a, xs, ex, hx, q⟩
  · subst ex
    cases r1
    obtain ⟨its, r, ht, hz⟩ := I5.list hx
    have hlen := r.length
    show wpAny (model X.prog X.w) X.A (subscriptTail e (.Slice none none (some (.UnaryOp .USub (.Constant (.int 1) k p1) p2)) p3) (.ref a) (.ref s4.heap.objs.size)) (EP X pins σ Q) X.xe { s4 with heap := s4.heap.push { cls := .type "slice", data := .fields #[vl, vu, vs] } }
    refine tail_any (ops := [.ref a, .ref s4.heap.objs.size]) ht.isList.typeIs (PySem.slot_list_getitem.lookup) ?_ (by with_unfolding_all rfl)
    refine wpAny_getItem_list_slice ht.isList (Heap.IsSliceOf.new _ vl vu vs) pl pu ps (by decide) ?_ (by rw [List.size_toArray]; omega)
    rw [PySem.W.krv_pick]
    refine ⟨.ref _, _, I5.laid (t' := s4.toks) (o := .lst xs.reverse) (fun b ob q => Heap.get?_push_of_some _ q) (Nat.le_refl _) ?_, rfl, q _ (I5.hok.fresh (Nat.le_refl _))⟩
    exact ⟨by rw [List.length_reverse]; exact hz, _, 0, r.reverse, Heap.get?_push_size _ rfl⟩
  · subst ex
    cases r1
    obtain ⟨its, r, ht, hz⟩ := I5.tuple hx
    have hlen := r.length
    cases pl
    cases pu
    show wpAny (model X.prog X.w) X.A (subscriptTail e (.Slice none none (some (.UnaryOp .USub (.Constant (.int 1) k p1) p2)) p3) (.ref a) (.ref s4.heap.objs.size)) (EP X pins σ Q) X.xe { s4 with heap := s4.heap.push { cls := .type "slice", data := .fields #[.none, .none, vs] } }
    refine tail_any (ops := [.ref a, .ref s4.heap.objs.size]) ht.typeIs (PyProof.Rows.slot_tuple_getitem.lookup) ?_ (by with_unfolding_all rfl)
    refine getItem_tuple_rev ht (Heap.IsSliceOf.new _ .none .none vs) ps ?_ (by rw [List.size_toArray]; omega)
    refine ⟨.ref _, _, I5.laid (t' := s4.toks) (o := .tup xs.reverse) (fun b ob q => Heap.get?_push_of_some _ q) (Nat.le_refl _) ?_, rfl, q _ (I5.hok.fresh (Nat.le_refl _))⟩
    exact ⟨by rw [List.length_reverse]; exact hz, _, r.reverse, IsTup.new _ _⟩
end
def revD : PyData → Option R
  | .list ds => some (.own (.list ds.reverse))
  | .tuple ds => some (.dat (.tuple ds.reverse))
  | _ => none
@[simp] theorem revD_l (ds : List PyData) : revD (.list ds) = some (.own (.list ds.reverse)) := eqI rfl
@[simp] theorem revD_t (ds : List PyData) : revD (.tuple ds) = some (.dat (.tuple ds.reverse)) := eqI rfl
def rRevX (K : PySem.W.Frag) : V → Hp → VK → Prop := fun x H1 Q => (∃ a xs, x = .ref a ∧ SqL K H1 a xs ∧ ∀ p, H1 p = none → Q (.ref p) (upd H1 p (.lst xs.reverse))) ∨ ∃ a xs, x = .ref a ∧ SqT K H1 a xs ∧ ∀ p, H1 p = none → Q (.ref p) (upd H1 p (.tup xs.reverse))
theorem does_rev {T : Tb} : Does1 T (rRevX T.K) revD := by
  intro x d z H F Q lv hx hg hq
  unfold revD at hg
  split at hg
  · rename_i ds
    cases hg
    obtain ⟨a, vs, rfl, h3, s1⟩ := hx.lst
    exact .inl ⟨a, vs, rfl, h3.sq, fun p hn => hq _ _ F (.laid hn) (resN_lst hn (fun q => lv p q hn) s1.reverse)⟩
  · rename_i ds
    cases hg
    obtain ⟨a, vs, rfl, h3, s1⟩ := hx.tup
    exact .inr ⟨a, vs, rfl, h3, fun p hn => hq _ _ F (.laid hn) (resN_tup hn s1.reverse)⟩
  · cases hg
theorem e_rev {X : Cx} {T : Tb} {W : WX} {n : Nat} {e : Expr} {f : EM} {k : Nat} {p1 p2 p3 pos : Pos} (c : Cxt X T W n) (he : SE X T W e f) : SE X T W (.Subscript e (.Slice none none (some (.UnaryOp .USub (.Constant (.int 1) k p1) p2)) p3) pos) (op1M revD f) :=
  pe_imp (pe_rev he) fun σ H Q h => by
    have := op1 (does_rev (T := T)) h
    unfold tRev
    rw [c.hK]
    exact this
/-! ### sorted lists of pairs of ints -/
def pairOf : PyData → Option (Int × Int)
  | .tuple [.int a, .int b] => some (a, b)
  | _ => none
def pairsOf : List PyData → Option (List (Int × Int))
  | [] => some []
  | d :: r => match pairOf d, pairsOf r with
    | some p, some q => some (p :: q)
    | _, _ => none
def prD (p : Int × Int) : PyData := .tuple [.int p.1, .int p.2]
theorem pairOf_eq {d : PyData} {p : Int × Int} (h : pairOf d = some p) : d = prD p := by
  unfold pairOf at h
  split at h
  · cases h; rfl
  · cases h
theorem pairsOf_eq : ∀ {ds : List PyData} {ps : List (Int × Int)}, pairsOf ds = some ps → ds = ps.map prD
  | [], ps, h => by cases h; rfl
  | d :: r, ps, h => by
    unfold pairsOf at h
    split at h
    · rename_i p q e1 e2
      cases h
      rw [pairOf_eq e1, pairsOf_eq e2]; rfl
    · cases h
theorem pairsOf_map : ∀ ps : List (Int × Int), pairsOf (ps.map prD) = some ps
  | [] => rfl
  | p :: r => by
    rw [List.map_cons]
    unfold pairsOf
    rw [pairsOf_map r]
    rfl
/-- ahead of, or the same -/
def leP (p q : Int × Int) : Bool := decide (p.1 * 4096 + p.2 ≤ q.1 * 4096 + q.2)
def insP (x : Int × Int) : List (Int × Int) → List (Int × Int)
  | [] => [x]
  | y :: r => if leP x y = true then x :: y :: r else y :: insP x r
def sortP : List (Int × Int) → List (Int × Int)
  | [] => []
  | x :: r => insP x (sortP r)
theorem insP_perm (x : Int × Int) : ∀ l : List (Int × Int), (insP x l).Perm (x :: l)
  | [] => .refl _
  | y :: r => by
    unfold insP
    split
    · exact .refl _
    · exact ((insP_perm x r).cons y).trans (List.Perm.swap ..)
theorem sortP_perm : ∀ l : List (Int × Int), (sortP l).Perm l
  | [] => .refl _
  | x :: r => (insP_perm x (sortP r)).trans ((sortP_perm r).cons x)
theorem insP_pw (x : Int × Int) : ∀ l : List (Int × Int), l.Pairwise (fun p q => leP p q = true) → (insP x l).Pairwise (fun p q => leP p q = true)
  | [], _ => List.pairwise_singleton _ _
  | y :: r, h => by
    rw [List.pairwise_cons] at h
    unfold insP
    split
    · rename_i c
      refine List.pairwise_cons.mpr ⟨fun z hz => ?_, List.pairwise_cons.mpr h⟩
      rcases List.mem_cons.mp hz with rfl | hz
      · exact c
      · have := h.1 z hz
        unfold leP at *
        rw [decide_eq_true_eq] at *
        omega
    · rename_i c
      refine List.pairwise_cons.mpr ⟨fun z hz => ?_, insP_pw x r h.2⟩
      rcases List.mem_cons.mp ((insP_perm x r).mem_iff.mp hz) with rfl | hz
      · unfold leP at *
        rw [decide_eq_true_eq] at *
        omega
      · exact h.1 z hz
theorem sortP_pw : ∀ l : List (Int × Int), (sortP l).Pairwise (fun p q => leP p q = true)
  | [] => .nil
  | x :: r => insP_pw x _ (sortP_pw r)
def bdP (p : Int × Int) : Bool := decide (0 ≤ p.1 ∧ p.1 < 4096 ∧ 0 ≤ p.2 ∧ p.2 < 4096)
theorem leP_anti {p q : Int × Int} (hp : bdP p = true) (hq : bdP q = true) (h1 : leP p q = true) (h2 : leP q p = true) : p = q := by
  unfold leP bdP at *
  rw [decide_eq_true_eq] at *
  exact Prod.ext (by omega) (by omega)
theorem sortP_uniq : ∀ {l m : List (Int × Int)}, l.Perm m → (∀ p ∈ l, bdP p = true) → l.Pairwise (fun p q => leP p q = true) → m.Pairwise (fun p q => leP p q = true) → l = m
  | [], m, p, _, _, _ => by rw [p.symm.eq_nil]
  | x :: l, [], p, _, _, _ => absurd p.eq_nil (by simp)
  | x :: l, y :: m, p, hb, h1, h2 => by
    rw [List.pairwise_cons] at h1 h2
    have bx := hb x (List.mem_cons_self ..)
    have by_ := hb y (p.symm.subset (List.mem_cons_self ..))
    have rf : ∀ z : Int × Int, leP z z = true := fun z => by unfold leP; rw [decide_eq_true_eq]; omega
    have e : x = y := by
      refine leP_anti bx by_ ?_ ?_
      · rcases List.mem_cons.mp (p.symm.subset (List.mem_cons_self ..)) with z | z
        · rw [z]; exact rf _
        · exact h1.1 y z
      · rcases List.mem_cons.mp (p.subset (List.mem_cons_self ..)) with z | z
        · rw [z]; exact rf _
        · exact h2.1 x z
    subst e
    rw [sortP_uniq (p.cons_inv) (fun z hz => hb z (List.mem_cons_of_mem _ hz)) h1.2 h2.2]
def sortAD : PyData → Option R
  | .list ds => match intsOf ds with
    | some ns => some (.own (.list ((sortI ns).map PyData.int)))
    | none => match pairsOf ds with
      | some ps => if ps.length < 64 ∧ ps.all bdP = true then some (.own (.list ((sortP ps).map prD))) else none
      | none => none
  | _ => none
@[simp] theorem sortAD_l (ns : List Int) : sortAD (.list (ns.map PyData.int)) = some (.own (.list ((sortI ns).map PyData.int))) := by
  unfold sortAD
  simp only [intsOf_map]
theorem sortAD_p (ps : List (Int × Int)) (h1 : ps.length < 64) (h2 : ∀ p ∈ ps, bdP p = true) : sortAD (.list (ps.map prD)) = some (.own (.list ((sortP ps).map prD))) := by
  unfold sortAD
  cases ps with
  | nil => rfl
  | cons p r =>
    have e : intsOf ((p :: r).map prD) = none := rfl
    simp only [e, pairsOf_map]
    rw [if_pos ⟨h1, List.all_eq_true.mpr h2⟩]
def rSortA (K : PySem.W.Frag) : List V → Hp → VK → Prop := fun vs H Q => rSortedI K vs H Q ∨ rSortU K 2 4096 vs H Q
theorem cr_sortA {X : Cx} : CallR X (.builtin "sorted") (rSortA X.K) := by
  intro pins s σ H vs us Q I r h
  rcases h with h | h
  · exact cr_sortedI pins s σ H vs us Q I r h
  · exact cr_sortT (by decide) pins s σ H vs us Q I r h
theorem dfs_cons {K : PySem.W.Frag} {H : Hp} {F : Reg} {v : V} {vs : List V} {ps : List (Int × Int)} (h : DFs K H F (v :: vs) (ps.map prD)) : ∃ p r, ps = p :: r ∧ DF K H F v (prD p) ∧ DFs K H F vs (r.map prD) := by
  cases ps with
  | nil => cases h
  | cons p r =>
    cases h with
    | cons a b => exact ⟨p, r, rfl, a, b⟩
theorem df_tupI {K : PySem.W.Frag} {H : Hp} {F : Reg} {v : V} {p : Int × Int} (h : DF K H F v (prD p)) : TupI K H v [p.1, p.2] := by
  cases h with
  | tup t s =>
    rename_i xs
    have : xs = [p.1, p.2].map V.int := DFs.ints (ns := [p.1, p.2]) s
    exact ⟨_, rfl, by rw [← this]; exact t⟩
theorem dfs_perm {K : PySem.W.Frag} {H : Hp} {F : Reg} {ys vs : List V} (hp : ys.Perm vs) : ∀ {ps : List (Int × Int)}, DFs K H F vs (ps.map prD) → ∃ qs : List (Int × Int), qs.Perm ps ∧ DFs K H F ys (qs.map prD) := by
  induction hp with
  | nil => intro ps h; exact ⟨ps, .refl _, h⟩
  | cons x _ ih =>
    intro ps h
    obtain ⟨p, r, rfl, a, b⟩ := dfs_cons h
    obtain ⟨qs, h1, h2⟩ := ih b
    exact ⟨p :: qs, h1.cons p, .cons a h2⟩
  | swap x y l =>
    intro ps h
    obtain ⟨p, r, rfl, a, b⟩ := dfs_cons h
    obtain ⟨q, r, rfl, c, d⟩ := dfs_cons b
    exact ⟨q :: p :: r, List.Perm.swap .., .cons c (.cons a d)⟩
  | trans _ _ ih1 ih2 =>
    intro ps h
    obtain ⟨qs, h1, h2⟩ := ih2 h
    obtain ⟨qs', h3, h4⟩ := ih1 h2
    exact ⟨qs', h3.trans h1, h4⟩
theorem dfs_mem {K : PySem.W.Frag} {H : Hp} {F : Reg} : ∀ {vs : List V} {ps : List (Int × Int)}, DFs K H F vs (ps.map prD) → ∀ v ∈ vs, ∃ p ∈ ps, DF K H F v (prD p)
  | [], ps, h, v, hv => by cases hv
  | x :: vs, ps, h, v, hv => by
    obtain ⟨p, r, rfl, a, b⟩ := dfs_cons h
    rcases List.mem_cons.mp hv with rfl | hv
    · exact ⟨p, List.mem_cons_self .., a⟩
    · obtain ⟨q, hq, e⟩ := dfs_mem b v hv
      exact ⟨q, List.mem_cons_of_mem _ hq, e⟩
theorem dfs_mem2 {K : PySem.W.Frag} {H : Hp} {F : Reg} : ∀ {vs : List V} {ps : List (Int × Int)}, DFs K H F vs (ps.map prD) → ∀ p ∈ ps, ∃ v ∈ vs, DF K H F v (prD p)
  | [], ps, h, p, hp => by
    cases ps with
    | nil => cases hp
    | cons q r => cases h
  | x :: vs, ps, h, p, hp => by
    obtain ⟨q, r, rfl, a, b⟩ := dfs_cons h
    rcases List.mem_cons.mp hp with rfl | hp
    · exact ⟨x, List.mem_cons_self .., a⟩
    · obtain ⟨v, hv, e⟩ := dfs_mem2 b p hp
      exact ⟨v, List.mem_cons_of_mem _ hv, e⟩
theorem dfs_pw {K : PySem.W.Frag} {H : Hp} {F : Reg} : ∀ {vs : List V} {ps : List (Int × Int)}, DFs K H F vs (ps.map prD) → vs.Pairwise (fun x y => ∀ n m, TupI K H x n → TupI K H y m → TS.code 4096 n ≤ TS.code 4096 m) → ps.Pairwise (fun p q => leP p q = true)
  | [], ps, h, _ => by
    cases ps with
    | nil => exact .nil
    | cons p r => cases h
  | x :: vs, ps, h, hp => by
    obtain ⟨p, r, rfl, a, b⟩ := dfs_cons h
    rw [List.pairwise_cons] at hp ⊢
    refine ⟨fun q hq => ?_, dfs_pw b hp.2⟩
    obtain ⟨v, hv, e⟩ := dfs_mem2 b q hq
    have := hp.1 v hv _ _ (df_tupI a) (df_tupI e)
    unfold leP
    rw [decide_eq_true_eq]
    simp only [TS.code, List.length_cons, List.length_nil] at this
    omega
theorem does_sortA {T : Tb} : DoesN T (rSortA T.K) (on1 sortAD) := does1_on fun x d z H F Q lv hx hg hq => by
  unfold sortAD at hg
  split at hg
  · rename_i ds
    split at hg
    · rename_i ns e
      cases hg
      obtain ⟨a, vs, rfl, h3, s1⟩ := hx.lst
      rw [intsOf_eq e] at s1
      refine .inl ⟨a, ns, rfl, by rw [← s1.ints]; exact h3.sq, fun ns' p hp hpw hn => ?_⟩
      have e : ns' = sortI ns := sort_uniq (hp.trans (sortI_perm ns).symm) hpw (sortI_pw ns)
      rw [e]
      exact hq _ _ F (.laid hn) (resN_lst hn (fun q => lv p q hn) (DFs.of_ints _))
    · split at hg
      · rename_i ps e
        split at hg
        · rename_i hc
          cases hg
          obtain ⟨a, vs, rfl, h3, s1⟩ := hx.lst
          rw [pairsOf_eq e] at s1
          have hl := s1.length
          rw [List.length_map] at hl
          refine .inr ⟨a, vs, rfl, h3.sq, by omega, fun v hv => ?_, fun ys p hp hpw hn => ?_⟩
          · obtain ⟨q, hq1, hq2⟩ := dfs_mem s1 v hv
            have b := List.all_eq_true.mp hc.2 q hq1
            unfold bdP at b
            rw [decide_eq_true_eq] at b
            refine ⟨_, df_tupI hq2, rfl, fun m hm => ?_⟩
            rcases List.mem_cons.mp hm with rfl | hm
            · omega
            · rw [List.mem_singleton] at hm; omega
          · obtain ⟨qs, h1, h2⟩ := dfs_perm hp s1
            have e2 : qs = sortP ps := sortP_uniq (h1.trans (sortP_perm ps).symm) (fun q hq' => List.all_eq_true.mp hc.2 q (h1.mem_iff.mp hq')) (dfs_pw h2 hpw) (sortP_pw ps)
            rw [e2] at h2
            exact hq _ _ F (.laid hn) (resN_lst hn (fun q => lv p q hn) h2)
        · cases hg
      · cases hg
  · cases hg

section
variable {X : Cx} {T : Tb} {W : WX} {n : Nat} {N : List Str} {sc : Scope} {e d : Expr} {f : AM} {pos p : Pos}
theorem e_sortA (l : At X N sc) (c : Cxt X T W n) (hx : gnB sc "sorted" = true) (hm : X.mg "sorted" = none) (ha : SA X T W [e] f) (he : starEach [e] X.env = (false, eval e X.env) :: starEach [] X.env := by rfl) : SE X T W (.Call (.Name "sorted" p) [e] [] pos) (opnM (on1 sortAD) f) :=
  se_b l hx (c.hK ▸ cr_sortA) does_sortA hm (by decide +kernel) ha he rfl
end
end DL

/-! D39: chains of ==; comprehensions kept in captured names; defs that call themselves. -/
namespace DL
open PySem PySem.Spec PyProof.Rows
open L2 hiding Sp
section
variable {X : Cx} {T : Tb} {W : WX} {n : Nat} {N : List Str} {sc : Scope} {a b d e : Expr} {fa fb fd fe : EM} {pos p : Pos}
theorem e_eqeq (c : Cxt X T W n) (ha : SE X T W a fa) (hb : SE X T W b fb) (hd : SE X T W d fd) (hm : lastMarks [.Eq, .Eq] [b, d] = false := by with_unfolding_all rfl) : SE X T W (.Compare a [.Eq, .Eq] [b, d] pos) (chM dEq dEq fa fb fd) :=
  se_ch (op_eq.or (c.hK ▸ op_eqD c.room.units)) (op_eq.or (c.hK ▸ op_eqD c.room.units)) does_eq does_eq ha hb hd hm
theorem t_eqeq (c : Cxt X T W n) (ha : SE X T W a fa) (hb : SE X T W b fb) (hd : SE X T W d fd) (hm : lastMarks [.Eq, .Eq] [b, d] = false := by with_unfolding_all rfl) : ST X T W (.Compare a [.Eq, .Eq] [b, d] pos) (tsM (chM dEq dEq fa fb fd)) :=
  st_ch (op_eq.or (c.hK ▸ op_eqD c.room.units)) (op_eq.or (c.hK ▸ op_eqD c.room.units)) does_eq does_eq ha hb hd hm
/-- y = [..]: a captured name -/
theorem sw_cel {elt : Expr} {gs : List Comprehension} {scope : Scope} {py : Pos} {y : Str} {l : Nat} (a : At X N sc) (h : (sc.names.lookup y == some .local) = false) :
    swapsWith (.ListComp elt gs scope pos) (some (.Name y py)) l X.env = pure false := by
  have k : (X.env.kindOf y == some .local) = false := by
    show (X.env.scope.names.lookup y == some .local) = false
    rw [a.hs]; exact h
  show (pure (X.env.blockKind == .function && X.env.kindOf y == some .local && py.line == (Expr.ListComp elt gs scope pos).pos.line && !(scope.names.any fun (n, k) => n == y && (k == .local || k == .cell))) : PySem.Sem Bool) = pure false
  rw [k]
  simp
end
/-- nothing is said -/
def noneM : SM := fun _ => none
theorem sb_none {X : Cx} {T : Tb} {W : WX} {φ : Fm} {b : List Stmt} : SB X T W φ b noneM := ⟨fun _ _ _ _ _ _ ⟨_, _, _, _, h⟩ => h.elim⟩
theorem run_none (n m : Nat) (pr : Nat → Bool) : runD n m pr noneM = fun _ => none := by
  funext args
  unfold runD noneM
  split <;> rfl
theorem fn_z {T : Tb} {P : Program} {w : World} {mg : Str → Option Value} {base : Heap} {k n : Nat} {x qual : Str} {st : Stmt} {f : Addr} {fd : FuncData} {N ps : List Str} (G : Fun T.K x qual st f fd) (S : FnScope N ps (defScope st)) (hn : ps.length = n) (hmg : mg x = some (.ref f)) (hb : Binds T.K fd ps [])
    (hw : w = T.w) (hsm : base.get? sysModules ≠ none) : FnE P w mg base T x (k + 1) n (fun _ => none) := by
  rw [← run_none n N.length (fun _ => false)]
  exact fn_e G S hn hmg hb hw hsm fun _ _ _ _ _ _ _ _ _ _ _ => sb_none
end DL

/-! D40: chains of three comparisons. -/
namespace DL
open PySem PySem.Spec PyProof.Rows
open L2 hiding Sp
def tChain3 (r r' r'' : R2) (ta tb tc td : TE) : TE := fun σ H Q => ta σ H fun x H1 => tb σ H1 fun y H2 => r x y H2 fun z H3 => ∃ k, z = .bl k ∧
  (if k = true then tc σ H3 fun w H4 => r' y w H4 fun z' H5 => ∃ k', z' = .bl k' ∧ (if k' = true then td σ H5 fun w' H6 => r'' w w' H6 Q else Q (.bl false) H5) else Q (.bl false) H3)
section
variable {X : Cx} {a b c d : Expr} {ta tb tc td : TE} {pos : Pos}
theorem pe_chain3 {op op' op'' : CmpOp} {r r' r'' : R2} (ho : OpR X (compareOp op) r) (ho' : OpR X (compareOp op') r') (ho'' : OpR X (compareOp op'') r'') (ha : PE X a ta) (hb : PE X b tb) (hc : PE X c tc) (hd : PE X d td)
    (hm : lastMarks [op, op', op''] [b, c, d] = false := by with_unfolding_all rfl) : PE X (.Compare a [op, op', op''] [b, c, d] pos) (tChain3 r r' r'' ta tb tc td) := by
  refine ⟨fun pins s σ H Q I h => ?_⟩
  refine Compare_chain (thn (ha.run pins s σ H _ I h) fun v s1 ⟨x, H1, I1, r1, q1⟩ => chain_link (thn (hb.run pins s1 σ H1 _ I1 q1) fun u s2 ⟨y, H2, I2, r2, q2⟩ =>
    thn (ho pins s2 σ H2 x y v u _ I2 r1 r2 q2) fun d s3 ⟨z, H3, I3, r3, k, e, q3⟩ => ?_)) hm
  subst e
  cases r3
  refine wpAny_truthy_bool ?_
  cases k with
  | false => exact ite_ff ⟨.bl false, H3, I3, rfl, q3⟩
  | true =>
    refine ite_tt (chain_link (thn (hc.run pins s3 σ H3 _ I3 q3) fun w' s4 ⟨z', H4, I4, r4, q4⟩ => thn (ho' pins s4 σ H4 y z' u w' _ I4 r2 r4 q4) fun d' s5 ⟨z2, H5, I5, r5, k2, e2, q5⟩ => ?_))
    subst e2
    cases r5
    refine wpAny_truthy_bool ?_
    cases k2 with
    | false => exact ite_ff ⟨.bl false, H5, I5, rfl, q5⟩
    | true => exact ite_tt (chain_last (thn (hd.run pins s5 σ H5 _ I5 q5) fun w3 s6 ⟨z3, H6, I6, r6, q6⟩ => ho'' pins s6 σ H6 z' z3 w' w3 Q I6 r4 r6 q6))
theorem pt_chain3 {op op' op'' : CmpOp} {r r' r'' : R2} (ho : OpR X (compareOp op) r) (ho' : OpR X (compareOp op') r') (ho'' : OpR X (compareOp op'') r'') (ha : PE X a ta) (hb : PE X b tb) (hc : PE X c tc) (hd : PE X d td)
    (hm : lastMarks [op, op', op''] [b, c, d] = false := by with_unfolding_all rfl) : PT X (.Compare a [op, op', op''] [b, c, d] pos) (tTest (tChain3 r r' r'' ta tb tc td)) := by
  refine ⟨fun pins s σ H Q I h => ?_⟩
  refine isTrue_chain (thn (ha.run pins s σ H _ I h) fun v s1 ⟨x, H1, I1, r1, q1⟩ => test_link (thn (hb.run pins s1 σ H1 _ I1 q1) fun u s2 ⟨y, H2, I2, r2, q2⟩ =>
    thn (ho pins s2 σ H2 x y v u _ I2 r1 r2 q2) fun d s3 ⟨z, H3, I3, r3, k, e, q3⟩ => ?_)) hm
  subst e
  cases r3
  refine wpAny_truthy_bool ?_
  cases k with
  | false =>
    obtain ⟨k', e', q'⟩ := q3
    cases e'
    exact ite_ff ⟨H3, I3, q'⟩
  | true =>
    refine ite_tt (test_link (thn (hc.run pins s3 σ H3 _ I3 q3) fun w' s4 ⟨z', H4, I4, r4, q4⟩ => thn (ho' pins s4 σ H4 y z' u w' _ I4 r2 r4 q4) fun d' s5 ⟨z2, H5, I5, r5, k2, e2, q5⟩ => ?_))
    subst e2
    cases r5
    refine wpAny_truthy_bool ?_
    cases k2 with
    | false =>
      obtain ⟨k', e', q'⟩ := q5
      cases e'
      exact ite_ff ⟨H5, I5, q'⟩
    | true =>
      refine ite_tt (test_last (thn (hd.run pins s5 σ H5 _ I5 q5) fun w3 s6 ⟨z3, H6, I6, r6, q6⟩ => thn (ho'' pins s6 σ H6 z' z3 w' w3 _ I6 r4 r6 q6) fun d3 s7 ⟨z4, H7, I7, r7, k4, e4, q7⟩ => ?_))
      subst e4
      cases r7
      exact wpAny_truthy_bool ⟨H7, I7, q7⟩
end
def ch3M (g g' g'' : PyData → PyData → Option R) (fa fb fc fd : EM) : EM := fun ρ => bindO (fa ρ) fun r ρ1 => bindO (fb ρ1) fun s ρ2 => chR2 g (val ρ2 r) (val ρ2 s) (fun ρ => bindO (fc ρ) fun t ρ3 => chR2 g' (val ρ3 s) (val ρ3 t) (fun ρ => bindO (fd ρ) fun u ρ4 => op2R g'' ρ4 (val ρ4 t) (val ρ4 u)) ρ3) ρ2
@[simp] theorem ch3M_e (g g' g'' : PyData → PyData → Option R) (fa fb fc fd : EM) (ρ : Rho) : ch3M g g' g'' fa fb fc fd ρ = bindO (fa ρ) fun r ρ1 => bindO (fb ρ1) fun s ρ2 => chR2 g (val ρ2 r) (val ρ2 s) (fun ρ => bindO (fc ρ) fun t ρ3 => chR2 g' (val ρ3 s) (val ρ3 t) (fun ρ => bindO (fd ρ) fun u ρ4 => op2R g'' ρ4 (val ρ4 t) (val ρ4 u)) ρ3) ρ2 := eqI rfl
section
variable {X : Cx} {T : Tb} {W : WX} {n : Nat} {a b c d : Expr} {fa fb fc fd : EM} {pos : Pos}
theorem ch3_of {r r' r'' : R2} {g g' g'' : PyData → PyData → Option R} (dr : Does2 T r g) (dr' : Does2 T r' g') (dr'' : Does2 T r'' g'') {σ : L2.St} {H : Hp} {Q : VK} (h : Tof T W (tlE T) (ch3M g g' g'' fa fb fc fd) σ H Q) :
    tChain3 r r' r'' (Tof T W (tlE T) fa) (Tof T W (tlE T) fb) (Tof T W (tlE T) fc) (Tof T W (tlE T) fd) σ H Q := by
  obtain ⟨ρ, F, O, E, P⟩ := h
  refine stp .refl E P fun v H1 ra ρ1 F1 O1 x1 y1 E1 r1 P1 => ?_
  refine stp y1 E1 P1 fun u H2 rb ρ2 F2 O2 x2 y2 E2 r2 P2 => ?_
  have r1' := ResR.mono E1 x2 r1
  cases q1 : val ρ2 ra with
  | none => rw [q1] at P2; exact P2.elim
  | some d =>
    cases q2 : val ρ2 rb with
    | none => rw [q1, q2] at P2; exact P2.elim
    | some e =>
      rw [q1, q2, chR2_e] at P2
      unfold chR at P2
      split at P2
      · rename_i q3
        refine dr v u d e _ H2 F2 _ E2.lv (val_vw E2 r1' q1) (val_vw E2 r2 q2) q3 fun w H3 F3 g3 n3 => ⟨true, bl_of n3, ?_⟩
        rw [if_pos rfl]
        have y3 := y2.trans (g3.ext (s := false) (O := O2))
        have E3 := E2.gr g3
        have r3 : ResR T H1 H3 F3 O2 σ u rb := ResR.mono E2 (g3.ext (s := false)) r2
        refine stp y3 E3 P2 fun w4 H4 rc ρ4 F4 O4 x4 y4 E4 r4 P4 => ?_
        have r5 : ResR T H1 H4 F4 O4 σ u rb := ResR.mono E3 x4 r3
        cases q4 : val ρ4 rb with
        | none => rw [q4] at P4; exact P4.elim
        | some e' =>
          cases q5 : val ρ4 rc with
          | none => rw [q4, q5] at P4; exact P4.elim
          | some z =>
            rw [q4, q5, chR2_e] at P4
            unfold chR at P4
            split at P4
            · rename_i q6
              refine dr' u w4 e' z _ H4 F4 _ E4.lv (val_vw E4 r5 q4) (val_vw E4 r4 q5) q6 fun w H5 F5 g5 n5 => ⟨true, bl_of n5, ?_⟩
              rw [if_pos rfl]
              have y5 := y4.trans (g5.ext (s := false) (O := O4))
              have E5 := E4.gr g5
              have r6 : ResR T H3 H5 F5 O4 σ w4 rc := ResR.mono E4 (g5.ext (s := false)) r4
              refine stp y5 E5 P4 fun w6 H6 rd ρ6 F6 O6 x6 y6 E6 r7 P6 => ?_
              have r8 : ResR T H3 H6 F6 O6 σ w4 rc := ResR.mono E5 x6 r6
              cases q7 : val ρ6 rc with
              | none => rw [q7] at P6; exact P6.elim
              | some z' =>
                cases q8 : val ρ6 rd with
                | none => rw [q7, q8] at P6; exact P6.elim
                | some y =>
                  rw [q7, q8, op2R_e] at P6
                  cases q9 : g'' z' y with
                  | none => rw [q9] at P6; exact P6.elim
                  | some o =>
                    rw [q9] at P6
                    exact dr'' w4 w6 z' y o H6 F6 Q E6.lv (val_vw E6 r8 q7) (val_vw E6 r7 q8) q9 fun w H7 F7 g7 n7 => fin_op y6 E6 P6 g7 n7
            · rename_i q6
              refine dr' u w4 e' z _ H4 F4 _ E4.lv (val_vw E4 r5 q4) (val_vw E4 r4 q5) q6 fun w H5 F5 g5 n5 => ⟨false, bl_of n5, ?_⟩
              rw [if_neg Bool.false_ne_true]
              exact P4 _ H5 F5 O4 (y4.trans g5.ext) (E4.gr g5) (.bl _)
            · exact P4.elim
      · rename_i q3
        refine dr v u d e _ H2 F2 _ E2.lv (val_vw E2 r1' q1) (val_vw E2 r2 q2) q3 fun w H3 F3 g3 n3 => ⟨false, bl_of n3, ?_⟩
        rw [if_neg Bool.false_ne_true]
        exact P2 _ H3 F3 O2 (y2.trans g3.ext) (E2.gr g3) (.bl _)
      · exact P2.elim
theorem e_ch3 {op op' op'' : CmpOp} {g g' g'' : PyData → PyData → Option R} (o : Ord op g) (o' : Ord op' g') (o'' : Ord op'' g'') (ha : SE X T W a fa) (hb : SE X T W b fb) (hc : SE X T W c fc) (hd : SE X T W d fd) (hm : lastMarks [op, op', op''] [b, c, d] = false := by with_unfolding_all rfl) : SE X T W (.Compare a [op, op', op''] [b, c, d] pos) (ch3M g g' g'' fa fb fc fd) := by
  obtain ⟨r, h1, h2⟩ := o.ok (X := X) (T := T)
  obtain ⟨r', h3, h4⟩ := o'.ok (X := X) (T := T)
  obtain ⟨r'', h5, h6⟩ := o''.ok (X := X) (T := T)
  exact pe_imp (pe_chain3 h1 h3 h5 ha hb hc hd hm) fun _ _ _ h => ch3_of h2 h4 h6 h
theorem t_ch3 {op op' op'' : CmpOp} {g g' g'' : PyData → PyData → Option R} (o : Ord op g) (o' : Ord op' g') (o'' : Ord op'' g'') (ha : SE X T W a fa) (hb : SE X T W b fb) (hc : SE X T W c fc) (hd : SE X T W d fd) (hm : lastMarks [op, op', op''] [b, c, d] = false := by with_unfolding_all rfl) : ST X T W (.Compare a [op, op', op''] [b, c, d] pos) (tsM (ch3M g g' g'' fa fb fc fd)) := by
  obtain ⟨r, h1, h2⟩ := o.ok (X := X) (T := T)
  obtain ⟨r', h3, h4⟩ := o'.ok (X := X) (T := T)
  obtain ⟨r'', h5, h6⟩ := o''.ok (X := X) (T := T)
  exact pt_imp (pt_chain3 h1 h3 h5 ha hb hc hd hm) fun _ _ _ h => ch3_of h2 h4 h6 (ts_of h)
end
end DL

/-! D41: x == [] and x == (), whatever x holds. -/
namespace DL
open PySem PySem.Spec PyProof.Rows
open L2 hiding Sp
def rEqE (K : PySem.W.Frag) : R2 := fun x y H Q => (∃ a b xs, x = .ref a ∧ y = .ref b ∧ SqL K H a xs ∧ SqL K H b [] ∧ Q (.bl xs.isEmpty) H) ∨ ∃ a b xs, x = .ref a ∧ y = .ref b ∧ SqT K H a xs ∧ SqT K H b [] ∧ Q (.bl xs.isEmpty) H
theorem vals_nil {us : List Value} (h : Vals [] us) : us = [] := by cases h; rfl
theorem tup_of {h : Heap} {t : Addr} {items : Array Value} (x : IsTup h t items) : h.IsTuple t items := x
theorem op_eqE {X : Cx} (hu : X.A.units < cLine) : OpR X (compareOp .Eq) (rEqE X.K) := by
  intro pins s σ H x y v u Q I rx ry h
  rcases h with ⟨a, b, xs, rfl, rfl, h1, h2, q⟩ | ⟨a, b, xs, rfl, rfl, h1, h2, q⟩
  · cases rx
    cases ry
    obtain ⟨its, r1, p1, _⟩ := I.list h1
    obtain ⟨its2, r2, p2, _⟩ := I.list h2
    rw [vals_nil r2] at p2
    have e : xs.isEmpty = its.isEmpty := by cases r1 <;> rfl
    cases its with
    | nil => exact PySem.SeqAt.eq_listAt (e := fun _ => true) p1.isList p2.isList rfl hu (fun j h _ => absurd h (Nat.not_lt_zero _)) (fin_bl I q (by rw [e]; rfl))
    | cons z r => exact PySem.SeqAt.eq_list_lengthsAt p1.isList p2.isList (by simp) hu (fin_bl I q (by rw [e]; rfl))
  · cases rx
    cases ry
    obtain ⟨its, r1, p1, _⟩ := I.tuple h1
    obtain ⟨its2, r2, p2, _⟩ := I.tuple h2
    rw [vals_nil r2] at p2
    have e : xs.isEmpty = its.isEmpty := by cases r1 <;> rfl
    refine PySem.SeqAt.eq_tupleAt (e := fun _ => true) (items2 := #[]) (tup_of p1) (tup_of p2) hu (fun j _ h => absurd h (Nat.not_lt_zero _)) (fin_bl I q ?_)
    rw [e]
    cases its <;> simp
def dEqE : PyData → PyData → Option R
  | .list ds, .list [] => some (.dat (.bool ds.isEmpty))
  | .tuple ds, .tuple [] => some (.dat (.bool ds.isEmpty))
  | d, e => dEq d e
@[simp] theorem dEqE_l (ds : List PyData) : dEqE (.list ds) (.list []) = some (.dat (.bool ds.isEmpty)) := eqI rfl
@[simp] theorem dEqE_t (ds : List PyData) : dEqE (.tuple ds) (.tuple []) = some (.dat (.bool ds.isEmpty)) := eqI rfl
theorem dfs_emp {K : PySem.W.Frag} {H : Hp} {F : Reg} {vs : List V} {ds : List PyData} (h : DFs K H F vs ds) : vs.isEmpty = ds.isEmpty := by cases h <;> rfl
theorem dfs_nil {K : PySem.W.Frag} {H : Hp} {F : Reg} {vs : List V} (h : DFs K H F vs []) : vs = [] := by cases h; rfl
theorem does_eqE {X : Cx} {T : Tb} (hu : X.A.units + 64 < cLine) : Does2 T (fun x y H Q => rEqE T.K x y H Q ∨ (rEq x y H Q ∨ rEqD T.K x y H Q)) dEqE := by
  intro x y d e z H F Q lv hx hy hg hq
  unfold dEqE at hg
  split at hg
  · rename_i ds
    cases hg
    obtain ⟨a, vs, rfl, h1, s1⟩ := hx.lst
    obtain ⟨b, us, rfl, h2, s2⟩ := hy.lst
    rw [dfs_nil s2] at h2
    exact .inl (.inl ⟨a, b, vs, rfl, rfl, h1.sq, h2.sq, by rw [dfs_emp s1]; exact hq _ H F .refl (.bl _)⟩)
  · rename_i ds
    cases hg
    obtain ⟨a, vs, rfl, h1, s1⟩ := hx.tup
    obtain ⟨b, us, rfl, h2, s2⟩ := hy.tup
    rw [dfs_nil s2] at h2
    exact .inl (.inr ⟨a, b, vs, rfl, rfl, h1, h2, by rw [dfs_emp s1]; exact hq _ H F .refl (.bl _)⟩)
  · exact .inr (does_eq x y _ _ z H F Q lv hx hy hg hq)
section
variable {X : Cx} {T : Tb} {W : WX} {n : Nat} {a b : Expr} {fa fb : EM} {pos : Pos}
theorem ops_eqE (c : Cxt X T W n) : OpR X (compareOp .Eq) (fun x y H Q => rEqE T.K x y H Q ∨ (rEq x y H Q ∨ rEqD T.K x y H Q)) := (c.hK ▸ op_eqE (X := X) (by have := c.room.units; omega)).or (op_eq.or (c.hK ▸ op_eqD c.room.units))
theorem e_eqE (c : Cxt X T W n) (ha : SE X T W a fa) (hb : SE X T W b fb) : SE X T W (.Compare a [.Eq] [b] pos) (op2M dEqE fa fb) := se_cmp (ops_eqE c) (does_eqE (X := X) c.room.units) ha hb (nomark _)
theorem t_eqE (c : Cxt X T W n) (ha : SE X T W a fa) (hb : SE X T W b fb) : ST X T W (.Compare a [.Eq] [b] pos) (tsM (op2M dEqE fa fb)) := st_cmp (ops_eqE c) (does_eqE (X := X) c.room.units) ha hb (nomark _)
end
end DL

/-! D42: list(range(n)). -/
namespace DL
open PySem PySem.Spec PyProof.Rows
open L2 hiding Sp
def lrR (r : R) (ρ : Rho) : Option (Oe R) := match r with
  | .dat (.int n) => if 0 ≤ n ∧ n ≤ 1000 then some (.ok (.own (.list (rngL 0 n.toNat))) ρ) else none
  | _ => none
def lrM (f : EM) : EM := fun ρ => bindO (f ρ) lrR
@[simp] theorem lrM_e (f : EM) (ρ : Rho) : lrM f ρ = bindO (f ρ) lrR := eqI rfl
theorem lrR_is {n : Int} (ρ : Rho) (h0 : 0 ≤ n) (h1 : n ≤ 1000) : lrR (.dat (.int n)) ρ = some (.ok (.own (.list (rngL 0 n.toNat))) ρ) := if_pos ⟨h0, h1⟩
theorem dfs_rg {K : PySem.W.Frag} {H : Hp} {F : Reg} (f : Nat → Int) : ∀ l : List Nat, DFs K H F (l.map fun i => V.int (f i)) (l.map fun i => PyData.int (f i))
  | [] => .nil
  | _ :: r => .cons (.int _) (dfs_rg f r)
section
variable {X : Cx} {T : Tb} {W : WX} {n : Nat} {a : Expr} {fa : EM} {p p2 pos pos2 : Pos} {N : List Str} {sc : Scope}
theorem se_lrng {ex : Expr} (h : PE X ex (tLstRg (tRg1 (Tof T W (tlE T) fa)))) : SE X T W ex (lrM fa) := by
  refine pe_imp h fun σ H Q ⟨ρ, F, O, E, P⟩ => ?_
  refine stp .refl E P fun v H1 r ρ1 F1 O1 x1 y1 E1 r1 P1 => ?_
  unfold lrR at P1
  split at P1
  · rename_i j
    split at P1
    · rename_i hz
      refine ⟨j, by rw [int_of r1], .of_le (by decide) (by omega) (by decide) hz.1, fun q hq => ?_⟩
      refine fin_op y1 E1 P1 (.laid hq) (resN_lst hq (fun z => E1.lv q z hq) ?_)
      have := dfs_rg (K := T.K) (H := H1) (F := F1) (fun i => 0 + (i : Int)) (List.range (j - 0).toNat)
      rw [Int.sub_zero] at this
      unfold rgV rngL
      rw [Int.sub_zero]
      exact this
    · exact P1.elim
  · exact P1.elim
theorem e_lrng (l : At X N sc) (c : Cxt X T W n) (hx : gnB sc "list" = true) (hm : X.mg "list" = none) (hx2 : gnB sc "range" = true) (hm2 : X.mg "range" = none) (ha : SE X T W a fa) (na : starEach [a] X.env = (false, eval a X.env) :: starEach [] X.env := by rfl) : SE X T W (.Call (.Name "list" p) [.Call (.Name "range" p2) [a] [] pos2] [] pos) (lrM fa) :=
  se_lrng (pe_listRg c.calm (l.gl hx).1 hm (prg_1 (l.gl hx2).1 hm2 ha na))
end
end DL

/-! D43: try .. except X as e; what runs while an exception is held. -/
namespace DL
open PySem PyProof.Rows
open L2 hiding Sp

/-- the same text, while an exception is held -/
def Tb.at (T : Tb) (a : Addr) (c : Nat) (d : Option Addr) : Tb := { T with hot := some (a, c, d) }
/-- nothing is held any more -/
def coolR : Option R → Option R
  | some (.ex _ _) => none
  | x => x
def cool (i : Nat) (ρ : Rho) : Rho := (ρ.set i none).map coolR
def isEx : R → Bool
  | .ex _ _ => true
  | _ => false
@[simp] theorem coolR_d (d : PyData) : coolR (some (.dat d)) = some (.dat d) := eqI rfl
@[simp] theorem coolR_o (d : PyData) : coolR (some (.own d)) = some (.own d) := eqI rfl
@[simp] theorem coolR_x (c : Nat) (fs : List PyData) : coolR (some (.ex c fs)) = none := eqI rfl
@[simp] theorem coolR_n : coolR none = none := eqI rfl
@[simp] theorem coolR_f (k : Nat) : coolR (some (.fn k)) = some (.fn k) := eqI rfl
@[simp] theorem coolR_t (xs : List Int) : coolR (some (.st xs)) = some (.st xs) := eqI rfl

section
variable {T : Tb} {H : Hp} {F : Reg} {O : Ows} {σ : L2.St} {ρ : Rho} {a : Addr} {c : Nat} {d : Option Addr}
theorem SlotR.warm {oa : Option Addr} {v : V} (h : T.hot = none) : ∀ {r : R}, SlotR T H F oa v r → SlotR (T.at a c d) H F oa v r
  | .dat _, q => q
  | .own _, q => q
  | .fn _, q => q
  | .st _, q => q
  | .ex _ _, ⟨_, _, _, _, e, _⟩ => by rw [h] at e; cases e
theorem EnvR.warm (h : T.hot = none) (E : EnvR T H F O σ ρ) : EnvR (T.at a c d) H F O σ ρ :=
  ⟨E.len, fun i r e => let ⟨v, h1, h2⟩ := E.at_ i r e; ⟨v, h1, h2.warm h⟩, E.own, E.inj, E.nf, E.lv, E.tb⟩
theorem SlotR.cool {oa : Option Addr} {v : V} : ∀ {r : R}, isEx r = false → SlotR (T.at a c d) H F oa v r → SlotR T H F oa v r
  | .dat _, _, q => q
  | .own _, _, q => q
  | .fn _, _, q => q
  | .st _, _, q => q
theorem ResR.cool {H0 : Hp} {v : V} {σ : L2.St} : ∀ {r : R}, isEx r = false → ResR (T.at a c d) H0 H F O σ v r → ResR T H0 H F O σ v r
  | .dat _, _, q => q
  | .own _, _, q => q
  | .fn _, _, q => q
  | .st _, _, q => q
  | .slt _, _, q => q
  | .two _ _, _, q => q
theorem cool_get {i j : Nat} {r : R} (h : (cool i ρ)[j]? = some (some r)) : j ≠ i ∧ ρ[j]? = some (some r) ∧ isEx r = false := by
  unfold DL.cool at h
  rw [List.getElem?_map] at h
  by_cases e : j = i
  · subst e
    by_cases hl : j < ρ.length
    · rw [List.getElem?_set_self hl] at h; cases h
    · rw [List.getElem?_eq_none (by simpa using hl)] at h; cases h
  · rw [List.getElem?_set_ne (Ne.symm e)] at h
    cases q : ρ[j]? with
    | none => rw [q] at h; cases h
    | some o =>
      rw [q] at h
      cases o with
      | none => cases h
      | some r' => cases r' <;> first | (cases h; exact ⟨e, rfl, rfl⟩) | cases h
theorem cool_put {i j : Nat} {r : R} (e : j ≠ i) (h : ρ[j]? = some (some r)) (n : isEx r = false) : (cool i ρ)[j]? = some (some r) := by
  unfold DL.cool
  rw [List.getElem?_map, List.getElem?_set_ne (Ne.symm e), h]
  cases r <;> first | rfl | cases n
/-- behind the suite -/
theorem EnvR.cooled (E : EnvR (T.at a c d) H F O σ ρ) (i : Nat) {σ' : L2.St} (hl : σ'.length = σ.length) (hσ : ∀ j, j ≠ i → σ'[j]? = σ[j]?) : EnvR T H F (fun j => if j = i then none else O j) σ' (cool i ρ) := by
  have sb : ∀ j b, (if j = i then none else O j) = some b → O j = some b ∧ j ≠ i := fun j b q => by
    by_cases hj : j = i
    · rw [if_pos hj] at q; cases q
    · rw [if_neg hj] at q; exact ⟨q, hj⟩
  refine ⟨by unfold DL.cool; rw [List.length_map, List.length_set, E.len, hl], fun j r e => ?_, fun j b e => ?_, fun j k b e1 e2 => E.inj j k b (sb j b e1).1 (sb k b e2).1, fun j b e => E.nf j b (sb j b e).1, E.lv, E.tb⟩
  · obtain ⟨h1, h2, h3⟩ := cool_get e
    obtain ⟨v, h4, h5⟩ := E.at_ j r h2
    exact ⟨v, by rw [hσ j h1]; exact h4, by rw [if_neg h1]; exact h5.cool h3⟩
  · obtain ⟨h1, h2⟩ := sb j b e
    obtain ⟨r, h3⟩ := E.own j b h1
    obtain ⟨v, _, s⟩ := E.at_ j r h3
    refine ⟨r, cool_put h2 h3 ?_⟩
    cases r with
    | ex c fs => obtain ⟨z, _⟩ := s; rw [h1] at z; cases z
    | _ => rfl
end

/-- what a suite's end is behind it -/
def coolS (i : Nat) : Option Ot → Option Ot
  | some (.nx ρ) => some (.nx (cool i ρ))
  | some (.bk ρ) => some (.bk (cool i ρ))
  | some (.ct ρ) => some (.ct (cool i ρ))
  | some (.rt r ρ) => if isEx r = true then none else some (.rt r (cool i ρ))
  | _ => none
/-- try: fb, except X as slot i: fh; mt: which classes X takes -/
def tryR (mt : Nat → Option Bool) (i : Nat) (fh : SM) : Option Ot → Option Ot
  | some (.er c fs ρ1) => match mt c with
    | some true => coolS i (fh (ρ1.set i (some (.ex c fs))))
    | some false => some (.er c fs ρ1)
    | none => none
  | o => o
def tryM (mt : Nat → Option Bool) (i : Nat) (fb fh : SM) : SM := fun ρ => tryR mt i fh (fb ρ)
@[simp] theorem tryM_e (mt : Nat → Option Bool) (i : Nat) (fb fh : SM) (ρ : Rho) : tryM mt i fb fh ρ = tryR mt i fh (fb ρ) := eqI rfl
@[simp] theorem tryR_nx (mt : Nat → Option Bool) (i : Nat) (fh : SM) (ρ : Rho) : tryR mt i fh (some (.nx ρ)) = some (.nx ρ) := eqI rfl
@[simp] theorem tryR_rt (mt : Nat → Option Bool) (i : Nat) (fh : SM) (r : R) (ρ : Rho) : tryR mt i fh (some (.rt r ρ)) = some (.rt r ρ) := eqI rfl
theorem tryR_er {mt : Nat → Option Bool} {c : Nat} (h : mt c = some true) (i : Nat) (fh : SM) (fs : List PyData) (ρ : Rho) : tryR mt i fh (some (.er c fs ρ)) = coolS i (fh (ρ.set i (some (.ex c fs)))) := by
  show (match mt c with | some true => _ | some false => _ | none => _) = _
  rw [h]
@[simp] theorem coolS_nx (i : Nat) (ρ : Rho) : coolS i (some (.nx ρ)) = some (.nx (cool i ρ)) := eqI rfl
theorem coolS_rt {i : Nat} {r : R} (h : isEx r = false) (ρ : Rho) : coolS i (some (.rt r ρ)) = some (.rt r (cool i ρ)) := by
  show (if isEx r = true then _ else _) = _
  rw [h, if_neg Bool.false_ne_true]
@[simp] theorem coolS_rd (i : Nat) (d : PyData) (ρ : Rho) : coolS i (some (.rt (.dat d) ρ)) = some (.rt (.dat d) (cool i ρ)) := coolS_rt rfl ρ

/-- the facts of the place where a piece runs while an exception is held -/
structure CxH (X : Cx) (T : Tb) (n : Nat) : Prop where
  hK : X.K = T.K
  hw : X.w = T.w
  gd : X.A.guards = some []
  room : L2H.RoomH n X.A
  nd : X.N.Nodup
  sm : X.base.get? sysModules ≠ none
  pin : ∃ a oe c d, T.hot = some (a, c, d) ∧ (a, oe) ∈ X.pn ∧ Zc (.ref (T.ca c)) d oe ∧ ∃ vs, oe.data = .fields vs
/-- the frame's own facts -/
structure Fr (X : Cx) (qual : Str) (cd : Value) : Prop where
  stk : X.stack = X.env :: X.outer
  frm : X.env.frame = some X.env.locals
  ql : X.env.qual = qual ++ ".<locals>."
  cd : X.env.code = cd

section
variable {X : Cx} {T : Tb} {W : WX} {φ : Fm} {n i : Nat} {x nm : Str} {cS : Value} {body suite : List Stmt} {b₀ : Stmt} {np pos pos' : Pos} {mt : Nat → Option Bool} {fb fh : SM}
theorem ss_try {q : Str} {cd : Value} (cx : Cxt X T W n) (fr : Fr X q cd) (hh : T.hot = none) (hi : X.N[i]? = some nm) (hln : X.env.kindOf nm = some .local) (hc : Names X x cS) (hp : φ.pr i = false) (hm : ∀ c b, mt c = some b → PySem.W.exmOne T.K (.ref (T.ca c)) cS = some b)
    (hb : ∀ (W : WX) (pn : List (Addr × Obj)) (xe : Value → Shared → Prop), Cxt (X.tr pn xe) T W n → SB (X.tr pn xe) T W φ body fb)
    (hsu : ∀ (a : Addr) (oe : Obj) (c : Nat) (d : Option Addr) (pn : List (Addr × Obj)), CxH (X.suite a ((a, oe) :: pn)) (T.at a c d) n → SB (X.suite a ((a, oe) :: pn)) (T.at a c d) W0 φ (b₀ :: suite) fh) :
    SS X T W φ (.Try body [.ExceptHandler (some (.Name x np)) (some nm) (b₀ :: suite) pos'] [] [] pos) (tryM mt i fb fh) := by
  refine ps_impL (ps_try_as (tb := fun W => TSof T W φ fb) (ts := fun a cls d D σ H => ∃ c, cls = .ref (T.ca c) ∧ TSof (T.at a c d) W0 φ fh D σ H) fr.stk fr.frm cx.nd hi hln hc cx.tk
    (fun W' pn xe tk po => hb W' pn xe ⟨cx.hK, cx.hw, cx.calm, cx.room, cx.gd, tk, po, cx.nd, cx.sm⟩)
    (fun a oe cls d pn hz hf => ⟨fun pins s σ H D I h => by
      obtain ⟨c, rfl, h2⟩ := h
      exact (hsu a oe c d pn ⟨cx.hK, cx.hw, cx.gd, ⟨cx.room.dp, cx.room.un⟩, cx.nd, cx.sm, a, oe, c, d, rfl, List.mem_cons_self, hz, hf⟩).run pins s σ H D I h2⟩)) fun D σ H hl h => ?_
  obtain ⟨ρ, F, O, S, P⟩ := h
  refine ⟨ρ, F, O, S, ?_⟩
  unfold tryM at P
  cases q : fb ρ with
  | none => rw [q] at P; exact P
  | some o =>
    rw [q] at P
    cases o with
    | nx ρ1 => exact P
    | rt r ρ1 => exact P
    | bk ρ1 => exact P
    | ct ρ1 => exact P
    | er c fs ρ1 =>
      intro cls d σ1 H1 F1 O1 x1 S1 k1 ex
      have ecls : cls = .ref (T.ca c) := ex.1
      subst ecls
      have P' : PostS T W φ σ H F O D (match mt c with
        | some true => coolS i (fh (ρ1.set i (some (.ex c fs))))
        | some false => some (.er c fs ρ1)
        | none => none) := P
      cases q2 : mt c with
      | none => rw [q2] at P'; exact P'.elim
      | some b =>
        rw [q2] at P'
        refine ⟨b, by rw [cx.hK]; exact hm c b q2, fun hb1 a ha => ?_, fun hb1 => ?_⟩
        · subst hb1
          dsimp only at P'
          have hi1 : i < σ1.length := by rw [k1.1, hl]; exact lt_of_at hi
          refine ⟨c, rfl, ρ1.set i (some (.ex c fs)), F1, fun j => if j = i then none else O1 j, ⟨(S1.E.warm hh).put hi1 (oa := none) ⟨rfl, a, d, rfl, rfl, ex⟩ (fun _ z => nomatch z) (fun _ z => nomatch z), S1.lb, fun j b hj z => ?_⟩, ?_⟩
          · by_cases e : j = i
            · rw [if_pos e] at z; cases z
            · rw [if_neg e] at z; exact S1.lf j b hj z
          have ow : ∀ (O' : Ows) (j : Nat) (b : Addr), (if j = i then none else O' j) = some b → O' j = some b := fun O' j b z => by
            by_cases e : j = i
            · rw [if_pos e] at z; cases z
            · rw [if_neg e] at z; exact z
          have xx : ∀ {H3 : Hp} {F3 : Reg} {O3 : Ows}, Ext true H1 F1 (fun j => if j = i then none else O1 j) H3 F3 O3 → Ext true H1 F1 O1 H3 F3 (fun j => if j = i then none else O3 j) := fun {H3 F3 O3} x3 =>
            ⟨fun b o h1 h2 h3 => x3.keep b o h1 (fun j z => h2 j (ow O1 j b z)) h3, x3.live, x3.grow, fun b h1 => (x3.new b h1).elim .inl fun z => z.elim (fun ⟨j, y⟩ => .inr (.inl ⟨j, ow O1 j b y⟩)) fun y => .inr (.inr y),
              fun j b h1 => (x3.own j b (ow O3 j b h1)).elim (fun z => .inl (ow O1 j b z)) fun ⟨z, y⟩ => .inr ⟨z, y.elim (fun ⟨k, y⟩ => .inl ⟨k, ow O1 k b y⟩) .inr⟩⟩
          have ss : ∀ {H3 : Hp} {F3 : Reg} {O3 : Ows} {σ3 σ4 : L2.St} {ρ3 : Rho}, StR (T.at a c d) φ H3 F3 O3 σ3 ρ3 → σ4.length = σ3.length → (∀ j, j ≠ i → σ4[j]? = σ3[j]?) → StR T φ H3 F3 (fun j => if j = i then none else O3 j) σ4 (cool i ρ3) := fun {H3 F3 O3 σ3 σ4 ρ3} S3 hl3 h3 =>
            ⟨S3.E.cooled i hl3 h3, S3.lb, fun j b hj z => S3.lf j b hj (ow O3 j b z)⟩
          have kk : ∀ {σ3 : L2.St}, Keeps φ.pr (σ1.set i (some (.ref a))) σ3 → Keeps φ.pr σ σ3 := fun {σ3} k3 => k1.trans ((Keeps.set hp).trans k3)
          cases q3 : fh (ρ1.set i (some (.ex c fs))) with
          | none => rw [q3] at P'; exact P'.elim
          | some o =>
            rw [q3] at P'
            cases o with
            | nx ρ3 => exact fun σ3 H3 F3 O3 x3 S3 k3 => P' (σ3.set i none) H3 F3 _ (x1.trans (xx x3)) (ss S3 List.length_set fun j hj => List.getElem?_set_ne (Ne.symm hj)) ((kk k3).trans (Keeps.set hp))
            | bk ρ3 => exact fun σ3 H3 F3 O3 x3 S3 k3 => P' (σ3.set i none) H3 F3 _ (x1.trans (xx x3)) (ss S3 List.length_set fun j hj => List.getElem?_set_ne (Ne.symm hj)) ((kk k3).trans (Keeps.set hp))
            | ct ρ3 => exact fun σ3 H3 F3 O3 x3 S3 k3 => P' (σ3.set i none) H3 F3 _ (x1.trans (xx x3)) (ss S3 List.length_set fun j hj => List.getElem?_set_ne (Ne.symm hj)) ((kk k3).trans (Keeps.set hp))
            | er c' fs' ρ3 => exact P'.elim
            | rt r ρ3 =>
              intro v σ3 H3 F3 O3 x3 S3 k3 r3
              have P2 : PostS T W φ σ H F O D (if isEx r = true then none else some (.rt r (cool i ρ3))) := P'
              by_cases hr : isEx r = true
              · rw [if_pos hr] at P2; exact P2.elim
              · rw [if_neg hr] at P2
                have hr' : isEx r = false := by simpa using hr
                exact P2 v σ3 H3 F3 _ (x1.trans (xx x3)) (ss S3 rfl fun _ _ => rfl) (kk k3) ((r3.cool hr').sub fun j b z => ow O3 j b z)
        · subst hb1
          exact P' _ d σ1 H1 F1 O1 x1 S1 k1 ex
end
end DL

/-! D44: defs called while an exception is held; isinstance of it; list.count, list.index of truth values. -/
namespace DL
open PySem PyProof.Rows
open L2 hiding Sp

/-- a def's promise while the exception at a is held -/
structure FnP (P : Program) (w : World) (K : PySem.W.Frag) (mg : Str → Option Value) (base : Heap) (k : Nat) (f : Addr) (fd : FuncData) (ps : List Str) (sp : L2.Sp) (a : Addr) (Z : Obj → Prop) : Prop where
  len : ∀ vs H Q E, sp vs H Q E → vs.length = ps.length
  run : ∀ (A : Around) (outer : List Env) (s : Shared) (H : Hp) (args : Args) (us : List Value) (vs : List V) (Q : VK) (E : XK) (oe : Obj), A.guards = some [] → L2H.RoomH k A → L2H.PinOk outer H s (a, oe) → Z oe → (∃ us, oe.data = .fields us) → Env0 P w K mg base A outer s H → BindsTo s fd args (ps.zip us) →
    Vals vs us → sp vs H Q E → codeAny (model P w) A (.call (.ref f) args) (CR (L2.CX P w) outer P w H s Q E) s
/-- a def of the text that is called there -/
structure FnX (P : Program) (w : World) (mg : Str → Option Value) (base : Heap) (T : Tb) (x : Str) (k n : Nat) (sem : Sem) : Prop where
  ex : ∃ f fd ps, mg x = some (.ref f) ∧ PySem.W.keepIn T.K (.ref f) = true ∧ Binds T.K fd ps [] ∧ ps.length = n ∧ ∀ a c d, FnP P w T.K mg base k f fd ps (spOf (T.at a c d) n sem) a (Zc (.ref (T.ca c)) d)

theorem fn_x {T : Tb} {P : Program} {w : World} {mg : Str → Option Value} {base : Heap} {k n : Nat} {x qual : Str} {st : Stmt} {f : Addr} {fd : FuncData} {N ps : List Str} {pr : Nat → Bool} {m : SM} (G : Fun T.K x qual st f fd) (S : FnScope N ps (defScope st)) (hn : ps.length = n) (hmg : mg x = some (.ref f)) (hb : Binds T.K fd ps [])
    (hw : w = T.w) (hsm : base.get? sysModules ≠ none)
    (body : ∀ (X : Cx) (W : WX) (H : Hp) (a : Addr) (c : Nat) (d : Option Addr), X.prog = P → X.w = w → X.mg = mg → X.base = base → At X N (defScope st) → X.env.scope.kind = .function → (∀ x, X.fn x = true) → CxH X (T.at a c d) k → SB X (T.at a c d) W ⟨H, n, pr⟩ (defBody st) m) :
    FnX P w mg base T x (k + 1) n (runD n N.length pr m) := by
  have hN : n ≤ N.length := by
    have h := congrArg List.length S.pre
    rw [List.length_take] at h
    omega
  refine ⟨f, fd, ps, hmg, G.kp, hb, hn, fun a c d => ⟨fun vs H Q E ⟨_, _, _, hl, _⟩ => hl.trans hn.symm, ?_⟩⟩
  obtain ⟨oc, od, kV, doc, pm, an, cdv, ct, osl, rfl, lk, hcd⟩ := G.ex
  intro A outer s H args us vs Q E oe hg hr pin hz hf e0 hbd r hsp
  have hl : vs.length = ps.length := by obtain ⟨_, _, _, q, _⟩ := hsp; exact q.trans hn.symm
  have kin : T.K.In s.heap := e0.mod.kin.keeps fun b o e => (e0.bs b o e).1
  have nolim : s.heap.NoLimit := e0.mod.nolimit.keeps fun b o e => (e0.bs b o e).1
  have kinds : ∀ y ∈ ps.zip us, (defScope st).names.lookup y.1 = some .local ∨ ((defScope st).names.lookup y.1 = some .cell ∧ ((cellsFrom (s.heap.objs.size + 1) (defScope st).names []).lookup y.1).isSome = true) := by
    rintro ⟨y, v⟩ hy
    exact (S.par y (List.of_mem_zip hy).1).imp id fun q => ⟨q, PySem.W.cellsFrom_some _ _ _ (.inl q)⟩
  refine codeAny_call_function hr.depth (kin _ _ lk) rfl S.co S.gen rfl (PySem.W.codeRec_of kin hcd) (hbd _ _ _ _ ?_)
  refine wpAny_newFunctionEnv_cells S.kind kinds ?_
  rintro env rfl s1 ic
  refine ⟨nolim.keeps ic.toInCall.keep, codeAny_func ?_⟩
  let X := L2H.cxH (L2.CX P w) P w T.K mg base N qual (defScope st) f cdv A outer s H E (a, oe)
  have I : L2.Inv X [] (L2.start N vs) H s1 := L2H.inv_startH S pin e0 hl r ic
  have cx : CxH X (T.at a c d) k := ⟨rfl, hw, hg, hr.deeper _, S.nd, hsm, a, oe, c, d, rfl, List.mem_cons_self, hz, hf⟩
  have B := body X (fun cls d _ H' => E cls d H') H a c d rfl rfl rfl rfl ⟨rfl, rfl⟩ S.kind (fun _ => rfl) cx
  refine wpAny_mono (B.run [] s1 (L2.start N vs) H _ I (body_of hN hsp)) ?_ fun _ _ z => z
  intro fl s' hs
  cases fl with
  | ret u =>
    obtain ⟨v, σ', H', J, rv, q⟩ := hs
    exact ⟨v, H', J.os, J.bare, J.base, J.hok, rv, q⟩
  | next =>
    obtain ⟨σ', H', J, q⟩ := hs
    exact ⟨.non, H', J.os, J.bare, J.base, J.hok, rfl, q⟩
  | brk =>
    obtain ⟨_, _, _, q⟩ := hs
    exact q.elim
  | cont =>
    obtain ⟨_, _, _, q⟩ := hs
    exact q.elim

/-- a call from which nothing is raised -/
def noEr : Option (Oe R) → Option (Oe R)
  | some (.er _ _ _) => none
  | o => o
@[simp] theorem noEr_ok (r : R) (ρ : Rho) : noEr (some (.ok r ρ)) = some (.ok r ρ) := eqI rfl
def semX (sem : Sem) : Sem := fun args => noEr (sem args)
@[simp] theorem semX_e (sem : Sem) (args : List R) : semX sem args = noEr (sem args) := eqI rfl
theorem semX_some {sem : Sem} {args : List R} {o : Oe R} (h : semX sem args = some o) : sem args = some o ∧ ∃ r ρ, o = .ok r ρ := by
  unfold semX at h
  cases q : sem args with
  | none => rw [q] at h; cases h
  | some p =>
    rw [q] at h
    cases p with
    | ok r ρ => cases h; exact ⟨rfl, r, ρ, rfl⟩
    | er c fs ρ => cases h

section
variable {X : Cx} {T : Tb} {W : WX} {x : Str} {k n m : Nat} {sem : Sem} {e : Expr} {es : List Expr} {fa : AM} {p pos : Pos} {a : Addr} {c : Nat} {d : Option Addr} {N : List Str} {sc : Scope}
theorem sp_noE {vs : List V} {H : Hp} {Q : VK} {E : XK} (h : spOf T n (semX sem) vs H Q E) : spOf T n sem vs H Q fun _ _ _ => False := by
  obtain ⟨args, F, O, hl, En, P⟩ := h
  refine ⟨args, F, O, hl, En, ?_⟩
  cases q : semX sem args with
  | none => rw [q] at P; exact P.elim
  | some o =>
    rw [q] at P
    obtain ⟨h1, r, ρ, rfl⟩ := semX_some q
    rw [h1]
    exact P
/-- f(e, ..) while the exception is held -/
theorem se_fX (l : At X N sc) (hx : gnB sc x = true) (cx : CxH X (T.at a c d) m) (h : FnX X.prog X.w X.mg X.base T x k n sem) (hl : ∀ args o, sem args = some o → args.length = n) (hk : k ≤ m) (ha : SA X (T.at a c d) W (e :: es) fa)
    (he : starEach (e :: es) X.env = (false, eval e X.env) :: starEach es X.env := by rfl) (hpl : (backTo pos (starEach es X.env)).any (·.1) = false := by rfl) : SE X (T.at a c d) W (.Call (.Name x p) (e :: es) [] pos) (callM (semX sem) fa) := by
  obtain ⟨f, fd, ps, hm, hkp, hb, hn, G0⟩ := h.ex
  have G := G0 a c d
  have hK : X.K = T.K := cx.hK
  rw [← hK] at hkp hb G
  obtain ⟨a', oe, c', d', ht, hmem, hz, hf⟩ := cx.pin
  cases ht
  refine ⟨fun pins s σ H Q I h => ?_⟩
  have h2 := call_of (n := n) h fun vs rs H0 H1 F1 O1 rr args ρ pa o so => by rw [resRs_len rr, ← passA_len pa]; exact hl args o (semX_some so).1
  have fin : ∀ us s1, AP X pins σ (fun vs H1 => spOf (T.at a c d) n (semX sem) vs H1 Q fun cls d H' => W cls d σ H') us s1 → X.K.In s1.heap ∧ wpAny (model X.prog X.w) X.A (call (.ref f) us) (EP X pins σ Q) X.xe s1 := by
    rintro us s1 ⟨vs, H1, I1, r, q⟩
    have q := sp_noE q
    refine ⟨I1.kIn, ?_⟩
    have lus : us.length = ps.length := by rw [← r.length]; exact G.len _ _ _ _ q
    have bb := hb s1 us I1.kIn (by rw [List.append_nil]; exact lus)
    rw [List.append_nil] at bb
    have P1 := I1.pin (a, oe) (List.mem_append_left _ hmem)
    have pin : L2H.PinOk X.stack H1 s1 (a, oe) := ⟨P1.1, P1.2.1, fun hm => (List.mem_cons.mp (I1.stkSub a hm)).elim P1.2.2.1 P1.2.2.2.1, P1.2.2.2.2⟩
    refine wpAny_call (codeAny_mono (G.run X.A X.stack s1 H1 ⟨us, []⟩ us vs Q _ oe cx.gd (cx.room.mono hk) pin hz hf I1.env0 bb r q) ?_)
    intro r' s' hq
    cases r' with
    | error e =>
      obtain ⟨_, _, _, _, _, _, _, _, _, _, _, _, z⟩ := hq
      exact z.elim
    | ok fl =>
      cases fl with
      | ret u => exact I1.after hq
      | next => exact hq.elim
      | brk => exact hq.elim
      | cont => exact hq.elim
  exact wpAny_Call_Name_kw (ld_glob I (l.gl hx).1 hm (PySem.W.callWith_K (h₀ := X.base) I.ok.mod.kin hkp (thn (ha.run pos pins s σ H _ I h2) fin) he hpl) (l.gl hx).2.1)

/-! ### isinstance of the exception that is held -/
def isER (tb : Nat → Option Bool) (r : R) (ρ : Rho) : Option (Oe R) := match r with
  | .ex c [] => match tb c with
    | some b => some (.ok (.dat (.bool b)) ρ)
    | none => none
  | _ => none
def isEM (tb : Nat → Option Bool) (fe : EM) : EM := fun ρ => bindO (fe ρ) fun r ρ1 => isER tb r ρ1
@[simp] theorem isEM_e (tb : Nat → Option Bool) (fe : EM) (ρ : Rho) : isEM tb fe ρ = bindO (fe ρ) fun r ρ1 => isER tb r ρ1 := eqI rfl
theorem isER_is {tb : Nat → Option Bool} {c : Nat} {b : Bool} (h : tb c = some b) (ρ : Rho) : isER tb (.ex c []) ρ = some (.ok (.dat (.bool b)) ρ) := by
  show (match tb c with | some b => some (Oe.ok (R.dat (.bool b)) ρ) | none => none) = _
  rw [h]
/-- what a class of errors must say, so that isinstance asks rightly: reckoned by the kernel -/
def excCB (K : PySem.W.Frag) (D : Addr) : Bool :=
  decide (PySem.W.findIn K (.ref D) "__getattribute__" = some (some (.builtin "BaseException.__getattribute__"))) && decide (PySem.W.findIn K (.ref D) "__getattr__" = some none) &&
  decide (PySem.W.subIn K (.ref D) (.type "BaseException") = some true) && PySem.W.hasDictIn K D && decide (PySem.W.findIn K (.ref D) "__class__" = some (some (.builtin "object.__class__"))) &&
  decide (PySem.W.specialIn K (.builtin "object.__class__") "__get__" = some (some (.builtin "getset_descriptor.__get__"))) && decide (PySem.W.takesIn K (.builtin "object.__class__") = some true) && decide (PySem.W.mroIn K D (.type "object") = some true)
theorem excC_of {K : PySem.W.Frag} {D : Addr} (h : excCB K D = true) : ExcC K D := by
  unfold excCB at h
  simp only [Bool.and_eq_true, decide_eq_true_eq] at h
  obtain ⟨⟨⟨⟨⟨⟨⟨h1, h2⟩, h3⟩, h4⟩, h5⟩, h6⟩, h7⟩, h8⟩ := h
  exact ⟨h1, h2, h3, h4, h5, h6, h7, h8⟩
/-- the table's answers are the machine's -/
def IsTb (T : Tb) (cv : Value) (tb : Nat → Option Bool) : Prop := ∀ c b, tb c = some b → excCB T.K (T.ca c) = true ∧ PySem.W.kitOne T.K (.ref (T.ca c)) cv = some b
def IsTbs (T : Tb) (cvs : List Value) (tb : Nat → Option Bool) : Prop := ∀ c b, tb c = some b → excCB T.K (T.ca c) = true ∧ PySem.W.kitAny T.K (.ref (T.ca c)) cvs = some b
theorem exc_inst {A : Addr} {oe : Obj} {s : Shared} {D : Addr} (hget : s.heap.get? A = some oe) (hz : Zc (.ref D) none oe) (hf : ∃ vs, oe.data = .fields vs) : PySem.W.InstAt s.heap A oe D none := by
  obtain ⟨vs, hv⟩ := hf
  obtain ⟨oc, od, oda, osl⟩ := oe
  obtain ⟨h1, h2⟩ := hz
  dsimp only at h1 h2 hv
  subst h1 h2 hv
  exact ⟨hget, rfl, rfl, trivial⟩
/-- the class that a name bears -/
def ClsN (X : Cx) (x : Str) (v : V) (cv : Value) : Prop := (X.mg x = some cv ∨ (X.mg x = none ∧ bootBuiltins x = some cv)) ∧ RelV v cv ∧ ∀ u, RelV v u → u = cv
theorem pe_cls {v : V} {cv : Value} (l : At X N sc) (hx : gnB sc x = true) (h : ClsN X x v cv) : PE X (.Name x pos) (tC v) := by
  obtain ⟨h1 | ⟨h1, h2⟩, h3, _⟩ := h
  · exact pe_glob (l.gl hx).1 h1 h3 (l.gl hx).2.1
  · exact pe_bltn (l.gl hx).1 h1 h2 h3 (l.gl hx).2.2 (l.gl hx).2.1
theorem call_isE2 {A : Addr} {oe : Obj} {D : Addr} (C : ExcC X.K D) (hm : (A, oe) ∈ X.pn) (hz : Zc (.ref D) none oe) (hf : ∃ vs, oe.data = .fields vs) : CallR X (.builtin "isinstance") (rIsE X.K D A) := by
  intro pins s σ H xs us Q I r h
  obtain ⟨c, cv, b, rfl, hcv, e, q⟩ := h
  cases r with
  | cons rx rr =>
    cases rr with
    | cons rt rr =>
      cases rr
      cases rx
      have ec := hcv _ rt
      subst ec
      have P1 := I.pin (A, oe) (List.mem_append_left _ hm)
      exact PySem.W.kia_one (PySem.W.handS_kitx_exc C.hg C.hk C.hs C.hd C.ha C.hn C.ht C.hm) I.kIn (exc_inst P1.1 hz hf) e (fun z => nomatch z) fun tk => ⟨.bl b, H, I.kept (t' := tk) fun _ _ z => z, rfl, q⟩
theorem se_isE {cx : Str} {fe : EM} {tb : Nat → Option Bool} {v : V} {cv : Value} {p2 : Pos} (l : At X N sc) (ch : CxH X T m) (h1 : gnB sc "isinstance" = true) (hm : X.mg "isinstance" = none) (h2 : gnB sc cx = true) (hc : ClsN X cx v cv) (ht : IsTb T cv tb) (he : SE X T W e fe)
    (hs : starEach [e, .Name cx p2] X.env = (false, eval e X.env) :: starEach [.Name cx p2] X.env := by rfl) (hpl : (backTo pos (starEach [.Name cx p2] X.env)).any (·.1) = false := by rfl) :
    SE X T W (.Call (.Name "isinstance" p) [e, .Name cx p2] [] pos) (isEM tb fe) := by
  refine ⟨fun pins s σ H Q I h => ?_⟩
  obtain ⟨A, oe, ec, ed, ehot, emem, ez, ef⟩ := ch.pin
  obtain ⟨ρ, F, O, E, P⟩ := h
  by_cases hD : ed = none ∧ ∃ b, tb ec = some b
  · obtain ⟨rfl, b, hb⟩ := hD
    obtain ⟨t1, t2⟩ := ht ec b hb
    have C : ExcC X.K (T.ca ec) := by rw [ch.hK]; exact excC_of t1
    refine (pe_callB (pos := pos) (p := p) (call_isE2 C emem ez ef) (l.gl h1).1 hm (by decide +kernel) (pa_cons he (pa_cons (pe_cls (pos := p2) l h2 hc) pa_nil) hs) (l.gl h1).2.2 (l.gl h1).2.1 hs hpl).run pins s σ H Q I ?_
    refine stp .refl E P fun u H1 r ρ1 F1 O1 x1 y1 E1 r1 P1 => ?_
    show rIsE X.K (T.ca ec) A [u, v] H1 Q
    unfold isER at P1
    split at P1
    · rename_i c0
      obtain ⟨a0, d0, e1, e2, e3⟩ := r1
      rw [ehot] at e2
      cases e2
      rw [hb] at P1
      exact ⟨v, cv, b, by rw [e1], hc.2.2, by rw [ch.hK]; exact t2, P1 (.bl b) H1 F1 O1 y1 E1 (.bl b)⟩
    · exact P1.elim
  · refine (pe_imp (t' := fun σ H Q => Tof T W (tlE T) fe σ H fun _ _ => False) (pe_callB (pos := pos) (p := p) (id := "isinstance") (r := fun _ _ _ => False) (fun _ _ _ _ _ _ _ _ _ z => z.elim) (l.gl h1).1 hm (by decide +kernel) (pa_cons he (pa_cons (pe_cls (pos := p2) l h2 hc) pa_nil) hs) (l.gl h1).2.2 (l.gl h1).2.1 hs hpl) fun σ H Q z => ?_).run pins s σ H Q I ?_
    · obtain ⟨ρ, F, O, E, P⟩ := z
      refine ⟨ρ, F, O, E, ?_⟩
      cases q : fe ρ with
      | none => rw [q] at P; exact P
      | some o =>
        rw [q] at P
        cases o with
        | ok r ρ1 => exact fun v H' F' O' a1 a2 a3 => (P v H' F' O' a1 a2 a3).elim
        | er c fs ρ1 => exact P
    · refine stp .refl E P fun u H1 r ρ1 F1 O1 x1 y1 E1 r1 P1 => ?_
      unfold isER at P1
      split at P1
      · rename_i c0
        obtain ⟨a0, d0, e1, e2, e3⟩ := r1
        rw [ehot] at e2
        cases e2
        split at P1
        · rename_i b0 hb0
          exact hD ⟨e3.2, b0, hb0⟩
        · exact P1.elim
      · exact P1.elim

/-- isinstance(e, (C, D)) -/
def rIsT (K : PySem.W.Frag) (D A : Addr) : List V → Hp → VK → Prop := fun xs H Q => ∃ (p : Addr) (vs : List V) (cvs : List Value) (b : Bool), xs = [.ref A, .ref p] ∧ H p = some (.tup vs) ∧ (∀ us, Vals vs us → us = cvs) ∧ PySem.W.kitAny K (.ref D) cvs = some b ∧ Q (.bl b) H
theorem call_isT {A : Addr} {oe : Obj} {D : Addr} (C : ExcC X.K D) (hm : (A, oe) ∈ X.pn) (hz : Zc (.ref D) none oe) (hf : ∃ vs, oe.data = .fields vs) : CallR X (.builtin "isinstance") (rIsT X.K D A) := by
  intro pins s σ H xs us Q I r h
  obtain ⟨tp, vs, cvs, b, rfl, ht, hcv, e, q⟩ := h
  cases r with
  | cons rx rr =>
    cases rr with
    | cons rt rr =>
      cases rr
      cases rx
      cases rt
      have P1 := I.pin (A, oe) (List.mem_append_left _ hm)
      obtain ⟨_, its, rv, ⟨oc, od, oda, osl⟩, g1, g2, nn, g3⟩ := I.hok tp _ ht
      dsimp only at g2 g3
      subst g2 g3
      have ec := hcv _ rv
      subst ec
      exact PySem.W.kia_tup (PySem.W.handS_kitx_exc C.hg C.hk C.hs C.hd C.ha C.hn C.ht C.hm) I.kIn (exc_inst P1.1 hz hf) g1 e (fun z => nomatch z) fun tk => ⟨.bl b, H, I.kept (t' := tk) fun _ _ z => z, rfl, q⟩
theorem se_isT {c1 c2 : Str} {fe : EM} {tb : Nat → Option Bool} {v1 v2 : V} {cv1 cv2 : Value} {p1 p2 pt : Pos} {kt : Nat} (l : At X N sc) (ch : CxH X T m) (h1 : gnB sc "isinstance" = true) (hm : X.mg "isinstance" = none) (h2 : gnB sc c1 = true) (h3 : gnB sc c2 = true) (hc1 : ClsN X c1 v1 cv1) (hc2 : ClsN X c2 v2 cv2) (ht : IsTbs T [cv1, cv2] tb) (he : SE X T W e fe)
    (hs : starEach [e, .Tuple [.Name c1 p1, .Name c2 p2] kt pt] X.env = (false, eval e X.env) :: starEach [.Tuple [.Name c1 p1, .Name c2 p2] kt pt] X.env := by rfl) (hpl : (backTo pos (starEach [.Tuple [.Name c1 p1, .Name c2 p2] kt pt] X.env)).any (·.1) = false := by rfl) :
    SE X T W (.Call (.Name "isinstance" p) [e, .Tuple [.Name c1 p1, .Name c2 p2] kt pt] [] pos) (isEM tb fe) := by
  have pt : PE X (.Tuple [.Name c1 p1, .Name c2 p2] kt pt) (tTup (tCons (tC v1) (tCons (tC v2) tNil))) := pe_tup (pa_cons (pe_cls l h2 hc1) (pa_cons (pe_cls l h3 hc2) pa_nil))
  refine ⟨fun pins s σ H Q I h => ?_⟩
  obtain ⟨A, oe, ec, ed, ehot, emem, ez, ef⟩ := ch.pin
  obtain ⟨ρ, F, O, E, P⟩ := h
  by_cases hD : ed = none ∧ ∃ b, tb ec = some b
  · obtain ⟨rfl, b, hb⟩ := hD
    obtain ⟨t1, t2⟩ := ht ec b hb
    have C : ExcC X.K (T.ca ec) := by rw [ch.hK]; exact excC_of t1
    refine (pe_callB (pos := pos) (p := p) (call_isT C emem ez ef) (l.gl h1).1 hm (by decide +kernel) (pa_cons he (pa_cons pt pa_nil) hs) (l.gl h1).2.2 (l.gl h1).2.1 hs hpl).run pins s σ H Q I ?_
    refine stp .refl E P fun u H1 r ρ1 F1 O1 x1 y1 E1 r1 P1 => ?_
    refine ⟨show 2 ≤ sizeLine by decide, fun q hq => ?_⟩
    show rIsT X.K (T.ca ec) A [u, .ref q] (upd H1 q (.tup [v1, v2])) Q
    unfold isER at P1
    split at P1
    · rename_i c0
      obtain ⟨a0, d0, e1, e2, e3⟩ := r1
      rw [ehot] at e2
      cases e2
      rw [hb] at P1
      refine ⟨q, [v1, v2], [cv1, cv2], b, by rw [e1], upd_same, fun us ru => ?_, by rw [ch.hK]; exact t2, P1 (.bl b) _ F1 O1 (y1.trans (.laid hq)) (E1.laid hq) (.bl b)⟩
      cases ru with
      | cons a1 a2 =>
        cases a2 with
        | cons b1 b2 =>
          cases b2
          rw [hc1.2.2 _ a1, hc2.2.2 _ b1]
    · exact P1.elim
  · refine (pe_imp (t' := fun σ H Q => Tof T W (tlE T) fe σ H fun _ _ => False) (pe_callB (pos := pos) (p := p) (id := "isinstance") (r := fun _ _ _ => False) (fun _ _ _ _ _ _ _ _ _ z => z.elim) (l.gl h1).1 hm (by decide +kernel) (pa_cons he (pa_cons pt pa_nil) hs) (l.gl h1).2.2 (l.gl h1).2.1 hs hpl) fun σ H Q z => ?_).run pins s σ H Q I ?_
    · obtain ⟨ρ, F, O, E, P⟩ := z
      refine ⟨ρ, F, O, E, ?_⟩
      cases q : fe ρ with
      | none => rw [q] at P; exact P
      | some o =>
        rw [q] at P
        cases o with
        | ok r ρ1 => exact fun v H' F' O' a1 a2 a3 => (P v H' F' O' a1 a2 a3).elim
        | er c fs ρ1 => exact P
    · refine stp .refl E P fun u H1 r ρ1 F1 O1 x1 y1 E1 r1 P1 => ?_
      unfold isER at P1
      split at P1
      · rename_i c0
        obtain ⟨a0, d0, e1, e2, e3⟩ := r1
        rw [ehot] at e2
        cases e2
        split at P1
        · rename_i b0 hb0
          exact hD ⟨e3.2, b0, hb0⟩
        · exact P1.elim
      · exact P1.elim
end

/-! ### list.count, list.index of flat things -/
def flV : PyData → Option V
  | .none => some .non
  | .bool b => some (.bl b)
  | .int i => some (.int i)
  | .str x => some (.str x)
  | _ => none
def eqL (d e : PyData) : Bool := match flV d, flV e with
  | some x, some y => eqV x y
  | _, _ => false
def flats (ds : List PyData) : Bool := ds.all fun d => (flV d).isSome
def dCnt : PyData → PyData → Option R
  | .list ds, e => if (flV e).isSome && flats ds then some (.dat (.int (ds.countP fun d => eqL d e : Nat))) else none
  | _, _ => none
def dIdx : PyData → PyData → Option R
  | .list ds, e => if (flV e).isSome && flats ds then (ds.findIdx? fun d => eqL d e).map fun j => .dat (.int (j : Nat)) else none
  | _, _ => none
def isLs : Option PyData → Bool
  | some (.list _) => true
  | _ => false
def lmM (g : PyData → PyData → Option R) (fo fe : EM) : EM := fun ρ => bindO (fo ρ) fun r ρ1 => pick (isLs (val ρ1 r)) (fun ρ1 => bindO (fe ρ1) fun s ρ2 => op2R g ρ2 (val ρ2 r) (val ρ2 s)) (fun _ => none) ρ1
@[simp] theorem lmM_e (g : PyData → PyData → Option R) (fo fe : EM) (ρ : Rho) : lmM g fo fe ρ = bindO (fo ρ) fun r ρ1 => pick (isLs (val ρ1 r)) (fun ρ1 => bindO (fe ρ1) fun s ρ2 => op2R g ρ2 (val ρ2 r) (val ρ2 s)) (fun _ => none) ρ1 := eqI rfl
@[simp] theorem isLs_l (ds : List PyData) : isLs (some (.list ds)) = true := eqI rfl
theorem flV_df {K : PySem.W.Frag} {H : Hp} {F : Reg} {v x : V} {d : PyData} (h : DF K H F v d) (e : flV d = some x) : v = x := by
  cases h <;> first | (cases e; rfl) | cases e
theorem flV_vw {T : Tb} {H : Hp} {F : Reg} {v x : V} {d : PyData} (h : Vw T H F v d) (e : flV d = some x) : v = x := by
  rcases h with h | ⟨a, _, h⟩
  · exact flV_df h e
  · cases d <;> first | exact h.elim | cases e
theorem flV_flat {d : PyData} {x : V} (e : flV d = some x) : flatV x = true := by
  cases d <;> first | (cases e; rfl) | cases e
theorem flats_vs {K : PySem.W.Frag} {H : Hp} {F : Reg} : ∀ {vs : List V} {ds : List PyData}, DFs K H F vs ds → flats ds = true → vs.all flatV = true
  | _, _, .nil, _ => rfl
  | _, _, .cons a b, h => by
    unfold flats at h
    rw [List.all_cons, Bool.and_eq_true] at h
    obtain ⟨x, hx⟩ := Option.isSome_iff_exists.mp h.1
    rw [List.all_cons, flV_df a hx, flV_flat hx, flats_vs b h.2]
    rfl
theorem eqL_at {K : PySem.W.Frag} {H : Hp} {F : Reg} {v y : V} {d e : PyData} (h : DF K H F v d) (hf : (flV d).isSome = true) (he : flV e = some y) : eqL d e = eqV v y := by
  obtain ⟨x, hx⟩ := Option.isSome_iff_exists.mp hf
  unfold eqL
  rw [hx, he, flV_df h hx]
theorem count_eq {K : PySem.W.Frag} {H : Hp} {F : Reg} {y : V} {e : PyData} (he : flV e = some y) : ∀ {vs : List V} {ds : List PyData}, DFs K H F vs ds → flats ds = true → (ds.countP fun d => eqL d e) = vs.countP fun v => eqV v y
  | _, _, .nil, _ => rfl
  | _, _, .cons a b, h => by
    unfold flats at h
    rw [List.all_cons, Bool.and_eq_true] at h
    rw [List.countP_cons, List.countP_cons, count_eq he b h.2, eqL_at a h.1 he]
def rCnt (K : PySem.W.Frag) : V → List V → Hp → VK → Prop := fun x xs H Q => ∃ (a : Addr) (ys : List V) (y : V), x = .ref a ∧ xs = [y] ∧ SqL K H a ys ∧ flatV y = true ∧ ys.all flatV = true ∧ Q (.int (ys.countP fun v => eqV v y : Nat)) H
theorem countP_eqU {y : V} : ∀ {ys : List V} {us : List Value}, Vals ys us → ys.all flatV = true → us.countP (eqU y) = ys.countP fun v => eqV v y
  | _, _, .nil, _ => rfl
  | _, _, .cons r t, h => by
    rw [List.all_cons, Bool.and_eq_true] at h
    rw [List.countP_cons, List.countP_cons, countP_eqU t h.2, eqU_of r h.1]
section
variable {X : Cx} {T : Tb} {W : WX} {o e ex : Expr} {fo fe : EM}
theorem mt_cnt : MtR X "list.count" (rCnt X.K) := by
  intro pins s σ H x xs v us Q I rx rxs h
  obtain ⟨p, ys, y, rfl, rfl, hs, fy, fys, q⟩ := h
  cases rx
  obtain ⟨u, rfl, ru⟩ := rxs.one
  obtain ⟨its, rv, ⟨⟨cls, dd, data, sl⟩, n, ho, hc, hdn, hd⟩, hlen⟩ := I.list hs
  simp only at hc hd
  subst hc hd
  refine call_meets PySem.F.slot_list_count ⟨_, ho, rfl⟩ PySem.F.entry_list_count (PySem.F.args_list_count_2 _ _)
    (SeqAt.list_countAt p its.toArray n dd sl u (eqU y)) ⟨ho, fun z hz => mem_eqAt ru fy rv fys z (by simpa using hz), ?_⟩
  refine ⟨.int (ys.countP fun v => eqV v y : Nat), H, I.tok _, ⟨s.toks, ?_⟩, q⟩
  show Value.int ((its.toArray.toList.countP (eqU y) : Nat) : Int) s.toks = _
  rw [show its.toArray.toList = its from rfl, countP_eqU rv fys]
theorem lm_of {r : V → List V → Hp → VK → Prop} {g : PyData → PyData → Option R} (hg : ∀ d e z, g d e = some z → ∃ ds, d = .list ds) (dr : ∀ (a : Addr) (y : V) (vs : List V) (ds : List PyData) (d : PyData) (z : R) (H : Hp) (F : Reg) (Q : VK), SqL T.K H a vs → DFs T.K H F vs ds → Vw T H F y d → g (.list ds) d = some z → (∀ v, ResN T H H F v z → Q v H) → r (.ref a) [y] H Q)
    {σ : L2.St} {H : Hp} {Q : VK} (h : Tof T W (tlE T) (lmM g fo fe) σ H Q) : tBM T.K "list" r (Tof T W (tlE T) fo) (tCons (Tof T W (tlE T) fe) tNil) σ H Q := by
  obtain ⟨ρ, F, O, E, P⟩ := h
  refine stp .refl E P fun v H1 ra ρ1 F1 O1 x1 y1 E1 r1 P1 => ?_
  cases q1 : val ρ1 ra with
  | none => rw [q1] at P1; exact P1.elim
  | some d1 =>
    rw [q1] at P1
    cases d1 with
    | list ds =>
      obtain ⟨a, vs, rfl, hs, sd⟩ := (val_vw E1 r1 q1).lst
      refine ⟨.inl ⟨rfl, vs, hs.sq⟩, ?_⟩
      refine stp y1 E1 P1 fun u H2 rb ρ2 F2 O2 x2 y2 E2 r2 P2 => ?_
      have r1' : ResR T H H2 F2 O2 σ (.ref a) ra := ResR.mono E1 x2 r1
      cases q2 : val ρ2 ra with
      | none => rw [q2] at P2; exact P2.elim
      | some d2 =>
        cases q3 : val ρ2 rb with
        | none => rw [q2, q3] at P2; exact P2.elim
        | some d3 =>
          rw [q2, q3] at P2
          have P3 : Post T W (tlE T) σ H F O Q (retO (g d2 d3) ρ2) := P2
          cases q4 : g d2 d3 with
          | none => rw [q4] at P3; exact P3.elim
          | some z =>
            rw [q4] at P3
            obtain ⟨ds2, rfl⟩ := hg _ _ _ q4
            obtain ⟨a2, vs2, ea, hs2, sd2⟩ := (val_vw E2 r1' q2).lst
            cases ea
            exact dr a u vs2 ds2 d3 z H2 F2 Q hs2.sq sd2 (val_vw E2 r2 q3) q4 fun w n3 => fin_op y2 E2 P3 .refl n3
    | _ => exact P1.elim
theorem dCnt_ls : ∀ d e z, dCnt d e = some z → ∃ ds, d = .list ds
  | .list ds, _, _, _ => ⟨ds, rfl⟩
theorem dIdx_ls : ∀ d e z, dIdx d e = some z → ∃ ds, d = .list ds
  | .list ds, _, _, _ => ⟨ds, rfl⟩
theorem se_cnt (hK : X.K = T.K) (h : PE X ex (tBM X.K "list" (rCnt X.K) (Tof T W (tlE T) fo) (tCons (Tof T W (tlE T) fe) tNil))) : SE X T W ex (lmM dCnt fo fe) := by
  rw [hK] at h
  refine pe_imp h fun σ H Q z => lm_of dCnt_ls (fun a y vs ds d z H F Q hs sd vw hg k => ?_) z
  have hg' : (if ((flV d).isSome && flats ds) = true then some (R.dat (.int (ds.countP fun d' => eqL d' d : Nat))) else none) = some z := hg
  split at hg'
  · rename_i hc
    rw [Bool.and_eq_true] at hc
    cases hg'
    obtain ⟨x, hx⟩ := Option.isSome_iff_exists.mp hc.1
    obtain rfl := flV_vw vw hx
    refine ⟨a, vs, y, rfl, rfl, hs, flV_flat hx, flats_vs sd hc.2, k _ ?_⟩
    rw [count_eq hx sd hc.2]
    exact .int _
  · cases hg'
theorem se_idx (hK : X.K = T.K) (h : PE X ex (tBM X.K "list" (rIndex X.K) (Tof T W (tlE T) fo) (tCons (Tof T W (tlE T) fe) tNil))) : SE X T W ex (lmM dIdx fo fe) := by
  rw [hK] at h
  refine pe_imp h fun σ H Q z => lm_of dIdx_ls (fun a y vs ds d z H F Q hs sd vw hg k => ?_) z
  have hg' : (if ((flV d).isSome && flats ds) = true then (ds.findIdx? fun d' => eqL d' d).map (fun j => R.dat (.int (j : Nat))) else none) = some z := hg
  split at hg'
  · rename_i hc
    rw [Bool.and_eq_true] at hc
    obtain ⟨j, hj, rfl⟩ := Option.map_eq_some_iff.mp hg'
    obtain ⟨x, hx⟩ := Option.isSome_iff_exists.mp hc.1
    obtain rfl := flV_vw vw hx
    rw [List.findIdx?_eq_some_iff_getElem] at hj
    obtain ⟨hl, h1, h2⟩ := hj
    have fl : ∀ m (hm : m < ds.length), (flV ds[m]).isSome = true := fun m hm => List.all_eq_true.mp hc.2 _ (List.getElem_mem hm)
    obtain ⟨v, hv, dv⟩ := sd.get (show ds[j]? = some ds[j] from List.getElem?_eq_getElem hl)
    refine ⟨a, vs, y, j, v, rfl, rfl, hs, flV_flat hx, flats_vs sd hc.2, hv, ?_, fun m z' hm hz => ?_, k _ (.int _)⟩
    · rw [← eqL_at dv (fl j hl) hx]; exact h1
    · have hml : m < ds.length := by omega
      obtain ⟨v', hv', dv'⟩ := sd.get (show ds[m]? = some ds[m] from List.getElem?_eq_getElem hml)
      rw [hz] at hv'
      cases hv'
      rw [← eqL_at dv' (fl m hml) hx]
      simpa using h2 m hm
  · cases hg'
end
end DL

/-! D45: lambdas handed to a def that calls them in a try. -/
namespace DL
open PySem PyProof.Rows
open L2 hiding Sp

/-- all but tables stays, nothing goes -/
structure Grew (H H1 : Hp) : Prop where
  keep : ∀ b o, H b = some o → NT o → H1 b = some o
  live : ∀ b, H1 b = none → H b = none
theorem Grew.refl {H : Hp} : Grew H H := ⟨fun _ _ h _ => h, fun _ h => h⟩
theorem Grew.ext {s : Bool} {H H1 : Hp} {F : Reg} {O : Ows} (g : Grew H H1) : Ext s H F O H1 F O := ⟨fun b o h _ n => g.keep b o h n, g.live, fun _ h => h, fun _ h => .inl h, fun _ _ h => .inl h⟩

section
variable {X : Cx} {pins : List (Addr × Obj)} {σ : L2.St} {H : Hp} {s : Shared}
/-- a lambda is made: what was tracked grew -/
theorem lam_mk {L : List (Addr × Str)} {c P : Addr} {q : Str} {params : Arguments} {body : Expr} {scope : Scope} {pos : Pos} {E : Value → Shared → Prop} {Q : Value → Shared → Prop} (I : Inv X pins σ H s) (tb : LamX.TabB X.base X.mg c P) (hcd : X.env.code = .ref c) (hq : X.env.qual ++ "<lambda>" = q)
    (hm : (P, q) ∈ L) (hu : ∀ p ∈ L, p.1 = P → p.2 = q) (tabs : LamX.Tabs L H) (hd : defaultsOf params X.env = ([], [])) (hfr : ∀ y ∈ scope.names, y.2 = .free → ∃ c, X.env.cells.lookup y.1 = some c)
    (k : ∀ (f c' : Addr) (pm ctv : Value) (H1 : Hp) (s' : Shared), Inv X pins σ H1 s' → Grew H H1 → LamX.Tabs L H1 → s'.heap.get? f = some (PySem.W.kla_obj "<lambda>" q params body scope (cloFrom X.env.cells scope.names []) pm c' ctv) → H1 f = none → f ∉ frs X.stack → H1 c' = some (LamX.CodeO c' q) → Q (.ref f) s') :
    wpAny (model X.prog X.w) X.A (eval (.Lambda params body scope pos) X.env) Q E s := by
  subst hq
  have tP := tabs _ hm
  obtain ⟨us, eP, t3, codes⟩ := tP
  have bP := tb.bm.keeps I.bk
  have gP : s.heap.get? P = some { cls := .none, data := .fields us } := I.hok P _ eP
  have out : ∀ f, s.heap.objs.size ≤ f → f ∉ frs X.stack := fun f hf z => by
    cases List.mem_cons.mp (I.stkSub _ z) with
    | inl e => exact absurd I.lt (by rw [← e]; exact Nat.not_lt_of_le hf)
    | inr e => exact I.nofs hf e
  refine PySem.W.kla_eval hd ?_
  cases hit : codeAmong pos us.toList with
  | some cv =>
    obtain ⟨c1, rfl, hc1⟩ := codes pos cv hit
    refine PySem.W.kla_makeFunctionHit (closure_ok hfr) I.ok.glob (I.mod.glob.keeps I.bk) hcd (tb.code.keeps I.bk) gP t3 hit bP ?_
    intro ctv h1 tk kp sz
    exact k _ c1 _ ctv H _ (I.kept fun b o e => Heap.get?_push_of_some _ (kp b o e)) .refl tabs (Heap.get?_push_size _ rfl) (I.hok.fresh sz) (out _ sz) hc1
  | none =>
    refine PySem.W.kla_makeFunction (closure_ok hfr) I.ok.glob (I.mod.glob.keeps I.bk) hcd (tb.code.keeps I.bk) gP t3 hit tb.gP bP ?_
    intro c1 ctv h1 tk xb ge lt rec tab
    obtain ⟨_, oc, vs, t, e0, g1, g2, g3⟩ := rec
    cases e0
    have sz : s.heap.objs.size ≤ h1.objs.size := Nat.le_trans ge (Nat.le_of_lt lt)
    have n1 : H c1 = none := I.hok.fresh ge
    let fo : Obj := PySem.W.kla_obj "<lambda>" (X.env.qual ++ "<lambda>") params body scope (cloFrom X.env.cells scope.names []) ((X.mg "__name__").getD .none) c1 ctv
    have J := LamX.inv_table (q := X.env.qual ++ "<lambda>") (t' := tk) (more := #[rawInt pos.line, rawInt pos.col, .ref c1]) (h' := h1.push fo) I eP (fun b o hb e => Heap.get?_push_of_some fo (xb b o hb e)) (Heap.get?_push_of_some fo tab) ge ⟨oc, vs, t, Heap.get?_push_of_some fo g1, g2, g3⟩
    generalize hH1 : upd (upd H P (.tbl (us ++ #[rawInt pos.line, rawInt pos.col, .ref c1]))) c1 (LamX.CodeO c1 (X.env.qual ++ "<lambda>")) = H1 at J
    have PneC : P ≠ c1 := ne_of_none eP n1
    have at1 : H1 c1 = some (LamX.CodeO c1 (X.env.qual ++ "<lambda>")) := by rw [← hH1, upd_same]
    have atP : H1 P = some (.tbl (us ++ #[rawInt pos.line, rawInt pos.col, .ref c1])) := by rw [← hH1, upd_ne PneC, upd_same]
    have oth : ∀ b, b ≠ P → b ≠ c1 → H1 b = H b := fun b h2 h3 => by rw [← hH1, upd_ne h3, upd_ne h2]
    have kp : ∀ b o, H b = some o → NT o → H1 b = some o := fun b o e n => by
      rw [oth b (fun z => by rw [z, eP] at e; cases e; exact n) (ne_of_none e n1)]
      exact e
    have lv : ∀ b, H1 b = none → H b = none := fun b e => by
      by_cases h2 : b = P
      · rw [h2, atP] at e; cases e
      · by_cases h3 : b = c1
        · rw [h3]; exact n1
        · rw [← oth b h2 h3]; exact e
    have cn : ∀ c0 q0, NT (LamX.CodeO c0 q0) := fun _ _ => trivial
    have el : (us ++ #[rawInt pos.line, rawInt pos.col, Value.ref c1]).toList = us.toList ++ [rawInt pos.line, rawInt pos.col, .ref c1] := by simp
    refine k h1.objs.size c1 _ ctv H1 _ J ⟨kp, lv⟩ (fun p hp => ?_) (Heap.get?_push_size _ rfl) ?_ (out _ sz) at1
    · by_cases hb : p.1 = P
      · refine ⟨_, by rw [hb]; exact atP, by rw [el]; exact PySem.TriplesOk_snoc _ _ _ _ t3, fun pos' cv hc => ?_⟩
        rw [el] at hc
        rw [hu p hp hb]
        cases LamX.among_app _ t3 hc with
        | inl z =>
          obtain ⟨c2, e1, e2⟩ := codes pos' cv z
          exact ⟨c2, e1, kp _ _ e2 (cn _ _)⟩
        | inr z => exact ⟨c1, z, at1⟩
      · obtain ⟨us', a1, a2, a3⟩ := tabs p hp
        refine ⟨us', by rw [oth _ hb (ne_of_none a1 n1)]; exact a1, a2, fun pos' cv hc => ?_⟩
        obtain ⟨c2, e1, e2⟩ := a3 pos' cv hc
        exact ⟨c2, e1, kp _ _ e2 (cn _ _)⟩
    · have sP : P < s.heap.objs.size := Heap.lt_size gP
      rw [oth _ (Nat.ne_of_gt (Nat.lt_of_lt_of_le sP sz)) (Nat.ne_of_gt lt)]
      exact I.hok.fresh sz
end

/-- the place of a piece where a lambda is made -/
structure LamC (X : Cx) (T : Tb) (c P : Addr) (q : Str) : Prop where
  tb : LamX.TabB X.base X.mg c P
  cd : X.env.code = .ref c
  ql : X.env.qual ++ "<lambda>" = q
  mem : (P, q) ∈ T.tb
  uni : ∀ p ∈ T.tb, p.1 = P → p.2 = q
theorem LamC.blk {X : Cx} {T : Tb} {c P : Addr} {q : Str} (l : LamC X T c P q) (s : Shared) (H : Hp) (scope : Scope) (cl : List (Str × Addr)) (C : Addr) (fp : List Addr) : LamC (X.blk s H scope (compEnvC scope cl C X.env) fp) T c P q := ⟨l.tb, l.cd, l.ql, l.mem, l.uni⟩
theorem LamC.tr {X : Cx} {T : Tb} {c P : Addr} {q : Str} (l : LamC X T c P q) (pn : List (Addr × Obj)) (xe : Value → Shared → Prop) : LamC (X.tr pn xe) T c P q := ⟨l.tb, l.cd, l.ql, l.mem, l.uni⟩
theorem LamC.of {X : Cx} {T : Tb} {c P : Addr} {x : Str} (fr : Fr X x (.ref c)) (tb : LamX.TabB X.base X.mg c P) (mem : (P, x ++ ".<locals>." ++ "<lambda>") ∈ T.tb) (uni : ∀ p ∈ T.tb, p.1 = P → p.2 = x ++ ".<locals>." ++ "<lambda>") : LamC X T c P (x ++ ".<locals>." ++ "<lambda>") :=
  ⟨tb, fr.cd, by rw [fr.ql], mem, uni⟩

section
variable {X : Cx} {pins : List (Addr × Obj)} {σ : L2.St} {H : Hp} {s : Shared}
/-- the lambda called in the def Z that got it -/
theorem pe_thunk {T : Tb} {Z : Cx} {Ng : List Str} {sg : Scope} {x a q : Str} {g f c' : Addr} {cdg pm ctv : Value} {params : Arguments} {body : Expr} {scope : Scope} {k i : Nat} {pn : List (Addr × Obj)} {xe : Value → Shared → Prop} {W : WX} {fE : EM} {p1 p2 : Pos} {E0 : XK} (I : Inv X pins σ H s) (L : LamX.LamS X.env.scope scope) (hq : X.env.qual ++ "<lambda>" = q)
    (hf : s.heap.get? f = some (PySem.W.kla_obj "<lambda>" q params body scope (cloFrom X.env.cells scope.names []) pm c' ctv)) (hfn : H f = none) (hfr : f ∉ frs X.stack) (hbind : bindArgs (PySem.W.kla_fn "<lambda>" q params body scope (cloFrom X.env.cells scope.names []) pm (.ref c') ctv) ⟨[], []⟩ = pure [])
    (eZ : Z = cxOf (L2.CX X.prog X.w) X.prog X.w X.K X.mg X.base Ng x sg g cdg X.A X.stack s H E0) (tk : Takes (Z.tr pn xe) W) (hr : Room (k + 1) Z.A) (hg : X.A.guards = some [])
    (hbody : ∀ (A : Around) (outer : List Env) (s : Shared) (H : Hp) (E : XK), A.guards = some [] → Room k (A.deeper (LamX.lamEnv X scope s.heap.objs.size f c')) → SE (LamX.lamCx X A outer s H E scope f c') T (fun cls d _ H' => E cls d H') body fE)
    (hN : Ng[i]? = some a) (hv : Vis sg a) (hd : (a == ("__debug__" : Str)) = false) (hcd : (a == ("__classdict__" : Str)) = false) :
    PE (Z.tr pn xe) (.Call (.Name a p1) [] [] p2) (fun σZ HZ Q => σZ[i]? = some (some (.ref f)) ∧ HZ c' = some (LamX.CodeO c' q) ∧ Tof T (fun cls d _ H' => W cls d σZ H') (tlE T) fE σ HZ Q) := by
  subst hq eZ
  refine ⟨fun pinsZ sZ σZ HZ Q J h => ?_⟩
  obtain ⟨h1, h2, h3⟩ := h
  have nm := (pe_var (pos := p1) (i := i) hN hv hd hcd).run pinsZ sZ σZ HZ (fun v H1 => v = .ref f ∧ H1 = HZ) J ⟨.ref f, h1, rfl, rfl⟩
  refine wpAny_Call_Name_kw (thn nm ?_)
  rintro u s1 ⟨v, H1, J1, rv, rfl, rfl⟩
  obtain rfl : u = Value.ref f := rv
  have g1 := J1.base.keep f _ hf hfn hfr (fun z => nomatch (show f ∈ ([] : List Addr) from z))
  obtain ⟨⟨oc, vs, t, hoc, hdc, hvc⟩, _⟩ := J1.hok c' _ h2
  refine PySem.W.callWith_F0 ⟨_, _, _, _, g1⟩ ?_
  have run : codeAny (model X.prog X.w) (X.A.deeper (envOfC x sg s.heap.objs.size g cdg)) (.call (.ref f) ⟨[], []⟩) (CR (L2.CX X.prog X.w) (envOfC x sg s.heap.objs.size g cdg :: X.stack) X.prog X.w H1 s1 Q fun cls d H' => W cls d σZ H') s1 := by
    refine PySem.W.kla_callFunE hr.depth g1 rfl L.co L.gen rfl ⟨c', oc, vs, t, rfl, hoc, hdc, hvc⟩ ?_
    rw [hbind]
    refine wpAny_pure (wpAny_newFunctionEnv (fun y hy => (L.own y hy).2) (fun y hy => absurd hy List.not_mem_nil) (fun h1 hns hsb => ⟨J1.nolimit.fresh _ hsb, ?_⟩) L.kind)
    have kp : ∀ b o, s1.heap.get? b = some o → h1.get? b = some o := fun b o e => hsb.extBut b o (Nat.ne_of_lt (Heap.lt_size e)) (Heap.get?_push_of_some _ e)
    have K1 := LamX.lam_start2 (A := X.A.deeper (envOfC x sg s.heap.objs.size g cdg)) (outer := envOfC x sg s.heap.objs.size g cdg :: X.stack) (E := fun cls d H' => W cls d σZ H') (f := f) (c' := c') (tk := s1.toks + ([] : List (Str × Value)).length) I L J1.env0 hr.hd J1.base hns kp
    refine PySem.W.kla_codeExpr (wpAny_mono ((hbody (X.A.deeper (envOfC x sg s.heap.objs.size g cdg)) _ s1 H1 _ hg (hr.deeper _)).run [] _ _ H1 Q K1 h3) ?_ fun _ _ z => z)
    rintro v s' ⟨w', H', K', rv, q⟩
    exact ⟨w', H', K'.os, K'.bare, K'.base, K'.hok, rv, q⟩
  refine wpAny_call (codeAny_mono run ?_)
  intro r s' hq
  cases r with
  | error e => exact tk e s' (XE.of_call J1 (fun _ _ _ z => z) hq)
  | ok fl =>
    cases fl with
    | ret u => exact J1.after hq
    | next => exact hq.elim
    | brk => exact hq.elim
    | cont => exact hq.elim
end

/-! ### said(lambda: e): try: return ("told", call()), except X as e: suite -/
def saidR (mt : Nat → Option Bool) (wd : Nat → List PyData → Option PyData) : Option (Oe R) → Option (Oe R)
  | some (.ok r ρ1) => bindF (frz ρ1 r) fun d ρ2 => some (.ok (.dat (.tuple [.str "told", d])) ρ2)
  | some (.er c fs ρ1) => match mt c with
    | some true => match wd c fs with
      | some d => some (.ok (.dat d) ρ1)
      | none => none
    | _ => none
  | none => none
def saidM (mt : Nat → Option Bool) (wd : Nat → List PyData → Option PyData) (fE : EM) : EM := fun ρ => saidR mt wd (fE ρ)
@[simp] theorem saidM_e (mt : Nat → Option Bool) (wd : Nat → List PyData → Option PyData) (fE : EM) (ρ : Rho) : saidM mt wd fE ρ = saidR mt wd (fE ρ) := eqI rfl
@[simp] theorem saidR_ok (mt : Nat → Option Bool) (wd : Nat → List PyData → Option PyData) (r : R) (ρ : Rho) : saidR mt wd (some (.ok r ρ)) = bindF (frz ρ r) fun d ρ2 => some (.ok (.dat (.tuple [.str "told", d])) ρ2) := eqI rfl
theorem saidR_er {mt : Nat → Option Bool} {wd : Nat → List PyData → Option PyData} {c : Nat} {fs : List PyData} {d : PyData} (h1 : mt c = some true) (h2 : wd c fs = some d) (ρ : Rho) : saidR mt wd (some (.er c fs ρ)) = some (.ok (.dat d) ρ) := by
  show (match mt c with | some true => (match wd c fs with | some d => some (Oe.ok (R.dat d) ρ) | none => none) | _ => none) = _
  rw [h1]
  show (match wd c fs with | some d => some (Oe.ok (R.dat d) ρ) | none => none) = _
  rw [h2]
/-- what the suite hands back: m slots, the exception in slot i -/
def suitD (m i : Nat) (fh : SM) (c : Nat) (fs : List PyData) : Option PyData := match fh ((List.replicate m none).set i (some (.ex c fs))) with
  | some (.rt (.dat d) _) => some d
  | _ => none
theorem suitD_is {m i : Nat} {fh : SM} {c : Nat} {fs : List PyData} {d : PyData} {ρ : Rho} (h : fh ((List.replicate m none).set i (some (.ex c fs))) = some (.rt (.dat d) ρ)) : suitD m i fh c fs = some d := by
  unfold suitD
  rw [h]
/-- the def that takes a lambda -/
structure SaidE (P : Program) (w : World) (mg : Str → Option Value) (base : Heap) (T : Tb) (x : Str) (k : Nat) (mt : Nat → Option Bool) (wd : Nat → List PyData → Option PyData) : Prop where
  ex : ∃ (g : Addr) (fd : FuncData) (st : Stmt) (Ng : List Str) (a e ex : Str) (i : Nat) (cS : Value) (fh : SM) (b₀ : Stmt) (suite : List Stmt) (po j2 : Nat) (q1 q2 q3 q4 q5 q6 q7 q8 : Pos), mg x = some (.ref g) ∧ Fun T.K x x st g fd ∧ Binds T.K fd [a] [] ∧ FnScope Ng [a] (defScope st) ∧ Vis (defScope st) a ∧ (a == ("__debug__" : Str)) = false ∧ (a == ("__classdict__" : Str)) = false ∧ Ng[i]? = some e ∧ (defScope st).names.lookup e = some .local ∧ i ≠ 0 ∧
    ((defScope st).names.lookup ex = some .globalImplicit ∧ (ex == ("__debug__" : Str)) = false ∧ mg ex = some cS) ∧ (∀ c b, mt c = some b → PySem.W.exmOne T.K (.ref (T.ca c)) cS = some b) ∧ wd = suitD Ng.length i fh ∧
    defBody st = [.Try [.Return (some (.Tuple [.Constant (.str "told") po q1, .Call (.Name a q2) [] [] q3] j2 q4)) q5] [.ExceptHandler (some (.Name ex q6)) (some e) (b₀ :: suite) q7] [] [] q8] ∧
    ∀ (X : Cx) (W : WX) (HB : Hp) (A : Addr) (c : Nat) (d : Option Addr), X.prog = P → X.w = w → X.mg = mg → X.base = base → At X Ng (defScope st) → X.env.scope.kind = .function → (∀ x, X.fn x = true) → CxH X (T.at A c d) k → SB X (T.at A c d) W ⟨HB, 1, fun _ => false⟩ (b₀ :: suite) fh

theorem EnvR.grew {T : Tb} {H H1 : Hp} {F : Reg} {O : Ows} {σ : L2.St} {ρ : Rho} (E : EnvR T H F O σ ρ) (g : Grew H H1) (tb : LamX.Tabs T.tb H1) : EnvR T H1 F O σ ρ :=
  ⟨E.len, fun i r e => let ⟨v, h1, h2⟩ := E.at_ i r e; ⟨v, h1, h2.mono (E.kept (g.ext (s := false))) (fun _ h => h) fun a o ha ho => g.keep a o ho (E.nc ha ho).1⟩, E.own, E.inj, E.nf, fun b hb z => E.lv b hb (g.live b z), tb⟩
theorem backA_nil (ρ : Rho) (os : Rho) : backA ρ [] os = ρ := by
  unfold backA
  refine List.ext_getElem? fun j => ?_
  rw [List.getElem?_mapIdx]
  cases q : ρ[j]? with
  | none => rfl
  | some x =>
    show some (if isOwn x = true then (match posOf j [] with | some k => os[k]?.join | none => x) else x) = some x
    split <;> rfl
theorem At.lam {X : Cx} {N : List Str} {sc : Scope} (a : At X N sc) (A : Around) (outer : List Env) (s : Shared) (H : Hp) (E : XK) (scope : Scope) (f c' : Addr) : At (LamX.lamCx X A outer s H E scope f c') N scope := ⟨a.hN, rfl⟩
section
variable {X : Cx} {T : Tb} {W : WX} {N : List Str} {sc : Scope} {n k kb : Nat} {x q : Str} {c P : Addr} {mt : Nat → Option Bool} {wd : Nat → List PyData → Option PyData} {params : Arguments} {body : Expr} {scope : Scope} {fE : EM} {p pos lpos : Pos}
theorem se_said (l : At X N sc) (hx : gnB sc x = true) (cx : Cxt X T W n) (hh : T.hot = none) (lc : LamC X T c P q) (sd : SaidE X.prog X.w X.mg X.base T x k mt wd) (hn : kb + 2 ≤ n) (hk : k + 1 ≤ n) (hs : LamX.lamSB sc scope = true)
    (hb : ∀ (A : Around) (outer : List Env) (s : Shared) (H : Hp) (E : XK) (f c' : Addr), Cxt (LamX.lamCx X A outer s H E scope f c') T (fun cls d _ H' => E cls d H') kb → SE (LamX.lamCx X A outer s H E scope f c') T (fun cls d _ H' => E cls d H') body fE)
    (hdef : defaultsOf params X.env = ([], []) := by rfl) (hbind : ∀ (q : Str) (cl : List (Str × Addr)) (pm cv ctv : Value), bindArgs (PySem.W.kla_fn "<lambda>" q params body scope cl pm cv ctv) ⟨[], []⟩ = pure [] := by intros; rfl) :
    SE X T W (.Call (.Name x p) [.Lambda params body scope lpos] [] pos) (saidM mt wd fE) := by
  have hK := cx.hK
  have L : LamX.LamS X.env.scope scope := by rw [l.hs]; exact LamX.lamS_by hs
  obtain ⟨g, fd, st, Ng, a, e, ex, i, cS, fh, b₀, suite, po, j2, q1, q2, q3, q4, q5, q6, q7, q8, hm, G, hbd, Sg, hva, hd1, hd2, hNe, hle, hi0, ⟨hge, hde, hme⟩, hmt, hwd, hbody, hsu⟩ := sd.ex
  obtain ⟨oc, od, kV, doc, pmg, an, cdv, ct, osl, rfl, lk, hcd⟩ := G.ex
  have gk := G.kp
  rw [← hK] at hbd lk hcd gk
  have hN0 : Ng[0]? = some a := by
    have h := Sg.pre
    cases Ng with
    | nil => simp at h
    | cons y r => simp at h; simp [h]
  have hNl : 1 ≤ Ng.length := lt_of_at hN0
  refine ⟨fun pins s σ H Q I h => ?_⟩
  obtain ⟨ρ, F, O, E, P0⟩ := h
  refine wpAny_Call_Name_kw (ld_glob I (l.gl hx).1 hm ?_ (l.gl hx).2.1)
  refine PySem.W.callWith_K (h₀ := X.base) I.ok.mod.kin gk ?_ (by rfl) (by rfl)
  refine Calls.spliced_cons (lam_mk I lc.tb lc.cd lc.ql lc.mem lc.uni E.tb hdef (L.has I.ok) ?_)
  intro f c' pm ctv H1 s' I1 gr tb1 hf hfn hfr hco
  refine Calls.spliced_nil ⟨I1.kIn, ?_⟩
  have E1 := E.grew gr tb1
  obtain ⟨k', rfl⟩ : ∃ k', n = k' + 1 := ⟨n - 1, by omega⟩
  let ctx := cxOf (L2.CX X.prog X.w) X.prog X.w X.K X.mg X.base Ng x (defScope st) g cdv X.A X.stack s' H1 (fun _ _ _ => False)
  have rc : codeAny (model X.prog X.w) X.A (.call (.ref g) ⟨[.ref f], []⟩) (CR (L2.CX X.prog X.w) X.stack X.prog X.w H1 s' Q fun _ _ _ => False) s' := by
    refine LamX.run_ofS (N := Ng) (ps := [a]) (us := [.ref f]) (vs := [.ref f]) lk hcd Sg cx.room I1.env0 (hbd s' [.ref f] I1.kIn rfl) (.cons rfl .nil) rfl fun hr' => ?_
    rw [hbody]
    have tk0 : Takes ctx (fun _ _ _ _ => False) := takes_of (X := ctx) (E := fun _ _ _ => False) rfl rfl rfl rfl
    refine ⟨_, pss_one (ps_try_as (X := ctx) (c := cS) (i := i) (ts := fun A cls d D σ H => ∃ c, cls = .ref (T.ca c) ∧ TSof (T.at A c d) W0 ⟨H1, 1, fun _ => false⟩ fh D σ H)
      (tb := fun W' => tRet (tTup (tCons (tC (.str "told")) (tCons (fun σZ HZ Q => σZ[0]? = some (some (.ref f)) ∧ HZ c' = some (LamX.CodeO c' q) ∧ Tof T (fun cls d _ H' => W' cls d σZ H') (tlE T) fE σ HZ Q) tNil)))) rfl rfl Sg.nd hNe hle ⟨hge, hde, .inl hme⟩ tk0 (fun W' pn xe tk po => ?_) (fun A oe cls d pn hz hf => ⟨fun pins s σ H D I h => ?_⟩)), ?_⟩
    · refine pss_one (ps_ret (pe_tup (pa_cons pe_str (pa_cons (pe_thunk (k := kb) I1 L lc.ql hf hfn hfr (hbind _ _ _ _ _) rfl tk (hr'.mono (by omega)) cx.gd (fun A outer s H E' hg hr => ?_) hN0 hva hd1 hd2) pa_nil))))
      exact hb A outer s H E' f c' ⟨hK, cx.hw, rfl, hr, hg, takes_of rfl rfl rfl rfl, passes_of rfl, cx.nd, cx.sm⟩
    · obtain ⟨ec, rfl, h2⟩ := h
      exact (hsu (ctx.suite A ((A, oe) :: pn)) W0 H1 A ec d rfl rfl rfl rfl ⟨rfl, rfl⟩ Sg.kind (fun _ => rfl) ⟨hK, cx.hw, cx.gd, ⟨(hr'.mono (by omega)).dp, (hr'.mono (by omega)).un⟩, Sg.nd, cx.sm, A, oe, ec, d, rfl, List.mem_cons_self, hz, hf⟩).run pins s σ H D I h2
    · have s0 : (L2.start Ng [V.ref f])[0]? = some (some (.ref f)) := start_put rfl
      have sl : (L2.start Ng [V.ref f]).length = Ng.length := by
        unfold L2.start
        simp
        omega
      refine ⟨s0, hco, ρ, F, O, E1, ?_⟩
      have P1 : Post T W (tlE T) σ H F O Q (saidR mt wd (fE ρ)) := P0
      cases qf : fE ρ with
      | none => rw [qf] at P1; exact P1
      | some o =>
        rw [qf] at P1
        cases o with
        | ok r ρ1 =>
          intro v H2 F2 O2 x2 E2 r2
          refine ⟨show 2 ≤ sizeLine by decide, fun pt hpt => ?_⟩
          have P2 : Post T W (tlE T) σ H F O Q (bindF (frz ρ1 r) fun d ρ2 => some (.ok (.dat (.tuple [.str "told", d])) ρ2)) := P1
          cases q6 : frz ρ1 r with
          | none => rw [q6] at P2; exact P2.elim
          | some pr =>
            obtain ⟨d, ρ2⟩ := pr
            rw [q6] at P2
            have y2 : Ext false H F O H2 F2 O2 := (gr.ext).trans x2
            obtain ⟨F3, O3, y3, E3, d3, g3, s3, n3⟩ := fz y2 gr.live E2 r2 q6
            exact P2 (.ref pt) _ F3 O3 (y3.trans (.laid hpt)) (E3.laid hpt) (.tup (.inl (.inl upd_same)) (.cons (.str _) (.cons (d3.mono (fun b o h _ => kept_new hpt b o h) fun _ h => h) .nil)))
        | er ec fs ρ1 =>
          intro cls d H2 F2 O2 x2 E2 ex2
          have ecls : cls = .ref (T.ca ec) := ex2.1
          subst ecls
          have P2 : Post T W (tlE T) σ H F O Q (match mt ec with
            | some true => (match wd ec fs with
              | some d => some (.ok (.dat d) ρ1)
              | none => none)
            | _ => none) := P1
          split at P2
          · rename_i hmc
            split at P2
            · rename_i d' hw'
              refine ⟨true, by rw [show ctx.K = X.K from rfl, hK]; exact hmt ec true hmc, fun _ A hA => ⟨ec, rfl, ?_⟩, fun z => nomatch z⟩
              rw [hwd] at hw'
              unfold suitD at hw'
              have hil : i < (List.replicate Ng.length (none : Option R)).length := by rw [List.length_replicate]; exact lt_of_at hNe
              refine ⟨(List.replicate Ng.length none).set i (some (.ex ec fs)), F2, fun _ => none, ⟨⟨by rw [List.length_set, List.length_set, List.length_replicate, sl], fun j r' er => ?_, (fun _ _ z => nomatch z), (fun _ _ _ z => nomatch z), (fun _ _ z => nomatch z), E2.lv, E2.tb⟩, fun b hb2 => x2.live b hb2, fun _ _ _ z => nomatch z⟩, ?_⟩
              · by_cases hj : j = i
                · subst hj
                  rw [List.getElem?_set_self hil] at er
                  cases er
                  exact ⟨.ref A, List.getElem?_set_self (by rw [sl]; exact lt_of_at hNe), rfl, A, d, rfl, rfl, ex2⟩
                · rw [List.getElem?_set_ne (Ne.symm hj), List.getElem?_replicate] at er
                  split at er <;> cases er
              · cases qh : fh ((List.replicate Ng.length none).set i (some (.ex ec fs))) with
                | none => rw [qh] at hw'; cases hw'
                | some oh =>
                  rw [qh] at hw'
                  cases oh with
                  | rt rr ρ3 =>
                    cases rr with
                    | dat d0 =>
                      cases hw'
                      intro v σ3 H3 F3 O3 x3 S3 k3 r3
                      have x4 : Ext true H2 F2 (Oa O2 []) H3 F3 (fun _ => none) := ⟨fun b o h1 h2 h3 => x3.keep b o h1 (fun _ z => nomatch z) h3, x3.live, x3.grow, fun b h1 => (x3.new b h1).elim .inl fun z => z.elim (fun ⟨_, z⟩ => nomatch z) fun y => .inr (.inr y), fun _ _ z => nomatch z⟩
                      have E4 : EnvR T H3 F3 (fun _ => none) (([] : List V).map some) [] := ⟨rfl, (fun i r e => by simp at e), (fun _ _ z => nomatch z), (fun _ _ _ z => nomatch z), (fun _ _ z => nomatch z), S3.E.lv, S3.E.tb⟩
                      obtain ⟨O5, x5, E5⟩ := env_back E2 (B := H2) (vs := []) (rs := []) (args := []) rfl .nil rfl x4 E4
                      rw [backA_nil] at E5
                      exact P2 v H3 F3 O5 ((gr.ext).trans (x2.trans x5)) E5 r3
                    | _ => cases hw'
                  | _ => cases hw'
            · exact P2.elim
          · exact P2.elim
  refine wpAny_call (codeAny_mono rc ?_)
  intro r s2 hq
  cases r with
  | error e =>
    obtain ⟨_, _, _, _, _, _, _, _, _, _, _, _, z⟩ := hq
    exact z.elim
  | ok fl =>
    cases fl with
    | ret u => exact I1.after hq
    | next => exact hq.elim
    | brk => exact hq.elim
    | cont => exact hq.elim
end
end DL

/-! D46: the rules of a held exception in printed form; defs with their frame's facts; [f, g][i](..); what is never reached. -/
namespace DL
open PySem PyProof.Rows
open L2 hiding Sp

/-! ### what is never reached -/
def noM : EM := fun _ => none
@[simp] theorem noM_e (ρ : Rho) : noM ρ = none := eqI rfl
theorem se_no {X : Cx} {T : Tb} {W : WX} {e : Expr} : SE X T W e noM := ⟨fun _ _ _ _ _ _ ⟨_, _, _, _, P⟩ => P.elim⟩
def noS : SM := fun _ => none
@[simp] theorem noS_e (ρ : Rho) : noS ρ = none := eqI rfl
theorem ss_no {X : Cx} {T : Tb} {W : WX} {φ : Fm} {s : Stmt} : SS X T W φ s noS := ⟨fun _ _ _ _ _ _ ⟨_, _, _, _, P⟩ => P.elim⟩

section
variable {X : Cx} {T : Tb} {W : WX} {n : Nat} {N : List Str} {sc : Scope} {a b o e : Expr} {fa fb fo fe : EM} {pos p apos : Pos}
theorem RoomH_units {n : Nat} {A : Around} (r : L2H.RoomH n A) : A.units + 64 < cLine := by have := r.un; omega
theorem h_add (c : CxH X T n) (ha : SE X T W a fa) (hb : SE X T W b fb) : SE X T W (.BinOp a .Add b pos) (op2M dPlus fa fb) := se_op (c.hK ▸ op_plus) does_plus ha hb
theorem h_lt (c : CxH X T n) (ha : SE X T W a fa) (hb : SE X T W b fb) : SE X T W (.Compare a [.Lt] [b] pos) (op2M dLt fa fb) := se_cmp op_lt does_lt ha hb (nomark _)
theorem h_eq (c : CxH X T n) (ha : SE X T W a fa) (hb : SE X T W b fb) : SE X T W (.Compare a [.Eq] [b] pos) (op2M dEq fa fb) := se_cmp (op_eq.or (c.hK ▸ op_eqD (RoomH_units c.room))) does_eq ha hb (nomark _)
theorem h_ne (c : CxH X T n) (ha : SE X T W a fa) (hb : SE X T W b fb) : SE X T W (.Compare a [.NotEq] [b] pos) (op2M dNe fa fb) := se_cmp (op_ne.or (c.hK ▸ op_neD (RoomH_units c.room))) does_ne ha hb (nomark _)
theorem ht_lt (c : CxH X T n) (ha : SE X T W a fa) (hb : SE X T W b fb) : ST X T W (.Compare a [.Lt] [b] pos) (tsM (op2M dLt fa fb)) := st_cmp op_lt does_lt ha hb (nomark _)
theorem ht_eq (c : CxH X T n) (ha : SE X T W a fa) (hb : SE X T W b fb) : ST X T W (.Compare a [.Eq] [b] pos) (tsM (op2M dEq fa fb)) := st_cmp (op_eq.or (c.hK ▸ op_eqD (RoomH_units c.room))) does_eq ha hb (nomark _)
theorem ht_ne (c : CxH X T n) (ha : SE X T W a fa) (hb : SE X T W b fb) : ST X T W (.Compare a [.NotEq] [b] pos) (tsM (op2M dNe fa fb)) := st_cmp (op_ne.or (c.hK ▸ op_neD (RoomH_units c.room))) does_ne ha hb (nomark _)
theorem h_ixA (c : CxH X T n) (ha : SE X T W a fa) (hb : SE X T W b fb) (hs : PlainIx b := by exact fun _ _ => rfl) : SE X T W (.Subscript a b pos) (op2M dIxA fa fb) :=
  se_ix ((c.hK ▸ ix_seq (X := X)).or ix_dK) does_ixA hs ha hb
/-- xs.count(e), xs.index(e) -/
theorem e_cnt (hK : X.K = T.K) (ho : SE X T W o fo) (he : SE X T W e fe) (hbase : attributeBase o "count" X.env (eval o X.env) = eval o X.env := by rfl)
    (hfew : ((backTo pos (starEach [e] X.env)).all (fun x => !x.1) && (backToKw pos (keywordEach [] X.env)).all (fun x => x.1.isSome) && decide ([e].length + ([] : List Keyword).length + (if ([] : List Keyword).isEmpty then 0 else 1) < 30)) = true := by rfl)
    (hline : (apos.endLine == pos.line) = true := by rfl) (hs : starEach [e] X.env = (false, eval e X.env) :: starEach [] X.env := by rfl) (hpl : (backTo pos (starEach [] X.env)).any (·.1) = false := by rfl) :
    SE X T W (.Call (.Attribute o "count" apos) [e] [] pos) (lmM dCnt fo fe) :=
  se_cnt hK (pe_bm PySem.F.plainAttrs_list PySem.F.slot_list_count PySem.F.type_list_count mt_cnt ho (pa_cons he pa_nil hs) hbase hfew hline hs hpl)
theorem e_idx (hK : X.K = T.K) (ho : SE X T W o fo) (he : SE X T W e fe) (hbase : attributeBase o "index" X.env (eval o X.env) = eval o X.env := by rfl)
    (hfew : ((backTo pos (starEach [e] X.env)).all (fun x => !x.1) && (backToKw pos (keywordEach [] X.env)).all (fun x => x.1.isSome) && decide ([e].length + ([] : List Keyword).length + (if ([] : List Keyword).isEmpty then 0 else 1) < 30)) = true := by rfl)
    (hline : (apos.endLine == pos.line) = true := by rfl) (hs : starEach [e] X.env = (false, eval e X.env) :: starEach [] X.env := by rfl) (hpl : (backTo pos (starEach [] X.env)).any (·.1) = false := by rfl) :
    SE X T W (.Call (.Attribute o "index" apos) [e] [] pos) (lmM dIdx fo fe) :=
  se_idx hK (pe_bm PySem.F.plainAttrs_list PySem.F.slot_list_index PySem.F.type_list_index mt_index ho (pa_cons he pa_nil hs) hbase hfew hline hs hpl)
/-- an own class of errors, a built-in one -/
theorem clsN_own {x : Str} {c : Nat} (h : X.mg x = some (.ref (T.ca c))) : ClsN X x (.ref (T.ca c)) (.ref (T.ca c)) := ⟨.inl h, rfl, fun _ r => r⟩
theorem clsN_blt {x : Str} {t : String} (h : X.mg x = none) (hb : bootBuiltins x = some (.type t)) : ClsN X x (.ty t) (.type t) := ⟨.inr ⟨h, hb⟩, rfl, fun _ r => r⟩
end

/-! ### defs, with their frames' facts -/
theorem fn_gR {T : Tb} {P : Program} {w : World} {K : PySem.W.Frag} {mg : Str → Option Value} {base : Heap} {k n : Nat} {x qual : Str} {st : Stmt} {f : Addr} {fd : FuncData} {N ps : List Str} {pr : Nat → Bool} {m : SM} (G : Fun K x qual st f fd) (S : FnScope N ps (defScope st)) (hn : ps.length = n)
    (hK : K = T.K) (hw : w = T.w) (hsm : base.get? sysModules ≠ none)
    (body : ∀ (X : Cx) (W : WX) (H : Hp), X.prog = P → X.w = w → X.K = K → X.mg = mg → X.base = base → X.N = N → X.env.scope = defScope st → X.env.scope.kind = .function → X.fn = (fun _ => true) → Cxt X T W k → Fr X qual fd.code → SB X T W ⟨H, n, pr⟩ (defBody st) m) :
    FnG P w K mg base (k + 1) f fd ps (spOf T n (runD n N.length pr m)) := by
  have hN : n ≤ N.length := by
    have h := congrArg List.length S.pre
    rw [List.length_take] at h
    omega
  obtain ⟨oc, od, kV, doc, pm, an, cdv, ct, osl, rfl, lk, hcd⟩ := G.ex
  refine ⟨fun vs H Q E ⟨_, _, _, hl, _⟩ => hl.trans hn.symm, ?_⟩
  intro A outer s H args us vs Q E hg hr e0 hb r hsp
  have hl : vs.length = ps.length := by obtain ⟨_, _, _, q, _⟩ := hsp; exact q.trans hn.symm
  have kin : K.In s.heap := e0.mod.kin.keeps fun b o e => (e0.bs b o e).1
  have nolim : s.heap.NoLimit := e0.mod.nolimit.keeps fun b o e => (e0.bs b o e).1
  have kinds : ∀ y ∈ ps.zip us, (defScope st).names.lookup y.1 = some .local ∨ ((defScope st).names.lookup y.1 = some .cell ∧ ((cellsFrom (s.heap.objs.size + 1) (defScope st).names []).lookup y.1).isSome = true) := by
    rintro ⟨y, v⟩ hy
    exact (S.par y (List.of_mem_zip hy).1).imp id fun q => ⟨q, PySem.W.cellsFrom_some _ _ _ (.inl q)⟩
  refine codeAny_call_function hr.depth (kin _ _ lk) rfl S.co S.gen rfl (PySem.W.codeRec_of kin hcd) (hb _ _ _ _ ?_)
  refine wpAny_newFunctionEnv_cells S.kind kinds ?_
  rintro env rfl s1 ic
  refine ⟨nolim.keeps ic.toInCall.keep, codeAny_func ?_⟩
  let X := cxOf (L2.CX P w) P w K mg base N qual (defScope st) f cdv A outer s H E
  have I : L2.Inv X [] (L2.start N vs) H s1 := inv_start S hr.hd e0 hl r ic
  have cx : Cxt X T (fun cls d _ H' => E cls d H') k := ⟨hK, hw, rfl, hr.deeper _, hg, takes_of rfl rfl rfl rfl, passes_of rfl, S.nd, hsm⟩
  have B := body X _ H rfl rfl rfl rfl rfl rfl rfl S.kind rfl cx ⟨rfl, rfl, rfl, rfl⟩
  refine wpAny_mono (B.run [] s1 (L2.start N vs) H _ I (body_of hN hsp)) ?_ fun _ _ z => z
  intro fl s' hs
  cases fl with
  | ret u =>
    obtain ⟨v, σ', H', J, rv, q⟩ := hs
    exact ⟨v, H', J.os, J.bare, J.base, J.hok, rv, q⟩
  | next =>
    obtain ⟨σ', H', J, q⟩ := hs
    exact ⟨.non, H', J.os, J.bare, J.base, J.hok, rfl, q⟩
  | brk =>
    obtain ⟨_, _, _, q⟩ := hs
    exact q.elim
  | cont =>
    obtain ⟨_, _, _, q⟩ := hs
    exact q.elim
theorem fn_eR {T : Tb} {P : Program} {w : World} {mg : Str → Option Value} {base : Heap} {k n : Nat} {x qual : Str} {st : Stmt} {f : Addr} {fd : FuncData} {N ps : List Str} {pr : Nat → Bool} {m : SM} (G : Fun T.K x qual st f fd) (S : FnScope N ps (defScope st)) (hn : ps.length = n) (hmg : mg x = some (.ref f)) (hb : Binds T.K fd ps [])
    (hw : w = T.w) (hsm : base.get? sysModules ≠ none)
    (body : ∀ (X : Cx) (W : WX) (H : Hp), X.prog = P → X.w = w → X.mg = mg → X.base = base → At X N (defScope st) → X.env.scope.kind = .function → (∀ x, X.fn x = true) → Cxt X T W k → Fr X qual fd.code → SB X T W ⟨H, n, pr⟩ (defBody st) m) :
    FnE P w mg base T x (k + 1) n (runD n N.length pr m) :=
  ⟨f, fd, ps, hmg, G.kp, hb, hn, fn_gR G S hn rfl hw hsm fun X W H h1 h2 _ h4 h5 h6 h7 h8 h9 c fr => body X W H h1 h2 h4 h5 ⟨h6, h7⟩ h8 (fun x => by rw [h9]) c fr⟩

/-! ### [f, g, ..][i](e, ..) -/
inductive Picks (X : Cx) (T : Tb) (N : List Str) (sc : Scope) (k n : Nat) : List Expr → List Sem → Prop where
  | nil : Picks X T N sc k n [] []
  | cons {x : Str} {p : Pos} {sem : Sem} {j : Nat} {es : List Expr} {sems : List Sem} : gnB sc x = true → FnE X.prog X.w X.mg X.base T x j n sem → (∀ args o, sem args = some o → args.length = n) → j ≤ k → Picks X T N sc k n es sems → Picks X T N sc k n (.Name x p :: es) (sem :: sems)
def pickR (sems : List Sem) (fa : AM) (ρ : Rho) (i : Option PyData) : Option (Oe R) := match i with
  | some (.int j) => match atI sems j with
    | some sem => callM sem fa ρ
    | none => none
  | _ => none
def pickM (sems : List Sem) (fi : EM) (fa : AM) : EM := fun ρ => bindO (fi ρ) fun r ρ1 => pickR sems fa ρ1 (val ρ1 r)
@[simp] theorem pickM_e (sems : List Sem) (fi : EM) (fa : AM) (ρ : Rho) : pickM sems fi fa ρ = bindO (fi ρ) fun r ρ1 => pickR sems fa ρ1 (val ρ1 r) := eqI rfl
theorem pickR_is {sems : List Sem} {j : Int} {sem : Sem} (h : atI sems j = some sem) (fa : AM) (ρ : Rho) : pickR sems fa ρ (some (.int j)) = callM sem fa ρ := by
  show (match atI sems j with | some sem => callM sem fa ρ | none => none) = _
  rw [h]
section
variable {X : Cx} {T : Tb} {W : WX} {n k m : Nat} {N : List Str} {sc : Scope} {e b : Expr} {es ns : List Expr} {fi : EM} {fa : AM} {sems : List Sem} {pos p p2 : Pos}
/-- the defs at their places -/
inductive Pl (P : Program) (w : World) (mg : Str → Option Value) (base : Heap) (T : Tb) (k n : Nat) : List V → List Sem → Prop where
  | nil : Pl P w mg base T k n [] []
  | cons {f : Addr} {fd : FuncData} {ps : List Str} {sem : Sem} {j : Nat} {vs : List V} {sems : List Sem} : PySem.W.keepIn T.K (.ref f) = true → Binds T.K fd ps [] → ps.length = n → FnG P w T.K mg base j f fd ps (spOf T n sem) → j ≤ k → (∀ args o, sem args = some o → args.length = n) → Pl P w mg base T k n vs sems → Pl P w mg base T k n (.ref f :: vs) (sem :: sems)
theorem Pl.len {P : Program} {w : World} {mg : Str → Option Value} {base : Heap} : ∀ {vs : List V} {sems : List Sem}, Pl P w mg base T k n vs sems → vs.length = sems.length
  | _, _, .nil => rfl
  | _, _, .cons _ _ _ _ _ _ r => by rw [List.length_cons, List.length_cons, r.len]
theorem Pl.get {P : Program} {w : World} {mg : Str → Option Value} {base : Heap} : ∀ {vs : List V} {sems : List Sem} {i : Nat} {sem : Sem}, Pl P w mg base T k n vs sems → sems[i]? = some sem →
    ∃ f fd ps j, vs[i]? = some (.ref f) ∧ PySem.W.keepIn T.K (.ref f) = true ∧ Binds T.K fd ps [] ∧ ps.length = n ∧ FnG P w T.K mg base j f fd ps (spOf T n sem) ∧ j ≤ k ∧ ∀ args o, sem args = some o → args.length = n
  | _, _, _, _, .nil, e => by simp at e
  | _, _, 0, _, .cons a b c d e' g _, e => by simp at e; subst e; exact ⟨_, _, _, _, rfl, a, b, c, d, e', g⟩
  | _, _, i + 1, sem, .cons _ _ _ _ _ _ r, e => by
    obtain ⟨f, fd, ps, j, h⟩ := Pl.get (i := i) (sem := sem) r (by simpa using e)
    exact ⟨f, fd, ps, j, by simpa using h⟩
theorem Picks.pa (l : At X N sc) : ∀ {ns : List Expr} {sems : List Sem}, Picks X T N sc k n ns sems → ∃ vs, Pl X.prog X.w X.mg X.base T k n vs sems ∧ PA X ns (fun σ H Q => Q vs H)
  | _, _, .nil => ⟨[], .nil, pa_imp pa_nil fun _ _ _ h => h⟩
  | _, _, .cons hx h hl hj r => by
    obtain ⟨f, fd, ps, hm, hk, hb, hn, G⟩ := h.ex
    obtain ⟨vs, pl, pa⟩ := Picks.pa l r
    exact ⟨.ref f :: vs, .cons hk hb hn G hj hl pl, pa_imp (pa_cons (pe_glob (v := .ref f) (l.gl hx).1 hm rfl (l.gl hx).2.1) pa) fun _ _ _ h => h⟩
theorem se_pick (l : At X N sc) (cx : Cxt X T W m) (pk : Picks X T N sc k n ns sems) (hk : k ≤ m) (hz : sems.length ≤ 1000) (hi : SE X T W b fi) (ha : SA X T W (e :: es) fa) (hs : PlainIx b := by exact fun _ _ => rfl)
    (he : starEach (e :: es) X.env = (false, eval e X.env) :: starEach es X.env := by rfl) (hpl : (backTo pos (starEach es X.env)).any (·.1) = false := by rfl) :
    SE X T W (.Call (.Subscript (.List ns p) b p2) (e :: es) [] pos) (pickM sems fi fa) := by
  obtain ⟨vs, pl, pa⟩ := Picks.pa l pk
  have fx := pe_ix (pos := p2) (ix_seq (X := X)) (pe_lst (pos := p) pa) hi hs
  refine ⟨fun pins s σ H Q I h => ?_⟩
  obtain ⟨ρ, F, O, E, P⟩ := h
  show wpAny _ _ (do callWith pos (← eval (.Subscript (.List ns p) b p2) X.env) [] (backTo pos (starEach (e :: es) X.env)) (backToKw pos (keywordEach [] X.env))) _ _ s
  refine wpAny_bind (thn (fx.run pins s σ H (fun v H1 => ∃ f fd ps j sem, v = .ref f ∧ PySem.W.keepIn T.K (.ref f) = true ∧ Binds T.K fd ps [] ∧ ps.length = n ∧ FnG X.prog X.w T.K X.mg X.base j f fd ps (spOf T n sem) ∧ j ≤ m ∧ Tof T W (tlA T) fa σ H1 fun vs H2 => spOf T n sem vs H2 Q fun cls d H' => W cls d σ H') I ?_) ?_)
  · refine ⟨?_, fun q hq => ?_⟩
    · rw [pl.len]; exact Nat.le_trans hz (by decide)
    have E1 : EnvR T (upd H q (.lst vs)) F O σ ρ := E.laid hq
    refine stp (.laid hq) E1 P fun u H2 r ρ2 F2 O2 x2 y2 E2 r2 P2 => ?_
    cases qv : val ρ2 r with
    | none => rw [qv] at P2; exact P2.elim
    | some d =>
      rw [qv] at P2
      cases d with
      | int i =>
        have P3 : Post T W (tlE T) σ H F O Q (match atI sems i with
          | some sem => callM sem fa ρ2
          | none => none) := P2
        cases qs : atI sems i with
        | none => rw [qs] at P3; exact P3.elim
        | some sem =>
          rw [qs] at P3
          dsimp only at P3
          have eu := (val_vw E2 r2 qv).int
          have kq : H2 q = some (.lst vs) := x2.keep q _ upd_same (E.ne_new hq) trivial
          have qs' : ∃ j : Nat, ∀ {α : Type} (l : List α), l.length = sems.length → atI l i = l[j]? := by
            unfold atI at qs
            cases q7 : ixN sems.length i with
            | none => rw [q7] at qs; cases qs
            | some j => exact ⟨j, fun l hl => by unfold atI; rw [hl, q7]; rfl⟩
          obtain ⟨j, hj⟩ := qs'
          rw [hj sems rfl] at qs
          obtain ⟨f, fd, ps, jl, g1, g2, g3, g4, g5, g6, g7⟩ := pl.get qs
          refine .inl ⟨q, vs, i, .ref f, rfl, eu, .inl (.inl kq), by rw [hj vs pl.len]; exact g1, f, fd, ps, jl, sem, rfl, g2, g3, g4, g5, Nat.le_trans g6 hk, ?_⟩
          refine call_of (n := n) ⟨ρ2, F2, O2, E2, ?_⟩ fun vs rs H0 H1 F1 O1 rr args ρ pa o so => by rw [resRs_len rr, ← passA_len pa]; exact g7 args o so
          cases q6 : callM sem fa ρ2 with
          | none => rw [q6] at P3; exact P3
          | some o =>
            rw [q6] at P3
            cases o with
            | ok r' ρ3 => exact fun v H3 F3 O3 x3 E3 r3 => P3 v H3 F3 O3 (y2.trans x3) E3 (r3.back y2.live)
            | er c fs ρ3 => exact fun cls d H3 F3 O3 x3 E3 r3 => P3 cls d H3 F3 O3 (y2.trans x3) E3 r3
      | _ => exact P2.elim
  · rintro u s1 ⟨v, H1, I1, rv, f, fd, ps, j, sem, rfl, g2, g3, g4, G, g6, h2⟩
    obtain rfl : u = Value.ref f := rv
    rw [← cx.hK] at g2 g3 G
    have fin : ∀ us s1, AP X pins σ (fun vs H1 => spOf T n sem vs H1 Q fun cls d H' => W cls d σ H') us s1 → X.K.In s1.heap ∧ wpAny (model X.prog X.w) X.A (call (.ref f) us) (EP X pins σ Q) X.xe s1 := by
      rintro us s1 ⟨vs, H1, I1, r, q⟩
      refine ⟨I1.kIn, ?_⟩
      have lus : us.length = ps.length := by rw [← r.length]; exact G.len _ _ _ _ q
      have bb := g3 s1 us I1.kIn (by rw [List.append_nil]; exact lus)
      rw [List.append_nil] at bb
      refine wpAny_call (codeAny_mono (G.run X.A X.stack s1 H1 ⟨us, []⟩ us vs Q _ cx.gd (cx.room.mono g6) I1.env0 bb r q) ?_)
      intro r' s' hq
      cases r' with
      | error e => exact cx.tk e s' (XE.of_call I1 (fun _ _ _ z => z) hq)
      | ok fl =>
        cases fl with
        | ret u => exact I1.after hq
        | next => exact hq.elim
        | brk => exact hq.elim
        | cont => exact hq.elim
    exact PySem.W.callWith_K (h₀ := X.base) I.ok.mod.kin g2 (thn (ha.run pos pins s1 σ H1 _ I1 h2) fin) he hpl
end
end DL

/-! D47: printed forms of D43 to D45. -/
namespace DL
open PySem PyProof.Rows
open L2 hiding Sp

theorem mem_look {c : Nat} {b : Bool} : ∀ {l : List (Nat × Bool)}, l.lookup c = some b → (c, b) ∈ l
  | [], h => by cases h
  | (k, v) :: r, h => by
    rw [List.lookup_cons] at h
    by_cases e : c = k
    · subst e
      simp at h
      subst h
      exact List.mem_cons_self
    · have e' : (c == k) = false := by simpa using e
      rw [e'] at h
      exact List.mem_cons_of_mem _ (mem_look h)
theorem isTb_l {T : Tb} {cv : Value} {l : List (Nat × Bool)} (h : ∀ p ∈ l, excCB T.K (T.ca p.1) = true ∧ PySem.W.kitOne T.K (.ref (T.ca p.1)) cv = some p.2) : IsTb T cv (fun c => l.lookup c) := fun c b e => by
  have hm : (c, b) ∈ l := mem_look e
  exact h _ hm
theorem isTbs_l {T : Tb} {cvs : List Value} {l : List (Nat × Bool)} (h : ∀ p ∈ l, excCB T.K (T.ca p.1) = true ∧ PySem.W.kitAny T.K (.ref (T.ca p.1)) cvs = some p.2) : IsTbs T cvs (fun c => l.lookup c) := fun c b e => by
  have hm : (c, b) ∈ l := mem_look e
  exact h _ hm
theorem mt_l {T : Tb} {cv : Value} {l : List (Nat × Bool)} (h : ∀ p ∈ l, PySem.W.exmOne T.K (.ref (T.ca p.1)) cv = some p.2) : ∀ c b, l.lookup c = some b → PySem.W.exmOne T.K (.ref (T.ca c)) cv = some b := fun c b e => by
  have hm : (c, b) ∈ l := mem_look e
  exact h _ hm
section
variable {X : Cx} {T : Tb} {W : WX} {N : List Str} {sc : Scope} {n : Nat}
theorem At.tr (a : At X N sc) (pn : List (Addr × Obj)) (xe : Value → Shared → Prop) : At (X.tr pn xe) N sc := ⟨a.hN, a.hs⟩
theorem At.suite (a : At X N sc) (A : Addr) (pn : List (Addr × Obj)) : At (X.suite A pn) N sc := ⟨a.hN, a.hs⟩
theorem s_try {q : Str} {cd : Value} {φ : Fm} {x nm : Str} {ks : Nat} {body suite : List Stmt} {b₀ : Stmt} {np pos pos' : Pos} {mt : Nat → Option Bool} {fb fh : SM} (a : At X N sc) (cx : Cxt X T W n) (fr : Fr X q cd) (hh : T.hot = none) (i : Nat) (h : (decide (N[i]? = some nm) && lclB sc nm) = true) (hx : gnB sc x = true) (gx : X.mg x = some (.ref (T.ca ks))) (hp : φ.pr i = false)
    (hm : ∀ c b, mt c = some b → PySem.W.exmOne T.K (.ref (T.ca c)) (.ref (T.ca ks)) = some b)
    (hb : ∀ (W : WX) (pn : List (Addr × Obj)) (xe : Value → Shared → Prop), Cxt (X.tr pn xe) T W n → SB (X.tr pn xe) T W φ body fb)
    (hsu : ∀ (A : Addr) (oe : Obj) (c : Nat) (d : Option Addr) (pn : List (Addr × Obj)), CxH (X.suite A ((A, oe) :: pn)) (T.at A c d) n → SB (X.suite A ((A, oe) :: pn)) (T.at A c d) W0 φ (b₀ :: suite) fh) :
    SS X T W φ (.Try body [.ExceptHandler (some (.Name x np)) (some nm) (b₀ :: suite) pos'] [] [] pos) (tryM mt i fb fh) := by
  simp only [Bool.and_eq_true, decide_eq_true_eq] at h
  exact ss_try cx fr hh (by rw [a.hN]; exact h.1) (by show X.env.scope.names.lookup nm = _; rw [a.hs]; exact lclB_ok h.2) ⟨(a.gl hx).1, (a.gl hx).2.1, .inl gx⟩ hp hm hb hsu
end
/-- the suite of the one try -/
def suitOf : List Stmt → List Stmt
  | [.Try _ [.ExceptHandler _ _ b _] _ _ _] => b
  | _ => []
/-- the def that takes lambdas, by its text -/
theorem said_e {T : Tb} {P : Program} {w : World} {mg : Str → Option Value} {base : Heap} {k i ks : Nat} {x a e ex : Str} {st : Stmt} {g : Addr} {fd : FuncData} {Ng : List Str} {mt : Nat → Option Bool} {fh : SM} {b₀ : Stmt} {suite : List Stmt} {po j2 : Nat} {q1 q2 q3 q4 q5 q6 q7 q8 : Pos} (G : Fun T.K x x st g fd) (S : FnScope Ng [a] (defScope st)) (hm : mg x = some (.ref g)) (hb : Binds T.K fd [a] [])
    (hv : (visB (defScope st) a && !(a == ("__debug__" : Str)) && !(a == ("__classdict__" : Str)) && decide (Ng[i]? = some e) && lclB (defScope st) e && decide (i ≠ 0) && gnB (defScope st) ex) = true) (gx : mg ex = some (.ref (T.ca ks))) (hmt : ∀ c b, mt c = some b → PySem.W.exmOne T.K (.ref (T.ca c)) (.ref (T.ca ks)) = some b)
    (hbody : defBody st = [.Try [.Return (some (.Tuple [.Constant (.str "told") po q1, .Call (.Name a q2) [] [] q3] j2 q4)) q5] [.ExceptHandler (some (.Name ex q6)) (some e) (b₀ :: suite) q7] [] [] q8])
    (hsu : ∀ (X : Cx) (W : WX) (HB : Hp) (A : Addr) (c : Nat) (d : Option Addr), X.prog = P → X.w = w → X.mg = mg → X.base = base → At X Ng (defScope st) → X.env.scope.kind = .function → (∀ x, X.fn x = true) → CxH X (T.at A c d) k → SB X (T.at A c d) W ⟨HB, 1, fun _ => false⟩ (b₀ :: suite) fh) :
    SaidE P w mg base T x k mt (suitD Ng.length i fh) := by
  simp only [Bool.and_eq_true, Bool.not_eq_true', decide_eq_true_eq] at hv
  obtain ⟨⟨⟨⟨⟨⟨h1, h2⟩, h3⟩, h4⟩, h5⟩, h6⟩, h7⟩ := hv
  unfold gnB at h7
  simp only [Bool.and_eq_true, Bool.not_eq_true', decide_eq_false_iff_not] at h7
  exact ⟨g, fd, st, Ng, a, e, ex, i, .ref (T.ca ks), fh, b₀, suite, po, j2, q1, q2, q3, q4, q5, q6, q7, q8, hm, G, hb, S, visB_ok h1, h2, h3, h4, lclB_ok h5, h6, ⟨glB_ok h7.1.1, h7.1.2, gx⟩, hmt, rfl, hbody, hsu⟩
section
variable {X : Cx} {T : Tb} {W : WX} {N : List Str} {sc : Scope} {k m : Nat} {x : Str} {sem : Sem} {p pos : Pos}
/-- f() -/
theorem se_f0 (a : At X N sc) (hx : gnB sc x = true) (c : Cxt X T W m) (h : FnE X.prog X.w X.mg X.base T x k 0 sem) (hl : ∀ args o, sem args = some o → args.length = 0) (hk : k ≤ m) : SE X T W (.Call (.Name x p) [] [] pos) (callM sem nilA) := by
  obtain ⟨f, fd, ps, hm, hkp, hb, hn, G⟩ := h.ex
  rw [← c.hK] at hkp hb G
  refine ⟨fun pins s σ H Q I h => ?_⟩
  have h2 := call_of (n := 0) h fun vs rs H0 H1 F1 O1 rr args ρ pa o so => by rw [resRs_len rr, ← passA_len pa]; exact hl args o so
  obtain ⟨ρ, F, O, E, P⟩ := h2
  have q : spOf T 0 sem [] H Q fun cls d H' => W cls d σ H' := P [] H F O .refl E .nil
  refine wpAny_Call_Name_kw (ld_glob I (a.gl hx).1 hm (PySem.W.callWith_K0 I.kIn hkp ?_) (a.gl hx).2.1)
  have bb := hb s [] I.kIn (by rw [List.append_nil]; exact hn.symm)
  rw [List.append_nil] at bb
  refine wpAny_call (codeAny_mono (G.run X.A X.stack s H ⟨[], []⟩ [] [] Q _ c.gd (c.room.mono hk) I.env0 bb .nil q) ?_)
  intro r' s' hq
  cases r' with
  | error e => exact c.tk e s' (XE.of_call I (fun _ _ _ z => z) hq)
  | ok fl =>
    cases fl with
    | ret u => exact I.after hq
    | next => exact hq.elim
    | brk => exact hq.elim
    | cont => exact hq.elim
end
end DL

/-! D48: list(range(a, b, c)) of written numbers. -/
namespace DL
open PySem PySem.Spec PyProof.Rows
open L2 hiding Sp
def rg3 (i k : Int) (m : Nat) : List PyData := (List.range m).map fun (t : Nat) => .int (i + (t : Int) * k)
def lr3M (i k : Int) (m : Nat) : EM := fun ρ => some (.ok (.own (.list (rg3 i k m))) ρ)
@[simp] theorem lr3M_e (i k : Int) (m : Nat) (ρ : Rho) : lr3M i k m ρ = some (.ok (.own (.list (rg3 i k m))) ρ) := eqI rfl
theorem vals_rg3 {i k : Int} {acc : Array Value} {m : Nat} (h : ItemsOf (fun j v => ∃ t, v = .int (i + j * k) t) acc m) : Vals ((List.range m).map fun (t : Nat) => V.int (i + (t : Int) * k)) acc.toList := by
  have e : m = acc.toList.length := by rw [Array.length_toList]; exact h.1.symm
  rw [e]
  refine vals_of_get acc.toList (fun t => V.int (i + (t : Int) * k)) fun j u hj => ?_
  obtain ⟨t, ht⟩ := h.2 j u (by rw [← hj, Array.getElem?_toList])
  exact ⟨t, ht⟩
section
variable {X : Cx} {T : Tb} {W : WX} {n : Nat} {a b e : Expr} {p p2 pos pos2 : Pos} {N : List Str} {sc : Scope}
theorem e_lrng3 {i j k : Int} {m : Nat} (l : At X N sc) (c : Cxt X T W n) (hx : gnB sc "list" = true) (hm : X.mg "list" = none) (hx2 : gnB sc "range" = true) (hm2 : X.mg "range" = none)
    (ha : SE X T W a (cM (.int i))) (hb : SE X T W b (cM (.int j))) (he : SE X T W e (cM (.int k))) (hk : k ≠ 0) (hs : Builtin.Range.small i j k = true) (hn : Builtin.Range.rangeSize i j k = (m : Int)) (hl : m ≤ 1000) (hp : Builtin.divisionGoesByPylong (j - i) k = false)
    (n1 : starEach [a, b, e] X.env = (false, eval a X.env) :: starEach [b, e] X.env := by rfl) (n2 : starEach [b, e] X.env = (false, eval b X.env) :: starEach [e] X.env := by rfl) (n3 : starEach [e] X.env = (false, eval e X.env) :: starEach [] X.env := by rfl)
    (hq : (backTo pos2 (starEach [b, e] X.env)).any (·.1) = false := by rfl)
    (na : starEach [.Call (.Name "range" p2) [a, b, e] [] pos2] X.env = (false, eval (.Call (.Name "range" p2) [a, b, e] [] pos2) X.env) :: starEach [] X.env := by rfl) :
    SE X T W (.Call (.Name "list" p) [.Call (.Name "range" p2) [a, b, e] [] pos2] [] pos) (lr3M i k m) := by
  refine ⟨fun pins s σ H Q I h => ?_⟩
  obtain ⟨ρ, F, O, E, P⟩ := h
  have rng : wpAny (model X.prog X.w) X.A (eval (.Call (.Name "range" p2) [a, b, e] [] pos2) X.env) (fun x s' => ∃ r t u v H', x = .ref r ∧ IsRange s'.heap r i j k t u v ∧ L2.Inv X pins σ H' s' ∧ ∃ F' O', Ext false H F O H' F' O' ∧ EnvR T H' F' O' σ ρ) X.xe s := by
    refine Call_ (ld_blt I (l.gl hx2).1 hm2 boot_range (PyProof.Rows.callWith_type1 (args_cons (thn (ha.run pins s σ H (fun x H1 => x = .int i ∧ ∃ F' O', Ext false H F O H1 F' O' ∧ EnvR T H1 F' O' σ ρ) I ⟨ρ, F, O, E, fun v H1 F1 O1 x1 E1 r1 => ⟨int_of r1, F1, O1, x1, E1⟩⟩) ?_) n1) n1 hq))
    rintro v1 s1 ⟨x1, H1, I1, r1, rfl, F1, O1, y1, E1⟩
    refine args_cons (thn (hb.run pins s1 σ H1 (fun x H2 => x = .int j ∧ ∃ F' O', Ext false H F O H2 F' O' ∧ EnvR T H2 F' O' σ ρ) I1 ⟨ρ, F1, O1, E1, fun v H2 F2 O2 x2 E2 r2 => ⟨int_of r2, F2, O2, y1.trans x2, E2⟩⟩) ?_) n2
    rintro v2 s2 ⟨x2, H2, I2, r2, rfl, F2, O2, y2, E2⟩
    refine args_cons (thn (he.run pins s2 σ H2 (fun x H3 => x = .int k ∧ ∃ F' O', Ext false H F O H3 F' O' ∧ EnvR T H3 F' O' σ ρ) I2 ⟨ρ, F2, O2, E2, fun v H3 F3 O3 x3 E3 r3 => ⟨int_of r3, F3, O3, y2.trans x3, E3⟩⟩) ?_) n3
    rintro v3 s3 ⟨x3, H3, I3, r3, rfl, F3, O3, y3, E3⟩
    refine args_nil ?_
    obtain ⟨t1, rfl⟩ := r1
    obtain ⟨t2, rfl⟩ := r2
    obtain ⟨t3, rfl⟩ := r3
    exact call_range_3 hk ⟨_, _, _, _, H3, rfl, IsRange.new _ _ _ _ _ _ _, I3.kept fun b u e => Heap.get?_push_of_some _ e, F3, O3, y3, E3⟩ (.inl hp)
  refine Call_ (ld_blt I (l.gl hx).1 hm boot_list (PyProof.Rows.callWith_type1 (args_cons (thn rng ?_) na) na))
  rintro x s1 ⟨r, t, u, v, H1, rfl, hr, I1, F1, O1, y1, E1⟩
  refine args_nil (call_list_range (n := m) (I1.ok.hd c.calm) hr hs hn (Nat.le_trans hl (by decide)) fun h' tk acc c' hk e' hi => ?_)
  have hq := I1.hok.fresh (Nat.le_refl s1.heap.objs.size)
  refine ⟨.ref s1.heap.objs.size, upd H1 s1.heap.objs.size (.lst ((List.range m).map fun (t : Nat) => V.int (i + (t : Int) * k))), I1.laid hk (Nat.le_refl _) (show ObjOk X.prog X.w _ _ _ (.lst _) from ⟨?_, acc.toList, c', vals_rg3 hi, ?_⟩), rfl, ?_⟩
  · rw [List.length_map, List.length_range, sizeLine_eq]; omega
  · rw [Array.toArray_toList]; exact e'
  · exact fin_op y1 E1 P (.laid hq) (resN_lst hq (fun z => E1.lv _ z hq) (dfs_rg (fun t => i + (t : Int) * k) (List.range m)))
end
end DL

/-! D49: min and sorted of data that are alike; min(.., default=d) of ints. -/
namespace DL
open PySem PySem.Spec PyProof.Rows
open L2 hiding Sp
open PySem.W (alike alikeAll dataLt keyToks AllAlike Sortable dataLe KeyedOut EachIs)
/-- alike, none of them None -/
def alkB (ds : List PyData) : Bool := ds.all (fun x => ds.all fun y => alike x y) && ds.all fun x => match x with | .none => false | _ => true
theorem alkB_of {ds : List PyData} (h : alkB ds = true) : PySem.W.AlikeAll ds := by
  unfold alkB at h
  rw [Bool.and_eq_true, List.all_eq_true, List.all_eq_true] at h
  refine ⟨fun x hx y hy => List.all_eq_true.mp (h.1 x hx) y hy, fun x hx e => ?_⟩
  have := h.2 x hx
  rw [e] at this
  cases this
theorem alkB_is {ds : List PyData} (h : ∀ x ∈ ds, ∀ y ∈ ds, alike x y = true) (n : ∀ x ∈ ds, x ≠ .none) : alkB ds = true := by
  unfold alkB
  rw [Bool.and_eq_true, List.all_eq_true, List.all_eq_true]
  refine ⟨fun x hx => List.all_eq_true.mpr (h x hx), fun x hx => ?_⟩
  have := n x hx
  cases x <;> first | rfl | exact absurd rfl this
theorem minD_mem (x : PyData) : ∀ xs : List PyData, PySem.W.minD x xs ∈ x :: xs := by
  intro xs
  induction xs generalizing x with
  | nil => exact List.mem_cons_self ..
  | cons y r ih =>
    show PySem.W.minD (if dataLt y x then y else x) r ∈ _
    have := ih (if dataLt y x then y else x)
    rcases List.mem_cons.mp this with e | e
    · rw [e]
      split
      · exact List.mem_cons_of_mem _ (List.mem_cons_self ..)
      · exact List.mem_cons_self ..
    · exact List.mem_cons_of_mem _ (List.mem_cons_of_mem _ e)
/-- min of a list of alike data: its first least one -/
def rMinA (K : PySem.W.Frag) : List V → Hp → VK → Prop := fun vs H Q => ∃ (a : Addr) (xs : List V) (d : PyData) (ds : List PyData), vs = [V.ref a] ∧ SqL K H a xs ∧ DpAll K H xs (d :: ds) ∧ PySem.W.AlikeAll (d :: ds) ∧ PyData.depthAll (d :: ds) ≤ 10 ∧
  ∀ (i : Nat) (x : V), xs[i]? = some x → (d :: ds)[i]? = some (PySem.W.minD d ds) → Q x H
theorem vals_at : ∀ {xs : List V} {us : List Value} {i : Nat} {u : Value}, Vals xs us → us[i]? = some u → ∃ x, xs[i]? = some x ∧ RelV x u
  | _, _, _, _, .nil, h => by simp at h
  | _, _, 0, _, .cons r _, h => by simp at h; subst h; exact ⟨_, rfl, r⟩
  | _, _, i + 1, u, .cons _ s, h => by
    obtain ⟨x, h1, h2⟩ := vals_at (i := i) (u := u) s (by simpa using h)
    exact ⟨x, by simpa using h1, h2⟩
theorem cr_minA {X : Cx} (hc : X.calm = true) (hu : X.A.units + 64 < cLine) : CallR X (.builtin "min") (rMinA X.K) := by
  intro pins s σ H vs us Q I r h
  obtain ⟨a, xs, d, ds, rfl, hs, hd, ha, hl, q⟩ := h
  obtain ⟨its, rv, hl2, _⟩ := I.list hs
  rw [Vals.ref1 r]
  obtain ⟨as, hr⟩ := Dp.readsAll I (d :: ds) xs its hd rv
  refine PySem.W.min_list_data (I.ok.hd hc) hl2.isList (vs := its.toArray) (as := as) hr ha (by omega) fun i v h' tk bs hv hr' hk => ?_
  have hv' : its[i]? = some v := by simpa using hv
  obtain ⟨x, hx, rx⟩ := vals_at rv hv'
  obtain ⟨cs, r2, hi, hm, _⟩ := PySem.W.readsAll_at hr i v hv'
  refine ⟨x, H, I.kept hk, rx, q i x hx ?_⟩
  have e : (d :: ds).getD i .none = PySem.W.minD d ds := by
    refine PySem.W.alike_unique _ _ v cs bs (ha.1 _ hm _ (minD_mem d ds)) ?_ hr'
    exact Reads.keeps hk r2
  rw [← e, List.getD_eq_getElem?_getD, List.getElem?_eq_getElem hi, Option.getD_some]
theorem depth_mem : ∀ {A : List PyData} {d : PyData}, d ∈ A → d.depth ≤ PyData.depthAll A
  | x :: r, d, h => by
    simp only [PyData.depthAll]
    rcases List.mem_cons.mp h with rfl | h
    · exact Nat.le_max_left ..
    · exact Nat.le_trans (depth_mem h) (Nat.le_max_right ..)
/-- sorted of a list of alike tuples, or of other alike things -/
def rSortG (K : PySem.W.Frag) : List V → Hp → VK → Prop := fun vs H Q => ∃ (a : Addr) (xs : List V) (ds : List PyData) (P : V → PyData → Prop), vs = [V.ref a] ∧ SqL K H a xs ∧ DpAll K H xs ds ∧ EachIs P xs ds ∧ AllAlike ds ∧ Sortable ds ∧ PyData.depthAll ds ≤ 10 ∧
  ∀ (ys : List V) (p : Addr), EachIs P ys (ds.mergeSort (dataLe false id)) → H p = none → Q (.ref p) (upd H p (.lst ys))
theorem each_vals {P : V → PyData → Prop} : ∀ {xs : List V} {us : List Value} {ds : List PyData}, Vals xs us → EachIs P xs ds → EachIs (fun u d => ∃ x, RelV x u ∧ P x d) us ds
  | _, _, _, .nil, .nil => .nil
  | _, _, _, .cons r s, .cons h t => .cons ⟨_, r, h⟩ (each_vals s t)
theorem vals_each {P : V → PyData → Prop} : ∀ {us : List Value} {ds : List PyData}, EachIs (fun u d => ∃ x, RelV x u ∧ P x d) us ds → ∃ xs, Vals xs us ∧ EachIs P xs ds
  | _, _, .nil => ⟨[], .nil, .nil⟩
  | _, _, .cons ⟨x, r, h⟩ t => by
    obtain ⟨xs, a, b⟩ := vals_each t
    exact ⟨x :: xs, .cons r a, .cons h b⟩
theorem each_len {α β : Type} {R : α → β → Prop} : ∀ {as : List α} {bs : List β}, EachIs R as bs → as.length = bs.length
  | _, _, .nil => rfl
  | _, _, .cons _ t => by rw [List.length_cons, List.length_cons, each_len t]
theorem each_reads {h : Heap} : ∀ {us : List Value} {ds : List PyData} {as : List Addr}, ReadsAll h us ds as → EachIs (fun v d => ∃ as, Reads h v d as) us ds
  | _, _, _, .nil => .nil
  | _, _, _, .cons r s => .cons ⟨_, r⟩ (each_reads s)
theorem each_imp {α β : Type} {R S : α → β → Prop} (f : ∀ a b, R a b → S a b) : ∀ {as : List α} {bs : List β}, EachIs R as bs → EachIs S as bs
  | _, _, .nil => .nil
  | _, _, .cons r t => .cons (f _ _ r) (each_imp f t)
theorem cr_sortG {X : Cx} (hu : X.A.units + 64 < cLine) : CallR X (.builtin "sorted") (rSortG X.K) := by
  intro pins s σ H vs us Q I r h
  obtain ⟨a, xs, ds, P, rfl, hs, hd, hp, ha, hk, hl, q⟩ := h
  obtain ⟨its, rv, hl2, hz⟩ := I.list hs
  rw [Vals.ref1 r]
  obtain ⟨as, hr⟩ := Dp.readsAll I ds xs its hd rv
  have hz' : its.length ≤ sizeLine := by rw [← rv.length]; exact hz
  have eR := each_reads hr
  have eS : EachIs (fun v d => ∃ as, Reads ((PySem.W.sortingHeap (PySem.W.copyHeap s.heap its) (s.heap.objs.size + 1) its)) v d as) its ds := each_imp (fun v d ⟨as, z⟩ => ⟨as, Reads.keeps (fun b o e => PySem.W.sorting_copy_old e) z⟩) eR
  have dep : ∀ d, d ∈ ds → X.A.in1.in1.units + d.depth < cLine := fun d hd => by
    have h1 : d.depth ≤ PyData.depthAll ds := depth_mem hd
    show X.A.units + 1 + 1 + d.depth < cLine
    omega
  have S := PySem.W.SortsAt.data (prog := X.prog) (w := X.w) (A := X.A.in1.in1) (s := { s with heap := PySem.W.sortingHeap (PySem.W.copyHeap s.heap its) (s.heap.objs.size + 1) its }) eS ha hk dep
  refine PySem.W.sorted_vals hl2.isList S hz' ?_
  have ko : KeyedOut false (ds.map id) its (PySem.W.sortVals (PySem.W.dataKind (PySem.W.sortingHeap (PySem.W.copyHeap s.heap its) (s.heap.objs.size + 1) its) ds) false its its) := by
    rw [List.map_id]
    exact ⟨_, its, ha, rfl, eS⟩
  have eo := PySem.W.keyedOut_each id ko (each_vals rv hp)
  generalize PySem.W.sortVals (PySem.W.dataKind (PySem.W.sortingHeap (PySem.W.copyHeap s.heap its) (s.heap.objs.size + 1) its) ds) false its its = out at *
  obtain ⟨ys, v1, e1⟩ := vals_each eo
  obtain ⟨ep, he'⟩ := PyProof.Rows.sortedAll_at s.heap its out.toArray
  have hlen : ys.length ≤ sizeLine := by
    rw [each_len e1, List.length_mergeSort, ← each_len hp]
    exact hz
  exact ⟨.ref _, upd H (s.heap.objs.size + 1) (.lst ys), I.laid (t' := s.toks) (fun _ _ => PyProof.Rows.sortedAll_old) (Nat.le_succ _) ⟨hlen, out, ep, v1, he'⟩, rfl, q _ _ e1 (I.hok.fresh (Nat.le_succ _))⟩
/-! as pieces -/
theorem dfs_at {T : Tb} {H : Hp} {F : Reg} {xs : List V} {ds : List PyData} {i : Nat} {x : V} {d : PyData} (s : DFs T.K H F xs ds) (hx : xs[i]? = some x) (hd : ds[i]? = some d) : DF T.K H F x d := by
  obtain ⟨e, h1, h2⟩ := s.get2 hx
  rw [hd] at h1
  cases h1
  exact h2
def minAD : PyData → Option R
  | .list (d :: ds) => if alkB (d :: ds) = true ∧ PyData.canLayAll0 (d :: ds) = true ∧ PyData.depthAll (d :: ds) ≤ 10 then some (.dat (PySem.W.minD d ds)) else none
  | _ => none
theorem minAD_is {d : PyData} {ds : List PyData} (h : ∀ x ∈ d :: ds, ∀ y ∈ d :: ds, alike x y = true) (n : ∀ x ∈ d :: ds, x ≠ .none) (l : PyData.canLayAll0 (d :: ds) = true) (k : PyData.depthAll (d :: ds) ≤ 10) : minAD (.list (d :: ds)) = some (.dat (PySem.W.minD d ds)) := if_pos ⟨alkB_is h n, l, k⟩
theorem does_minA {T : Tb} : DoesN T (rMinA T.K) (on1 minAD) := does1_on fun x d z H F Q lv hx hg hq => by
  unfold minAD at hg
  split at hg
  · rename_i d ds
    split at hg
    · rename_i hz
      cases hg
      obtain ⟨a, vs, rfl, h3, s1⟩ := hx.lst
      exact ⟨a, vs, d, ds, rfl, h3.sq, s1.dp hz.2.1, alkB_of hz.1, hz.2.2, fun i x hx hd => hq _ H F .refl (dfs_at s1 hx hd)⟩
    · cases hg
  · cases hg
def sorB (ds : List PyData) : Bool := ds.all (fun d => match d with | .tuple (_ :: _) => true | _ => false)
theorem sorB_of {ds : List PyData} (h : sorB ds = true) : Sortable ds := by
  refine .inl fun d hd => ?_
  have := List.all_eq_true.mp h d hd
  split at this
  · exact ⟨_, _, rfl⟩
  · cases this
def sortGD : PyData → Option R
  | .list ds => if alkB ds = true ∧ sorB ds = true ∧ PyData.canLayAll0 ds = true ∧ PyData.depthAll ds ≤ 10 then some (.own (.list (ds.mergeSort (dataLe false id)))) else none
  | .tuple _ => none
  | _ => none
theorem sortGD_is {ds : List PyData} (h : ∀ x ∈ ds, ∀ y ∈ ds, alike x y = true) (n : ∀ x ∈ ds, ∃ y r, x = .tuple (y :: r)) (l : PyData.canLayAll0 ds = true) (k : PyData.depthAll ds ≤ 10) : sortGD (.list ds) = some (.own (.list (ds.mergeSort (dataLe false id)))) := by
  have h1 : alkB ds = true := alkB_is h fun x hx e => by
    obtain ⟨y, r, h⟩ := n x hx
    rw [e] at h
    cases h
  have h2 : sorB ds = true := List.all_eq_true.mpr fun x hx => by
    obtain ⟨y, r, rfl⟩ := n x hx
    rfl
  exact if_pos ⟨h1, h2, l, k⟩
theorem each_dfs {T : Tb} {H : Hp} {F : Reg} : ∀ {xs : List V} {ds : List PyData}, DFs T.K H F xs ds → EachIs (fun x d => DF T.K H F x d) xs ds
  | _, _, .nil => .nil
  | _, _, .cons h t => .cons h (each_dfs t)
theorem dfs_each {T : Tb} {H : Hp} {F : Reg} : ∀ {xs : List V} {ds : List PyData}, EachIs (fun x d => DF T.K H F x d) xs ds → DFs T.K H F xs ds
  | _, _, .nil => .nil
  | _, _, .cons h t => .cons h (dfs_each t)
theorem does_sortG {T : Tb} : DoesN T (rSortG T.K) (on1 sortGD) := does1_on fun x d z H F Q lv hx hg hq => by
  unfold sortGD at hg
  split at hg
  · rename_i ds
    split at hg
    · rename_i hz
      cases hg
      obtain ⟨a, vs, rfl, h3, s1⟩ := hx.lst
      exact ⟨a, vs, ds, _, rfl, h3.sq, s1.dp hz.2.2.1, each_dfs s1, fun x hx y hy => (alkB_of hz.1).1 x hx y hy, sorB_of hz.2.1, hz.2.2.2, fun ys p e hn => hq _ _ F (.laid hn) (resN_lst hn (fun q => lv p q hn) (dfs_each e))⟩
    · cases hg
  · cases hg
  · cases hg
/-! min(.., default=d) of ints -/
def minDf (ns : List Int) (d : Int) : Int := if ns = [] then d else minL ns
def rMinDf (K : PySem.W.Frag) : List V → List V → Hp → VK → Prop := fun vs zs H Q => ∃ (a : Addr) (ns : List Int) (d : Int), vs = [V.ref a] ∧ zs = [V.int d] ∧ SqL K H a (ns.map V.int) ∧ Q (.int (minDf ns d)) H
theorem fold_minL : ∀ (ns : List Int) (n : Int), ns.foldl min n = minL (n :: ns)
  | [], n => rfl
  | m :: r, n => by
    have a := fold_minL r (min n m)
    rw [List.foldl_cons, a]
    have h1 := minL_is (ns := min n m :: r) (by simp)
    have h2 := minL_is (ns := n :: m :: r) (by simp)
    apply Int.le_antisymm
    · rcases List.mem_cons.mp h2.1 with e | e
      · have := h1.2 (min n m) (List.mem_cons_self ..); omega
      · rcases List.mem_cons.mp e with e | e
        · have := h1.2 (min n m) (List.mem_cons_self ..); omega
        · exact h1.2 _ (List.mem_cons_of_mem _ e)
    · rcases List.mem_cons.mp h1.1 with e | e
      · have x1 := h2.2 n (List.mem_cons_self ..)
        have x2 := h2.2 m (List.mem_cons_of_mem _ (List.mem_cons_self ..))
        omega
      · exact h2.2 _ (List.mem_cons_of_mem _ (List.mem_cons_of_mem _ e))
theorem ints_lay : ∀ ns : List Int, PyData.canLayAll0 (ns.map PyData.int) = true ∧ PyData.depthAll (ns.map PyData.int) = 0
  | [] => ⟨rfl, rfl⟩
  | n :: r => by
    obtain ⟨a, b⟩ := ints_lay r
    refine ⟨?_, ?_⟩
    · rw [List.map_cons]; simp only [PyData.canLayAll0, PyData.canLay0, a, Bool.and_true]
    · rw [List.map_cons]; simp only [PyData.depthAll, b, PyData.depth]; rfl
theorem cr_minDf {X : Cx} (hc : X.calm = true) (hu : X.A.units + 64 < cLine) : CallRK X (.builtin "min") [Str.ofString "default"] (rMinDf X.K) := by
  intro pins s σ H vs zs us ws Q I r rz h
  obtain ⟨a, ns, d, rfl, rfl, hs, q⟩ := h
  obtain ⟨its, rv, hl2, _⟩ := I.list hs
  rw [Vals.ref1 r]
  obtain ⟨u, rfl, ru⟩ := vals1 rz
  obtain ⟨t, rfl⟩ := ru
  obtain ⟨l1, l2⟩ := ints_lay ns
  have dd : DpAll X.K H (ns.map V.int) (ns.map PyData.int) := (DFs.of_ints (K := X.K) (H := H) (F := fun _ => False) ns |> fun z => DFs.dp (T := ⟨X.K, X.w, fun _ => 0, fun _ => 0, [], none⟩) z l1)
  obtain ⟨as, hr⟩ := Dp.readsAll I (ns.map PyData.int) (ns.map V.int) its dd rv
  have al : PySem.W.AlikeAll (ns.map PyData.int) := by
    refine ⟨fun x hx y hy => ?_, fun x hx e => ?_⟩
    · obtain ⟨i, _, rfl⟩ := List.mem_map.mp hx
      obtain ⟨j, _, rfl⟩ := List.mem_map.mp hy
      simp only [alike]
    · obtain ⟨i, _, rfl⟩ := List.mem_map.mp hx
      cases e
  refine PySem.W.min_list_default (I.ok.hd hc) hl2.isList (vs := its.toArray) (as := as) hr al (by omega) (fun e h' tk hk => ?_) fun y ys i v h' tk bs e hv hr' hk => ?_
  · have e' : ns = [] := by simpa using e
    subst e'
    exact ⟨.int d, H, I.kept hk, ⟨t, rfl⟩, q⟩
  · match ns, e with
    | n :: r, e =>
      rw [List.map_cons] at e
      injection e with e1 e2
      subst e1 e2
      rw [PySem.W.minD_ints, fold_minL] at hr'
      cases hr' with
      | int _ t' => exact ⟨.int (minL (n :: r)), H, I.kept hk, ⟨t', rfl⟩, q⟩
/-- min(a, default=b) -/
def mdM (f g : EM) : EM := fun ρ => bindO (f ρ) fun r ρ1 => bindO (g ρ1) fun s ρ2 => match val ρ2 r, s with
  | some (.list ds), .dat (.int d) => (intsOf ds).map fun ns => .ok (.dat (.int (minDf ns d))) ρ2
  | _, _ => none
section
variable {X : Cx} {T : Tb} {W : WX} {n : Nat} {N : List Str} {sc : Scope} {a b e : Expr} {fa fb : EM} {f : AM} {p pos kp : Pos}
theorem e_minA (l : At X N sc) (c : Cxt X T W n) (hx : gnB sc "min" = true) (hm : X.mg "min" = none) (ha : SA X T W [e] f) (he : starEach [e] X.env = (false, eval e X.env) :: starEach [] X.env := by rfl) : SE X T W (.Call (.Name "min" p) [e] [] pos) (opnM (on1 minAD) f) :=
  se_b l hx (c.hK ▸ cr_minA c.calm c.room.units) does_minA hm (by decide +kernel) ha he rfl
theorem e_sortG (l : At X N sc) (c : Cxt X T W n) (hx : gnB sc "sorted" = true) (hm : X.mg "sorted" = none) (ha : SA X T W [e] f) (he : starEach [e] X.env = (false, eval e X.env) :: starEach [] X.env := by rfl) : SE X T W (.Call (.Name "sorted" p) [e] [] pos) (opnM (on1 sortGD) f) :=
  se_b l hx (c.hK ▸ cr_sortG c.room.units) does_sortG hm (by decide +kernel) ha he rfl
theorem e_minDf (l : At X N sc) (c : Cxt X T W n) (hx : gnB sc "min" = true) (hm : X.mg "min" = none) (ha : SE X T W a fa) (hb : SE X T W b fb) (na : starEach [a] X.env = (false, eval a X.env) :: starEach [] X.env := by rfl) (he : backTo pos (starEach [a] X.env) = (false, eval a X.env) :: backTo pos (starEach [] X.env) := by rfl) (hpl : (backTo pos (starEach [a] X.env)).any (·.1) = false := by rfl) :
    SE X T W (.Call (.Name "min" p) [a] [⟨some "default", b, kp⟩] pos) (mdM fa fb) := by
  have key := pe_callBK (p := p) (pos := pos) (c.hK ▸ cr_minDf (X := X) c.calm c.room.units : CallRK X (.builtin "min") [Str.ofString "default"] (rMinDf T.K)) (l.gl hx).1 hm (by decide +kernel) (pa_cons ha pa_nil na) (pk_cons (nm := some "default") (kpos := kp) hb pk_nil) (l.gl hx).2.2 (l.gl hx).2.1 he hpl
  refine pe_imp key fun σ H Q ⟨ρ, F, O, E, P⟩ => ?_
  refine stp .refl E P fun v H1 r ρ1 F1 O1 x1 y1 E1 r1 P1 => ?_
  refine stp y1 E1 P1 fun u H2 s ρ2 F2 O2 x2 y2 E2 r2 P2 => ?_
  split at P2
  · rename_i d ds j e1
    cases q : intsOf ds with
    | none => rw [q] at P2; exact P2.elim
    | some ns =>
      rw [q] at P2
      obtain ⟨a', vs, rfl, h3, s1⟩ := (val_vw E2 (r1.mono E1 x2) e1).lst
      rw [intsOf_eq q] at s1
      exact ⟨a', ns, _, rfl, by rw [int_of r2], by rw [← s1.ints]; exact h3.sq, P2 _ H2 F2 O2 y2 E2 (.int _)⟩
  · exact P2.elim
end
@[simp] theorem mdM_e (f g : EM) (ρ : Rho) : mdM f g ρ = bindO (f ρ) fun r ρ1 => bindO (g ρ1) fun s ρ2 => match val ρ2 r, s with
  | some (.list ds), .dat (.int d) => (intsOf ds).map fun ns => .ok (.dat (.int (minDf ns d))) ρ2
  | _, _ => none := eqI rfl
end DL

/-! D50: dicts by tuples of whole numbers: looked up, stored, walked by values and items. -/
namespace DL
open PySem PySem.Spec PyProof.Rows
open L2 hiding Sp

theorem map_inl (k : List Int) : (k.map (Sum.inl : Int → Key)).map kV = k.map V.int := by rw [List.map_map]; rfl
theorem hash_ints {P P' : Program} {w w' : World} (k : List Int) : (tupleKind (mixKind P w)).hash (k.map Sum.inl) = (tupleKind (mixKind P' w')).hash (k.map Sum.inl) := by
  show tupleKeyHash (mixKind P w) _ = tupleKeyHash (mixKind P' w') _
  unfold tupleKeyHash
  rw [List.map_map, List.map_map]
  rfl
section
variable {X : Cx} {pins : List (Addr × Obj)} {σ : L2.St} {H : Hp} {s : Shared} {F : Reg}
theorem key_ofS (I : L2.Inv X pins σ H s) {q : Addr} {k : List Int} (e : SqT X.K H q (k.map V.int)) : (tupleKind (mixKind X.prog X.w)).is s.heap (k.map Sum.inl) q := by
  obtain ⟨its, rv, ⟨o, h1, h2, n, h3⟩, _⟩ := I.tuple e
  refine ⟨o, its.toArray, n, h1, h2, h3, ?_⟩
  rw [← map_inl] at rv
  simpa using items_are rv
theorem dft_is (I : L2.Inv X pins σ H s) : ∀ {xs : List Ent} {ds : List (PyData × PyData)}, DFt X.K H F xs ds → ∀ x ∈ xs, (tupleKind (mixKind X.prog X.w)).is s.heap x.1 x.2.1
  | _, _, .nil, x, h => by cases h
  | _, _, .cons q _ _ b, x, h => by
    rcases List.mem_cons.mp h with rfl | h
    · exact key_ofS I q
    · exact dft_is I b x h
/-- the library's view -/
theorem to_dict (I : L2.Inv X pins σ H s) {a : Addr} {o : Obj} {xs : List Ent} {ds : List (PyData × PyData)} (h : H a = some (DTo a o)) (e : EsOk a o xs) (d : DFt X.K H F xs ds) : s.heap.DictOfH (tupleKind (mixKind X.prog X.w)) a xs := by
  obtain ⟨es, ep, hd, he⟩ := e.es
  exact ⟨o, es, ep, (I.hok a _ h).1, e.ex, hd, he _ _, dft_is I d, e.nd⟩
theorem dTo_ok {P : Program} {w : World} {H : Hp} {h : Heap} {a : Addr} {o : Obj} (e : h.get? a = some o) : ObjOk P w H h a (DTo a o) :=
  ⟨e, ⟨o, e⟩, fun h1 h2 e1 k => k o e1⟩
end

/-! ### what stands at a key -/
/-- a key by a tuple of whole numbers -/
def keyT : PyData → Option (List Int)
  | .tuple ds => intsOf ds
  | _ => none
@[simp] theorem keyT_k (k : List Int) : keyT (kT k) = some k := by show intsOf _ = _; rw [intsOf_map]
theorem keyT_ex {d : PyData} {k : List Int} (h : keyT d = some k) : d = kT k := by
  unfold keyT at h
  split at h
  · rw [intsOf_eq h]; rfl
  · cases h
def atT : List (PyData × PyData) → List Int → Option PyData
  | [], _ => none
  | (k, d) :: r, y => if keyT k = some y then some d else atT r y
theorem inl_inj {k j : List Int} (h : k.map (Sum.inl : Int → Key) = j.map Sum.inl) : k = j := by
  have := List.map_inj_right (f := (Sum.inl : Int → Key)) (fun a b h => Sum.inl.inj h) |>.mp h
  exact this
theorem atT_dft {K : PySem.W.Frag} {H : Hp} {F : Reg} (k : List Int) : ∀ {xs : List Ent} {ds : List (PyData × PyData)} {d : PyData}, DFt K H F xs ds → atT ds k = some d → ∃ q u v, atKey xs (k.map Sum.inl) = some (q, u) ∧ L2.RelV v u ∧ DF K H F v d
  | _, _, _, .nil, h => by cases h
  | _, _, d, .cons (k := k') (q := q) (v := v) (u := u) a r b c, h => by
    unfold atT at h
    rw [keyT_k] at h
    by_cases e : k' = k
    · subst e
      rw [if_pos rfl] at h
      cases h
      refine ⟨q, u, v, ?_, r, b⟩
      unfold atKey
      rw [List.find?_cons_of_pos (by simp)]
      rfl
    · rw [if_neg (by simpa using e)] at h
      obtain ⟨q', u', v', h1, h2, h3⟩ := atT_dft k c h
      refine ⟨q', u', v', ?_, h2, h3⟩
      unfold atKey at h1 ⊢
      rw [List.find?_cons_of_neg (by simp only [decide_eq_true_eq]; exact fun z => e (inl_inj z))]
      exact h1
theorem atT_none {K : PySem.W.Frag} {H : Hp} {F : Reg} (k : List Int) : ∀ {xs : List Ent} {ds : List (PyData × PyData)}, DFt K H F xs ds → atT ds k = none → atKey xs (k.map Sum.inl) = none
  | _, _, .nil, _ => rfl
  | _, _, .cons (k := k') a r b c, h => by
    unfold atT at h
    rw [keyT_k] at h
    by_cases e : k' = k
    · subst e
      rw [if_pos rfl] at h
      cases h
    · rw [if_neg (by simpa using e)] at h
      have := atT_none k c h
      unfold atKey at this ⊢
      rw [List.find?_cons_of_neg (by simp only [decide_eq_true_eq]; exact fun z => e (inl_inj z))]
      exact this
theorem atT_dfk {K : PySem.W.Frag} {H : Hp} {F : Reg} (k : List Int) : ∀ {xs : List (Key × V)} {ds : List (PyData × PyData)}, DFk K H F xs ds → atT ds k = none
  | _, _, .nil => rfl
  | _, _, .cons (k := k0) a b => by
    unfold atT
    rw [if_neg (by cases k0 <;> simp [keyT, kD])]
    exact atT_dfk k b
def rIxT (K : PySem.W.Frag) : R2 := fun x y H Q => ∃ (a q : Addr) (o : Obj) (xs : List Ent) (k : List Int) (ds : List (PyData × PyData)) (F : Reg) (b : Addr) (u : Value) (v : V), x = .ref a ∧ y = .ref q ∧ H a = some (DTo a o) ∧ EsOk a o xs ∧ DFt K H F xs ds ∧ SqT K H q (k.map V.int) ∧ atKey xs (k.map Sum.inl) = some (b, u) ∧ L2.RelV v u ∧ Q v H
theorem ix_dT {X : Cx} (hu : X.A.units + 1 < cLine) : IxR X (rIxT X.K) := by
  intro value slice pins s σ H x y v u Q I rx ry h hs
  obtain ⟨a, q, o, xs, k, ds, F, b, u', v', rfl, rfl, e, ee, dd, sq, hk, rv, hq⟩ := h
  obtain rfl : v = Value.ref a := rx
  obtain rfl : u = Value.ref q := ry
  have D := to_dict I e ee dd
  exact tail_any D.typeIs slot_dict_getitem.lookup (wpAny_getItem_heap (tupleKind_room_in1 hu) (key_ofS I sq) D hk ⟨v', H, I.tok _, rv, hq⟩) hs
/-- an item of a list, tuple, text or dict, by tuples too -/
def dIxB : PyData → PyData → Option R
  | .dict ds, .tuple ks => match intsOf ks with
    | some k => (atT ds k).map R.dat
    | none => none
  | d, e => dIxA d e
theorem does_ixB {T : Tb} : Does2 T (fun x y H Q => (rIx T.K x y H Q ∨ rIxK x y H Q) ∨ rIxT T.K x y H Q) dIxB := by
  intro x y d e z H F Q lv hx hy hg hq
  unfold dIxB at hg
  split at hg
  · rename_i ds ks
    split at hg
    · rename_i k hk
      obtain ⟨d', e1, rfl⟩ := Option.map_eq_some_iff.mp hg
      rw [intsOf_eq hk] at hy
      obtain ⟨q, us, rfl, sq, su⟩ := hy.tup
      rw [su.ints] at sq
      obtain ⟨a, rfl, ⟨ks', h1, s1⟩ | ⟨o, xs, h1, ee, s1⟩⟩ := hx.dctA
      · rw [atT_dfk k s1] at e1
        cases e1
      · obtain ⟨b, u, v, h2, h3, h4⟩ := atT_dft k s1 e1
        exact .inr ⟨a, q, o, xs, k, ds, F, b, u, v, rfl, rfl, h1, ee, s1, sq, h2, h3, hq _ H F .refl h4⟩
    · cases hg
  · exact .inl (does_ixA x y d e z H F Q lv hx hy hg hq)
section
variable {X : Cx} {T : Tb} {W : WX} {n : Nat} {a b : Expr} {fa fb : EM} {pos : Pos}
theorem e_ixB (c : Cxt X T W n) (ha : SE X T W a fa) (hb : SE X T W b fb) (hs : PlainIx b := by exact fun _ _ => rfl) : SE X T W (.Subscript a b pos) (op2M dIxB fa fb) :=
  se_ix (((c.hK ▸ ix_seq (X := X)).or ix_dK).or (c.hK ▸ ix_dT (X := X) (by have := c.room.units; omega))) does_ixB hs ha hb
end
end DL

/-! D51: dicts stored into. -/
namespace DL
open PySem PySem.Spec PyProof.Rows
open L2 hiding Sp

/-- empty, or by tuples, with these entries -/
def TSt (K : PySem.W.Frag) (H : Hp) (a : Addr) (xs : List Ent) : Prop := (xs = [] ∧ H a = some (.dK [])) ∨ ∃ o ds F, H a = some (DTo a o) ∧ EsOk a o xs ∧ DFt K H F xs ds
section
variable {X : Cx} {pins : List (Addr × Obj)} {σ : L2.St} {H : Hp} {s : Shared} {A : Around} {E : Value → Shared → Prop}
theorem tst_A (I : L2.Inv X pins σ H s) {a : Addr} (h : H a = some (.dK [])) : (a == sysModules) = false ∧ s.heap.DictOfH (tupleKind (mixKind X.prog X.w)) a [] := by
  obtain ⟨z, hd, vs, rel, o, es, ep, h1, h2, h3, _, h5, _⟩ := dk_of I.hok h
  cases rel
  have hes : es.toList = [] := by
    cases q : es.toList with
    | nil => rfl
    | cons a b => rw [q] at h5; cases h5
  exact ⟨hd, o, es, ep, h1, h2, h3, hes, fun x hx => absurd hx List.not_mem_nil, List.nodup_nil⟩
theorem tst_B {a : Addr} (h : H a = some (.dK [])) : Mut (H a) := by rw [h]; exact True.intro
theorem tst_C {a : Addr} {o : Obj} (h : H a = some (DTo a o)) : Mut (H a) := by rw [h]; exact True.intro
theorem tst_D {a : Addr} {o : Obj} {xs : List Ent} (e : EsOk a o xs) : ∀ P w, xs.map (entryOfKey (tupleKind (mixKind P w))) = xs.map (entryOfKey (tupleKind (mixKind X.prog X.w))) := by
  obtain ⟨es, ep, _, he⟩ := e.es
  intro P w
  rw [← he P w, ← he X.prog X.w]
theorem tst_dict (I : L2.Inv X pins σ H s) {a : Addr} {xs : List Ent} (t : TSt X.K H a xs) : (a == sysModules) = false ∧ s.heap.DictOfH (tupleKind (mixKind X.prog X.w)) a xs ∧ Mut (H a) ∧ ∀ P w, xs.map (entryOfKey (tupleKind (mixKind P w))) = xs.map (entryOfKey (tupleKind (mixKind X.prog X.w))) := by
  rcases t with ⟨rfl, h⟩ | ⟨o, ds, F, h, e, d⟩
  · have z := tst_A I h
    exact ⟨z.1, z.2, tst_B h, fun P w => by rw [List.map_nil, List.map_nil]⟩
  · exact ⟨e.sm, to_dict I h e d, tst_C h, tst_D e⟩
/-- d[y] = v, y not there -/
theorem d_setT {a q : Addr} {k : List Int} {xs : List Ent} {r : Value} {Q : Unit → Shared → Prop} (hu : A.units + 1 < cLine) (I : L2.Inv X pins σ H s) (sq : SqT X.K H q (k.map V.int)) (t : TSt X.K H a xs) (hn : atKey xs (k.map Sum.inl) = none) (hl : xs.length < sizeLine)
    (h : ∀ o' s', EsOk a o' (xs ++ [(k.map Sum.inl, q, r)]) → L2.Inv X pins σ (upd H a (DTo a o')) s' → Q () s') : wpAny (model X.prog X.w) A (setItem (.ref a) (.ref q) r) Q E s := by
  obtain ⟨sm, D, mu, hh⟩ := tst_dict I t
  refine wpAny_setItem_heap (hsz := Nat.le_of_lt hl) (tupleKind_room_in1 hu) (key_ofS I sq) D fun h' dd' hs => ?_
  rw [storedH_new hn] at dd'
  obtain ⟨o', es, ep, hq, h2, h3, h4, _, h5⟩ := dd'
  refine h o' _ ⟨sm, h2, ⟨es, ep, h3, fun P w => ?_⟩, h5, by rw [List.length_append, List.length_singleton]; omega, by simp⟩ (d_write I mu hs ⟨o', hq⟩ (dTo_ok hq))
  rw [h4, List.map_append, List.map_append, hh P w, List.map_singleton, List.map_singleton]
  congr 2
  unfold entryOfKey
  rw [hash_ints k]
end
def sTPut (K : PySem.W.Frag) (td ty tv : TE) : TS := fun D σ H => tv σ H fun v H1 => td σ H1 fun x H2 => ty σ H2 fun y H3 => ∃ a, x = .ref a ∧ ((∃ H4, DPut H3 a y v H4 ∧ D.nx σ H4) ∨
  ∃ (q : Addr) (k : List Int) (xs : List Ent), y = .ref q ∧ SqT K H3 q (k.map V.int) ∧ TSt K H3 a xs ∧ atKey xs (k.map Sum.inl) = none ∧ xs.length < sizeLine ∧ ∀ u o', L2.RelV v u → EsOk a o' (xs ++ [(k.map Sum.inl, q, u)]) → D.nx σ (upd H3 a (DTo a o')))
theorem ps_tput {X : Cx} {o i value : Expr} {pos pos' : Pos} {td ty tv : TE} (hu : X.A.units + 1 < cLine) (ho : PE X o td) (hi : PE X i ty) (hv : PE X value tv) (hs : swapsWith value (some (.Subscript o i pos')) pos.line X.env = pure false) :
    PS X (.Assign [.Subscript o i pos'] value pos) (sTPut X.K td ty tv) := by
  refine ⟨fun pins s σ H D I h => ?_⟩
  refine wpAny_Assign_Subscript (thn (hv.run pins s σ H _ I h) fun r s1 ⟨v, H1, I1, rv, q1⟩ => thn (ho.run pins s1 σ H1 _ I1 q1) fun u s2 ⟨x, H2, I2, rx, q2⟩ => thn (hi.run pins s2 σ H2 _ I2 q2) fun iv s3 ⟨y, H3, I3, ry, a, ex, g⟩ => ?_) hs
  subst ex
  obtain rfl : u = Value.ref a := rx
  rcases g with ⟨H4, g, q3⟩ | ⟨q, k, xs, rfl, sq, t, hn, hl, q3⟩
  · exact d_setItem hu I3 g ry rv fun s4 I4 => ⟨σ, H4, I4, q3⟩
  · obtain rfl : iv = Value.ref q := ry
    exact d_setT hu I3 sq t hn hl fun o' s4 e I4 => ⟨σ, _, I4, q3 r o' rv e⟩

/-! ### as a piece -/
def isDict : Option (Option R) → Bool
  | some (some (.own (.dict _))) => true
  | _ => false
theorem isDict_ex {x : Option (Option R)} (h : isDict x = true) : ∃ ds, x = some (some (.own (.dict ds))) := by
  unfold isDict at h
  split at h
  · exact ⟨_, rfl⟩
  · cases h
/-- by ints and texts (or empty) -/
def isKD : List (PyData × PyData) → Bool
  | [] => true
  | (k, _) :: _ => isKey k
/-- by tuples -/
def isTD : List (PyData × PyData) → Bool
  | [] => false
  | (k, _) :: _ => (keyT k).isSome
def putD (ds : List (PyData × PyData)) (k d : PyData) : List (PyData × PyData) := if (ds.any fun p => keq p.1 k) = true then ds.map (fun p => if keq p.1 k = true then (p.1, d) else p) else ds ++ [(k, d)]
def setKR (s : Nat) (d : PyData) (y : Option PyData) (ρ : Rho) : Option (Option R) → Option Ot
  | some (some (.own (.dict ds))) => match y with
    | some y => if ds.length < lim then (if isKey y = true then (if isKD ds = true then some (.nx (ρ.set s (some (.own (.dict (putD ds y d)))))) else none) else match keyT y with
        | some k => if (ds.isEmpty || isTD ds) = true ∧ atT ds k = none then some (.nx (ρ.set s (some (.own (.dict (ds ++ [(y, d)])))))) else none
        | none => none) else none
    | none => none
  | _ => none
def setKM (s : Nat) (fi fe : EM) : SM := fun ρ => bindS (fe ρ) fun r ρ1 => match frz ρ1 r with
  | some (d, ρ2) => if isDict ρ2[s]? = true then bindS (fi ρ2) fun ri ρ3 => setKR s d (val ρ3 ri) ρ3 ρ3[s]? else none
  | none => none
@[simp] theorem isDict_e (ds : List (PyData × PyData)) : isDict (some (some (.own (.dict ds)))) = true := eqI rfl
@[simp] theorem setKM_e (s : Nat) (fi fe : EM) (ρ : Rho) : setKM s fi fe ρ = bindS (fe ρ) fun r ρ1 => bindF (frz ρ1 r) fun d ρ2 => pick (isDict ρ2[s]?) (fun ρ => bindS (fi ρ) fun ri ρ3 => setKR s d (val ρ3 ri) ρ3 ρ3[s]?) (fun _ => none) ρ2 := eqI rfl
theorem setKR_k {s : Nat} {d y : PyData} {ρ : Rho} {ds : List (PyData × PyData)} (h : ds.length < 100000) (hk : isKey y = true) (hd : isKD ds = true) : setKR s d (some y) ρ (some (some (.own (.dict ds)))) = some (.nx (ρ.set s (some (.own (.dict (putD ds y d)))))) := by
  show (if ds.length < lim then (if isKey y = true then (if isKD ds = true then _ else none) else _) else none) = _
  rw [if_pos h, if_pos hk, if_pos hd]
theorem setKR_t {s : Nat} {d : PyData} {k : List Int} {ρ : Rho} {ds : List (PyData × PyData)} (h : ds.length < 100000) (hd : (ds.isEmpty || isTD ds) = true) (hn : atT ds k = none) : setKR s d (some (kT k)) ρ (some (some (.own (.dict ds)))) = some (.nx (ρ.set s (some (.own (.dict (ds ++ [(kT k, d)])))))) := by
  show (if ds.length < lim then (if isKey (kT k) = true then _ else match keyT (kT k) with | some k' => (if (ds.isEmpty || isTD ds) = true ∧ atT ds k' = none then some (Ot.nx (ρ.set s (some (.own (.dict (ds ++ [(kT k, d)])))))) else none) | none => none) else none) = _
  rw [if_pos h, if_neg (by show ¬ (isKey (.tuple _) = true); simp [isKey]), keyT_k]
  exact if_pos ⟨hd, hn⟩
theorem any_dfk {K : PySem.W.Frag} {H : Hp} {F : Reg} (k : Key) : ∀ {ks : List (Key × V)} {ds : List (PyData × PyData)}, DFk K H F ks ds → (ks.any fun kv => decide (kv.1 = k)) = ds.any fun p => keq p.1 (kD k)
  | _, _, .nil => rfl
  | _, _, .cons a b => by rw [List.any_cons, List.any_cons, any_dfk k b, keq_kD]
theorem DFk.repl {K : PySem.W.Frag} {H : Hp} {F : Reg} {k : Key} {v : V} {d : PyData} (hd : DF K H F v d) : ∀ {ks : List (Key × V)} {ds : List (PyData × PyData)}, DFk K H F ks ds → DFk K H F (ks.map fun kv => if kv.1 = k then (kv.1, v) else kv) (ds.map fun p => if keq p.1 (kD k) = true then (p.1, d) else p)
  | _, _, .nil => .nil
  | _, _, .cons (k := j) a b => by
    rw [List.map_cons, List.map_cons]
    simp only [keq_kD]
    by_cases e : j = k
    · rw [if_pos e, if_pos (by simpa using e)]
      exact .cons hd (DFk.repl hd b)
    · rw [if_neg e, if_neg (by simpa using e)]
      exact .cons a (DFk.repl hd b)
theorem DFk.append {K : PySem.W.Frag} {H : Hp} {F : Reg} : ∀ {ks js : List (Key × V)} {ds es : List (PyData × PyData)}, DFk K H F ks ds → DFk K H F js es → DFk K H F (ks ++ js) (ds ++ es)
  | _, _, _, _, .nil, h => h
  | _, _, _, _, .cons a b, h => .cons a (DFk.append b h)
theorem DFk.put {K : PySem.W.Frag} {H : Hp} {F : Reg} {k : Key} {v : V} {d : PyData} {ks : List (Key × V)} {ds : List (PyData × PyData)} (h : DFk K H F ks ds) (hd : DF K H F v d) : DFk K H F (putK ks k v) (putD ds (kD k) d) := by
  unfold putK putD
  rw [any_dfk k h]
  split
  · exact DFk.repl hd h
  · exact h.append (.cons hd .nil)
theorem DFt.append {K : PySem.W.Frag} {H : Hp} {F : Reg} : ∀ {ks js : List Ent} {ds es : List (PyData × PyData)}, DFt K H F ks ds → DFt K H F js es → DFt K H F (ks ++ js) (ds ++ es)
  | _, _, _, _, .nil, h => h
  | _, _, _, _, .cons q r a b, h => .cons q r a (DFt.append b h)
theorem DFk.length {K : PySem.W.Frag} {H : Hp} {F : Reg} : ∀ {ks : List (Key × V)} {ds : List (PyData × PyData)}, DFk K H F ks ds → ks.length = ds.length
  | _, _, .nil => rfl
  | _, _, .cons _ b => by rw [List.length_cons, List.length_cons, DFk.length b]
theorem DFt.length {K : PySem.W.Frag} {H : Hp} {F : Reg} : ∀ {ks : List Ent} {ds : List (PyData × PyData)}, DFt K H F ks ds → ks.length = ds.length
  | _, _, .nil => rfl
  | _, _, .cons _ _ _ b => by rw [List.length_cons, List.length_cons, DFt.length b]
theorem kd_dft {K : PySem.W.Frag} {H : Hp} {F : Reg} {xs : List Ent} {ds : List (PyData × PyData)} (h : DFt K H F xs ds) (hn : xs ≠ []) : isKD ds = false := by
  cases h with
  | nil => exact absurd rfl hn
  | cons => rfl
theorem td_dfk {K : PySem.W.Frag} {H : Hp} {F : Reg} {xs : List (Key × V)} {ds : List (PyData × PyData)} (h : DFk K H F xs ds) (hd : isTD ds = true) : False := by
  cases h with
  | nil => cases hd
  | @cons k v d vs ds a b => cases k <;> cases hd
theorem own_dct {T : Tb} {H : Hp} {F : Reg} {O : Ows} {σ : L2.St} {ρ : Rho} (E : EnvR T H F O σ ρ) {i : Nat} {ds : List (PyData × PyData)} (h : ρ[i]? = some (some (.own (.dict ds)))) : ∃ a, σ[i]? = some (some (.ref a)) ∧ O i = some a ∧ OwnAt T.K H F a (.dict ds) := by
  obtain ⟨v, h1, a, h2, rfl, h3⟩ := E.at_ i _ h
  exact ⟨a, h1, h2, h3⟩
section
variable {X : Cx} {T : Tb} {W : WX} {φ : Fm} {e ei : Expr} {fe fi : EM} {pos p p' : Pos} {s : Nat} {x : Str}
theorem ss_setK (hK : X.K = T.K) (hu : X.A.units + 1 < cLine) (he : SE X T W e fe) (ho : PE X (.Name x p) (tVar s)) (hi : SE X T W ei fi) (hs : swapsWith e (some (.Subscript (.Name x p) ei p')) pos.line X.env = pure false := by rfl) :
    SS X T W φ (.Assign [.Subscript (.Name x p) ei p'] e pos) (setKM s fi fe) := by
  refine ps_imp (ps_tput hu ho hi he hs) fun D σ H ⟨ρ, F, O, S, P⟩ => ?_
  refine sps .refl .refl S P fun v H1 r ρ1 F1 O1 x1 y1 S1 r1 P1 => ?_
  cases q : frz ρ1 r with
  | none => rw [q] at P1; exact P1.elim
  | some z =>
    obtain ⟨d, ρ2⟩ := z
    rw [q] at P1
    dsimp only at P1
    obtain ⟨F2, O2, y2, E2, d2, _, sb, _⟩ := fz y1 (fun _ h => h) S1.E r1 q
    have S2 : StR T φ H1 F2 O2 σ ρ2 := ⟨E2, S1.lb, fun j b hj q => S1.lf j b hj (sb j b q)⟩
    split at P1
    · rename_i hi
      obtain ⟨ds0, q0⟩ := isDict_ex hi
      obtain ⟨a, h1, h2, h3⟩ := own_dct E2 q0
      refine ⟨.ref a, h1, ?_⟩
      refine sps y2 .refl S2 P1 fun u H3 ri ρ3 F3 O3 x3 y3 S3 r3 P3 => ?_
      have d3 : DF T.K H3 F3 v d := d2.mono (E2.kept x3) x3.grow
      cases qv : val ρ3 ri with
      | none =>
        rw [qv] at P3
        unfold setKR at P3
        split at P3
        · exact P3.elim
        · exact P3.elim
      | some y =>
        have vy := val_vw S3.E r3 qv
        rw [qv] at P3
        unfold setKR at P3
        split at P3
        · rename_i ds q3
          dsimp only at P3
          split at P3
          · rename_i hl
            obtain ⟨b, g1, g2, g3⟩ := own_dct S3.E q3
            rw [h1] at g1
            cases g1
            refine ⟨a, rfl, ?_⟩
            split at P3
            · rename_i hk
              split at P3
              · rename_i hkd
                obtain ⟨k, rfl⟩ := isKey_ex hk
                obtain rfl : u = kV k := kD_vw vy
                rcases g3 with ⟨ks, e1, e2⟩ | ⟨o, xs, e1, ee, e2⟩
                · refine .inl ⟨_, .k e1 (by rw [e2.length]; exact Nat.lt_of_lt_of_le hl (by decide)), ?_⟩
                  obtain ⟨E4, x4, k4⟩ := S3.E.mut (o := .dK (putK ks k v)) (d' := .dict (putD ds (kD k) d)) (s := true) q3 g2 fun k => .inl ⟨_, upd_same, (e2.put d3).mono k fun _ h => h⟩
                  exact P3 σ _ F3 O3 (y3.trans x4) ⟨E4, fun b h => S3.lb b (x4.live b h), S3.lf⟩ .refl
                · rw [kd_dft e2 ee.ne] at hkd
                  cases hkd
              · exact P3.elim
            · split at P3
              · rename_i k hk
                split at P3
                · rename_i hz
                  rw [keyT_ex hk] at vy
                  obtain ⟨qa, us, rfl, sq, su⟩ := vy.tup
                  rw [su.ints] at sq
                  rw [keyT_ex hk] at P3
                  have fin : ∀ xs, DFt T.K H3 F3 xs ds → TSt T.K H3 a xs → ∃ (q : Addr) (k : List Int) (xs : List Ent), V.ref qa = .ref q ∧ SqT X.K H3 q (k.map V.int) ∧ TSt X.K H3 a xs ∧ atKey xs (k.map Sum.inl) = none ∧ xs.length < sizeLine ∧ ∀ u o', L2.RelV v u → EsOk a o' (xs ++ [(k.map Sum.inl, q, u)]) → D.nx σ (upd H3 a (DTo a o')) := by
                    intro xs dx tx
                    rw [hK]
                    refine ⟨qa, k, xs, rfl, sq, tx, atT_none k dx hz.2, by rw [dx.length]; exact Nat.lt_of_lt_of_le hl (by decide), fun u o' ru eo => ?_⟩
                    obtain ⟨E4, x4, k4⟩ := S3.E.mut (o := DTo a o') (d' := .dict (ds ++ [(kT k, d)])) (s := true) q3 g2 fun kk => .inr ⟨_, _, upd_same, eo, (dx.append (.cons sq ru d3 .nil)).mono kk fun _ h => h⟩
                    exact P3 σ _ F3 O3 (y3.trans x4) ⟨E4, fun b h => S3.lb b (x4.live b h), S3.lf⟩ .refl
                  rcases g3 with ⟨ks, e1, e2⟩ | ⟨o, xs, e1, ee, e2⟩
                  · have hds : ds = [] := by
                      have h1 := hz.1
                      rw [Bool.or_eq_true] at h1
                      rcases h1 with h1 | h1
                      · simpa using h1
                      · exact (td_dfk e2 h1).elim
                    subst hds
                    cases e2
                    exact .inr (fin [] .nil (.inl ⟨rfl, e1⟩))
                  · exact .inr (fin xs e2 (.inr ⟨o, ds, F3, e1, ee, e2⟩))
                · exact P3.elim
              · exact P3.elim
          · exact P3.elim
        · exact P3.elim
    · exact P1.elim
end
end DL

/-! D52: dicts by tuples walked: values, items. -/
namespace DL
open PySem PySem.Spec PyProof.Rows
open L2 hiding Sp

def Itdo (d : Addr) (o : Obj) (vs : List V) : It :=
  ⟨fun i H => H d = some (DTo d o) ∧ i < vs.length, fun i H x H' => H' = H ∧ vs[i]? = some x, fun i H => H d = some (DTo d o) ∧ vs.length ≤ i⟩
def Itio (d : Addr) (o : Obj) (vs : List (Addr × V)) : It :=
  ⟨fun i H => H d = some (DTo d o) ∧ i < vs.length, fun i H x H' => ∃ t q v, vs[i]? = some (q, v) ∧ x = .ref t ∧ H t = none ∧ H' = upd H t (.tup [.ref q, v]), fun i H => H d = some (DTo d o) ∧ vs.length ≤ i⟩
section
variable {P : Program} {w : World} {K : PySem.W.Frag} {tg : Expr} {d : Addr} {o : Obj} {es : Array DictEntry} {ep : Nat}
theorem turn_valsO {vs : List V} (it : Addr) (hx : o.ExactDict) (ho : o.data = .dict es ep) (hs : es.size = vs.length) (hv : ∀ (i : Nat) (v : V), vs[i]? = some v → ∃ en : DictEntry, es[i]? = some en ∧ L2.RelV v en.val) : Turn P w K tg (Itdo d o vs) [it] it (fun i h => h.IsValIter it d i es.size ep) where
  mem := by simp
  obj := fun i h st b hb => by
    have e : b = it := by simpa using hb
    subst e
    obtain ⟨oi, e, c, dd⟩ := st
    exact ⟨oi, e, fun v z => by rw [dd] at z; cases z⟩
  keep := fun i h h' st k => st.at fun oi e => k it (by simp) oi e
  item := by
    intro X hP hw hK hc i pins s σ H E I hf st hg
    subst hP hw hK
    obtain ⟨hd, hi⟩ := hg
    obtain ⟨f0, f1, f2, f3, f4, f5⟩ := hf it (by simp)
    have hgd : s.heap.get? d = some o := (I.hok d _ hd).1
    have hi' : i < es.size := by rw [hs]; exact hi
    obtain ⟨en, he, rv⟩ := hv i vs[i] (List.getElem?_eq_getElem hi)
    have een : es[i] = en := by
      rw [Array.getElem?_eq_getElem hi'] at he
      exact Option.some.inj he
    refine wpAny_pyNext_values_item_raw st ⟨o, hgd, hx, ho⟩ hi' fun h' st' sb => ?_
    have I1 : L2.Inv X pins σ H { s with heap := h' } := I.turned (t' := s.toks) (fun b ob hb e => (sb.2 b hb).trans e) f0 f1 f3 f4 f5
    obtain ⟨oi, e, c, dd⟩ := id st'
    exact ⟨es[i].val, rfl, go_of (s := { s with heap := h' }) e c dd (by decide) ⟨vs[i], H, I1, by rw [een]; exact rv, ⟨rfl, List.getElem?_eq_getElem hi⟩, st', fun b hb => (hf b hb).1⟩⟩
  done := by
    intro X hP hw hK hc i pins s σ H E I hf st hg
    subst hP hw hK
    obtain ⟨hd, hi⟩ := hg
    obtain ⟨f0, f1, f2, f3, f4, f5⟩ := hf it (by simp)
    have hgd : s.heap.get? d = some o := (I.hok d _ hd).1
    exact wpAny_pyNext_values_end_raw (I.ok.hd hc) st ⟨o, hgd, hx, ho⟩ (by rw [hs]; exact hi) fun h' eb => ⟨rfl, I.turned (t' := s.toks) (fun b ob hb e => eb b ob hb e) f0 f1 f3 f4 f5⟩
  self := fun A i s Q E st h => wpAny_pyIter_valiter st h
theorem turn_itemsO {vs : List (Addr × V)} {elts : List Expr} {kk : Nat} {tpos : Pos} (it : Addr) (hx : o.ExactDict) (ho : o.data = .dict es ep) (hs : es.size = vs.length) (hv : ∀ (i : Nat) (q : Addr) (v : V), vs[i]? = some (q, v) → ∃ en : DictEntry, es[i]? = some en ∧ en.key = .ref q ∧ L2.RelV v en.val) :
    Turn P w K (.Tuple elts kk tpos) (Itio d o vs) [it] it (fun i h => ∃ ok ov, IsItemIter h it d i es.size ep ok ov) where
  mem := by simp
  obj := fun i h st b hb => by
    have e : b = it := by simpa using hb
    subst e
    obtain ⟨ok, ov, e⟩ := st
    exact ⟨_, e, fun v z => nomatch z⟩
  keep := fun i h h' st k => let ⟨ok, ov, e⟩ := st; ⟨ok, ov, k it (by simp) _ e⟩
  item := by
    intro X hP hw hK hc i pins s σ H E I hf st hg
    subst hP hw hK
    obtain ⟨hd, hi⟩ := hg
    have hgd : s.heap.get? d = some o := (I.hok d _ hd).1
    have hi' : i < es.size := by rw [hs]; exact hi
    obtain ⟨en, he, ek, rv⟩ := hv i vs[i].1 vs[i].2 (List.getElem?_eq_getElem hi)
    have een : es[i] = en := by
      rw [Array.getElem?_eq_getElem hi'] at he
      exact Option.some.inj he
    obtain ⟨ok, ov, he⟩ := st
    have hlt : it < s.heap.objs.size := Heap.lt_size he
    refine wpAny_pyNext_items_item_raw he ⟨o, hgd, hx, ho⟩ hi' fun h' ho hT hz hk => ?_
    refine ⟨_, rfl, wpAny_letOwnedTupleGo_items (s := { s with heap := h' }) ho fun h'' he' sb => ?_⟩
    rw [een] at hT he'
    have hT2 : h''.get? s.heap.objs.size = some { cls := .type "tuple", data := .seq #[en.key, en.val] } := (sb.2 _ (Nat.ne_of_gt hlt)).trans hT
    have new : ObjOk X.prog X.w (upd H s.heap.objs.size (.tup [.ref vs[i].1, vs[i].2])) h'' s.heap.objs.size (.tup [.ref vs[i].1, vs[i].2]) :=
      ⟨by show 2 ≤ sizeLine; decide, [en.key, en.val], .cons (by rw [ek]; rfl) (.cons rv .nil), ⟨_, hT2, rfl, _, rfl⟩⟩
    have I1 : L2.Inv X pins σ (upd H s.heap.objs.size (.tup [.ref vs[i].1, vs[i].2])) { s with heap := h'' } :=
      I.turnedNew (t' := s.toks) (ch := [it]) (fun b ob hb e => (sb.2 b (by simpa using hb)).trans (hk b ob (by simpa using hb) e)) hf (Nat.le_refl _) new
    refine ⟨.ref s.heap.objs.size, _, I1, rfl, ⟨_, vs[i].1, vs[i].2, List.getElem?_eq_getElem hi, rfl, I.hok.fresh (Nat.le_refl _), rfl⟩, ⟨_, _, he'⟩, fun b hb => ?_⟩
    have e : b = it := by simpa using hb
    rw [e, upd_ne (Nat.ne_of_lt hlt)]
    exact (hf it (by simp)).1
  done := by
    intro X hP hw hK hc i pins s σ H E I hf st hg
    subst hP hw hK
    obtain ⟨hd, hi⟩ := hg
    obtain ⟨f0, f1, f2, f3, f4, f5⟩ := hf it (by simp)
    have hgd : s.heap.get? d = some o := (I.hok d _ hd).1
    obtain ⟨ok, ov, he⟩ := st
    exact wpAny_pyNext_items_end_raw (I.ok.hd hc) he ⟨o, hgd, hx, ho⟩ (by rw [hs]; exact hi) fun h' eb => ⟨rfl, I.turned (t' := s.toks) (fun b ob hb e => eb b ob hb e) f0 f1 f3 f4 f5⟩
  self := fun A i s Q E st h => let ⟨_, _, e⟩ := st; PySem.W.kcp_self e h
end
theorem vals_get {xs : List Value} : ∀ {vs : List V}, Vals vs xs → ∀ {i : Nat} {v : V}, vs[i]? = some v → ∃ u, xs[i]? = some u ∧ L2.RelV v u := fun h i v e => h.get e
/-- d.values(), d.items(): a dict known to the object -/
def iValsO (td : TE) : TI := fun σ H R => td σ H fun x H1 => ∃ (d : Addr) (o : Obj) (xs : List Ent) (vs : List V), x = .ref d ∧ H1 d = some (DTo d o) ∧ EsOk d o xs ∧ Vals vs (xs.map fun x => x.2.2) ∧ R (Itdo d o vs) H1
def iItmsO (td : TE) : TI := fun σ H R => td σ H fun x H1 => ∃ (d : Addr) (o : Obj) (xs : List Ent) (vs : List V), x = .ref d ∧ H1 d = some (DTo d o) ∧ EsOk d o xs ∧ Vals vs (xs.map fun x => x.2.2) ∧ R (Itio d o ((xs.map fun x => x.2.1).zip vs)) H1
section
variable {X : Cx} {tg e : Expr} {td : TE} {apos cpos : Pos}
theorem pi_valuesO (he : PE X e td) (hbase : attributeBase e "values" X.env (eval e X.env) = eval e X.env := by rfl) (hline : (apos.endLine == cpos.line) = true := by rfl) : PI X tg (.Call (.Attribute e "values" apos) [] [] cpos) (iValsO td) := by
  refine ⟨fun pins s σ H R I h => ?_⟩
  refine wpAny_Call_method (T := "dict") (id := "dict.values") hbase rfl hline F.plainAttrs_dict F.slot_dict_values F.type_dict_values (thn (he.run pins s σ H _ I h) fun u s1 ⟨x, H1, I1, rx, d, o, xs, vs, ex, hd, ee, rv, q⟩ => ?_)
  subst ex
  obtain rfl : u = Value.ref d := rx
  have hgd : s1.heap.get? d = some o := (I1.hok d _ hd).1
  obtain ⟨es, ep, hdt, hes⟩ := ee.es
  have hsz : es.size = xs.length := size_of_entries (hes X.prog X.w)
  have hvl : vs.length = xs.length := by rw [rv.length, List.length_map]
  have raw : s1.heap.DictRaw d es ep := ⟨o, hgd, ee.ex, hdt⟩
  refine ⟨raw.typeIs, fun b q => by cases q; exact ⟨o, hgd, ee.ex.2.1⟩, ?_⟩
  have I2 : L2.Inv X pins σ H1 { s1 with heap := s1.heap.push { cls := .type "dict_values", data := .fields #[.ref d] } } := I1.kept (t' := s1.toks) fun b ob q => Heap.get?_push_of_some _ q
  have fin : wpAny (model X.prog X.w) X.A (pyIter (.ref s1.heap.objs.size)) (PIE X pins σ tg R) X.xe { s1 with heap := s1.heap.push { cls := .type "dict_values", data := .fields #[.ref d] } } := by
    refine wpAny_pyIter_values_raw (d := d) ⟨_, Heap.get?_push_size _ rfl, rfl, rfl⟩ (raw.at fun _ q => Heap.get?_push_of_some _ q) (pi_one (tk := s1.toks) I2 _ (turn_valsO _ ee.ex hdt (hsz.trans hvl.symm) fun i v e => ?_) ⟨_, Heap.get?_push_size _ rfl, rfl, rfl⟩ q)
    obtain ⟨u, h1, h2⟩ := rv.get e
    rw [List.getElem?_map] at h1
    obtain ⟨x, h3, h4⟩ := Option.map_eq_some_iff.mp h1
    exact ⟨_, by rw [entry_at (hes X.prog X.w) i, h3]; rfl, by rw [← h4] at h2; exact h2⟩
  show wpAny _ _ (callWith cpos (.builtin "dict.values") [.ref d] [] []) _ X.xe s1
  exact method_meetsIn F.slot_dict_values F.entry_dict_values rfl (PySem.evalArgs_none ⟨rfl, raw.typeIs, F.args_dict_values_1 _, _, meets_dict_values_raw d ee.sm, ⟨es, ep, raw⟩, fin⟩)
theorem pi_itemsO {elts : List Expr} {kk : Nat} {tpos : Pos} (he : PE X e td) (hbase : attributeBase e "items" X.env (eval e X.env) = eval e X.env := by rfl) (hline : (apos.endLine == cpos.line) = true := by rfl) :
    PI X (.Tuple elts kk tpos) (.Call (.Attribute e "items" apos) [] [] cpos) (iItmsO td) := by
  refine ⟨fun pins s σ H R I h => ?_⟩
  refine wpAny_Call_method (T := "dict") (id := "dict.items") hbase rfl hline F.plainAttrs_dict F.slot_dict_items F.type_dict_items (thn (he.run pins s σ H _ I h) fun u s1 ⟨x, H1, I1, rx, d, o, xs, vs, ex, hd, ee, rv, q⟩ => ?_)
  subst ex
  obtain rfl : u = Value.ref d := rx
  have hgd : s1.heap.get? d = some o := (I1.hok d _ hd).1
  obtain ⟨es, ep, hdt, hes⟩ := ee.es
  have hsz : es.size = xs.length := size_of_entries (hes X.prog X.w)
  have hvl : vs.length = xs.length := by rw [rv.length, List.length_map]
  have raw : s1.heap.DictRaw d es ep := ⟨o, hgd, ee.ex, hdt⟩
  refine ⟨raw.typeIs, fun b q => by cases q; exact ⟨o, hgd, ee.ex.2.1⟩, ?_⟩
  have I2 : L2.Inv X pins σ H1 { s1 with heap := s1.heap.push { cls := .type "dict_items", data := .fields #[.ref d] } } := I1.kept (t' := s1.toks) fun b ob q => Heap.get?_push_of_some _ q
  have fin : wpAny (model X.prog X.w) X.A (pyIter (.ref s1.heap.objs.size)) (PIE X pins σ (.Tuple elts kk tpos) R) X.xe { s1 with heap := s1.heap.push { cls := .type "dict_items", data := .fields #[.ref d] } } := by
    refine wpAny_pyIter_items_raw (d := d) ⟨_, Heap.get?_push_size _ rfl, rfl, rfl⟩ (raw.at fun _ q => Heap.get?_push_of_some _ q) (pi_one (tk := s1.toks) I2 _ (turn_itemsO _ ee.ex hdt (by rw [List.length_zip, List.length_map, hvl, hsz, Nat.min_self]) fun i q v e => ?_) ⟨.none, .none, ?_⟩ q)
    · rw [List.getElem?_zip_eq_some] at e
      obtain ⟨e1, e2⟩ := e
      obtain ⟨u, h1, h2⟩ := rv.get e2
      rw [List.getElem?_map] at h1 e1
      obtain ⟨x, h3, h4⟩ := Option.map_eq_some_iff.mp h1
      rw [h3] at e1
      have e3 : x.2.1 = q := Option.some.inj e1
      exact ⟨_, by rw [entry_at (hes X.prog X.w) i, h3]; rfl, by rw [← e3]; rfl, by rw [← h4] at h2; exact h2⟩
    · exact Heap.get?_push_size _ rfl
  show wpAny _ _ (callWith cpos (.builtin "dict.items") [.ref d] [] []) _ X.xe s1
  exact method_meetsIn F.slot_dict_items F.entry_dict_items rfl (PySem.evalArgs_none ⟨rfl, raw.typeIs, F.args_dict_items_1 _, _, meets_dict_items_raw d ee.sm, ⟨es, ep, raw⟩, fin⟩)
end
/-! as pieces -/
def valsT : PyData → Option (List PyData)
  | .dict ds => if isTD ds = true then some (ds.map fun p => p.2) else none
  | _ => none
def itmsT : PyData → Option (List PyData)
  | .dict ds => if isTD ds = true then some (ds.map fun p => .tuple [p.1, p.2]) else none
  | _ => none
def iwM (g : PyData → Option (List PyData)) (f : EM) : IM := fun ρ => bindO (f ρ) fun r ρ1 => match frz ρ1 r with
  | some (d, ρ2) => okI (g d) ρ2
  | none => none
@[simp] theorem iwM_e (g : PyData → Option (List PyData)) (f : EM) (ρ : Rho) : iwM g f ρ = bindO (f ρ) fun r ρ1 => bindF (frz ρ1 r) fun d ρ2 => okI (g d) ρ2 := eqI rfl
theorem valsT_is {ds : List (PyData × PyData)} (h : isTD ds = true) : valsT (.dict ds) = some (ds.map fun p => p.2) := if_pos h
theorem itmsT_is {ds : List (PyData × PyData)} (h : isTD ds = true) : itmsT (.dict ds) = some (ds.map fun p => .tuple [p.1, p.2]) := if_pos h
theorem valsT_no {ds : List (PyData × PyData)} (h : ¬ isTD ds = true) : valsT (.dict ds) = none := if_neg h
theorem itmsT_no {ds : List (PyData × PyData)} (h : ¬ isTD ds = true) : itmsT (.dict ds) = none := if_neg h
theorem dft_vals {K : PySem.W.Frag} {H : Hp} {F : Reg} : ∀ {xs : List Ent} {ds : List (PyData × PyData)}, DFt K H F xs ds → ∃ vs, Vals vs (xs.map fun x => x.2.2) ∧ DFs K H F vs (ds.map fun p => p.2)
  | _, _, .nil => ⟨[], .nil, .nil⟩
  | _, _, .cons _ r a b => by
    obtain ⟨vs, h1, h2⟩ := dft_vals b
    exact ⟨_ :: vs, .cons r h1, .cons a h2⟩
theorem dft_at {K : PySem.W.Frag} {H : Hp} {F : Reg} : ∀ {xs : List Ent} {ds : List (PyData × PyData)} {i : Nat} {p : PyData × PyData}, DFt K H F xs ds → ds[i]? = some p → ∃ k q u, xs[i]? = some (k, q, u) ∧ DF K H F (.ref q) p.1
  | _, _, _, _, .nil, h => by simp at h
  | _, _, 0, _, .cons a _ _ _, h => by
    simp at h
    subst h
    refine ⟨_, _, _, rfl, .tup a (DFs.of_ints _)⟩
  | _, _, i + 1, p, .cons _ _ _ b, h => by
    obtain ⟨k, q, u, h1, h2⟩ := dft_at (i := i) (p := p) b (by simpa using h)
    exact ⟨k, q, u, by simpa using h1, h2⟩
section
variable {X : Cx} {T : Tb} {W : WX} {tg e : Expr} {fe : EM} {apos cpos : Pos}
theorem si_vals (he : SE X T W e fe) (hbase : attributeBase e "values" X.env (eval e X.env) = eval e X.env := by rfl) (hline : (apos.endLine == cpos.line) = true := by rfl) : SI X T W tg (.Call (.Attribute e "values" apos) [] [] cpos) (iwM valsT fe) := by
  refine pi_imp (pi_valuesO he hbase hline) fun σ H Q ⟨ρ, F, O, E, P⟩ => ?_
  refine stp .refl E P fun v H1 r ρ1 F1 O1 x1 y1 E1 r1 P1 => ?_
  cases q : frz ρ1 r with
  | none => rw [q] at P1; exact P1.elim
  | some z =>
    obtain ⟨d, ρ2⟩ := z
    rw [q] at P1
    dsimp only at P1
    obtain ⟨F2, O2, y2, E2, d2, _, _, _⟩ := fz y1 (fun _ h => h) E1 r1 q
    cases d2 with
    | @dcT a o xs ds f h ee s =>
      by_cases ht : isTD ds = true
      · rw [valsT_is ht] at P1
        · obtain ⟨vs, h1, h2⟩ := dft_vals s
          refine ⟨a, o, xs, vs, rfl, h, ee, h1, P1 _ _ _ _ y2 E2 ⟨fun H' k i d hd => ?_, fun H' k i h1 h3 => ?_⟩⟩
          · obtain ⟨v, g1, g2⟩ := h2.get hd
            have hl := (List.getElem?_eq_some_iff.mp g1).1
            refine ⟨⟨k _ _ h (.inl ⟨f, trivial⟩), hl⟩, fun x H'' y => ?_⟩
            obtain ⟨rfl, y2⟩ := y
            rw [g1] at y2
            cases y2
            exact ⟨fun _ _ h => h, g2.mono k fun _ h => h⟩
          · exact ⟨k _ _ h (.inl ⟨f, trivial⟩), by rw [h2.length]; exact h1⟩
      · rw [valsT_no ht] at P1
        exact P1.elim
    | @dct a ks ds f h s =>
      by_cases ht : isTD ds = true
      · exact (td_dfk s ht).elim
      · rw [valsT_no ht] at P1
        exact P1.elim
    | lst f r s => exact P1.elim
    | lstK r s => exact P1.elim
    | tup r s => exact P1.elim
    | non => exact P1.elim
    | bl b => exact P1.elim
    | int i => exact P1.elim
    | str x => exact P1.elim
theorem si_itms {elts : List Expr} {kk : Nat} {tpos : Pos} (he : SE X T W e fe) (hbase : attributeBase e "items" X.env (eval e X.env) = eval e X.env := by rfl) (hline : (apos.endLine == cpos.line) = true := by rfl) : SI X T W (.Tuple elts kk tpos) (.Call (.Attribute e "items" apos) [] [] cpos) (iwM itmsT fe) := by
  refine pi_imp (pi_itemsO he hbase hline) fun σ H Q ⟨ρ, F, O, E, P⟩ => ?_
  refine stp .refl E P fun v H1 r ρ1 F1 O1 x1 y1 E1 r1 P1 => ?_
  cases q : frz ρ1 r with
  | none => rw [q] at P1; exact P1.elim
  | some z =>
    obtain ⟨d, ρ2⟩ := z
    rw [q] at P1
    dsimp only at P1
    obtain ⟨F2, O2, y2, E2, d2, _, _, _⟩ := fz y1 (fun _ h => h) E1 r1 q
    cases d2 with
    | @dcT a o xs ds f h ee s =>
      by_cases ht : isTD ds = true
      · rw [itmsT_is ht] at P1
        · obtain ⟨vs, h1, h2⟩ := dft_vals s
          have hvl : vs.length = xs.length := by rw [h1.length, List.length_map]
          refine ⟨a, o, xs, vs, rfl, h, ee, h1, P1 _ _ _ _ y2 E2 ⟨fun H' k i d hd => ?_, fun H' k i h1 h3 => ?_⟩⟩
          · rw [List.getElem?_map] at hd
            obtain ⟨p, g0, rfl⟩ := Option.map_eq_some_iff.mp hd
            obtain ⟨v, g1, g2⟩ := h2.get (i := i) (d := p.2) (by rw [List.getElem?_map, g0]; rfl)
            obtain ⟨kx, q, u, g3, g4⟩ := dft_at s g0
            have gz : ((xs.map fun x => x.2.1).zip vs)[i]? = some (q, v) := by
              rw [List.getElem?_zip_eq_some]
              exact ⟨by rw [List.getElem?_map, g3]; rfl, g1⟩
            refine ⟨⟨k _ _ h (.inl ⟨f, trivial⟩), (List.getElem?_eq_some_iff.mp gz).1⟩, fun x H'' y => ?_⟩
            obtain ⟨t, q', v', y1, rfl, y3, rfl⟩ := y
            rw [gz] at y1
            cases y1
            have kn := kept_new (o := .tup [.ref q, v]) y3
            exact ⟨kn, .tup (.inl (.inl upd_same)) (.cons ((g4.mono k fun _ h => h).mono (kept_all kn) fun _ h => h) (.cons ((g2.mono k fun _ h => h).mono (kept_all kn) fun _ h => h) .nil))⟩
          · refine ⟨k _ _ h (.inl ⟨f, trivial⟩), ?_⟩
            rw [List.length_zip, List.length_map, hvl, Nat.min_self, s.length]
            rw [List.length_map] at h1
            exact h1
      · rw [itmsT_no ht] at P1
        exact P1.elim
    | @dct a ks ds f h s =>
      by_cases ht : isTD ds = true
      · exact (td_dfk s ht).elim
      · rw [itmsT_no ht] at P1
        exact P1.elim
    | lst f r s => exact P1.elim
    | lstK r s => exact P1.elim
    | tup r s => exact P1.elim
    | non => exact P1.elim
    | bl b => exact P1.elim
    | int i => exact P1.elim
    | str x => exact P1.elim
end
end DL

/-! D53: comprehensions of two clauses. -/
namespace DL
open PySem PySem.Spec PyProof.Rows
open L2 hiding Sp

/-- what stays as the heap goes on -/
def Clo (G : Hp → Reg → Prop) : Prop := ∀ H F H' F', G H F → Kept F H H' → (∀ b, F b → F' b) → G H' F'
theorem clo_kept {H1 : Hp} {F1 : Reg} : Clo (fun H F => Kept F1 H1 H ∧ ∀ b, F1 b → F b) := fun _ _ _ _ g k h => ⟨g.1.trans g.2 k, fun b hb => h b (g.2 b hb)⟩
theorem Clo.and {G G' : Hp → Reg → Prop} (a : Clo G) (b : Clo G') : Clo (fun H F => G H F ∧ G' H F) := fun _ _ _ _ g k h => ⟨a _ _ _ _ g.1 k h, b _ _ _ _ g.2 k h⟩
/-- amid a comprehension: the new list at D holds acc -/
def LcS (T : Tb) (H : Hp) (F : Reg) (O : Ows) (G : Hp → Reg → Prop) (D : Addr) (σ : L2.St) (ρ : Rho) (acc : List PyData) (H' : Hp) : Prop :=
  ∃ F' O' va, Ext false H F O H' F' O' ∧ EnvR T H' F' O' σ ρ ∧ H' D = some (.lst va) ∧ DFs T.K H' F' va acc ∧ ¬ F' D ∧ (∀ j, O' j ≠ some D) ∧ G H' F'
section
variable {T : Tb} {H : Hp} {F : Reg} {O : Ows} {G : Hp → Reg → Prop} {D : Addr} {σ σ' : L2.St} {ρ ρ' : Rho} {acc : List PyData} {H' H'' : Hp}
theorem LcS.imp {G' : Hp → Reg → Prop} (s : LcS T H F O G D σ ρ acc H') (g : ∀ F', G H' F' → G' H' F') : LcS T H F O G' D σ ρ acc H' := by
  obtain ⟨F', O', va, x, E, hD, sa, nD, oD, gg⟩ := s
  exact ⟨F', O', va, x, E, hD, sa, nD, oD, g _ gg⟩
theorem LcS.grow (cl : Clo G) (s : LcS T H F O G D σ ρ acc H') (k : ∀ b o, H' b = some o → H'' b = some o) : LcS T H F O G D σ ρ acc H'' := by
  obtain ⟨F', O', va, x, E, hD, sa, nD, oD, gg⟩ := s
  have gr : Gr H' F' H'' F' := ⟨k, fun _ h => h, fun _ h => .inl h⟩
  exact ⟨F', O', va, x.trans gr.ext, E.gr gr, k _ _ hD, sa.mono (kept_all k) fun _ h => h, nD, oD, cl _ _ _ _ gg (kept_all k) fun _ h => h⟩
/-- slots are stored: some owners are forgotten -/
theorem LcS.sub (s : LcS T H F O G D σ ρ acc H') (k : ∀ F' O', EnvR T H' F' O' σ ρ → G H' F' → ∃ O2, EnvR T H' F' O2 σ' ρ' ∧ Sub O2 O') : LcS T H F O G D σ' ρ' acc H' := by
  obtain ⟨F', O', va, x, E, hD, sa, nD, oD, gg⟩ := s
  obtain ⟨O2, E2, s2⟩ := k _ _ E gg
  exact ⟨F', O2, va, ⟨x.keep, x.live, x.grow, x.new, fun j b e => x.own j b (s2 j b e)⟩, E2, hD, sa, nD, fun j z => oD j (s2 j D z), gg⟩
theorem LcS.wipe {vs : List Nat} (s : LcS T H F O G D σ ρ acc H') : LcS T H F O G D (wipe σ vs) (wipeR ρ vs) acc H' := s.sub fun F' O' E _ => let ⟨O2, E2, s2⟩ := E.wiped (vs := vs); ⟨O2, E2, s2⟩
theorem LcS.unwipe {vs : List Nat} (s : LcS T H F O G D (L2.wipe σ vs) ρ acc H') : LcS T H F O G D σ ρ acc H' := s.sub fun F' O' E _ => ⟨O', E.unwipe, fun _ _ h => h⟩
/-- a piece runs -/
theorem LcS.tof {α β γ : Type} {Ra : Tell α β} {h : Rho → Option (Oe α)} {k : α → Rho → Option γ} {Q' : β → Hp → Prop} {Pp : Option γ → Prop} (cl : Clo G) (s : LcS T H F O G D σ ρ acc H') (hn : ¬ Pp none) (P : Pp (bindN (h ρ) k))
    (kk : ∀ v H1 a ρ1 F1 O1, EnvR T H1 F1 O1 σ ρ1 → Ra σ H' H1 F1 O1 v a → LcS T H F O (fun Hx Fx => G Hx Fx ∧ Kept F1 H1 Hx ∧ ∀ b, F1 b → Fx b) D σ ρ1 acc H1 → Pp (k a ρ1) → Q' v H1) : Tof T W0 Ra h σ H' Q' := by
  obtain ⟨F', O', va, x, E, hD, sa, nD, oD, gg⟩ := s
  refine tof_N hn E P fun v H1 a ρ1 F1 O1 x1 E1 r1 P1 => ?_
  refine kk v H1 a ρ1 F1 O1 E1 r1 ⟨F1, O1, va, x.trans x1, E1, x1.keep D _ hD oD trivial, sa.mono (E.kept x1) x1.grow, fun z => ?_, fun j z => ?_, cl _ _ _ _ gg (E.kept x1) x1.grow, .refl, fun _ h => h⟩ P1
  · rcases x1.new D z with z | ⟨j, z⟩ | z
    · exact nD z
    · exact oD j z
    · rw [hD] at z; cases z
  · exact (x1.ow z).elim (fun ⟨k, y⟩ => oD k y) fun y => by rw [hD] at y; cases y
/-- an item is made and put behind -/
theorem LcS.elt {γ : Type} {f : EM} {kx : PyData → Rho → Option γ} {Nx : Hp → Prop} {Pp : Option γ → Prop} (cl : Clo G) (hDB : H D = none) (s : LcS T H F O G D σ ρ acc H') (hn : ¬ Pp none)
    (P : Pp (bindN (f ρ) fun r ρ3 => match frz ρ3 r with | some (d, ρ4) => if acc.length < lim then kx d ρ4 else none | none => none))
    (kk : ∀ d ρ4 H7, LcS T H F O G D σ ρ4 (acc ++ [d]) H7 → Pp (kx d ρ4) → Nx H7) : Tof T W0 (tlE T) f σ H' fun y H7 => ∃ va, H7 D = some (.lst va) ∧ va.length < sizeLine ∧ Nx (upd H7 D (.lst (va ++ [y]))) := by
  obtain ⟨F', O', va, x, E, hD, sa, nD, oD, gg⟩ := s
  refine tof_N (Pp := Pp) hn E P fun v H5 r ρ5 F5 O5 x5 E5 r5 P5 => ?_
  have hD5 : H5 D = some (.lst va) := x5.keep D _ hD oD trivial
  have nD5 : ¬ F5 D := fun z => by
    rcases x5.new D z with z | ⟨j, z⟩ | z
    · exact nD z
    · exact oD j z
    · rw [hD] at z; cases z
  have oD5 : ∀ j, O5 j ≠ some D := fun j z => (x5.ow z).elim (fun ⟨k, y⟩ => oD k y) fun y => by rw [hD] at y; cases y
  have sa5 : DFs T.K H5 F5 va acc := sa.mono (E.kept x5) x5.grow
  have g5 := cl _ _ _ _ gg (E.kept x5) x5.grow
  cases q6 : frz ρ5 r with
  | none => rw [q6] at P5; exact absurd P5 hn
  | some p =>
    obtain ⟨d, ρ6⟩ := p
    rw [q6] at P5
    dsimp only at P5
    split at P5
    · rename_i hz
      have y5 := x.trans x5
      obtain ⟨F6, O6, y6, E6, d6, g6, s6, n6⟩ := fz y5 x.live E5 r5 q6
      have nD6 : ¬ F6 D := fun z => by
        rcases n6 D z with z | ⟨j, z⟩ | z
        · exact nD5 z
        · exact oD5 j z
        · rw [hD] at z; cases z
      have oD6 : ∀ j, O6 j ≠ some D := fun j z => oD5 j (s6 j D z)
      have sa6 : DFs T.K H5 F6 (va ++ [v]) (acc ++ [d]) := (sa5.mono .refl g6).append (.cons d6 .nil)
      refine ⟨va, hD5, by rw [sa5.length]; exact Nat.lt_of_lt_of_le hz (by decide), kk d ρ6 _ ?_ P5⟩
      obtain ⟨E8, k8⟩ := E6.other (o' := .lst (va ++ [v])) hD5 (fun z => z) nD6 oD6
      refine ⟨F6, O6, va ++ [v], ⟨fun b o h n z => ?_, fun b h => ?_, y6.grow, y6.new, y6.own⟩, E8, upd_same, sa6.mono k8 fun _ h => h, nD6, oD6, cl _ _ _ _ (cl _ _ _ _ g5 .refl g6) k8 fun _ h => h⟩
      · rw [upd_ne (ne_of_none h hDB)]
        exact y6.keep b o h n z
      · by_cases e : b = D
        · subst e; exact hDB
        · rw [upd_ne e] at h
          exact y6.live b h
    · exact absurd P5 hn
end
/-- the inner clause -/
def lcI (g : GM) (vs : List Nat) (c : Rho → Option (Oe Bool)) (f : EM) : List PyData → Rho → List PyData → Option (List PyData × Rho)
  | [], ρ, acc => some (acc, ρ)
  | x :: xs, ρ, acc => match g x ρ with
    | none => none
    | some ρ1 => bindN (c ρ1) fun b ρ2 => if b = true then bindN (f ρ2) fun r ρ3 => match frz ρ3 r with
        | some (d, ρ4) => if acc.length < lim then lcI g vs c f xs (wipeR ρ4 vs) (acc ++ [d]) else none
        | none => none
      else lcI g vs c f xs (wipeR ρ2 vs) acc
def lc2L (g : GM) (vs : List Nat) (c : Rho → Option (Oe Bool)) (it1 : IM) (g1 : GM) (vs1 : List Nat) (c1 : Rho → Option (Oe Bool)) (f : EM) : List PyData → Rho → List PyData → Option (Oe R)
  | [], ρ, acc => some (.ok (.own (.list acc)) ρ)
  | x :: xs, ρ, acc => match g x ρ with
    | none => none
    | some ρ1 => bindN (c ρ1) fun b ρ2 => if b = true then bindN (it1 ρ2) fun ds ρ3 => match lcI g1 vs1 c1 f ds (wipeR ρ3 vs1) acc with
        | some (acc', ρ4) => lc2L g vs c it1 g1 vs1 c1 f xs (wipeR ρ4 vs) acc'
        | none => none
      else lc2L g vs c it1 g1 vs1 c1 f xs (wipeR ρ2 vs) acc
def lc2M (it : IM) (g : GM) (vs : List Nat) (c : Rho → Option (Oe Bool)) (it1 : IM) (g1 : GM) (vs1 : List Nat) (c1 : Rho → Option (Oe Bool)) (f : EM) : EM := fun ρ => bindO (it ρ) fun ds ρ1 => lc2L g vs c it1 g1 vs1 c1 f ds (wipeR ρ1 vs) []
@[simp] theorem lc2M_e (it : IM) (g : GM) (vs : List Nat) (c : Rho → Option (Oe Bool)) (it1 : IM) (g1 : GM) (vs1 : List Nat) (c1 : Rho → Option (Oe Bool)) (f : EM) (ρ : Rho) : lc2M it g vs c it1 g1 vs1 c1 f ρ = bindO (it ρ) fun ds ρ1 => lc2L g vs c it1 g1 vs1 c1 f ds (wipeR ρ1 vs) [] := eqI rfl
section
variable {T : Tb} {W : WX} {pr : Nat → Bool} {it it1 : IM} {g g1 : GM} {vs vs1 : List Nat} {c c1 : Rho → Option (Oe Bool)} {f : EM}
/-- a target is stored in a comprehension's block -/
theorem LcS.tgt {H : Hp} {F : Reg} {O : Ows} {G : Hp → Reg → Prop} {D : Addr} {σ : L2.St} {ρ ρ2 : Rho} {acc : List PyData} {H' : Hp} {x : V} {d : PyData} {Q : L2.St → Hp → Prop} (s : LcS T H F O G D σ ρ acc H') (q : g d ρ = some ρ2)
    (dx : ∀ F', G H' F' → DF T.K H' F' x d) (kk : ∀ σ3, Keeps pr σ σ3 → LcS T H F O G D σ3 ρ2 acc H' → Q σ3 H') : TGof T pr g x σ H' Q := by
  obtain ⟨F', O', va, xx, E, hD, sa, nD, oD, gg⟩ := s
  refine ⟨d, ρ, F', O', E, dx F' gg, ?_⟩
  rw [q]
  exact fun σ3 O3 E3 k3 s3 => kk σ3 k3 ⟨F', O3, va, ⟨xx.keep, xx.live, xx.grow, xx.new, fun j b e => xx.own j b (s3 j b e)⟩, E3, hD, sa, nD, fun j z => oD j (s3 j D z), gg⟩
theorem wipe_keeps {σ σ3 : L2.St} {vs : List Nat} (hpr : ∀ i, i ∉ vs → pr i = true) (k3 : Keeps pr (L2.wipe σ vs) σ3) : L2.wipe σ3 vs = L2.wipe σ vs := by
  have e0 : L2.wipe σ3 vs = L2.wipe (L2.wipe σ vs) vs := wipe_eq k3.1 fun j hj => k3.2 j (hpr j hj)
  rw [e0]
  exact wipe_eq (wipe_length σ vs) fun j hj => wipe_other hj
theorem lc2_of {σ : L2.St} {H : Hp} {Q : VK} {pr1 : Nat → Bool} (hpr : ∀ i, i ∉ vs → pr i = true) (hpr1 : ∀ i, i ∉ vs1 → pr1 i = true) (h : Tof T W (tlE T) (lc2M it g vs c it1 g1 vs1 c1 f) σ H Q) :
    tLc2 (Tof T W (tlI T) it) (TGof T pr g) (Tof T W0 tlB c) (Tof T W0 (tlI T) it1) (TGof T pr1 g1) (Tof T W0 tlB c1) (Tof T W0 (tlE T) f) vs vs1 σ H Q := by
  obtain ⟨ρ, F, O, E, P⟩ := h
  refine stp .refl E P fun J H1 ds ρ1 F1 O1 x1 y1 E1 r1 P1 => ?_
  intro D hD
  have hDB : H D = none := y1.live D hD
  let G : Hp → Reg → Prop := fun Hx Fx => Kept F1 H1 Hx ∧ ∀ b, F1 b → Fx b
  have clG : Clo G := clo_kept
  have s0 : LcS T H F O G D σ ρ1 [] (upd H1 D (.lst [])) :=
    ⟨F1, O1, [], y1.trans (.laid hD), E1.laid hD, upd_same, .nil, fun q => E1.lv D q hD, fun j q => E1.ne_new hD j q, kept_all (kept_new hD), fun _ h => h⟩
  let Wi : Nat → Nat → Hp → Prop := fun i m H' => ∃ ρ' acc, m = ds.length - i ∧ i ≤ ds.length ∧ LcS T H F O G D (L2.wipe σ vs) ρ' acc H' ∧ Post T W (tlE T) σ H F O Q (lc2L g vs c it1 g1 vs1 c1 f (ds.drop i) ρ' acc)
  refine ⟨Wi, ⟨ds.length, wipeR ρ1 vs, [], by simp, Nat.zero_le _, s0.wipe, P1⟩, ?_⟩
  rintro i m H' ⟨ρ', acc, rfl, hi, s, P'⟩
  by_cases hlt : i < ds.length
  · have hd : ds[i]? = some ds[i] := by simp [hlt]
    rw [List.drop_eq_getElem_cons hlt] at P'
    have kp : Kept F1 H1 H' := by obtain ⟨_, _, _, _, _, _, _, _, _, gg⟩ := s; exact gg.1
    obtain ⟨go, yl⟩ := r1.go H' kp i _ hd
    refine .inr ⟨go, fun H2 => ∃ ρ' acc, i + 1 ≤ ds.length ∧ LcS T H F O G D (L2.wipe σ vs) ρ' acc H2 ∧ Post T W (tlE T) σ H F O Q (lc2L g vs c it1 g1 vs1 c1 f (ds.drop (i + 1)) ρ' acc), fun H2 ⟨ρ2, ac, a, b⟩ => ⟨ds.length - (i + 1), by omega, ρ2, ac, rfl, a, b⟩, fun x H'' y => ?_⟩
    obtain ⟨kH, dx⟩ := yl x H'' y
    have s2 := s.grow clG kH
    have P2 : Post T W (tlE T) σ H F O Q (match g ds[i] ρ' with
      | none => none
      | some ρ1 => bindN (c ρ1) fun b ρ2 => if b = true then bindN (it1 ρ2) fun ds1 ρ3 => match lcI g1 vs1 c1 f ds1 (wipeR ρ3 vs1) acc with
          | some (acc', ρ4) => lc2L g vs c it1 g1 vs1 c1 f (ds.drop (i + 1)) (wipeR ρ4 vs) acc'
          | none => none
        else lc2L g vs c it1 g1 vs1 c1 f (ds.drop (i + 1)) (wipeR ρ2 vs) acc) := P'
    cases q : g ds[i] ρ' with
    | none => rw [q] at P2; exact P2.elim
    | some ρ2 =>
      rw [q] at P2
      dsimp only at P2
      refine s2.tgt (pr := pr) q (fun F' gg => dx.mono .refl gg.2) fun σ3 k3 s3 => ?_
      have hw : L2.wipe σ3 vs = L2.wipe σ vs := wipe_keeps hpr k3
      refine ⟨hw, ?_⟩
      refine s3.tof (Pp := Post T W (tlE T) σ H F O Q) clG (fun z => z) P2 fun b H4 b' ρ4 F4 O4 E4 r4 s4 P4 => ?_
      have r4' : b = b' := r4
      subst r4'
      have s4' := s4.imp (G' := G) fun _ gg => gg.1
      cases b with
      | false =>
        rw [if_neg Bool.false_ne_true] at P4 ⊢
        have s5 := s4'.wipe (vs := vs)
        rw [hw] at s5
        exact ⟨_, acc, hlt, s5, P4⟩
      | true =>
        rw [if_pos rfl] at P4 ⊢
        refine s4'.tof (Pp := Post T W (tlE T) σ H F O Q) clG (fun z => z) P4 fun J1 H5 ds1 ρ5 F5 O5 E5 r5 s5 P5 => ?_
        let G5 : Hp → Reg → Prop := fun Hx Fx => G Hx Fx ∧ Kept F5 H5 Hx ∧ ∀ b, F5 b → Fx b
        have clG5 : Clo G5 := clG.and clo_kept
        let rest : Option (List PyData × Rho) → Option (Oe R) := fun o => match o with
          | some (acc', ρ4) => lc2L g vs c it1 g1 vs1 c1 f (ds.drop (i + 1)) (wipeR ρ4 vs) acc'
          | none => none
        let Wj : Nat → Nat → Hp → Prop := fun j m H' => ∃ ρ' acc, m = ds1.length - j ∧ j ≤ ds1.length ∧ LcS T H F O G5 D (L2.wipe σ3 vs1) ρ' acc H' ∧ Post T W (tlE T) σ H F O Q (rest (lcI g1 vs1 c1 f (ds1.drop j) ρ' acc))
        refine ⟨Wj, ⟨ds1.length, wipeR ρ5 vs1, acc, by simp, Nat.zero_le _, s5.wipe, P5⟩, ?_⟩
        rintro j k H6 ⟨ρ6, acc6, rfl, hj, s6, P6⟩
        by_cases hlj : j < ds1.length
        · have hdj : ds1[j]? = some ds1[j] := by simp [hlj]
          rw [List.drop_eq_getElem_cons hlj] at P6
          have kp6 : Kept F5 H5 H6 := by obtain ⟨_, _, _, _, _, _, _, _, _, gg⟩ := s6; exact gg.2.1
          obtain ⟨go6, yl6⟩ := r5.go H6 kp6 j _ hdj
          refine .inr ⟨go6, fun H7 => ∃ ρ' acc, j + 1 ≤ ds1.length ∧ LcS T H F O G5 D (L2.wipe σ3 vs1) ρ' acc H7 ∧ Post T W (tlE T) σ H F O Q (rest (lcI g1 vs1 c1 f (ds1.drop (j + 1)) ρ' acc)), fun H7 ⟨ρ7, ac, a, b⟩ => ⟨ds1.length - (j + 1), by omega, ρ7, ac, rfl, a, b⟩, fun x6 H7 y6 => ?_⟩
          obtain ⟨kH6, dx6⟩ := yl6 x6 H7 y6
          have s7 := s6.grow clG5 kH6
          have P7 : Post T W (tlE T) σ H F O Q (rest (match g1 ds1[j] ρ6 with
            | none => none
            | some ρ1 => bindN (c1 ρ1) fun b ρ2 => if b = true then bindN (f ρ2) fun r ρ3 => match frz ρ3 r with
                | some (d, ρ4) => if acc6.length < lim then lcI g1 vs1 c1 f (ds1.drop (j + 1)) (wipeR ρ4 vs1) (acc6 ++ [d]) else none
                | none => none
              else lcI g1 vs1 c1 f (ds1.drop (j + 1)) (wipeR ρ2 vs1) acc6)) := P6
          cases q7 : g1 ds1[j] ρ6 with
          | none => rw [q7] at P7; exact P7.elim
          | some ρ7 =>
            rw [q7] at P7
            dsimp only at P7
            refine s7.tgt (pr := pr1) q7 (fun F' gg => dx6.mono .refl gg.2.2) fun σ8 k8 s8 => ?_
            have hw8 : L2.wipe σ8 vs1 = L2.wipe σ3 vs1 := wipe_keeps hpr1 k8
            refine ⟨hw8, ?_⟩
            refine s8.tof (Pp := fun o => Post T W (tlE T) σ H F O Q (rest o)) clG5 (fun z => z) P7 fun b H9 b' ρ9 F9 O9 E9 r9 s9 P9 => ?_
            have r9' : b = b' := r9
            subst r9'
            have s9' := s9.imp (G' := G5) fun _ gg => gg.1
            cases b with
            | false =>
              rw [if_neg Bool.false_ne_true] at P9 ⊢
              have s10 := s9'.wipe (vs := vs1)
              rw [hw8] at s10
              exact ⟨_, acc6, hlj, s10, P9⟩
            | true =>
              rw [if_pos rfl] at P9 ⊢
              refine s9'.elt (Nx := fun H7 => ∃ ρ' acc, j + 1 ≤ ds1.length ∧ LcS T H F O G5 D (L2.wipe σ3 vs1) ρ' acc H7 ∧ Post T W (tlE T) σ H F O Q (rest (lcI g1 vs1 c1 f (ds1.drop (j + 1)) ρ' acc))) (Pp := fun o => Post T W (tlE T) σ H F O Q (rest o)) clG5 hDB (fun z => z) P9 fun d ρ10 H10 s10 P10 => ?_
              have s11 := s10.wipe (vs := vs1)
              rw [hw8] at s11
              exact ⟨_, _, hlj, s11, P10⟩
        · have e : j = ds1.length := by omega
          subst e
          rw [List.drop_length] at P6
          have kp6 : Kept F5 H5 H6 := by obtain ⟨_, _, _, _, _, _, _, _, _, gg⟩ := s6; exact gg.2.1
          have s7 := (s6.unwipe.wipe (vs := vs)).imp (G' := G) fun _ gg => gg.1
          rw [hw] at s7
          exact .inl ⟨r5.stop H6 kp6 _ (Nat.le_refl _) (Nat.le_refl _), _, acc6, hlt, s7, P6⟩
  · have e : i = ds.length := by omega
    subst e
    rw [List.drop_length] at P'
    have kp : Kept F1 H1 H' := by obtain ⟨_, _, _, _, _, _, _, _, _, gg⟩ := s; exact gg.1
    obtain ⟨F', O', va, x', E', hDl, sa, nD, oD, gg⟩ := s
    exact .inl ⟨r1.stop H' kp _ (Nat.le_refl _) (Nat.le_refl _), P' (.ref D) H' F' O' x' E'.unwipe ⟨D, rfl, hDB, nD, oD, va, hDl, sa⟩⟩
end
section
variable {X : Cx} {T : Tb} {W : WX} {tg iter tg1 iter1 elt : Expr} {ifs ifs1 : List Expr} {scope : Scope} {own : List (Str × Nat)} {vs1 : List Nat} {pos : Pos} {it it1 : IM} {g g1 : GM} {c c1 : Rho → Option (Oe Bool)} {f : EM}
theorem se_lc2 (hc : X.calm = true) (hN : X.N.Nodup) (hi : SI X T W tg iter it) (ok : BlkOk X.N X.env.scope scope own) (hv : ∀ i ∈ vs1, i ∈ own.map (·.2))
    (hg : ∀ (s : Shared) (H : Hp) (C : Addr) (cl : List (Str × Addr)) (fp : List Addr), SG (X.blk s H scope (compEnvC scope cl C X.env) fp) T (prB (own.map (·.2))) tg g)
    (ht : ∀ (s : Shared) (H : Hp) (C : Addr) (cl : List (Str × Addr)) (fp : List Addr), STs (X.blk s H scope (compEnvC scope cl C X.env) fp) T ifs c)
    (hi1 : ∀ (s : Shared) (H : Hp) (C : Addr) (cl : List (Str × Addr)) (fp : List Addr), SI (X.blk s H scope (compEnvC scope cl C X.env) fp) T W0 tg1 iter1 it1)
    (hg1 : ∀ (s : Shared) (H : Hp) (C : Addr) (cl : List (Str × Addr)) (fp : List Addr), SG (X.blk s H scope (compEnvC scope cl C X.env) fp) T (prB vs1) tg1 g1)
    (ht1 : ∀ (s : Shared) (H : Hp) (C : Addr) (cl : List (Str × Addr)) (fp : List Addr), STs (X.blk s H scope (compEnvC scope cl C X.env) fp) T ifs1 c1)
    (he : ∀ (s : Shared) (H : Hp) (C : Addr) (cl : List (Str × Addr)) (fp : List Addr), SE (X.blk s H scope (compEnvC scope cl C X.env) fp) T W0 elt f) (hs : ∀ x, foldedSetIterable iter X.env x = pure x := by intro _; rfl) (hs1 : ∀ env x, foldedSetIterable iter1 env x = pure x := by intro _ _; rfl) :
    SE X T W (.ListComp elt [⟨tg, iter, ifs, 0⟩, ⟨tg1, iter1, ifs1, 0⟩] scope pos) (lc2M it g (own.map (·.2)) c it1 g1 vs1 c1 f) :=
  pe_imp (pe_lc2 hc hN hi ok hv hg ht hi1 hg1 ht1 he hs hs1) fun _ _ _ h => lc2_of prB_ok prB_ok h
end
end DL

/-! D54: dicts asked: get, sorted, list, len. -/
namespace DL
open PySem PySem.Spec PyProof.Rows
open L2 hiding Sp

/-! ### d.get(k, x) -/
def isKDo : Option PyData → Bool
  | some (.dict ds) => isKD ds
  | _ => false
def getR (y z : R) (ρ : Rho) : Option PyData → Option (Oe R)
  | some (.dict ds) => match y, z with
    | .dat y, .dat z => if isKey y = true ∧ isKD ds = true then some (.ok (.dat ((atK ds y).getD z)) ρ) else none
    | _, _ => none
  | _ => none
def getM (f fk fd : EM) : EM := fun ρ => bindO (f ρ) fun r ρ1 => if isKDo (val ρ1 r) = true then bindO (fk ρ1) fun y ρ2 => bindO (fd ρ2) fun z ρ3 => getR y z ρ3 (val ρ3 r) else none
@[simp] theorem isKDo_e (ds : List (PyData × PyData)) : isKDo (some (.dict ds)) = isKD ds := eqI rfl
@[simp] theorem getM_e (f fk fd : EM) (ρ : Rho) : getM f fk fd ρ = bindO (f ρ) fun r ρ1 => pick (isKDo (val ρ1 r)) (fun ρ => bindO (fk ρ) fun y ρ2 => bindO (fd ρ2) fun z ρ3 => getR y z ρ3 (val ρ3 r)) (fun _ => none) ρ1 := eqI rfl
theorem getR_is {y z : PyData} {ρ : Rho} {ds : List (PyData × PyData)} (h : isKey y = true) (h2 : isKD ds = true) : getR (.dat y) (.dat z) ρ (some (.dict ds)) = some (.ok (.dat ((atK ds y).getD z)) ρ) := if_pos ⟨h, h2⟩
theorem atK_none {K : PySem.W.Frag} {H : Hp} {F : Reg} (k : Key) : ∀ {ks : List (Key × V)} {ds : List (PyData × PyData)}, DFk K H F ks ds → atK ds (kD k) = none → valV ks k = none
  | _, _, .nil, _ => rfl
  | _, _, .cons (k := k') (v := v) a b, h => by
    unfold atK at h
    rw [keq_kD] at h
    by_cases e : k' = k
    · rw [if_pos (by simpa using e)] at h
      cases h
    · rw [if_neg (by simpa using e)] at h
      rw [valV_neg (p := (k', v)) e]
      exact atK_none k b h
theorem vw_K {T : Tb} {H : Hp} {F : Reg} {v : V} {ds : List (PyData × PyData)} (h : Vw T H F v (.dict ds)) (hk : isKD ds = true) : ∃ a xs, v = .ref a ∧ Rd H a (.dK xs) ∧ DFk T.K H F xs ds := by
  obtain ⟨a, rfl, ⟨xs, h1, h2⟩ | ⟨o, xs, h1, e, h2⟩⟩ := h.dctA
  · exact ⟨a, xs, rfl, h1, h2⟩
  · rw [kd_dft h2 e.ne] at hk
    cases hk
theorem val_K {T : Tb} {H0 H : Hp} {F : Reg} {O : Ows} {σ : L2.St} {ρ : Rho} {v : V} {r : R} (E : EnvR T H F O σ ρ) (h : ResR T H0 H F O σ v r) (hk : isKDo (val ρ r) = true) : ∃ a xs ds, v = .ref a ∧ val ρ r = some (.dict ds) ∧ Rd H a (.dK xs) ∧ DFk T.K H F xs ds := by
  cases q : val ρ r with
  | none => rw [q] at hk; cases hk
  | some d =>
    rw [q] at hk
    cases d with
    | dict ds =>
      obtain ⟨a, xs, e, h1, h2⟩ := vw_K (val_vw E h q) hk
      exact ⟨a, xs, ds, e, rfl, h1, h2⟩
    | _ => cases hk
section
variable {X : Cx} {T : Tb} {W : WX} {n : Nat} {o e f : Expr} {fo fk fd : EM} {apos cpos : Pos}
theorem e_get (c : Cxt X T W n) (ho : SE X T W o fo) (he : SE X T W e fk) (hf : SE X T W f fd) (h1 : attributeBase o "get" X.env (eval o X.env) = eval o X.env := by rfl)
    (h2 : ((backTo cpos (starEach [e, f] X.env)).all (fun x => !x.1) && (backToKw cpos (keywordEach [] X.env)).all (fun x => x.1.isSome) && decide (([e, f] : List Expr).length + ([] : List Keyword).length + (if ([] : List Keyword).isEmpty then 0 else 1) < 30)) = true := by rfl)
    (h3 : (apos.endLine == cpos.line) = true := by rfl) (h4 : backTo cpos (starEach [e, f] X.env) = [(false, eval e X.env), (false, eval f X.env)] := by rfl) : SE X T W (.Call (.Attribute o "get" apos) [e, f] [] cpos) (getM fo fk fd) := by
  refine pe_imp (pe_dget2 (by have := c.room.units; omega) ho he hf ⟨h1, h2, h3, h4⟩) fun σ H Q ⟨ρ, F, O, E, P⟩ => ?_
  refine stp .refl E P fun v H1 r ρ1 F1 O1 x1 y1 E1 r1 P1 => ?_
  split at P1
  · rename_i hk
    obtain ⟨a, xs, ds, rfl, _, h5, _⟩ := val_K E1 r1 hk
    refine ⟨a, rfl, .inl ⟨xs, h5⟩, ?_⟩
    refine stp y1 E1 P1 fun y H2 ry ρ2 F2 O2 x2 y2 E2 r2 P2 => ?_
    refine stp y2 E2 P2 fun z H3 rz ρ3 F3 O3 x3 y3 E3 r3 P3 => ?_
    unfold getR at P3
    split at P3
    · rename_i ds' q
      split at P3
      · rename_i yd zd
        split at P3
        · rename_i hz
          have rr : ResR T H H3 F3 O3 σ (.ref a) r := ResR.mono E2 x3 (ResR.mono E1 x2 r1)
          obtain ⟨b, ks, e1, g1, g2⟩ := vw_K (val_vw E3 rr q) hz.2
          cases e1
          obtain ⟨k, rfl⟩ := isKey_ex hz.1
          have ry' : DF T.K H3 F3 y (kD k) := DF.mono (E2.kept x3) x3.grow r2
          obtain rfl : y = kV k := kD_vw (.inl ry')
          refine ⟨valV ks k, .inl ⟨ks, k, g1, rfl, rfl⟩, ?_⟩
          cases q2 : atK ds' (kD k) with
          | none =>
            rw [q2] at P3
            rw [atK_none k g2 q2]
            exact P3 z H3 F3 O3 y3 E3 r3
          | some d =>
            rw [q2] at P3
            obtain ⟨w, g3, g4⟩ := atK_dfk k g2 q2
            rw [g3]
            exact P3 w H3 F3 O3 y3 E3 g4
        · exact P3.elim
      · exact P3.elim
    · exact P3.elim
  · exact P1.elim
end

/-! ### sorted(d), list(d), len(d) -/
def rSortDI : List V → Hp → VK → Prop := fun xs H Q => ∃ (a : Addr) (kvs : List (Key × V)) (ks : List Int), xs = [.ref a] ∧ Rd H a (.dK kvs) ∧ kvs.map (·.1) = ks.map Sum.inl ∧
    ∀ (ys : List Int) (p : Addr), ys.Perm ks → ys.Pairwise (· ≤ ·) → H p = none → Q (.ref p) (upd H p (.lst (ys.map V.int)))
theorem cr_sortDI {X : Cx} (hcalm : X.calm = true) : CallR X (.builtin "sorted") rSortDI := by
  intro pins s σ H xs us Q I r q
  obtain ⟨a, kvs, ks, ex, hd, hks, q⟩ := q
  subst ex
  obtain ⟨u, eu, rx⟩ := vals1 r
  subst eu
  cases rx
  obtain ⟨z, lo, vs, rel, dd⟩ := dk_rd I.hok hd
  obtain ⟨ep, hat⟩ := dd.dictAt
  have hkeys : vs.map (·.1) = ks.map Sum.inl := rel.keys.symm.trans hks
  have hl : vs.length = ks.length := by
    have e := congrArg List.length hkeys
    rw [List.length_map, List.length_map] at e
    exact e
  have h16 : vs.length ≤ sizeLine := by rw [← rel.length]; exact z
  refine Calls.call_function_entry PyProof.Rows.kind_sorted PyProof.Rows.plain_sorted PyProof.Rows.entry_sorted (PyProof.Rows.args_sorted1 _) ?_
  unfold Builtin.«sorted»
  refine wpAny_bind (m := checkCount "sorted" 1 1 _) (wpAny_pure ?_)
  refine wpAny_bind (PySem.W.kdu_collect (A := X.A.in1) (PySem.W.kdl_dict (knd := mixKind X.prog X.w) (kvs := vs) (ep := ep) lo) (I.ok.hd hcalm) hat h16 fun h' tk acc hk hacc => ?_)
  have hal : acc.toList.length = ks.length := by rw [Array.length_toList, hacc.1, hl]
  have hal2 : acc.toList.length ≤ sizeLine := by rw [hal, ← hl]; exact h16
  have hS : IntsAre acc.toList ks := ints_each hal fun j v e => by
    obtain ⟨k, x, e1, e2⟩ := hacc.2 j v (by rw [← Array.getElem?_toList]; exact e)
    have e3 : (vs.map (·.1))[j]? = some k := by rw [List.getElem?_map, e1]; rfl
    rw [hkeys, List.getElem?_map] at e3
    cases e4 : ks[j]? with
    | none => rw [e4] at e3; cases e3
    | some y =>
      rw [e4] at e3
      have e5 : Sum.inl y = k := Option.some.inj e3
      subst e5
      rcases keyIs_shape (show keyIs (Sum.inl y) v = true from e2) with ⟨i, t, ek, ev⟩ | ⟨z, t, ek, ev⟩
      · cases ek
        exact ⟨y, t, rfl, ev⟩
      · cases ek
  have I1 : L2.Inv X pins σ H { s with heap := h', toks := tk } := I.kept hk
  refine wpAny_bind (wpAny_newList ?_ hal2)
  have hoL : (h'.push (seqObj "list" acc.toList.toArray 0)).get? h'.objs.size = some (seqObj "list" acc.toList.toArray 0) := Heap.get?_push_size _ rfl
  show wpAny _ _ _ _ _ { s with heap := h'.push (seqObj "list" acc.toList.toArray 0), toks := tk }
  refine wpAny_bind (wpAny_holding (wpAny_call_entry PyProof.Rows.slot_list_sort ⟨_, hoL, rfl⟩ PyProof.Rows.entry_list_sort
    (PyProof.Rows.list_sort_treeAny (s := { s with heap := h'.push (seqObj "list" acc.toList.toArray 0), toks := tk }) hoL hS hal2 fun out ys g1 g2 g3 => ⟨_, rfl, ?_⟩) (PyProof.Rows.args_list_sort _)))
  obtain ⟨e', he'⟩ := PyProof.Rows.sortedHeap_at (vs := acc.toList) (out := out) hoL
  have hlen : (ys.map V.int).length ≤ sizeLine := by
    rw [List.length_map, g2.length_eq, ← hl]
    exact h16
  refine wpAny_pure ⟨_, rfl, .ref h'.objs.size, upd H h'.objs.size (.lst (ys.map V.int)), I1.laid (t' := tk) (fun b u e => ?_) (Nat.le_refl _)
    (show ObjOk X.prog X.w _ _ _ (.lst (ys.map V.int)) from ⟨hlen, out.toList, e', vals_of_ints g1, by rw [Array.toArray_toList]; exact he'⟩), rfl, q ys _ g2 g3 (I1.hok.fresh (Nat.le_refl _))⟩
  have hb : b < h'.objs.size := Heap.lt_size e
  rw [PyProof.Rows.sortedHeap_old (Nat.ne_of_lt hb) (by rw [size_push']; exact Nat.lt_succ_of_lt hb)]
  exact Heap.get?_push_of_some _ e
theorem keys_dfk {K : PySem.W.Frag} {H : Hp} {F : Reg} : ∀ {ks : List (Key × V)} {ds : List (PyData × PyData)} {ns : List Int}, DFk K H F ks ds → ds.map (·.1) = ns.map PyData.int → ks.map (·.1) = ns.map Sum.inl
  | _, _, [], .nil, _ => rfl
  | _, _, _ :: _, .nil, h => by cases h
  | _, _, [], .cons a b, h => by cases h
  | _, _, n :: r, .cons (k := k) a b, h => by
    rw [List.map_cons, List.map_cons, List.cons.injEq] at h
    rw [List.map_cons, List.map_cons, keys_dfk b h.2]
    cases k with
    | inl i => have := h.1; cases this; rfl
    | inr x => have := h.1; cases this
def sortKD : PyData → Option R
  | .dict ds => (intsOf (ds.map (·.1))).map fun ns => .own (.list ((sortI ns).map PyData.int))
  | _ => none
theorem sortKD_is {ds : List (PyData × PyData)} {ns : List Int} (h : ds.map (·.1) = ns.map PyData.int) : sortKD (.dict ds) = some (.own (.list ((sortI ns).map PyData.int))) := by
  show (intsOf (ds.map (·.1))).map _ = _
  rw [h, intsOf_map]
  rfl
theorem does_sortK {T : Tb} : DoesN T rSortDI (on1 sortKD) := does1_on fun x d z H F Q lv hx hg hq => by
  unfold sortKD at hg
  split at hg
  · rename_i ds
    obtain ⟨ns, h1, rfl⟩ := Option.map_eq_some_iff.mp hg
    have h2 := intsOf_eq h1
    obtain ⟨a, rfl, ⟨ks, h3, s1⟩ | ⟨o, xs, h3, e, s1⟩⟩ := hx.dctA
    · refine ⟨a, ks, ns, rfl, h3, keys_dfk s1 h2, fun ns' p hp hpw hn => ?_⟩
      have e : ns' = sortI ns := sort_uniq (hp.trans (sortI_perm ns).symm) hpw (sortI_pw ns)
      rw [e]
      exact hq _ _ F (.laid hn) (resN_lst hn (fun q => lv p q hn) (DFs.of_ints _))
    · have ne := e.ne
      clear hx hq e h3
      cases s1 with
      | nil => exact absurd rfl ne
      | cons q r b c =>
        cases ns with
        | nil => cases h2
        | cons n r => cases h2
  · cases hg
/-- list(d) -/
def lstKD : PyData → Option R
  | .dict ds => if isKD ds = true then some (.own (.list (ds.map (·.1)))) else none
  | _ => none
theorem lstKD_is {ds : List (PyData × PyData)} (h : isKD ds = true) : lstKD (.dict ds) = some (.own (.list (ds.map (·.1)))) := if_pos h
theorem dfk_keys {K : PySem.W.Frag} {H : Hp} {F : Reg} : ∀ {ks : List (Key × V)} {ds : List (PyData × PyData)}, DFk K H F ks ds → DFs K H F (ks.map fun kv => kV kv.1) (ds.map (·.1))
  | _, _, .nil => .nil
  | _, _, .cons (k := k) a b => .cons (by cases k <;> constructor) (dfk_keys b)
theorem does_listK {T : Tb} : DoesN T (fun xs H Q => ∃ (a : Addr) (kvs : List (Key × V)), xs = [.ref a] ∧ Rd H a (.dK kvs) ∧ ∀ p, H p = none → Q (.ref p) (upd H p (.lst (kvs.map fun kv => kV kv.1)))) (on1 lstKD) := does1_on fun x d z H F Q lv hx hg hq => by
  unfold lstKD at hg
  split at hg
  · split at hg
    · rename_i ds hk
      cases hg
      obtain ⟨a, ks, rfl, h3, s1⟩ := vw_K hx hk
      exact ⟨a, ks, rfl, h3, fun p hp => hq _ _ F (.laid hp) (resN_lst hp (fun q => lv p q hp) (dfk_keys s1))⟩
    · cases hg
  · cases hg
/-- len(d) -/
def rLenDT (K : PySem.W.Frag) : List V → Hp → VK → Prop := fun xs H Q => (∃ (a : Addr) (kvs : List (Key × V)), xs = [.ref a] ∧ Rd H a (.dK kvs) ∧ Q (.int kvs.length) H) ∨ ∃ (a : Addr) (o : Obj) (es : List Ent) (ds : List (PyData × PyData)) (F : Reg), xs = [.ref a] ∧ H a = some (DTo a o) ∧ EsOk a o es ∧ DFt K H F es ds ∧ Q (.int es.length) H
theorem cr_lenDT {X : Cx} : CallR X (.builtin "len") (rLenDT X.K) := by
  intro pins s σ H xs us Q I r h
  rcases h with ⟨a, kvs, rfl, h1, q⟩ | ⟨a, o, es, ds, F, rfl, h1, e, d, q⟩
  · obtain ⟨u, rfl, rx⟩ := vals1 r
    obtain rfl : u = .ref a := rx
    exact d_len I h1 fun t s' I' => ⟨.int kvs.length, H, I', ⟨t, rfl⟩, q⟩
  · obtain ⟨u, rfl, rx⟩ := vals1 r
    obtain rfl : u = .ref a := rx
    refine call_len_dictH e.sm (to_dict I h1 e d) (by have := e.sz; rw [sizeLine_eq] at this; omega) ?_
    exact ⟨.int ((es.length : Nat) : Int), H, I.tok _, ⟨_, rfl⟩, q⟩
def lenKD : PyData → Option R
  | .dict ds => some (.dat (.int ds.length))
  | _ => none
@[simp] theorem lenKD_e (ds : List (PyData × PyData)) : lenKD (.dict ds) = some (.dat (.int ds.length)) := eqI rfl
theorem does_lenK {T : Tb} : DoesN T (rLenDT T.K) (on1 lenKD) := does1_on fun x d z H F Q lv hx hg hq => by
  unfold lenKD at hg
  split at hg
  · rename_i ds
    cases hg
    obtain ⟨a, rfl, ⟨ks, h3, s1⟩ | ⟨o, xs, h3, e, s1⟩⟩ := hx.dctA
    · exact .inl ⟨a, ks, rfl, h3, hq _ H F .refl (by rw [s1.length]; exact .int _)⟩
    · exact .inr ⟨a, o, xs, ds, F, rfl, h3, e, s1, hq _ H F .refl (by rw [s1.length]; exact .int _)⟩
  · cases hg
section
variable {X : Cx} {T : Tb} {W : WX} {n : Nat} {N : List Str} {sc : Scope} {e : Expr} {f : AM} {p pos : Pos}
theorem e_sortK (l : At X N sc) (c : Cxt X T W n) (hx : gnB sc "sorted" = true) (hm : X.mg "sorted" = none) (ha : SA X T W [e] f) (he : starEach [e] X.env = (false, eval e X.env) :: starEach [] X.env := by rfl) : SE X T W (.Call (.Name "sorted" p) [e] [] pos) (opnM (on1 sortKD) f) :=
  se_b l hx (cr_sortDI c.calm) does_sortK hm (by decide +kernel) ha he rfl
theorem e_listK (l : At X N sc) (c : Cxt X T W n) (hx : gnB sc "list" = true) (hm : X.mg "list" = none) (ha : SA X T W [e] f) (he : starEach [e] X.env = (false, eval e X.env) :: starEach [] X.env := by rfl) : SE X T W (.Call (.Name "list" p) [e] [] pos) (opnM (on1 lstKD) f) :=
  se_t l hx (call_listD c.calm) does_listK hm (by decide +kernel) ha he rfl
theorem e_lenK (l : At X N sc) (c : Cxt X T W n) (hx : gnB sc "len" = true) (hm : X.mg "len" = none) (ha : SA X T W [e] f) (he : starEach [e] X.env = (false, eval e X.env) :: starEach [] X.env := by rfl) : SE X T W (.Call (.Name "len" p) [e] [] pos) (opnM (on1 lenKD) f) :=
  se_b l hx (c.hK ▸ cr_lenDT) does_lenK hm PySem.boot_len ha he rfl
end
end DL

/-! D55: a comprehension of two clauses stored; dict stores as printed. -/
namespace DL
open PySem PySem.Spec PyProof.Rows
open L2 hiding Sp
section
variable {X : Cx} {T : Tb} {W : WX} {N : List Str} {sc : Scope} {φ : Fm} {n : Nat} {pos : Pos}
theorem ss_aLc2 {elt tg iter tg1 iter1 : Expr} {ifs ifs1 : List Expr} {scope : Scope} {own : List (Str × Nat)} {vs1 : List Nat} {it it1 : IM} {g g1 : GM} {c c1 : Rho → Option (Oe Bool)} {f : EM} {y : Str} {py spos : Pos} (a : At X N sc) (hk : X.env.scope.kind = .function) (nd : X.N.Nodup) (hc : X.calm = true) (i : Nat) (h : tgB N sc i y = true) (hp : φ.pr i = false)
    (hw : (lclB sc y && (py.line == pos.line) && !(scope.names.any fun (n, k) => n == y && (k == .local || k == .cell))) = true) (hi : SI X T W tg iter it) (ok : blkC N sc scope own = true) (hv : ∀ i ∈ vs1, i ∈ own.map (·.2))
    (hg : ∀ (s : Shared) (H : Hp) (C : Addr) (cl : List (Str × Addr)) (fp : List Addr), SG (X.blk s H scope (compEnvC scope cl C X.env) fp) T (prB (own.map (·.2))) tg g)
    (ht : ∀ (s : Shared) (H : Hp) (C : Addr) (cl : List (Str × Addr)) (fp : List Addr), STs (X.blk s H scope (compEnvC scope cl C X.env) fp) T ifs c)
    (hi1 : ∀ (s : Shared) (H : Hp) (C : Addr) (cl : List (Str × Addr)) (fp : List Addr), SI (X.blk s H scope (compEnvC scope cl C X.env) fp) T W0 tg1 iter1 it1)
    (hg1 : ∀ (s : Shared) (H : Hp) (C : Addr) (cl : List (Str × Addr)) (fp : List Addr), SG (X.blk s H scope (compEnvC scope cl C X.env) fp) T (prB vs1) tg1 g1)
    (ht1 : ∀ (s : Shared) (H : Hp) (C : Addr) (cl : List (Str × Addr)) (fp : List Addr), STs (X.blk s H scope (compEnvC scope cl C X.env) fp) T ifs1 c1)
    (he : ∀ (s : Shared) (H : Hp) (C : Addr) (cl : List (Str × Addr)) (fp : List Addr), SE (X.blk s H scope (compEnvC scope cl C X.env) fp) T W0 elt f) (hs : ∀ x, foldedSetIterable iter X.env x = pure x := by intro _; rfl) (hs1 : ∀ env x, foldedSetIterable iter1 env x = pure x := by intro _ _; rfl) :
    SS X T W φ (.Assign [.Name y py] (.ListComp elt [⟨tg, iter, ifs, 0⟩, ⟨tg1, iter1, ifs1, 0⟩] scope pos) spos) (asgM i (lc2M it g (own.map (·.2)) c it1 g1 vs1 c1 f)) := by
  have hw' := hw
  simp only [Bool.and_eq_true, Bool.not_eq_true'] at hw'
  unfold tgB at h
  simp only [Bool.and_eq_true, decide_eq_true_eq] at h
  have hy : X.N[i]? = some y := by rw [a.hN]; exact h.1
  refine ps_impL (ps_setLc2 hc nd hy (by rw [a.hs]; exact lclB_ok hw'.1.1) (a.sw hk hw) hi (a.blkOk ok) hv hg ht hi1 hg1 ht1 he hs hs1) fun D σ H hl h => ?_
  exact lc2_of prB_ok prB_ok (asg_of hp (by rw [hl]; exact lt_of_at hy) h)
theorem s_setK {e ei : Expr} {fe fi : EM} {p p' : Pos} {x : Str} (a : At X N sc) (c : Cxt X T W n) (s : Nat) (h : nmB N sc s x = true) (he : SE X T W e fe) (hi : SE X T W ei fi) (hs : swapsWith e (some (.Subscript (.Name x p) ei p')) pos.line X.env = pure false := by rfl) :
    SS X T W φ (.Assign [.Subscript (.Name x p) ei p'] e pos) (setKM s fi fe) :=
   ss_setK c.hK (by have := c.room.units; omega) he (pe_n a s h) hi hs
end
end DL

/-! D56: parallel assignment to names of which some are captured: what is new stays owned. -/
namespace DL
open PySem PySem.Spec PyProof.Rows
open L2 hiding Sp
section
variable {X : Cx} {T : Tb} {W : WX} {φ : Fm}
theorem parc_of {K : PySem.W.Frag} {i j : Nat} {fa fb : EM} {D : Ends} {σ : L2.St} {H : Hp} (hp : φ.pr i = false) (hq : φ.pr j = false) (hi : i < σ.length) (hj : j < σ.length) (h : TSof T W φ (parM i j fa fb) D σ H) :
    tAsg (tTup (tCons (Tof T W (tlE T) fa) (tCons (Tof T W (tlE T) fb) tNil))) (gTup K 2 (gCons (gName i) (gCons (gName j) gNil))) D σ H := by
  obtain ⟨ρ, F, O, S, P⟩ := h
  refine sps .refl .refl S P fun v H1 r ρ1 F1 O1 x1 y1 S1 r1 P1 => ?_
  cases q1 : sv ρ1 r with
  | none => rw [q1] at P1; exact P1.elim
  | some z =>
    obtain ⟨r', ρ2⟩ := z
    rw [q1] at P1
    dsimp only at P1
    obtain ⟨F2, O2, y2, E2, r2, g2, sb2, _, n2⟩ := sv_ok y1 (fun _ h => h) S1.E r1 q1
    have S2 : StR T φ H1 F2 O2 σ ρ2 := ⟨E2, S1.lb, fun k b hk q => S1.lf k b hk (sb2 k b q)⟩
    refine sps y2 .refl S2 P1 fun u H3 s ρ3 F3 O3 x3 y3 S3 r3 P3 => ?_
    cases q3 : sv ρ3 s with
    | none => rw [q3] at P3; exact P3.elim
    | some z =>
      obtain ⟨s', ρ4⟩ := z
      rw [q3] at P3
      obtain ⟨F4, O4, y4, E4, r4, g4, sb4, nw4, n4⟩ := sv_ok y3 (fun b h => y1.live b h) S3.E r3 q3
      refine ⟨by show 2 ≤ sizeLine; decide, fun p hpn => ⟨p, [v, u], rfl, .inl (.inl upd_same), rfl, v, [u], rfl, u, [], rfl, rfl, ?_⟩⟩
      have y4' : Ext true H F O (upd H3 p (.tup [v, u])) F4 O4 := y4.trans (.laid hpn)
      have E4' : EnvR T (upd H3 p (.tup [v, u])) F4 O4 σ ρ4 := E4.laid hpn
      have S4 : StR T φ (upd H3 p (.tup [v, u])) F4 O4 σ ρ4 := ⟨E4', fun b h => S3.lb b ((Ext.laid (s := false) (F := F4) (O := O4) hpn).live b h), fun k b hk q => S3.lf k b hk (sb4 k b q)⟩
      have xl : Ext false H3 F4 O4 (upd H3 p (.tup [v, u])) F4 O4 := .laid hpn
      have r5 : ResR T H (upd H3 p (.tup [v, u])) F4 O4 σ v r' := ResR.mono E4 xl (res_up g4 sb4 nw4 (ResR.mono E2 x3 r2))
      have r4' : ResR T H1 (upd H3 p (.tup [v, u])) F4 O4 σ u s' := ResR.mono E4 xl r4
      obtain ⟨s5, c5⟩ := res_slot r5 n2
      obtain ⟨s6, c6⟩ := res_slot r4' n4
      obtain ⟨_, c2⟩ := res_slot r2 n2
      obtain ⟨O5, y5, S5, w5⟩ := put_ok y4' S4 hi s5 fun a e => ⟨(c5 a e).1, (c5 a e).2.1, (c5 a e).2.2.1, S.lb a (c5 a e).2.2.1⟩
      have ne : ∀ a, resA u s' = some a → ∀ k, O5 k ≠ some a := fun a e k z => by
        rcases w5 k a z with z | z
        · exact (c6 a e).2.1 k z
        · obtain ⟨o, ho⟩ := (c2 a z).2.2.2
          have := (c6 a e).2.2.1
          rw [ho] at this; cases this
      obtain ⟨O6, y6, S6, _⟩ := put_ok y5 S5 (by rw [List.length_set]; exact hj) s6 fun a e => ⟨(c6 a e).1, ne a e, y1.live a (c6 a e).2.2.1, S1.lb a (c6 a e).2.2.1⟩
      exact P3 _ _ F4 O6 y6 S6 (.trans (.set hp) (.set hq))
theorem parc3_of {K : PySem.W.Frag} {i j l : Nat} {fa fb fc : EM} {D : Ends} {σ : L2.St} {H : Hp} (hp : φ.pr i = false) (hq : φ.pr j = false) (hr : φ.pr l = false) (hi : i < σ.length) (hj : j < σ.length) (hl : l < σ.length) (h : TSof T W φ (parM3 i j l fa fb fc) D σ H) :
    tAsg (tTup (tCons (Tof T W (tlE T) fa) (tCons (Tof T W (tlE T) fb) (tCons (Tof T W (tlE T) fc) tNil)))) (gTup K 3 (gCons (gName i) (gCons (gName j) (gCons (gName l) gNil)))) D σ H := by
  obtain ⟨ρ, F, O, S, P⟩ := h
  refine sps .refl .refl S P fun v H1 r ρ1 F1 O1 x1 y1 S1 r1 P1 => ?_
  cases q1 : sv ρ1 r with
  | none => rw [q1] at P1; exact P1.elim
  | some z =>
    obtain ⟨r', ρ2⟩ := z
    rw [q1] at P1
    dsimp only at P1
    obtain ⟨F2, O2, y2, E2, r2, g2, sb2, _, n2⟩ := sv_ok y1 (fun _ h => h) S1.E r1 q1
    have S2 : StR T φ H1 F2 O2 σ ρ2 := ⟨E2, S1.lb, fun k b hk q => S1.lf k b hk (sb2 k b q)⟩
    refine sps y2 .refl S2 P1 fun u H3 s ρ3 F3 O3 x3 y3 S3 r3 P3 => ?_
    cases q3 : sv ρ3 s with
    | none => rw [q3] at P3; exact P3.elim
    | some z =>
      obtain ⟨s', ρ4⟩ := z
      rw [q3] at P3
      dsimp only at P3
      obtain ⟨F4, O4, y4, E4, r4, g4, sb4, nw4, n4⟩ := sv_ok y3 (fun b h => y1.live b h) S3.E r3 q3
      have S4 : StR T φ H3 F4 O4 σ ρ4 := ⟨E4, S3.lb, fun k b hk q => S3.lf k b hk (sb4 k b q)⟩
      have r5 : ResR T H H3 F4 O4 σ v r' := res_up g4 sb4 nw4 (ResR.mono E2 x3 r2)
      refine sps y4 .refl S4 P3 fun w H5 t ρ5 F5 O5 x5 y5 S5 r6 P5 => ?_
      cases q5 : sv ρ5 t with
      | none => rw [q5] at P5; exact P5.elim
      | some z =>
        obtain ⟨t', ρ6⟩ := z
        rw [q5] at P5
        obtain ⟨F6, O6, y6, E6, r7, g6, sb6, nw6, n6⟩ := sv_ok y5 (fun b h => y3.live b h) S5.E r6 q5
        refine ⟨by show 3 ≤ sizeLine; decide, fun p hpn => ⟨p, [v, u, w], rfl, .inl (.inl upd_same), rfl, v, [u, w], rfl, u, [w], rfl, w, [], rfl, rfl, ?_⟩⟩
        have xl : Ext false H5 F6 O6 (upd H5 p (.tup [v, u, w])) F6 O6 := .laid hpn
        have y6' : Ext true H F O (upd H5 p (.tup [v, u, w])) F6 O6 := y6.trans (.laid hpn)
        have S6 : StR T φ (upd H5 p (.tup [v, u, w])) F6 O6 σ ρ6 := ⟨E6.laid hpn, fun b h => S5.lb b (xl.live b h), fun k b hk q => S5.lf k b hk (sb6 k b q)⟩
        have r8 : ResR T H (upd H5 p (.tup [v, u, w])) F6 O6 σ v r' := ResR.mono E6 xl (res_up g6 sb6 nw6 (ResR.mono E4 x5 r5))
        have r9 : ResR T H1 (upd H5 p (.tup [v, u, w])) F6 O6 σ u s' := ResR.mono E6 xl (res_up g6 sb6 nw6 (ResR.mono E4 x5 r4))
        have r7' := ResR.mono E6 xl r7
        obtain ⟨s8, c8⟩ := res_slot r8 n2
        obtain ⟨s9, c9⟩ := res_slot r9 n4
        obtain ⟨s7, c7⟩ := res_slot r7' n6
        obtain ⟨_, c2⟩ := res_slot r2 n2
        obtain ⟨_, c4⟩ := res_slot r4 n4
        obtain ⟨_, c5⟩ := res_slot r5 n2
        obtain ⟨Oa, ya, Sa, wa⟩ := put_ok y6' S6 hi s8 fun a e => ⟨(c8 a e).1, (c8 a e).2.1, (c8 a e).2.2.1, S.lb a (c8 a e).2.2.1⟩
        have ne : ∀ a, resA u s' = some a → ∀ k, Oa k ≠ some a := fun a e k z => by
          rcases wa k a z with z | z
          · exact (c9 a e).2.1 k z
          · obtain ⟨o, ho⟩ := (c2 a z).2.2.2
            have := (c9 a e).2.2.1
            rw [ho] at this; cases this
        obtain ⟨Ob, yb, Sb, wb⟩ := put_ok ya Sa (by rw [List.length_set]; exact hj) s9 fun a e => ⟨(c9 a e).1, ne a e, y1.live a (c9 a e).2.2.1, S1.lb a (c9 a e).2.2.1⟩
        have ne2 : ∀ a, resA w t' = some a → ∀ k, Ob k ≠ some a := fun a e k z => by
          rcases wb k a z with z | z
          · rcases wa k a z with z | z
            · exact (c7 a e).2.1 k z
            · obtain ⟨o, ho⟩ := (c5 a z).2.2.2
              have := (c7 a e).2.2.1
              rw [ho] at this; cases this
          · obtain ⟨o, ho⟩ := (c4 a z).2.2.2
            have := (c7 a e).2.2.1
            rw [ho] at this; cases this
        obtain ⟨Oc, yc, Sc, _⟩ := put_ok yb Sb (by rw [List.length_set, List.length_set]; exact hl) s7 fun a e => ⟨(c7 a e).1, ne2 a e, y3.live a (c7 a e).2.2.1, S3.lb a (c7 a e).2.2.1⟩
        exact P5 _ _ F6 Oc yc Sc ((Keeps.trans (.set hp) (.set hq)).trans (.set hr))
end
section
variable {X : Cx} {T : Tb} {W : WX} {N : List Str} {sc : Scope} {φ : Fm} {n : Nat} {pos : Pos}
theorem pg_n {x : Str} {p : Pos} (a : At X N sc) (nd : X.N.Nodup) (fn : ∀ x, X.fn x = true) (i : Nat) (h : tgB N sc i x = true) : PG X (.Name x p) (gName i) := by
  unfold tgB at h
  simp only [Bool.and_eq_true, decide_eq_true_eq] at h
  exact pg_name nd (by rw [a.hN]; exact h.1) (by rw [a.hs]; exact locB_ok h.2) (.inl (fn x))
theorem tg_N {x : Str} {i : Nat} (a : At X N sc) (h : tgB N sc i x = true) : X.N[i]? = some x := by
  unfold tgB at h
  simp only [Bool.and_eq_true, decide_eq_true_eq] at h
  rw [a.hN]; exact h.1
/-- a, b = e, f; a name is captured -/
theorem s_c2 {ea eb : Expr} {fa fb : EM} {x y : Str} {px py pt : Pos} {kt k2 : Nat} {pt2 : Pos} (a : At X N sc) (c : Cxt X T W n) (fn : ∀ x, X.fn x = true) (i j : Nat) (hi : tgB N sc i x = true) (hj : tgB N sc j y = true) (hp : φ.pr i = false) (hq : φ.pr j = false)
    (hcb : celB sc [.Name x px, .Name y py] = true) (ha : SE X T W ea fa) (hb : SE X T W eb fb) (hs : starEach [ea, eb] X.env = (false, eval ea X.env) :: starEach [eb] X.env := by rfl) (hs2 : starEach [eb] X.env = (false, eval eb X.env) :: starEach [] X.env := by rfl)
    (hw : swapsWithSole [.Tuple [.Name x px, .Name y py] kt pt] (.Tuple [ea, eb] k2 pt2) pos.line X.env = pure false := by rfl) :
    SS X T W φ (.Assign [.Tuple [.Name x px, .Name y py] kt pt] (.Tuple [ea, eb] k2 pt2) pos) (parM i j fa fb) :=
  ps_impL (ps_asg (pe_tup (pa_cons ha (pa_cons hb pa_nil hs2) hs)) (pg_tup c.calm (pgs_cons (pg_n a c.nd fn i hi) (pgs_cons (pg_n a c.nd fn j hj) pgs_nil))) hw (swap_cel a hcb)) fun D σ H hl q =>
    parc_of hp hq (by rw [hl]; exact lt_of_at (tg_N a hi)) (by rw [hl]; exact lt_of_at (tg_N a hj)) q
theorem s_c3 {ea eb ec : Expr} {fa fb fc : EM} {x y z : Str} {px py pz pt : Pos} {kt k2 : Nat} {pt2 : Pos} (a : At X N sc) (c : Cxt X T W n) (fn : ∀ x, X.fn x = true) (i j l : Nat) (hi : tgB N sc i x = true) (hj : tgB N sc j y = true) (hl : tgB N sc l z = true) (hp : φ.pr i = false) (hq : φ.pr j = false) (hr : φ.pr l = false)
    (hcb : celB sc [.Name x px, .Name y py, .Name z pz] = true) (ha : SE X T W ea fa) (hb : SE X T W eb fb) (hc : SE X T W ec fc) (hs : starEach [ea, eb, ec] X.env = (false, eval ea X.env) :: starEach [eb, ec] X.env := by rfl) (hs2 : starEach [eb, ec] X.env = (false, eval eb X.env) :: starEach [ec] X.env := by rfl) (hs3 : starEach [ec] X.env = (false, eval ec X.env) :: starEach [] X.env := by rfl)
    (hw : swapsWithSole [.Tuple [.Name x px, .Name y py, .Name z pz] kt pt] (.Tuple [ea, eb, ec] k2 pt2) pos.line X.env = pure false := by rfl) :
    SS X T W φ (.Assign [.Tuple [.Name x px, .Name y py, .Name z pz] kt pt] (.Tuple [ea, eb, ec] k2 pt2) pos) (parM3 i j l fa fb fc) :=
  ps_impL (ps_asg (pe_tup (pa_cons ha (pa_cons hb (pa_cons hc pa_nil hs3) hs2) hs)) (pg_tup c.calm (pgs_cons (pg_n a c.nd fn i hi) (pgs_cons (pg_n a c.nd fn j hj) (pgs_cons (pg_n a c.nd fn l hl) pgs_nil)))) hw (swap_cel a hcb)) fun D σ H e q =>
    parc3_of hp hq hr (by rw [e]; exact lt_of_at (tg_N a hi)) (by rw [e]; exact lt_of_at (tg_N a hj)) (by rw [e]; exact lt_of_at (tg_N a hl)) q
end
end DL

/-! D57: sorted of a tuple of ints. -/
namespace DL
open PySem PySem.Spec PyProof.Rows
open L2 hiding Sp
def rSortTI (K : PySem.W.Frag) : List V → Hp → VK → Prop := fun xs H Q => ∃ (a : Addr) (ks : List Int), xs = [.ref a] ∧ SqT K H a (ks.map V.int) ∧
    ∀ (ys : List Int) (p : Addr), ys.Perm ks → ys.Pairwise (· ≤ ·) → H p = none → Q (.ref p) (upd H p (.lst (ys.map V.int)))
theorem cr_sortTI {X : Cx} : CallR X (.builtin "sorted") (rSortTI X.K) := by
  intro pins s σ H xs us Q I r q
  obtain ⟨a, ks, ex, hd, q⟩ := q
  subst ex
  obtain ⟨u, eu, rx⟩ := vals1 r
  subst eu
  cases rx
  obtain ⟨its, rv, ⟨o, e, hc, n, hdat⟩, hz⟩ := I.tuple hd
  rw [List.length_map] at hz
  have hil : its.length = ks.length := by have := rv.length; rw [List.length_map] at this; omega
  refine Calls.call_function_entry PyProof.Rows.kind_sorted PyProof.Rows.plain_sorted PyProof.Rows.entry_sorted (PyProof.Rows.args_sorted1 _) ?_
  unfold Builtin.«sorted»
  refine wpAny_bind (m := checkCount "sorted" 1 1 _) (wpAny_pure ?_)
  refine wpAny_bind (wpAny_collect_seq (A := X.A.in1) a (T := "tuple") (.inr rfl) e hc hdat (fun h' hk => ?_) (by rw [List.size_toArray]; omega))
  have hal2 : its.toArray.toList.length ≤ sizeLine := by simpa [hil] using hz
  have hS : IntsAre its.toArray.toList ks := by
    simpa using rv.ints
  have I1 : L2.Inv X pins σ H { s with heap := h' } := I.kept hk
  refine wpAny_bind (wpAny_newList ?_ hal2)
  have hoL : (h'.push (seqObj "list" its.toArray.toList.toArray 0)).get? h'.objs.size = some (seqObj "list" its.toArray.toList.toArray 0) := Heap.get?_push_size _ rfl
  show wpAny _ _ _ _ _ { s with heap := h'.push (seqObj "list" its.toArray.toList.toArray 0) }
  refine wpAny_bind (wpAny_holding (wpAny_call_entry PyProof.Rows.slot_list_sort ⟨_, hoL, rfl⟩ PyProof.Rows.entry_list_sort
    (PyProof.Rows.list_sort_treeAny (s := { s with heap := h'.push (seqObj "list" its.toArray.toList.toArray 0) }) hoL hS hal2 fun out ys g1 g2 g3 => ⟨_, rfl, ?_⟩) (PyProof.Rows.args_list_sort _)))
  obtain ⟨e', he'⟩ := PyProof.Rows.sortedHeap_at (vs := its.toArray.toList) (out := out) hoL
  have hlen : (ys.map V.int).length ≤ sizeLine := by
    rw [List.length_map, g2.length_eq]
    exact hz
  refine wpAny_pure ⟨_, rfl, .ref h'.objs.size, upd H h'.objs.size (.lst (ys.map V.int)), I1.laid (t' := s.toks) (fun b u e => ?_) (Nat.le_refl _)
    (show ObjOk X.prog X.w _ _ _ (.lst (ys.map V.int)) from ⟨hlen, out.toList, e', vals_of_ints g1, by rw [Array.toArray_toList]; exact he'⟩), rfl, q ys _ g2 g3 (I1.hok.fresh (Nat.le_refl _))⟩
  have hb : b < h'.objs.size := Heap.lt_size e
  rw [PyProof.Rows.sortedHeap_old (Nat.ne_of_lt hb) (by rw [size_push']; exact Nat.lt_succ_of_lt hb)]
  exact Heap.get?_push_of_some _ e
/-- sorted of a list or a tuple of ints -/
def sortTD : PyData → Option R
  | .tuple ds => (intsOf ds).map fun ns => .own (.list ((sortI ns).map PyData.int))
  | _ => none
@[simp] theorem sortTD_t (ns : List Int) : sortTD (.tuple (ns.map PyData.int)) = some (.own (.list ((sortI ns).map PyData.int))) := by
  show (intsOf _).map _ = _
  rw [intsOf_map]
  rfl
theorem does_sortT {T : Tb} : DoesN T (rSortTI T.K) (on1 sortTD) := does1_on fun x d z H F Q lv hx hg hq => by
  unfold sortTD at hg
  split at hg
  · rename_i ds
    obtain ⟨ns, h1, rfl⟩ := Option.map_eq_some_iff.mp hg
    obtain ⟨a, vs, rfl, h3, s1⟩ := hx.tup
    rw [intsOf_eq h1] at s1
    refine ⟨a, ns, rfl, by rw [← s1.ints]; exact h3, fun ns' p hp hpw hn => ?_⟩
    have e : ns' = sortI ns := sort_uniq (hp.trans (sortI_perm ns).symm) hpw (sortI_pw ns)
    rw [e]
    exact hq _ _ F (.laid hn) (resN_lst hn (fun q => lv p q hn) (DFs.of_ints _))
  · cases hg
section
variable {X : Cx} {T : Tb} {W : WX} {n : Nat} {N : List Str} {sc : Scope} {e : Expr} {f : AM} {p pos : Pos}
theorem e_sortT (l : At X N sc) (c : Cxt X T W n) (hx : gnB sc "sorted" = true) (hm : X.mg "sorted" = none) (ha : SA X T W [e] f) (he : starEach [e] X.env = (false, eval e X.env) :: starEach [] X.env := by rfl) : SE X T W (.Call (.Name "sorted" p) [e] [] pos) (opnM (on1 sortTD) f) :=
  se_b l hx (c.hK ▸ cr_sortTI) does_sortT hm (by decide +kernel) ha he rfl
end
end DL

/-! D58: a def that returns a new pair of two new lists; one of the two by its number. -/
namespace DL
open PySem L2
/-- return (x, y): what two slots alone hold -/
def ret2M (n i j : Nat) : SM := fun ρ => match ρ[i]?, ρ[j]? with
  | some (some (.own d)), some (some (.own e)) => if n ≤ i ∧ n ≤ j ∧ i ≠ j then some (.rt (.two d e) ((ρ.set i none).set j none)) else none
  | _, _ => none
/-- one of a new pair of two -/
def ix2M (k : Int) (f : EM) : EM := fun ρ => bindO (f ρ) fun r ρ1 => match r with
  | .two d e => if k = 0 then some (.ok (.own d) ρ1) else if k = 1 then some (.ok (.own e) ρ1) else none
  | _ => none
section
variable {T : Tb} {W : WX} {X : Cx} {φ : Fm} {H : Hp} {F : Reg} {O : Ows} {σ : L2.St} {ρ : Rho} {pos p1 p2 p3 : Pos}
theorem EnvR.drop1 (E : EnvR T H F O σ ρ) (i : Nat) : EnvR T H F (fun j => if j = i then none else O j) σ (ρ.set i none) := by
  have sb : ∀ j b, (if j = i then none else O j) = some b → O j = some b ∧ j ≠ i := fun j b q => by
    by_cases hj : j = i
    · rw [if_pos hj] at q; cases q
    · rw [if_neg hj] at q; exact ⟨q, hj⟩
  refine ⟨by rw [List.length_set]; exact E.len, fun j r e => ?_, fun j b e => ?_, fun j k b e1 e2 => E.inj j k b (sb j b e1).1 (sb k b e2).1, fun j b e q => E.nf j b (sb j b e).1 q, E.lv, E.tb⟩
  · by_cases hj : j = i
    · subst hj
      by_cases hl : j < ρ.length
      · rw [List.getElem?_set_self hl] at e; cases e
      · rw [List.getElem?_eq_none (by rw [List.length_set]; omega)] at e; cases e
    · rw [List.getElem?_set_ne (Ne.symm hj)] at e
      rw [if_neg hj]
      exact E.at_ j r e
  · rw [List.getElem?_set_ne (Ne.symm (sb j b e).2)]
    exact E.own j b (sb j b e).1
theorem ss_ret2 {i j k : Nat} {x y : Str} (hi : PE X (.Name x p1) (tVar i)) (hj : PE X (.Name y p2) (tVar j)) : SS X T W φ (.Return (some (.Tuple [.Name x p1, .Name y p2] k p3)) pos) (ret2M φ.n i j) := by
  refine ps_imp (ps_ret (pe_tup (pa_cons hi (pa_cons hj pa_nil)))) fun D σ H ⟨ρ, F, O, S, P⟩ => ?_
  unfold ret2M at P
  split at P
  · rename_i d e qi qj
    split at P
    · rename_i hc
      obtain ⟨ni, nj, hij⟩ := hc
      obtain ⟨u, hu, a, a1, a2, a3⟩ := S.E.at_ i _ qi
      obtain ⟨v, hv, b, b1, b2, b3⟩ := S.E.at_ j _ qj
      subst a2 b2
      refine ⟨.ref a, hu, .ref b, hv, (by show (2 : Nat) ≤ PySem.sizeLine; decide +kernel), fun p hp => ?_⟩
      have E2 := (S.E.drop1 i).drop1 j
      have g : Gr H F (upd H p (.tup [.ref a, .ref b])) F := .laid hp
      have hab : a ≠ b := fun z => hij (S.E.inj i j a a1 (z ▸ b1))
      have ow : ∀ l c, (if l = j then none else if l = i then none else O l) = some c → O l = some c ∧ l ≠ i ∧ l ≠ j := fun l c q => by
        by_cases z1 : l = j
        · rw [if_pos z1] at q; cases q
        · rw [if_neg z1] at q
          by_cases z2 : l = i
          · rw [if_pos z2] at q; cases q
          · rw [if_neg z2] at q; exact ⟨q, z2, z1⟩
      have lv : ∀ {c : Addr} {dd : PyData}, OwnAt T.K H F c dd → OwnAt T.K (upd H p (.tup [.ref a, .ref b])) F c dd := fun h => h.mono (fun b o h _ => g.keep b o h) g.grow fun o h' => g.keep _ o h'
      refine P (.ref p) σ _ F _ ⟨fun c o h h1 h2 => g.keep c o h, g.live, fun _ h => h, fun c h => .inl h, fun l c q => .inl (ow l c q).1⟩ ⟨E2.gr g, fun c h => S.lb c (g.live c h), fun l c hl q => S.lf l c hl (ow l c q).1⟩ .refl ?_
      refine ⟨p, a, b, rfl, upd_same, hab, ⟨S.lf i a ni a1, S.E.nf i a a1, fun l q => ?_, lv a3⟩, S.lf j b nj b1, S.E.nf j b b1, fun l q => ?_, lv b3⟩
      · obtain ⟨q1, q2, q3⟩ := ow l a q
        exact q2 (S.E.inj l i a q1 a1)
      · obtain ⟨q1, q2, q3⟩ := ow l b q
        exact q3 (S.E.inj l j b q1 b1)
    · exact P.elim
  · exact P.elim
theorem se_ix2 {a : Expr} {i : Int} {j : Nat} {f : EM} (hK : X.K = T.K) (ha : SE X T W a f) : SE X T W (.Subscript a (.Constant (.int i) j p1) pos) (ix2M i f) := by
  refine pe_imp (pe_ix (ix_seq (X := X)) ha pe_int (fun _ _ => rfl)) fun σ H Q ⟨ρ, F, O, E, P⟩ => ?_
  refine stp .refl E P fun v H1 r ρ1 F1 O1 x1 y1 E1 r1 P1 => ?_
  cases r with
  | two d e =>
    obtain ⟨p, a, b, h1, h2, h3, ha, hb⟩ := r1
    subst h1
    have P2 : Post T W (tlE T) σ H F O Q (if i = 0 then some (.ok (.own d) ρ1) else if i = 1 then some (.ok (.own e) ρ1) else none) := P1
    by_cases hi : i = 0
    · rw [if_pos hi] at P2
      subst hi
      exact .inr (.inl ⟨p, [.ref a, .ref b], 0, .ref a, rfl, rfl, .inl (.inl h2), rfl, P2 (.ref a) H1 F1 O1 y1 E1 ⟨a, rfl, ha⟩⟩)
    · rw [if_neg hi] at P2
      by_cases hi : i = 1
      · rw [if_pos hi] at P2
        subst hi
        exact .inr (.inl ⟨p, [.ref a, .ref b], 1, .ref b, rfl, rfl, .inl (.inl h2), rfl, P2 (.ref b) H1 F1 O1 y1 E1 ⟨b, rfl, hb⟩⟩)
      · rw [if_neg hi] at P2
        exact P2.elim
  | dat d => exact P1.elim
  | own d => exact P1.elim
  | slt d => exact P1.elim
  | fn d => exact P1.elim
  | st d => exact P1.elim
  | ex c d => exact P1.elim
theorem e_ix2 {n : Nat} {a : Expr} {i : Int} {j : Nat} {f : EM} (c : Cxt X T W n) (ha : SE X T W a f) : SE X T W (.Subscript a (.Constant (.int i) j p1) pos) (ix2M i f) := se_ix2 c.hK ha
end
@[simp] theorem ix2M_e (k : Int) (f : EM) (ρ : Rho) : ix2M k f ρ = bindO (f ρ) fun r ρ1 => match r with
  | .two d e => if k = 0 then some (.ok (.own d) ρ1) else if k = 1 then some (.ok (.own e) ρ1) else none
  | _ => none := eqI rfl
theorem ret2_is {n i j : Nat} {ρ : Rho} {d e : PyData} (h1 : ρ[i]? = some (some (.own d))) (h2 : ρ[j]? = some (some (.own e))) (hn : n ≤ i ∧ n ≤ j ∧ i ≠ j) : ret2M n i j ρ = some (.rt (.two d e) ((ρ.set i none).set j none)) := by
  unfold ret2M
  rw [h1, h2]
  exact if_pos hn
end DL

namespace Lw
open PySem L2 DL
theorem runD_eq (n m : Nat) (pr : Nat → Bool) (f : SM) (args : List R) (ρ : Rho) (h1 : args.length = n) (h2 : args.map some ++ List.replicate (m - n) none = ρ) : runD n m pr f args = fnR n pr (f ρ) := by
  subst h1 h2
  unfold runD
  rw [if_pos rfl]
  rfl
def k_KINDS : PyData := (.tuple [(.int 1), (.int 2), (.int 3), (.int 4)])
def k_MOST_AGE : PyData := (.int 999)
def k_MOST_SPANS : PyData := (.int 40)
def k_NOUGHT : PyData := (.tuple [(.int 0), (.int 1)])
abbrev ix_NoBook : Nat := 1
abbrev ix_NoPlain : Nat := 2
def fb1__law_pot : SM :=
    (seqM (asgM 3 (op2M dMod (op2M dMul (op2M dPlus (op2M dPlus (op2M dMod (nmM 0) (cM (.int 2147483629))) (op2M dMul (cM (.int 7919)) (nmM 2))) (cM (.int 1))) (cM (.int 48271))) (cM (.int 2147483647))))
    (seqM (asgM 3 (op2M dMod (op2M dPlus (op2M dPlus (op2M dMul (nmM 3) (nmM 3)) (op2M dMul (cM (.int 69621)) (nmM 2))) (cM (.int 7))) (cM (.int 2147483587))))
    (asgM 1 (op2M dPlus (op2M dMul (nmM 1) (cM (.int 2147483587))) (nmM 3)))))
def pr__law_pot (i : Nat) : Bool := [0].contains i
def m__law_pot : SM :=
    (seqM (ifM (tsM (op2M dGe (nmM 0) (op2M dPow (cM (.int 10)) (cM (.int 18))))) (retM 1 (lstM (consD (op2M dMinus (nmM 0) (op2M dPow (cM (.int 10)) (cM (.int 18)))) nilA))) skipM)
    (seqM (asgM 1 (cM (.int 0)))
    (seqM (forM (irM1 (cM (.int 64))) (gnM 2) fb1__law_pot)
    (retM 1 (lstM (consD (nmM 1) nilA))))))
def sem__law_pot : Sem := runD 1 4 pr__law_pot m__law_pot
theorem run__law_pot (a0 : R) : sem__law_pot [a0] = fnR 1 pr__law_pot (m__law_pot [some a0, none, none, none]) := by
  unfold sem__law_pot
  exact runD_eq 1 4 pr__law_pot m__law_pot _ _ rfl rfl
def pr__law_take (i : Nat) : Bool := [0, 1].contains i
def m__law_take : SM :=
    (seqM (asgM 2 (op2M dMod (op2M dIxA (nmM 0) (cM (.int 0))) (nmM 1)))
    (seqM (setM 0 (cM (.int 0)) (op2M dFd (op2M dIxA (nmM 0) (cM (.int 0))) (nmM 1)))
    (retM 2 (nmM 2))))
def sem__law_take : Sem := runD 2 3 pr__law_take m__law_take
theorem run__law_take (a0 a1 : R) : sem__law_take [a0, a1] = fnR 2 pr__law_take (m__law_take [some a0, some a1, none]) := by
  unfold sem__law_take
  exact runD_eq 2 3 pr__law_take m__law_take _ _ rfl rfl
def pr__law_span (i : Nat) : Bool := [0, 1].contains i
def m__law_span : SM :=
    (seqM (asgM 2 (op2M dMul (op2M dIxA (lstM (consD (cM (.int 0)) (consD (cM (.int 0)) (consD (callM sem__law_take (consA (nmM 0) (consA (cM (.int 6)) nilA))) (consD (callM sem__law_take (consA (nmM 0) (consA (cM (.int 90)) nilA))) nilA))))) (callM sem__law_take (consA (nmM 0) (consA (cM (.int 4)) nilA)))) (nmM 1)))
    (seqM (asgM 3 (lstM (consD (callM sem__law_take (consA (nmM 0) (consA (cM (.int 4)) nilA))) (consD (callM sem__law_take (consA (nmM 0) (consA (cM (.int 9)) nilA))) (consD (callM sem__law_take (consA (nmM 0) (consA (cM (.int 9)) nilA))) (consD (callM sem__law_take (consA (nmM 0) (consA (cM (.int 900)) nilA))) nilA))))))
    (seqM (asgM 4 (op2M dPlus (op2M dPlus (nmM 2) (cM (.int 1))) (op2M dIxA (nmM 3) (callM sem__law_take (consA (nmM 0) (consA (cM (.int 4)) nilA))))))
    (retM 2 (tupM (consD (nmM 2) (consD (nmM 4) (consD (op2M dIxA (lstM (consD (cM (.int 0)) (consD (cM (.int 0)) (consD (cM (.int 1)) (consD (cM (.int 2)) (consD (cM (.int 3)) (consD (cM (.int 4)) (consD (cM (.int 1)) nilA)))))))) (callM sem__law_take (consA (nmM 0) (consA (cM (.int 7)) nilA)))) nilA))))))))
def sem__law_span : Sem := runD 2 5 pr__law_span m__law_span
theorem run__law_span (a0 a1 : R) : sem__law_span [a0, a1] = fnR 2 pr__law_span (m__law_span [some a0, some a1, none, none, none]) := by
  unfold sem__law_span
  exact runD_eq 2 5 pr__law_span m__law_span _ _ rfl rfl
def fb1__law_book : SM :=
    (ifM (andT (tsM (op2M dNe (nmM 3) (lstM nilA))) (tsM (op2M dEq (callM sem__law_take (consA (nmM 0) (consA (cM (.int 5)) nilA))) (cM (.int 0))))) (appM 3 (op2M dIxA (nmM 3) (callM sem__law_take (consA (nmM 0) (consA (opnM (on1 lenD) (consA (nmM 3) nilA)) nilA))))) (appM 3 (callM sem__law_span (consA (nmM 0) (consA (nmM 2) nilA)))))
def pr__law_book (i : Nat) : Bool := [0, 1, 2].contains i
def m__law_book : SM :=
    (seqM (asgM 3 (lstM nilA))
    (seqM (forM (irM1 (op2M dPlus (cM (.int 1)) (callM sem__law_take (consA (nmM 0) (consA (nmM 1) nilA))))) (gnM 4) fb1__law_book)
    (retM 3 (opnM (on1 tupD) (consA (nmM 3) nilA)))))
def sem__law_book : Sem := runD 3 5 pr__law_book m__law_book
theorem run__law_book (a0 a1 a2 : R) : sem__law_book [a0, a1, a2] = fnR 3 pr__law_book (m__law_book [some a0, some a1, some a2, none, none]) := by
  unfold sem__law_book
  exact runD_eq 3 5 pr__law_book m__law_book _ _ rfl rfl
def pr__law_cell_at (i : Nat) : Bool := [0, 1].contains i
def m__law_cell_at : SM :=
    (seqM (ifM (tsM (op2M dLt (nmM 1) (opnM (on1 lenD) (consA (nmM 0) nilA)))) (retM 2 (op2M dIxA (nmM 0) (nmM 1))) skipM)
    (retM 2 (cM (.int 0))))
def sem__law_cell_at : Sem := runD 2 2 pr__law_cell_at m__law_cell_at
theorem run__law_cell_at (a0 a1 : R) : sem__law_cell_at [a0, a1] = fnR 2 pr__law_cell_at (m__law_cell_at [some a0, some a1]) := by
  unfold sem__law_cell_at
  exact runD_eq 2 2 pr__law_cell_at m__law_cell_at _ _ rfl rfl
def pr_is_whole (i : Nat) : Bool := [0].contains i
def m_is_whole : SM :=
    (retM 1 (andM (op1M (isiD "int") (nmM 0)) (notM (op1M (isiD "bool") (nmM 0)))))
def sem_is_whole : Sem := runD 1 1 pr_is_whole m_is_whole
theorem run_is_whole (a0 : R) : sem_is_whole [a0] = fnR 1 pr_is_whole (m_is_whole [some a0]) := by
  unfold sem_is_whole
  exact runD_eq 1 1 pr_is_whole m_is_whole _ _ rfl rfl
def pr_is_from_to (i : Nat) : Bool := [0, 1, 2].contains i
def m_is_from_to : SM :=
    (retM 3 (andM (callM sem_is_whole (consA (nmM 0) nilA)) (chM dLe dLe (nmM 1) (nmM 0) (nmM 2))))
def sem_is_from_to : Sem := runD 3 3 pr_is_from_to m_is_from_to
theorem run_is_from_to (a0 a1 a2 : R) : sem_is_from_to [a0, a1, a2] = fnR 3 pr_is_from_to (m_is_from_to [some a0, some a1, some a2]) := by
  unfold sem_is_from_to
  exact runD_eq 3 3 pr_is_from_to m_is_from_to _ _ rfl rfl
def pr_is_lasting (i : Nat) : Bool := [0, 1].contains i
def m_is_lasting : SM :=
    (seqM (ifM (orT (notT (tsM (op1M (isiD "tuple") (nmM 0)))) (orT (tsM (op2M dNe (opnM (on1 lenD) (consA (nmM 0) nilA)) (cM (.int 3)))) (notT (tsM (callM sem_is_from_to (consA (op2M dIxA (nmM 0) (cM (.int 0))) (consA (cM (.int 0)) (consA (nmM 1) nilA)))))))) (retM 2 (cM (.bool false))) skipM)
    (retM 2 (andM (callM sem_is_from_to (consA (op2M dIxA (nmM 0) (cM (.int 1))) (consA (op2M dPlus (op2M dIxA (nmM 0) (cM (.int 0))) (cM (.int 1))) (consA (nmM 1) nilA)))) (callM sem_is_from_to (consA (op2M dIxA (nmM 0) (cM (.int 2))) (consA (cM (.int 0)) (consA (opnM (on1 lenD) (consA (cM k_KINDS) nilA)) nilA)))))))
def sem_is_lasting : Sem := runD 2 2 pr_is_lasting m_is_lasting
theorem run_is_lasting (a0 a1 : R) : sem_is_lasting [a0, a1] = fnR 2 pr_is_lasting (m_is_lasting [some a0, some a1]) := by
  unfold sem_is_lasting
  exact runD_eq 2 2 pr_is_lasting m_is_lasting _ _ rfl rfl
def pr_is_span (i : Nat) : Bool := [0].contains i
def m_is_span : SM :=
    (retM 1 (callM sem_is_lasting (consA (nmM 0) (consA (cM k_MOST_AGE) nilA))))
def sem_is_span : Sem := runD 1 1 pr_is_span m_is_span
theorem run_is_span (a0 : R) : sem_is_span [a0] = fnR 1 pr_is_span (m_is_span [some a0]) := by
  unfold sem_is_span
  exact runD_eq 1 1 pr_is_span m_is_span _ _ rfl rfl
def ce1_is_book : EM :=
    (callM sem_is_span (consA (nmM 1) nilA))
def pr_is_book (i : Nat) : Bool := [0].contains i
def m_is_book : SM :=
    (seqM (ifM (orT (notT (tsM (op1M (isiD "tuple") (nmM 0)))) (notT (tsM (chM dLe dLe (cM (.int 1)) (opnM (on1 lenD) (consA (nmM 0) nilA)) (cM k_MOST_SPANS))))) (retM 1 (cM (.bool false))) skipM)
    (retM 1 (opnM (on1 allD) (consA (lcM (iM (nmM 0)) (gnM 1) [1] yesT ce1_is_book) nilA))))
def sem_is_book : Sem := runD 1 2 pr_is_book m_is_book
theorem run_is_book (a0 : R) : sem_is_book [a0] = fnR 1 pr_is_book (m_is_book [some a0, none]) := by
  unfold sem_is_book
  exact runD_eq 1 2 pr_is_book m_is_book _ _ rfl rfl
def pr_need_book (i : Nat) : Bool := [0].contains i
def m_need_book : SM :=
    (ifM (notT (tsM (callM sem_is_book (consA (nmM 0) nilA)))) (raiseM 1) skipM)
def sem_need_book : Sem := runD 1 1 pr_need_book m_need_book
theorem run_need_book (a0 : R) : sem_need_book [a0] = fnR 1 pr_need_book (m_need_book [some a0]) := by
  unfold sem_need_book
  exact runD_eq 1 1 pr_need_book m_need_book _ _ rfl rfl
def ce1_need_plain : EM :=
    (op2M dGt (nmM 1) (cM (.int 0)))
def pr_need_plain (i : Nat) : Bool := [0].contains i
def m_need_plain : SM :=
    (seqM (dropM (callM sem_need_book (consA (nmM 0) nilA)))
    (ifM (tsM (opnM (on1 anyD) (consA (lcM (iM (nmM 0)) (gtM (gsC (gnM 1) (gsC (gnM 2) (gsC (gnM 3) gs0)))) [1, 2, 3] yesT ce1_need_plain) nilA))) (raiseM 2) skipM))
def sem_need_plain : Sem := runD 1 4 pr_need_plain m_need_plain
theorem run_need_plain (a0 : R) : sem_need_plain [a0] = fnR 1 pr_need_plain (m_need_plain [some a0, none, none, none]) := by
  unfold sem_need_plain
  exact runD_eq 1 4 pr_need_plain m_need_plain _ _ rfl rfl
def cc1_takers_of : Rho → Option (Oe Bool) :=
    (tsM (op2M dGt (nmM 4) (op2M dIxA (op2M dIxA (nmM 0) (nmM 1)) (cM (.int 1)))))
def ce1_takers_of : EM :=
    (nmM 2)
def pr_takers_of (i : Nat) : Bool := [0, 1].contains i
def m_takers_of : SM :=
    (retM 2 (lcM (enM (nmM 0)) (gtM (gsC (gnM 2) (gsC (gtM (gsC (gnM 3) (gsC (gnM 4) (gsC (gnM 5) gs0)))) gs0))) [2, 3, 4, 5] cc1_takers_of ce1_takers_of))
def sem_takers_of : Sem := runD 2 6 pr_takers_of m_takers_of
theorem run_takers_of (a0 a1 : R) : sem_takers_of [a0, a1] = fnR 2 pr_takers_of (m_takers_of [some a0, some a1, none, none, none, none]) := by
  unfold sem_takers_of
  exact runD_eq 2 6 pr_takers_of m_takers_of _ _ rfl rfl
def cc1_givers_of : Rho → Option (Oe Bool) :=
    (andT (tsM (op2M dEq (nmM 5) (cM (.int 0)))) (tsM (op2M dNe (callM sem_takers_of (consA (nmM 0) (consA (nmM 2) nilA))) (lstM nilA))))
def ce1_givers_of : EM :=
    (tupM (consD (nmM 4) (consD (nmM 2) nilA)))
def ce2_givers_of : EM :=
    (nmM 2)
def pr_givers_of (i : Nat) : Bool := [0].contains i
def m_givers_of : SM :=
    (seqM (asgM 1 (lcM (enM (nmM 0)) (gtM (gsC (gnM 2) (gsC (gtM (gsC (gnM 3) (gsC (gnM 4) (gsC (gnM 5) gs0)))) gs0))) [2, 3, 4, 5] cc1_givers_of ce1_givers_of))
    (retM 1 (lcM (iM (opnM (on1 sortAD) (consA (nmM 1) nilA))) (gtM (gsC (gnM 4) (gsC (gnM 2) gs0))) [2, 4] yesT ce2_givers_of)))
def sem_givers_of : Sem := runD 1 6 pr_givers_of m_givers_of
theorem run_givers_of (a0 : R) : sem_givers_of [a0] = fnR 1 pr_givers_of (m_givers_of [some a0, none, none, none, none, none]) := by
  unfold sem_givers_of
  exact runD_eq 1 6 pr_givers_of m_givers_of _ _ rfl rfl
def wt1_common : Rho → Option (Oe Bool) :=
    (tsM (op2M dNe (nmM 1) (cM (.int 0))))
def wb1_common : SM :=
    (parM 0 1 (nmM 1) (op2M dMod (nmM 0) (nmM 1)))
def pr_common (i : Nat) : Bool := ([] : List Nat).contains i
def m_common : SM :=
    (seqM (whM wt1_common wb1_common)
    (retM 2 (opnM (on1 absD) (consA (nmM 0) nilA))))
def sem_common : Sem := runD 2 2 pr_common m_common
theorem run_common (a0 a1 : R) : sem_common [a0, a1] = fnR 2 pr_common (m_common [some a0, some a1]) := by
  unfold sem_common
  exact runD_eq 2 2 pr_common m_common _ _ rfl rfl
def pr_put (i : Nat) : Bool := [0, 1].contains i
def m_put : SM :=
    (seqM (asgM 2 (op2M dMul (callM sem_common (consA (nmM 0) (consA (nmM 1) nilA))) (iteM (tsM (op2M dGt (nmM 1) (cM (.int 0)))) (cM (.int 1)) (op1M dNeg (cM (.int 1))))))
    (retM 2 (tupM (consD (op2M dFd (nmM 0) (nmM 2)) (consD (op2M dFd (nmM 1) (nmM 2)) nilA)))))
def sem_put : Sem := runD 2 3 pr_put m_put
theorem run_put (a0 a1 : R) : sem_put [a0, a1] = fnR 2 pr_put (m_put [some a0, some a1, none]) := by
  unfold sem_put
  exact runD_eq 2 3 pr_put m_put _ _ rfl rfl
def pr_product (i : Nat) : Bool := [0, 1].contains i
def m_product : SM :=
    (retM 2 (callM sem_put (consA (op2M dMul (op2M dIxA (nmM 0) (cM (.int 0))) (op2M dIxA (nmM 1) (cM (.int 0)))) (consA (op2M dMul (op2M dIxA (nmM 0) (cM (.int 1))) (op2M dIxA (nmM 1) (cM (.int 1)))) nilA))))
def sem_product : Sem := runD 2 2 pr_product m_product
theorem run_product (a0 a1 : R) : sem_product [a0, a1] = fnR 2 pr_product (m_product [some a0, some a1]) := by
  unfold sem_product
  exact runD_eq 2 2 pr_product m_product _ _ rfl rfl
def pr_sum_of (i : Nat) : Bool := [0, 1].contains i
def m_sum_of : SM :=
    (retM 2 (callM sem_put (consA (op2M dPlus (op2M dMul (op2M dIxA (nmM 0) (cM (.int 0))) (op2M dIxA (nmM 1) (cM (.int 1)))) (op2M dMul (op2M dIxA (nmM 1) (cM (.int 0))) (op2M dIxA (nmM 0) (cM (.int 1))))) (consA (op2M dMul (op2M dIxA (nmM 0) (cM (.int 1))) (op2M dIxA (nmM 1) (cM (.int 1)))) nilA))))
def sem_sum_of : Sem := runD 2 2 pr_sum_of m_sum_of
theorem run_sum_of (a0 a1 : R) : sem_sum_of [a0, a1] = fnR 2 pr_sum_of (m_sum_of [some a0, some a1]) := by
  unfold sem_sum_of
  exact runD_eq 2 2 pr_sum_of m_sum_of _ _ rfl rfl
def ce1_led_by : EM :=
    (callM sem_put (consA (cM (.int 1)) (consA (opnM (on1 lenD) (consA (nmM 0) nilA)) nilA)))
def fb1_led_by : SM :=
    (seqM (setM 2 (nmM 6) (callM sem_sum_of (consA (op2M dIxA (nmM 2) (nmM 6)) (consA (nmM 5) nilA))))
    (appM 3 (tupM (consD (nmM 1) (consD (nmM 6) (consD (nmM 5) nilA))))))
def fb2_led_by : SM :=
    (seqM (asgM 4 (callM sem_takers_of (consA (nmM 0) (consA (nmM 1) nilA))))
    (seqM (asgM 5 (callM sem_product (consA (op2M dIxA (nmM 2) (nmM 1)) (consA (tupM (consD (cM (.int 1)) (consD (opnM (on1 lenD) (consA (nmM 4) nilA)) nilA))) nilA))))
    (seqM (forM (iM (nmM 4)) (gnM 6) fb1_led_by)
    (setM 2 (nmM 1) (cM k_NOUGHT)))))
def pr_led_by (i : Nat) : Bool := [0].contains i
def m_led_by : SM :=
    (seqM (parM 2 3 (lcM (iM (nmM 0)) (gnM 7) [7] yesT ce1_led_by) (lstM nilA))
    (seqM (forM (iM (callM sem_givers_of (consA (nmM 0) nilA))) (gnM 1) fb2_led_by)
    (ret2M 1 2 3)))
def sem_led_by : Sem := runD 1 8 pr_led_by m_led_by
theorem run_led_by (a0 : R) : sem_led_by [a0] = fnR 1 pr_led_by (m_led_by [some a0, none, none, none, none, none, none, none]) := by
  unfold sem_led_by
  exact runD_eq 1 8 pr_led_by m_led_by _ _ rfl rfl
def pr_weights (i : Nat) : Bool := [0].contains i
def m_weights : SM :=
    (seqM (dropM (callM sem_need_plain (consA (nmM 0) nilA)))
    (retM 1 (ix2M 0 (callM sem_led_by (consA (nmM 0) nilA)))))
def sem_weights : Sem := runD 1 1 pr_weights m_weights
theorem run_weights (a0 : R) : sem_weights [a0] = fnR 1 pr_weights (m_weights [some a0]) := by
  unfold sem_weights
  exact runD_eq 1 1 pr_weights m_weights _ _ rfl rfl
def wt1__law_common : Rho → Option (Oe Bool) :=
    (tsM (op2M dNe (nmM 1) (cM (.int 0))))
def wb1__law_common : SM :=
    (parM 0 1 (nmM 1) (op2M dMod (nmM 0) (nmM 1)))
def pr__law_common (i : Nat) : Bool := ([] : List Nat).contains i
def m__law_common : SM :=
    (seqM (whM wt1__law_common wb1__law_common)
    (retM 2 (opnM (on2 max2D) (consA (nmM 0) (consA (op2M dMinus (cM (.int 0)) (nmM 0)) nilA)))))
def sem__law_common : Sem := runD 2 2 pr__law_common m__law_common
theorem run__law_common (a0 a1 : R) : sem__law_common [a0, a1] = fnR 2 pr__law_common (m__law_common [some a0, some a1]) := by
  unfold sem__law_common
  exact runD_eq 2 2 pr__law_common m__law_common _ _ rfl rfl
def pr__law_put (i : Nat) : Bool := [0, 1].contains i
def m__law_put : SM :=
    (seqM (asgM 2 (callM sem__law_common (consA (nmM 0) (consA (nmM 1) nilA))))
    (retM 2 (iteM (tsM (op2M dGt (nmM 1) (cM (.int 0)))) (tupM (consD (op2M dFd (nmM 0) (nmM 2)) (consD (op2M dFd (nmM 1) (nmM 2)) nilA))) (tupM (consD (op2M dMinus (cM (.int 0)) (op2M dFd (nmM 0) (nmM 2))) (consD (op2M dMinus (cM (.int 0)) (op2M dFd (nmM 1) (nmM 2))) nilA))))))
def sem__law_put : Sem := runD 2 3 pr__law_put m__law_put
theorem run__law_put (a0 a1 : R) : sem__law_put [a0, a1] = fnR 2 pr__law_put (m__law_put [some a0, some a1, none]) := by
  unfold sem__law_put
  exact runD_eq 2 3 pr__law_put m__law_put _ _ rfl rfl
def pr__law_add (i : Nat) : Bool := [0, 1].contains i
def m__law_add : SM :=
    (retM 2 (callM sem__law_put (consA (op2M dPlus (op2M dMul (op2M dIxA (nmM 0) (cM (.int 0))) (op2M dIxA (nmM 1) (cM (.int 1)))) (op2M dMul (op2M dIxA (nmM 1) (cM (.int 0))) (op2M dIxA (nmM 0) (cM (.int 1))))) (consA (op2M dMul (op2M dIxA (nmM 0) (cM (.int 1))) (op2M dIxA (nmM 1) (cM (.int 1)))) nilA))))
def sem__law_add : Sem := runD 2 2 pr__law_add m__law_add
theorem run__law_add (a0 a1 : R) : sem__law_add [a0, a1] = fnR 2 pr__law_add (m__law_add [some a0, some a1]) := by
  unfold sem__law_add
  exact runD_eq 2 2 pr__law_add m__law_add _ _ rfl rfl
def fb1__law_sum : SM :=
    (asgM 1 (callM sem__law_add (consA (nmM 1) (consA (nmM 2) nilA))))
def pr__law_sum (i : Nat) : Bool := [0].contains i
def m__law_sum : SM :=
    (seqM (asgM 1 (tupM (consD (cM (.int 0)) (consD (cM (.int 1)) nilA))))
    (seqM (forM (iM (nmM 0)) (gnM 2) fb1__law_sum)
    (retM 1 (nmM 1))))
def sem__law_sum : Sem := runD 1 3 pr__law_sum m__law_sum
theorem run__law_sum (a0 : R) : sem__law_sum [a0] = fnR 1 pr__law_sum (m__law_sum [some a0, none, none]) := by
  unfold sem__law_sum
  exact runD_eq 1 3 pr__law_sum m__law_sum _ _ rfl rfl
def pr__law_times (i : Nat) : Bool := [0, 1].contains i
def m__law_times : SM :=
    (retM 2 (callM sem__law_put (consA (op2M dMul (op2M dIxA (nmM 0) (cM (.int 0))) (op2M dIxA (nmM 1) (cM (.int 0)))) (consA (op2M dMul (op2M dIxA (nmM 0) (cM (.int 1))) (op2M dIxA (nmM 1) (cM (.int 1)))) nilA))))
def sem__law_times : Sem := runD 2 2 pr__law_times m__law_times
theorem run__law_times (a0 a1 : R) : sem__law_times [a0, a1] = fnR 2 pr__law_times (m__law_times [some a0, some a1]) := by
  unfold sem__law_times
  exact runD_eq 2 2 pr__law_times m__law_times _ _ rfl rfl
def ce1__law_due : EM :=
    (callM sem__law_put (consA (cM (.int 1)) (consA (opnM (on1 lenD) (consA (nmM 0) nilA)) nilA)))
def cc1__law_due : Rho → Option (Oe Bool) :=
    (tsM (op2M dEq (op2M dIxA (nmM 6) (cM (.int 2))) (cM (.int 0))))
def ce2__law_due : EM :=
    (op2M dIxA (nmM 6) (cM (.int 1)))
def cc2__law_due : Rho → Option (Oe Bool) :=
    (tsM (op2M dGt (op2M dIxA (nmM 6) (cM (.int 1))) (nmM 2)))
def ce3__law_due : EM :=
    (nmM 5)
def cc3__law_due : Rho → Option (Oe Bool) :=
    (tsM (op2M dEq (slM (nmM 6) (some (cM (.int 1))) none) (tupM (consD (nmM 2) (consD (cM (.int 0)) nilA)))))
def ce4__law_due : EM :=
    (op2M dIxA (nmM 1) (nmM 5))
def fb1__law_due : SM :=
    (ifM (tsM (op2M dEq (slM (nmM 6) (some (cM (.int 1))) none) (tupM (consD (nmM 2) (consD (cM (.int 0)) nilA))))) (setM 1 (nmM 5) (tupM (consD (cM (.int 0)) (consD (cM (.int 1)) nilA)))) skipM)
def fb2__law_due : SM :=
    (setM 1 (nmM 5) (callM sem__law_add (consA (op2M dIxA (nmM 1) (nmM 5)) (consA (callM sem__law_times (consA (nmM 4) (consA (tupM (consD (cM (.int 1)) (consD (opnM (on1 lenD) (consA (nmM 3) nilA)) nilA))) nilA))) nilA))))
def fb3__law_due : SM :=
    (seqM (asgM 3 (lcM (enM (nmM 0)) (gtM (gsC (gnM 5) (gsC (gnM 6) gs0))) [5, 6] cc2__law_due ce3__law_due))
    (seqM (asgM 4 (callM sem__law_sum (consA (lcM (enM (nmM 0)) (gtM (gsC (gnM 5) (gsC (gnM 6) gs0))) [5, 6] cc3__law_due ce4__law_due) nilA)))
    (ifM (tsM (op2M dNe (nmM 3) (lstM nilA))) (seqM (forM (enM (nmM 0)) (gtM (gsC (gnM 5) (gsC (gnM 6) gs0))) fb1__law_due)
    (forM (iM (nmM 3)) (gnM 5) fb2__law_due)) skipM)))
def pr__law_due (i : Nat) : Bool := [0].contains i
def m__law_due : SM :=
    (seqM (asgM 1 (lcM (iM (nmM 0)) (gnM 6) [6] yesT ce1__law_due))
    (seqM (forM (iM (sortSM (opnM (on1 setD) (consA (lcM (iM (nmM 0)) (gnM 6) [6] cc1__law_due ce2__law_due) nilA)))) (gnM 2) fb3__law_due)
    (retM 1 (nmM 1))))
def sem__law_due : Sem := runD 1 7 pr__law_due m__law_due
theorem run__law_due (a0 : R) : sem__law_due [a0] = fnR 1 pr__law_due (m__law_due [some a0, none, none, none, none, none, none]) := by
  unfold sem__law_due
  exact runD_eq 1 7 pr__law_due m__law_due _ _ rfl rfl
def ce1_law : EM :=
    (tupM (consD (cM (.int 0)) (consD (nmM 11) (consD (cM (.int 0)) nilA))))
def ce2_law : EM :=
    (tupM (consD (cM (.int 0)) (consD (nmM 11) (consD (opnM (on2 max2D) (consA (cM (.int 1)) (consA (nmM 12) nilA))) nilA))))
def fb1_law : SM :=
    (seqM (parM 8 9 (opnM (on1 reprD) (consA (nmM 6) nilA)) (callM sem__law_due (consA (nmM 6) nilA)))
    (seqM (asgM 7 (callM sem_weights (consA (nmM 6) nilA)))
    (seqM (ifM (orT (tsM (op2M dNe (opnM (on1 reprD) (consA (nmM 7) nilA)) (opnM (on1 reprD) (consA (nmM 9) nilA)))) (tsM (op2M dNe (opnM (on1 reprD) (consA (nmM 6) nilA)) (nmM 8)))) (retM 1 (cM (.bool false))) skipM)
    (seqM (appM 7 (cM .none))
    (ifM (tsM (op2M dNe (opnM (on1 reprD) (consA (callM sem_weights (consA (nmM 6) nilA)) nilA)) (opnM (on1 reprD) (consA (nmM 9) nilA)))) (retM 1 (cM (.bool false))) skipM)))))
def fb2_law : SM :=
    (seqM (asgM 2 (callM sem__law_pot (consA (callM sem__law_cell_at (consA (nmM 0) (consA (nmM 1) nilA))) nilA)))
    (seqM (asgM 3 (callM sem__law_book (consA (nmM 2) (consA (cM (.int 12)) (consA (cM (.int 0)) nilA)))))
    (seqM (asgM 4 (opnM (on1 tupD) (consA (lcM (iM (nmM 3)) (gtM (gsC (gnM 10) (gsC (gnM 11) (gsC (gnM 12) gs0)))) [10, 11, 12] yesT ce1_law) nilA)))
    (seqM (asgM 5 (opnM (on1 tupD) (consA (lcM (iM (nmM 3)) (gtM (gsC (gnM 10) (gsC (gnM 11) (gsC (gnM 12) gs0)))) [10, 11, 12] yesT ce2_law) nilA)))
    (forM (iM (tupM (consD (nmM 3) (consD (nmM 4) (consD (nmM 5) nilA))))) (gnM 6) fb1_law)))))
def pr_law (i : Nat) : Bool := [0].contains i
def m_law : SM :=
    (seqM (forM (irM1 (opnM (on2 max2D) (consA (cM (.int 1)) (consA (opnM (on2 min2D) (consA (opnM (on1 lenD) (consA (nmM 0) nilA)) (consA (cM (.int 5)) nilA))) nilA)))) (gnM 1) fb2_law)
    (retM 1 (cM (.bool true))))
def sem_law : Sem := runD 1 13 pr_law m_law
theorem run_law (a0 : R) : sem_law [a0] = fnR 1 pr_law (m_law [some a0, none, none, none, none, none, none, none, none, none, none, none, none]) := by
  unfold sem_law
  exact runD_eq 1 13 pr_law m_law _ _ rfl rfl
end Lw

namespace Lw
open PySem DL
open L2 hiding Sp
theorem cell_is (ns : List Int) {k : Int} (h : 0 ≤ k) : ∃ c, sem__law_cell_at [.dat (.list (ns.map .int)), .dat (.int k)] = some (.ok (.dat (.int c)) [some (.dat (.list (ns.map .int))), some (.dat (.int k))]) := by
  rw [run__law_cell_at]
  unfold m__law_cell_at
  by_cases c : k < ns.length
  · have e : atI (ns.map PyData.int) k = some (.int (ns[k.toNat]'(by omega))) := by
      rw [atI_nn _ _ h, List.getElem?_map, List.getElem?_eq_getElem (by omega)]
      rfl
    refine ⟨ns[k.toNat]'(by omega), ?_⟩
    simp [c, e, outs_2, pr__law_cell_at]
  · refine ⟨0, ?_⟩
    simp [c, outs_2, pr__law_cell_at]

/-- a pot: one whole number -/
def Pot (p : PyData) : Prop := ∃ a : Int, p = .list [.int a]
/-- ahead of each turn of the pot's loop: j turns done -/
def PotI (c : Int) (xs : List PyData) (ρ : Rho) : Prop := ∃ (j : Nat) (n : Int) (a b : Option R), xs = rngL j (64 - j) ∧ j ≤ 64 ∧ ρ = [some (.dat (.int c)), some (.dat (.int n)), a, b] ∧ 0 ≤ n ∧ n < 2 ^ (32 * j)
theorem pot_turn {c : Int} {x : PyData} {r : List PyData} {ρ : Rho} (h : PotI c (x :: r) ρ) : ∃ ρ1 ρ2, gnM 2 x ρ = some ρ1 ∧ (fb1__law_pot ρ1 = some (.nx ρ2) ∨ fb1__law_pot ρ1 = some (.ct ρ2)) ∧ PotI c r ρ2 := by
  obtain ⟨j, n, a, b, hx, hj, rfl, n0, n1⟩ := h
  have hj2 : j < 64 := by
    rcases Nat.lt_or_ge j 64 with z | z
    · exact z
    · have : 64 - j = 0 := by omega
      rw [this, rngL_zero] at hx
      cases hx
  obtain ⟨m, hm⟩ : ∃ m, 64 - j = m + 1 := ⟨63 - j, by omega⟩
  rw [hm, rngL_succ] at hx
  injection hx with hx1 hx2
  subst hx1
  generalize hc : c.fmod 2147483629 = c0
  have c1 : 0 ≤ c0 := hc ▸ Int.fmod_nonneg_of_pos _ (by decide)
  have c2 : c0 < 2147483629 := hc ▸ Int.fmod_lt_of_pos _ (by decide)
  have e1 := mul_is (i := 7919) (j := (j : Int)) (by omega) (by omega) (by omega) (by omega)
  have e2 := mul_is (i := c0 + 7919 * (j : Int) + 1) (j := 48271) (by omega) (by omega) (by omega) (by omega)
  generalize hx : ((c0 + 7919 * (j : Int) + 1) * 48271).fmod 2147483647 = x
  have x1 : 0 ≤ x := hx ▸ Int.fmod_nonneg_of_pos _ (by decide)
  have x2 : x < 2147483647 := hx ▸ Int.fmod_lt_of_pos _ (by decide)
  have e3 := mul_is (i := x) (j := x) (by omega) (by omega) (by omega) (by omega)
  have e4 := mul_is (i := 69621) (j := (j : Int)) (by omega) (by omega) (by omega) (by omega)
  generalize hy : (x * x + 69621 * (j : Int) + 7).fmod 2147483587 = y
  have y1 : 0 ≤ y := hy ▸ Int.fmod_nonneg_of_pos _ (by decide)
  have y2 : y < 2147483587 := hy ▸ Int.fmod_lt_of_pos _ (by decide)
  have e5 : dMul (.int n) (.int 2147483587) = some (.dat (.int (n * 2147483587))) := by
    rw [dMul_i, if_pos]
    have l1 : n.natAbs.log2 < 32 * j + 1 := log2_lt n0 (Int.lt_trans n1 (by rw [Int.pow_succ]; have : (0 : Int) < 2 ^ (32 * j) := Int.pow_pos (by decide); omega)) (by omega)
    have l2 := log2_lt (i := 2147483587) (n := 32) (by omega) (by omega) (by omega)
    omega
  refine ⟨_, [some (.dat (.int c)), some (.dat (.int (n * 2147483587 + y))), some (.dat (.int j)), some (.dat (.int y))], rfl, .inl ?_, j + 1, _, _, _, ?_, hj2, rfl, ?_, ?_⟩
  · unfold fb1__law_pot
    simp [hc, e1, e2, hx, e3, e4, hy, e5, -dMul_i]
  · have : 64 - (j + 1) = m := by omega
    rw [this, hx2]
    rfl
  · have := Int.mul_nonneg n0 (show (0 : Int) ≤ 2147483587 by decide)
    omega
  · have e : (2 : Int) ^ (32 * (j + 1)) = 2 ^ (32 * j) * 4294967296 := by rw [Nat.mul_succ, Int.pow_add]; rfl
    rw [e]
    have : (0 : Int) < 2 ^ (32 * j) := Int.pow_pos (by decide)
    omega
theorem pot_is (c : Int) : ∃ p, sem__law_pot [.dat (.int c)] = some (.ok (.own p) [some (.dat (.int c))]) ∧ Pot p := by
  rw [run__law_pot]
  unfold m__law_pot
  have pw : dPow (.int 10) (.int 18) = some (.dat (.int (10 ^ 18))) := by simp [dPow]
  by_cases h : (10 : Int) ^ 18 ≤ c
  · refine ⟨.list [.int (c - 10 ^ 18)], ?_, _, rfl⟩
    have h' : (1000000000000000000 : Int) ≤ c := h
    simp [pw, h', outs_1, pr__law_pot]
  · obtain ⟨ρ', e, j, n, a, b, _, _, rfl, _⟩ := forL_inv (g := gnM 2) (body := fb1__law_pot) (PotI c) (rngL 0 64) [some (.dat (.int c)), some (.dat (.int 0)), none, none]
      ⟨0, 0, none, none, rfl, by omega, rfl, by omega, by decide⟩ (fun x r ρ h => pot_turn h)
    refine ⟨.list [.int n], ?_, _, rfl⟩
    have h' : ¬ (1000000000000000000 : Int) ≤ c := h
    have hr := fun ρ => rg1_is (j := 64) ρ (by omega) (by omega)
    simp [pw, h', hr, e, outs_1, pr__law_pot]
theorem take_is {p : PyData} {b : Int} (h : Pot p) (hb : 0 < b) (hb2 : b ≤ 2 ^ 62) :
    ∃ v p', sem__law_take [.own p, .dat (.int b)] = some (.ok (.dat (.int v)) [some (.own p'), some (.dat (.int b))]) ∧ 0 ≤ v ∧ v < b ∧ Pot p' := by
  obtain ⟨a, rfl⟩ := h
  have hb0 : b ≠ 0 := by omega
  have hbl : b.natAbs.log2 < 9000 := Nat.lt_trans (log2_lt (n := 63) (by omega) (by omega) (by decide)) (by decide)
  rw [run__law_take]
  unfold m__law_take
  refine ⟨a.fmod b, .list [.int (a.fdiv b)], ?_, Int.fmod_nonneg_of_pos _ hb, Int.fmod_lt_of_pos _ hb, _, rfl⟩
  simp [atI_nn, hb0, hbl, ixN, outs_2, pr__law_take]

theorem pspan_is {p : PyData} {late : Int} (h : Pot p) (hl : late = 0 ∨ late = 1) :
    ∃ (s : Sp) (p' : PyData), sem__law_span [.own p, .dat (.int late)] = some (.ok (.dat s.d) [some (.own p'), some (.dat (.int late))]) ∧ s.Ok ∧ Pot p' ∧ (late = 0 → s.b = 0) := by
  obtain ⟨v1, p1, d1, l1, g1, o1⟩ := take_is h (b := 6) (by omega) (by omega)
  obtain ⟨v2, p2, d2, l2, g2, o2⟩ := take_is o1 (b := 90) (by omega) (by omega)
  obtain ⟨v3, p3, d3, l3, g3, o3⟩ := take_is o2 (b := 4) (by omega) (by omega)
  obtain ⟨b0, i1, b1⟩ := ix4 (x := 0) (y := 0) (z := v1) (u := v2) l3 g3
  have e1 := mul_is (i := b0) (j := late) (by omega) (by omega) (by omega) (by omega)
  obtain ⟨v4, p4, d4, l4, g4, o4⟩ := take_is o3 (b := 4) (by omega) (by omega)
  obtain ⟨v5, p5, d5, l5, g5, o5⟩ := take_is o4 (b := 9) (by omega) (by omega)
  obtain ⟨v6, p6, d6, l6, g6, o6⟩ := take_is o5 (b := 9) (by omega) (by omega)
  obtain ⟨v7, p7, d7, l7, g7, o7⟩ := take_is o6 (b := 900) (by omega) (by omega)
  obtain ⟨v8, p8, d8, l8, g8, o8⟩ := take_is o7 (b := 4) (by omega) (by omega)
  obtain ⟨m, i2, m1⟩ := ix4 (x := v4) (y := v5) (z := v6) (u := v7) l8 g8
  obtain ⟨v9, p9, d9, l9, g9, o9⟩ := take_is o8 (b := 7) (by omega) (by omega)
  obtain ⟨k, i3, k1⟩ : ∃ k : Int, atI [PyData.int 0, .int 0, .int 1, .int 2, .int 3, .int 4, .int 1] v9 = some (.int k) ∧ 0 ≤ k ∧ k ≤ 4 := by
    have : v9 = 0 ∨ v9 = 1 ∨ v9 = 2 ∨ v9 = 3 ∨ v9 = 4 ∨ v9 = 5 ∨ v9 = 6 := by omega
    rcases this with rfl | rfl | rfl | rfl | rfl | rfl | rfl
    · exact ⟨0, rfl, by omega, by omega⟩
    · exact ⟨0, rfl, by omega, by omega⟩
    · exact ⟨1, rfl, by omega, by omega⟩
    · exact ⟨2, rfl, by omega, by omega⟩
    · exact ⟨3, rfl, by omega, by omega⟩
    · exact ⟨4, rfl, by omega, by omega⟩
    · exact ⟨1, rfl, by omega, by omega⟩
  have hb : 0 ≤ b0 * late ∧ b0 * late ≤ 89 ∧ (late = 0 → b0 * late = 0) := by
    rcases hl with rfl | rfl
    · simp
    · rw [Int.mul_one]; omega
  generalize b0 * late = b at e1 hb
  refine ⟨⟨b, b + 1 + m, k⟩, p9, ?_, ⟨hb.1, by show b < b + 1 + m; omega, by show b + 1 + m ≤ 999; omega, k1.1, k1.2⟩, o9, hb.2.2⟩
  rw [run__law_span]
  unfold m__law_span
  simp [d1, d2, d3, d4, d5, d6, d7, d8, d9, i1, i2, i3, e1, outs_2, pr__law_span, Sp.d, -dMul_i]
def PbI (most late : Int) (tot : Nat) (xs : List PyData) (ρ : Rho) : Prop :=
  ∃ (p : PyData) (L : List Sp) (t : Option R), ρ = [some (.own p), some (.dat (.int most)), some (.dat (.int late)), some (.own (.list (L.map Sp.d))), t] ∧ Pot p ∧ (∀ s ∈ L, s.Ok ∧ (late = 0 → s.b = 0)) ∧ L.length + xs.length = tot
theorem pbook_turn {tot : Nat} {most late : Int} (hl : late = 0 ∨ late = 1) (ht2 : tot ≤ 1000) {x : PyData} {r : List PyData} {ρ : Rho} (h : PbI most late tot (x :: r) ρ) :
    ∃ ρ1 ρ2, gnM 4 x ρ = some ρ1 ∧ (fb1__law_book ρ1 = some (.nx ρ2) ∨ fb1__law_book ρ1 = some (.ct ρ2)) ∧ PbI most late tot r ρ2 := by
  obtain ⟨p, L, t, rfl, hp, hL, ht⟩ := h
  rw [List.length_cons] at ht
  have hne := dNe_nil (eqb_spans L) (by omega)
  have fin : ∀ (q : PyData) (s : Sp), (s.Ok ∧ (late = 0 → s.b = 0)) → Pot q → fb1__law_book [some (.own p), some (.dat (.int most)), some (.dat (.int late)), some (.own (.list (L.map Sp.d))), some (.dat x)] = some (.nx [some (.own q), some (.dat (.int most)), some (.dat (.int late)), some (.own (.list (L.map Sp.d ++ [s.d]))), some (.dat x)]) →
      ∃ ρ1 ρ2, gnM 4 x [some (.own p), some (.dat (.int most)), some (.dat (.int late)), some (.own (.list (L.map Sp.d))), t] = some ρ1 ∧ (fb1__law_book ρ1 = some (.nx ρ2) ∨ fb1__law_book ρ1 = some (.ct ρ2)) ∧ PbI most late tot r ρ2 := by
    intro q s hs hq e
    refine ⟨_, _, rfl, .inl e, q, L ++ [s], _, by rw [List.map_append]; rfl, hq, ?_, by rw [List.length_append]; simp only [List.length_cons, List.length_nil]; omega⟩
    intro y hy
    rcases List.mem_append.mp hy with hy | hy
    · exact hL y hy
    · rw [List.mem_singleton] at hy
      exact hy ▸ hs
  have hlim : L.length < 100000 := by omega
  by_cases hz : L = []
  · obtain ⟨sp, p1, e1, ok1, o1, lt⟩ := pspan_is hp hl
    refine fin p1 sp ⟨ok1, lt⟩ o1 ?_
    subst hz
    have hne' : dNe (.list []) (.list []) = some (.dat (.bool false)) := by simpa using hne
    unfold fb1__law_book
    simp [e1, hne']
  · have hz' : L.isEmpty = false := by simpa using hz
    obtain ⟨w1, q1, c1, m1, k1, z1⟩ := take_is hp (b := 5) (by omega) (by omega)
    by_cases hw : w1 = 0
    · have hpos : 0 < L.length := List.length_pos_iff.mpr hz
      obtain ⟨w2, q2, c2, m2, k2, z2⟩ := take_is z1 (b := (L.length : Int)) (by omega) (by omega)
      obtain ⟨old, i2, hold⟩ := atI_map Sp.d (xs := L) (i := w2) m2 (by omega)
      refine fin q2 old (hL old hold) z2 ?_
      unfold fb1__law_book
      simp [hne, hz', c1, hw, c2, i2, hlim]
    · obtain ⟨sp, p1, e1, ok1, o1, lt⟩ := pspan_is z1 hl
      refine fin p1 sp ⟨ok1, lt⟩ o1 ?_
      unfold fb1__law_book
      simp [e1, hne, hz', c1, hw, hlim]
theorem pbook_is {p : PyData} {most late : Int} (h : Pot p) (h1 : 1 ≤ most) (h2 : most ≤ 1000) (hl : late = 0 ∨ late = 1) :
    ∃ (L : List Sp) (p' : PyData), sem__law_book [.own p, .dat (.int most), .dat (.int late)] = some (.ok (.dat (.tuple (L.map Sp.d))) [some (.own p'), some (.dat (.int most)), some (.dat (.int late))]) ∧ (∀ s ∈ L, s.Ok ∧ (late = 0 → s.b = 0)) ∧ 1 ≤ L.length ∧ (L.length : Int) ≤ most ∧ Pot p' := by
  obtain ⟨v2, p2, d2, l2, g2, o2⟩ := take_is h (b := most) (by omega) (by omega)
  rw [run__law_book]
  unfold m__law_book
  obtain ⟨ρ', e, p', L, t, rfl, o3, hL, hl⟩ := forL_inv (g := gnM 4) (body := fb1__law_book) (PbI most late (1 + v2).toNat) (rngL 0 (1 + v2).toNat) [some (.own p2), some (.dat (.int most)), some (.dat (.int late)), some (.own (.list [])), none]
    ⟨p2, [], none, rfl, o2, by simp, by rw [rngL_length]; simp⟩ (fun x r ρ h => pbook_turn hl (by omega) h)
  simp only [List.length_nil, Nat.add_zero] at hl
  refine ⟨L, p', ?_, hL, by omega, by omega, o3⟩
  have hr := fun ρ => rg1_is (j := 1 + v2) ρ (by omega) (by omega)
  simp [d2, hr, e, outs_3, pr__law_book]

theorem whole_is (i : Int) : sem_is_whole [.dat (.int i)] = some (.ok (.dat (.bool true)) [some (.dat (.int i))]) := by
  rw [run_is_whole]
  unfold m_is_whole
  simp [outs_1, pr_is_whole]
theorem from_to_is (i l h : Int) : sem_is_from_to [.dat (.int i), .dat (.int l), .dat (.int h)] = some (.ok (.dat (.bool (decide (l ≤ i) && decide (i ≤ h)))) [some (.dat (.int i)), some (.dat (.int l)), some (.dat (.int h))]) := by
  rw [run_is_from_to]
  unfold m_is_from_to
  by_cases c : l ≤ i <;> simp [whole_is, c, outs_3, pr_is_from_to]

theorem lasting_is {s : Sp} (h : s.Ok) : sem_is_lasting [.dat s.d, .dat (.int 999)] = some (.ok (.dat (.bool true)) [some (.dat s.d), some (.dat (.int 999))]) := by
  obtain ⟨b, u, k⟩ := s
  obtain ⟨h1, h2, h3, h4, h5⟩ := h
  simp only at h1 h2 h3 h4 h5
  rw [run_is_lasting]
  unfold m_is_lasting
  have e1 : b ≤ 999 := by omega
  have e2 : b + 1 ≤ u := by omega
  simp [Sp.d, from_to_is, atI_nn, k_KINDS, h1, h3, h4, h5, e1, e2, outs_2, pr_is_lasting]
theorem isspan_is {s : Sp} (h : s.Ok) : sem_is_span [.dat s.d] = some (.ok (.dat (.bool true)) [some (.dat s.d)]) := by
  rw [run_is_span]
  unfold m_is_span
  simp [k_MOST_AGE, lasting_is h, outs_1, pr_is_span]
theorem all_true (n : Nat) : allD (.list (List.replicate n (.bool true))) = some (.dat (.bool true)) := by
  have := allD_l (List.replicate n true)
  rw [List.map_replicate] at this
  rw [this]
  simp
theorem isbook_is {L : List Sp} (h : ∀ s ∈ L, s.Ok) (h1 : 1 ≤ L.length) (h2 : L.length ≤ 40) : sem_is_book [.dat (.tuple (L.map Sp.d))] = some (.ok (.dat (.bool true)) [some (.dat (.tuple (L.map Sp.d)))]) := by
  rw [run_is_book]
  unfold m_is_book
  have hl := lcL_mp (g := gnM 1) (vs := [1]) (c := yesT) (f := ce1_is_book) (ρ := [some (.dat (.tuple (L.map Sp.d))), none]) Sp.d (fun _ => .bool true) L (Nat.le_trans h2 (by decide)) (by
    intro s hs
    simp [ev, ce1_is_book, isspan_is (h s hs)])
  have e1 : (1 : Int) ≤ (L.length : Int) := by omega
  have e2 : (L.length : Int) ≤ 40 := by omega
  simp [k_MOST_SPANS, e1, e2, hl, outs_1, pr_is_book, List.map_const', all_true]
theorem need_is {L : List Sp} (h : ∀ s ∈ L, s.Ok) (h1 : 1 ≤ L.length) (h2 : L.length ≤ 40) : sem_need_book [.dat (.tuple (L.map Sp.d))] = some (.ok (.dat .none) [some (.dat (.tuple (L.map Sp.d)))]) := by
  rw [run_need_book]
  unfold m_need_book
  simp [isbook_is h h1 h2, outs_1, pr_need_book]

def Pl (s : Sp) : Prop := s.Ok ∧ s.b = 0

structure Good (L : List Sp) : Prop where
  p : ∀ s ∈ L, Pl s
  l1 : 1 ≤ L.length
  l2 : L.length ≤ 40
theorem Good.need {L : List Sp} (h : Good L) : sem_need_book [.dat (.tuple (L.map Sp.d))] = some (.ok (.dat .none) [some (.dat (.tuple (L.map Sp.d)))]) := need_is (fun s hs => (h.p s hs).1) h.l1 h.l2
theorem any_false (n : Nat) : anyD (.list (List.replicate n (.bool false))) = some (.dat (.bool false)) := by
  have := anyD_l (List.replicate n false)
  rw [List.map_replicate] at this
  rw [this]
  simp
theorem needplain_is {L : List Sp} (h : Good L) : sem_need_plain [.dat (.tuple (L.map Sp.d))] = some (.ok (.dat .none) [some (.dat (.tuple (L.map Sp.d)))]) := by
  rw [run_need_plain]
  unfold m_need_plain
  have hl := lcL_mp (g := gtM (gsC (gnM 1) (gsC (gnM 2) (gsC (gnM 3) gs0)))) (vs := [1, 2, 3]) (c := yesT) (f := ce1_need_plain) (ρ := [some (.dat (.tuple (L.map Sp.d))), none, none, none]) Sp.d (fun _ => .bool false) L (Nat.le_trans h.l2 (by decide)) (by
    intro s hs
    have e : s.b = 0 := (h.p s hs).2
    simp [ev, ce1_need_plain, Sp.d, e])
  simp [h.need, hl, List.map_const', any_false, outs_1, pr_need_plain]

theorem common_loop : ∀ (n : Nat) (a b : Int), 0 ≤ b → b < n → ∃ g : Int, whL wt1_common wb1_common n [some (.dat (.int a)), some (.dat (.int b))] = some (.nx [some (.dat (.int g)), some (.dat (.int 0))]) ∧ g.natAbs = Int.gcd a b
  | 0, a, b, h1, h2 => by omega
  | n + 1, a, b, h1, h2 => by
    by_cases hb : b = 0
    · subst hb
      refine ⟨a, ?_, by simp⟩
      unfold whL wt1_common
      simp
    · obtain ⟨g, e, hg⟩ := common_loop n b (a.fmod b) (Int.fmod_nonneg_of_pos _ (by omega)) (by have := Int.fmod_lt_of_pos a (show 0 < b by omega); omega)
      refine ⟨g, ?_, by rw [hg, gcd_step]⟩
      have e1 : wt1_common [some (.dat (.int a)), some (.dat (.int b))] = some (.ok true [some (.dat (.int a)), some (.dat (.int b))]) := by
        unfold wt1_common
        simp [hb]
      have e2 : wb1_common [some (.dat (.int a)), some (.dat (.int b))] = some (.nx [some (.dat (.int b)), some (.dat (.int (a.fmod b)))]) := by
        unfold wb1_common
        simp [hb]
      unfold whL
      simp only [e1, bindS_ok, if_true, e2]
      exact e
theorem common_is {a b : Int} (hb : 0 ≤ b) : ∃ os, sem_common [.dat (.int a), .dat (.int b)] = some (.ok (.dat (.int (Int.gcd a b : Int))) os) ∧ os = [none, none] := by
  rw [run_common]
  unfold m_common
  obtain ⟨g, e, hg⟩ := common_loop (a.natAbs + 1 + (b.natAbs + 1 + 1)) a b hb (by omega)
  refine ⟨_, ?_, rfl⟩
  have ab : (if g < 0 then -g else g) = (Int.gcd a b : Int) := by rw [← hg]; split <;> omega
  simp only [seqM_e, whM, fuelR, e, thenS_nx]
  simp [ab, outs_2, pr_common]
theorem put_is {t b : Int} (hb : 0 < b) (hb2 : b < 2 ^ 8000) : sem_put [.dat (.int t), .dat (.int b)] = some (.ok (.dat (low t b)) [some (.dat (.int t)), some (.dat (.int b))]) := by
  rw [run_put]
  unfold m_put
  obtain ⟨_, e, rfl⟩ := common_is (a := t) (b := b) (by omega)
  obtain ⟨g1, g2⟩ := gcd_bd (t := t) hb
  have gl : (Int.gcd t b : Int).natAbs.log2 < 8000 := log2_lt (by omega) (Int.lt_of_le_of_lt g2 hb2) (by decide)
  have g0 : (Int.gcd t b : Int) ≠ 0 := by omega
  have m1 : dMul (.int (Int.gcd t b : Int)) (.int 1) = some (.dat (.int (Int.gcd t b : Int))) := by
    rw [dMul_i, if_pos, Int.mul_one]
    have : (1 : Int).natAbs.log2 = 0 := by decide
    omega
  have f1 : ∀ x : Int, dFd (.int x) (.int (Int.gcd t b : Int)) = some (.dat (.int (x.fdiv (Int.gcd t b : Int)))) := fun x => by rw [dFd_i, if_pos ⟨g0, by omega⟩]
  simp [e, hb, m1, f1, outs_2, pr_put, low, -dMul_i, -dFd_i]

theorem putq {t b : Int} (hb : 0 < b) (hb2 : b < 2 ^ 8000) : sem_put [.dat (.int t), .dat (.int b)] = some (.ok (.dat (frQ (Rat.divInt t b))) [some (.dat (.int t)), some (.dat (.int b))]) := by
  rw [put_is hb hb2, low_q hb]

theorem sumqR {a b c d : Int} {j k : Nat} (h1 : Sp2 j a b) (h2 : Sp2 k c d) (l : j + k ≤ 8000) : sem_sum_of [.dat (.tuple [.int a, .int b]), .dat (.tuple [.int c, .int d])] = some (.ok (.dat (frQ (Rat.divInt a b + Rat.divInt c d))) [some (.dat (.tuple [.int a, .int b])), some (.dat (.tuple [.int c, .int d]))]) := by
  rw [run_sum_of]
  unfold m_sum_of
  have e1 := mulB (x := a) (y := d) h1.n h2.d (by omega)
  have e2 := mulB (x := c) (y := b) h2.n h1.d (by omega)
  have e3 := mulB (x := b) (y := d) h1.d h2.d (by omega)
  have e4 := putq (t := a * d + c * b) (b := b * d) (Int.mul_pos h1.p h2.p) (h1.lt h2 l)
  rw [q_addR h1.p h2.p] at e4
  simp [atI_nn, e1, e2, e3, outs_2, pr_sum_of, -dMul_i]
  rw [e4]
  simp [outs_2, pr_sum_of]
theorem sumq {p q : Rat} {j k : Nat} (h1 : Sz j p) (h2 : Sz k q) (l : j + k ≤ 8000) : sem_sum_of [.dat (frQ p), .dat (frQ q)] = some (.ok (.dat (frQ (p + q))) [some (.dat (frQ p)), some (.dat (frQ q))]) := by
  have := sumqR h1.r h2.r l
  rw [Rat.num_divInt_den, Rat.num_divInt_den] at this
  exact this

theorem productqR {a b c d : Int} {j k : Nat} (h1 : Sp2 j a b) (h2 : Sp2 k c d) (l : j + k ≤ 8000) : sem_product [.dat (.tuple [.int a, .int b]), .dat (.tuple [.int c, .int d])] = some (.ok (.dat (frQ (Rat.divInt a b * Rat.divInt c d))) [some (.dat (.tuple [.int a, .int b])), some (.dat (.tuple [.int c, .int d]))]) := by
  rw [run_product]
  unfold m_product
  have e1 := mulB (x := a) (y := c) h1.n h2.n (by omega)
  have e3 := mulB (x := b) (y := d) h1.d h2.d (by omega)
  have e4 := putq (t := a * c) (b := b * d) (Int.mul_pos h1.p h2.p) (h1.lt h2 l)
  rw [q_mulR] at e4
  simp [atI_nn, e1, e3, outs_2, pr_product, -dMul_i]
  rw [e4]
  simp [outs_2, pr_product]
theorem productq {p q : Rat} {j k : Nat} (h1 : Sz j p) (h2 : Sz k q) (l : j + k ≤ 8000) : sem_product [.dat (frQ p), .dat (frQ q)] = some (.ok (.dat (frQ (p * q))) [some (.dat (frQ p)), some (.dat (frQ q))]) := by
  have := productqR h1.r h2.r l
  rw [Rat.num_divInt_den, Rat.num_divInt_den] at this
  exact this

theorem lawcommon_loop : ∀ (n : Nat) (a b : Int), 0 ≤ b → b < n → ∃ g : Int, whL wt1__law_common wb1__law_common n [some (.dat (.int a)), some (.dat (.int b))] = some (.nx [some (.dat (.int g)), some (.dat (.int 0))]) ∧ g.natAbs = Int.gcd a b
  | 0, a, b, h1, h2 => by omega
  | n + 1, a, b, h1, h2 => by
    by_cases hb : b = 0
    · subst hb
      refine ⟨a, ?_, by simp⟩
      unfold whL wt1__law_common
      simp
    · obtain ⟨g, e, hg⟩ := lawcommon_loop n b (a.fmod b) (Int.fmod_nonneg_of_pos _ (by omega)) (by have := Int.fmod_lt_of_pos a (show 0 < b by omega); omega)
      refine ⟨g, ?_, by rw [hg, gcd_step]⟩
      have e1 : wt1__law_common [some (.dat (.int a)), some (.dat (.int b))] = some (.ok true [some (.dat (.int a)), some (.dat (.int b))]) := by
        unfold wt1__law_common
        simp [hb]
      have e2 : wb1__law_common [some (.dat (.int a)), some (.dat (.int b))] = some (.nx [some (.dat (.int b)), some (.dat (.int (a.fmod b)))]) := by
        unfold wb1__law_common
        simp [hb]
      unfold whL
      simp only [e1, bindS_ok, if_true, e2]
      exact e
theorem lawcommon_is {a b : Int} (hb : 0 ≤ b) : ∃ os, sem__law_common [.dat (.int a), .dat (.int b)] = some (.ok (.dat (.int (Int.gcd a b : Int))) os) ∧ os = [none, none] := by
  rw [run__law_common]
  unfold m__law_common
  obtain ⟨g, e, hg⟩ := lawcommon_loop (a.natAbs + 1 + (b.natAbs + 1 + 1)) a b hb (by omega)
  refine ⟨_, ?_, rfl⟩
  have ab : (if 0 - g > g then 0 - g else g) = (Int.gcd a b : Int) := by rw [← hg]; split <;> omega
  simp only [seqM_e, whM, fuelR, e, thenS_nx]
  simp only [gt_iff_lt] at ab
  simp [outs_2, pr__law_common]
  simpa using ab
theorem lawput_is {t b : Int} (hb : 0 < b) (hb2 : b < 2 ^ 8000) : sem__law_put [.dat (.int t), .dat (.int b)] = some (.ok (.dat (low t b)) [some (.dat (.int t)), some (.dat (.int b))]) := by
  rw [run__law_put]
  unfold m__law_put
  obtain ⟨_, e, rfl⟩ := lawcommon_is (a := t) (b := b) (by omega)
  obtain ⟨g1, g2⟩ := gcd_bd (t := t) hb
  have gl : (Int.gcd t b : Int).natAbs.log2 < 8000 := log2_lt (by omega) (Int.lt_of_le_of_lt g2 hb2) (by decide)
  have g0 : (Int.gcd t b : Int) ≠ 0 := by omega
  have f1 : ∀ x : Int, dFd (.int x) (.int (Int.gcd t b : Int)) = some (.dat (.int (x.fdiv (Int.gcd t b : Int)))) := fun x => by rw [dFd_i, if_pos ⟨g0, by omega⟩]
  simp [e, hb, f1, outs_2, pr__law_put, low, -dFd_i]
theorem lputq {t b : Int} (hb : 0 < b) (hb2 : b < 2 ^ 8000) : sem__law_put [.dat (.int t), .dat (.int b)] = some (.ok (.dat (frQ (Rat.divInt t b))) [some (.dat (.int t)), some (.dat (.int b))]) := by
  rw [lawput_is hb hb2, low_q hb]

theorem laddqR {a b c d : Int} {j k : Nat} (h1 : Sp2 j a b) (h2 : Sp2 k c d) (l : j + k ≤ 8000) : sem__law_add [.dat (.tuple [.int a, .int b]), .dat (.tuple [.int c, .int d])] = some (.ok (.dat (frQ (Rat.divInt a b + Rat.divInt c d))) [some (.dat (.tuple [.int a, .int b])), some (.dat (.tuple [.int c, .int d]))]) := by
  rw [run__law_add]
  unfold m__law_add
  have e1 := mulB (x := a) (y := d) h1.n h2.d (by omega)
  have e2 := mulB (x := c) (y := b) h2.n h1.d (by omega)
  have e3 := mulB (x := b) (y := d) h1.d h2.d (by omega)
  have e4 := lputq (t := a * d + c * b) (b := b * d) (Int.mul_pos h1.p h2.p) (h1.lt h2 l)
  rw [q_addR h1.p h2.p] at e4
  simp [atI_nn, e1, e2, e3, outs_2, pr__law_add, -dMul_i]
  rw [e4]
  simp [outs_2, pr__law_add]
theorem laddq {p q : Rat} {j k : Nat} (h1 : Sz j p) (h2 : Sz k q) (l : j + k ≤ 8000) : sem__law_add [.dat (frQ p), .dat (frQ q)] = some (.ok (.dat (frQ (p + q))) [some (.dat (frQ p)), some (.dat (frQ q))]) := by
  have := laddqR h1.r h2.r l
  rw [Rat.num_divInt_den, Rat.num_divInt_den] at this
  exact this

theorem ltimesqR {a b c d : Int} {j k : Nat} (h1 : Sp2 j a b) (h2 : Sp2 k c d) (l : j + k ≤ 8000) : sem__law_times [.dat (.tuple [.int a, .int b]), .dat (.tuple [.int c, .int d])] = some (.ok (.dat (frQ (Rat.divInt a b * Rat.divInt c d))) [some (.dat (.tuple [.int a, .int b])), some (.dat (.tuple [.int c, .int d]))]) := by
  rw [run__law_times]
  unfold m__law_times
  have e1 := mulB (x := a) (y := c) h1.n h2.n (by omega)
  have e3 := mulB (x := b) (y := d) h1.d h2.d (by omega)
  have e4 := lputq (t := a * c) (b := b * d) (Int.mul_pos h1.p h2.p) (h1.lt h2 l)
  rw [q_mulR] at e4
  simp [atI_nn, e1, e3, outs_2, pr__law_times, -dMul_i]
  rw [e4]
  simp [outs_2, pr__law_times]
theorem ltimesq {p q : Rat} {j k : Nat} (h1 : Sz j p) (h2 : Sz k q) (l : j + k ≤ 8000) : sem__law_times [.dat (frQ p), .dat (frQ q)] = some (.ok (.dat (frQ (p * q))) [some (.dat (frQ p)), some (.dat (frQ q))]) := by
  have := ltimesqR h1.r h2.r l
  rw [Rat.num_divInt_den, Rat.num_divInt_den] at this
  exact this

theorem q_key {a b : Int} (hb : 0 < b) : (Rat.divInt a b).num * b = a * (Rat.divInt a b).den := by
  have h := Rat.num_divInt_den (Rat.divInt a b)
  exact (Rat.divInt_eq_divInt_iff (by have := q_pos (Rat.divInt a b); omega) (by omega)).mp h

/-! bounds as fractions: plain -/
theorem cast_pos {n : Int} (h : 0 < n) : (0 : Rat) < (n : Rat) := by exact_mod_cast h
theorem div_mul {a n : Int} (hn : 0 < n) : Rat.divInt a n * (n : Rat) = (a : Rat) := by
  rw [Rat.divInt_eq_div]
  have := cast_pos hn
  generalize (n : Rat) = w at *
  generalize (a : Rat) = d at *
  grind
theorem div_le {a n : Int} (hn : 0 < n) {S : Rat} (h : (a : Rat) ≤ S * (n : Rat)) : Rat.divInt a n ≤ S := by
  refine Decidable.byContradiction fun z => ?_
  have := Rat.mul_lt_mul_of_pos_right (show S < Rat.divInt a n by grind) (cast_pos hn)
  rw [div_mul hn] at this
  grind
theorem le_div {a n : Int} (hn : 0 < n) {S : Rat} (h : S * (n : Rat) ≤ (a : Rat)) : S ≤ Rat.divInt a n := by
  refine Decidable.byContradiction fun z => ?_
  have := Rat.mul_lt_mul_of_pos_right (show Rat.divInt a n < S by grind) (cast_pos hn)
  rw [div_mul hn] at this
  grind

/-! numbers with a common bottom and of a bounded size -/
structure Dz (D B : Nat) (q : Rat) : Prop where
  z : ∃ z : Int, q * ((D : Int) : Rat) = (z : Rat)
  lo : -((B : Int) : Rat) ≤ q
  hi : q ≤ ((B : Int) : Rat)
theorem cnn (n : Nat) : (0 : Rat) ≤ ((n : Int) : Rat) := by exact_mod_cast Int.natCast_nonneg n
theorem Dz.mono {D B C : Nat} {q : Rat} (h : Dz D B q) (l : B ≤ C) : Dz D C q := by
  have : ((B : Int) : Rat) ≤ ((C : Int) : Rat) := by exact_mod_cast l
  obtain ⟨a, b, c⟩ := h
  exact ⟨a, by grind, by grind⟩
theorem Dz.dvd {D E B : Nat} {q : Rat} (h : Dz D B q) (l : D ∣ E) : Dz E B q := by
  obtain ⟨⟨z, e⟩, b, c⟩ := h
  obtain ⟨m, rfl⟩ := l
  refine ⟨⟨z * m, ?_⟩, b, c⟩
  rw [Rat.intCast_mul, ← e, Int.natCast_mul, Rat.intCast_mul]
  grind
theorem Dz.add {D B C : Nat} {p q : Rat} (h : Dz D B p) (k : Dz D C q) : Dz D (B + C) (p + q) := by
  obtain ⟨⟨z, e⟩, b, c⟩ := h
  obtain ⟨⟨y, e'⟩, b', c'⟩ := k
  refine ⟨⟨z + y, ?_⟩, ?_, ?_⟩
  · rw [Rat.intCast_add, ← e, ← e']; grind
  · rw [Int.natCast_add, Rat.intCast_add]; grind
  · rw [Int.natCast_add, Rat.intCast_add]; grind
theorem Dz.neg {D B : Nat} {p : Rat} (h : Dz D B p) : Dz D B (-p) := by
  obtain ⟨⟨z, e⟩, b, c⟩ := h
  refine ⟨⟨-z, ?_⟩, ?_, ?_⟩
  · rw [Rat.intCast_neg, ← e]; grind
  · grind
  · grind
theorem Dz.mul {D E B C : Nat} {p q : Rat} (h : Dz D B p) (k : Dz E C q) : Dz (D * E) (B * C) (p * q) := by
  obtain ⟨⟨z, e⟩, b, c⟩ := h
  obtain ⟨⟨y, e'⟩, b', c'⟩ := k
  have m1 := Rat.mul_nonneg (show 0 ≤ ((B : Int) : Rat) - p by grind) (show 0 ≤ ((C : Int) : Rat) + q by grind)
  have m2 := Rat.mul_nonneg (show 0 ≤ ((B : Int) : Rat) + p by grind) (show 0 ≤ ((C : Int) : Rat) - q by grind)
  have m3 := Rat.mul_nonneg (show 0 ≤ ((B : Int) : Rat) - p by grind) (show 0 ≤ ((C : Int) : Rat) - q by grind)
  have m4 := Rat.mul_nonneg (show 0 ≤ ((B : Int) : Rat) + p by grind) (show 0 ≤ ((C : Int) : Rat) + q by grind)
  refine ⟨⟨z * y, ?_⟩, ?_, ?_⟩
  · rw [Rat.intCast_mul, ← e, ← e', Int.natCast_mul, Rat.intCast_mul]; grind
  · rw [Int.natCast_mul, Rat.intCast_mul]; grind
  · rw [Int.natCast_mul, Rat.intCast_mul]; grind
theorem Dz.one : Dz 1 1 1 := ⟨⟨1, by decide +kernel⟩, by decide +kernel, by decide +kernel⟩
theorem Dz.zero (D B : Nat) : Dz D B 0 := ⟨⟨0, by rw [Rat.zero_mul]; rfl⟩, by have := cnn B; grind, by have := cnn B; grind⟩
theorem Dz.int {i : Int} {B : Nat} (h1 : -(B : Int) ≤ i) (h2 : i ≤ B) : Dz 1 B (i : Rat) := by
  refine ⟨⟨i, ?_⟩, ?_, ?_⟩
  · rw [show (((1 : Nat) : Int) : Rat) = 1 from rfl, Rat.mul_one]
  · rw [← Rat.intCast_neg]; exact_mod_cast h1
  · exact_mod_cast h2
theorem Dz.div {a : Int} {n B : Nat} (hn : 0 < n) (h1 : -(B * n : Int) ≤ a) (h2 : a ≤ B * n) : Dz n B (Rat.divInt a n) := by
  have dm := div_mul (a := a) (n := (n : Int)) (by omega)
  have p := cast_pos (show (0 : Int) < n by omega)
  have b1 : -(((B : Int) : Rat) * ((n : Int) : Rat)) ≤ (a : Rat) := by rw [← Rat.intCast_mul, ← Rat.intCast_neg]; exact_mod_cast h1
  have b2 : (a : Rat) ≤ ((B : Int) : Rat) * ((n : Int) : Rat) := by rw [← Rat.intCast_mul]; exact_mod_cast h2
  refine ⟨⟨a, dm⟩, ?_, div_le (by omega) b2⟩
  refine Decidable.byContradiction fun z => ?_
  have := Rat.mul_lt_mul_of_pos_right (show Rat.divInt a n < -((B : Int) : Rat) by grind) p
  rw [dm] at this
  grind
theorem Dz.sz {D B k : Nat} {q : Rat} (h : Dz D B q) (hD : 0 < D) (h1 : D < 2 ^ k) (h2 : B * D < 2 ^ k) : Sz k q := by
  obtain ⟨⟨z, e⟩, b, c⟩ := h
  have p := cast_pos (show (0 : Int) < D by omega)
  have e2 : q = Rat.divInt z D := by
    rw [Rat.divInt_eq_div, ← e]
    generalize ((D : Int) : Rat) = d at *
    grind
  have z1 : (z : Rat) ≤ ((B * D : Int) : Rat) := by
    rw [← e, Rat.intCast_mul]
    exact Rat.mul_le_mul_of_nonneg_right c (by grind)
  have z2 : ((-(B * D : Int) : Int) : Rat) ≤ (z : Rat) := by
    rw [← e, Rat.intCast_neg, Rat.intCast_mul]
    have := Rat.mul_le_mul_of_nonneg_right b (show (0 : Rat) ≤ ((D : Int) : Rat) by grind)
    grind
  have z1' : z ≤ (B * D : Int) := by exact_mod_cast z1
  have z2' : -(B * D : Int) ≤ z := by exact_mod_cast z2
  rw [e2]
  have h2' : (B * D : Int) < ((2 ^ k : Nat) : Int) := by exact_mod_cast h2
  have h1' : (D : Int) < ((2 ^ k : Nat) : Int) := by exact_mod_cast h1
  refine Sz.divInt ?_ ?_ (by omega)
  · omega
  · rw [Int.natCast_pow] at h1'; exact h1'

/-! handing on: plain -/
/-- who last beyond a time, by their places -/
def tkZ (L : List Sp) (t : Int) : List Nat := (L.zipIdx.filter fun p => decide (t < p.1.u)).map Prod.snd
theorem mem_tkZ {L : List Sp} {t : Int} {i : Nat} : i ∈ tkZ L t ↔ ∃ s, L[i]? = some s ∧ t < s.u := by
  unfold tkZ
  rw [List.mem_map]
  constructor
  · rintro ⟨⟨s, j⟩, h, rfl⟩
    obtain ⟨h1, h2⟩ := List.mem_filter.mp h
    exact ⟨s, List.mk_mem_zipIdx_iff_getElem?.mp h1, by simpa using h2⟩
  · rintro ⟨s, h1, h2⟩
    exact ⟨(s, i), List.mem_filter.mpr ⟨List.mk_mem_zipIdx_iff_getElem?.mpr h1, by simpa using h2⟩, rfl⟩
theorem tkZ_lt {L : List Sp} {t : Int} {i : Nat} (h : i ∈ tkZ L t) : i < L.length := by
  obtain ⟨s, h, _⟩ := mem_tkZ.mp h
  exact (List.getElem?_eq_some_iff.mp h).1
theorem zipIdx_pw (L : List Sp) (n : Nat) : (L.zipIdx n).Pairwise fun p q => p.2 < q.2 := by
  induction L generalizing n with
  | nil => exact .nil
  | cons s r ih =>
    rw [List.zipIdx_cons, List.pairwise_cons]
    refine ⟨fun q hq => ?_, ih (n + 1)⟩
    have := List.le_snd_of_mem_zipIdx hq
    omega
theorem tkZ_pw (L : List Sp) (t : Int) : (tkZ L t).Pairwise (· < ·) := by
  unfold tkZ
  rw [List.pairwise_map]
  exact (zipIdx_pw L 0).filter _
theorem tkZ_nd (L : List Sp) (t : Int) : (tkZ L t).Nodup := (tkZ_pw L t).imp fun h => Nat.ne_of_lt h
theorem tkZ_len (L : List Sp) (t : Int) : (tkZ L t).length ≤ L.length := by
  unfold tkZ
  rw [List.length_map]
  exact Nat.le_trans (List.length_filter_le ..) (by rw [List.length_zipIdx]; exact Nat.le_refl _)
/-- one weight more -/
def add1 (p : Rat) (W : List Rat) (t : Nat) : List Rat := W.set t (W.getD t 0 + p)
theorem add1_len (p : Rat) (W : List Rat) (t : Nat) : (add1 p W t).length = W.length := by unfold add1; rw [List.length_set]
theorem adds_len (p : Rat) : ∀ (S : List Nat) (W : List Rat), (S.foldl (add1 p) W).length = W.length
  | [], _ => rfl
  | t :: S, W => by rw [List.foldl_cons, adds_len p S, add1_len]
theorem getD_set (W : List Rat) (t i : Nat) (x : Rat) : (W.set t x).getD i 0 = if t = i ∧ i < W.length then x else W.getD i 0 := by
  simp only [List.getD_eq_getElem?_getD, List.getElem?_set]
  by_cases e : t = i
  · subst e
    by_cases l : t < W.length
    · rw [if_pos rfl, if_pos l, if_pos ⟨rfl, l⟩]; rfl
    · rw [if_pos rfl, if_neg l, if_neg (fun h => l h.2), List.getElem?_eq_none (by omega)]
  · rw [if_neg e, if_neg (fun h => e h.1)]
theorem adds_get (p : Rat) : ∀ (S : List Nat) (W : List Rat) (i : Nat), S.Nodup → (∀ t ∈ S, t < W.length) → (S.foldl (add1 p) W).getD i 0 = if i ∈ S then W.getD i 0 + p else W.getD i 0
  | [], W, i, _, _ => by simp
  | t :: S, W, i, nd, hl => by
    rw [List.nodup_cons] at nd
    rw [List.foldl_cons, adds_get p S _ i nd.2 (fun x hx => by rw [add1_len]; exact hl x (List.mem_cons_of_mem _ hx))]
    unfold add1
    rw [getD_set]
    have lt := hl t (List.mem_cons_self ..)
    by_cases e : t = i
    · subst e
      rw [if_neg nd.1, if_pos ⟨rfl, lt⟩, if_pos (List.mem_cons_self ..)]
    · have n1 : ¬ (t = i ∧ i < W.length) := fun h => e h.1
      rw [if_neg n1]
      by_cases m : i ∈ S
      · rw [if_pos m, if_pos (List.mem_cons_of_mem _ m)]
      · rw [if_neg m, if_neg (fun h => (List.mem_cons.mp h).elim (fun z => e z.symm) m)]
/-- what the program does of one giver: weights and parcels -/
def ledS (L : List Sp) (w : List Rat × List (Nat × Nat × Rat)) (g : Nat) : List Rat × List (Nat × Nat × Rat) :=
  let S := tkZ L ((L.map Sp.u).getD g 0)
  let p := w.1.getD g 0 * Rat.divInt 1 S.length
  ((S.foldl (add1 p) w.1).set g 0, w.2 ++ S.map fun t => (g, t, p))
/-- numbers of a common bottom -/
def hF : Nat := 6402373705728000
structure Hz (n j : Nat) (q : Rat) : Prop where
  d : Dz (n * hF ^ j) (2 ^ j) q
theorem Hz.mono {n i j : Nat} {q : Rat} (h : Hz n i q) (l : i ≤ j) : Hz n j q := by
  obtain ⟨m, rfl⟩ : ∃ m, j = i + m := ⟨j - i, by omega⟩
  refine ⟨(h.d.dvd ?_).mono (Nat.pow_le_pow_right (by decide) (by omega))⟩
  rw [Nat.pow_add, ← Nat.mul_assoc]
  exact Nat.dvd_mul_right ..
theorem Hz.part {n j c : Nat} {q : Rat} (h : Hz n j q) (hc : 0 < c) (hc2 : c ≤ 18) : Dz (n * hF ^ (j + 1)) (2 ^ j) (q * Rat.divInt 1 c) := by
  have a : Dz c 1 (Rat.divInt 1 c) := Dz.div hc (by omega) (by omega)
  have b : c ∣ hF := by
    have : c = 1 ∨ c = 2 ∨ c = 3 ∨ c = 4 ∨ c = 5 ∨ c = 6 ∨ c = 7 ∨ c = 8 ∨ c = 9 ∨ c = 10 ∨ c = 11 ∨ c = 12 ∨ c = 13 ∨ c = 14 ∨ c = 15 ∨ c = 16 ∨ c = 17 ∨ c = 18 := by omega
    rcases this with rfl | rfl | rfl | rfl | rfl | rfl | rfl | rfl | rfl | rfl | rfl | rfl | rfl | rfl | rfl | rfl | rfl | rfl <;> decide
  have := h.d.mul (a.dvd b)
  rw [Nat.mul_one, Nat.mul_assoc, ← Nat.pow_succ] at this
  exact this
theorem Hz.add {n j : Nat} {q p : Rat} (h : Hz n j q) (k : Dz (n * hF ^ (j + 1)) (2 ^ j) p) : Hz n (j + 1) (q + p) := by
  have a := h.d.dvd (E := n * hF ^ (j + 1)) (by rw [Nat.pow_succ, ← Nat.mul_assoc]; exact Nat.dvd_mul_right ..)
  have b := a.add k
  rw [← Nat.two_mul, ← Nat.pow_succ'] at b
  exact ⟨b⟩
theorem Hz.zero (n j : Nat) : Hz n j 0 := ⟨Dz.zero _ _⟩
theorem hz_sz {n j k : Nat} {q : Rat} (hn : 0 < n) (hn2 : n ≤ 18) (h : Dz (n * hF ^ j) (2 ^ k) q) (hk : k ≤ j) : Sz (54 * j + 6) q := by
  have f1 : hF ^ j ≤ (2 ^ 53) ^ j := Nat.pow_le_pow_left (by decide) j
  rw [← Nat.pow_mul] at f1
  have f2 : n * hF ^ j < 2 ^ (53 * j + 5) := by
    rw [Nat.pow_add, Nat.mul_comm]
    calc hF ^ j * n ≤ 2 ^ (53 * j) * n := Nat.mul_le_mul_right _ f1
      _ < 2 ^ (53 * j) * 2 ^ 5 := Nat.mul_lt_mul_of_pos_left (by omega) (Nat.pow_pos (by decide))
  have p0 : 0 < n * hF ^ j := Nat.mul_pos hn (Nat.pow_pos (by decide))
  refine h.sz p0 (Nat.lt_of_lt_of_le f2 (Nat.pow_le_pow_right (by decide) (by omega))) ?_
  calc 2 ^ k * (n * hF ^ j) < 2 ^ k * 2 ^ (53 * j + 5) := Nat.mul_lt_mul_of_pos_left f2 (Nat.pow_pos (by decide))
    _ = 2 ^ (k + (53 * j + 5)) := (Nat.pow_add ..).symm
    _ ≤ 2 ^ (54 * j + 6) := Nat.pow_le_pow_right (by decide) (by omega)

/-! handing on: the program's walk -/
theorem en_zip (L : List Sp) : enumL (L.map Sp.d) = L.zipIdx.map fun p => .tuple [.int (p.2 : Int), p.1.d] := by
  unfold enumL
  rw [List.mapIdx_eq_zipIdx_map, List.zipIdx_map, List.map_map]
  rfl
abbrev ixD (i : Nat) : PyData := .int (i : Int)
theorem fm_zip (P : Sp × Nat → Bool) (f : Sp × Nat → PyData) : ∀ A : List (Sp × Nat), (A.filterMap fun p => if P p = true then some (f p) else none) = (A.filter P).map f
  | [] => rfl
  | x :: r => by
    rw [List.filterMap_cons, List.filter_cons, fm_zip P f r]
    cases P x <;> rfl
theorem ix_sp {L : List Sp} {g : Nat} (hg : g < L.length) : dIxA (.tuple (L.map Sp.d)) (.int (g : Int)) = some (.dat L[g].d) := by
  simp [atI_nn, List.getElem?_map, List.getElem?_eq_getElem hg]
theorem takers_is {L : List Sp} (h2 : L.length ≤ 40) {g : Nat} (hg : g < L.length) : sem_takers_of [.dat (.tuple (L.map Sp.d)), .dat (.int (g : Int))] = some (.ok (.own (.list ((tkZ L L[g].u).map ixD))) [(some (R.dat (.tuple (L.map Sp.d)))), (some (R.dat (.int (g : Int))))]) := by
  have ix := ix_sp hg
  have i1 : dIxA L[g].d (.int 1) = some (.dat (.int L[g].u)) := by simp [Sp.d, atI_nn]
  generalize L[g].u = t at *
  generalize L[g].d = G at *
  have hl := lcL_fm (g := gtM (gsC (gnM 2) (gsC (gtM (gsC (gnM 3) (gsC (gnM 4) (gsC (gnM 5) gs0)))) gs0))) (vs := [2, 3, 4, 5]) (c := cc1_takers_of) (f := ce1_takers_of) (ρ := [(some (R.dat (.tuple (L.map Sp.d)))), (some (R.dat (.int (g : Int)))), none, none, none, none]) (fun p : Sp × Nat => .tuple [.int (p.2 : Int), p.1.d]) (fun p => if decide (t < p.1.u) = true then some (ixD p.2) else none) L.zipIdx (by rw [List.length_zipIdx]; show _ ≤ 100000; omega) (by
    rintro ⟨s, i⟩ hp
    generalize L.map Sp.d = LD at *
    by_cases c : t < s.u <;> simp [ev, cc1_takers_of, ce1_takers_of, Sp.d, ix, i1, c])
  rw [← en_zip, fm_zip (fun p => decide (t < p.1.u)) (fun p => ixD p.2), show ((L.zipIdx.filter fun p => decide (t < p.1.u)).map fun p => ixD p.2) = (tkZ L t).map ixD by unfold tkZ; rw [List.map_map]; rfl] at hl
  rw [run_takers_of]
  unfold m_takers_of
  generalize L.map Sp.d = LD at *
  simp [hl, outs_2, pr_takers_of]
/-- the givers, as they stand in the book -/
def gvZ (L : List Sp) : List (Sp × Nat) := L.zipIdx.filter fun p => decide (p.1.k = 0) && !(tkZ L p.1.u).isEmpty
def gvP (L : List Sp) : List (Int × Int) := (gvZ L).map fun p => (p.1.u, (p.2 : Int))
def gsL (L : List Sp) : List Nat := (sortP (gvP L)).map fun p => p.2.toNat
theorem mem_gvP {L : List Sp} {p : Int × Int} (h : p ∈ gvP L) : ∃ (g : Nat) (hg : g < L.length), p = (L[g].u, (g : Int)) ∧ L[g].k = 0 ∧ tkZ L L[g].u ≠ [] := by
  obtain ⟨⟨s, g⟩, hm, rfl⟩ := List.mem_map.mp h
  obtain ⟨h1, h2⟩ := List.mem_filter.mp hm
  obtain ⟨hg, rfl⟩ := List.getElem?_eq_some_iff.mp (List.mk_mem_zipIdx_iff_getElem?.mp h1)
  simp only [Bool.and_eq_true, decide_eq_true_eq, Bool.not_eq_true', List.isEmpty_eq_false_iff] at h2
  exact ⟨g, hg, rfl, h2.1, h2.2⟩
theorem mem_gsL {L : List Sp} {g : Nat} (h : g ∈ gsL L) : ∃ hg : g < L.length, L[g].k = 0 ∧ tkZ L L[g].u ≠ [] := by
  obtain ⟨p, hp, rfl⟩ := List.mem_map.mp h
  obtain ⟨g, hg, rfl, a, b⟩ := mem_gvP ((sortP_perm _).mem_iff.mp hp)
  exact ⟨by show (g : Int).toNat < _; omega, by simpa using a, by simpa using b⟩
theorem gvP_len (L : List Sp) : (gvP L).length ≤ L.length := by
  unfold gvP gvZ
  rw [List.length_map]
  exact Nat.le_trans (List.length_filter_le ..) (by rw [List.length_zipIdx]; exact Nat.le_refl _)
theorem gsL_len (L : List Sp) : (gsL L).length ≤ L.length := by
  unfold gsL
  rw [List.length_map, (sortP_perm _).length_eq]
  exact gvP_len L
theorem givers_is {L : List Sp} (h : ∀ s ∈ L, s.Ok) (h2 : L.length ≤ 40) : sem_givers_of [.dat (.tuple (L.map Sp.d))] = some (.ok (.own (.list ((gsL L).map ixD))) [(some (R.dat (.tuple (L.map Sp.d))))]) := by
  have hl := lcL_fm (g := gtM (gsC (gnM 2) (gsC (gtM (gsC (gnM 3) (gsC (gnM 4) (gsC (gnM 5) gs0)))) gs0))) (vs := [2, 3, 4, 5]) (c := cc1_givers_of) (f := ce1_givers_of) (ρ := [(some (R.dat (.tuple (L.map Sp.d)))), none, none, none, none, none]) (fun p : Sp × Nat => .tuple [.int (p.2 : Int), p.1.d]) (fun p => if (decide (p.1.k = 0) && !(tkZ L p.1.u).isEmpty) = true then some (DL.prD (p.1.u, (p.2 : Int))) else none) L.zipIdx (by rw [List.length_zipIdx]; show _ ≤ 100000; omega) (by
    rintro ⟨s, i⟩ hp
    obtain ⟨hi, rfl⟩ := List.getElem?_eq_some_iff.mp (List.mk_mem_zipIdx_iff_getElem?.mp hp)
    have tk := takers_is h2 hi
    have ne := dNe_nil (ds := (tkZ L L[i].u).map ixD) (m := 0) (by
      intro d hd
      obtain ⟨x, _, rfl⟩ := List.mem_map.mp hd
      exact Eqb.int _) (by decide)
    rw [List.isEmpty_map] at ne
    generalize (tkZ L L[i].u).map ixD = K at *
    generalize (tkZ L L[i].u).isEmpty = b at *
    generalize L.map Sp.d = LD at *
    by_cases c : L[i].k = 0
    · cases b <;> simp [ev, cc1_givers_of, ce1_givers_of, Sp.d, DL.prD, tk, ne, c]
    · simp [ev, cc1_givers_of, ce1_givers_of, Sp.d, c])
  rw [← en_zip, fm_zip (fun p => decide (p.1.k = 0) && !(tkZ L p.1.u).isEmpty) (fun p => DL.prD (p.1.u, (p.2 : Int)))] at hl
  have e : ((L.zipIdx.filter fun p => decide (p.1.k = 0) && !(tkZ L p.1.u).isEmpty).map fun p => DL.prD (p.1.u, (p.2 : Int))) = (gvP L).map DL.prD := by
    unfold gvP gvZ
    rw [List.map_map]; rfl
  rw [e] at hl
  have gl := gvP_len L
  have so := sortAD_p (gvP L) (by omega) (by
    intro p hp
    obtain ⟨g, hg, rfl, _, _⟩ := mem_gvP hp
    obtain ⟨q1, q2, q3, q4, q5⟩ := h _ (List.getElem_mem hg)
    unfold bdP
    rw [decide_eq_true_eq]
    exact ⟨by show 0 ≤ L[g].u; omega, by show L[g].u < 4096; omega, by show (0 : Int) ≤ (g : Int); omega, by show (g : Int) < 4096; omega⟩)
  have sl := (sortP_perm (gvP L)).length_eq
  have hl2 := lcL_mp (g := gtM (gsC (gnM 4) (gsC (gnM 2) gs0))) (vs := [2, 4]) (c := yesT) (f := ce2_givers_of) (ρ := [(some (R.dat (.tuple (L.map Sp.d)))), (some (R.own (.list ((gvP L).map DL.prD)))), none, none, none, none]) DL.prD (fun p => ixD p.2.toNat) (sortP (gvP L)) (by show _ ≤ 100000; omega) (by
    intro p hp
    obtain ⟨g, hg, rfl, _, _⟩ := mem_gvP ((sortP_perm _).mem_iff.mp hp)
    simp [ev, ce2_givers_of, DL.prD])
  have e2 : ((sortP (gvP L)).map fun p => ixD p.2.toNat) = (gsL L).map ixD := by unfold gsL; rw [List.map_map]; rfl
  rw [e2] at hl2
  rw [run_givers_of]
  unfold m_givers_of
  generalize L.map Sp.d = LD at *
  generalize (gsL L).map ixD = GD at *
  generalize (sortP (gvP L)).map DL.prD = SD at *
  generalize (gvP L).map DL.prD = PD at *
  simp [hl, so, hl2, outs_1, pr_givers_of]

/-! handing on: led_by -/
def pcD (p : Nat × Nat × Rat) : PyData := .tuple [.int (p.1 : Int), .int (p.2.1 : Int), frQ p.2.2]
def led0 (L : List Sp) : List Rat × List (Nat × Nat × Rat) := (L.map fun _ => Rat.divInt 1 (L.length : Int), [])
theorem u_at {L : List Sp} {g : Nat} (hg : g < L.length) : (L.map Sp.u).getD g 0 = L[g].u := by
  rw [List.getD_eq_getElem?_getD, List.getElem?_map, List.getElem?_eq_getElem hg]; rfl
theorem getD_mem {W : List Rat} {i : Nat} (h : i < W.length) : W.getD i 0 ∈ W := by
  rw [List.getD_eq_getElem?_getD, List.getElem?_eq_getElem h]; exact List.getElem_mem h
theorem mem_getD {W : List Rat} {q : Rat} (h : q ∈ W) : ∃ i, i < W.length ∧ q = W.getD i 0 := by
  obtain ⟨i, hi, rfl⟩ := List.mem_iff_getElem.mp h
  exact ⟨i, hi, by rw [List.getD_eq_getElem?_getD, List.getElem?_eq_getElem hi]; rfl⟩
theorem led_step {L : List Sp} (h18 : L.length ≤ 18) {w : List Rat × List (Nat × Nat × Rat)} {j : Nat} {g : Nat} (hg : g < L.length) (ht : tkZ L L[g].u ≠ []) (wl : w.1.length = L.length) (hz : ∀ q ∈ w.1, Hz L.length j q) :
    (ledS L w g).1.length = L.length ∧ (∀ q ∈ (ledS L w g).1, Hz L.length (j + 1) q) ∧ Dz (L.length * hF ^ (j + 1)) (2 ^ j) (w.1.getD g 0 * Rat.divInt 1 (tkZ L L[g].u).length) := by
  have c0 : 0 < (tkZ L L[g].u).length := List.length_pos_iff.mpr ht
  have c1 := tkZ_len L L[g].u
  have pd := (hz _ (getD_mem (by rw [wl]; exact hg))).part c0 (by omega)
  refine ⟨?_, ?_, pd⟩
  · unfold ledS; rw [List.length_set, adds_len, wl]
  · intro q hq
    unfold ledS at hq
    rw [u_at hg] at hq
    rcases List.mem_or_eq_of_mem_set hq with hq | rfl
    · obtain ⟨i, hi, rfl⟩ := mem_getD hq
      rw [adds_len] at hi
      rw [adds_get _ _ _ _ (tkZ_nd ..) (fun t ht => by rw [wl]; exact tkZ_lt ht)]
      have := hz _ (getD_mem hi)
      split
      · exact this.add pd
      · exact this.mono (by omega)
    · exact Hz.zero _ _
theorem led_hz {L : List Sp} (h18 : L.length ≤ 18) : ∀ (A : List Nat) (w : List Rat × List (Nat × Nat × Rat)) (j : Nat), (∀ g ∈ A, ∃ hg : g < L.length, L[g].k = 0 ∧ tkZ L L[g].u ≠ []) → w.1.length = L.length → (∀ q ∈ w.1, Hz L.length j q) →
    (A.foldl (ledS L) w).1.length = L.length ∧ (∀ q ∈ (A.foldl (ledS L) w).1, Hz L.length (j + A.length) q) ∧ (A.foldl (ledS L) w).2.length ≤ w.2.length + L.length * A.length
  | [], w, j, _, wl, hz => ⟨wl, hz, by simp⟩
  | g :: A, w, j, hA, wl, hz => by
    obtain ⟨hg, _, ht⟩ := hA g (List.mem_cons_self ..)
    obtain ⟨a, b, c⟩ := led_step h18 hg ht wl hz
    obtain ⟨d, e, f⟩ := led_hz h18 A (ledS L w g) (j + 1) (fun x hx => hA x (List.mem_cons_of_mem _ hx)) a b
    rw [List.foldl_cons, List.length_cons]
    refine ⟨d, fun q hq => (e q hq).mono (by omega), Nat.le_trans f ?_⟩
    have l1 : (ledS L w g).2.length ≤ w.2.length + L.length := by
      unfold ledS
      rw [List.length_append, List.length_map]
      have := tkZ_len L ((L.map Sp.u).getD g 0)
      omega
    rw [Nat.mul_succ]; omega
theorem led0_hz {L : List Sp} (h1 : 1 ≤ L.length) : (led0 L).1.length = L.length ∧ ∀ q ∈ (led0 L).1, Hz L.length 0 q := by
  refine ⟨List.length_map _, fun q hq => ?_⟩
  obtain ⟨s, _, rfl⟩ := List.mem_map.mp hq
  refine ⟨?_⟩
  rw [Nat.pow_zero, Nat.mul_one]
  exact Dz.div h1 (by omega) (by omega)
theorem ixN_nat {n i : Nat} (h : i < n) : ixN n (i : Int) = some i := by
  unfold ixN
  rw [if_pos (by omega), if_pos (by omega)]; simp
theorem ix_w {W : List Rat} {i : Nat} (h : i < W.length) : dIxA (.list (W.map frQ)) (.int (i : Int)) = some (.dat (frQ (W.getD i 0))) := by
  simp [atI_nn, List.getElem?_map, List.getElem?_eq_getElem h, List.getD_eq_getElem?_getD]
theorem set_w (W : List Rat) (i : Nat) (x : Rat) : (W.map frQ).set i (frQ x) = (W.set i x).map frQ := (List.map_set ..).symm
theorem take_turn {W : List Rat} {P : List (Nat × Nat × Rat)} {p : Rat} {j t g : Nat} (ht : t < W.length) (hs : Sz j (W.getD t 0)) (hp : Sz j p) (hj : j ≤ 2000) (hP : P.length < 100000) (e0 e4 e7 : Option R) :
    fb1_led_by [e0, (some (R.dat (ixD g))), (some (R.own (.list (W.map frQ)))), (some (R.own (.list (P.map pcD)))), e4, (some (R.dat (frQ p))), (some (R.dat (ixD t))), e7] = some (.nx [e0, (some (R.dat (ixD g))), (some (R.own (.list ((add1 p W t).map frQ)))), (some (R.own (.list ((P ++ [(g, t, p)]).map pcD)))), e4, (some (R.dat (frQ p))), (some (R.dat (ixD t))), e7]) := by
  have ix := ix_w ht
  have sm := sumq hs hp (by omega)
  have st := set_w W t (W.getD t 0 + p)
  have ixn := ixN_nat (n := (W.map frQ).length) (i := t) (by rw [List.length_map]; exact ht)
  have hP' : (P.map pcD).length < 100000 := by rw [List.length_map]; exact hP
  rw [List.map_append, show add1 p W t = W.set t (W.getD t 0 + p) from rfl, ← st]
  rw [show [(g, t, p)].map pcD = [.tuple [ixD g, ixD t, frQ p]] from rfl]
  generalize frQ (W.getD t 0 + p) = V1 at *
  generalize frQ (W.getD t 0) = V2 at *
  generalize frQ p = V3 at *
  generalize W.map frQ = WD at *
  generalize P.map pcD = PD at *
  unfold fb1_led_by
  simp [ix, sm, ixn, hP', -List.length_map]
theorem led_loop {W : List Rat} {P : List (Nat × Nat × Rat)} {p : Rat} {j g : Nat} {S : List Nat} (hS : ∀ t ∈ S, t < W.length) (nd : S.Nodup) (hW : ∀ q ∈ W, Sz j q) (hp : Sz j p) (hj : j ≤ 2000) (hP : P.length + S.length < 100000) (e0 e4 e6 e7 : Option R) :
    ∃ f6, forL (gnM 6) fb1_led_by (S.map ixD) [e0, (some (R.dat (ixD g))), (some (R.own (.list (W.map frQ)))), (some (R.own (.list (P.map pcD)))), e4, (some (R.dat (frQ p))), e6, e7] = some (.nx [e0, (some (R.dat (ixD g))), (some (R.own (.list ((S.foldl (add1 p) W).map frQ)))), (some (R.own (.list ((P ++ S.map fun t => (g, t, p)).map pcD)))), e4, (some (R.dat (frQ p))), f6, e7]) := by
  obtain ⟨ρ', e, f6, rfl⟩ := forL_st (g := gnM 6) (body := fb1_led_by) ixD (fun (A : List Nat) ρ => ∃ f6, ρ = [e0, (some (R.dat (ixD g))), (some (R.own (.list ((A.foldl (add1 p) W).map frQ)))), (some (R.own (.list ((P ++ A.map fun t => (g, t, p)).map pcD)))), e4, (some (R.dat (frQ p))), f6, e7]) (fun A t => A ++ [t]) [] S [e0, (some (R.dat (ixD g))), (some (R.own (.list (W.map frQ)))), (some (R.own (.list (P.map pcD)))), e4, (some (R.dat (frQ p))), e6, e7] ⟨e6, by simp⟩ (by
    rintro pre t post ρ hL ⟨f6, rfl⟩
    rw [foldl_snoc0]
    have tm : t ∈ S := by rw [hL]; simp
    have pl : pre.length < S.length := by rw [hL, List.length_append, List.length_cons]; omega
    have nd' := nd
    rw [hL] at nd'
    rw [List.nodup_append] at nd'
    have tn : t ∉ pre := fun z => nd'.2.2 t z t (List.mem_cons_self ..) rfl
    have gp : (pre.foldl (add1 p) W).getD t 0 = W.getD t 0 := by
      rw [adds_get _ _ _ _ nd'.1 (fun x hx => hS x (by rw [hL]; exact List.mem_append_left _ hx)), if_neg tn]
    have tt := take_turn (W := pre.foldl (add1 p) W) (P := P ++ pre.map fun t => (g, t, p)) (p := p) (j := j) (t := t) (g := g) (by rw [adds_len]; exact hS t tm) (by rw [gp]; exact hW _ (getD_mem (hS t tm))) hp hj (by rw [List.length_append, List.length_map]; omega) e0 e4 e7
    refine ⟨_, tt, (some (R.dat (ixD t))), ?_⟩
    have ma : (pre ++ [t]).map (fun t => (g, t, p)) = (pre.map fun t => (g, t, p)) ++ [(g, t, p)] := by simp
    rw [List.foldl_append, ma, ← List.append_assoc]; rfl)
  rw [foldl_snoc0] at e
  exact ⟨f6, e⟩
theorem giver_turn {L : List Sp} (h18 : L.length ≤ 18) {w : List Rat × List (Nat × Nat × Rat)} {j g : Nat} (hj : j < 18) (hg : g < L.length) (ht : tkZ L L[g].u ≠ []) (wl : w.1.length = L.length) (hz : ∀ q ∈ w.1, Hz L.length j q) (hP : w.2.length ≤ 1000) (e4 e5 e6 e7 : Option R) :
    ∃ f4 f5 f6, fb2_led_by [(some (R.dat (.tuple (L.map Sp.d)))), (some (R.dat (ixD g))), (some (R.own (.list (w.1.map frQ)))), (some (R.own (.list (w.2.map pcD)))), e4, e5, e6, e7] = some (.nx [(some (R.dat (.tuple (L.map Sp.d)))), (some (R.dat (ixD g))), (some (R.own (.list ((ledS L w g).1.map frQ)))), (some (R.own (.list ((ledS L w g).2.map pcD)))), f4, f5, f6, e7]) := by
  obtain ⟨s1, s2, pd⟩ := led_step h18 hg ht wl hz
  have tk := takers_is (show L.length ≤ 40 by omega) hg
  have c0 : 0 < (tkZ L L[g].u).length := List.length_pos_iff.mpr ht
  have c1 := tkZ_len L L[g].u
  have n1 : 0 < L.length := by omega
  have pz : Sz 1000 (w.1.getD g 0 * Rat.divInt 1 (tkZ L L[g].u).length) := (hz_sz n1 h18 pd (by omega)).mono (by omega)
  have wz : ∀ q ∈ w.1, Sz 1000 q := fun q hq => (hz_sz n1 h18 (hz q hq).d (Nat.le_refl _)).mono (by omega)
  have gz := wz _ (getD_mem (by rw [wl]; exact hg))
  have pr := productqR gz.r (c := 1) (d := ((tkZ L L[g].u).length : Int)) (k := 5) ⟨by decide, by omega, by omega⟩ (by decide)
  rw [Rat.num_divInt_den] at pr
  rw [show PyData.tuple [.int (w.1.getD g 0).num, .int ((w.1.getD g 0).den : Int)] = frQ (w.1.getD g 0) from rfl] at pr
  have ixg := ix_w (W := w.1) (i := g) (by rw [wl]; exact hg)
  have lS : ((tkZ L L[g].u).map ixD).length = (tkZ L L[g].u).length := List.length_map _
  obtain ⟨f6, lp⟩ := led_loop (W := w.1) (P := w.2) (p := w.1.getD g 0 * Rat.divInt 1 (tkZ L L[g].u).length) (j := 1000) (g := g) (S := tkZ L L[g].u) (fun t ht => by rw [wl]; exact tkZ_lt ht) (tkZ_nd ..) wz pz (by decide) (by omega) (some (R.dat (.tuple (L.map Sp.d)))) (some (R.dat (.list ((tkZ L L[g].u).map ixD)))) e6 e7
  have kn : k_NOUGHT = frQ 0 := rfl
  have e1 : (ledS L w g).1 = ((tkZ L L[g].u).foldl (add1 (w.1.getD g 0 * Rat.divInt 1 (tkZ L L[g].u).length)) w.1).set g 0 := by unfold ledS; rw [u_at hg]
  have e2 : (ledS L w g).2 = w.2 ++ (tkZ L L[g].u).map fun t => (g, t, w.1.getD g 0 * Rat.divInt 1 (tkZ L L[g].u).length) := by unfold ledS; rw [u_at hg]
  rw [e1, e2, ← set_w]
  have ixn := ixN_nat (n := (((tkZ L L[g].u).foldl (add1 (w.1.getD g 0 * Rat.divInt 1 (tkZ L L[g].u).length)) w.1).map frQ).length) (i := g) (by rw [List.length_map, adds_len, wl]; exact hg)
  refine ⟨(some (R.dat (.list ((tkZ L L[g].u).map ixD)))), (some (R.dat (frQ (w.1.getD g 0 * Rat.divInt 1 (tkZ L L[g].u).length)))), f6, ?_⟩
  generalize ((tkZ L L[g].u).foldl (add1 (w.1.getD g 0 * Rat.divInt 1 (tkZ L L[g].u).length)) w.1).map frQ = WD at *
  generalize (w.2 ++ (tkZ L L[g].u).map fun t => (g, t, w.1.getD g 0 * Rat.divInt 1 (tkZ L L[g].u).length)).map pcD = PD at *
  generalize frQ (w.1.getD g 0 * Rat.divInt 1 (tkZ L L[g].u).length) = V1 at *
  generalize frQ (w.1.getD g 0) = V2 at *
  generalize w.1.map frQ = W0 at *
  generalize w.2.map pcD = P0 at *
  generalize (tkZ L L[g].u).map ixD = SD at *
  generalize L.map Sp.d = LD at *
  unfold fb2_led_by
  simp [tk, ixg, lS, pr, lp, kn, ixn]
def ledQ (L : List Sp) : List Rat × List (Nat × Nat × Rat) := (gsL L).foldl (ledS L) (led0 L)

/-! led_by: a new pair of two new lists -/
theorem ledby_is {L : List Sp} (h : ∀ s ∈ L, s.Ok) (h1 : 1 ≤ L.length) (h18 : L.length ≤ 18) : sem_led_by [.dat (.tuple (L.map Sp.d))] = some (.ok (.two (.list ((ledQ L).1.map frQ)) (.list ((ledQ L).2.map pcD))) [(some (R.dat (.tuple (L.map Sp.d))))]) := by
  obtain ⟨z1, z2⟩ := led0_hz h1
  have gl := gsL_len L
  have pu := putq (t := 1) (b := (L.length : Int)) (by omega) (lt8000 (by omega))
  have lL : (L.map Sp.d).length = L.length := List.length_map _
  have la := lcL_mp (g := gnM 7) (vs := [7]) (c := yesT) (f := ce1_led_by) (ρ := [(some (R.dat (.tuple (L.map Sp.d)))), none, none, none, none, none, none, none]) Sp.d (fun _ => frQ (Rat.divInt 1 (L.length : Int))) L (by show _ ≤ 100000; omega) (by
    intro s hs
    generalize frQ (Rat.divInt 1 (L.length : Int)) = V at *
    generalize L.map Sp.d = LD at *
    simp [ev, ce1_led_by, lL, pu])
  have e0 : (L.map fun _ => frQ (Rat.divInt 1 (L.length : Int))) = (led0 L).1.map frQ := by unfold led0; rw [List.map_map]; rfl
  rw [e0] at la
  have gv := givers_is h (show L.length ≤ 40 by omega)
  obtain ⟨ρ', e, g1, g4, g5, g6, rfl⟩ := forL_st (g := gnM 1) (body := fb2_led_by) ixD (fun (w : List Rat × List (Nat × Nat × Rat)) ρ => ∃ g1 g4 g5 g6, ρ = [(some (R.dat (.tuple (L.map Sp.d)))), g1, (some (R.own (.list (w.1.map frQ)))), (some (R.own (.list (w.2.map pcD)))), g4, g5, g6, none]) (ledS L) (led0 L) (gsL L) [(some (R.dat (.tuple (L.map Sp.d)))), none, (some (R.own (.list ((led0 L).1.map frQ)))), (some (R.own (.list []))), none, none, none, none] ⟨none, none, none, none, rfl⟩ (by
    rintro pre g post ρ hL ⟨g1, g4, g5, g6, rfl⟩
    have pl : pre.length < (gsL L).length := by rw [hL, List.length_append, List.length_cons]; omega
    obtain ⟨hg, _, ht⟩ := mem_gsL (L := L) (g := g) (by rw [hL]; simp)
    obtain ⟨a, b, c⟩ := led_hz h18 pre (led0 L) 0 (fun x hx => mem_gsL (by rw [hL]; exact List.mem_append_left _ hx)) z1 z2
    rw [Nat.zero_add] at b
    have c' : (pre.foldl (ledS L) (led0 L)).2.length ≤ 1000 := by
      have : L.length * pre.length ≤ 18 * 18 := Nat.mul_le_mul h18 (by omega)
      have z : (led0 L).2.length = 0 := rfl
      omega
    obtain ⟨f4, f5, f6, tt⟩ := giver_turn h18 (show pre.length < 18 by omega) hg ht a b c' g4 g5 g6 none
    exact ⟨_, tt, _, _, _, _, rfl⟩)
  rw [show (gsL L).foldl (ledS L) (led0 L) = ledQ L from rfl] at e
  rw [run_led_by]
  unfold m_led_by
  generalize (ledQ L).1.map frQ = W1 at *
  generalize (ledQ L).2.map pcD = P1 at *
  generalize (led0 L).1.map frQ = W0 at *
  generalize (gsL L).map ixD = GD at *
  generalize L.map Sp.d = LD at *
  have rt := ret2_is (n := 1) (i := 2) (j := 3) (ρ := [(some (R.dat (.tuple LD))), g1, (some (R.own (.list W1))), (some (R.own (.list P1))), g4, g5, g6, none]) rfl rfl (by decide)
  simp [la, gv, e, rt, outs_1, pr_led_by]

/-! parcels by time: plain -/
def lawS (L : List Sp) (w : List Rat × List (Nat × Nat × Rat)) (g : Nat) : List Rat × List (Nat × Nat × Rat) :=
  let S := tkZ L ((L.map Sp.u).getD g 0)
  let p := w.1.getD g 0 * Rat.divInt 1 S.length
  (S.foldl (add1 p) w.1, w.2 ++ S.map fun t => (g, t, p))
theorem law_led {L : List Sp} : ∀ (A : List Nat) (v w : List Rat × List (Nat × Nat × Rat)) (dn : List Nat), A.Nodup → (∀ g ∈ A, g ∉ dn) → v.1.length = L.length → w.1.length = L.length → v.2 = w.2 → (∀ i, i ∉ dn → v.1.getD i 0 = w.1.getD i 0) → (A.foldl (lawS L) v).2 = (A.foldl (ledS L) w).2
  | [], _, _, _, _, _, _, _, h, _ => h
  | g :: A, v, w, dn, nd, hd, lv, lw, h2, h1 => by
    rw [List.nodup_cons] at nd
    rw [List.foldl_cons, List.foldl_cons]
    have eg := h1 g (hd g (List.mem_cons_self ..))
    refine law_led A (lawS L v g) (ledS L w g) (g :: dn) nd.2 (fun x hx z => ?_) ?_ ?_ ?_ (fun i hi => ?_)
    · rcases List.mem_cons.mp z with rfl | z
      · exact nd.1 hx
      · exact hd x (List.mem_cons_of_mem _ hx) z
    · unfold lawS; rw [adds_len, lv]
    · unfold ledS; rw [List.length_set, adds_len, lw]
    · unfold lawS ledS; simp only; rw [eg, h2]
    · have ng : ¬ (g = i ∧ i < ((tkZ L ((L.map Sp.u).getD g 0)).foldl (add1 (w.1.getD g 0 * Rat.divInt 1 ((tkZ L ((L.map Sp.u).getD g 0)).length : Int))) w.1).length) := fun z => hi (by rw [z.1]; exact List.mem_cons_self ..)
      have ni : i ∉ dn := fun z => hi (List.mem_cons_of_mem _ z)
      unfold lawS ledS
      simp only
      rw [getD_set, if_neg ng, adds_get _ _ _ _ (tkZ_nd ..) (fun t ht => by rw [lv]; exact tkZ_lt ht), adds_get _ _ _ _ (tkZ_nd ..) (fun t ht => by rw [lw]; exact tkZ_lt ht), h1 i ni, eg]
def cnd (L : List Sp) (t : Int) (p : Sp × Nat) : Bool := decide (p.1.u = t ∧ p.1.k = 0) && !(tkZ L t).isEmpty
def gAt (L : List Sp) (t : Int) : List Nat := (L.zipIdx.filter (cnd L t)).map Prod.snd
def tms : List Int := (List.range 999).map fun (k : Nat) => 1 + (k : Int)
theorem rng_tms : rngL 1 999 = tms.map PyData.int := by unfold tms rngL; rw [List.map_map]; rfl
def GG (L : List Sp) : List Nat := tms.flatMap (gAt L)
theorem mem_gAt {L : List Sp} {t : Int} {g : Nat} : g ∈ gAt L t ↔ ∃ s, L[g]? = some s ∧ s.u = t ∧ s.k = 0 ∧ tkZ L t ≠ [] := by
  unfold gAt
  rw [List.mem_map]
  constructor
  · rintro ⟨⟨s, j⟩, h, rfl⟩
    obtain ⟨h1, h2⟩ := List.mem_filter.mp h
    simp only [cnd, Bool.and_eq_true, decide_eq_true_eq, Bool.not_eq_true', List.isEmpty_eq_false_iff] at h2
    exact ⟨s, List.mk_mem_zipIdx_iff_getElem?.mp h1, h2.1.1, h2.1.2, h2.2⟩
  · rintro ⟨s, h1, h2, h3, h4⟩
    refine ⟨(s, g), List.mem_filter.mpr ⟨List.mk_mem_zipIdx_iff_getElem?.mpr h1, ?_⟩, rfl⟩
    simp only [cnd, Bool.and_eq_true, decide_eq_true_eq, Bool.not_eq_true', List.isEmpty_eq_false_iff]
    exact ⟨⟨h2, h3⟩, h4⟩
theorem gAt_pw (L : List Sp) (t : Int) : (gAt L t).Pairwise (· < ·) := by
  unfold gAt
  rw [List.pairwise_map]
  exact (zipIdx_pw L 0).filter _
theorem tms_pw : tms.Pairwise (· < ·) := by
  unfold tms
  rw [List.pairwise_map]
  exact List.pairwise_lt_range.imp fun h => by omega
theorem mem_tms {t : Int} : t ∈ tms ↔ 1 ≤ t ∧ t ≤ 999 := by
  unfold tms
  rw [List.mem_map]
  constructor
  · rintro ⟨k, hk, rfl⟩
    have := List.mem_range.mp hk
    omega
  · rintro ⟨a, b⟩
    exact ⟨(t - 1).toNat, List.mem_range.mpr (by omega), by omega⟩
def GP (L : List Sp) : List (Int × Int) := tms.flatMap fun t => (gAt L t).map fun (g : Nat) => (t, (g : Int))
theorem GP_pw (L : List Sp) : (GP L).Pairwise fun p q => p.1 < q.1 ∨ (p.1 = q.1 ∧ p.2 < q.2) := by
  unfold GP
  rw [List.pairwise_flatMap]
  refine ⟨fun t _ => ?_, ?_⟩
  · rw [List.pairwise_map]
    exact (gAt_pw L t).imp fun h => .inr ⟨rfl, by simp only; omega⟩
  · refine tms_pw.imp fun h => ?_
    intro x hx y hy
    obtain ⟨a, _, rfl⟩ := List.mem_map.mp hx
    obtain ⟨b, _, rfl⟩ := List.mem_map.mp hy
    exact .inl h
theorem mem_GP {L : List Sp} (h : ∀ s ∈ L, s.Ok) {p : Int × Int} : p ∈ GP L ↔ p ∈ gvP L := by
  unfold GP gvP gvZ
  rw [List.mem_flatMap, List.mem_map]
  constructor
  · rintro ⟨t, _, hp⟩
    obtain ⟨g, hg, rfl⟩ := List.mem_map.mp hp
    obtain ⟨s, h1, rfl, h3, h4⟩ := mem_gAt.mp hg
    refine ⟨(s, g), List.mem_filter.mpr ⟨List.mk_mem_zipIdx_iff_getElem?.mpr h1, ?_⟩, rfl⟩
    simp only [Bool.and_eq_true, decide_eq_true_eq, Bool.not_eq_true', List.isEmpty_eq_false_iff]
    exact ⟨h3, h4⟩
  · rintro ⟨⟨s, g⟩, hm, rfl⟩
    obtain ⟨h1, h2⟩ := List.mem_filter.mp hm
    simp only [Bool.and_eq_true, decide_eq_true_eq, Bool.not_eq_true', List.isEmpty_eq_false_iff] at h2
    have h1' := List.mk_mem_zipIdx_iff_getElem?.mp h1
    obtain ⟨q1, q2, q3, q4, q5⟩ := h s (List.mem_of_getElem? h1')
    exact ⟨s.u, mem_tms.mpr ⟨by omega, by omega⟩, List.mem_map.mpr ⟨g, mem_gAt.mpr ⟨s, h1', rfl, h2.1, h2.2⟩, rfl⟩⟩
theorem gvP_nd (L : List Sp) : (gvP L).Nodup := by
  unfold gvP gvZ
  refine List.pairwise_map.mpr (((zipIdx_pw L 0).filter _).imp fun h e => ?_)
  have := congrArg Prod.snd e
  simp only at this
  omega
theorem gsL_GG {L : List Sp} (h : ∀ s ∈ L, s.Ok) (h2 : L.length ≤ 40) : gsL L = GG L := by
  have nd : (GP L).Nodup := (GP_pw L).imp fun h e => by subst e; omega
  have pm : (sortP (gvP L)).Perm (GP L) := (sortP_perm _).trans ((List.perm_ext_iff_of_nodup (gvP_nd L) nd).mpr fun p => (mem_GP h).symm)
  have bd : ∀ p ∈ gvP L, bdP p = true := by
    intro p hp
    obtain ⟨g, hg, rfl, _, _⟩ := mem_gvP hp
    obtain ⟨q1, q2, q3, q4, q5⟩ := h _ (List.getElem_mem hg)
    unfold bdP
    rw [decide_eq_true_eq]
    exact ⟨by show 0 ≤ L[g].u; omega, by show L[g].u < 4096; omega, by show (0 : Int) ≤ (g : Int); omega, by show (g : Int) < 4096; omega⟩
  have e := sortP_uniq pm (fun p hp => bd p ((sortP_perm _).mem_iff.mp hp)) (sortP_pw _) (by
    refine List.Pairwise.imp_of_mem (fun {p q} hp hq h => ?_) (GP_pw L)
    have b1 := bd p ((mem_GP ‹_›).mp hp)
    have b2 := bd q ((mem_GP ‹_›).mp hq)
    unfold bdP at b1 b2
    unfold leP
    rw [decide_eq_true_eq] at *
    omega)
  unfold gsL GG
  rw [e]
  unfold GP
  rw [List.map_flatMap]
  congr 1
  funext t
  rw [List.map_map]
  conv => rhs; rw [← List.map_id (gAt L t)]
  refine List.map_congr_left fun g _ => ?_
  simp

theorem sorted_ext : ∀ {A B : List Int}, A.Pairwise (· < ·) → B.Pairwise (· < ·) → (∀ t, t ∈ A ↔ t ∈ B) → A = B
  | [], [], _, _, _ => rfl
  | [], y :: B, _, _, h => absurd ((h y).mpr (List.mem_cons_self ..)) (by simp)
  | x :: A, [], _, _, h => absurd ((h x).mp (List.mem_cons_self ..)) (by simp)
  | x :: A, y :: B, hA, hB, h => by
    rw [List.pairwise_cons] at hA hB
    have e : x = y := by
      have a : x = y ∨ y < x := by
        rcases List.mem_cons.mp ((h x).mp (List.mem_cons_self ..)) with z | z
        · exact .inl z
        · exact .inr (hB.1 x z)
      have b : y = x ∨ x < y := by
        rcases List.mem_cons.mp ((h y).mpr (List.mem_cons_self ..)) with z | z
        · exact .inl z
        · exact .inr (hA.1 y z)
      omega
    subst e
    congr 1
    refine sorted_ext hA.2 hB.2 fun t => ⟨fun ht => ?_, fun ht => ?_⟩
    · rcases List.mem_cons.mp ((h t).mp (List.mem_cons_of_mem _ ht)) with z | z
      · have := hA.1 t ht; omega
      · exact z
    · rcases List.mem_cons.mp ((h t).mpr (List.mem_cons_of_mem _ ht)) with z | z
      · have := hB.1 t ht; omega
      · exact z

/-! k22: the law's own parcels, walked -/
theorem foldl_flat {α β : Type} (f : α → List Nat) (g : β → Nat → β) : ∀ (l : List α) (b : β), (l.flatMap f).foldl g b = l.foldl (fun w a => (f a).foldl g w) b
  | [], b => rfl
  | a :: l, b => by rw [List.flatMap_cons, List.foldl_append, List.foldl_cons, foldl_flat f g l]
theorem GG_mem {L : List Sp} (h : ∀ s ∈ L, s.Ok) (h18 : L.length ≤ 18) {g : Nat} (hg : g ∈ GG L) : ∃ hg : g < L.length, L[g].k = 0 ∧ tkZ L L[g].u ≠ [] := mem_gsL (by rw [gsL_GG h (by omega)]; exact hg)
theorem gsL_nd (L : List Sp) : (gsL L).Nodup := by
  have a : (gvP L).Pairwise fun p q => p.2 ≠ q.2 := by
    unfold gvP gvZ
    exact List.pairwise_map.mpr (((zipIdx_pw L 0).filter _).imp fun h e => by simp only at e; omega)
  have b : (sortP (gvP L)).Pairwise fun p q => p.2 ≠ q.2 := ((sortP_perm (gvP L)).pairwise_iff fun h => h.symm).mpr a
  unfold gsL
  rw [List.nodup_iff_pairwise_ne, List.pairwise_map]
  refine b.imp_of_mem fun hp hq h e => h ?_
  obtain ⟨g, hg, rfl, _, _⟩ := mem_gvP ((sortP_perm _).mem_iff.mp hp)
  obtain ⟨g', hg', rfl, _, _⟩ := mem_gvP ((sortP_perm _).mem_iff.mp hq)
  have e' : g = g' := by simpa using e
  show (g : Int) = g'
  rw [e']

/-! k21: one time's givers together: plain -/
def cAt (L : List Sp) (t : Int) : List Nat := (L.zipIdx.filter fun p => decide (p.1.u = t ∧ p.1.k = 0)).map Prod.snd
theorem cAt_pw (L : List Sp) (t : Int) : (cAt L t).Pairwise (· < ·) := by
  unfold cAt
  rw [List.pairwise_map]
  exact (zipIdx_pw L 0).filter _
theorem mem_cAt {L : List Sp} {t : Int} {g : Nat} : g ∈ cAt L t ↔ ∃ s, L[g]? = some s ∧ s.u = t ∧ s.k = 0 := by
  unfold cAt
  rw [List.mem_map]
  constructor
  · rintro ⟨⟨s, j⟩, h, rfl⟩
    obtain ⟨h1, h2⟩ := List.mem_filter.mp h
    rw [decide_eq_true_eq] at h2
    exact ⟨s, List.mk_mem_zipIdx_iff_getElem?.mp h1, h2⟩
  · rintro ⟨s, h1, h2⟩
    exact ⟨(s, g), List.mem_filter.mpr ⟨List.mk_mem_zipIdx_iff_getElem?.mpr h1, decide_eq_true h2⟩, rfl⟩
theorem gAt_c {L : List Sp} {t : Int} (h : tkZ L t ≠ []) : gAt L t = cAt L t := by
  unfold gAt cAt
  congr 1
  refine List.filter_congr fun p _ => ?_
  unfold cnd
  rw [show (tkZ L t).isEmpty = false from List.isEmpty_eq_false_iff.mpr h]
  simp
theorem gAt_nil {L : List Sp} {t : Int} (h : tkZ L t = []) : gAt L t = [] := by
  refine List.eq_nil_iff_forall_not_mem.mpr fun g hg => ?_
  obtain ⟨_, _, _, _, q⟩ := mem_gAt.mp hg
  exact q h
def zer (G : List Nat) (W : List Rat) : List Rat := G.foldl (fun W g => W.set g 0) W
theorem zer_len : ∀ (G : List Nat) (W : List Rat), (zer G W).length = W.length
  | [], _ => rfl
  | g :: G, W => by
    show (zer G (W.set g 0)).length = _
    rw [zer_len G, List.length_set]
theorem zer_get : ∀ (G : List Nat) (W : List Rat) (i : Nat), (zer G W).getD i 0 = if i ∈ G then 0 else W.getD i 0
  | [], _, _ => by simp [zer]
  | g :: G, W, i => by
    show (zer G (W.set g 0)).getD i 0 = _
    rw [zer_get G, getD_set]
    by_cases c : i ∈ G
    · rw [if_pos c, if_pos (List.mem_cons_of_mem _ c)]
    · rw [if_neg c]
      by_cases e : i = g
      · subst e
        rw [if_pos (List.mem_cons_self ..)]
        by_cases l : i < W.length
        · rw [if_pos ⟨rfl, l⟩]
        · rw [if_neg (fun z => l z.2), List.getD_eq_getElem?_getD, List.getElem?_eq_none (by omega)]; rfl
      · rw [if_neg (fun z => e z.1.symm), if_neg (fun z => (List.mem_cons.mp z).elim e c)]
/-- what the law does at one time -/
def grS (L : List Sp) (t : Int) (W : List Rat) : List Rat :=
  (tkZ L t).foldl (add1 (((cAt L t).map fun g => W.getD g 0).sum * Rat.divInt 1 (tkZ L t).length)) (zer (cAt L t) W)
theorem ext_getD {A B : List Rat} (l : A.length = B.length) (h : ∀ i, A.getD i 0 = B.getD i 0) : A = B := by
  refine List.ext_getElem l fun i h1 h2 => ?_
  have := h i
  rwa [List.getD_eq_getElem?_getD, List.getD_eq_getElem?_getD, List.getElem?_eq_getElem h1, List.getElem?_eq_getElem h2] at this
theorem not_tk {L : List Sp} {t : Int} {g : Nat} (hu : (L.map Sp.u).getD g 0 = t) : g ∉ tkZ L t := by
  intro z
  obtain ⟨s, h1, h2⟩ := mem_tkZ.mp z
  rw [List.getD_eq_getElem?_getD, List.getElem?_map, h1] at hu
  have : s.u = t := hu
  omega
theorem led_grp {L : List Sp} {t : Int} : ∀ (G : List Nat) (w : List Rat × List (Nat × Nat × Rat)), G.Nodup → (∀ g ∈ G, g < L.length ∧ (L.map Sp.u).getD g 0 = t) → w.1.length = L.length →
    (G.foldl (ledS L) w).1.length = L.length ∧ ∀ i, (G.foldl (ledS L) w).1.getD i 0 = if i ∈ G then 0 else if i ∈ tkZ L t then w.1.getD i 0 + (G.map fun g => w.1.getD g 0).sum * Rat.divInt 1 (tkZ L t).length else w.1.getD i 0
  | [], w, _, _, wl => ⟨wl, fun i => by
    rw [if_neg (by simp)]
    show w.1.getD i 0 = if i ∈ tkZ L t then w.1.getD i 0 + 0 * _ else _
    rw [Rat.zero_mul, Rat.add_zero, ite_self]⟩
  | g :: G, w, nd, hG, wl => by
    rw [List.nodup_cons] at nd
    obtain ⟨gl, gu⟩ := hG g (List.mem_cons_self ..)
    have tl : ∀ x ∈ tkZ L t, x < w.1.length := fun x hx => by rw [wl]; exact tkZ_lt hx
    have e1 : (ledS L w g).1 = ((tkZ L t).foldl (add1 (w.1.getD g 0 * Rat.divInt 1 (tkZ L t).length)) w.1).set g 0 := by unfold ledS; rw [gu]
    have len : (ledS L w g).1.length = L.length := by rw [e1, List.length_set, adds_len, wl]
    have val : ∀ i, (ledS L w g).1.getD i 0 = if i = g then 0 else if i ∈ tkZ L t then w.1.getD i 0 + w.1.getD g 0 * Rat.divInt 1 (tkZ L t).length else w.1.getD i 0 := by
      intro i
      rw [e1, getD_set, adds_get _ _ _ _ (tkZ_nd ..) tl, adds_len]
      by_cases e : i = g
      · subst e
        rw [if_pos ⟨rfl, by omega⟩, if_pos rfl]
      · rw [if_neg (fun z => e z.1.symm), if_neg e]
    obtain ⟨l2, v2⟩ := led_grp G (ledS L w g) nd.2 (fun x hx => hG x (List.mem_cons_of_mem _ hx)) len
    rw [List.foldl_cons]
    refine ⟨l2, fun i => ?_⟩
    have es : (G.map fun x => (ledS L w g).1.getD x 0) = G.map fun x => w.1.getD x 0 := List.map_congr_left fun x hx => by
      rw [val x, if_neg (show ¬ x = g from fun z => nd.1 (by rw [← z]; exact hx)), if_neg (not_tk (hG x (List.mem_cons_of_mem _ hx)).2)]
    rw [v2 i, es, val i, List.map_cons, List.sum_cons, Rat.add_mul]
    generalize (G.map fun x => w.1.getD x 0).sum * Rat.divInt 1 ((tkZ L t).length : Int) = S
    generalize w.1.getD g 0 * Rat.divInt 1 ((tkZ L t).length : Int) = P
    by_cases c : i ∈ G
    · rw [if_pos c, if_pos (List.mem_cons_of_mem _ c)]
    · rw [if_neg c]
      by_cases e : i = g
      · subst e
        rw [if_pos rfl, if_neg (not_tk gu), if_pos (List.mem_cons_self ..)]
      · rw [if_neg e, if_neg (fun z => (List.mem_cons.mp z).elim e c)]
        by_cases m : i ∈ tkZ L t
        · rw [if_pos m, if_pos m, if_pos m, Rat.add_assoc]
        · rw [if_neg m, if_neg m, if_neg m]
theorem grp_is {L : List Sp} {t : Int} (ht : tkZ L t ≠ []) {w : List Rat × List (Nat × Nat × Rat)} (wl : w.1.length = L.length) : ((gAt L t).foldl (ledS L) w).1 = grS L t w.1 := by
  have nd : (cAt L t).Nodup := (cAt_pw L t).imp fun h => Nat.ne_of_lt h
  have hG : ∀ g ∈ cAt L t, g < L.length ∧ (L.map Sp.u).getD g 0 = t := fun g hg => by
    obtain ⟨s, h1, h2, h3⟩ := mem_cAt.mp hg
    obtain ⟨hl, rfl⟩ := List.getElem?_eq_some_iff.mp h1
    exact ⟨hl, by rw [u_at hl, h2]⟩
  obtain ⟨l1, v1⟩ := led_grp (cAt L t) w nd hG wl
  rw [gAt_c ht]
  refine ext_getD (by unfold grS; rw [l1, adds_len, zer_len, wl]) fun i => ?_
  rw [v1]
  unfold grS
  rw [adds_get _ _ _ _ (tkZ_nd ..) (fun x hx => by rw [zer_len, wl]; exact tkZ_lt hx), zer_get]
  by_cases m : i ∈ tkZ L t
  · have nc : i ∉ cAt L t := fun z => not_tk (hG i z).2 m
    rw [if_neg nc, if_pos m, if_pos m, if_neg nc]
  · rw [if_neg m, if_neg m]
/-- the times of the law -/
def utk (L : List Sp) : List Int := (L.filter fun s => decide (s.k = 0)).map Sp.u
def TS (L : List Sp) : List Int := sortU (onceL (utk L) [])
theorem mem_TS {L : List Sp} {t : Int} : t ∈ TS L ↔ ∃ s ∈ L, s.u = t ∧ s.k = 0 := by
  unfold TS utk
  rw [sortU_mem, onceL_mem, List.mem_map]
  constructor
  · rintro (h | ⟨s, hs, e⟩)
    · cases h
    · obtain ⟨a, b⟩ := List.mem_filter.mp hs
      exact ⟨s, a, e, by simpa using b⟩
  · rintro ⟨s, hs, e, k⟩
    exact .inr ⟨s, List.mem_filter.mpr ⟨hs, by simpa using k⟩, e⟩
theorem flat_filter (f : Int → List Nat) (P : Int → Bool) : ∀ l : List Int, (∀ x ∈ l, P x = false → f x = []) → (l.filter P).flatMap f = l.flatMap f
  | [], _ => rfl
  | x :: l, h => by
    have ih := flat_filter f P l fun y hy => h y (List.mem_cons_of_mem _ hy)
    rw [List.filter_cons, List.flatMap_cons]
    by_cases c : P x = true
    · rw [if_pos c, List.flatMap_cons, ih]
    · rw [if_neg c, ih, h x (List.mem_cons_self ..) (by simpa using c), List.nil_append]
theorem TS_GG {L : List Sp} (h : ∀ s ∈ L, s.Ok) : (TS L).flatMap (gAt L) = GG L := by
  unfold GG
  rw [← flat_filter (gAt L) (fun t => decide (t ∈ TS L)) tms fun t _ ht => ?_]
  · congr 1
    refine sorted_ext sortU_pw (tms_pw.filter _) fun t => ?_
    rw [List.mem_filter, decide_eq_true_eq]
    refine ⟨fun z => ⟨?_, z⟩, fun z => z.2⟩
    obtain ⟨s, hs, e, _⟩ := mem_TS.mp z
    obtain ⟨q1, q2, q3, q4, q5⟩ := h s hs
    exact mem_tms.mpr ⟨by omega, by omega⟩
  · refine List.eq_nil_iff_forall_not_mem.mpr fun g hg => ?_
    obtain ⟨s, h1, h2, h3, _⟩ := mem_gAt.mp hg
    rw [decide_eq_false_iff_not] at ht
    exact ht (mem_TS.mpr ⟨s, List.mem_of_getElem? h1, h2, h3⟩)
def stL (L : List Sp) (A : List Nat) : List Rat × List (Nat × Nat × Rat) := A.foldl (ledS L) (led0 L)
theorem pre_led {L : List Sp} (h : ∀ s ∈ L, s.Ok) (h1 : 1 ≤ L.length) (h12 : L.length ≤ 12) {A Z : List Nat} (e : GG L = A ++ Z) : (stL L A).1.length = L.length ∧ (∀ q ∈ (stL L A).1, Hz L.length A.length q) ∧ A.length ≤ 12 := by
  obtain ⟨z1, z2⟩ := led0_hz h1
  have gl := gsL_len L
  rw [gsL_GG h (by omega), e, List.length_append] at gl
  obtain ⟨a, b, c⟩ := led_hz (show L.length ≤ 18 by omega) A (led0 L) 0 (fun x hx => GG_mem h (by omega) (by rw [e]; exact List.mem_append_left _ hx)) z1 z2
  rw [Nat.zero_add] at b
  exact ⟨a, b, by omega⟩
/-- the sum of some weights -/
theorem sum_hz {n j : Nat} : ∀ (V : List Rat), (∀ q ∈ V, Hz n j q) → Dz (n * hF ^ j) (V.length * 2 ^ j) V.sum
  | [], _ => Dz.zero _ _
  | q :: V, h => by
    have := (h q (List.mem_cons_self ..)).d.add (sum_hz V fun x hx => h x (List.mem_cons_of_mem _ hx))
    rw [List.sum_cons, List.length_cons, Nat.succ_mul, Nat.add_comm]
    exact this
theorem sum_hz4 {n j : Nat} {V : List Rat} (h : ∀ q ∈ V, Hz n j q) (l : V.length ≤ 16) : Hz n (j + 4) V.sum := by
  refine ⟨((sum_hz V h).dvd ?_).mono ?_⟩
  · rw [Nat.pow_add, ← Nat.mul_assoc]
    exact Nat.dvd_mul_right ..
  · rw [Nat.pow_add, Nat.mul_comm]
    exact Nat.mul_le_mul_left _ l

/-! k21: the law's weights, walked -/
theorem lsum_is {V : List Rat} {n j : Nat} (hn : 0 < n) (hn2 : n ≤ 18) (hV : ∀ q ∈ V, Hz n j q) (l : V.length ≤ 16) (hj : j ≤ 20) : sem__law_sum [.dat (.list (V.map frQ))] = some (.ok (.dat (frQ V.sum)) [(some (R.dat (.list (V.map frQ))))]) := by
  obtain ⟨ρ', e, f2, rfl⟩ := forL_st (g := gnM 2) (body := fb1__law_sum) frQ (fun (A : List Rat) ρ => ∃ f2, ρ = [(some (R.dat (.list (V.map frQ)))), (some (R.dat (frQ A.sum))), f2]) (fun A q => A ++ [q]) [] V [(some (R.dat (.list (V.map frQ)))), (some (R.dat (.tuple [.int 0, .int 1]))), none] ⟨none, by rw [show ([] : List Rat).sum = 0 from rfl, frQ_0]⟩ (by
    rintro pre q post ρ hL ⟨f2, rfl⟩
    rw [foldl_snoc0]
    obtain ⟨hq, hpm⟩ := pre_mem hL
    have pl : pre.length ≤ 16 := by rw [hL, List.length_append] at l; omega
    have s1 := (hz_sz hn hn2 (sum_hz4 (fun x hx => hV x (hpm x hx)) pl).d (Nat.le_refl _)).mono (show 54 * (j + 4) + 6 ≤ 2000 by omega)
    have s2 := (hz_sz hn hn2 (hV q hq).d (Nat.le_refl _)).mono (show 54 * j + 6 ≤ 2000 by omega)
    have ad := laddq s1 s2 (by decide)
    refine ⟨[(some (R.dat (.list (V.map frQ)))), (some (R.dat (frQ (pre ++ [q]).sum))), (some (R.dat (frQ q)))], ?_, _, rfl⟩
    rw [show (pre ++ [q]).sum = pre.sum + q by rw [List.sum_append]; show _ + (q + 0) = _; rw [Rat.add_zero]]
    generalize frQ (pre.sum + q) = F1 at *
    generalize frQ pre.sum = F2 at *
    generalize frQ q = F3 at *
    generalize V.map frQ = VD at *
    unfold fb1__law_sum
    simp [ad])
  rw [foldl_snoc0] at e
  rw [run__law_sum]
  unfold m__law_sum
  generalize frQ V.sum = F1 at *
  generalize V.map frQ = VD at *
  simp [e, outs_1, pr__law_sum]
theorem dEq_2i (a b c d : Int) : dEq (.tuple [.int a, .int b]) (.tuple [.int c, .int d]) = some (.dat (.bool (decide (a = c) && decide (b = d)))) := by
  have h : ∀ x y : Int, Eqb 1 (.tuple [.int x, .int y]) := fun x y => Eqb.tuple (m := 0) (by simp [Eqb.int])
  rw [dEq_of (h a b) (h c d) (by decide) (by decide) (by intro i j h; cases h)]
  simp [PyData.eqv, PyData.eqvAll]
  all_goals rfl
abbrev zpD (p : Sp × Nat) : PyData := .tuple [.int (p.2 : Int), p.1.d]
theorem zip_at {L : List Sp} {p : Sp × Nat} (h : p ∈ L.zipIdx) : ∃ hg : p.2 < L.length, p.1 = L[p.2] := by
  obtain ⟨s, g⟩ := p
  obtain ⟨hg, e⟩ := List.getElem?_eq_some_iff.mp (List.mk_mem_zipIdx_iff_getElem?.mp h)
  exact ⟨hg, e.symm⟩
theorem here_is (s : Sp) (t : Int) : ∃ b, cutD [PyData.int s.b, .int s.u, .int s.k] (some 1) none = b ∧ dEq (.tuple b) (.tuple [.int t, .int 0]) = some (.dat (.bool (decide (s.u = t ∧ s.k = 0)))) := by
  refine ⟨[.int s.u, .int s.k], by rw [cut_from _ (by decide)]; rfl, ?_⟩
  rw [dEq_2i]
  congr 3
  rw [Bool.eq_iff_iff]
  simp
theorem zer_snoc (G : List Nat) (g : Nat) (W : List Rat) : zer (G ++ [g]) W = (zer G W).set g 0 := by
  unfold zer
  rw [List.foldl_append]
  rfl
theorem zeros_is {L : List Sp} (W : List Rat) (wl : W.length = L.length) (t : Int) (e3 e4 e5 e6 : Option R) : ∃ f5 f6, forL (gtM (gsC (gnM 5) (gsC (gnM 6) gs0))) fb1__law_due (L.zipIdx.map zpD) [(some (R.dat (.tuple (L.map Sp.d)))), (some (R.own (.list (W.map frQ)))), (some (R.dat (.int t))), e3, e4, e5, e6] = some (.nx [(some (R.dat (.tuple (L.map Sp.d)))), (some (R.own (.list ((zer (cAt L t) W).map frQ)))), (some (R.dat (.int t))), e3, e4, f5, f6]) := by
  obtain ⟨ρ', e, f5, f6, rfl⟩ := forL_st (g := gtM (gsC (gnM 5) (gsC (gnM 6) gs0))) (body := fb1__law_due) zpD (fun (A : List Nat) ρ => ∃ f5 f6, ρ = [(some (R.dat (.tuple (L.map Sp.d)))), (some (R.own (.list ((zer A W).map frQ)))), (some (R.dat (.int t))), e3, e4, f5, f6]) (fun A p => if decide (p.1.u = t ∧ p.1.k = 0) = true then A ++ [p.2] else A) [] L.zipIdx [(some (R.dat (.tuple (L.map Sp.d)))), (some (R.own (.list (W.map frQ)))), (some (R.dat (.int t))), e3, e4, e5, e6] ⟨e5, e6, rfl⟩ (by
    rintro pre p post ρ hL ⟨f5, f6, rfl⟩
    obtain ⟨hg, _⟩ := zip_at (L := L) (p := p) (by rw [hL]; simp)
    obtain ⟨s, g⟩ := p
    simp only at hg
    generalize pre.foldl (fun A p => if decide (p.1.u = t ∧ p.1.k = 0) = true then A ++ [p.2] else A) [] = A at *
    obtain ⟨b, ct, de⟩ := here_is s t
    have sw := set_w (zer A W) g 0
    have ixn := ixN_nat (n := ((zer A W).map frQ).length) (i := g) (by rw [List.length_map, zer_len, wl]; exact hg)
    refine ⟨[(some (R.dat (.tuple (L.map Sp.d)))), (some (R.own (.list ((zer (if decide (s.u = t ∧ s.k = 0) = true then A ++ [g] else A) W).map frQ)))), (some (R.dat (.int t))), e3, e4, (some (R.dat (.int (g : Int)))), (some (R.dat (s.d)))], ?_, _, _, rfl⟩
    rw [show zpD (s, g) = .tuple [.int (g : Int), .tuple [.int s.b, .int s.u, .int s.k]] from rfl, show s.d = .tuple [.int s.b, .int s.u, .int s.k] from rfl]
    by_cases c : s.u = t ∧ s.k = 0
    · rw [decide_eq_true c] at de
      rw [if_pos (decide_eq_true c), zer_snoc, ← sw, frQ_0]
      clear c
      generalize s.u = u at *
      generalize s.k = k at *
      generalize (zer A W).map frQ = WD at *
      generalize L.map Sp.d = LD at *
      unfold fb1__law_due
      simp [ct, de, ixn]
    · rw [decide_eq_false c] at de
      rw [if_neg (by rw [decide_eq_true_eq]; exact c)]
      clear c
      generalize s.u = u at *
      generalize s.k = k at *
      generalize (zer A W).map frQ = WD at *
      generalize L.map Sp.d = LD at *
      unfold fb1__law_due
      simp [ct, de])
  have key : ∀ (M : List (Sp × Nat)) (A : List Nat), M.foldl (fun A p => if decide (p.1.u = t ∧ p.1.k = 0) = true then A ++ [p.2] else A) A = A ++ (M.filter fun p => decide (p.1.u = t ∧ p.1.k = 0)).map Prod.snd := by
    intro M
    induction M with
    | nil => intro A; simp
    | cons p M ih =>
      intro A
      rw [List.foldl_cons, ih, List.filter_cons]
      by_cases c : decide (p.1.u = t ∧ p.1.k = 0) = true
      · rw [if_pos c, if_pos c, List.map_cons, List.append_assoc]; rfl
      · rw [if_neg c, if_neg c]
  rw [key, List.nil_append] at e
  exact ⟨f5, f6, e⟩
theorem gtake_turn {W : List Rat} {p G : Rat} {c j t : Nat} (ht : t < W.length) (hs : Sz j (W.getD t 0)) (hG : Sz j G) (hp : Sz j p) (ep : p = G * Rat.divInt 1 (c : Int)) (c0 : 0 < c) (c1 : c ≤ 12) (hj : j ≤ 2000) (S : List PyData) (hS : S.length = c) (e0 e2 e6 : Option R) :
    fb2__law_due [e0, (some (R.own (.list (W.map frQ)))), e2, (some (R.dat (.list S))), (some (R.dat (frQ G))), (some (R.dat (ixD t))), e6] = some (.nx [e0, (some (R.own (.list ((add1 p W t).map frQ)))), e2, (some (R.dat (.list S))), (some (R.dat (frQ G))), (some (R.dat (ixD t))), e6]) := by
  have ix := ix_w ht
  have pr := ltimesqR hG.r (c := 1) (d := (c : Int)) (k := 5) ⟨by decide, by omega, by omega⟩ (by omega)
  rw [Rat.num_divInt_den] at pr
  rw [show PyData.tuple [.int G.num, .int (G.den : Int)] = frQ G from rfl, ← ep] at pr
  have sm := laddq hs hp (by omega)
  have st := set_w W t (W.getD t 0 + p)
  have ixn := ixN_nat (n := (W.map frQ).length) (i := t) (by rw [List.length_map]; exact ht)
  have lS : ((S.length : Nat) : Int) = (c : Int) := by rw [hS]
  rw [show add1 p W t = W.set t (W.getD t 0 + p) from rfl, ← st]
  generalize frQ (W.getD t 0 + p) = V1 at *
  generalize frQ (W.getD t 0) = V2 at *
  generalize frQ p = V3 at *
  generalize frQ G = V4 at *
  generalize W.map frQ = WD at *
  unfold fb2__law_due
  simp [ix, lS, pr, sm, ixn, -List.length_map]
theorem gadd_loop {W : List Rat} {G p : Rat} {j : Nat} {S : List Nat} (hS : ∀ t ∈ S, t < W.length) (nd : S.Nodup) (hW : ∀ q ∈ W, Sz j q) (hG : Sz j G) (hp : Sz j p) (ep : p = G * Rat.divInt 1 (S.length : Int)) (c1 : S.length ≤ 12) (hj : j ≤ 2000) (e0 e2 e5 e6 : Option R) :
    ∃ f5, forL (gnM 5) fb2__law_due (S.map ixD) [e0, (some (R.own (.list (W.map frQ)))), e2, (some (R.dat (.list (S.map ixD)))), (some (R.dat (frQ G))), e5, e6] = some (.nx [e0, (some (R.own (.list ((S.foldl (add1 p) W).map frQ)))), e2, (some (R.dat (.list (S.map ixD)))), (some (R.dat (frQ G))), f5, e6]) := by
  obtain ⟨ρ', e, f5, rfl⟩ := forL_st (g := gnM 5) (body := fb2__law_due) ixD (fun (A : List Nat) ρ => ∃ f5, ρ = [e0, (some (R.own (.list ((A.foldl (add1 p) W).map frQ)))), e2, (some (R.dat (.list (S.map ixD)))), (some (R.dat (frQ G))), f5, e6]) (fun A t => A ++ [t]) [] S [e0, (some (R.own (.list (W.map frQ)))), e2, (some (R.dat (.list (S.map ixD)))), (some (R.dat (frQ G))), e5, e6] ⟨e5, rfl⟩ (by
    rintro pre t post ρ hL ⟨f5, rfl⟩
    rw [foldl_snoc0]
    have tm : t ∈ S := by rw [hL]; simp
    have sl : 0 < S.length := List.length_pos_of_mem tm
    have nd' := nd
    rw [hL] at nd'
    rw [List.nodup_append] at nd'
    have tn : t ∉ pre := fun z => nd'.2.2 t z t (List.mem_cons_self ..) rfl
    have gp : (pre.foldl (add1 p) W).getD t 0 = W.getD t 0 := by
      rw [adds_get _ _ _ _ nd'.1 (fun x hx => hS x (by rw [hL]; exact List.mem_append_left _ hx)), if_neg tn]
    have tt := gtake_turn (W := pre.foldl (add1 p) W) (p := p) (G := G) (c := S.length) (j := j) (t := t) (by rw [adds_len]; exact hS t tm) (by rw [gp]; exact hW _ (getD_mem (hS t tm))) hG hp ep sl c1 hj (S.map ixD) (List.length_map _) e0 e2 e6
    refine ⟨_, tt, (some (R.dat (ixD t))), ?_⟩
    rw [List.foldl_append]; rfl)
  rw [foldl_snoc0] at e
  exact ⟨f5, e⟩

/-! k21: one time; all times -/
theorem time_turn {L : List Sp} (h : ∀ s ∈ L, s.Ok) (h1 : 1 ≤ L.length) (h12 : L.length ≤ 12) {A0 Z : List Nat} {t : Int} (e : GG L = A0 ++ (gAt L t ++ Z)) (e3 e4 e5 e6 : Option R) :
    ∃ f3 f4 f5 f6, fb3__law_due [(some (R.dat (.tuple (L.map Sp.d)))), (some (R.own (.list ((stL L A0).1.map frQ)))), (some (R.dat (.int t))), e3, e4, e5, e6] = some (.nx [(some (R.dat (.tuple (L.map Sp.d)))), (some (R.own (.list ((stL L (A0 ++ gAt L t)).1.map frQ)))), (some (R.dat (.int t))), f3, f4, f5, f6]) := by
  obtain ⟨wl, wz, al⟩ := pre_led h h1 h12 e
  have en : (stL L (A0 ++ gAt L t)).1 = ((gAt L t).foldl (ledS L) (stL L A0)).1 := by unfold stL; rw [List.foldl_append]
  have gr := fun ht => grp_is (L := L) (t := t) ht wl
  rw [en]
  generalize (stL L A0) = w at *
  have n1 : 0 < L.length := by omega
  have cl : (cAt L t).length ≤ L.length := by
    unfold cAt
    rw [List.length_map]
    exact Nat.le_trans (List.length_filter_le ..) (by rw [List.length_zipIdx]; exact Nat.le_refl _)
  -- the takers
  have hl := lcL_fm (g := gtM (gsC (gnM 5) (gsC (gnM 6) gs0))) (vs := [5, 6]) (c := cc2__law_due) (f := ce3__law_due) (ρ := [(some (R.dat (.tuple (L.map Sp.d)))), (some (R.own (.list (w.1.map frQ)))), (some (R.dat (.int t))), e3, e4, none, none]) zpD (fun p => if decide (t < p.1.u) = true then some (ixD p.2) else none) L.zipIdx (by rw [List.length_zipIdx]; show _ ≤ 100000; omega) (by
    rintro ⟨s, i⟩ hp
    generalize L.map Sp.d = LD at *
    generalize w.1.map frQ = WD at *
    by_cases c : t < s.u <;> simp [ev, cc2__law_due, ce3__law_due, Sp.d, atI_nn, c])
  rw [fm_zip (fun p => decide (t < p.1.u)) (fun p => ixD p.2), show ((L.zipIdx.filter fun p => decide (t < p.1.u)).map fun p => ixD p.2) = (tkZ L t).map ixD by unfold tkZ; rw [List.map_map]; rfl] at hl
  -- what is given
  have hg := lcL_fm (g := gtM (gsC (gnM 5) (gsC (gnM 6) gs0))) (vs := [5, 6]) (c := cc3__law_due) (f := ce4__law_due) (ρ := [(some (R.dat (.tuple (L.map Sp.d)))), (some (R.own (.list (w.1.map frQ)))), (some (R.dat (.int t))), (some (R.own (.list ((tkZ L t).map ixD)))), e4, none, none]) zpD (fun p => if decide (p.1.u = t ∧ p.1.k = 0) = true then some (frQ (w.1.getD p.2 0)) else none) L.zipIdx (by rw [List.length_zipIdx]; show _ ≤ 100000; omega) (by
    intro p hp
    obtain ⟨hi, _⟩ := zip_at hp
    obtain ⟨s, i⟩ := p
    simp only at hi
    obtain ⟨b, ct, de⟩ := here_is s t
    have ix := ix_w (W := w.1) (i := i) (by rw [wl]; exact hi)
    rw [show zpD (s, i) = .tuple [.int (i : Int), .tuple [.int s.b, .int s.u, .int s.k]] from rfl]
    simp only
    by_cases c : s.u = t ∧ s.k = 0
    · rw [decide_eq_true c] at de
      rw [if_pos (decide_eq_true c)]
      clear c
      generalize s.u = u at *
      generalize s.k = k at *
      generalize frQ (w.1.getD i 0) = V at *
      generalize w.1.map frQ = WD at *
      generalize (tkZ L t).map ixD = TD at *
      generalize L.map Sp.d = LD at *
      simp [ev, cc3__law_due, ce4__law_due, ct, de, ix]
    · rw [decide_eq_false c] at de
      rw [if_neg (by rw [decide_eq_true_eq]; exact c)]
      clear c
      generalize s.u = u at *
      generalize s.k = k at *
      generalize w.1.map frQ = WD at *
      generalize (tkZ L t).map ixD = TD at *
      generalize L.map Sp.d = LD at *
      simp [ev, cc3__law_due, ce4__law_due, ct, de])
  rw [fm_zip (fun p => decide (p.1.u = t ∧ p.1.k = 0)) (fun p => frQ (w.1.getD p.2 0)), show ((L.zipIdx.filter fun p => decide (p.1.u = t ∧ p.1.k = 0)).map fun p => frQ (w.1.getD p.2 0)) = ((cAt L t).map fun g => w.1.getD g 0).map frQ by unfold cAt; rw [List.map_map, List.map_map]; rfl] at hg
  have gz : ∀ q ∈ (cAt L t).map (fun g => w.1.getD g 0), Hz L.length A0.length q := by
    intro q hq
    obtain ⟨g, hg, rfl⟩ := List.mem_map.mp hq
    obtain ⟨s, hs, _⟩ := mem_cAt.mp hg
    exact wz _ (getD_mem (by rw [wl]; exact (List.getElem?_eq_some_iff.mp hs).1))
  have su := lsum_is n1 (by omega) gz (by rw [List.length_map]; omega) (by omega)
  rw [show L.zipIdx.map zpD = enumL (L.map Sp.d) from (en_zip L).symm] at hl hg
  have ne := dNe_nil (ds := (tkZ L t).map ixD) (m := 0) (by
    intro d hd
    obtain ⟨x, _, rfl⟩ := List.mem_map.mp hd
    exact Eqb.int _) (by decide)
  rw [List.isEmpty_map] at ne
  by_cases ht : tkZ L t = []
  · rw [gAt_nil ht, List.foldl_nil]
    rw [show (tkZ L t).isEmpty = true by rw [ht]; rfl] at ne
    refine ⟨(some (R.own (.list ((tkZ L t).map ixD)))), (some (R.dat (frQ ((cAt L t).map fun g => w.1.getD g 0).sum))), none, none, ?_⟩
    generalize frQ ((cAt L t).map fun g => w.1.getD g 0).sum = G at *
    generalize ((cAt L t).map fun g => w.1.getD g 0).map frQ = GD at *
    generalize w.1.map frQ = WD at *
    generalize (tkZ L t).map ixD = TD at *
    generalize L.map Sp.d = LD at *
    unfold fb3__law_due
    simp [hl, hg, su, ne]
  · rw [gr ht]
    unfold grS
    rw [show (tkZ L t).isEmpty = false from List.isEmpty_eq_false_iff.mpr ht] at ne
    have c0 : 0 < (tkZ L t).length := List.length_pos_iff.mpr ht
    have c1 := tkZ_len L t
    have g4 := sum_hz4 gz (by rw [List.length_map]; omega)
    have sG := (hz_sz n1 (by omega) g4.d (Nat.le_refl _)).mono (show 54 * (A0.length + 4) + 6 ≤ 2000 by omega)
    have pd := g4.part c0 (show (tkZ L t).length ≤ 18 by omega)
    have sp := (hz_sz n1 (by omega) pd (by omega)).mono (show 54 * (A0.length + 4 + 1) + 6 ≤ 2000 by omega)
    have sW : ∀ q ∈ zer (cAt L t) w.1, Sz 2000 q := by
      intro q hq
      obtain ⟨i, hi, rfl⟩ := mem_getD hq
      rw [zer_get]
      split
      · exact (hz_sz n1 (by omega) (Hz.zero L.length 0).d (Nat.le_refl _)).mono (by decide)
      · rw [zer_len] at hi
        exact (hz_sz n1 (by omega) (wz _ (getD_mem hi)).d (Nat.le_refl _)).mono (show 54 * A0.length + 6 ≤ 2000 by omega)
    obtain ⟨f5, f6, zi⟩ := zeros_is (L := L) w.1 wl t (some (R.own (.list ((tkZ L t).map ixD)))) (some (R.dat (frQ ((cAt L t).map fun g => w.1.getD g 0).sum))) none none
    obtain ⟨f5', lp⟩ := gadd_loop (W := zer (cAt L t) w.1) (G := ((cAt L t).map fun g => w.1.getD g 0).sum) (S := tkZ L t) (fun x hx => by rw [zer_len, wl]; exact tkZ_lt hx) (tkZ_nd ..) sW sG sp rfl (by omega) (by decide) (some (R.dat (.tuple (L.map Sp.d)))) (some (R.dat (.int t))) f5 f6
    rw [show L.zipIdx.map zpD = enumL (L.map Sp.d) from (en_zip L).symm] at zi
    refine ⟨(some (R.dat (.list ((tkZ L t).map ixD)))), (some (R.dat (frQ ((cAt L t).map fun g => w.1.getD g 0).sum))), f5', f6, ?_⟩
    generalize ((tkZ L t).foldl (add1 (((cAt L t).map fun g => w.1.getD g 0).sum * Rat.divInt 1 ((tkZ L t).length : Int))) (zer (cAt L t) w.1)).map frQ = WF at *
    generalize (zer (cAt L t) w.1).map frQ = WZ at *
    generalize frQ ((cAt L t).map fun g => w.1.getD g 0).sum = G at *
    generalize ((cAt L t).map fun g => w.1.getD g 0).map frQ = GD at *
    generalize w.1.map frQ = WD at *
    generalize (tkZ L t).map ixD = TD at *
    generalize L.map Sp.d = LD at *
    unfold fb3__law_due
    simp [hl, hg, su, ne, zi, lp]
theorem step_app (L : List Sp) : ∀ (M : List Int) (A : List Nat), M.foldl (fun A t => A ++ gAt L t) A = A ++ M.flatMap (gAt L)
  | [], A => by simp
  | t :: M, A => by rw [List.foldl_cons, step_app L M, List.flatMap_cons, List.append_assoc]
theorem lawdue_is {L : List Sp} (h : ∀ s ∈ L, s.Ok) (h1 : 1 ≤ L.length) (h12 : L.length ≤ 12) : sem__law_due [.dat (.tuple (L.map Sp.d))] = some (.ok (.own (.list ((ledQ L).1.map frQ))) [(some (R.dat (.tuple (L.map Sp.d))))]) := by
  have pu := lputq (t := 1) (b := (L.length : Int)) (by omega) (lt8000 (by omega))
  have lL : (L.map Sp.d).length = L.length := List.length_map _
  have la := lcL_mp (g := gnM 6) (vs := [6]) (c := yesT) (f := ce1__law_due) (ρ := [(some (R.dat (.tuple (L.map Sp.d)))), none, none, none, none, none, none]) Sp.d (fun _ => frQ (Rat.divInt 1 (L.length : Int))) L (by show _ ≤ 100000; omega) (by
    intro s hs
    generalize frQ (Rat.divInt 1 (L.length : Int)) = V at *
    generalize L.map Sp.d = LD at *
    simp [ev, ce1__law_due, lL, pu])
  have e0 : (L.map fun _ => frQ (Rat.divInt 1 (L.length : Int))) = (stL L []).1.map frQ := by unfold stL led0; rw [List.foldl_nil, List.map_map]; rfl
  rw [e0] at la
  have lu := lcL_fm (g := gnM 6) (vs := [6]) (c := cc1__law_due) (f := ce2__law_due) (ρ := [(some (R.dat (.tuple (L.map Sp.d)))), (some (R.own (.list ((stL L []).1.map frQ)))), none, none, none, none, none]) Sp.d (fun s => if decide (s.k = 0) = true then some (.int s.u) else none) L (by show _ ≤ 100000; omega) (by
    intro s hs
    generalize L.map Sp.d = LD at *
    generalize (stL L []).1.map frQ = WD at *
    by_cases c : s.k = 0 <;> simp [ev, cc1__law_due, ce2__law_due, Sp.d, atI_nn, c])
  have eu : (L.filterMap fun s => if decide (s.k = 0) = true then some (PyData.int s.u) else none) = (utk L).map .int := by
    unfold utk
    generalize L = M
    induction M with
    | nil => rfl
    | cons s M ih =>
      rw [List.filterMap_cons, List.filter_cons, ih]
      by_cases c : decide (s.k = 0) = true
      · rw [if_pos c, if_pos c]; rfl
      · rw [if_neg c, if_neg c]
  rw [eu] at lu
  have ul : (utk L).length ≤ L.length := by
    unfold utk
    rw [List.length_map]
    exact List.length_filter_le ..
  have ol := onceL_len (utk L) []
  rw [List.length_nil] at ol
  have sd : setD (.list ((utk L).map .int)) = some (.st (onceL (utk L) [])) := by rw [setD_l, if_pos (by omega)]
  have sr : ∀ ρ, srtR (.st (onceL (utk L) [])) ρ = some (.ok (.own (.list ((TS L).map .int))) ρ) := fun ρ => by rw [srtR_e, if_pos (by omega)]; rfl
  obtain ⟨ρ', e, g2, g3, g4, g5, g6, rfl⟩ := forL_st (g := gnM 2) (body := fb3__law_due) PyData.int (fun (A : List Nat) ρ => ∃ g2 g3 g4 g5 g6, ρ = [(some (R.dat (.tuple (L.map Sp.d)))), (some (R.own (.list ((stL L A).1.map frQ)))), g2, g3, g4, g5, g6]) (fun A t => A ++ gAt L t) [] (TS L) [(some (R.dat (.tuple (L.map Sp.d)))), (some (R.own (.list ((stL L []).1.map frQ)))), none, none, none, none, none] ⟨none, none, none, none, none, rfl⟩ (by
    rintro pre t post ρ hT ⟨g2, g3, g4, g5, g6, rfl⟩
    rw [step_app, List.nil_append]
    have eg : GG L = pre.flatMap (gAt L) ++ (gAt L t ++ post.flatMap (gAt L)) := by
      rw [← TS_GG h, hT, List.flatMap_append, List.flatMap_cons]
    obtain ⟨f3, f4, f5, f6, tt⟩ := time_turn h h1 h12 eg g3 g4 g5 g6
    exact ⟨_, tt, _, _, _, _, _, rfl⟩)
  rw [step_app, List.nil_append, TS_GG h, show (stL L (GG L)).1 = (ledQ L).1 by unfold stL ledQ; rw [gsL_GG h (by omega)]] at e
  rw [run__law_due]
  unfold m__law_due
  generalize (stL L []).1.map frQ = W0 at *
  generalize (ledQ L).1.map frQ = W1 at *
  generalize (TS L).map PyData.int = TD at *
  generalize onceL (utk L) [] = OL at *
  generalize (utk L).map PyData.int = UD at *
  generalize L.map Sp.d = LD at *
  simp [la, lu, sd, sr, e, outs_1, pr__law_due, -srtR_e, -setD_l]

theorem rp_sp {s : Sp} (h : s.Ok) : Rp 48 1 s.d := by
  obtain ⟨h1, h2, h3, h4, h5⟩ := h
  refine Rp.tuple (n := 13) (m := 0) (k := 3) ?_ (by simp)
  intro d hd
  simp only [List.mem_cons, List.not_mem_nil, or_false] at hd
  rcases hd with rfl | rfl | rfl
  · exact Rp.int (by omega)
  · exact Rp.int (by omega)
  · exact Rp.int (by omega)


/-! k21: the law -/
theorem led_hz1 {L : List Sp} (h1 : 1 ≤ L.length) (h18 : L.length ≤ 18) : (ledQ L).1.length = L.length ∧ ∀ q ∈ (ledQ L).1, Hz L.length (gsL L).length q := by
  obtain ⟨z1, z2⟩ := led0_hz h1
  obtain ⟨a, b, c⟩ := led_hz h18 (gsL L) (led0 L) 0 (fun x hx => mem_gsL hx) z1 z2
  rw [Nat.zero_add] at b
  exact ⟨a, b⟩
theorem wts_rp {L : List Sp} (h1 : 1 ≤ L.length) (h12 : L.length ≤ 12) : reprD (.list ((ledQ L).1.map frQ)) = some (.dat (.str (PyData.shown (.list ((ledQ L).1.map frQ))))) ∧ (ledQ L).1.length ≤ 12 := by
  have gl := gsL_len L
  obtain ⟨a, b⟩ := led_hz1 h1 (show L.length ≤ 18 by omega)
  refine ⟨(Rp.list (n := 1317) (m := 1) (k := 12) (fun d hd => ?_) (by rw [List.length_map]; omega)).reprD (by decide) (by decide), by omega⟩
  obtain ⟨q, hq, rfl⟩ := List.mem_map.mp hd
  have sz := (hz_sz (by omega) (by omega) (b q hq).d (Nat.le_refl _)).mono (show 54 * (gsL L).length + 6 ≤ 654 by omega)
  exact Rp.frQ sz (by decide) (by decide)
theorem weights_is {L : List Sp} (g : Good L) (h18 : L.length ≤ 18) : sem_weights [.dat (.tuple (L.map Sp.d))] = some (.ok (.own (.list ((ledQ L).1.map frQ))) [(some (R.dat (.tuple (L.map Sp.d))))]) := by
  have np := needplain_is g
  have lb := ledby_is (fun s hs => (g.p s hs).1) g.l1 h18
  rw [run_weights]
  unfold m_weights
  generalize (ledQ L).1.map frQ = W1 at *
  generalize (ledQ L).2.map pcD = P1 at *
  generalize L.map Sp.d = LD at *
  simp [np, lb, outs_1, pr_weights]
theorem some_turn {L : List Sp} (g : Good L) (h12 : L.length ≤ 12) (e0 e1 e2 e3 e4 e5 e7 e8 e9 e10 e11 e12 : Option R) : ∃ f7 f8 f9, fb1_law [e0, e1, e2, e3, e4, e5, (some (R.dat (.tuple (L.map Sp.d)))), e7, e8, e9, e10, e11, e12] = some (.nx [e0, e1, e2, e3, e4, e5, (some (R.dat (.tuple (L.map Sp.d)))), f7, f8, f9, e10, e11, e12]) := by
  have hk := fun s hs => (g.p s hs).1
  have wt := weights_is g (show L.length ≤ 18 by omega)
  have ld := lawdue_is hk g.l1 h12
  obtain ⟨rp, pl⟩ := wts_rp g.l1 h12
  have rb := (Rp.tuple (n := 48) (m := 1) (k := 12) (ds := L.map Sp.d) (fun d hd => by
    obtain ⟨s, hs, rfl⟩ := List.mem_map.mp hd
    exact rp_sp (hk s hs)) (by rw [List.length_map]; exact h12)).reprD (by decide) (by decide)
  have pl' : ((ledQ L).1.map frQ).length < 100000 := by rw [List.length_map]; omega
  generalize PyData.shown (.list ((ledQ L).1.map frQ)) = S1 at *
  generalize PyData.shown (.tuple (L.map Sp.d)) = S2 at *
  generalize (ledQ L).1.map frQ = P1 at *
  generalize L.map Sp.d = LD at *
  refine ⟨(some (R.own (.list (P1 ++ [.none])))), (some (R.dat (.str S2))), (some (R.own (.list P1))), ?_⟩
  unfold fb1_law
  simp [rb, ld, wt, rp, pl']
theorem law_turn {ns : List Int} (k : Nat) (es : Rho) (h : ∃ e2 e3 e4 e5 e6 e7 e8 e9, es = [e2, e3, e4, e5, e6, e7, e8, e9, none, none, none]) : ∃ e1 es', fb2_law ((some (R.dat (.list (ns.map .int)))) :: (some (R.dat (.int k))) :: es) = some (.nx ((some (R.dat (.list (ns.map .int)))) :: e1 :: es')) ∧ ∃ e2 e3 e4 e5 e6 e7 e8 e9, es' = [e2, e3, e4, e5, e6, e7, e8, e9, none, none, none] := by
  obtain ⟨e2, e3, e4, e5, e6, e7, e8, e9, rfl⟩ := h
  obtain ⟨cell, c1⟩ := cell_is ns (k := (k : Int)) (by omega)
  obtain ⟨p, c2, o2⟩ := pot_is cell
  obtain ⟨L, p1, c3, hL, l1, l2, o3⟩ := pbook_is o2 (most := 12) (late := 0) (by omega) (by omega) (.inl rfl)
  have g1 : Good L := ⟨fun s hs => ⟨(hL s hs).1, (hL s hs).2 rfl⟩, l1, by omega⟩
  have g2 : Good (L.map fun s => (⟨0, s.u, 0⟩ : Sp)) := ⟨fun s hs => by
    obtain ⟨t, ht, rfl⟩ := List.mem_map.mp hs
    obtain ⟨⟨q1, q2, q3, q4, q5⟩, q6⟩ := hL t ht
    exact ⟨⟨by show (0 : Int) ≤ 0; decide, by show 0 < t.u; omega, q3, by show (0 : Int) ≤ 0; decide, by show (0 : Int) ≤ 4; decide⟩, rfl⟩, by simpa using l1, by simp; omega⟩
  have g3 : Good (L.map fun s => (⟨0, s.u, if 1 < s.k then s.k else 1⟩ : Sp)) := ⟨fun s hs => by
    obtain ⟨t, ht, rfl⟩ := List.mem_map.mp hs
    obtain ⟨⟨q1, q2, q3, q4, q5⟩, q6⟩ := hL t ht
    exact ⟨⟨by show (0 : Int) ≤ 0; decide, by show 0 < t.u; omega, q3, by show (0 : Int) ≤ (if 1 < t.k then t.k else 1); split <;> omega, by show (if 1 < t.k then t.k else 1) ≤ 4; split <;> omega⟩, rfl⟩, by simpa using l1, by simp; omega⟩
  have hl := lcL_mp (g := gtM (gsC (gnM 10) (gsC (gnM 11) (gsC (gnM 12) gs0)))) (vs := [10, 11, 12]) (c := yesT) (f := ce1_law) (ρ := [(some (R.dat (.list (ns.map .int)))), (some (R.dat (.int k))), (some (R.own (p1))), (some (R.dat (.tuple (L.map Sp.d)))), e4, e5, e6, e7, e8, e9, none, none, none]) Sp.d (fun s => (⟨0, s.u, 0⟩ : Sp).d) L (by show _ ≤ 100000; omega) (by
    intro s hs
    simp [ev, ce1_law, Sp.d])
  rw [show (L.map fun s => (⟨0, s.u, 0⟩ : Sp).d) = (L.map fun s => (⟨0, s.u, 0⟩ : Sp)).map Sp.d by rw [List.map_map]; rfl] at hl
  have hl2 := lcL_mp (g := gtM (gsC (gnM 10) (gsC (gnM 11) (gsC (gnM 12) gs0)))) (vs := [10, 11, 12]) (c := yesT) (f := ce2_law) (ρ := [(some (R.dat (.list (ns.map .int)))), (some (R.dat (.int k))), (some (R.own (p1))), (some (R.dat (.tuple (L.map Sp.d)))), (some (R.dat (.tuple ((L.map fun s => (⟨0, s.u, 0⟩ : Sp)).map Sp.d)))), e5, e6, e7, e8, e9, none, none, none]) Sp.d (fun s => (⟨0, s.u, if 1 < s.k then s.k else 1⟩ : Sp).d) L (by show _ ≤ 100000; omega) (by
    intro s hs
    generalize (L.map fun s => (⟨0, s.u, 0⟩ : Sp)).map Sp.d = LB
    simp [ev, ce2_law, Sp.d])
  rw [show (L.map fun s => (⟨0, s.u, if 1 < s.k then s.k else 1⟩ : Sp).d) = (L.map fun s => (⟨0, s.u, if 1 < s.k then s.k else 1⟩ : Sp)).map Sp.d by rw [List.map_map]; rfl] at hl2
  have s1 := fun e0 e1 e2 e3 e4 e5 e7 e8 e9 e10 e11 e12 => some_turn g1 (by omega) e0 e1 e2 e3 e4 e5 e7 e8 e9 e10 e11 e12
  have s2 := fun e0 e1 e2 e3 e4 e5 e7 e8 e9 e10 e11 e12 => some_turn g2 (by rw [List.length_map]; omega) e0 e1 e2 e3 e4 e5 e7 e8 e9 e10 e11 e12
  have s3 := fun e0 e1 e2 e3 e4 e5 e7 e8 e9 e10 e11 e12 => some_turn g3 (by rw [List.length_map]; omega) e0 e1 e2 e3 e4 e5 e7 e8 e9 e10 e11 e12
  clear g1 g2 g3
  generalize ((L.map fun s => (⟨0, s.u, if 1 < s.k then s.k else 1⟩ : Sp)).map Sp.d) = LF at *
  generalize ((L.map fun s => (⟨0, s.u, 0⟩ : Sp)).map Sp.d) = LB at *
  generalize L.map Sp.d = LD at *
  obtain ⟨a6, a7, a8, t1⟩ := s1 (some (R.dat (.list (ns.map .int)))) (some (R.dat (.int k))) (some (R.own (p1))) (some (R.dat (.tuple LD))) (some (R.dat (.tuple LB))) (some (R.dat (.tuple LF))) e7 e8 e9 none none none
  obtain ⟨b6, b7, b8, t2⟩ := s2 (some (R.dat (.list (ns.map .int)))) (some (R.dat (.int k))) (some (R.own (p1))) (some (R.dat (.tuple LD))) (some (R.dat (.tuple LB))) (some (R.dat (.tuple LF))) a6 a7 a8 none none none
  obtain ⟨d6, d7, d8, t3⟩ := s3 (some (R.dat (.list (ns.map .int)))) (some (R.dat (.int k))) (some (R.own (p1))) (some (R.dat (.tuple LD))) (some (R.dat (.tuple LB))) (some (R.dat (.tuple LF))) b6 b7 b8 none none none
  refine ⟨(some (R.dat (.int k))), [(some (R.own (p1))), (some (R.dat (.tuple LD))), (some (R.dat (.tuple LB))), (some (R.dat (.tuple LF))), (some (R.dat (.tuple LF))), d6, d7, d8, none, none, none], ?_, _, _, _, _, _, _, _, _, rfl⟩
  unfold fb2_law
  simp [c1, c2, c3, hl, hl2, forL, t1, t2, t3]
theorem law_true : ∀ ns : List Int, ns.length ≤ 63 → ∃ os, sem_law [.dat (.list (ns.map .int))] = some (.ok (.dat (.bool true)) os) := by
  intro ns hn
  obtain ⟨m, hm⟩ := turns_is (ns := ns) (c := 5) (by omega)
  obtain ⟨e1, es, e, _⟩ := loopK (body := fb2_law) (ns := ns) _ (fun k es h => law_turn k es h) m none [none, none, none, none, none, none, none, none, none, none, none] ⟨_, _, _, _, _, _, _, _, rfl⟩
  refine ⟨outs 1 pr_law ((some (R.dat (.list (ns.map .int)))) :: e1 :: es), ?_⟩
  rw [run_law]
  unfold m_law
  simp [hm, e]

end Lw

namespace Lw
open PySem L2 DL
def topS (i : Nat) : Stmt := PySem.Challenge.pw_outlasts_k21_what_spans_weigh.main.body.getD i (.Pass ⟨0, 0, 0, 0⟩)
abbrev st__law_pot : Stmt := topS 28
abbrev N__law_pot : List Str := ["_law_cell", "_law_number", "_law_j", "_law_more"]
theorem sc__law_pot : FnScope N__law_pot ["_law_cell"] (defScope st__law_pot) := ⟨rfl, rfl, rfl, by decide +kernel, rfl, by decide +kernel, by decide +kernel⟩
abbrev st__law_take : Stmt := topS 29
abbrev N__law_take : List Str := ["_law_pot_here", "_law_far", "_law_found"]
theorem sc__law_take : FnScope N__law_take ["_law_pot_here", "_law_far"] (defScope st__law_take) := ⟨rfl, rfl, rfl, by decide +kernel, rfl, by decide +kernel, by decide +kernel⟩
abbrev st__law_span : Stmt := topS 35
abbrev N__law_span : List Str := ["_law_pot_here", "_law_late", "_law_begin", "_law_more", "_law_until"]
theorem sc__law_span : FnScope N__law_span ["_law_pot_here", "_law_late"] (defScope st__law_span) := ⟨rfl, rfl, rfl, by decide +kernel, rfl, by decide +kernel, by decide +kernel⟩
abbrev st__law_book : Stmt := topS 36
abbrev N__law_book : List Str := ["_law_pot_here", "_law_most", "_law_late", "_law_found", "_law_turn"]
theorem sc__law_book : FnScope N__law_book ["_law_pot_here", "_law_most", "_law_late"] (defScope st__law_book) := ⟨rfl, rfl, rfl, by decide +kernel, rfl, by decide +kernel, by decide +kernel⟩
abbrev st__law_cell_at : Stmt := topS 27
abbrev N__law_cell_at : List Str := ["_law_script", "_law_k"]
theorem sc__law_cell_at : FnScope N__law_cell_at ["_law_script", "_law_k"] (defScope st__law_cell_at) := ⟨rfl, rfl, rfl, by decide +kernel, rfl, by decide +kernel, by decide +kernel⟩
abbrev st_is_whole : Stmt := topS 6
abbrev N_is_whole : List Str := ["thing"]
theorem sc_is_whole : FnScope N_is_whole ["thing"] (defScope st_is_whole) := ⟨rfl, rfl, rfl, by decide +kernel, rfl, by decide +kernel, by decide +kernel⟩
abbrev st_is_from_to : Stmt := topS 7
abbrev N_is_from_to : List Str := ["thing", "low", "high"]
theorem sc_is_from_to : FnScope N_is_from_to ["thing", "low", "high"] (defScope st_is_from_to) := ⟨rfl, rfl, rfl, by decide +kernel, rfl, by decide +kernel, by decide +kernel⟩
abbrev st_is_lasting : Stmt := topS 16
abbrev N_is_lasting : List Str := ["thing", "most"]
theorem sc_is_lasting : FnScope N_is_lasting ["thing", "most"] (defScope st_is_lasting) := ⟨rfl, rfl, rfl, by decide +kernel, rfl, by decide +kernel, by decide +kernel⟩
abbrev st_is_span : Stmt := topS 17
abbrev N_is_span : List Str := ["thing"]
theorem sc_is_span : FnScope N_is_span ["thing"] (defScope st_is_span) := ⟨rfl, rfl, rfl, by decide +kernel, rfl, by decide +kernel, by decide +kernel⟩
abbrev st_is_book : Stmt := topS 18
abbrev N_is_book : List Str := ["thing", "one"]
theorem sc_is_book : FnScope N_is_book ["thing"] (defScope st_is_book) := ⟨rfl, rfl, rfl, by decide +kernel, rfl, by decide +kernel, by decide +kernel⟩
abbrev st_need_book : Stmt := topS 19
abbrev N_need_book : List Str := ["thing"]
theorem sc_need_book : FnScope N_need_book ["thing"] (defScope st_need_book) := ⟨rfl, rfl, rfl, by decide +kernel, rfl, by decide +kernel, by decide +kernel⟩
abbrev st_need_plain : Stmt := topS 20
abbrev N_need_plain : List Str := ["thing", "begin", "until", "end"]
theorem sc_need_plain : FnScope N_need_plain ["thing"] (defScope st_need_plain) := ⟨rfl, rfl, rfl, by decide +kernel, rfl, by decide +kernel, by decide +kernel⟩
abbrev st_takers_of : Stmt := topS 22
abbrev N_takers_of : List Str := ["book", "giver", "at", "begin", "until", "end"]
theorem sc_takers_of : FnScope N_takers_of ["book", "giver"] (defScope st_takers_of) := ⟨rfl, rfl, rfl, by decide +kernel, rfl, by decide +kernel, by decide +kernel⟩
abbrev st_givers_of : Stmt := topS 23
abbrev N_givers_of : List Str := ["book", "some", "at", "begin", "until", "end"]
theorem sc_givers_of : FnScope N_givers_of ["book"] (defScope st_givers_of) := ⟨rfl, rfl, rfl, by decide +kernel, rfl, by decide +kernel, by decide +kernel⟩
abbrev st_common : Stmt := topS 8
abbrev N_common : List Str := ["one", "other"]
theorem sc_common : FnScope N_common ["one", "other"] (defScope st_common) := ⟨rfl, rfl, rfl, by decide +kernel, rfl, by decide +kernel, by decide +kernel⟩
abbrev st_put : Stmt := topS 9
abbrev N_put : List Str := ["top", "bottom", "divisor"]
theorem sc_put : FnScope N_put ["top", "bottom"] (defScope st_put) := ⟨rfl, rfl, rfl, by decide +kernel, rfl, by decide +kernel, by decide +kernel⟩
abbrev st_product : Stmt := topS 11
abbrev N_product : List Str := ["one", "other"]
theorem sc_product : FnScope N_product ["one", "other"] (defScope st_product) := ⟨rfl, rfl, rfl, by decide +kernel, rfl, by decide +kernel, by decide +kernel⟩
abbrev st_sum_of : Stmt := topS 10
abbrev N_sum_of : List Str := ["one", "other"]
theorem sc_sum_of : FnScope N_sum_of ["one", "other"] (defScope st_sum_of) := ⟨rfl, rfl, rfl, by decide +kernel, rfl, by decide +kernel, by decide +kernel⟩
abbrev st_led_by : Stmt := topS 24
abbrev N_led_by : List Str := ["book", "giver", "weighed", "found", "some", "part", "taker", "one"]
theorem sc_led_by : FnScope N_led_by ["book"] (defScope st_led_by) := ⟨rfl, rfl, rfl, by decide +kernel, rfl, by decide +kernel, by decide +kernel⟩
abbrev st_weights : Stmt := topS 25
abbrev N_weights : List Str := ["book"]
theorem sc_weights : FnScope N_weights ["book"] (defScope st_weights) := ⟨rfl, rfl, rfl, by decide +kernel, rfl, by decide +kernel, by decide +kernel⟩
abbrev st__law_common : Stmt := topS 30
abbrev N__law_common : List Str := ["_law_one", "_law_other"]
theorem sc__law_common : FnScope N__law_common ["_law_one", "_law_other"] (defScope st__law_common) := ⟨rfl, rfl, rfl, by decide +kernel, rfl, by decide +kernel, by decide +kernel⟩
abbrev st__law_put : Stmt := topS 31
abbrev N__law_put : List Str := ["_law_top", "_law_bottom", "_law_by"]
theorem sc__law_put : FnScope N__law_put ["_law_top", "_law_bottom"] (defScope st__law_put) := ⟨rfl, rfl, rfl, by decide +kernel, rfl, by decide +kernel, by decide +kernel⟩
abbrev st__law_add : Stmt := topS 32
abbrev N__law_add : List Str := ["_law_one", "_law_other"]
theorem sc__law_add : FnScope N__law_add ["_law_one", "_law_other"] (defScope st__law_add) := ⟨rfl, rfl, rfl, by decide +kernel, rfl, by decide +kernel, by decide +kernel⟩
abbrev st__law_sum : Stmt := topS 34
abbrev N__law_sum : List Str := ["_law_some", "_law_found", "_law_one"]
theorem sc__law_sum : FnScope N__law_sum ["_law_some"] (defScope st__law_sum) := ⟨rfl, rfl, rfl, by decide +kernel, rfl, by decide +kernel, by decide +kernel⟩
abbrev st__law_times : Stmt := topS 33
abbrev N__law_times : List Str := ["_law_one", "_law_other"]
theorem sc__law_times : FnScope N__law_times ["_law_one", "_law_other"] (defScope st__law_times) := ⟨rfl, rfl, rfl, by decide +kernel, rfl, by decide +kernel, by decide +kernel⟩
abbrev st__law_due : Stmt := topS 37
abbrev N__law_due : List Str := ["_law_book_here", "_law_found", "_law_time", "_law_takers", "_law_given", "_law_at", "_law_span_here"]
theorem sc__law_due : FnScope N__law_due ["_law_book_here"] (defScope st__law_due) := ⟨rfl, rfl, rfl, by decide +kernel, rfl, by decide +kernel, by decide +kernel⟩
abbrev st_law : Stmt := topS 38
abbrev N_law : List Str := ["_law_script", "_law_k", "_law_pot_here", "_law_book_here", "_law_bare", "_law_full", "_law_some", "_law_told", "_law_kept", "_law_owed", "_law_begin", "_law_until", "_law_end"]
theorem sc_law : FnScope N_law ["_law_script"] (defScope st_law) := ⟨rfl, rfl, rfl, by decide +kernel, rfl, by decide +kernel, by decide +kernel⟩
structure Gv (mg : Str → Option Value) (T : Tb) : Prop where
  b_abs : mg "abs" = none
  b_all : mg "all" = none
  b_any : mg "any" = none
  b_bool : mg "bool" = none
  b_enumerate : mg "enumerate" = none
  b_int : mg "int" = none
  b_isinstance : mg "isinstance" = none
  b_len : mg "len" = none
  b_max : mg "max" = none
  b_min : mg "min" = none
  b_range : mg "range" = none
  b_repr : mg "repr" = none
  b_set : mg "set" = none
  b_sorted : mg "sorted" = none
  b_tuple : mg "tuple" = none
  KINDS : ∃ u v, mg "KINDS" = some u ∧ L2.RelV v u ∧ ∀ H F, DF T.K H F v k_KINDS
  MOST_AGE : ∃ u v, mg "MOST_AGE" = some u ∧ L2.RelV v u ∧ ∀ H F, DF T.K H F v k_MOST_AGE
  MOST_SPANS : ∃ u v, mg "MOST_SPANS" = some u ∧ L2.RelV v u ∧ ∀ H F, DF T.K H F v k_MOST_SPANS
  NOUGHT : ∃ u v, mg "NOUGHT" = some u ∧ L2.RelV v u ∧ ∀ H F, DF T.K H F v k_NOUGHT
  x_NoBook : ExE mg T "NoBook" 1
  x_NoPlain : ExE mg T "NoPlain" 2
theorem b__law_pot {X : Cx} {T : Tb} {W : WX} {H : Hp} (a : At X N__law_pot (defScope st__law_pot)) (hk : X.env.scope.kind = .function) (fn : ∀ x, X.fn x = true) (c : Cxt X T W 0) (g : Gv X.mg T) : SB X T W ⟨H, 1, pr__law_pot⟩ (defBody st__law_pot) m__law_pot := by
  unfold m__law_pot fb1__law_pot
  exact (ss_cons (ss_if (t_ge c (se_n a 0 (by decide +kernel)) (e_pow c se_int se_int)) (ss_one (ss_ret (se_lst (sd_cons (e_sub c (se_n a 0 (by decide +kernel)) (e_pow c se_int se_int)) sa_nil)))) ss_nil)
    (ss_cons (ss_a a c.nd fn 1 (by decide +kernel) rfl se_int)
    (ss_cons (ss_for c.po c.calm (e_rng1 a (by decide +kernel) g.b_range se_int) (sg_n a c.nd (.inl (fn _)) 2 (by decide +kernel) rfl) (ss_cons (ss_a a c.nd fn 3 (by decide +kernel) rfl (e_mod c (e_mul c (e_add c (e_add c (e_mod c (se_n a 0 (by decide +kernel)) se_int) (e_mul c se_int (se_n a 2 (by decide +kernel)))) se_int) se_int) se_int))
    (ss_cons (ss_a a c.nd fn 3 (by decide +kernel) rfl (e_mod c (e_add c (e_add c (e_mul c (se_n a 3 (by decide +kernel)) (se_n a 3 (by decide +kernel))) (e_mul c se_int (se_n a 2 (by decide +kernel)))) se_int) se_int))
    (ss_one (ss_a a c.nd fn 1 (by decide +kernel) rfl (e_add c (e_mul c (se_n a 1 (by decide +kernel)) se_int) (se_n a 3 (by decide +kernel))))))))
    (ss_one (ss_ret (se_lst (sd_cons (se_n a 1 (by decide +kernel)) sa_nil)))))))
theorem b__law_take {X : Cx} {T : Tb} {W : WX} {H : Hp} (a : At X N__law_take (defScope st__law_take)) (hk : X.env.scope.kind = .function) (fn : ∀ x, X.fn x = true) (c : Cxt X T W 0) (g : Gv X.mg T) : SB X T W ⟨H, 2, pr__law_take⟩ (defBody st__law_take) m__law_take := by
  unfold m__law_take
  exact (ss_cons (ss_a a c.nd fn 2 (by decide +kernel) rfl (e_mod c (e_ixA c (se_n a 0 (by decide +kernel)) se_int) (se_n a 1 (by decide +kernel))))
    (ss_cons (ss_set (e_fd c (e_ixA c (se_n a 0 (by decide +kernel)) se_int) (se_n a 1 (by decide +kernel))) (pg_sub (pe_n a 0 (by decide +kernel)) se_int set_list))
    (ss_one (ss_ret (se_n a 2 (by decide +kernel))))))
theorem b__law_span {X : Cx} {T : Tb} {W : WX} {H : Hp} (a : At X N__law_span (defScope st__law_span)) (hk : X.env.scope.kind = .function) (fn : ∀ x, X.fn x = true) (c : Cxt X T W 1) (g : Gv X.mg T) (h__law_take : FnE X.prog X.w X.mg X.base T "_law_take" 1 2 sem__law_take) : SB X T W ⟨H, 2, pr__law_span⟩ (defBody st__law_span) m__law_span := by
  unfold m__law_span
  exact (ss_cons (ss_a a c.nd fn 2 (by decide +kernel) rfl (e_mul c (e_ixA c (se_lst (sd_cons se_int (sd_cons se_int (sd_cons (se_f a (by decide +kernel) c h__law_take runD_len (by decide) (sa_cons (se_n a 0 (by decide +kernel)) (sa_cons se_int sa_nil))) (sd_cons (se_f a (by decide +kernel) c h__law_take runD_len (by decide) (sa_cons (se_n a 0 (by decide +kernel)) (sa_cons se_int sa_nil))) sa_nil))))) (se_f a (by decide +kernel) c h__law_take runD_len (by decide) (sa_cons (se_n a 0 (by decide +kernel)) (sa_cons se_int sa_nil)))) (se_n a 1 (by decide +kernel))))
    (ss_cons (ss_a a c.nd fn 3 (by decide +kernel) rfl (se_lst (sd_cons (se_f a (by decide +kernel) c h__law_take runD_len (by decide) (sa_cons (se_n a 0 (by decide +kernel)) (sa_cons se_int sa_nil))) (sd_cons (se_f a (by decide +kernel) c h__law_take runD_len (by decide) (sa_cons (se_n a 0 (by decide +kernel)) (sa_cons se_int sa_nil))) (sd_cons (se_f a (by decide +kernel) c h__law_take runD_len (by decide) (sa_cons (se_n a 0 (by decide +kernel)) (sa_cons se_int sa_nil))) (sd_cons (se_f a (by decide +kernel) c h__law_take runD_len (by decide) (sa_cons (se_n a 0 (by decide +kernel)) (sa_cons se_int sa_nil))) sa_nil))))))
    (ss_cons (ss_a a c.nd fn 4 (by decide +kernel) rfl (e_add c (e_add c (se_n a 2 (by decide +kernel)) se_int) (e_ixA c (se_n a 3 (by decide +kernel)) (se_f a (by decide +kernel) c h__law_take runD_len (by decide) (sa_cons (se_n a 0 (by decide +kernel)) (sa_cons se_int sa_nil))))))
    (ss_one (ss_ret (se_tup (sd_cons (se_n a 2 (by decide +kernel)) (sd_cons (se_n a 4 (by decide +kernel)) (sd_cons (e_ixA c (se_lst (sd_cons se_int (sd_cons se_int (sd_cons se_int (sd_cons se_int (sd_cons se_int (sd_cons se_int (sd_cons se_int sa_nil)))))))) (se_f a (by decide +kernel) c h__law_take runD_len (by decide) (sa_cons (se_n a 0 (by decide +kernel)) (sa_cons se_int sa_nil)))) sa_nil)))))))))
theorem b__law_book {X : Cx} {T : Tb} {W : WX} {H : Hp} (a : At X N__law_book (defScope st__law_book)) (hk : X.env.scope.kind = .function) (fn : ∀ x, X.fn x = true) (c : Cxt X T W 2) (g : Gv X.mg T) (h__law_take : FnE X.prog X.w X.mg X.base T "_law_take" 1 2 sem__law_take) (h__law_span : FnE X.prog X.w X.mg X.base T "_law_span" 2 2 sem__law_span) : SB X T W ⟨H, 3, pr__law_book⟩ (defBody st__law_book) m__law_book := by
  unfold m__law_book fb1__law_book
  exact (ss_cons (ss_a a c.nd fn 3 (by decide +kernel) rfl (se_lst sa_nil))
    (ss_cons (ss_for c.po c.calm (e_rng1 a (by decide +kernel) g.b_range (e_add c se_int (se_f a (by decide +kernel) c h__law_take runD_len (by decide) (sa_cons (se_n a 0 (by decide +kernel)) (sa_cons (se_n a 1 (by decide +kernel)) sa_nil))))) (sg_n a c.nd (.inl (fn _)) 4 (by decide +kernel) rfl) (ss_one (ss_if (st_w (sw_and (t_ne c (se_n a 3 (by decide +kernel)) (se_lst sa_nil)) (sw_and1 (t_eq c (se_f a (by decide +kernel) c h__law_take runD_len (by decide) (sa_cons (se_n a 0 (by decide +kernel)) (sa_cons se_int sa_nil))) se_int)))) (ss_one (ss_app (pe_bm PySem.F.plainAttrs_list PySem.F.slot_list_append PySem.F.type_list_append mt_append (pe_n a 3 (by decide +kernel)) (pa_cons (e_ixA c (se_n a 3 (by decide +kernel)) (se_f a (by decide +kernel) c h__law_take runD_len (by decide) (sa_cons (se_n a 0 (by decide +kernel)) (sa_cons (e_len a c (by decide +kernel) g.b_len (sa_cons (se_n a 3 (by decide +kernel)) sa_nil)) sa_nil)))) pa_nil)))) (ss_one (ss_app (pe_bm PySem.F.plainAttrs_list PySem.F.slot_list_append PySem.F.type_list_append mt_append (pe_n a 3 (by decide +kernel)) (pa_cons (se_f a (by decide +kernel) c h__law_span runD_len (by decide) (sa_cons (se_n a 0 (by decide +kernel)) (sa_cons (se_n a 2 (by decide +kernel)) sa_nil))) pa_nil)))))))
    (ss_one (ss_ret (e_tuple a c (by decide +kernel) g.b_tuple (sa_cons (se_n a 3 (by decide +kernel)) sa_nil))))))
theorem b__law_cell_at {X : Cx} {T : Tb} {W : WX} {H : Hp} (a : At X N__law_cell_at (defScope st__law_cell_at)) (hk : X.env.scope.kind = .function) (fn : ∀ x, X.fn x = true) (c : Cxt X T W 0) (g : Gv X.mg T) : SB X T W ⟨H, 2, pr__law_cell_at⟩ (defBody st__law_cell_at) m__law_cell_at := by
  unfold m__law_cell_at
  exact (ss_cons (ss_if (t_lt c (se_n a 1 (by decide +kernel)) (e_len a c (by decide +kernel) g.b_len (sa_cons (se_n a 0 (by decide +kernel)) sa_nil))) (ss_one (ss_ret (e_ixA c (se_n a 0 (by decide +kernel)) (se_n a 1 (by decide +kernel))))) ss_nil)
    (ss_one (ss_ret se_int)))
theorem b_is_whole {X : Cx} {T : Tb} {W : WX} {H : Hp} (a : At X N_is_whole (defScope st_is_whole)) (hk : X.env.scope.kind = .function) (fn : ∀ x, X.fn x = true) (c : Cxt X T W 0) (g : Gv X.mg T) : SB X T W ⟨H, 1, pr_is_whole⟩ (defBody st_is_whole) m_is_whole := by
  unfold m_is_whole
  exact (ss_one (ss_ret (se_and (se_is a c.hK (by decide +kernel) g.b_isinstance (by decide +kernel) g.b_int (by decide +kernel) (se_n a 0 (by decide +kernel))) (se_one (se_not (se_is a c.hK (by decide +kernel) g.b_isinstance (by decide +kernel) g.b_bool (by decide +kernel) (se_n a 0 (by decide +kernel))))))))
theorem b_is_from_to {X : Cx} {T : Tb} {W : WX} {H : Hp} (a : At X N_is_from_to (defScope st_is_from_to)) (hk : X.env.scope.kind = .function) (fn : ∀ x, X.fn x = true) (c : Cxt X T W 1) (g : Gv X.mg T) (h_is_whole : FnE X.prog X.w X.mg X.base T "is_whole" 1 1 sem_is_whole) : SB X T W ⟨H, 3, pr_is_from_to⟩ (defBody st_is_from_to) m_is_from_to := by
  unfold m_is_from_to
  exact (ss_one (ss_ret (se_and (se_f a (by decide +kernel) c h_is_whole runD_len (by decide) (sa_cons (se_n a 0 (by decide +kernel)) sa_nil)) (se_one (e_ch Ord.le Ord.le (se_n a 1 (by decide +kernel)) (se_n a 0 (by decide +kernel)) (se_n a 2 (by decide +kernel)))))))
theorem b_is_lasting {X : Cx} {T : Tb} {W : WX} {H : Hp} (a : At X N_is_lasting (defScope st_is_lasting)) (hk : X.env.scope.kind = .function) (fn : ∀ x, X.fn x = true) (c : Cxt X T W 2) (g : Gv X.mg T) (h_is_from_to : FnE X.prog X.w X.mg X.base T "is_from_to" 2 3 sem_is_from_to) : SB X T W ⟨H, 2, pr_is_lasting⟩ (defBody st_is_lasting) m_is_lasting := by
  unfold m_is_lasting
  exact (ss_cons (ss_if (st_w (sw_or (st_not (st_val (se_is a c.hK (by decide +kernel) g.b_isinstance (by decide +kernel) g.b_tuple (by decide +kernel) (se_n a 0 (by decide +kernel))))) (sw_or (t_ne c (e_len a c (by decide +kernel) g.b_len (sa_cons (se_n a 0 (by decide +kernel)) sa_nil)) se_int) (sw_or1 (st_not (st_val (se_f a (by decide +kernel) c h_is_from_to runD_len (by decide) (sa_cons (e_ixA c (se_n a 0 (by decide +kernel)) se_int) (sa_cons se_int (sa_cons (se_n a 1 (by decide +kernel)) sa_nil)))))))))) (ss_one (ss_ret se_bl)) ss_nil)
    (ss_one (ss_ret (se_and (se_f a (by decide +kernel) c h_is_from_to runD_len (by decide) (sa_cons (e_ixA c (se_n a 0 (by decide +kernel)) se_int) (sa_cons (e_add c (e_ixA c (se_n a 0 (by decide +kernel)) se_int) se_int) (sa_cons (se_n a 1 (by decide +kernel)) sa_nil)))) (se_one (se_f a (by decide +kernel) c h_is_from_to runD_len (by decide) (sa_cons (e_ixA c (se_n a 0 (by decide +kernel)) se_int) (sa_cons se_int (sa_cons (e_len a c (by decide +kernel) g.b_len (sa_cons (se_g (v := .non) a (by decide +kernel) g.KINDS) sa_nil)) sa_nil)))))))))
theorem b_is_span {X : Cx} {T : Tb} {W : WX} {H : Hp} (a : At X N_is_span (defScope st_is_span)) (hk : X.env.scope.kind = .function) (fn : ∀ x, X.fn x = true) (c : Cxt X T W 3) (g : Gv X.mg T) (h_is_lasting : FnE X.prog X.w X.mg X.base T "is_lasting" 3 2 sem_is_lasting) : SB X T W ⟨H, 1, pr_is_span⟩ (defBody st_is_span) m_is_span := by
  unfold m_is_span
  exact (ss_one (ss_ret (se_f a (by decide +kernel) c h_is_lasting runD_len (by decide) (sa_cons (se_n a 0 (by decide +kernel)) (sa_cons (se_g (v := .non) a (by decide +kernel) g.MOST_AGE) sa_nil)))))
theorem b_is_book {X : Cx} {T : Tb} {W : WX} {H : Hp} (a : At X N_is_book (defScope st_is_book)) (hk : X.env.scope.kind = .function) (fn : ∀ x, X.fn x = true) (c : Cxt X T W 4) (g : Gv X.mg T) (h_is_span : FnE X.prog X.w X.mg X.base T "is_span" 4 1 sem_is_span) : SB X T W ⟨H, 1, pr_is_book⟩ (defBody st_is_book) m_is_book := by
  unfold m_is_book ce1_is_book
  exact (ss_cons (ss_if (st_w (sw_or (st_not (st_val (se_is a c.hK (by decide +kernel) g.b_isinstance (by decide +kernel) g.b_tuple (by decide +kernel) (se_n a 0 (by decide +kernel))))) (sw_or1 (st_not (t_ch Ord.le Ord.le se_int (e_len a c (by decide +kernel) g.b_len (sa_cons (se_n a 0 (by decide +kernel)) sa_nil)) (se_g (v := .non) a (by decide +kernel) g.MOST_SPANS)))))) (ss_one (ss_ret se_bl)) ss_nil)
    (ss_one (ss_ret (e_all a c (by decide +kernel) g.b_all (sa_cons (se_lc (own := [("one", 1)]) c.calm c.nd (si_seq c.hK (se_n a 0 (by decide +kernel))) (a.blkOk (by decide +kernel)) (fun s1 H1 C1 cl1 fp1 => (sg_n (a.blk s1 H1 _ cl1 C1 fp1) (c.blk s1 H1 _ _ fp1).nd (.inr (lclB_ok (by decide +kernel))) 1 (by decide +kernel) rfl)) (fun s1 H1 C1 cl1 fp1 => sts_nil) (fun s1 H1 C1 cl1 fp1 => (se_f (a.blk s1 H1 _ cl1 C1 fp1) (by decide +kernel) (c.blk s1 H1 _ _ fp1) h_is_span runD_len (by decide) (sa_cons (se_n (a.blk s1 H1 _ cl1 C1 fp1) 1 (by decide +kernel)) sa_nil)))) sa_nil)))))
theorem b_need_book {X : Cx} {T : Tb} {W : WX} {H : Hp} (a : At X N_need_book (defScope st_need_book)) (hk : X.env.scope.kind = .function) (fn : ∀ x, X.fn x = true) (c : Cxt X T W 5) (g : Gv X.mg T) (h_is_book : FnE X.prog X.w X.mg X.base T "is_book" 5 1 sem_is_book) : SB X T W ⟨H, 1, pr_need_book⟩ (defBody st_need_book) m_need_book := by
  unfold m_need_book
  exact (ss_one (ss_if (st_not (st_val (se_f a (by decide +kernel) c h_is_book runD_len (by decide) (sa_cons (se_n a 0 (by decide +kernel)) sa_nil)))) (ss_one (s_raise a c g.x_NoBook (by decide +kernel))) ss_nil))
theorem b_need_plain {X : Cx} {T : Tb} {W : WX} {H : Hp} (a : At X N_need_plain (defScope st_need_plain)) (hk : X.env.scope.kind = .function) (fn : ∀ x, X.fn x = true) (c : Cxt X T W 6) (g : Gv X.mg T) (h_need_book : FnE X.prog X.w X.mg X.base T "need_book" 6 1 sem_need_book) : SB X T W ⟨H, 1, pr_need_plain⟩ (defBody st_need_plain) m_need_plain := by
  unfold m_need_plain ce1_need_plain
  exact (ss_cons (ss_expr (se_f a (by decide +kernel) c h_need_book runD_len (by decide) (sa_cons (se_n a 0 (by decide +kernel)) sa_nil)))
    (ss_one (ss_if (st_val (e_any a c (by decide +kernel) g.b_any (sa_cons (se_lc (own := [("begin", 1), ("until", 2), ("end", 3)]) c.calm c.nd (si_seq c.hK (se_n a 0 (by decide +kernel))) (a.blkOk (by decide +kernel)) (fun s1 H1 C1 cl1 fp1 => (sg_tup (c.blk s1 H1 _ _ fp1).hK (c.blk s1 H1 _ _ fp1).calm (sgs_cons (sg_n (a.blk s1 H1 _ cl1 C1 fp1) (c.blk s1 H1 _ _ fp1).nd (.inr (lclB_ok (by decide +kernel))) 1 (by decide +kernel) rfl) (sgs_cons (sg_n (a.blk s1 H1 _ cl1 C1 fp1) (c.blk s1 H1 _ _ fp1).nd (.inr (lclB_ok (by decide +kernel))) 2 (by decide +kernel) rfl) (sgs_cons (sg_n (a.blk s1 H1 _ cl1 C1 fp1) (c.blk s1 H1 _ _ fp1).nd (.inr (lclB_ok (by decide +kernel))) 3 (by decide +kernel) rfl) sgs_nil))) (gsC_len (gsC_len (gsC_len gs0_len))))) (fun s1 H1 C1 cl1 fp1 => sts_nil) (fun s1 H1 C1 cl1 fp1 => (e_gt (c.blk s1 H1 _ _ fp1) (se_n (a.blk s1 H1 _ cl1 C1 fp1) 1 (by decide +kernel)) se_int))) sa_nil))) (ss_one (s_raise a c g.x_NoPlain (by decide +kernel))) ss_nil)))
theorem b_takers_of {X : Cx} {T : Tb} {W : WX} {H : Hp} (a : At X N_takers_of (defScope st_takers_of)) (hk : X.env.scope.kind = .function) (fn : ∀ x, X.fn x = true) (c : Cxt X T W 0) (g : Gv X.mg T) : SB X T W ⟨H, 2, pr_takers_of⟩ (defBody st_takers_of) m_takers_of := by
  unfold m_takers_of ce1_takers_of cc1_takers_of
  exact (ss_one (ss_ret (se_lc (own := [("at", 2), ("begin", 3), ("until", 4), ("end", 5)]) c.calm c.nd (e_en a c (by decide +kernel) g.b_enumerate (se_n a 0 (by decide +kernel))) (a.blkOk (by decide +kernel)) (fun s1 H1 C1 cl1 fp1 => (sg_tup (c.blk s1 H1 _ _ fp1).hK (c.blk s1 H1 _ _ fp1).calm (sgs_cons (sg_n (a.blk s1 H1 _ cl1 C1 fp1) (c.blk s1 H1 _ _ fp1).nd (.inr (lclB_ok (by decide +kernel))) 2 (by decide +kernel) rfl) (sgs_cons (sg_tup (c.blk s1 H1 _ _ fp1).hK (c.blk s1 H1 _ _ fp1).calm (sgs_cons (sg_n (a.blk s1 H1 _ cl1 C1 fp1) (c.blk s1 H1 _ _ fp1).nd (.inr (lclB_ok (by decide +kernel))) 3 (by decide +kernel) rfl) (sgs_cons (sg_n (a.blk s1 H1 _ cl1 C1 fp1) (c.blk s1 H1 _ _ fp1).nd (.inr (lclB_ok (by decide +kernel))) 4 (by decide +kernel) rfl) (sgs_cons (sg_n (a.blk s1 H1 _ cl1 C1 fp1) (c.blk s1 H1 _ _ fp1).nd (.inr (lclB_ok (by decide +kernel))) 5 (by decide +kernel) rfl) sgs_nil))) (gsC_len (gsC_len (gsC_len gs0_len)))) sgs_nil)) (gsC_len (gsC_len gs0_len)))) (fun s1 H1 C1 cl1 fp1 => (sts_one (t_gt (c.blk s1 H1 _ _ fp1) (se_n (a.blk s1 H1 _ cl1 C1 fp1) 4 (by decide +kernel)) (e_ixA (c.blk s1 H1 _ _ fp1) (e_ixA (c.blk s1 H1 _ _ fp1) (se_n (a.blk s1 H1 _ cl1 C1 fp1) 0 (by decide +kernel)) (se_n (a.blk s1 H1 _ cl1 C1 fp1) 1 (by decide +kernel))) se_int)))) (fun s1 H1 C1 cl1 fp1 => (se_n (a.blk s1 H1 _ cl1 C1 fp1) 2 (by decide +kernel))))))
theorem b_givers_of {X : Cx} {T : Tb} {W : WX} {H : Hp} (a : At X N_givers_of (defScope st_givers_of)) (hk : X.env.scope.kind = .function) (fn : ∀ x, X.fn x = true) (c : Cxt X T W 1) (g : Gv X.mg T) (h_takers_of : FnE X.prog X.w X.mg X.base T "takers_of" 1 2 sem_takers_of) : SB X T W ⟨H, 1, pr_givers_of⟩ (defBody st_givers_of) m_givers_of := by
  unfold m_givers_of ce2_givers_of ce1_givers_of cc1_givers_of
  exact (ss_cons (ss_aLc (own := [("at", 2), ("begin", 3), ("until", 4), ("end", 5)]) a hk c.nd c.calm 1 (by decide +kernel) rfl (by decide +kernel) (e_en a c (by decide +kernel) g.b_enumerate (se_n a 0 (by decide +kernel))) (by decide +kernel) (fun s1 H1 C1 cl1 fp1 => (sg_tup (c.blk s1 H1 _ _ fp1).hK (c.blk s1 H1 _ _ fp1).calm (sgs_cons (sg_n (a.blk s1 H1 _ cl1 C1 fp1) (c.blk s1 H1 _ _ fp1).nd (.inr (lclB_ok (by decide +kernel))) 2 (by decide +kernel) rfl) (sgs_cons (sg_tup (c.blk s1 H1 _ _ fp1).hK (c.blk s1 H1 _ _ fp1).calm (sgs_cons (sg_n (a.blk s1 H1 _ cl1 C1 fp1) (c.blk s1 H1 _ _ fp1).nd (.inr (lclB_ok (by decide +kernel))) 3 (by decide +kernel) rfl) (sgs_cons (sg_n (a.blk s1 H1 _ cl1 C1 fp1) (c.blk s1 H1 _ _ fp1).nd (.inr (lclB_ok (by decide +kernel))) 4 (by decide +kernel) rfl) (sgs_cons (sg_n (a.blk s1 H1 _ cl1 C1 fp1) (c.blk s1 H1 _ _ fp1).nd (.inr (lclB_ok (by decide +kernel))) 5 (by decide +kernel) rfl) sgs_nil))) (gsC_len (gsC_len (gsC_len gs0_len)))) sgs_nil)) (gsC_len (gsC_len gs0_len)))) (fun s1 H1 C1 cl1 fp1 => (sts_one (st_w (sw_and (t_eq (c.blk s1 H1 _ _ fp1) (se_n (a.blk s1 H1 _ cl1 C1 fp1) 5 (by decide +kernel)) se_int) (sw_and1 (t_ne (c.blk s1 H1 _ _ fp1) (se_f (a.blk s1 H1 _ cl1 C1 fp1) (by decide +kernel) (c.blk s1 H1 _ _ fp1) h_takers_of runD_len (by decide) (sa_cons (se_n (a.blk s1 H1 _ cl1 C1 fp1) 0 (by decide +kernel)) (sa_cons (se_n (a.blk s1 H1 _ cl1 C1 fp1) 2 (by decide +kernel)) sa_nil))) (se_lst sa_nil))))))) (fun s1 H1 C1 cl1 fp1 => (se_tup (sd_cons (se_n (a.blk s1 H1 _ cl1 C1 fp1) 4 (by decide +kernel)) (sd_cons (se_n (a.blk s1 H1 _ cl1 C1 fp1) 2 (by decide +kernel)) sa_nil)))))
    (ss_one (ss_ret (se_lc (own := [("at", 2), ("until", 4)]) c.calm c.nd (si_seq c.hK (e_sortA a c (by decide +kernel) g.b_sorted (sa_cons (se_n a 1 (by decide +kernel)) sa_nil))) (a.blkOk (by decide +kernel)) (fun s2 H2 C2 cl2 fp2 => (sg_tup (c.blk s2 H2 _ _ fp2).hK (c.blk s2 H2 _ _ fp2).calm (sgs_cons (sg_n (a.blk s2 H2 _ cl2 C2 fp2) (c.blk s2 H2 _ _ fp2).nd (.inr (lclB_ok (by decide +kernel))) 4 (by decide +kernel) rfl) (sgs_cons (sg_n (a.blk s2 H2 _ cl2 C2 fp2) (c.blk s2 H2 _ _ fp2).nd (.inr (lclB_ok (by decide +kernel))) 2 (by decide +kernel) rfl) sgs_nil)) (gsC_len (gsC_len gs0_len)))) (fun s2 H2 C2 cl2 fp2 => sts_nil) (fun s2 H2 C2 cl2 fp2 => (se_n (a.blk s2 H2 _ cl2 C2 fp2) 2 (by decide +kernel)))))))
theorem b_common {X : Cx} {T : Tb} {W : WX} {H : Hp} (a : At X N_common (defScope st_common)) (hk : X.env.scope.kind = .function) (fn : ∀ x, X.fn x = true) (c : Cxt X T W 0) (g : Gv X.mg T) : SB X T W ⟨H, 2, pr_common⟩ (defBody st_common) m_common := by
  unfold m_common wb1_common wt1_common
  exact (ss_cons (ss_while c.po (t_ne c (se_n a 1 (by decide +kernel)) se_int) (ss_one (ss_p2 a hk c.nd c.calm 0 1 (by decide +kernel) (by decide +kernel) (by decide) rfl rfl (by decide +kernel) (se_n a 1 (by decide +kernel)) (e_mod c (se_n a 0 (by decide +kernel)) (se_n a 1 (by decide +kernel))))))
    (ss_one (ss_ret (e_abs a c (by decide +kernel) g.b_abs (sa_cons (se_n a 0 (by decide +kernel)) sa_nil)))))
theorem b_put {X : Cx} {T : Tb} {W : WX} {H : Hp} (a : At X N_put (defScope st_put)) (hk : X.env.scope.kind = .function) (fn : ∀ x, X.fn x = true) (c : Cxt X T W 1) (g : Gv X.mg T) (h_common : FnE X.prog X.w X.mg X.base T "common" 1 2 sem_common) : SB X T W ⟨H, 2, pr_put⟩ (defBody st_put) m_put := by
  unfold m_put
  exact (ss_cons (ss_a a c.nd fn 2 (by decide +kernel) rfl (e_mul c (se_f a (by decide +kernel) c h_common runD_len (by decide) (sa_cons (se_n a 0 (by decide +kernel)) (sa_cons (se_n a 1 (by decide +kernel)) sa_nil))) (se_ite (t_gt c (se_n a 1 (by decide +kernel)) se_int) se_int (e_neg c se_int))))
    (ss_one (ss_ret (se_tup (sd_cons (e_fd c (se_n a 0 (by decide +kernel)) (se_n a 2 (by decide +kernel))) (sd_cons (e_fd c (se_n a 1 (by decide +kernel)) (se_n a 2 (by decide +kernel))) sa_nil))))))
theorem b_product {X : Cx} {T : Tb} {W : WX} {H : Hp} (a : At X N_product (defScope st_product)) (hk : X.env.scope.kind = .function) (fn : ∀ x, X.fn x = true) (c : Cxt X T W 2) (g : Gv X.mg T) (h_put : FnE X.prog X.w X.mg X.base T "put" 2 2 sem_put) : SB X T W ⟨H, 2, pr_product⟩ (defBody st_product) m_product := by
  unfold m_product
  exact (ss_one (ss_ret (se_f a (by decide +kernel) c h_put runD_len (by decide) (sa_cons (e_mul c (e_ixA c (se_n a 0 (by decide +kernel)) se_int) (e_ixA c (se_n a 1 (by decide +kernel)) se_int)) (sa_cons (e_mul c (e_ixA c (se_n a 0 (by decide +kernel)) se_int) (e_ixA c (se_n a 1 (by decide +kernel)) se_int)) sa_nil)))))
theorem b_sum_of {X : Cx} {T : Tb} {W : WX} {H : Hp} (a : At X N_sum_of (defScope st_sum_of)) (hk : X.env.scope.kind = .function) (fn : ∀ x, X.fn x = true) (c : Cxt X T W 2) (g : Gv X.mg T) (h_put : FnE X.prog X.w X.mg X.base T "put" 2 2 sem_put) : SB X T W ⟨H, 2, pr_sum_of⟩ (defBody st_sum_of) m_sum_of := by
  unfold m_sum_of
  exact (ss_one (ss_ret (se_f a (by decide +kernel) c h_put runD_len (by decide) (sa_cons (e_add c (e_mul c (e_ixA c (se_n a 0 (by decide +kernel)) se_int) (e_ixA c (se_n a 1 (by decide +kernel)) se_int)) (e_mul c (e_ixA c (se_n a 1 (by decide +kernel)) se_int) (e_ixA c (se_n a 0 (by decide +kernel)) se_int))) (sa_cons (e_mul c (e_ixA c (se_n a 0 (by decide +kernel)) se_int) (e_ixA c (se_n a 1 (by decide +kernel)) se_int)) sa_nil)))))
theorem b_led_by {X : Cx} {T : Tb} {W : WX} {H : Hp} (a : At X N_led_by (defScope st_led_by)) (hk : X.env.scope.kind = .function) (fn : ∀ x, X.fn x = true) (c : Cxt X T W 3) (g : Gv X.mg T) (h_givers_of : FnE X.prog X.w X.mg X.base T "givers_of" 2 1 sem_givers_of) (h_takers_of : FnE X.prog X.w X.mg X.base T "takers_of" 1 2 sem_takers_of) (h_product : FnE X.prog X.w X.mg X.base T "product" 3 2 sem_product) (h_put : FnE X.prog X.w X.mg X.base T "put" 2 2 sem_put) (h_sum_of : FnE X.prog X.w X.mg X.base T "sum_of" 3 2 sem_sum_of) : SB X T W ⟨H, 1, pr_led_by⟩ (defBody st_led_by) m_led_by := by
  unfold m_led_by fb2_led_by fb1_led_by ce1_led_by
  exact (ss_cons (ss_p2 a hk c.nd c.calm 2 3 (by decide +kernel) (by decide +kernel) (by decide) rfl rfl (by decide +kernel) (se_lc (own := [("one", 7)]) c.calm c.nd (si_seq c.hK (se_n a 0 (by decide +kernel))) (a.blkOk (by decide +kernel)) (fun s1 H1 C1 cl1 fp1 => (sg_n (a.blk s1 H1 _ cl1 C1 fp1) (c.blk s1 H1 _ _ fp1).nd (.inr (lclB_ok (by decide +kernel))) 7 (by decide +kernel) rfl)) (fun s1 H1 C1 cl1 fp1 => sts_nil) (fun s1 H1 C1 cl1 fp1 => (se_f (a.blk s1 H1 _ cl1 C1 fp1) (by decide +kernel) (c.blk s1 H1 _ _ fp1) h_put runD_len (by decide) (sa_cons se_int (sa_cons (e_len (a.blk s1 H1 _ cl1 C1 fp1) (c.blk s1 H1 _ _ fp1) (by decide +kernel) g.b_len (sa_cons (se_n (a.blk s1 H1 _ cl1 C1 fp1) 0 (by decide +kernel)) sa_nil)) sa_nil))))) (se_lst sa_nil))
    (ss_cons (ss_for c.po c.calm (si_seq c.hK (se_f a (by decide +kernel) c h_givers_of runD_len (by decide) (sa_cons (se_n a 0 (by decide +kernel)) sa_nil))) (sg_n a c.nd (.inl (fn _)) 1 (by decide +kernel) rfl) (ss_cons (ss_a a c.nd fn 4 (by decide +kernel) rfl (se_f a (by decide +kernel) c h_takers_of runD_len (by decide) (sa_cons (se_n a 0 (by decide +kernel)) (sa_cons (se_n a 1 (by decide +kernel)) sa_nil))))
    (ss_cons (ss_a a c.nd fn 5 (by decide +kernel) rfl (se_f a (by decide +kernel) c h_product runD_len (by decide) (sa_cons (e_ixA c (se_n a 2 (by decide +kernel)) (se_n a 1 (by decide +kernel))) (sa_cons (se_tup (sd_cons se_int (sd_cons (e_len a c (by decide +kernel) g.b_len (sa_cons (se_n a 4 (by decide +kernel)) sa_nil)) sa_nil))) sa_nil))))
    (ss_cons (ss_for c.po c.calm (si_seq c.hK (se_n a 4 (by decide +kernel))) (sg_n a c.nd (.inl (fn _)) 6 (by decide +kernel) rfl) (ss_cons (ss_set (se_f a (by decide +kernel) c h_sum_of runD_len (by decide) (sa_cons (e_ixA c (se_n a 2 (by decide +kernel)) (se_n a 6 (by decide +kernel))) (sa_cons (se_n a 5 (by decide +kernel)) sa_nil))) (pg_sub (pe_n a 2 (by decide +kernel)) (se_n a 6 (by decide +kernel)) set_list))
    (ss_one (ss_app (pe_bm PySem.F.plainAttrs_list PySem.F.slot_list_append PySem.F.type_list_append mt_append (pe_n a 3 (by decide +kernel)) (pa_cons (se_tup (sd_cons (se_n a 1 (by decide +kernel)) (sd_cons (se_n a 6 (by decide +kernel)) (sd_cons (se_n a 5 (by decide +kernel)) sa_nil)))) pa_nil))))))
    (ss_one (ss_set (se_g (v := .non) a (by decide +kernel) g.NOUGHT) (pg_sub (pe_n a 2 (by decide +kernel)) (se_n a 1 (by decide +kernel)) set_list)))))))
    (ss_one (ss_ret2 (pe_n a 2 (by decide +kernel)) (pe_n a 3 (by decide +kernel))))))
theorem b_weights {X : Cx} {T : Tb} {W : WX} {H : Hp} (a : At X N_weights (defScope st_weights)) (hk : X.env.scope.kind = .function) (fn : ∀ x, X.fn x = true) (c : Cxt X T W 7) (g : Gv X.mg T) (h_need_plain : FnE X.prog X.w X.mg X.base T "need_plain" 7 1 sem_need_plain) (h_led_by : FnE X.prog X.w X.mg X.base T "led_by" 4 1 sem_led_by) : SB X T W ⟨H, 1, pr_weights⟩ (defBody st_weights) m_weights := by
  unfold m_weights
  exact (ss_cons (ss_expr (se_f a (by decide +kernel) c h_need_plain runD_len (by decide) (sa_cons (se_n a 0 (by decide +kernel)) sa_nil)))
    (ss_one (ss_ret (e_ix2 c (se_f a (by decide +kernel) c h_led_by runD_len (by decide) (sa_cons (se_n a 0 (by decide +kernel)) sa_nil))))))
theorem b__law_common {X : Cx} {T : Tb} {W : WX} {H : Hp} (a : At X N__law_common (defScope st__law_common)) (hk : X.env.scope.kind = .function) (fn : ∀ x, X.fn x = true) (c : Cxt X T W 0) (g : Gv X.mg T) : SB X T W ⟨H, 2, pr__law_common⟩ (defBody st__law_common) m__law_common := by
  unfold m__law_common wb1__law_common wt1__law_common
  exact (ss_cons (ss_while c.po (t_ne c (se_n a 1 (by decide +kernel)) se_int) (ss_one (ss_p2 a hk c.nd c.calm 0 1 (by decide +kernel) (by decide +kernel) (by decide) rfl rfl (by decide +kernel) (se_n a 1 (by decide +kernel)) (e_mod c (se_n a 0 (by decide +kernel)) (se_n a 1 (by decide +kernel))))))
    (ss_one (ss_ret (e_max2 a c (by decide +kernel) g.b_max (sa_cons (se_n a 0 (by decide +kernel)) (sa_cons (e_sub c se_int (se_n a 0 (by decide +kernel))) sa_nil))))))
theorem b__law_put {X : Cx} {T : Tb} {W : WX} {H : Hp} (a : At X N__law_put (defScope st__law_put)) (hk : X.env.scope.kind = .function) (fn : ∀ x, X.fn x = true) (c : Cxt X T W 1) (g : Gv X.mg T) (h__law_common : FnE X.prog X.w X.mg X.base T "_law_common" 1 2 sem__law_common) : SB X T W ⟨H, 2, pr__law_put⟩ (defBody st__law_put) m__law_put := by
  unfold m__law_put
  exact (ss_cons (ss_a a c.nd fn 2 (by decide +kernel) rfl (se_f a (by decide +kernel) c h__law_common runD_len (by decide) (sa_cons (se_n a 0 (by decide +kernel)) (sa_cons (se_n a 1 (by decide +kernel)) sa_nil))))
    (ss_one (ss_ret (se_ite (t_gt c (se_n a 1 (by decide +kernel)) se_int) (se_tup (sd_cons (e_fd c (se_n a 0 (by decide +kernel)) (se_n a 2 (by decide +kernel))) (sd_cons (e_fd c (se_n a 1 (by decide +kernel)) (se_n a 2 (by decide +kernel))) sa_nil))) (se_tup (sd_cons (e_sub c se_int (e_fd c (se_n a 0 (by decide +kernel)) (se_n a 2 (by decide +kernel)))) (sd_cons (e_sub c se_int (e_fd c (se_n a 1 (by decide +kernel)) (se_n a 2 (by decide +kernel)))) sa_nil)))))))
theorem b__law_add {X : Cx} {T : Tb} {W : WX} {H : Hp} (a : At X N__law_add (defScope st__law_add)) (hk : X.env.scope.kind = .function) (fn : ∀ x, X.fn x = true) (c : Cxt X T W 2) (g : Gv X.mg T) (h__law_put : FnE X.prog X.w X.mg X.base T "_law_put" 2 2 sem__law_put) : SB X T W ⟨H, 2, pr__law_add⟩ (defBody st__law_add) m__law_add := by
  unfold m__law_add
  exact (ss_one (ss_ret (se_f a (by decide +kernel) c h__law_put runD_len (by decide) (sa_cons (e_add c (e_mul c (e_ixA c (se_n a 0 (by decide +kernel)) se_int) (e_ixA c (se_n a 1 (by decide +kernel)) se_int)) (e_mul c (e_ixA c (se_n a 1 (by decide +kernel)) se_int) (e_ixA c (se_n a 0 (by decide +kernel)) se_int))) (sa_cons (e_mul c (e_ixA c (se_n a 0 (by decide +kernel)) se_int) (e_ixA c (se_n a 1 (by decide +kernel)) se_int)) sa_nil)))))
theorem b__law_sum {X : Cx} {T : Tb} {W : WX} {H : Hp} (a : At X N__law_sum (defScope st__law_sum)) (hk : X.env.scope.kind = .function) (fn : ∀ x, X.fn x = true) (c : Cxt X T W 3) (g : Gv X.mg T) (h__law_add : FnE X.prog X.w X.mg X.base T "_law_add" 3 2 sem__law_add) : SB X T W ⟨H, 1, pr__law_sum⟩ (defBody st__law_sum) m__law_sum := by
  unfold m__law_sum fb1__law_sum
  exact (ss_cons (ss_a a c.nd fn 1 (by decide +kernel) rfl (se_tup (sd_cons se_int (sd_cons se_int sa_nil))))
    (ss_cons (ss_for c.po c.calm (si_seq c.hK (se_n a 0 (by decide +kernel))) (sg_n a c.nd (.inl (fn _)) 2 (by decide +kernel) rfl) (ss_one (ss_a a c.nd fn 1 (by decide +kernel) rfl (se_f a (by decide +kernel) c h__law_add runD_len (by decide) (sa_cons (se_n a 1 (by decide +kernel)) (sa_cons (se_n a 2 (by decide +kernel)) sa_nil))))))
    (ss_one (ss_ret (se_n a 1 (by decide +kernel))))))
theorem b__law_times {X : Cx} {T : Tb} {W : WX} {H : Hp} (a : At X N__law_times (defScope st__law_times)) (hk : X.env.scope.kind = .function) (fn : ∀ x, X.fn x = true) (c : Cxt X T W 2) (g : Gv X.mg T) (h__law_put : FnE X.prog X.w X.mg X.base T "_law_put" 2 2 sem__law_put) : SB X T W ⟨H, 2, pr__law_times⟩ (defBody st__law_times) m__law_times := by
  unfold m__law_times
  exact (ss_one (ss_ret (se_f a (by decide +kernel) c h__law_put runD_len (by decide) (sa_cons (e_mul c (e_ixA c (se_n a 0 (by decide +kernel)) se_int) (e_ixA c (se_n a 1 (by decide +kernel)) se_int)) (sa_cons (e_mul c (e_ixA c (se_n a 0 (by decide +kernel)) se_int) (e_ixA c (se_n a 1 (by decide +kernel)) se_int)) sa_nil)))))
theorem b__law_due {X : Cx} {T : Tb} {W : WX} {H : Hp} (a : At X N__law_due (defScope st__law_due)) (hk : X.env.scope.kind = .function) (fn : ∀ x, X.fn x = true) (c : Cxt X T W 4) (g : Gv X.mg T) (h__law_put : FnE X.prog X.w X.mg X.base T "_law_put" 2 2 sem__law_put) (h__law_sum : FnE X.prog X.w X.mg X.base T "_law_sum" 4 1 sem__law_sum) (h__law_add : FnE X.prog X.w X.mg X.base T "_law_add" 3 2 sem__law_add) (h__law_times : FnE X.prog X.w X.mg X.base T "_law_times" 3 2 sem__law_times) : SB X T W ⟨H, 1, pr__law_due⟩ (defBody st__law_due) m__law_due := by
  unfold m__law_due fb3__law_due fb2__law_due fb1__law_due ce4__law_due cc3__law_due ce3__law_due cc2__law_due ce2__law_due cc1__law_due ce1__law_due
  exact (ss_cons (ss_a a c.nd fn 1 (by decide +kernel) rfl (se_lc (own := [("_law_span_here", 6)]) c.calm c.nd (si_seq c.hK (se_n a 0 (by decide +kernel))) (a.blkOk (by decide +kernel)) (fun s1 H1 C1 cl1 fp1 => (sg_n (a.blk s1 H1 _ cl1 C1 fp1) (c.blk s1 H1 _ _ fp1).nd (.inr (lclB_ok (by decide +kernel))) 6 (by decide +kernel) rfl)) (fun s1 H1 C1 cl1 fp1 => sts_nil) (fun s1 H1 C1 cl1 fp1 => (se_f (a.blk s1 H1 _ cl1 C1 fp1) (by decide +kernel) (c.blk s1 H1 _ _ fp1) h__law_put runD_len (by decide) (sa_cons se_int (sa_cons (e_len (a.blk s1 H1 _ cl1 C1 fp1) (c.blk s1 H1 _ _ fp1) (by decide +kernel) g.b_len (sa_cons (se_n (a.blk s1 H1 _ cl1 C1 fp1) 0 (by decide +kernel)) sa_nil)) sa_nil))))) (hs := sw_cel a (by decide +kernel)))
    (ss_cons (ss_for c.po c.calm (si_seq c.hK (e_sortS a c (by decide +kernel) g.b_sorted (e_set a c (by decide +kernel) g.b_set (sa_cons (se_lc (own := [("_law_span_here", 6)]) c.calm c.nd (si_seq c.hK (se_n a 0 (by decide +kernel))) (a.blkOk (by decide +kernel)) (fun s2 H2 C2 cl2 fp2 => (sg_n (a.blk s2 H2 _ cl2 C2 fp2) (c.blk s2 H2 _ _ fp2).nd (.inr (lclB_ok (by decide +kernel))) 6 (by decide +kernel) rfl)) (fun s2 H2 C2 cl2 fp2 => (sts_one (t_eq (c.blk s2 H2 _ _ fp2) (e_ixA (c.blk s2 H2 _ _ fp2) (se_n (a.blk s2 H2 _ cl2 C2 fp2) 6 (by decide +kernel)) se_int) se_int))) (fun s2 H2 C2 cl2 fp2 => (e_ixA (c.blk s2 H2 _ _ fp2) (se_n (a.blk s2 H2 _ cl2 C2 fp2) 6 (by decide +kernel)) se_int))) sa_nil)))) (sg_n a c.nd (.inl (fn _)) 2 (by decide +kernel) rfl) (ss_cons (ss_aLc (own := [("_law_at", 5), ("_law_span_here", 6)]) a hk c.nd c.calm 3 (by decide +kernel) rfl (by decide +kernel) (e_en a c (by decide +kernel) g.b_enumerate (se_n a 0 (by decide +kernel))) (by decide +kernel) (fun s3 H3 C3 cl3 fp3 => (sg_tup (c.blk s3 H3 _ _ fp3).hK (c.blk s3 H3 _ _ fp3).calm (sgs_cons (sg_n (a.blk s3 H3 _ cl3 C3 fp3) (c.blk s3 H3 _ _ fp3).nd (.inr (lclB_ok (by decide +kernel))) 5 (by decide +kernel) rfl) (sgs_cons (sg_n (a.blk s3 H3 _ cl3 C3 fp3) (c.blk s3 H3 _ _ fp3).nd (.inr (lclB_ok (by decide +kernel))) 6 (by decide +kernel) rfl) sgs_nil)) (gsC_len (gsC_len gs0_len)))) (fun s3 H3 C3 cl3 fp3 => (sts_one (t_gt (c.blk s3 H3 _ _ fp3) (e_ixA (c.blk s3 H3 _ _ fp3) (se_n (a.blk s3 H3 _ cl3 C3 fp3) 6 (by decide +kernel)) se_int) (se_n (a.blk s3 H3 _ cl3 C3 fp3) 2 (by decide +kernel))))) (fun s3 H3 C3 cl3 fp3 => (se_n (a.blk s3 H3 _ cl3 C3 fp3) 5 (by decide +kernel))))
    (ss_cons (ss_a a c.nd fn 4 (by decide +kernel) rfl (se_f a (by decide +kernel) c h__law_sum runD_len (by decide) (sa_cons (se_lc (own := [("_law_at", 5), ("_law_span_here", 6)]) c.calm c.nd (e_en a c (by decide +kernel) g.b_enumerate (se_n a 0 (by decide +kernel))) (a.blkOk (by decide +kernel)) (fun s4 H4 C4 cl4 fp4 => (sg_tup (c.blk s4 H4 _ _ fp4).hK (c.blk s4 H4 _ _ fp4).calm (sgs_cons (sg_n (a.blk s4 H4 _ cl4 C4 fp4) (c.blk s4 H4 _ _ fp4).nd (.inr (lclB_ok (by decide +kernel))) 5 (by decide +kernel) rfl) (sgs_cons (sg_n (a.blk s4 H4 _ cl4 C4 fp4) (c.blk s4 H4 _ _ fp4).nd (.inr (lclB_ok (by decide +kernel))) 6 (by decide +kernel) rfl) sgs_nil)) (gsC_len (gsC_len gs0_len)))) (fun s4 H4 C4 cl4 fp4 => (sts_one (t_eq (c.blk s4 H4 _ _ fp4) (se_slice (c.blk s4 H4 _ _ fp4).hK (se_n (a.blk s4 H4 _ cl4 C4 fp4) 6 (by decide +kernel)) (so_some se_int) so_none) (se_tup (sd_cons (se_n (a.blk s4 H4 _ cl4 C4 fp4) 2 (by decide +kernel)) (sd_cons se_int sa_nil)))))) (fun s4 H4 C4 cl4 fp4 => (e_ixA (c.blk s4 H4 _ _ fp4) (se_n (a.blk s4 H4 _ cl4 C4 fp4) 1 (by decide +kernel)) (se_n (a.blk s4 H4 _ cl4 C4 fp4) 5 (by decide +kernel))))) sa_nil)))
    (ss_one (ss_if (t_ne c (se_n a 3 (by decide +kernel)) (se_lst sa_nil)) (ss_cons (ss_for c.po c.calm (e_en a c (by decide +kernel) g.b_enumerate (se_n a 0 (by decide +kernel))) (sg_tup c.hK c.calm (sgs_cons (sg_n a c.nd (.inl (fn _)) 5 (by decide +kernel) rfl) (sgs_cons (sg_n a c.nd (.inl (fn _)) 6 (by decide +kernel) rfl) sgs_nil)) (gsC_len (gsC_len gs0_len))) (ss_one (ss_if (t_eq c (se_slice c.hK (se_n a 6 (by decide +kernel)) (so_some se_int) so_none) (se_tup (sd_cons (se_n a 2 (by decide +kernel)) (sd_cons se_int sa_nil)))) (ss_one (ss_set (se_tup (sd_cons se_int (sd_cons se_int sa_nil))) (pg_sub (pe_n a 1 (by decide +kernel)) (se_n a 5 (by decide +kernel)) set_list))) ss_nil)))
    (ss_one (ss_for c.po c.calm (si_seq c.hK (se_n a 3 (by decide +kernel))) (sg_n a c.nd (.inl (fn _)) 5 (by decide +kernel) rfl) (ss_one (ss_set (se_f a (by decide +kernel) c h__law_add runD_len (by decide) (sa_cons (e_ixA c (se_n a 1 (by decide +kernel)) (se_n a 5 (by decide +kernel))) (sa_cons (se_f a (by decide +kernel) c h__law_times runD_len (by decide) (sa_cons (se_n a 4 (by decide +kernel)) (sa_cons (se_tup (sd_cons se_int (sd_cons (e_len a c (by decide +kernel) g.b_len (sa_cons (se_n a 3 (by decide +kernel)) sa_nil)) sa_nil))) sa_nil))) sa_nil))) (pg_sub (pe_n a 1 (by decide +kernel)) (se_n a 5 (by decide +kernel)) set_list)))))) ss_nil)))))
    (ss_one (ss_ret (se_n a 1 (by decide +kernel))))))
theorem b_law {X : Cx} {T : Tb} {W : WX} {H : Hp} (a : At X N_law (defScope st_law)) (hk : X.env.scope.kind = .function) (fn : ∀ x, X.fn x = true) (c : Cxt X T W 8) (g : Gv X.mg T) (h__law_pot : FnE X.prog X.w X.mg X.base T "_law_pot" 1 1 sem__law_pot) (h__law_book : FnE X.prog X.w X.mg X.base T "_law_book" 3 3 sem__law_book) (h__law_cell_at : FnE X.prog X.w X.mg X.base T "_law_cell_at" 1 2 sem__law_cell_at) (h_weights : FnE X.prog X.w X.mg X.base T "weights" 8 1 sem_weights) (h__law_due : FnE X.prog X.w X.mg X.base T "_law_due" 5 1 sem__law_due) : SB X T W ⟨H, 1, pr_law⟩ (defBody st_law) m_law := by
  unfold m_law fb2_law fb1_law ce2_law ce1_law
  exact (ss_cons (ss_for c.po c.calm (e_rng1 a (by decide +kernel) g.b_range (e_max2 a c (by decide +kernel) g.b_max (sa_cons se_int (sa_cons (e_min2 a c (by decide +kernel) g.b_min (sa_cons (e_len a c (by decide +kernel) g.b_len (sa_cons (se_n a 0 (by decide +kernel)) sa_nil)) (sa_cons se_int sa_nil))) sa_nil)))) (sg_n a c.nd (.inl (fn _)) 1 (by decide +kernel) rfl) (ss_cons (ss_a a c.nd fn 2 (by decide +kernel) rfl (se_f a (by decide +kernel) c h__law_pot runD_len (by decide) (sa_cons (se_f a (by decide +kernel) c h__law_cell_at runD_len (by decide) (sa_cons (se_n a 0 (by decide +kernel)) (sa_cons (se_n a 1 (by decide +kernel)) sa_nil))) sa_nil)))
    (ss_cons (ss_a a c.nd fn 3 (by decide +kernel) rfl (se_f a (by decide +kernel) c h__law_book runD_len (by decide) (sa_cons (se_n a 2 (by decide +kernel)) (sa_cons se_int (sa_cons se_int sa_nil)))))
    (ss_cons (ss_a a c.nd fn 4 (by decide +kernel) rfl (e_tuple a c (by decide +kernel) g.b_tuple (sa_cons (se_lc (own := [("_law_begin", 10), ("_law_until", 11), ("_law_end", 12)]) c.calm c.nd (si_seq c.hK (se_n a 3 (by decide +kernel))) (a.blkOk (by decide +kernel)) (fun s1 H1 C1 cl1 fp1 => (sg_tup (c.blk s1 H1 _ _ fp1).hK (c.blk s1 H1 _ _ fp1).calm (sgs_cons (sg_n (a.blk s1 H1 _ cl1 C1 fp1) (c.blk s1 H1 _ _ fp1).nd (.inr (lclB_ok (by decide +kernel))) 10 (by decide +kernel) rfl) (sgs_cons (sg_n (a.blk s1 H1 _ cl1 C1 fp1) (c.blk s1 H1 _ _ fp1).nd (.inr (lclB_ok (by decide +kernel))) 11 (by decide +kernel) rfl) (sgs_cons (sg_n (a.blk s1 H1 _ cl1 C1 fp1) (c.blk s1 H1 _ _ fp1).nd (.inr (lclB_ok (by decide +kernel))) 12 (by decide +kernel) rfl) sgs_nil))) (gsC_len (gsC_len (gsC_len gs0_len))))) (fun s1 H1 C1 cl1 fp1 => sts_nil) (fun s1 H1 C1 cl1 fp1 => (se_tup (sd_cons se_int (sd_cons (se_n (a.blk s1 H1 _ cl1 C1 fp1) 11 (by decide +kernel)) (sd_cons se_int sa_nil)))))) sa_nil)))
    (ss_cons (ss_a a c.nd fn 5 (by decide +kernel) rfl (e_tuple a c (by decide +kernel) g.b_tuple (sa_cons (se_lc (own := [("_law_begin", 10), ("_law_until", 11), ("_law_end", 12)]) c.calm c.nd (si_seq c.hK (se_n a 3 (by decide +kernel))) (a.blkOk (by decide +kernel)) (fun s2 H2 C2 cl2 fp2 => (sg_tup (c.blk s2 H2 _ _ fp2).hK (c.blk s2 H2 _ _ fp2).calm (sgs_cons (sg_n (a.blk s2 H2 _ cl2 C2 fp2) (c.blk s2 H2 _ _ fp2).nd (.inr (lclB_ok (by decide +kernel))) 10 (by decide +kernel) rfl) (sgs_cons (sg_n (a.blk s2 H2 _ cl2 C2 fp2) (c.blk s2 H2 _ _ fp2).nd (.inr (lclB_ok (by decide +kernel))) 11 (by decide +kernel) rfl) (sgs_cons (sg_n (a.blk s2 H2 _ cl2 C2 fp2) (c.blk s2 H2 _ _ fp2).nd (.inr (lclB_ok (by decide +kernel))) 12 (by decide +kernel) rfl) sgs_nil))) (gsC_len (gsC_len (gsC_len gs0_len))))) (fun s2 H2 C2 cl2 fp2 => sts_nil) (fun s2 H2 C2 cl2 fp2 => (se_tup (sd_cons se_int (sd_cons (se_n (a.blk s2 H2 _ cl2 C2 fp2) 11 (by decide +kernel)) (sd_cons (e_max2 (a.blk s2 H2 _ cl2 C2 fp2) (c.blk s2 H2 _ _ fp2) (by decide +kernel) g.b_max (sa_cons se_int (sa_cons (se_n (a.blk s2 H2 _ cl2 C2 fp2) 12 (by decide +kernel)) sa_nil))) sa_nil)))))) sa_nil)))
    (ss_one (ss_for c.po c.calm (si_seq c.hK (se_tup (sd_cons (se_n a 3 (by decide +kernel)) (sd_cons (se_n a 4 (by decide +kernel)) (sd_cons (se_n a 5 (by decide +kernel)) sa_nil))))) (sg_n a c.nd (.inl (fn _)) 6 (by decide +kernel) rfl) (ss_cons (ss_p2 a hk c.nd c.calm 8 9 (by decide +kernel) (by decide +kernel) (by decide) rfl rfl (by decide +kernel) (e_repr a c (by decide +kernel) g.b_repr (sa_cons (se_n a 6 (by decide +kernel)) sa_nil)) (se_f a (by decide +kernel) c h__law_due runD_len (by decide) (sa_cons (se_n a 6 (by decide +kernel)) sa_nil)))
    (ss_cons (ss_a a c.nd fn 7 (by decide +kernel) rfl (se_f a (by decide +kernel) c h_weights runD_len (by decide) (sa_cons (se_n a 6 (by decide +kernel)) sa_nil)))
    (ss_cons (ss_if (st_w (sw_or (t_ne c (e_repr a c (by decide +kernel) g.b_repr (sa_cons (se_n a 7 (by decide +kernel)) sa_nil)) (e_repr a c (by decide +kernel) g.b_repr (sa_cons (se_n a 9 (by decide +kernel)) sa_nil))) (sw_or1 (t_ne c (e_repr a c (by decide +kernel) g.b_repr (sa_cons (se_n a 6 (by decide +kernel)) sa_nil)) (se_n a 8 (by decide +kernel)))))) (ss_one (ss_ret se_bl)) ss_nil)
    (ss_cons (ss_app (pe_bm PySem.F.plainAttrs_list PySem.F.slot_list_append PySem.F.type_list_append mt_append (pe_n a 7 (by decide +kernel)) (pa_cons se_non pa_nil)))
    (ss_one (ss_if (t_ne c (e_repr a c (by decide +kernel) g.b_repr (sa_cons (se_f a (by decide +kernel) c h_weights runD_len (by decide) (sa_cons (se_n a 6 (by decide +kernel)) sa_nil)) sa_nil)) (e_repr a c (by decide +kernel) g.b_repr (sa_cons (se_n a 9 (by decide +kernel)) sa_nil))) (ss_one (ss_ret se_bl)) ss_nil)))))))))))))
    (ss_one (ss_ret se_bl)))
theorem all_mk {ts : List Addr} {P : Program} {w : World} {K : PySem.W.Frag} {h : Heap} {mg : Str → Option Value} {fa : Addr} (X : K.In h) (G : h.Ns mainGlobals mg) (hfa : mg "law" = some (.ref fa))
    {f__law_pot : Addr} {od__law_pot an__law_pot : Option Addr} {sl__law_pot : Array (Option Value)} {oc__law_pot kV__law_pot dc__law_pot pm__law_pot cd__law_pot ct__law_pot : Value}
    {f__law_take : Addr} {od__law_take an__law_take : Option Addr} {sl__law_take : Array (Option Value)} {oc__law_take kV__law_take dc__law_take pm__law_take cd__law_take ct__law_take : Value}
    {f__law_span : Addr} {od__law_span an__law_span : Option Addr} {sl__law_span : Array (Option Value)} {oc__law_span kV__law_span dc__law_span pm__law_span cd__law_span ct__law_span : Value}
    {f__law_book : Addr} {od__law_book an__law_book : Option Addr} {sl__law_book : Array (Option Value)} {oc__law_book kV__law_book dc__law_book pm__law_book cd__law_book ct__law_book : Value}
    {f__law_cell_at : Addr} {od__law_cell_at an__law_cell_at : Option Addr} {sl__law_cell_at : Array (Option Value)} {oc__law_cell_at kV__law_cell_at dc__law_cell_at pm__law_cell_at cd__law_cell_at ct__law_cell_at : Value}
    {f_is_whole : Addr} {od_is_whole an_is_whole : Option Addr} {sl_is_whole : Array (Option Value)} {oc_is_whole kV_is_whole dc_is_whole pm_is_whole cd_is_whole ct_is_whole : Value}
    {f_is_from_to : Addr} {od_is_from_to an_is_from_to : Option Addr} {sl_is_from_to : Array (Option Value)} {oc_is_from_to kV_is_from_to dc_is_from_to pm_is_from_to cd_is_from_to ct_is_from_to : Value}
    {f_is_lasting : Addr} {od_is_lasting an_is_lasting : Option Addr} {sl_is_lasting : Array (Option Value)} {oc_is_lasting kV_is_lasting dc_is_lasting pm_is_lasting cd_is_lasting ct_is_lasting : Value}
    {f_is_span : Addr} {od_is_span an_is_span : Option Addr} {sl_is_span : Array (Option Value)} {oc_is_span kV_is_span dc_is_span pm_is_span cd_is_span ct_is_span : Value}
    {f_is_book : Addr} {od_is_book an_is_book : Option Addr} {sl_is_book : Array (Option Value)} {oc_is_book kV_is_book dc_is_book pm_is_book cd_is_book ct_is_book : Value}
    {f_need_book : Addr} {od_need_book an_need_book : Option Addr} {sl_need_book : Array (Option Value)} {oc_need_book kV_need_book dc_need_book pm_need_book cd_need_book ct_need_book : Value}
    {f_need_plain : Addr} {od_need_plain an_need_plain : Option Addr} {sl_need_plain : Array (Option Value)} {oc_need_plain kV_need_plain dc_need_plain pm_need_plain cd_need_plain ct_need_plain : Value}
    {f_takers_of : Addr} {od_takers_of an_takers_of : Option Addr} {sl_takers_of : Array (Option Value)} {oc_takers_of kV_takers_of dc_takers_of pm_takers_of cd_takers_of ct_takers_of : Value}
    {f_givers_of : Addr} {od_givers_of an_givers_of : Option Addr} {sl_givers_of : Array (Option Value)} {oc_givers_of kV_givers_of dc_givers_of pm_givers_of cd_givers_of ct_givers_of : Value}
    {f_common : Addr} {od_common an_common : Option Addr} {sl_common : Array (Option Value)} {oc_common kV_common dc_common pm_common cd_common ct_common : Value}
    {f_put : Addr} {od_put an_put : Option Addr} {sl_put : Array (Option Value)} {oc_put kV_put dc_put pm_put cd_put ct_put : Value}
    {f_product : Addr} {od_product an_product : Option Addr} {sl_product : Array (Option Value)} {oc_product kV_product dc_product pm_product cd_product ct_product : Value}
    {f_sum_of : Addr} {od_sum_of an_sum_of : Option Addr} {sl_sum_of : Array (Option Value)} {oc_sum_of kV_sum_of dc_sum_of pm_sum_of cd_sum_of ct_sum_of : Value}
    {f_led_by : Addr} {od_led_by an_led_by : Option Addr} {sl_led_by : Array (Option Value)} {oc_led_by kV_led_by dc_led_by pm_led_by cd_led_by ct_led_by : Value}
    {f_weights : Addr} {od_weights an_weights : Option Addr} {sl_weights : Array (Option Value)} {oc_weights kV_weights dc_weights pm_weights cd_weights ct_weights : Value}
    {f__law_common : Addr} {od__law_common an__law_common : Option Addr} {sl__law_common : Array (Option Value)} {oc__law_common kV__law_common dc__law_common pm__law_common cd__law_common ct__law_common : Value}
    {f__law_put : Addr} {od__law_put an__law_put : Option Addr} {sl__law_put : Array (Option Value)} {oc__law_put kV__law_put dc__law_put pm__law_put cd__law_put ct__law_put : Value}
    {f__law_add : Addr} {od__law_add an__law_add : Option Addr} {sl__law_add : Array (Option Value)} {oc__law_add kV__law_add dc__law_add pm__law_add cd__law_add ct__law_add : Value}
    {f__law_sum : Addr} {od__law_sum an__law_sum : Option Addr} {sl__law_sum : Array (Option Value)} {oc__law_sum kV__law_sum dc__law_sum pm__law_sum cd__law_sum ct__law_sum : Value}
    {f__law_times : Addr} {od__law_times an__law_times : Option Addr} {sl__law_times : Array (Option Value)} {oc__law_times kV__law_times dc__law_times pm__law_times cd__law_times ct__law_times : Value}
    {f__law_due : Addr} {od__law_due an__law_due : Option Addr} {sl__law_due : Array (Option Value)} {oc__law_due kV__law_due dc__law_due pm__law_due cd__law_due ct__law_due : Value}
    {f_law : Addr} {od_law an_law : Option Addr} {sl_law : Array (Option Value)} {oc_law kV_law dc_law pm_law cd_law ct_law : Value}
    {p_KINDS : Addr} {dd_KINDS : Option Addr} {nn_KINDS : Nat} {ss_KINDS : Array (Option Value)} {t0_KINDS t1_KINDS t2_KINDS t3_KINDS : Tok}
    {t_MOST_AGE : Tok}
    {t_MOST_SPANS : Tok}
    {p_NOUGHT : Addr} {dd_NOUGHT : Option Addr} {nn_NOUGHT : Nat} {ss_NOUGHT : Array (Option Value)} {t0_NOUGHT t1_NOUGHT : Tok}
    {e_NoBook : Addr}
    {e_NoPlain : Addr}
    (a__law_pot : PySem.W.nsIn K mainGlobals "_law_pot" = some (some (.ref f__law_pot)))
    (l__law_pot : K.lookup f__law_pot = some ⟨oc__law_pot, od__law_pot, .func (PySem.W.fnOf "_law_pot" "_law_pot" (defArgs st__law_pot) (defBody st__law_pot) (defScope st__law_pot) .none kV__law_pot dc__law_pot pm__law_pot an__law_pot cd__law_pot ct__law_pot), sl__law_pot⟩)
    (c__law_pot : PySem.W.codeIn K cd__law_pot "_law_pot" = true)
    (k__law_pot : PySem.W.keepIn K (.ref f__law_pot) = true)
    (a__law_take : PySem.W.nsIn K mainGlobals "_law_take" = some (some (.ref f__law_take)))
    (l__law_take : K.lookup f__law_take = some ⟨oc__law_take, od__law_take, .func (PySem.W.fnOf "_law_take" "_law_take" (defArgs st__law_take) (defBody st__law_take) (defScope st__law_take) .none kV__law_take dc__law_take pm__law_take an__law_take cd__law_take ct__law_take), sl__law_take⟩)
    (c__law_take : PySem.W.codeIn K cd__law_take "_law_take" = true)
    (k__law_take : PySem.W.keepIn K (.ref f__law_take) = true)
    (a__law_span : PySem.W.nsIn K mainGlobals "_law_span" = some (some (.ref f__law_span)))
    (l__law_span : K.lookup f__law_span = some ⟨oc__law_span, od__law_span, .func (PySem.W.fnOf "_law_span" "_law_span" (defArgs st__law_span) (defBody st__law_span) (defScope st__law_span) .none kV__law_span dc__law_span pm__law_span an__law_span cd__law_span ct__law_span), sl__law_span⟩)
    (c__law_span : PySem.W.codeIn K cd__law_span "_law_span" = true)
    (k__law_span : PySem.W.keepIn K (.ref f__law_span) = true)
    (a__law_book : PySem.W.nsIn K mainGlobals "_law_book" = some (some (.ref f__law_book)))
    (l__law_book : K.lookup f__law_book = some ⟨oc__law_book, od__law_book, .func (PySem.W.fnOf "_law_book" "_law_book" (defArgs st__law_book) (defBody st__law_book) (defScope st__law_book) .none kV__law_book dc__law_book pm__law_book an__law_book cd__law_book ct__law_book), sl__law_book⟩)
    (c__law_book : PySem.W.codeIn K cd__law_book "_law_book" = true)
    (k__law_book : PySem.W.keepIn K (.ref f__law_book) = true)
    (a__law_cell_at : PySem.W.nsIn K mainGlobals "_law_cell_at" = some (some (.ref f__law_cell_at)))
    (l__law_cell_at : K.lookup f__law_cell_at = some ⟨oc__law_cell_at, od__law_cell_at, .func (PySem.W.fnOf "_law_cell_at" "_law_cell_at" (defArgs st__law_cell_at) (defBody st__law_cell_at) (defScope st__law_cell_at) .none kV__law_cell_at dc__law_cell_at pm__law_cell_at an__law_cell_at cd__law_cell_at ct__law_cell_at), sl__law_cell_at⟩)
    (c__law_cell_at : PySem.W.codeIn K cd__law_cell_at "_law_cell_at" = true)
    (k__law_cell_at : PySem.W.keepIn K (.ref f__law_cell_at) = true)
    (a_is_whole : PySem.W.nsIn K mainGlobals "is_whole" = some (some (.ref f_is_whole)))
    (l_is_whole : K.lookup f_is_whole = some ⟨oc_is_whole, od_is_whole, .func (PySem.W.fnOf "is_whole" "is_whole" (defArgs st_is_whole) (defBody st_is_whole) (defScope st_is_whole) .none kV_is_whole dc_is_whole pm_is_whole an_is_whole cd_is_whole ct_is_whole), sl_is_whole⟩)
    (c_is_whole : PySem.W.codeIn K cd_is_whole "is_whole" = true)
    (k_is_whole : PySem.W.keepIn K (.ref f_is_whole) = true)
    (a_is_from_to : PySem.W.nsIn K mainGlobals "is_from_to" = some (some (.ref f_is_from_to)))
    (l_is_from_to : K.lookup f_is_from_to = some ⟨oc_is_from_to, od_is_from_to, .func (PySem.W.fnOf "is_from_to" "is_from_to" (defArgs st_is_from_to) (defBody st_is_from_to) (defScope st_is_from_to) .none kV_is_from_to dc_is_from_to pm_is_from_to an_is_from_to cd_is_from_to ct_is_from_to), sl_is_from_to⟩)
    (c_is_from_to : PySem.W.codeIn K cd_is_from_to "is_from_to" = true)
    (k_is_from_to : PySem.W.keepIn K (.ref f_is_from_to) = true)
    (a_is_lasting : PySem.W.nsIn K mainGlobals "is_lasting" = some (some (.ref f_is_lasting)))
    (l_is_lasting : K.lookup f_is_lasting = some ⟨oc_is_lasting, od_is_lasting, .func (PySem.W.fnOf "is_lasting" "is_lasting" (defArgs st_is_lasting) (defBody st_is_lasting) (defScope st_is_lasting) .none kV_is_lasting dc_is_lasting pm_is_lasting an_is_lasting cd_is_lasting ct_is_lasting), sl_is_lasting⟩)
    (c_is_lasting : PySem.W.codeIn K cd_is_lasting "is_lasting" = true)
    (k_is_lasting : PySem.W.keepIn K (.ref f_is_lasting) = true)
    (a_is_span : PySem.W.nsIn K mainGlobals "is_span" = some (some (.ref f_is_span)))
    (l_is_span : K.lookup f_is_span = some ⟨oc_is_span, od_is_span, .func (PySem.W.fnOf "is_span" "is_span" (defArgs st_is_span) (defBody st_is_span) (defScope st_is_span) .none kV_is_span dc_is_span pm_is_span an_is_span cd_is_span ct_is_span), sl_is_span⟩)
    (c_is_span : PySem.W.codeIn K cd_is_span "is_span" = true)
    (k_is_span : PySem.W.keepIn K (.ref f_is_span) = true)
    (a_is_book : PySem.W.nsIn K mainGlobals "is_book" = some (some (.ref f_is_book)))
    (l_is_book : K.lookup f_is_book = some ⟨oc_is_book, od_is_book, .func (PySem.W.fnOf "is_book" "is_book" (defArgs st_is_book) (defBody st_is_book) (defScope st_is_book) .none kV_is_book dc_is_book pm_is_book an_is_book cd_is_book ct_is_book), sl_is_book⟩)
    (c_is_book : PySem.W.codeIn K cd_is_book "is_book" = true)
    (k_is_book : PySem.W.keepIn K (.ref f_is_book) = true)
    (a_need_book : PySem.W.nsIn K mainGlobals "need_book" = some (some (.ref f_need_book)))
    (l_need_book : K.lookup f_need_book = some ⟨oc_need_book, od_need_book, .func (PySem.W.fnOf "need_book" "need_book" (defArgs st_need_book) (defBody st_need_book) (defScope st_need_book) .none kV_need_book dc_need_book pm_need_book an_need_book cd_need_book ct_need_book), sl_need_book⟩)
    (c_need_book : PySem.W.codeIn K cd_need_book "need_book" = true)
    (k_need_book : PySem.W.keepIn K (.ref f_need_book) = true)
    (a_need_plain : PySem.W.nsIn K mainGlobals "need_plain" = some (some (.ref f_need_plain)))
    (l_need_plain : K.lookup f_need_plain = some ⟨oc_need_plain, od_need_plain, .func (PySem.W.fnOf "need_plain" "need_plain" (defArgs st_need_plain) (defBody st_need_plain) (defScope st_need_plain) .none kV_need_plain dc_need_plain pm_need_plain an_need_plain cd_need_plain ct_need_plain), sl_need_plain⟩)
    (c_need_plain : PySem.W.codeIn K cd_need_plain "need_plain" = true)
    (k_need_plain : PySem.W.keepIn K (.ref f_need_plain) = true)
    (a_takers_of : PySem.W.nsIn K mainGlobals "takers_of" = some (some (.ref f_takers_of)))
    (l_takers_of : K.lookup f_takers_of = some ⟨oc_takers_of, od_takers_of, .func (PySem.W.fnOf "takers_of" "takers_of" (defArgs st_takers_of) (defBody st_takers_of) (defScope st_takers_of) .none kV_takers_of dc_takers_of pm_takers_of an_takers_of cd_takers_of ct_takers_of), sl_takers_of⟩)
    (c_takers_of : PySem.W.codeIn K cd_takers_of "takers_of" = true)
    (k_takers_of : PySem.W.keepIn K (.ref f_takers_of) = true)
    (a_givers_of : PySem.W.nsIn K mainGlobals "givers_of" = some (some (.ref f_givers_of)))
    (l_givers_of : K.lookup f_givers_of = some ⟨oc_givers_of, od_givers_of, .func (PySem.W.fnOf "givers_of" "givers_of" (defArgs st_givers_of) (defBody st_givers_of) (defScope st_givers_of) .none kV_givers_of dc_givers_of pm_givers_of an_givers_of cd_givers_of ct_givers_of), sl_givers_of⟩)
    (c_givers_of : PySem.W.codeIn K cd_givers_of "givers_of" = true)
    (k_givers_of : PySem.W.keepIn K (.ref f_givers_of) = true)
    (a_common : PySem.W.nsIn K mainGlobals "common" = some (some (.ref f_common)))
    (l_common : K.lookup f_common = some ⟨oc_common, od_common, .func (PySem.W.fnOf "common" "common" (defArgs st_common) (defBody st_common) (defScope st_common) .none kV_common dc_common pm_common an_common cd_common ct_common), sl_common⟩)
    (c_common : PySem.W.codeIn K cd_common "common" = true)
    (k_common : PySem.W.keepIn K (.ref f_common) = true)
    (a_put : PySem.W.nsIn K mainGlobals "put" = some (some (.ref f_put)))
    (l_put : K.lookup f_put = some ⟨oc_put, od_put, .func (PySem.W.fnOf "put" "put" (defArgs st_put) (defBody st_put) (defScope st_put) .none kV_put dc_put pm_put an_put cd_put ct_put), sl_put⟩)
    (c_put : PySem.W.codeIn K cd_put "put" = true)
    (k_put : PySem.W.keepIn K (.ref f_put) = true)
    (a_product : PySem.W.nsIn K mainGlobals "product" = some (some (.ref f_product)))
    (l_product : K.lookup f_product = some ⟨oc_product, od_product, .func (PySem.W.fnOf "product" "product" (defArgs st_product) (defBody st_product) (defScope st_product) .none kV_product dc_product pm_product an_product cd_product ct_product), sl_product⟩)
    (c_product : PySem.W.codeIn K cd_product "product" = true)
    (k_product : PySem.W.keepIn K (.ref f_product) = true)
    (a_sum_of : PySem.W.nsIn K mainGlobals "sum_of" = some (some (.ref f_sum_of)))
    (l_sum_of : K.lookup f_sum_of = some ⟨oc_sum_of, od_sum_of, .func (PySem.W.fnOf "sum_of" "sum_of" (defArgs st_sum_of) (defBody st_sum_of) (defScope st_sum_of) .none kV_sum_of dc_sum_of pm_sum_of an_sum_of cd_sum_of ct_sum_of), sl_sum_of⟩)
    (c_sum_of : PySem.W.codeIn K cd_sum_of "sum_of" = true)
    (k_sum_of : PySem.W.keepIn K (.ref f_sum_of) = true)
    (a_led_by : PySem.W.nsIn K mainGlobals "led_by" = some (some (.ref f_led_by)))
    (l_led_by : K.lookup f_led_by = some ⟨oc_led_by, od_led_by, .func (PySem.W.fnOf "led_by" "led_by" (defArgs st_led_by) (defBody st_led_by) (defScope st_led_by) .none kV_led_by dc_led_by pm_led_by an_led_by cd_led_by ct_led_by), sl_led_by⟩)
    (c_led_by : PySem.W.codeIn K cd_led_by "led_by" = true)
    (k_led_by : PySem.W.keepIn K (.ref f_led_by) = true)
    (a_weights : PySem.W.nsIn K mainGlobals "weights" = some (some (.ref f_weights)))
    (l_weights : K.lookup f_weights = some ⟨oc_weights, od_weights, .func (PySem.W.fnOf "weights" "weights" (defArgs st_weights) (defBody st_weights) (defScope st_weights) .none kV_weights dc_weights pm_weights an_weights cd_weights ct_weights), sl_weights⟩)
    (c_weights : PySem.W.codeIn K cd_weights "weights" = true)
    (k_weights : PySem.W.keepIn K (.ref f_weights) = true)
    (a__law_common : PySem.W.nsIn K mainGlobals "_law_common" = some (some (.ref f__law_common)))
    (l__law_common : K.lookup f__law_common = some ⟨oc__law_common, od__law_common, .func (PySem.W.fnOf "_law_common" "_law_common" (defArgs st__law_common) (defBody st__law_common) (defScope st__law_common) .none kV__law_common dc__law_common pm__law_common an__law_common cd__law_common ct__law_common), sl__law_common⟩)
    (c__law_common : PySem.W.codeIn K cd__law_common "_law_common" = true)
    (k__law_common : PySem.W.keepIn K (.ref f__law_common) = true)
    (a__law_put : PySem.W.nsIn K mainGlobals "_law_put" = some (some (.ref f__law_put)))
    (l__law_put : K.lookup f__law_put = some ⟨oc__law_put, od__law_put, .func (PySem.W.fnOf "_law_put" "_law_put" (defArgs st__law_put) (defBody st__law_put) (defScope st__law_put) .none kV__law_put dc__law_put pm__law_put an__law_put cd__law_put ct__law_put), sl__law_put⟩)
    (c__law_put : PySem.W.codeIn K cd__law_put "_law_put" = true)
    (k__law_put : PySem.W.keepIn K (.ref f__law_put) = true)
    (a__law_add : PySem.W.nsIn K mainGlobals "_law_add" = some (some (.ref f__law_add)))
    (l__law_add : K.lookup f__law_add = some ⟨oc__law_add, od__law_add, .func (PySem.W.fnOf "_law_add" "_law_add" (defArgs st__law_add) (defBody st__law_add) (defScope st__law_add) .none kV__law_add dc__law_add pm__law_add an__law_add cd__law_add ct__law_add), sl__law_add⟩)
    (c__law_add : PySem.W.codeIn K cd__law_add "_law_add" = true)
    (k__law_add : PySem.W.keepIn K (.ref f__law_add) = true)
    (a__law_sum : PySem.W.nsIn K mainGlobals "_law_sum" = some (some (.ref f__law_sum)))
    (l__law_sum : K.lookup f__law_sum = some ⟨oc__law_sum, od__law_sum, .func (PySem.W.fnOf "_law_sum" "_law_sum" (defArgs st__law_sum) (defBody st__law_sum) (defScope st__law_sum) .none kV__law_sum dc__law_sum pm__law_sum an__law_sum cd__law_sum ct__law_sum), sl__law_sum⟩)
    (c__law_sum : PySem.W.codeIn K cd__law_sum "_law_sum" = true)
    (k__law_sum : PySem.W.keepIn K (.ref f__law_sum) = true)
    (a__law_times : PySem.W.nsIn K mainGlobals "_law_times" = some (some (.ref f__law_times)))
    (l__law_times : K.lookup f__law_times = some ⟨oc__law_times, od__law_times, .func (PySem.W.fnOf "_law_times" "_law_times" (defArgs st__law_times) (defBody st__law_times) (defScope st__law_times) .none kV__law_times dc__law_times pm__law_times an__law_times cd__law_times ct__law_times), sl__law_times⟩)
    (c__law_times : PySem.W.codeIn K cd__law_times "_law_times" = true)
    (k__law_times : PySem.W.keepIn K (.ref f__law_times) = true)
    (a__law_due : PySem.W.nsIn K mainGlobals "_law_due" = some (some (.ref f__law_due)))
    (l__law_due : K.lookup f__law_due = some ⟨oc__law_due, od__law_due, .func (PySem.W.fnOf "_law_due" "_law_due" (defArgs st__law_due) (defBody st__law_due) (defScope st__law_due) .none kV__law_due dc__law_due pm__law_due an__law_due cd__law_due ct__law_due), sl__law_due⟩)
    (c__law_due : PySem.W.codeIn K cd__law_due "_law_due" = true)
    (k__law_due : PySem.W.keepIn K (.ref f__law_due) = true)
    (a_law : PySem.W.nsIn K mainGlobals "law" = some (some (.ref f_law)))
    (l_law : K.lookup f_law = some ⟨oc_law, od_law, .func (PySem.W.fnOf "law" "law" (defArgs st_law) (defBody st_law) (defScope st_law) .none kV_law dc_law pm_law an_law cd_law ct_law), sl_law⟩)
    (c_law : PySem.W.codeIn K cd_law "law" = true)
    (k_law : PySem.W.keepIn K (.ref f_law) = true)
    (z_abs : PySem.W.nsIn K mainGlobals "abs" = some none)
    (z_all : PySem.W.nsIn K mainGlobals "all" = some none)
    (z_any : PySem.W.nsIn K mainGlobals "any" = some none)
    (z_bool : PySem.W.nsIn K mainGlobals "bool" = some none)
    (z_enumerate : PySem.W.nsIn K mainGlobals "enumerate" = some none)
    (z_int : PySem.W.nsIn K mainGlobals "int" = some none)
    (z_isinstance : PySem.W.nsIn K mainGlobals "isinstance" = some none)
    (z_len : PySem.W.nsIn K mainGlobals "len" = some none)
    (z_max : PySem.W.nsIn K mainGlobals "max" = some none)
    (z_min : PySem.W.nsIn K mainGlobals "min" = some none)
    (z_range : PySem.W.nsIn K mainGlobals "range" = some none)
    (z_repr : PySem.W.nsIn K mainGlobals "repr" = some none)
    (z_set : PySem.W.nsIn K mainGlobals "set" = some none)
    (z_sorted : PySem.W.nsIn K mainGlobals "sorted" = some none)
    (z_tuple : PySem.W.nsIn K mainGlobals "tuple" = some none)
    (n_KINDS : PySem.W.nsIn K mainGlobals "KINDS" = some (some (.ref p_KINDS)))
    (m_KINDS : K.lookup p_KINDS = some ⟨.type "tuple", dd_KINDS, .seq #[.int 1 t0_KINDS, .int 2 t1_KINDS, .int 3 t2_KINDS, .int 4 t3_KINDS] nn_KINDS, ss_KINDS⟩)
    (n_MOST_AGE : PySem.W.nsIn K mainGlobals "MOST_AGE" = some (some (.int 999 t_MOST_AGE)))
    (n_MOST_SPANS : PySem.W.nsIn K mainGlobals "MOST_SPANS" = some (some (.int 40 t_MOST_SPANS)))
    (n_NOUGHT : PySem.W.nsIn K mainGlobals "NOUGHT" = some (some (.ref p_NOUGHT)))
    (m_NOUGHT : K.lookup p_NOUGHT = some ⟨.type "tuple", dd_NOUGHT, .seq #[.int 0 t0_NOUGHT, .int 1 t1_NOUGHT] nn_NOUGHT, ss_NOUGHT⟩)
    (g_NoBook : PySem.W.nsIn K mainGlobals "NoBook" = some (some (.ref e_NoBook)))
    (q_NoBook : PySem.W.keepIn K (.ref e_NoBook) = true)
    (x_NoBook : PySem.W.excIn K e_NoBook veM "ValueError.__new__" = true)
    (b_NoBook : PySem.W.subIn K (.ref e_NoBook) (.type "BaseException") = some true)
    (t_NoBook : PySem.W.typeIn K (.ref e_NoBook) = some (.type "type"))
    (g_NoPlain : PySem.W.nsIn K mainGlobals "NoPlain" = some (some (.ref e_NoPlain)))
    (q_NoPlain : PySem.W.keepIn K (.ref e_NoPlain) = true)
    (x_NoPlain : PySem.W.excIn K e_NoPlain veM "ValueError.__new__" = true)
    (b_NoPlain : PySem.W.subIn K (.ref e_NoPlain) (.type "BaseException") = some true)
    (t_NoPlain : PySem.W.typeIn K (.ref e_NoPlain) = some (.type "type"))
    : Walked ts P w K mg fa "_law_script" 9 fun sem => sem = sem_law := by
  have e := hfa.symm.trans (PySem.W.mg_of X G a_law)
  cases e
  let T : Tb := ⟨K, w, fun _ => 0, fun i => [0, e_NoBook, e_NoPlain].getD i 0, [], none⟩
  have F__law_pot := fun_mk (st := st__law_pot) l__law_pot c__law_pot k__law_pot
  have B__law_pot : Binds K _ ["_law_cell"] [] := F__law_pot.binds (ps := ["_law_cell"]) fun _ _ _ _ _ _ us hl => match us, hl with | [_], _ => rfl
  have F__law_take := fun_mk (st := st__law_take) l__law_take c__law_take k__law_take
  have B__law_take : Binds K _ ["_law_pot_here", "_law_far"] [] := F__law_take.binds (ps := ["_law_pot_here", "_law_far"]) fun _ _ _ _ _ _ us hl => match us, hl with | [_, _], _ => rfl
  have F__law_span := fun_mk (st := st__law_span) l__law_span c__law_span k__law_span
  have B__law_span : Binds K _ ["_law_pot_here", "_law_late"] [] := F__law_span.binds (ps := ["_law_pot_here", "_law_late"]) fun _ _ _ _ _ _ us hl => match us, hl with | [_, _], _ => rfl
  have F__law_book := fun_mk (st := st__law_book) l__law_book c__law_book k__law_book
  have B__law_book : Binds K _ ["_law_pot_here", "_law_most", "_law_late"] [] := F__law_book.binds (ps := ["_law_pot_here", "_law_most", "_law_late"]) fun _ _ _ _ _ _ us hl => match us, hl with | [_, _, _], _ => rfl
  have F__law_cell_at := fun_mk (st := st__law_cell_at) l__law_cell_at c__law_cell_at k__law_cell_at
  have B__law_cell_at : Binds K _ ["_law_script", "_law_k"] [] := F__law_cell_at.binds (ps := ["_law_script", "_law_k"]) fun _ _ _ _ _ _ us hl => match us, hl with | [_, _], _ => rfl
  have F_is_whole := fun_mk (st := st_is_whole) l_is_whole c_is_whole k_is_whole
  have B_is_whole : Binds K _ ["thing"] [] := F_is_whole.binds (ps := ["thing"]) fun _ _ _ _ _ _ us hl => match us, hl with | [_], _ => rfl
  have F_is_from_to := fun_mk (st := st_is_from_to) l_is_from_to c_is_from_to k_is_from_to
  have B_is_from_to : Binds K _ ["thing", "low", "high"] [] := F_is_from_to.binds (ps := ["thing", "low", "high"]) fun _ _ _ _ _ _ us hl => match us, hl with | [_, _, _], _ => rfl
  have F_is_lasting := fun_mk (st := st_is_lasting) l_is_lasting c_is_lasting k_is_lasting
  have B_is_lasting : Binds K _ ["thing", "most"] [] := F_is_lasting.binds (ps := ["thing", "most"]) fun _ _ _ _ _ _ us hl => match us, hl with | [_, _], _ => rfl
  have F_is_span := fun_mk (st := st_is_span) l_is_span c_is_span k_is_span
  have B_is_span : Binds K _ ["thing"] [] := F_is_span.binds (ps := ["thing"]) fun _ _ _ _ _ _ us hl => match us, hl with | [_], _ => rfl
  have F_is_book := fun_mk (st := st_is_book) l_is_book c_is_book k_is_book
  have B_is_book : Binds K _ ["thing"] [] := F_is_book.binds (ps := ["thing"]) fun _ _ _ _ _ _ us hl => match us, hl with | [_], _ => rfl
  have F_need_book := fun_mk (st := st_need_book) l_need_book c_need_book k_need_book
  have B_need_book : Binds K _ ["thing"] [] := F_need_book.binds (ps := ["thing"]) fun _ _ _ _ _ _ us hl => match us, hl with | [_], _ => rfl
  have F_need_plain := fun_mk (st := st_need_plain) l_need_plain c_need_plain k_need_plain
  have B_need_plain : Binds K _ ["thing"] [] := F_need_plain.binds (ps := ["thing"]) fun _ _ _ _ _ _ us hl => match us, hl with | [_], _ => rfl
  have F_takers_of := fun_mk (st := st_takers_of) l_takers_of c_takers_of k_takers_of
  have B_takers_of : Binds K _ ["book", "giver"] [] := F_takers_of.binds (ps := ["book", "giver"]) fun _ _ _ _ _ _ us hl => match us, hl with | [_, _], _ => rfl
  have F_givers_of := fun_mk (st := st_givers_of) l_givers_of c_givers_of k_givers_of
  have B_givers_of : Binds K _ ["book"] [] := F_givers_of.binds (ps := ["book"]) fun _ _ _ _ _ _ us hl => match us, hl with | [_], _ => rfl
  have F_common := fun_mk (st := st_common) l_common c_common k_common
  have B_common : Binds K _ ["one", "other"] [] := F_common.binds (ps := ["one", "other"]) fun _ _ _ _ _ _ us hl => match us, hl with | [_, _], _ => rfl
  have F_put := fun_mk (st := st_put) l_put c_put k_put
  have B_put : Binds K _ ["top", "bottom"] [] := F_put.binds (ps := ["top", "bottom"]) fun _ _ _ _ _ _ us hl => match us, hl with | [_, _], _ => rfl
  have F_product := fun_mk (st := st_product) l_product c_product k_product
  have B_product : Binds K _ ["one", "other"] [] := F_product.binds (ps := ["one", "other"]) fun _ _ _ _ _ _ us hl => match us, hl with | [_, _], _ => rfl
  have F_sum_of := fun_mk (st := st_sum_of) l_sum_of c_sum_of k_sum_of
  have B_sum_of : Binds K _ ["one", "other"] [] := F_sum_of.binds (ps := ["one", "other"]) fun _ _ _ _ _ _ us hl => match us, hl with | [_, _], _ => rfl
  have F_led_by := fun_mk (st := st_led_by) l_led_by c_led_by k_led_by
  have B_led_by : Binds K _ ["book"] [] := F_led_by.binds (ps := ["book"]) fun _ _ _ _ _ _ us hl => match us, hl with | [_], _ => rfl
  have F_weights := fun_mk (st := st_weights) l_weights c_weights k_weights
  have B_weights : Binds K _ ["book"] [] := F_weights.binds (ps := ["book"]) fun _ _ _ _ _ _ us hl => match us, hl with | [_], _ => rfl
  have F__law_common := fun_mk (st := st__law_common) l__law_common c__law_common k__law_common
  have B__law_common : Binds K _ ["_law_one", "_law_other"] [] := F__law_common.binds (ps := ["_law_one", "_law_other"]) fun _ _ _ _ _ _ us hl => match us, hl with | [_, _], _ => rfl
  have F__law_put := fun_mk (st := st__law_put) l__law_put c__law_put k__law_put
  have B__law_put : Binds K _ ["_law_top", "_law_bottom"] [] := F__law_put.binds (ps := ["_law_top", "_law_bottom"]) fun _ _ _ _ _ _ us hl => match us, hl with | [_, _], _ => rfl
  have F__law_add := fun_mk (st := st__law_add) l__law_add c__law_add k__law_add
  have B__law_add : Binds K _ ["_law_one", "_law_other"] [] := F__law_add.binds (ps := ["_law_one", "_law_other"]) fun _ _ _ _ _ _ us hl => match us, hl with | [_, _], _ => rfl
  have F__law_sum := fun_mk (st := st__law_sum) l__law_sum c__law_sum k__law_sum
  have B__law_sum : Binds K _ ["_law_some"] [] := F__law_sum.binds (ps := ["_law_some"]) fun _ _ _ _ _ _ us hl => match us, hl with | [_], _ => rfl
  have F__law_times := fun_mk (st := st__law_times) l__law_times c__law_times k__law_times
  have B__law_times : Binds K _ ["_law_one", "_law_other"] [] := F__law_times.binds (ps := ["_law_one", "_law_other"]) fun _ _ _ _ _ _ us hl => match us, hl with | [_, _], _ => rfl
  have F__law_due := fun_mk (st := st__law_due) l__law_due c__law_due k__law_due
  have B__law_due : Binds K _ ["_law_book_here"] [] := F__law_due.binds (ps := ["_law_book_here"]) fun _ _ _ _ _ _ us hl => match us, hl with | [_], _ => rfl
  have F_law := fun_mk (st := st_law) l_law c_law k_law
  have g : Gv mg T := ⟨PySem.W.mg_none_of X G z_abs,
    PySem.W.mg_none_of X G z_all,
    PySem.W.mg_none_of X G z_any,
    PySem.W.mg_none_of X G z_bool,
    PySem.W.mg_none_of X G z_enumerate,
    PySem.W.mg_none_of X G z_int,
    PySem.W.mg_none_of X G z_isinstance,
    PySem.W.mg_none_of X G z_len,
    PySem.W.mg_none_of X G z_max,
    PySem.W.mg_none_of X G z_min,
    PySem.W.mg_none_of X G z_range,
    PySem.W.mg_none_of X G z_repr,
    PySem.W.mg_none_of X G z_set,
    PySem.W.mg_none_of X G z_sorted,
    PySem.W.mg_none_of X G z_tuple,
    ⟨_, .ref p_KINDS, PySem.W.mg_of X G n_KINDS, rfl, fun _ _ => .tup (xs := [(.int (1)), (.int (2)), (.int (3)), (.int (4))]) (.inr ⟨_, _, _, m_KINDS, rfl, rfl, Nat.le_of_ble_eq_true rfl, (.cons (show L2.RelV (.int (1)) _ from ⟨_, rfl⟩) (.cons (show L2.RelV (.int (2)) _ from ⟨_, rfl⟩) (.cons (show L2.RelV (.int (3)) _ from ⟨_, rfl⟩) (.cons (show L2.RelV (.int (4)) _ from ⟨_, rfl⟩) .nil))))⟩) (.cons (.int _) (.cons (.int _) (.cons (.int _) (.cons (.int _) .nil))))⟩,
    ⟨_, .int 999, PySem.W.mg_of X G n_MOST_AGE, ⟨_, rfl⟩, fun _ _ => .int _⟩,
    ⟨_, .int 40, PySem.W.mg_of X G n_MOST_SPANS, ⟨_, rfl⟩, fun _ _ => .int _⟩,
    ⟨_, .ref p_NOUGHT, PySem.W.mg_of X G n_NOUGHT, rfl, fun _ _ => .tup (xs := [(.int (0)), (.int (1))]) (.inr ⟨_, _, _, m_NOUGHT, rfl, rfl, Nat.le_of_ble_eq_true rfl, (.cons (show L2.RelV (.int (0)) _ from ⟨_, rfl⟩) (.cons (show L2.RelV (.int (1)) _ from ⟨_, rfl⟩) .nil))⟩) (.cons (.int _) (.cons (.int _) .nil))⟩,
    ⟨PySem.W.mg_of X G g_NoBook, q_NoBook, x_NoBook, b_NoBook, t_NoBook⟩,
    ⟨PySem.W.mg_of X G g_NoPlain, q_NoPlain, x_NoPlain, b_NoPlain, t_NoPlain⟩⟩
  refine ⟨?fd, T, sem_law, [], rfl, rfl, ?bd, no_tabs rfl, fun base _ _ sm _ => ?mn, rfl⟩
  rotate_left 2
  have E__law_pot : FnE P w mg base T "_law_pot" 1 1 sem__law_pot := fn_e F__law_pot sc__law_pot rfl (PySem.W.mg_of X G a__law_pot) B__law_pot rfl sm fun X1 W1 H1 e1 e2 e3 e4 a1 k1 f1 c1 => by
    subst e1 e2 e3 e4
    exact b__law_pot a1 k1 f1 c1 g
  have E__law_take : FnE P w mg base T "_law_take" 1 2 sem__law_take := fn_e F__law_take sc__law_take rfl (PySem.W.mg_of X G a__law_take) B__law_take rfl sm fun X1 W1 H1 e1 e2 e3 e4 a1 k1 f1 c1 => by
    subst e1 e2 e3 e4
    exact b__law_take a1 k1 f1 c1 g
  have E__law_span : FnE P w mg base T "_law_span" 2 2 sem__law_span := fn_e F__law_span sc__law_span rfl (PySem.W.mg_of X G a__law_span) B__law_span rfl sm fun X1 W1 H1 e1 e2 e3 e4 a1 k1 f1 c1 => by
    subst e1 e2 e3 e4
    exact b__law_span a1 k1 f1 c1 g E__law_take
  have E__law_book : FnE P w mg base T "_law_book" 3 3 sem__law_book := fn_e F__law_book sc__law_book rfl (PySem.W.mg_of X G a__law_book) B__law_book rfl sm fun X1 W1 H1 e1 e2 e3 e4 a1 k1 f1 c1 => by
    subst e1 e2 e3 e4
    exact b__law_book a1 k1 f1 c1 g E__law_take E__law_span
  have E__law_cell_at : FnE P w mg base T "_law_cell_at" 1 2 sem__law_cell_at := fn_e F__law_cell_at sc__law_cell_at rfl (PySem.W.mg_of X G a__law_cell_at) B__law_cell_at rfl sm fun X1 W1 H1 e1 e2 e3 e4 a1 k1 f1 c1 => by
    subst e1 e2 e3 e4
    exact b__law_cell_at a1 k1 f1 c1 g
  have E_is_whole : FnE P w mg base T "is_whole" 1 1 sem_is_whole := fn_e F_is_whole sc_is_whole rfl (PySem.W.mg_of X G a_is_whole) B_is_whole rfl sm fun X1 W1 H1 e1 e2 e3 e4 a1 k1 f1 c1 => by
    subst e1 e2 e3 e4
    exact b_is_whole a1 k1 f1 c1 g
  have E_is_from_to : FnE P w mg base T "is_from_to" 2 3 sem_is_from_to := fn_e F_is_from_to sc_is_from_to rfl (PySem.W.mg_of X G a_is_from_to) B_is_from_to rfl sm fun X1 W1 H1 e1 e2 e3 e4 a1 k1 f1 c1 => by
    subst e1 e2 e3 e4
    exact b_is_from_to a1 k1 f1 c1 g E_is_whole
  have E_is_lasting : FnE P w mg base T "is_lasting" 3 2 sem_is_lasting := fn_e F_is_lasting sc_is_lasting rfl (PySem.W.mg_of X G a_is_lasting) B_is_lasting rfl sm fun X1 W1 H1 e1 e2 e3 e4 a1 k1 f1 c1 => by
    subst e1 e2 e3 e4
    exact b_is_lasting a1 k1 f1 c1 g E_is_from_to
  have E_is_span : FnE P w mg base T "is_span" 4 1 sem_is_span := fn_e F_is_span sc_is_span rfl (PySem.W.mg_of X G a_is_span) B_is_span rfl sm fun X1 W1 H1 e1 e2 e3 e4 a1 k1 f1 c1 => by
    subst e1 e2 e3 e4
    exact b_is_span a1 k1 f1 c1 g E_is_lasting
  have E_is_book : FnE P w mg base T "is_book" 5 1 sem_is_book := fn_e F_is_book sc_is_book rfl (PySem.W.mg_of X G a_is_book) B_is_book rfl sm fun X1 W1 H1 e1 e2 e3 e4 a1 k1 f1 c1 => by
    subst e1 e2 e3 e4
    exact b_is_book a1 k1 f1 c1 g E_is_span
  have E_need_book : FnE P w mg base T "need_book" 6 1 sem_need_book := fn_e F_need_book sc_need_book rfl (PySem.W.mg_of X G a_need_book) B_need_book rfl sm fun X1 W1 H1 e1 e2 e3 e4 a1 k1 f1 c1 => by
    subst e1 e2 e3 e4
    exact b_need_book a1 k1 f1 c1 g E_is_book
  have E_need_plain : FnE P w mg base T "need_plain" 7 1 sem_need_plain := fn_e F_need_plain sc_need_plain rfl (PySem.W.mg_of X G a_need_plain) B_need_plain rfl sm fun X1 W1 H1 e1 e2 e3 e4 a1 k1 f1 c1 => by
    subst e1 e2 e3 e4
    exact b_need_plain a1 k1 f1 c1 g E_need_book
  have E_takers_of : FnE P w mg base T "takers_of" 1 2 sem_takers_of := fn_e F_takers_of sc_takers_of rfl (PySem.W.mg_of X G a_takers_of) B_takers_of rfl sm fun X1 W1 H1 e1 e2 e3 e4 a1 k1 f1 c1 => by
    subst e1 e2 e3 e4
    exact b_takers_of a1 k1 f1 c1 g
  have E_givers_of : FnE P w mg base T "givers_of" 2 1 sem_givers_of := fn_e F_givers_of sc_givers_of rfl (PySem.W.mg_of X G a_givers_of) B_givers_of rfl sm fun X1 W1 H1 e1 e2 e3 e4 a1 k1 f1 c1 => by
    subst e1 e2 e3 e4
    exact b_givers_of a1 k1 f1 c1 g E_takers_of
  have E_common : FnE P w mg base T "common" 1 2 sem_common := fn_e F_common sc_common rfl (PySem.W.mg_of X G a_common) B_common rfl sm fun X1 W1 H1 e1 e2 e3 e4 a1 k1 f1 c1 => by
    subst e1 e2 e3 e4
    exact b_common a1 k1 f1 c1 g
  have E_put : FnE P w mg base T "put" 2 2 sem_put := fn_e F_put sc_put rfl (PySem.W.mg_of X G a_put) B_put rfl sm fun X1 W1 H1 e1 e2 e3 e4 a1 k1 f1 c1 => by
    subst e1 e2 e3 e4
    exact b_put a1 k1 f1 c1 g E_common
  have E_product : FnE P w mg base T "product" 3 2 sem_product := fn_e F_product sc_product rfl (PySem.W.mg_of X G a_product) B_product rfl sm fun X1 W1 H1 e1 e2 e3 e4 a1 k1 f1 c1 => by
    subst e1 e2 e3 e4
    exact b_product a1 k1 f1 c1 g E_put
  have E_sum_of : FnE P w mg base T "sum_of" 3 2 sem_sum_of := fn_e F_sum_of sc_sum_of rfl (PySem.W.mg_of X G a_sum_of) B_sum_of rfl sm fun X1 W1 H1 e1 e2 e3 e4 a1 k1 f1 c1 => by
    subst e1 e2 e3 e4
    exact b_sum_of a1 k1 f1 c1 g E_put
  have E_led_by : FnE P w mg base T "led_by" 4 1 sem_led_by := fn_e F_led_by sc_led_by rfl (PySem.W.mg_of X G a_led_by) B_led_by rfl sm fun X1 W1 H1 e1 e2 e3 e4 a1 k1 f1 c1 => by
    subst e1 e2 e3 e4
    exact b_led_by a1 k1 f1 c1 g E_givers_of E_takers_of E_product E_put E_sum_of
  have E_weights : FnE P w mg base T "weights" 8 1 sem_weights := fn_e F_weights sc_weights rfl (PySem.W.mg_of X G a_weights) B_weights rfl sm fun X1 W1 H1 e1 e2 e3 e4 a1 k1 f1 c1 => by
    subst e1 e2 e3 e4
    exact b_weights a1 k1 f1 c1 g E_need_plain E_led_by
  have E__law_common : FnE P w mg base T "_law_common" 1 2 sem__law_common := fn_e F__law_common sc__law_common rfl (PySem.W.mg_of X G a__law_common) B__law_common rfl sm fun X1 W1 H1 e1 e2 e3 e4 a1 k1 f1 c1 => by
    subst e1 e2 e3 e4
    exact b__law_common a1 k1 f1 c1 g
  have E__law_put : FnE P w mg base T "_law_put" 2 2 sem__law_put := fn_e F__law_put sc__law_put rfl (PySem.W.mg_of X G a__law_put) B__law_put rfl sm fun X1 W1 H1 e1 e2 e3 e4 a1 k1 f1 c1 => by
    subst e1 e2 e3 e4
    exact b__law_put a1 k1 f1 c1 g E__law_common
  have E__law_add : FnE P w mg base T "_law_add" 3 2 sem__law_add := fn_e F__law_add sc__law_add rfl (PySem.W.mg_of X G a__law_add) B__law_add rfl sm fun X1 W1 H1 e1 e2 e3 e4 a1 k1 f1 c1 => by
    subst e1 e2 e3 e4
    exact b__law_add a1 k1 f1 c1 g E__law_put
  have E__law_sum : FnE P w mg base T "_law_sum" 4 1 sem__law_sum := fn_e F__law_sum sc__law_sum rfl (PySem.W.mg_of X G a__law_sum) B__law_sum rfl sm fun X1 W1 H1 e1 e2 e3 e4 a1 k1 f1 c1 => by
    subst e1 e2 e3 e4
    exact b__law_sum a1 k1 f1 c1 g E__law_add
  have E__law_times : FnE P w mg base T "_law_times" 3 2 sem__law_times := fn_e F__law_times sc__law_times rfl (PySem.W.mg_of X G a__law_times) B__law_times rfl sm fun X1 W1 H1 e1 e2 e3 e4 a1 k1 f1 c1 => by
    subst e1 e2 e3 e4
    exact b__law_times a1 k1 f1 c1 g E__law_put
  have E__law_due : FnE P w mg base T "_law_due" 5 1 sem__law_due := fn_e F__law_due sc__law_due rfl (PySem.W.mg_of X G a__law_due) B__law_due rfl sm fun X1 W1 H1 e1 e2 e3 e4 a1 k1 f1 c1 => by
    subst e1 e2 e3 e4
    exact b__law_due a1 k1 f1 c1 g E__law_put E__law_sum E__law_add E__law_times
  have z1 := fun zz => @fn_g T P w K mg base 8 1 "law" "law" st_law _ _ N_law ["_law_script"] pr_law m_law F_law sc_law rfl rfl rfl sm zz
  refine z1 fun X1 W1 H1 e1 e2 _ e4 e5 e6 e7 e8 e9 c1 => ?_
  · subst e1 e2 e4 e5
    exact b_law ⟨e6, e7⟩ e8 (fun x => by rw [e9]) c1 g E__law_pot E__law_book E__law_cell_at E_weights E__law_due
  exact fun s u => .of_eq rfl
end Lw

set_option maxHeartbeats 0 in
theorem PySem.Challenge.cw_outlasts_k21_what_spans_weigh_holds : PySem.Challenge.rw_outlasts_k21_what_spans_weigh.Holds := by
  w_on; o_law; k_head; (case hw => w_witness2)
  k_fill
  refine DL.walk_g [] (l := PySem.Challenge.rw_outlasts_k21_what_spans_weigh) (n := 63) (k := 9) (x := "_law_script") rfl (by decide) rfl ⟨rfl, by decide, by decide⟩ (by decide +kernel) (fun w h Y => PySem.W.kIn_of Y) (fun _ _ _ _ hp => absurd hp List.not_mem_nil) ?F
  case F =>
    intro w mg fa h KX G hmg
    refine' DL.fin_g Lw.law_true (Lw.all_mk (P := PySem.Challenge.rw_outlasts_k21_what_spans_weigh.prog) (w := w) KX G hmg ?a__law_pot ?l__law_pot ?c__law_pot ?k__law_pot ?a__law_take ?l__law_take ?c__law_take ?k__law_take ?a__law_span ?l__law_span ?c__law_span ?k__law_span ?a__law_book ?l__law_book ?c__law_book ?k__law_book ?a__law_cell_at ?l__law_cell_at ?c__law_cell_at ?k__law_cell_at ?a_is_whole ?l_is_whole ?c_is_whole ?k_is_whole ?a_is_from_to ?l_is_from_to ?c_is_from_to ?k_is_from_to ?a_is_lasting ?l_is_lasting ?c_is_lasting ?k_is_lasting ?a_is_span ?l_is_span ?c_is_span ?k_is_span ?a_is_book ?l_is_book ?c_is_book ?k_is_book ?a_need_book ?l_need_book ?c_need_book ?k_need_book ?a_need_plain ?l_need_plain ?c_need_plain ?k_need_plain ?a_takers_of ?l_takers_of ?c_takers_of ?k_takers_of ?a_givers_of ?l_givers_of ?c_givers_of ?k_givers_of ?a_common ?l_common ?c_common ?k_common ?a_put ?l_put ?c_put ?k_put ?a_product ?l_product ?c_product ?k_product ?a_sum_of ?l_sum_of ?c_sum_of ?k_sum_of ?a_led_by ?l_led_by ?c_led_by ?k_led_by ?a_weights ?l_weights ?c_weights ?k_weights ?a__law_common ?l__law_common ?c__law_common ?k__law_common ?a__law_put ?l__law_put ?c__law_put ?k__law_put ?a__law_add ?l__law_add ?c__law_add ?k__law_add ?a__law_sum ?l__law_sum ?c__law_sum ?k__law_sum ?a__law_times ?l__law_times ?c__law_times ?k__law_times ?a__law_due ?l__law_due ?c__law_due ?k__law_due ?a_law ?l_law ?c_law ?k_law ?z_abs ?z_all ?z_any ?z_bool ?z_enumerate ?z_int ?z_isinstance ?z_len ?z_max ?z_min ?z_range ?z_repr ?z_set ?z_sorted ?z_tuple ?n_KINDS ?m_KINDS ?n_MOST_AGE ?n_MOST_SPANS ?n_NOUGHT ?m_NOUGHT ?g_NoBook ?q_NoBook ?x_NoBook ?b_NoBook ?t_NoBook ?g_NoPlain ?q_NoPlain ?x_NoPlain ?b_NoPlain ?t_NoPlain)
    (case a__law_pot => k_is)
    (case l__law_pot => k_is)
    (case c__law_pot => k_is)
    (case k__law_pot => k_is)
    (case a__law_take => k_is)
    (case l__law_take => k_is)
    (case c__law_take => k_is)
    (case k__law_take => k_is)
    (case a__law_span => k_is)
    (case l__law_span => k_is)
    (case c__law_span => k_is)
    (case k__law_span => k_is)
    (case a__law_book => k_is)
    (case l__law_book => k_is)
    (case c__law_book => k_is)
    (case k__law_book => k_is)
    (case a__law_cell_at => k_is)
    (case l__law_cell_at => k_is)
    (case c__law_cell_at => k_is)
    (case k__law_cell_at => k_is)
    (case a_is_whole => k_is)
    (case l_is_whole => k_is)
    (case c_is_whole => k_is)
    (case k_is_whole => k_is)
    (case a_is_from_to => k_is)
    (case l_is_from_to => k_is)
    (case c_is_from_to => k_is)
    (case k_is_from_to => k_is)
    (case a_is_lasting => k_is)
    (case l_is_lasting => k_is)
    (case c_is_lasting => k_is)
    (case k_is_lasting => k_is)
    (case a_is_span => k_is)
    (case l_is_span => k_is)
    (case c_is_span => k_is)
    (case k_is_span => k_is)
    (case a_is_book => k_is)
    (case l_is_book => k_is)
    (case c_is_book => k_is)
    (case k_is_book => k_is)
    (case a_need_book => k_is)
    (case l_need_book => k_is)
    (case c_need_book => k_is)
    (case k_need_book => k_is)
    (case a_need_plain => k_is)
    (case l_need_plain => k_is)
    (case c_need_plain => k_is)
    (case k_need_plain => k_is)
    (case a_takers_of => k_is)
    (case l_takers_of => k_is)
    (case c_takers_of => k_is)
    (case k_takers_of => k_is)
    (case a_givers_of => k_is)
    (case l_givers_of => k_is)
    (case c_givers_of => k_is)
    (case k_givers_of => k_is)
    (case a_common => k_is)
    (case l_common => k_is)
    (case c_common => k_is)
    (case k_common => k_is)
    (case a_put => k_is)
    (case l_put => k_is)
    (case c_put => k_is)
    (case k_put => k_is)
    (case a_product => k_is)
    (case l_product => k_is)
    (case c_product => k_is)
    (case k_product => k_is)
    (case a_sum_of => k_is)
    (case l_sum_of => k_is)
    (case c_sum_of => k_is)
    (case k_sum_of => k_is)
    (case a_led_by => k_is)
    (case l_led_by => k_is)
    (case c_led_by => k_is)
    (case k_led_by => k_is)
    (case a_weights => k_is)
    (case l_weights => k_is)
    (case c_weights => k_is)
    (case k_weights => k_is)
    (case a__law_common => k_is)
    (case l__law_common => k_is)
    (case c__law_common => k_is)
    (case k__law_common => k_is)
    (case a__law_put => k_is)
    (case l__law_put => k_is)
    (case c__law_put => k_is)
    (case k__law_put => k_is)
    (case a__law_add => k_is)
    (case l__law_add => k_is)
    (case c__law_add => k_is)
    (case k__law_add => k_is)
    (case a__law_sum => k_is)
    (case l__law_sum => k_is)
    (case c__law_sum => k_is)
    (case k__law_sum => k_is)
    (case a__law_times => k_is)
    (case l__law_times => k_is)
    (case c__law_times => k_is)
    (case k__law_times => k_is)
    (case a__law_due => k_is)
    (case l__law_due => k_is)
    (case c__law_due => k_is)
    (case k__law_due => k_is)
    (case a_law => k_is)
    (case l_law => k_is)
    (case c_law => k_is)
    (case k_law => k_is)
    (case z_abs => k_is)
    (case z_all => k_is)
    (case z_any => k_is)
    (case z_bool => k_is)
    (case z_enumerate => k_is)
    (case z_int => k_is)
    (case z_isinstance => k_is)
    (case z_len => k_is)
    (case z_max => k_is)
    (case z_min => k_is)
    (case z_range => k_is)
    (case z_repr => k_is)
    (case z_set => k_is)
    (case z_sorted => k_is)
    (case z_tuple => k_is)
    (case n_KINDS => k_is)
    (case m_KINDS => k_is)
    (case n_MOST_AGE => k_is)
    (case n_MOST_SPANS => k_is)
    (case n_NOUGHT => k_is)
    (case m_NOUGHT => k_is)
    (case g_NoBook => k_is)
    (case q_NoBook => k_is)
    (case x_NoBook => k_exc)
    (case b_NoBook => k_is)
    (case t_NoBook => k_is)
    (case g_NoPlain => k_is)
    (case q_NoPlain => k_is)
    (case x_NoPlain => k_exc)
    (case b_NoPlain => k_is)
    (case t_NoPlain => k_is)
