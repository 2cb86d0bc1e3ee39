import PyProof.Rows.All
import Wide.All
import OpenK.AllK
import Wide.FinOn
import HandS.ForMost
import HandS.ForExc
import HandS.CallSlots
import HandS.Wide
import HandS.ExcInit
import HandS.IsInst
import HandS.Strs
import HandS.Zip
import HandS.TupAny
import HandS.TupMul
import HandS.Conv
import HandS.Lambda
import HandS.Style
import HandS.RaiseMore
import KE.KNestM
import HandS.SetBool
import HandS.SetFor
import PyProof.ZipIter
import HandS.Zip0
import KE.GoesEnumKw
import PyProof.Draws
import PyProof.EnumMake
import HandS.Deep
import HandS.SortInts
import HandS.Defaults
import HandS.TupSets
import HandS.HotCalls
import HandS.ExcIs
import KE.DataMinMax
import KE.SortKeyed
import HandS.SortKw
import KE.KDictWalk
import HandS.TupLen
import HandS.More
import HandS.ExcField
import KE.KExcIs
import HandS.Text
import HandS.FStr
import HandS.Iter
import HandS.StrMore
import HandS.CallRecv
import HandS.ListItems
import OpenK.KOps
import PyProof.FactsAll.object_2
import HandS.SlotsOwn
import KE.KTab
import KE.KUnpackStar
import HandS.Flow
import HandS.Head0
import HandS.Head1
import HandS.Head2
import HandS.HeadHook1
import HandS.HeadHook2
import KE.GoesEnum
import KE.KItemsList
import HandS.ExcCtx
import HandS.ExcValue
import PySem.Challenge.RW_outlasts_k04_errors_of_one_family
set_option Elab.async false
set_option linter.all false
set_option maxRecDepth 100000
set_option maxHeartbeats 4000000
namespace DL
open PySem L2
/-- the key of a dict as data -/
def kD : Key → PyData
  | .inl i => .int i
  | .inr x => .str x
/-- the key of a dict by tuples of whole numbers -/
def kT (k : List Int) : PyData := .tuple (k.map PyData.int)
/-- a dict known to the object -/
def DTo (a : Addr) (o : Obj) : HO := .ext fun h => h.get? a = some o
/-- its entries: key, the key's tuple, value -/
abbrev Ent := List Key × Addr × Value
structure EsOk (a : Addr) (o : Obj) (xs : List Ent) : Prop where
  sm : (a == sysModules) = false
  ex : o.ExactDict
  es : ∃ es ep, o.data = .dict es ep ∧ ∀ (P : Program) (w : World), es.toList = xs.map (entryOfKey (tupleKind (mixKind P w)))
  nd : (xs.map (·.1)).Nodup
  sz : xs.length ≤ sizeLine
  ne : xs ≠ []
/-- a list of the written part -/
def WrL (K : PySem.W.Frag) (a : Addr) (xs : List V) : Prop := ∃ its n, K.lookup a = some { cls := Value.type "list", data := Data.seq its n } ∧ its.size ≤ sizeLine ∧ Vals xs its.toList ∧ a ≠ sysModules
/-- a list to be read -/
def LsR (K : PySem.W.Frag) (H : Hp) (a : Addr) (xs : List V) : Prop := Rd H a (.lst xs) ∨ WrL K a xs
theorem LsR.sq {K : PySem.W.Frag} {H : Hp} {a : Addr} {xs : List V} (h : LsR K H a xs) : SqL K H a xs := by
  rcases h with h | ⟨its, n, h1, h2, h3, _⟩
  · exact .inl h
  · exact .inr ⟨_, its, n, h1, rfl, rfl, rfl, h2, h3⟩
mutual
/-- v reads as d; its lists and dicts stand in the region F of what is never changed -/
inductive DF (K : PySem.W.Frag) (H : Hp) (F : Addr → Prop) : V → PyData → Prop where
  | non : DF K H F .non .none
  | bl (b : Bool) : DF K H F (.bl b) (.bool b)
  | int (i : Int) : DF K H F (.int i) (.int i)
  | str (x : Str) : DF K H F (.str x) (.str x)
  | lst {a : Addr} {xs : List V} {ds : List PyData} : F a → Rd H a (.lst xs) → DFs K H F xs ds → DF K H F (.ref a) (.list ds)
  | lstK {a : Addr} {xs : List V} {ds : List PyData} : WrL K a xs → DFs K H F xs ds → DF K H F (.ref a) (.list ds)
  | tup {a : Addr} {xs : List V} {ds : List PyData} : SqT K H a xs → DFs K H F xs ds → DF K H F (.ref a) (.tuple ds)
  | dct {a : Addr} {ks : List (Key × V)} {ds : List (PyData × PyData)} : F a → Rd H a (.dK ks) → DFk K H F ks ds → DF K H F (.ref a) (.dict ds)
  | dcT {a : Addr} {o : Obj} {xs : List Ent} {ds : List (PyData × PyData)} : F a → H a = some (DTo a o) → EsOk a o xs → DFt K H F xs ds → DF K H F (.ref a) (.dict ds)
inductive DFs (K : PySem.W.Frag) (H : Hp) (F : Addr → Prop) : List V → List PyData → Prop where
  | nil : DFs K H F [] []
  | cons {v : V} {d : PyData} {vs : List V} {ds : List PyData} : DF K H F v d → DFs K H F vs ds → DFs K H F (v :: vs) (d :: ds)
inductive DFk (K : PySem.W.Frag) (H : Hp) (F : Addr → Prop) : List (Key × V) → List (PyData × PyData) → Prop where
  | nil : DFk K H F [] []
  | cons {k : Key} {v : V} {d : PyData} {vs : List (Key × V)} {ds : List (PyData × PyData)} : DF K H F v d → DFk K H F vs ds → DFk K H F ((k, v) :: vs) ((kD k, d) :: ds)
inductive DFt (K : PySem.W.Frag) (H : Hp) (F : Addr → Prop) : List Ent → List (PyData × PyData) → Prop where
  | nil : DFt K H F [] []
  | cons {k : List Int} {q : Addr} {v : V} {u : Value} {d : PyData} {vs : List Ent} {ds : List (PyData × PyData)} : SqT K H q (k.map V.int) → L2.RelV v u → DF K H F v d → DFt K H F vs ds → DFt K H F ((k.map Sum.inl, q, u) :: vs) ((kT k, d) :: ds)
end
/-- an object that never changes by itself -/
def Still : HO → Prop
  | .tup _ => True
  | .frz _ _ => True
  | .xd _ => True
  | .ins _ _ _ => True
  | _ => False
/-- no table of code objects -/
def NT : HO → Prop
  | .tbl _ => False
  | _ => True
/-- neither a table nor a code object -/
def NC (o : HO) : Prop := NT o ∧ ∀ c q, o ≠ LamX.CodeO c q
/-- what the region and the still things hold stays -/
def Kept (F : Addr → Prop) (H H' : Hp) : Prop := ∀ b o, H b = some o → ((F b ∧ NT o) ∨ Still o) → H' b = some o
theorem Kept.refl {F : Addr → Prop} {H : Hp} : Kept F H H := fun _ _ h _ => h
theorem Kept.rdF {F : Addr → Prop} {H H' : Hp} {a : Addr} {u : HO} (k : Kept F H H') (hF : F a) (r : Rd H a u) (nt : NT u := by trivial) : Rd H' a u := by
  rcases r with r | ⟨o, r⟩
  · exact .inl (k _ _ r (.inl ⟨hF, nt⟩))
  · exact .inr ⟨o, k _ _ r (.inl ⟨hF, trivial⟩)⟩
theorem Kept.sqT {K : PySem.W.Frag} {F : Addr → Prop} {H H' : Hp} {a : Addr} {xs : List V} (k : Kept F H H') (r : SqT K H a xs) : SqT K H' a xs := by
  rcases r with (r | ⟨o, r⟩) | r
  · exact .inl (.inl (k _ _ r (.inr trivial)))
  · exact .inl (.inr ⟨o, k _ _ r (.inr trivial)⟩)
  · exact .inr r
section
variable {K : PySem.W.Frag} {H H' : Hp} {F F' : Addr → Prop}
mutual
theorem DF.mono (k : Kept F H H') (g : ∀ b, F b → F' b) : ∀ {v : V} {d : PyData}, DF K H F v d → DF K H' F' v d
  | _, _, .non => .non
  | _, _, .bl b => .bl b
  | _, _, .int i => .int i
  | _, _, .str x => .str x
  | _, _, .lst f r s => .lst (g _ f) (k.rdF f r) (DFs.mono k g s)
  | _, _, .lstK r s => .lstK r (DFs.mono k g s)
  | _, _, .tup r s => .tup (k.sqT r) (DFs.mono k g s)
  | _, _, .dct f r s => .dct (g _ f) (k.rdF f r) (DFk.mono k g s)
  | _, _, .dcT f r e s => .dcT (g _ f) (k _ _ r (.inl ⟨f, trivial⟩)) e (DFt.mono k g s)
theorem DFs.mono (k : Kept F H H') (g : ∀ b, F b → F' b) : ∀ {vs : List V} {ds : List PyData}, DFs K H F vs ds → DFs K H' F' vs ds
  | _, _, .nil => .nil
  | _, _, .cons a b => .cons (DF.mono k g a) (DFs.mono k g b)
theorem DFk.mono (k : Kept F H H') (g : ∀ b, F b → F' b) : ∀ {vs : List (Key × V)} {ds : List (PyData × PyData)}, DFk K H F vs ds → DFk K H' F' vs ds
  | _, _, .nil => .nil
  | _, _, .cons a b => .cons (DF.mono k g a) (DFk.mono k g b)
theorem DFt.mono (k : Kept F H H') (g : ∀ b, F b → F' b) : ∀ {vs : List Ent} {ds : List (PyData × PyData)}, DFt K H F vs ds → DFt K H' F' vs ds
  | _, _, .nil => .nil
  | _, _, .cons q r a b => .cons (k.sqT q) r (DF.mono k g a) (DFt.mono k g b)
end
theorem DFs.length : ∀ {vs : List V} {ds : List PyData}, DFs K H F vs ds → vs.length = ds.length
  | _, _, .nil => rfl
  | _, _, .cons _ b => by rw [List.length_cons, List.length_cons, DFs.length b]
theorem DFs.append : ∀ {vs us : List V} {ds es : List PyData}, DFs K H F vs ds → DFs K H F us es → DFs K H F (vs ++ us) (ds ++ es)
  | _, _, _, _, .nil, h => h
  | _, _, _, _, .cons a b, h => .cons a (DFs.append b h)
theorem DFs.get : ∀ {vs : List V} {ds : List PyData} {i : Nat} {d : PyData}, DFs K H F vs ds → ds[i]? = some d → ∃ v, vs[i]? = some v ∧ DF K H F v d
  | _, _, _, _, .nil, e => by simp at e
  | _, _, 0, _, .cons a _, e => by simp at e; subst e; exact ⟨_, rfl, a⟩
  | _, _, i + 1, d, .cons _ b, e => by
    obtain ⟨v, h1, h2⟩ := DFs.get (i := i) (d := d) b (by simpa using e)
    exact ⟨v, by simpa using h1, h2⟩
theorem DFs.set {v : V} {d : PyData} (h : DF K H F v d) : ∀ {vs : List V} {ds : List PyData} (i : Nat), DFs K H F vs ds → DFs K H F (vs.set i v) (ds.set i d)
  | _, _, _, .nil => .nil
  | _, _, 0, .cons _ b => .cons h b
  | _, _, i + 1, .cons a b => .cons a (DFs.set h i b)
theorem DFs.take : ∀ {vs : List V} {ds : List PyData} (n : Nat), DFs K H F vs ds → DFs K H F (vs.take n) (ds.take n)
  | _, _, 0, _ => .nil
  | _, _, _ + 1, .nil => .nil
  | _, _, n + 1, .cons a b => .cons a (DFs.take n b)
theorem DFs.drop : ∀ {vs : List V} {ds : List PyData} (n : Nat), DFs K H F vs ds → DFs K H F (vs.drop n) (ds.drop n)
  | _, _, 0, h => h
  | _, _, _ + 1, .nil => .nil
  | _, _, n + 1, .cons _ b => DFs.drop n b
theorem DFs.reverse : ∀ {vs : List V} {ds : List PyData}, DFs K H F vs ds → DFs K H F vs.reverse ds.reverse
  | _, _, .nil => .nil
  | _, _, .cons a b => by
    rw [List.reverse_cons, List.reverse_cons]
    exact DFs.append (DFs.reverse b) (.cons a .nil)
theorem DFs.dropLast {vs : List V} {ds : List PyData} (h : DFs K H F vs ds) : DFs K H F vs.dropLast ds.dropLast := by
  rw [List.dropLast_eq_take, List.dropLast_eq_take, h.length]
  exact h.take _
theorem DFs.ints : ∀ {vs : List V} {ns : List Int}, DFs K H F vs (ns.map PyData.int) → vs = ns.map V.int
  | _, [], .nil => rfl
  | _, n :: r, .cons a b => by
    cases a
    rw [List.map_cons, DFs.ints b]
theorem DFs.of_ints : ∀ (ns : List Int), DFs K H F (ns.map V.int) (ns.map PyData.int)
  | [] => .nil
  | n :: r => .cons (.int n) (DFs.of_ints r)
theorem DFs.bools : ∀ {vs : List V} {ns : List Bool}, DFs K H F vs (ns.map PyData.bool) → vs = ns.map V.bl
  | _, [], .nil => rfl
  | _, n :: r, .cons a b => by
    cases a
    rw [List.map_cons, DFs.bools b]
end
/-- an object of an own class: what its lists hold -/
inductive OD where
  /-- a ledger -/
  | led (ts ss : List PyData)
  /-- a desk: its ledger -/
  | dsk (ts ss : List PyData)
  /-- a pair of a ledger and a list -/
  | pr (ts ss ds : List PyData)
  /-- a list of ledgers (b) or desks; none: the one is elsewhere just now -/
  | many (b : Bool) (xs : List (Option (List PyData × List PyData)))
  /-- a list of exceptions -/
  | exs (cs : List (Nat × List PyData))
inductive R where
  | dat (d : PyData)
  /-- a list or dict that one slot alone holds -/
  | own (d : PyData)
  /-- what slot i holds -/
  | slt (i : Nat)
  | fn (k : Nat)
  /-- a set of ints -/
  | st (xs : List Int)
  /-- an exception that was caught -/
  | ex (c : Nat) (fs : List PyData)
  /-- a new pair of two new lists -/
  | two (d e : PyData)
  /-- an object that one slot alone holds -/
  | obj (o : OD)
  /-- a list that an object in slot i holds: which one -/
  | prt (i k : Nat)
abbrev Rho := List (Option R)
/-- the text's own things: the written part, the defs' places, the classes' places -/
structure Tb where
  K : PySem.W.Frag
  w : World
  fa : Nat → Addr
  ca : Nat → Addr
  /-- the tables of the defs that make lambdas -/
  tb : List (Addr × Str) := []
  /-- the exception that a suite holds: its place, its class, its dict -/
  hot : Option (Addr × Nat × Option Addr) := none
  /-- the classes of ledgers and desks -/
  lc : Addr := 0
  dc : Addr := 0
/-- a list or a dict at a, held by one alone -/
def OwnAt (K : PySem.W.Frag) (H : Hp) (F : Addr → Prop) (a : Addr) : PyData → Prop
  | .list ds => ∃ vs, H a = some (.lst vs) ∧ DFs K H F vs ds
  | .dict ds => (∃ ks, H a = some (.dK ks) ∧ DFk K H F ks ds) ∨ ∃ o xs, H a = some (DTo a o) ∧ EsOk a o xs ∧ DFt K H F xs ds
  | _ => False
def SetAt (w : World) (H : Hp) (a : Addr) (xs : List Int) : Prop := ∃ S, H a = some (SetO w a S xs.length) ∧ xs.Nodup ∧ ∀ k, S k = true ↔ k ∈ xs
/-- an exception object's fields -/
def ExcR (T : Tb) (H : Hp) (cls : Value) (d : Option Addr) (c : Nat) (fs : List PyData) : Prop :=
  cls = .ref (T.ca c) ∧ match fs with
    | [] => d = none
    | [.int m, .int n] => ∃ x, d = some x ∧ H x = some (.xd [("most", .int n), ("many", .int m)])
    | _ => False
/-- the fields of a ledger -/
def ledF (t s : Addr) : List (Str × V) := [("tellings", .ref t), ("stood", .ref s)]
/-- a ledger; L: the places of its lists -/
def LedAt (T : Tb) (H : Hp) (F : Addr → Prop) (L : List Addr) (v : V) (ts ss : List PyData) : Prop :=
  ∃ a dx t s, v = .ref a ∧ L = [t, s] ∧ t ≠ s ∧ H a = some (.ins T.lc dx (ledF t s)) ∧ OwnAt T.K H F t (.list ts) ∧ OwnAt T.K H F s (.list ss)
def DskAt (T : Tb) (H : Hp) (F : Addr → Prop) (L : List Addr) (v : V) (ts ss : List PyData) : Prop :=
  ∃ b dx a, v = .ref b ∧ H b = some (.ins T.dc dx [("kept", .ref a)]) ∧ LedAt T H F L (.ref a) ts ss
def OneAt (T : Tb) (H : Hp) (F : Addr → Prop) (b : Bool) (L : List Addr) (v : V) (ts ss : List PyData) : Prop := if b = true then LedAt T H F L v ts ss else DskAt T H F L v ts ss
inductive ManyAt (T : Tb) (H : Hp) (F : Addr → Prop) (b : Bool) : List (List Addr) → List V → List (Option (List PyData × List PyData)) → Prop where
  | nil : ManyAt T H F b [] [] []
  | hole {v : V} {Ls : List (List Addr)} {vs : List V} {xs : List (Option (List PyData × List PyData))} : ManyAt T H F b Ls vs xs → ManyAt T H F b ([] :: Ls) (v :: vs) (none :: xs)
  | cons {L : List Addr} {v : V} {ts ss : List PyData} {Ls : List (List Addr)} {vs : List V} {xs : List (Option (List PyData × List PyData))} : OneAt T H F b L v ts ss → ManyAt T H F b Ls vs xs → ManyAt T H F b (L :: Ls) (v :: vs) (some (ts, ss) :: xs)
/-- an exception that stands in the heap -/
def ExAt (T : Tb) (H : Hp) (F : Addr → Prop) (v : V) (c : Nat) (fs : List PyData) : Prop := ∃ a d, v = .ref a ∧ F a ∧ H a = some (L2.exo a (T.ca c) d) ∧ ExcR T H (.ref (T.ca c)) d c fs
inductive ExsAt (T : Tb) (H : Hp) (F : Addr → Prop) : List V → List (Nat × List PyData) → Prop where
  | nil : ExsAt T H F [] []
  | cons {v : V} {c : Nat} {fs : List PyData} {vs : List V} {cs : List (Nat × List PyData)} : ExAt T H F v c fs → ExsAt T H F vs cs → ExsAt T H F (v :: vs) ((c, fs) :: cs)
def ObjAt (T : Tb) (H : Hp) (F : Addr → Prop) (L : List Addr) (v : V) : OD → Prop
  | .led ts ss => LedAt T H F L v ts ss
  | .dsk ts ss => DskAt T H F L v ts ss
  | .pr ts ss ds => ∃ p a l L0, v = .ref p ∧ H p = some (.tup [.ref a, .ref l]) ∧ LedAt T H F L0 (.ref a) ts ss ∧ L = l :: L0 ∧ l ∉ L0 ∧ OwnAt T.K H F l (.list ds)
  | .many b xs => ∃ p vs Ls, v = .ref p ∧ F p ∧ H p = some (.lst vs) ∧ L = Ls.flatten ∧ Ls.flatten.Nodup ∧ ManyAt T H F b Ls vs xs
  | .exs cs => ∃ p vs, v = .ref p ∧ F p ∧ H p = some (.lst vs) ∧ L = [] ∧ ExsAt T H F vs cs
def SlotR (T : Tb) (H : Hp) (F : Addr → Prop) (oa : List Addr) (v : V) : R → Prop
  | .dat d => oa = [] ∧ DF T.K H F v d
  | .own d => ∃ a, oa = [a] ∧ v = .ref a ∧ OwnAt T.K H F a d
  | .slt _ => False
  | .fn k => oa = [] ∧ v = .ref (T.fa k)
  | .st xs => ∃ a, oa = [a] ∧ v = .ref a ∧ SetAt T.w H a xs
  | .ex c fs => oa = [] ∧ ∃ a d, v = .ref a ∧ T.hot = some (a, c, d) ∧ ExcR T H (.ref (T.ca c)) d c fs
  | .two _ _ => False
  | .obj o => ObjAt T H F oa v o
  | .prt _ _ => False
structure EnvR (T : Tb) (H : Hp) (F : Addr → Prop) (O : Nat → List Addr) (σ : L2.St) (ρ : Rho) : Prop where
  len : ρ.length = σ.length
  at_ : ∀ i r, ρ[i]? = some (some r) → ∃ v, σ[i]? = some (some v) ∧ SlotR T H F (O i) v r
  own : ∀ i a, a ∈ O i → ∃ r, ρ[i]? = some (some r)
  inj : ∀ i j a, a ∈ O i → a ∈ O j → i = j
  nf : ∀ i a, a ∈ O i → ¬ F a
  lv : ∀ b, F b → H b ≠ none
  tb : LamX.Tabs T.tb H
/-- what a stretch of the run leaves; s: whether slots may be stored in it -/
structure Ext (s : Bool) (H : Hp) (F : Addr → Prop) (O : Nat → List Addr) (H' : Hp) (F' : Addr → Prop) (O' : Nat → List Addr) : Prop where
  keep : ∀ b o, H b = some o → (∀ i, b ∉ O i) → NT o → H' b = some o
  live : ∀ b, H' b = none → H b = none
  grow : ∀ b, F b → F' b
  new : ∀ b, F' b → F b ∨ (∃ i, b ∈ O i) ∨ H b = none
  own : ∀ i b, b ∈ O' i → b ∈ O i ∨ (s = true ∧ ((∃ j, b ∈ O j) ∨ H b = none))
theorem Ext.refl {s : Bool} {H : Hp} {F : Addr → Prop} {O : Nat → List Addr} : Ext s H F O H F O :=
  ⟨fun _ _ h _ _ => h, fun _ h => h, fun _ h => h, fun _ h => .inl h, fun _ _ h => .inl h⟩
theorem Ext.ow {s : Bool} {H H' : Hp} {F F' : Addr → Prop} {O O' : Nat → List Addr} (x : Ext s H F O H' F' O') {i : Nat} {b : Addr} (h : b ∈ O' i) : (∃ j, b ∈ O j) ∨ H b = none :=
  (x.own i b h).elim (fun z => .inl ⟨i, z⟩) fun z => z.2
theorem Ext.up {s : Bool} {H H' : Hp} {F F' : Addr → Prop} {O O' : Nat → List Addr} (x : Ext false H F O H' F' O') : Ext s H F O H' F' O' :=
  ⟨x.keep, x.live, x.grow, x.new, fun i b h => (x.own i b h).elim .inl fun z => nomatch z.1⟩
theorem Ext.trans {s : Bool} {H H1 H2 : Hp} {F F1 F2 : Addr → Prop} {O O1 O2 : Nat → List Addr} (a : Ext s H F O H1 F1 O1) (b : Ext s H1 F1 O1 H2 F2 O2) : Ext s H F O H2 F2 O2 := by
  refine ⟨fun c o h n z => b.keep c o (a.keep c o h n z) (fun i e => ?_) z, fun c h => a.live c (b.live c h), fun c h => b.grow c (a.grow c h), fun c h => ?_, fun i c h => ?_⟩
  · rcases a.ow e with ⟨j, q⟩ | q
    · exact n j q
    · rw [h] at q; cases q
  · rcases b.new c h with q | ⟨i, q⟩ | q
    · exact a.new c q
    · rcases a.ow q with z | z
      · exact .inr (.inl z)
      · exact .inr (.inr z)
    · exact .inr (.inr (a.live c q))
  · rcases b.own i c h with q | ⟨hs, ⟨j, q⟩ | q⟩
    · exact a.own i c q
    · exact .inr ⟨hs, a.ow q⟩
    · exact .inr ⟨hs, .inr (a.live c q)⟩
section
variable {T : Tb} {H H' : Hp} {F F' : Addr → Prop} {O O' : Nat → List Addr} {σ : L2.St} {ρ : Rho}
theorem OwnAt.there {K : PySem.W.Frag} {a : Addr} : ∀ {d : PyData}, OwnAt K H F a d → ∃ o, H a = some o ∧ ¬ Still o
  | .list _, ⟨_, h, _⟩ => ⟨_, h, fun z => z⟩
  | .dict _, .inl ⟨_, h, _⟩ => ⟨_, h, fun z => z⟩
  | .dict _, .inr ⟨_, _, h, _⟩ => ⟨_, h, fun z => z⟩
theorem LedAt.there {L : List Addr} {v : V} {ts ss : List PyData} (h : LedAt T H F L v ts ss) {b : Addr} (hb : b ∈ L) : ∃ o, H b = some o ∧ ¬ Still o := by
  obtain ⟨a, dx, t, s, rfl, rfl, ne, h1, h2, h3⟩ := h
  simp only [List.mem_cons, List.not_mem_nil, or_false] at hb
  rcases hb with rfl | rfl
  · exact h2.there
  · exact h3.there
theorem OneAt.there {b : Bool} {L : List Addr} {v : V} {ts ss : List PyData} (h : OneAt T H F b L v ts ss) {c : Addr} (hc : c ∈ L) : ∃ o, H c = some o ∧ ¬ Still o := by
  unfold OneAt at h
  split at h
  · exact h.there hc
  · obtain ⟨_, _, _, _, _, h⟩ := h; exact h.there hc
theorem ManyAt.there {b : Bool} {Ls : List (List Addr)} {vs : List V} {xs : List (Option (List PyData × List PyData))} (h : ManyAt T H F b Ls vs xs) {c : Addr} (hc : c ∈ Ls.flatten) : ∃ o, H c = some o ∧ ¬ Still o := by
  induction h with
  | nil => cases hc
  | hole _ ih => exact ih (by simpa using hc)
  | cons q _ ih =>
    rw [List.flatten_cons, List.mem_append] at hc
    rcases hc with hc | hc
    · exact q.there hc
    · exact ih hc
theorem ObjAt.there {L : List Addr} {v : V} : ∀ {o : OD}, ObjAt T H F L v o → ∀ {b : Addr}, b ∈ L → ∃ o, H b = some o ∧ ¬ Still o
  | .led _ _, h, _, hb => LedAt.there h hb
  | .dsk _ _, ⟨_, _, _, _, _, h⟩, _, hb => h.there hb
  | .pr _ _ _, ⟨p, a, l, L0, _, _, h, e, _, q⟩, _, hb => by
    rw [e] at hb
    rcases List.mem_cons.mp hb with rfl | hb
    · exact q.there
    · exact h.there hb
  | .many _ _, ⟨p, vs, Ls, _, _, _, e, _, h⟩, _, hb => by
    rw [e] at hb
    exact h.there hb
  | .exs _, ⟨p, vs, _, _, _, e, _⟩, _, hb => by rw [e] at hb; cases hb
theorem SetAt.there {w : World} {a : Addr} {xs : List Int} (h : SetAt w H a xs) : ∃ o, H a = some o ∧ ¬ Still o := by
  obtain ⟨S, h, _⟩ := h
  exact ⟨_, h, fun z => z⟩
/-- what a slot alone holds stands in the heap and may change -/
theorem SlotR.there {oa : List Addr} {v : V} {a : Addr} (h : a ∈ oa) : ∀ {r : R}, SlotR T H F oa v r → ∃ o, H a = some o ∧ ¬ Still o
  | .dat _, ⟨z, _⟩ => by rw [z] at h; cases h
  | .own _, ⟨b, z, _, q⟩ => by rw [z] at h; cases List.mem_singleton.mp h; exact q.there
  | .fn _, ⟨z, _⟩ => by rw [z] at h; cases h
  | .st _, ⟨b, z, _, q⟩ => by rw [z] at h; cases List.mem_singleton.mp h; exact q.there
  | .ex _ _, ⟨z, _⟩ => by rw [z] at h; cases h
  | .obj _, q => ObjAt.there q h
theorem EnvR.there (E : EnvR T H F O σ ρ) {i : Nat} {a : Addr} (h : a ∈ O i) : ∃ o, H a = some o ∧ ¬ Still o := by
  obtain ⟨r, e⟩ := E.own i a h
  obtain ⟨v, _, s⟩ := E.at_ i r e
  exact s.there h
theorem still_nt : ∀ {o : HO}, Still o → NT o
  | .tup _, _ => trivial
  | .frz _ _, _ => trivial
  | .xd _, _ => trivial
  | .ins _ _ _, _ => trivial
/-- a stretch keeps the region and the still things -/
theorem EnvR.kept {s : Bool} (E : EnvR T H F O σ ρ) (x : Ext s H F O H' F' O') : Kept F H H' := fun b o h q => x.keep b o h (fun i e => by
  rcases q with q | q
  · exact E.nf i b e q.1
  · obtain ⟨o', h', n⟩ := E.there e
    rw [h] at h'; cases h'
    exact n q) (q.elim (fun z => z.2) still_nt)
/-- a set's object is no code object -/
theorem set_nc {w : World} {a : Addr} {S : Int → Bool} {n : Nat} : NC (SetO w a S n) := by
  refine ⟨trivial, fun c q e => ?_⟩
  have e1 : (HO.ext fun h => SetR w h a S n) = HO.ext fun h => ∃ (oc : Obj) (vs : Array Value) (t : Tok), h.get? c = some oc ∧ oc.data = .fields vs ∧ vs[1]? = some (.str q t) := e
  injection e1 with e2
  by_cases hac : a = c
  · subst hac
    have g : Heap.get? ⟨Array.replicate (a + 1) ⟨.none, none, .fields #[.none, .str q default], #[]⟩, {}⟩ a = some ⟨.none, none, .fields #[.none, .str q default], #[]⟩ := by
      unfold Heap.get?
      simp
    have z := (congrFun e2 ⟨Array.replicate (a + 1) ⟨.none, none, .fields #[.none, .str q default], #[]⟩, {}⟩).mpr ⟨_, _, default, g, rfl, rfl⟩
    obtain ⟨o, es, ep, t, h1, _, h2, _⟩ := z
    rw [g] at h1
    cases h1
    cases h2
  · have g : Heap.get? ⟨((Array.replicate (a + c + 1) ⟨.none, none, .freed, #[]⟩).set! c ⟨.none, none, .fields #[.none, .str q default], #[]⟩), {}⟩ c = some ⟨.none, none, .fields #[.none, .str q default], #[]⟩ := by
      unfold Heap.get?
      simp [Array.getElem?_setIfInBounds]
      omega
    have g' : Heap.get? ⟨((Array.replicate (a + c + 1) ⟨.none, none, .freed, #[]⟩).set! c ⟨.none, none, .fields #[.none, .str q default], #[]⟩), {}⟩ a = none := by
      unfold Heap.get?
      simp [Array.getElem?_setIfInBounds, Ne.symm hac]
      rw [Array.getElem?_replicate, if_pos (by omega)]
    have z := (congrFun e2 _).mpr ⟨_, _, default, g, rfl, rfl⟩
    obtain ⟨o, es, ep, t, h1, _⟩ := z
    rw [g'] at h1
    cases h1
theorem lst_nc {vs : List V} : NC (.lst vs) := ⟨trivial, fun _ _ e => by unfold LamX.CodeO at e; cases e⟩
theorem dK_nc {vs : List (Key × V)} : NC (.dK vs) := ⟨trivial, fun _ _ e => by unfold LamX.CodeO at e; cases e⟩
theorem dTo_nc {a : Addr} {o : Obj} (x : o.ExactDict) (hd : ∃ es ep, o.data = .dict es ep) : NC (DTo a o) := by
  refine ⟨trivial, fun c q e => ?_⟩
  have e1 : (HO.ext fun h => h.get? a = some o) = HO.ext fun h => ∃ (oc : Obj) (vs : Array Value) (t : Tok), h.get? c = some oc ∧ oc.data = .fields vs ∧ vs[1]? = some (.str q t) := e
  injection e1 with e2
  obtain ⟨es, ep, hd⟩ := hd
  have g : Heap.get? ⟨((Array.replicate (a + 1) ⟨.none, none, .freed, #[]⟩).set! a o), {}⟩ a = some o := by
    unfold Heap.get?
    simp
    obtain ⟨oc, od, dt, sl⟩ := o
    simp only at hd
    subst hd
    rfl
  obtain ⟨oc, vs, t, h1, h2, _⟩ := (congrFun e2 _).mp g
  by_cases hac : c = a
  · subst hac
    rw [g] at h1
    cases h1
    rw [hd] at h2
    cases h2
  · have g' : Heap.get? ⟨((Array.replicate (a + 1) ⟨.none, none, .freed, #[]⟩).set! a o), {}⟩ c = none := by
      unfold Heap.get?
      simp [Array.getElem?_setIfInBounds, Ne.symm hac]
      by_cases hl : c < a + 1
      · rw [Array.getElem?_replicate, if_pos hl]
      · rw [Array.getElem?_replicate, if_neg hl]
    rw [g'] at h1
    cases h1
/-- what one alone holds is no table -/
theorem OwnAt.nc {K : PySem.W.Frag} {a : Addr} {o : HO} (ho : H a = some o) : ∀ {d : PyData}, OwnAt K H F a d → NC o
  | .list _, ⟨_, h, _⟩ => by rw [ho] at h; cases h; exact lst_nc
  | .dict _, .inl ⟨_, h, _⟩ => by rw [ho] at h; cases h; exact dK_nc
  | .dict _, .inr ⟨_, _, h, e, _⟩ => by
    rw [ho] at h
    cases h
    obtain ⟨es, ep, hd, _⟩ := e.es
    exact dTo_nc e.ex ⟨es, ep, hd⟩
theorem SetAt.nc {w : World} {a : Addr} {o : HO} {xs : List Int} (ho : H a = some o) (h : SetAt w H a xs) : NC o := by
  obtain ⟨S, h, _⟩ := h
  rw [ho] at h; cases h; exact set_nc
theorem LedAt.nc {L : List Addr} {v : V} {ts ss : List PyData} {o : HO} (h : LedAt T H F L v ts ss) {b : Addr} (hb : b ∈ L) (ho : H b = some o) : NC o := by
  obtain ⟨a, dx, t, s, rfl, rfl, ne, h1, h2, h3⟩ := h
  simp only [List.mem_cons, List.not_mem_nil, or_false] at hb
  rcases hb with rfl | rfl
  · exact h2.nc ho
  · exact h3.nc ho
theorem OneAt.nc {b : Bool} {L : List Addr} {v : V} {ts ss : List PyData} (h : OneAt T H F b L v ts ss) {c : Addr} {o : HO} (hc : c ∈ L) (ho : H c = some o) : NC o := by
  unfold OneAt at h
  split at h
  · exact h.nc hc ho
  · obtain ⟨_, _, _, _, _, h⟩ := h; exact h.nc hc ho
theorem ManyAt.nc {b : Bool} {Ls : List (List Addr)} {vs : List V} {xs : List (Option (List PyData × List PyData))} (h : ManyAt T H F b Ls vs xs) {c : Addr} {o : HO} (hc : c ∈ Ls.flatten) (ho : H c = some o) : NC o := by
  induction h with
  | nil => cases hc
  | hole _ ih => exact ih (by simpa using hc)
  | cons q _ ih =>
    rw [List.flatten_cons, List.mem_append] at hc
    rcases hc with hc | hc
    · exact q.nc hc ho
    · exact ih hc
theorem ObjAt.nc {L : List Addr} {v : V} {b : Addr} {u : HO} (hb : b ∈ L) (ho : H b = some u) : ∀ {o : OD}, ObjAt T H F L v o → NC u
  | .led _ _, h => LedAt.nc h hb ho
  | .dsk _ _, ⟨_, _, _, _, _, h⟩ => h.nc hb ho
  | .pr _ _ _, ⟨p, a, l, L0, _, _, h, e, _, q⟩ => by
    rw [e] at hb
    rcases List.mem_cons.mp hb with rfl | hb
    · exact q.nc ho
    · exact h.nc hb ho
  | .many _ _, ⟨p, vs, Ls, _, _, _, e, _, h⟩ => by
    rw [e] at hb
    exact h.nc hb ho
  | .exs _, ⟨p, vs, _, _, _, e, _⟩ => by rw [e] at hb; cases hb
theorem SlotR.nc {oa : List Addr} {v : V} {a : Addr} {o : HO} (h : a ∈ oa) (ho : H a = some o) : ∀ {r : R}, SlotR T H F oa v r → NC o
  | .dat _, ⟨z, _⟩ => by rw [z] at h; cases h
  | .own _, ⟨b, z, _, q⟩ => by rw [z] at h; cases List.mem_singleton.mp h; exact q.nc ho
  | .fn _, ⟨z, _⟩ => by rw [z] at h; cases h
  | .st _, ⟨b, z, _, q⟩ => by rw [z] at h; cases List.mem_singleton.mp h; exact q.nc ho
  | .ex _ _, ⟨z, _⟩ => by rw [z] at h; cases h
  | .obj _, q => ObjAt.nc h ho q
theorem EnvR.nc (E : EnvR T H F O σ ρ) {i : Nat} {a : Addr} {o : HO} (h : a ∈ O i) (ho : H a = some o) : NC o := by
  obtain ⟨r, e⟩ := E.own i a h
  obtain ⟨v, _, s⟩ := E.at_ i r e
  exact s.nc h ho
/-- another object in the place of one that is no table -/
theorem tabs_put {L : List (Addr × Str)} {a : Addr} {o o' : HO} (t : LamX.Tabs L H) (ho : H a = some o) (n : NC o) : LamX.Tabs L (upd H a o') := fun p hp => by
  obtain ⟨ps, h1, h2, h3⟩ := t p hp
  have ne : p.1 ≠ a := fun z => by
    rw [z, ho] at h1
    cases h1
    exact n.1
  refine ⟨ps, by rw [upd_ne ne]; exact h1, h2, fun pos cv hc => ?_⟩
  obtain ⟨c, e1, e2⟩ := h3 pos cv hc
  refine ⟨c, e1, ?_⟩
  have nc : c ≠ a := fun z => by
    rw [z, ho] at e2
    cases e2
    exact n.2 _ _ rfl
  rw [upd_ne nc]
  exact e2
theorem ExcR.mono {cls : Value} {dx : Option Addr} {c : Nat} (k : Kept F H H') : ∀ {fs : List PyData}, ExcR T H cls dx c fs → ExcR T H' cls dx c fs
  | [], h => h
  | [.int _, .int _], ⟨h1, x, h2, h3⟩ => ⟨h1, x, h2, k _ _ h3 (.inr trivial)⟩
theorem OwnAt.mono {K : PySem.W.Frag} {a : Addr} (k : Kept F H H') (g : ∀ b, F b → F' b) (ha : ∀ o, H a = some o → H' a = some o) : ∀ {d : PyData}, OwnAt K H F a d → OwnAt K H' F' a d
  | .list _, ⟨vs, h, s⟩ => ⟨vs, ha _ h, s.mono k g⟩
  | .dict _, .inl ⟨vs, h, s⟩ => .inl ⟨vs, ha _ h, s.mono k g⟩
  | .dict _, .inr ⟨o, xs, h, e, s⟩ => .inr ⟨o, xs, ha _ h, e, s.mono k g⟩
theorem SetAt.mono {w : World} {a : Addr} {xs : List Int} (ha : ∀ o, H a = some o → H' a = some o) (h : SetAt w H a xs) : SetAt w H' a xs := by
  obtain ⟨S, h, q⟩ := h
  exact ⟨S, ha _ h, q⟩
theorem LedAt.mono {L : List Addr} {v : V} {ts ss : List PyData} (k : Kept F H H') (g : ∀ b, F b → F' b) (ha : ∀ a o, a ∈ L → H a = some o → H' a = some o) (h : LedAt T H F L v ts ss) : LedAt T H' F' L v ts ss := by
  obtain ⟨a, dx, t, s, rfl, rfl, ne, h1, h2, h3⟩ := h
  exact ⟨a, dx, t, s, rfl, rfl, ne, k _ _ h1 (.inr trivial), h2.mono k g (fun o => ha t o (by simp)), h3.mono k g fun o => ha s o (by simp)⟩
theorem OneAt.mono {b : Bool} {L : List Addr} {v : V} {ts ss : List PyData} (k : Kept F H H') (g : ∀ b, F b → F' b) (ha : ∀ a o, a ∈ L → H a = some o → H' a = some o) (h : OneAt T H F b L v ts ss) : OneAt T H' F' b L v ts ss := by
  unfold OneAt at h ⊢
  split at h
  · rename_i hb; rw [if_pos hb]; exact h.mono k g ha
  · rename_i hb
    rw [if_neg hb]
    obtain ⟨b, dx, a, h1, h2, h⟩ := h
    exact ⟨b, dx, a, h1, k _ _ h2 (.inr trivial), h.mono k g ha⟩
theorem ManyAt.mono {b : Bool} {Ls : List (List Addr)} {vs : List V} {xs : List (Option (List PyData × List PyData))} (k : Kept F H H') (g : ∀ b, F b → F' b) (h : ManyAt T H F b Ls vs xs) (ha : ∀ a o, a ∈ Ls.flatten → H a = some o → H' a = some o) : ManyAt T H' F' b Ls vs xs := by
  induction h with
  | nil => exact .nil
  | hole _ ih => exact .hole (ih fun a o h => ha a o (by simpa using h))
  | cons q _ ih => exact .cons (q.mono k g fun a o h => ha a o (by rw [List.flatten_cons, List.mem_append]; exact .inl h)) (ih fun a o h => ha a o (by rw [List.flatten_cons, List.mem_append]; exact .inr h))
theorem ExAt.mono {v : V} {c : Nat} {fs : List PyData} (k : Kept F H H') (g : ∀ b, F b → F' b) (h : ExAt T H F v c fs) : ExAt T H' F' v c fs := by
  obtain ⟨a, d, h1, h2, h3, h4⟩ := h
  exact ⟨a, d, h1, g _ h2, k _ _ h3 (.inl ⟨h2, trivial⟩), h4.mono k⟩
theorem ExsAt.mono {vs : List V} {cs : List (Nat × List PyData)} (k : Kept F H H') (g : ∀ b, F b → F' b) (h : ExsAt T H F vs cs) : ExsAt T H' F' vs cs := by
  induction h with
  | nil => exact .nil
  | cons q _ ih => exact .cons (q.mono k g) ih
theorem ObjAt.mono {L : List Addr} {v : V} (k : Kept F H H') (g : ∀ b, F b → F' b) (ha : ∀ a o, a ∈ L → H a = some o → H' a = some o) : ∀ {o : OD}, ObjAt T H F L v o → ObjAt T H' F' L v o
  | .led _ _, h => LedAt.mono k g ha h
  | .dsk _ _, ⟨b, dx, a, h1, h2, h⟩ => ⟨b, dx, a, h1, k _ _ h2 (.inr trivial), h.mono k g ha⟩
  | .pr _ _ _, ⟨p, a, l, L0, h1, h2, h, e, n, q⟩ => ⟨p, a, l, L0, h1, k _ _ h2 (.inr trivial), h.mono k g (fun b o hb => ha b o (by rw [e]; exact List.mem_cons_of_mem _ hb)), e, n, q.mono k g fun o => ha l o (by rw [e]; exact List.mem_cons_self)⟩
  | .many _ _, ⟨p, vs, Ls, h1, h2, h3, e, n, h⟩ => ⟨p, vs, Ls, h1, g _ h2, k _ _ h3 (.inl ⟨h2, trivial⟩), e, n, h.mono k g fun b o hb => ha b o (by rw [e]; exact hb)⟩
  | .exs _, ⟨p, vs, h1, h2, h3, e, h⟩ => ⟨p, vs, h1, g _ h2, k _ _ h3 (.inl ⟨h2, trivial⟩), e, h.mono k g⟩
theorem SlotR.mono {oa : List Addr} {v : V} (k : Kept F H H') (g : ∀ b, F b → F' b) (ha : ∀ a o, a ∈ oa → H a = some o → H' a = some o) : ∀ {r : R}, SlotR T H F oa v r → SlotR T H' F' oa v r
  | .dat _, ⟨h1, h2⟩ => ⟨h1, h2.mono k g⟩
  | .own _, ⟨a, h1, h2, h3⟩ => ⟨a, h1, h2, h3.mono k g fun o => ha a o (by rw [h1]; exact List.mem_singleton.mpr rfl)⟩
  | .fn _, h => h
  | .st _, ⟨a, h1, h2, h3⟩ => ⟨a, h1, h2, h3.mono fun o => ha a o (by rw [h1]; exact List.mem_singleton.mpr rfl)⟩
  | .ex _ _, ⟨h1, a, d, h2, h3, h4⟩ => ⟨h1, a, d, h2, h3, h4.mono k⟩
  | .obj _, h => ObjAt.mono k g ha h
/-- the slots stand over a heap that has grown -/
theorem EnvR.grown (E : EnvR T H F O σ ρ) (k : ∀ b o, H b = some o → H' b = some o) (g : ∀ b, F b → F' b) (n : ∀ i a, a ∈ O i → ¬ F' a) (l : ∀ b, F' b → H' b ≠ none) : EnvR T H' F' O σ ρ :=
  ⟨E.len, fun i r e => let ⟨v, h1, h2⟩ := E.at_ i r e; ⟨v, h1, h2.mono (fun b o h _ => k b o h) g fun a o _ h => k a o h⟩, E.own, E.inj, n, l, E.tb.ext k⟩
end
/-- a new object -/
theorem kept_new {H : Hp} {p : Addr} {o : HO} (hp : H p = none) : ∀ b u, H b = some u → upd H p o b = some u := fun b u e => by
  rw [upd_ne (ne_of_none e hp)]; exact e
section
variable {T : Tb} {H : Hp} {F : Addr → Prop} {O : Nat → List Addr} {σ : L2.St} {ρ : Rho} {p : Addr} {o : HO}
theorem EnvR.ne_new (E : EnvR T H F O σ ρ) (hp : H p = none) : ∀ i, p ∉ O i := fun i e => by
  obtain ⟨u, h, _⟩ := E.there e
  rw [hp] at h; cases h
/-- a new object that is nobody's, or goes into the region -/
theorem live_new (hp : H p = none) : ∀ b, H b ≠ none → upd H p o b ≠ none := fun b h => by
  cases q : H b with
  | none => exact absurd q h
  | some u => rw [kept_new hp b u q]; simp
theorem EnvR.laid (E : EnvR T H F O σ ρ) (hp : H p = none) : EnvR T (upd H p o) F O σ ρ := E.grown (kept_new hp) (fun _ h => h) E.nf fun b h => live_new hp b (E.lv b h)
theorem EnvR.laidF (E : EnvR T H F O σ ρ) (hp : H p = none) : EnvR T (upd H p o) (fun b => F b ∨ b = p) O σ ρ :=
  E.grown (kept_new hp) (fun _ h => .inl h) (fun i a e q => q.elim (E.nf i a e) fun z => E.ne_new hp i (z ▸ e)) fun b h => h.elim (fun z => live_new hp b (E.lv b z)) fun z => by rw [z, upd_same]; simp
theorem Ext.laid {s : Bool} (hp : H p = none) : Ext s H F O (upd H p o) F O :=
  ⟨fun b u h _ _ => kept_new hp b u h, fun b h => by
    by_cases e : b = p
    · subst e; exact hp
    · rw [upd_ne e] at h; exact h, fun _ h => h, fun _ h => .inl h, fun _ _ h => .inl h⟩
end
end DL
namespace DL
open PySem L2
/-- an end of a piece: a thing and the slots, or an exception -/
inductive Oe (α : Type) where
  | ok (a : α) (ρ : Rho)
  | er (c : Nat) (fs : List PyData) (ρ : Rho)
abbrev EM := Rho → Option (Oe R)
abbrev AM := Rho → Option (Oe (List R))
def bindO {α β : Type} (o : Option (Oe α)) (g : α → Rho → Option (Oe β)) : Option (Oe β) :=
  match o with
  | some (.ok a ρ) => g a ρ
  | some (.er c fs ρ) => some (.er c fs ρ)
  | none => none
@[simp] theorem bindO_ok {α β : Type} (a : α) (ρ : Rho) (g : α → Rho → Option (Oe β)) : bindO (some (.ok a ρ)) g = g a ρ := rfl
@[simp] theorem bindO_er {α β : Type} (c : Nat) (fs : List PyData) (ρ : Rho) (g : α → Rho → Option (Oe β)) : bindO (some (.er c fs ρ)) g = some (.er c fs ρ) := rfl
@[simp] theorem bindO_none {α β : Type} (g : α → Rho → Option (Oe β)) : bindO none g = none := rfl
/-- what a slot holds, as data -/
def slotD : Option (Option R) → Option PyData
  | some (some (.dat d)) => some d
  | some (some (.own d)) => some d
  | _ => none
/-- what a part of a ledger in a slot holds -/
def partD (k : Nat) : Option (Option R) → Option PyData
  | some (some (.obj (.led ts ss))) => some (.list (if k = 0 then ts else ss))
  | _ => none
/-- a result as data, as it stands now -/
def val (ρ : Rho) : R → Option PyData
  | .dat d => some d
  | .own d => some d
  | .slt i => slotD ρ[i]?
  | .prt i k => partD k ρ[i]?
  | _ => none
/-- a result as data that stays: what one slot held alone is so no more -/
def frz (ρ : Rho) : R → Option (PyData × Rho)
  | .dat d => some (d, ρ)
  | .own d => some (d, ρ)
  | .slt i => (slotD ρ[i]?).map fun d => (d, ρ.set i (some (.dat d)))
  | _ => none
/-- v is the result r; what is new in it is new since H0 -/
def ResR (T : Tb) (H0 H : Hp) (F : Addr → Prop) (O : Nat → List Addr) (σ : L2.St) (v : V) : R → Prop
  | .dat d => DF T.K H F v d
  | .own d => ∃ a, v = .ref a ∧ H0 a = none ∧ ¬ F a ∧ (∀ i, a ∉ O i) ∧ OwnAt T.K H F a d
  | .slt i => σ[i]? = some (some v)
  | .fn k => v = .ref (T.fa k)
  | .st xs => ∃ a, v = .ref a ∧ H0 a = none ∧ ¬ F a ∧ (∀ i, a ∉ O i) ∧ SetAt T.w H a xs
  | .ex c fs => ∃ a dx, v = .ref a ∧ T.hot = some (a, c, dx) ∧ ExcR T H (.ref (T.ca c)) dx c fs
  | .two d e => ∃ p a b, v = .ref p ∧ H p = some (.tup [.ref a, .ref b]) ∧ a ≠ b ∧ (H0 a = none ∧ ¬ F a ∧ (∀ i, a ∉ O i) ∧ OwnAt T.K H F a d) ∧ (H0 b = none ∧ ¬ F b ∧ (∀ i, b ∉ O i) ∧ OwnAt T.K H F b e)
  | .obj o => ∃ L, (∀ b, b ∈ L → H0 b = none ∧ ¬ F b ∧ ∀ i, b ∉ O i) ∧ ObjAt T H F L v o
  | .prt i k => ∃ a dx t s, σ[i]? = some (some (.ref a)) ∧ H a = some (.ins T.lc dx (ledF t s)) ∧ v = .ref (if k = 0 then t else s)
/-- v reads as d just now -/
def Vw (T : Tb) (H : Hp) (F : Addr → Prop) (v : V) (d : PyData) : Prop := DF T.K H F v d ∨ ∃ a, v = .ref a ∧ OwnAt T.K H F a d
section
variable {T : Tb} {H0 H H' : Hp} {F F' : Addr → Prop} {O O' : Nat → List Addr} {σ : L2.St} {ρ : Rho} {v : V} {d : PyData}
theorem own_ext {s : Bool} (E : EnvR T H F O σ ρ) (x : Ext s H F O H' F' O') {a : Addr} {d : PyData} (h3 : ¬ F a) (h4 : ∀ i, a ∉ O i) (h5 : OwnAt T.K H F a d) : ¬ F' a ∧ (∀ i, a ∉ O' i) ∧ OwnAt T.K H' F' a d := by
  obtain ⟨o, ho, _⟩ := h5.there
  refine ⟨fun q => ?_, fun i q => ?_, h5.mono (E.kept x) x.grow fun o h => x.keep a o h h4 (h5.nc h).1⟩
  · rcases x.new a q with z | ⟨i, z⟩ | z
    · exact h3 z
    · exact h4 i z
    · rw [ho] at z; cases z
  · rcases x.ow q with ⟨j, z⟩ | z
    · exact h4 j z
    · rw [ho] at z; cases z
theorem obj_ext {s : Bool} (E : EnvR T H F O σ ρ) (x : Ext s H F O H' F' O') {L : List Addr} {o : OD} (h : ∀ b, b ∈ L → H0 b = none ∧ ¬ F b ∧ ∀ i, b ∉ O i) (q : ObjAt T H F L v o) : (∀ b, b ∈ L → H0 b = none ∧ ¬ F' b ∧ ∀ i, b ∉ O' i) ∧ ObjAt T H' F' L v o := by
  refine ⟨fun b hb => ?_, q.mono (E.kept x) x.grow fun b o' hb ho => x.keep b o' ho (h b hb).2.2 (ObjAt.nc hb ho q).1⟩
  obtain ⟨o', ho, _⟩ := q.there hb
  obtain ⟨h1, h2, h3⟩ := h b hb
  refine ⟨h1, fun z => ?_, fun i z => ?_⟩
  · rcases x.new b z with y | ⟨i, y⟩ | y
    · exact h2 y
    · exact h3 i y
    · rw [ho] at y; cases y
  · rcases x.ow z with ⟨j, y⟩ | y
    · exact h3 j y
    · rw [ho] at y; cases y
theorem ResR.mono {s : Bool} (E : EnvR T H F O σ ρ) (x : Ext s H F O H' F' O') : ∀ {r : R}, ResR T H0 H F O σ v r → ResR T H0 H' F' O' σ v r
  | .dat _, h => DF.mono (E.kept x) x.grow h
  | .own _, ⟨a, h1, h2, h3, h4, h5⟩ => by
    obtain ⟨o, ho, _⟩ := h5.there
    refine ⟨a, h1, h2, fun q => ?_, fun i q => ?_, h5.mono (E.kept x) x.grow fun o h => x.keep a o h h4 (h5.nc h).1⟩
    · rcases x.new a q with z | ⟨i, z⟩ | z
      · exact h3 z
      · exact h4 i z
      · rw [ho] at z; cases z
    · rcases x.ow q with ⟨j, z⟩ | z
      · exact h4 j z
      · rw [ho] at z; cases z
  | .slt _, h => h
  | .fn _, h => h
  | .st _, ⟨a, h1, h2, h3, h4, h5⟩ => by
    obtain ⟨o, ho, _⟩ := h5.there
    refine ⟨a, h1, h2, fun q => ?_, fun i q => ?_, h5.mono fun o h => x.keep a o h h4 (h5.nc h).1⟩
    · rcases x.new a q with z | ⟨i, z⟩ | z
      · exact h3 z
      · exact h4 i z
      · rw [ho] at z; cases z
    · rcases x.ow q with ⟨j, z⟩ | z
      · exact h4 j z
      · rw [ho] at z; cases z
  | .ex _ _, ⟨a, dx, h1, h2, h3⟩ => ⟨a, dx, h1, h2, h3.mono (E.kept x)⟩
  | .two _ _, ⟨p, a, b, h1, h2, h3, ⟨a1, a2, a3, a4⟩, b1, b2, b3, b4⟩ => ⟨p, a, b, h1, E.kept x _ _ h2 (.inr trivial), h3, ⟨a1, own_ext E x a2 a3 a4⟩, b1, own_ext E x b2 b3 b4⟩
  | .obj _, ⟨L, h1, h2⟩ => ⟨L, obj_ext E x h1 h2⟩
  | .prt _ _, ⟨a, dx, t, s, h1, h2, h3⟩ => ⟨a, dx, t, s, h1, E.kept x _ _ h2 (.inr trivial), h3⟩
/-- new since later is new since earlier -/
theorem ResR.back {H1 : Hp} (l : ∀ b, H1 b = none → H0 b = none) : ∀ {r : R}, ResR T H1 H F O σ v r → ResR T H0 H F O σ v r
  | .dat _, h => h
  | .own _, ⟨a, h1, h2, h3⟩ => ⟨a, h1, l a h2, h3⟩
  | .slt _, h => h
  | .fn _, h => h
  | .st _, ⟨a, h1, h2, h3⟩ => ⟨a, h1, l a h2, h3⟩
  | .ex _ _, h => h
  | .two _ _, ⟨p, a, b, h1, h2, h3, ⟨a1, a2⟩, b1, b2⟩ => ⟨p, a, b, h1, h2, h3, ⟨l a a1, a2⟩, l b b1, b2⟩
  | .obj _, ⟨L, h1, h2⟩ => ⟨L, fun b hb => ⟨l b (h1 b hb).1, (h1 b hb).2⟩, h2⟩
  | .prt _ _, h => h
theorem slot_vw (E : EnvR T H F O σ ρ) {i : Nat} (hv : σ[i]? = some (some v)) (h : slotD ρ[i]? = some d) : Vw T H F v d := by
  cases q : ρ[i]? with
  | none => rw [q] at h; cases h
  | some o =>
    cases o with
    | none => rw [q] at h; cases h
    | some r =>
      obtain ⟨u, hu, s⟩ := E.at_ i r q
      rw [hv] at hu; cases hu
      rw [q] at h
      cases r with
      | dat e => cases h; exact .inl s.2
      | own e => cases h; obtain ⟨a, _, h2, h3⟩ := s; exact .inr ⟨a, h2, h3⟩
      | slt j => cases h
      | fn k => cases h
      | st xs => cases h
      | ex c fs => cases h
      | two d e => cases h
      | obj o => cases h
      | prt i k => cases h
theorem part_vw (E : EnvR T H F O σ ρ) {i k : Nat} (hv : ResR T H0 H F O σ v (.prt i k)) (h : partD k ρ[i]? = some d) : Vw T H F v d := by
  unfold partD at h
  split at h
  · rename_i ts ss q
    cases h
    obtain ⟨u, hu, a, dx, t, s, e1, e2, e3, e4, e5, e6⟩ := E.at_ i _ q
    obtain ⟨a', dx', t', s', g1, g2, g3⟩ := hv
    rw [g1] at hu
    cases hu
    cases e1
    rw [e4] at g2
    cases g2
    rw [g3]
    by_cases hk : k = 0
    · rw [if_pos hk, if_pos hk]; exact .inr ⟨_, rfl, e5⟩
    · rw [if_neg hk, if_neg hk]; exact .inr ⟨_, rfl, e6⟩
  · cases h
theorem val_vw (E : EnvR T H F O σ ρ) : ∀ {r : R}, ResR T H0 H F O σ v r → val ρ r = some d → Vw T H F v d
  | .dat _, h, e => by cases e; exact .inl h
  | .own _, ⟨a, h1, _, _, _, h5⟩, e => by cases e; exact .inr ⟨a, h1, h5⟩
  | .slt _, h, e => slot_vw E h e
  | .prt _ _, h, e => part_vw E h e
theorem Vw.non (h : Vw T H F v .none) : v = .non := by
  rcases h with h | ⟨_, _, h⟩
  · cases h; rfl
  · exact h.elim
theorem Vw.bl {b : Bool} (h : Vw T H F v (.bool b)) : v = .bl b := by
  rcases h with h | ⟨_, _, h⟩
  · cases h; rfl
  · exact h.elim
theorem Vw.int {i : Int} (h : Vw T H F v (.int i)) : v = .int i := by
  rcases h with h | ⟨_, _, h⟩
  · cases h; rfl
  · exact h.elim
theorem Vw.str {x : Str} (h : Vw T H F v (.str x)) : v = .str x := by
  rcases h with h | ⟨_, _, h⟩
  · cases h; rfl
  · exact h.elim
theorem Vw.tup {ds : List PyData} (h : Vw T H F v (.tuple ds)) : ∃ a xs, v = .ref a ∧ SqT T.K H a xs ∧ DFs T.K H F xs ds := by
  rcases h with h | ⟨_, _, h⟩
  · cases h with
    | tup r s => exact ⟨_, _, rfl, r, s⟩
  · exact h.elim
theorem Vw.lst {ds : List PyData} (h : Vw T H F v (.list ds)) : ∃ a xs, v = .ref a ∧ LsR T.K H a xs ∧ DFs T.K H F xs ds := by
  rcases h with h | ⟨a, e, xs, h, s⟩
  · cases h with
    | lst f r s => exact ⟨_, _, rfl, .inl r, s⟩
    | lstK r s => exact ⟨_, _, rfl, .inr r, s⟩
  · exact ⟨a, xs, e, .inl (.inl h), s⟩
theorem Vw.dctA {ds : List (PyData × PyData)} (h : Vw T H F v (.dict ds)) : ∃ a, v = .ref a ∧ ((∃ xs, Rd H a (.dK xs) ∧ DFk T.K H F xs ds) ∨ ∃ o xs, H a = some (DTo a o) ∧ EsOk a o xs ∧ DFt T.K H F xs ds) := by
  rcases h with h | ⟨a, e, ⟨xs, h, s⟩ | ⟨o, xs, h, q, s⟩⟩
  · cases h with
    | dct f r s => exact ⟨_, rfl, .inl ⟨_, r, s⟩⟩
    | dcT f r e s => exact ⟨_, rfl, .inr ⟨_, _, r, e, s⟩⟩
  · exact ⟨a, e, .inl ⟨xs, .inl h, s⟩⟩
  · exact ⟨a, e, .inr ⟨o, xs, h, q, s⟩⟩
theorem vw_fz {i : Nat} {a : Addr} (E : EnvR T H F O σ ρ) (h : O i = [a]) (hv : σ[i]? = some (some (.ref a))) {F' : Addr → Prop} (hF : ∀ b, F' b ↔ F b ∨ b = a) (hd : DF T.K H F' (.ref a) d) :
    EnvR T H F' (fun j => if j = i then [] else O j) σ (ρ.set i (some (.dat d))) := by
  have ha : a ∈ O i := by rw [h]; exact List.mem_singleton.mpr rfl
  obtain ⟨r, er⟩ := E.own i a ha
  have hi : i < ρ.length := by
    have := List.getElem?_eq_some_iff.mp er
    exact this.1
  refine ⟨by rw [List.length_set]; exact E.len, fun j r' e => ?_, fun j b e => ?_, fun j k b e1 e2 => ?_, fun j b e q => ?_, fun b q => ?_, E.tb⟩
  · by_cases hj : j = i
    · subst hj
      rw [List.getElem?_set_self hi] at e
      cases e
      exact ⟨_, hv, if_pos rfl, hd⟩
    · rw [List.getElem?_set_ne (Ne.symm hj)] at e
      obtain ⟨v, hv, s⟩ := E.at_ j r' e
      refine ⟨v, hv, ?_⟩
      rw [if_neg hj]
      exact s.mono (fun _ _ h _ => h) (fun b z => (hF b).mpr (.inl z)) fun _ _ _ h => h
  · by_cases hj : j = i
    · rw [if_pos hj] at e; cases e
    · rw [if_neg hj] at e
      obtain ⟨r', q⟩ := E.own j b e
      exact ⟨r', by rw [List.getElem?_set_ne (Ne.symm hj)]; exact q⟩
  · by_cases hj : j = i
    · rw [if_pos hj] at e1; cases e1
    · by_cases hk : k = i
      · rw [if_pos hk] at e2; cases e2
      · rw [if_neg hj] at e1
        rw [if_neg hk] at e2
        exact E.inj j k b e1 e2
  · by_cases hj : j = i
    · rw [if_pos hj] at e; cases e
    · rw [if_neg hj] at e
      rcases (hF b).mp q with z | z
      · exact E.nf j b e z
      · subst z; exact hj (E.inj j i b e ha)
  · rcases (hF b).mp q with z | z
    · exact E.lv b z
    · subst z
      obtain ⟨o, ho, _⟩ := E.there ha
      rw [ho]; simp
theorem OwnAt.df {a : Addr} (f : F a) : ∀ {d : PyData}, OwnAt T.K H F a d → DF T.K H F (.ref a) d
  | .list _, ⟨_, h, s⟩ => .lst f (.inl h) s
  | .dict _, .inl ⟨_, h, s⟩ => .dct f (.inl h) s
  | .dict _, .inr ⟨_, _, h, e, s⟩ => .dcT f h e s
theorem Vw.dK {ds : List (PyData × PyData)} (h : Vw T H F v (.dict ds)) : ∃ a, v = .ref a ∧ ((∃ xs, Rd H a (.dK xs) ∧ DFk T.K H F xs ds) ∨ ∃ o xs, H a = some (DTo a o) ∧ EsOk a o xs ∧ DFt T.K H F xs ds) := h.dctA
/-- a slot that holds data may be set to them -/
theorem EnvR.setD {i : Nat} (E : EnvR T H F O σ ρ) (h : ρ[i]? = some (some (.dat d))) : EnvR T H F O σ (ρ.set i (some (.dat d))) := by
  have e : ρ.set i (some (.dat d)) = ρ := by
    refine List.ext_getElem? fun j => ?_
    by_cases hj : j = i
    · subst hj
      rw [List.getElem?_set_self (List.getElem?_eq_some_iff.mp h).1, h]
    · rw [List.getElem?_set_ne (Ne.symm hj)]
  rw [e]
  exact E
/-- a result is made data that stays -/
theorem fz {t : Bool} {B : Hp} {FB : Addr → Prop} {OB : Nat → List Addr} (x : Ext t B FB OB H F O) (l : ∀ b, H0 b = none → B b = none) (E : EnvR T H F O σ ρ) {ρ' : Rho} : ∀ {r : R}, ResR T H0 H F O σ v r → frz ρ r = some (d, ρ') →
    ∃ F' O', Ext t B FB OB H F' O' ∧ EnvR T H F' O' σ ρ' ∧ DF T.K H F' v d ∧ (∀ b, F b → F' b) ∧ (∀ i a, a ∈ O' i → a ∈ O i) ∧ ∀ b, F' b → F b ∨ (∃ i, b ∈ O i) ∨ H0 b = none
  | .dat _, h, e => by cases e; exact ⟨F, O, x, E, h, fun _ h => h, fun _ _ h => h, fun _ h => .inl h⟩
  | .own _, ⟨a, h1, h2, h3, h4, h5⟩, e => by
    cases e
    have nf : ∀ i b, b ∈ O i → ¬ (F b ∨ b = a) := fun i b q z => z.elim (E.nf i b q) fun y => h4 i (y ▸ q)
    obtain ⟨o, ho, _⟩ := h5.there
    have lv : ∀ b, (F b ∨ b = a) → H b ≠ none := fun b h => h.elim (E.lv b) fun z => by rw [z, ho]; simp
    refine ⟨fun b => F b ∨ b = a, O, ⟨x.keep, x.live, fun b h => .inl (x.grow b h), fun b h => ?_, x.own⟩, E.grown (fun _ _ h => h) (fun _ h => .inl h) nf lv, ?_, fun _ h => .inl h, fun _ _ h => h, fun b h => h.elim .inl fun z => .inr (.inr (z ▸ h2))⟩
    · rcases h with h | rfl
      · exact x.new b h
      · exact .inr (.inr (l b h2))
    · rw [h1]
      exact OwnAt.df (F := fun b => F b ∨ b = a) (.inr rfl) (h5.mono (fun _ _ h _ => h) (fun _ h => .inl h) fun _ h => h)
  | .slt i, h, e => by
    have e' : (slotD ρ[i]?).map (fun d => (d, ρ.set i (some (.dat d)))) = some (d, ρ') := e
    cases q : ρ[i]? with
    | none => rw [q] at e'; cases e'
    | some o =>
      cases o with
      | none => rw [q] at e'; cases e'
      | some r =>
        obtain ⟨u, hu, s⟩ := E.at_ i r q
        have h' : σ[i]? = some (some v) := h
        rw [h'] at hu
        cases hu
        rw [q] at e'
        cases r with
        | dat e =>
          cases e'
          exact ⟨F, O, x, E.setD q, s.2, fun _ h => h, fun _ _ h => h, fun _ h => .inl h⟩
        | own e =>
          cases e'
          obtain ⟨a, z1, z2, z3⟩ := s
          have zm : a ∈ O i := by rw [z1]; exact List.mem_singleton.mpr rfl
          subst z2
          have hd : DF T.K H (fun b => F b ∨ b = a) (.ref a) d := OwnAt.df (F := fun b => F b ∨ b = a) (.inr rfl) (z3.mono (fun _ _ h _ => h) (fun _ h => .inl h) fun _ h => h)
          refine ⟨fun b => F b ∨ b = a, fun j => if j = i then [] else O j, ⟨x.keep, x.live, fun b h => .inl (x.grow b h), fun b h => ?_, fun j b e => ?_⟩, vw_fz E z1 h' (fun _ => Iff.rfl) hd, hd, fun _ h => .inl h, fun j b q => ?_, fun b h => h.elim .inl fun z => .inr (.inl ⟨i, z ▸ zm⟩)⟩
          · rcases h with h | rfl
            · exact x.new b h
            · exact .inr (x.ow zm)
          · by_cases hj : j = i
            · rw [if_pos hj] at e; cases e
            · rw [if_neg hj] at e
              exact x.own j b e
          · have q' : b ∈ (if j = i then [] else O j) := q
            by_cases hj : j = i
            · rw [if_pos hj] at q'; cases q'
            · rw [if_neg hj] at q'; exact q'
        | slt j => cases e'
        | fn k => cases e'
        | st xs => cases e'
        | ex c fs => cases e'
        | two d e => cases e'
        | obj o => cases e'
        | prt i k => cases e'
end
abbrev Reg := Addr → Prop
abbrev Ows := Nat → List Addr
/-- how a thing β of the run tells a thing α of ours: since the heap, at the heap, the region, the owners -/
abbrev Tell (α β : Type) := L2.St → Hp → Hp → Reg → Ows → β → α → Prop
/-- the wish of what stands behind a piece -/
def Post {α β : Type} (T : Tb) (W : WX) (Rl : Tell α β) (σ : L2.St) (H : Hp) (F : Reg) (O : Ows) (Q : β → Hp → Prop) : Option (Oe α) → Prop
  | some (.ok a ρ) => ∀ v H' F' O', Ext false H F O H' F' O' → EnvR T H' F' O' σ ρ → Rl σ H H' F' O' v a → Q v H'
  | some (.er c fs ρ) => ∀ cls d H' F' O', Ext false H F O H' F' O' → EnvR T H' F' O' σ ρ → ExcR T H' cls d c fs → W cls d σ H'
  | none => False
/-- a piece's reading -/
def Tof {α β : Type} (T : Tb) (W : WX) (Rl : Tell α β) (f : Rho → Option (Oe α)) : L2.St → Hp → (β → Hp → Prop) → Prop := fun σ H Q =>
  ∃ ρ F O, EnvR T H F O σ ρ ∧ Post T W Rl σ H F O Q (f ρ)
def tlE (T : Tb) : Tell R V := fun σ H0 H F O v r => ResR T H0 H F O σ v r
def tlB : Tell Bool Bool := fun _ _ _ _ _ b c => b = c
inductive ResRs (T : Tb) (H0 H : Hp) (F : Reg) (O : Ows) (σ : L2.St) : List V → List R → Prop where
  | nil : ResRs T H0 H F O σ [] []
  | cons {v : V} {r : R} {vs : List V} {rs : List R} : ResR T H0 H F O σ v r → ResRs T H0 H F O σ vs rs → ResRs T H0 H F O σ (v :: vs) (r :: rs)
def tlA (T : Tb) : Tell (List R) (List V) := fun σ H0 H F O v r => ResRs T H0 H F O σ v r
section
variable {T : Tb} {W : WX} {α β γ δ : Type} {Ra : Tell α β} {Rb : Tell γ δ} {σ : L2.St} {ρ : Rho} {B H : Hp} {FB F : Reg} {OB O : Ows}
/-- one piece, then the rest -/
theorem stp {f : Rho → Option (Oe α)} {g : α → Rho → Option (Oe γ)} {Q : δ → Hp → Prop} {Q' : β → Hp → Prop} (x : Ext false B FB OB H F O) (E : EnvR T H F O σ ρ) (P : Post T W Rb σ B FB OB Q (bindO (f ρ) g))
    (k : ∀ v H1 a ρ1 F1 O1, Ext false H F O H1 F1 O1 → Ext false B FB OB H1 F1 O1 → EnvR T H1 F1 O1 σ ρ1 → Ra σ H H1 F1 O1 v a → Post T W Rb σ B FB OB Q (g a ρ1) → Q' v H1) : Tof T W Ra f σ H Q' := by
  refine ⟨ρ, F, O, E, ?_⟩
  cases q : f ρ with
  | none => rw [q] at P; exact P
  | some o =>
    rw [q] at P
    cases o with
    | ok a ρ1 => exact fun v H1 F1 O1 x1 E1 r1 => k v H1 a ρ1 F1 O1 x1 (x.trans x1) E1 r1 P
    | er c fs ρ1 => exact fun cls d H1 F1 O1 x1 E1 r1 => P cls d H1 F1 O1 (x.trans x1) E1 r1
end
def SE (X : Cx) (T : Tb) (W : WX) (e : Expr) (f : EM) : Prop := PE X e (Tof T W (tlE T) f)
def ST (X : Cx) (T : Tb) (W : WX) (e : Expr) (f : Rho → Option (Oe Bool)) : Prop := PT X e (Tof T W tlB f)
def SA (X : Cx) (T : Tb) (W : WX) (es : List Expr) (f : AM) : Prop := PA X es (Tof T W (tlA T) f)
theorem pe_imp {X : Cx} {e : Expr} {t t' : TE} (h : PE X e t) (i : ∀ σ H Q, t' σ H Q → t σ H Q) : PE X e t' := ⟨fun pins s σ H Q I q => h.run pins s σ H Q I (i σ H Q q)⟩
theorem pt_imp {X : Cx} {e : Expr} {t t' : TT} (h : PT X e t) (i : ∀ σ H Q, t' σ H Q → t σ H Q) : PT X e t' := ⟨fun pins s σ H Q I q => h.run pins s σ H Q I (i σ H Q q)⟩
theorem pa_imp {X : Cx} {e : List Expr} {t t' : TA} (h : PA X e t) (i : ∀ σ H Q, t' σ H Q → t σ H Q) : PA X e t' := ⟨fun pos pins s σ H Q I q => h.run pos pins s σ H Q I (i σ H Q q)⟩
/-- the facts of the place where a piece runs -/
structure Cxt (X : Cx) (T : Tb) (W : WX) (n : Nat) : Prop where
  hK : X.K = T.K
  hw : X.w = T.w
  calm : X.calm = true
  room : Room n X.A
  gd : X.A.guards = some []
  tk : Takes X W
  po : PassesOwn (model X.prog X.w) X.A X.env X.xe
  nd : X.N.Nodup
  sm : X.base.get? sysModules ≠ none
theorem Cxt.mono {X : Cx} {T : Tb} {W : WX} {m n : Nat} (c : Cxt X T W n) (h : m ≤ n) : Cxt X T W m := ⟨c.hK, c.hw, c.calm, c.room.mono h, c.gd, c.tk, c.po, c.nd, c.sm⟩
structure Gr (H : Hp) (F : Reg) (H' : Hp) (F' : Reg) : Prop where
  keep : ∀ b o, H b = some o → H' b = some o
  grow : ∀ b, F b → F' b
  new : ∀ b, F' b → F b ∨ (H b = none ∧ H' b ≠ none)
theorem Gr.refl {H : Hp} {F : Reg} : Gr H F H F := ⟨fun _ _ h => h, fun _ h => h, fun _ h => .inl h⟩
theorem Gr.laid {H : Hp} {F : Reg} {p : Addr} {o : HO} (hp : H p = none) : Gr H F (upd H p o) F := ⟨kept_new hp, fun _ h => h, fun _ h => .inl h⟩
theorem Gr.laidF {H : Hp} {F : Reg} {p : Addr} {o : HO} (hp : H p = none) : Gr H F (upd H p o) (fun b => F b ∨ b = p) := ⟨kept_new hp, fun _ h => .inl h, fun b h => h.elim .inl fun z => .inr ⟨z ▸ hp, by rw [z, upd_same]; simp⟩⟩
theorem Gr.live {H H' : Hp} {F F' : Reg} (g : Gr H F H' F') : ∀ b, H' b = none → H b = none := fun b h => by
  cases q : H b with
  | none => rfl
  | some o => rw [g.keep b o q] at h; cases h
theorem Gr.trans {H H1 H2 : Hp} {F F1 F2 : Reg} (a : Gr H F H1 F1) (b : Gr H1 F1 H2 F2) : Gr H F H2 F2 :=
  ⟨fun c o h => b.keep c o (a.keep c o h), fun c h => b.grow c (a.grow c h), fun c h => (b.new c h).elim (fun z => (a.new c z).elim .inl fun y => .inr ⟨y.1, fun q => y.2 (b.live c q)⟩) fun z => .inr ⟨a.live c z.1, z.2⟩⟩
theorem Gr.ext {s : Bool} {H H' : Hp} {F F' : Reg} {O : Ows} (g : Gr H F H' F') : Ext s H F O H' F' O :=
  ⟨fun b o h _ _ => g.keep b o h, g.live, g.grow, fun b h => (g.new b h).elim .inl fun z => .inr (.inr z.1), fun _ _ h => .inl h⟩
theorem EnvR.gr {T : Tb} {H H' : Hp} {F F' : Reg} {O : Ows} {σ : L2.St} {ρ : Rho} (E : EnvR T H F O σ ρ) (g : Gr H F H' F') : EnvR T H' F' O σ ρ :=
  E.grown g.keep g.grow (fun i a e q => (g.new a q).elim (E.nf i a e) fun z => E.ne_new z.1 i e) fun b h => (g.new b h).elim (fun z q => E.lv b z (g.live b q)) fun z => z.2
/-- a result that an operation made -/
def ResN (T : Tb) (H H' : Hp) (F' : Reg) (v : V) : R → Prop
  | .dat d => DF T.K H' F' v d
  | .own d => ∃ a, v = .ref a ∧ H a = none ∧ ¬ F' a ∧ OwnAt T.K H' F' a d
  | .st xs => ∃ a, v = .ref a ∧ H a = none ∧ ¬ F' a ∧ SetAt T.w H' a xs
  | _ => False
theorem ResN.r {T : Tb} {H H' : Hp} {F F' : Reg} {O : Ows} {σ : L2.St} {ρ : Rho} {v : V} (E : EnvR T H F O σ ρ) : ∀ {r : R}, ResN T H H' F' v r → ResR T H H' F' O σ v r
  | .dat _, h => h
  | .own _, ⟨a, h1, h2, h3, h4⟩ => ⟨a, h1, h2, h3, E.ne_new h2, h4⟩
  | .st _, ⟨a, h1, h2, h3, h4⟩ => ⟨a, h1, h2, h3, E.ne_new h2, h4⟩
/-- the end of an operation -/
theorem fin_op {T : Tb} {W : WX} {σ : L2.St} {ρ : Rho} {B H H' : Hp} {FB F F' : Reg} {OB O : Ows} {Q : VK} {v : V} {r : R} (x : Ext false B FB OB H F O) (E : EnvR T H F O σ ρ) (P : Post T W (tlE T) σ B FB OB Q (some (.ok r ρ))) (g : Gr H F H' F') (h : ResN T H H' F' v r) : Q v H' :=
  P v H' F' O (x.trans g.ext) (E.gr g) ((h.r E).back x.live)
/-- a new list of the asker's own; a new tuple -/
theorem resN_lst {T : Tb} {H : Hp} {F : Reg} {p : Addr} {vs : List V} {ds : List PyData} (hp : H p = none) (nf : ¬ F p) (s : DFs T.K H F vs ds) : ResN T H (upd H p (.lst vs)) F (.ref p) (.own (.list ds)) :=
  ⟨p, rfl, hp, nf, vs, upd_same, s.mono (fun b o h _ => kept_new hp b o h) fun _ h => h⟩
theorem resN_tup {T : Tb} {H : Hp} {F : Reg} {p : Addr} {vs : List V} {ds : List PyData} (hp : H p = none) (s : DFs T.K H F vs ds) : ResN T H (upd H p (.tup vs)) F (.ref p) (.dat (.tuple ds)) :=
  .tup (.inl (.inl upd_same)) (s.mono (fun b o h _ => kept_new hp b o h) fun _ h => h)
end DL
namespace DL
open PySem L2
def nmM (i : Nat) : EM := fun ρ => match ρ[i]? with
  | some (some (.dat d)) => some (.ok (.dat d) ρ)
  | some (some (.own _)) => some (.ok (.slt i) ρ)
  | some (some (.st _)) => some (.ok (.slt i) ρ)
  | some (some (.obj _)) => some (.ok (.slt i) ρ)
  | some (some (.fn k)) => some (.ok (.fn k) ρ)
  | some (some (.ex c fs)) => some (.ok (.ex c fs) ρ)
  | _ => none
def cM (d : PyData) : EM := fun ρ => some (.ok (.dat d) ρ)
/-- an operation on two things as data -/
def op2M (g : PyData → PyData → Option R) (fa fb : EM) : EM := fun ρ => bindO (fa ρ) fun r ρ1 => bindO (fb ρ1) fun s ρ2 =>
  match val ρ2 r, val ρ2 s with
  | some d, some e => (g d e).map fun z => .ok z ρ2
  | _, _ => none
def op1M (g : PyData → Option R) (fa : EM) : EM := fun ρ => bindO (fa ρ) fun r ρ1 =>
  match val ρ1 r with
  | some d => (g d).map fun z => .ok z ρ1
  | _ => none
/-- arguments of a call: a list that is nobody's becomes still -/
def tmp : R → R
  | .own d => .dat d
  | r => r
def nilA : AM := fun ρ => some (.ok [] ρ)
def consA (fe : EM) (fr : AM) : AM := fun ρ => bindO (fe ρ) fun r ρ1 => bindO (fr ρ1) fun rs ρ2 => some (.ok (tmp r :: rs) ρ2)
/-- parts of a display: all become still -/
def consD (fe : EM) (fr : AM) : AM := fun ρ => bindO (fe ρ) fun r ρ1 => match frz ρ1 r with
  | some (d, ρ2) => bindO (fr ρ2) fun rs ρ3 => some (.ok (.dat d :: rs) ρ3)
  | none => none
def vals (ρ : Rho) : List R → Option (List PyData)
  | [] => some []
  | r :: rs => match val ρ r, vals ρ rs with
    | some d, some ds => some (d :: ds)
    | _, _ => none
def opnM (g : List PyData → Option R) (fa : AM) : EM := fun ρ => bindO (fa ρ) fun rs ρ1 =>
  match vals ρ1 rs with
  | some ds => (g ds).map fun z => .ok z ρ1
  | none => none
/-- tests -/
def tsM (f : EM) : Rho → Option (Oe Bool) := fun ρ => bindO (f ρ) fun r ρ1 => match r with
  | .dat (.bool b) => some (.ok b ρ1)
  | _ => none
def andT (f g : Rho → Option (Oe Bool)) : Rho → Option (Oe Bool) := fun ρ => bindO (f ρ) fun b ρ1 => if b = true then g ρ1 else some (.ok false ρ1)
def orT (f g : Rho → Option (Oe Bool)) : Rho → Option (Oe Bool) := fun ρ => bindO (f ρ) fun b ρ1 => if b = true then some (.ok true ρ1) else g ρ1
def notT (f : Rho → Option (Oe Bool)) : Rho → Option (Oe Bool) := fun ρ => bindO (f ρ) fun b ρ1 => some (.ok (!b) ρ1)
/-- as values -/
def andM (f g : EM) : EM := fun ρ => bindO (f ρ) fun r ρ1 => match r with
  | .dat (.bool true) => g ρ1
  | .dat (.bool false) => some (.ok (.dat (.bool false)) ρ1)
  | _ => none
def orM (f g : EM) : EM := fun ρ => bindO (f ρ) fun r ρ1 => match r with
  | .dat (.bool true) => some (.ok (.dat (.bool true)) ρ1)
  | .dat (.bool false) => g ρ1
  | _ => none
def notM (f : EM) : EM := fun ρ => bindO (f ρ) fun r ρ1 => match r with
  | .dat (.bool b) => some (.ok (.dat (.bool (!b))) ρ1)
  | _ => none
def iteM (c : Rho → Option (Oe Bool)) (f g : EM) : EM := fun ρ => bindO (c ρ) fun b ρ1 => if b = true then f ρ1 else g ρ1
/-- all still -/
def dats : List R → Option (List PyData)
  | [] => some []
  | .dat d :: rs => (dats rs).map (d :: ·)
  | _ => none
def tupM (fa : AM) : EM := fun ρ => bindO (fa ρ) fun rs ρ1 => match dats rs with
  | some ds => if ds.length ≤ 100000 then some (.ok (.dat (.tuple ds)) ρ1) else none
  | none => none
def lstM (fa : AM) : EM := fun ρ => bindO (fa ρ) fun rs ρ1 => match dats rs with
  | some ds => if ds.length ≤ 100000 then some (.ok (.own (.list ds)) ρ1) else none
  | none => none
/-- two comparisons in a row -/
def chM (g g' : PyData → PyData → Option R) (fa fb fc : EM) : EM := fun ρ => bindO (fa ρ) fun r ρ1 => bindO (fb ρ1) fun s ρ2 =>
  match val ρ2 r, val ρ2 s with
  | some d, some e => match g d e with
    | some (.dat (.bool true)) => bindO (fc ρ2) fun t ρ3 => match val ρ3 s, val ρ3 t with
      | some e', some z => (g' e' z).map fun y => .ok y ρ3
      | _, _ => none
    | some (.dat (.bool false)) => some (.ok (.dat (.bool false)) ρ2)
    | _ => none
  | _, _ => none
section
variable {X : Cx} {T : Tb} {W : WX} {a b c : Expr} {fa fb fc : EM} {pos : Pos}
theorem se_nm (i : Nat) {x : Str} (hN : X.N[i]? = some x) (hv : Vis X.env.scope x) (hd : (x == ("__debug__" : Str)) = false := by decide) (hcd : (x == ("__classdict__" : Str)) = false := by decide) : SE X T W (.Name x pos) (nmM i) := by
  refine pe_imp (pe_var hN hv hd hcd) fun σ H Q ⟨ρ, F, O, E, P⟩ => ?_
  unfold nmM at P
  cases q : ρ[i]? with
  | none => rw [q] at P; exact P.elim
  | some o =>
    cases o with
    | none => rw [q] at P; exact P.elim
    | some r =>
      rw [q] at P
      obtain ⟨v, hv, s⟩ := E.at_ i r q
      refine ⟨v, hv, ?_⟩
      cases r with
      | dat d => exact P v H F O .refl E s.2
      | own d => exact P v H F O .refl E hv
      | slt j => exact P.elim
      | fn k => exact P v H F O .refl E s.2
      | st xs => exact P v H F O .refl E hv
      | ex c fs => exact P v H F O .refl E s.2
      | two d e => exact P.elim
      | obj o => exact P v H F O .refl E hv
      | prt i k => exact P.elim
theorem se_const {e : Expr} {v : V} {d : PyData} (h : PE X e (tC v)) (hd : ∀ H F, DF T.K H F v d) : SE X T W e (cM d) :=
  pe_imp h fun σ H Q ⟨ρ, F, O, E, P⟩ => P v H F O .refl E (hd H F)
theorem se_int {i j pos} : SE X T W (.Constant (.int i) j pos) (cM (.int i)) := se_const pe_int fun _ _ => .int i
theorem se_bl {i j pos} : SE X T W (.Constant (.bool i) j pos) (cM (.bool i)) := se_const pe_bl fun _ _ => .bl i
theorem se_str {i j pos} : SE X T W (.Constant (.str i) j pos) (cM (.str i)) := se_const pe_str fun _ _ => .str i
/-- what an operation's rule r does with data -/
def Does2 (T : Tb) (r : R2) (g : PyData → PyData → Option R) : Prop :=
  ∀ (x y : V) (d e : PyData) (z : R) (H : Hp) (F : Reg) (Q : VK), (∀ p, F p → H p ≠ none) → Vw T H F x d → Vw T H F y e → g d e = some z → (∀ v H' F', Gr H F H' F' → ResN T H H' F' v z → Q v H') → r x y H Q
theorem op2 {r : R2} {g : PyData → PyData → Option R} (dr : Does2 T r g) {σ : L2.St} {H : Hp} {Q : VK} (h : Tof T W (tlE T) (op2M g fa fb) σ H Q) : tOp r (Tof T W (tlE T) fa) (Tof T W (tlE T) fb) σ H Q := by
  obtain ⟨ρ, F, O, E, P⟩ := h
  refine stp .refl E P fun v H1 ra ρ1 F1 O1 x1 _ E1 r1 P1 => ?_
  refine stp x1 E1 P1 fun u H2 rb ρ2 F2 O2 x2 y2 E2 r2 P2 => ?_
  have r1' : ResR T H H2 F2 O2 σ v ra := ResR.mono E1 x2 r1
  cases q1 : val ρ2 ra with
  | none => rw [q1] at P2; exact P2.elim
  | some d =>
    cases q2 : val ρ2 rb with
    | none => rw [q1, q2] at P2; exact P2.elim
    | some e =>
      rw [q1, q2] at P2
      dsimp only at P2
      cases q3 : g d e with
      | none => rw [q3] at P2; exact P2.elim
      | some z =>
        rw [q3] at P2
        exact dr v u d e z H2 F2 Q E2.lv (val_vw E2 r1' q1) (val_vw E2 r2 q2) q3 fun w H3 F3 g3 n3 => fin_op y2 E2 P2 g3 n3
theorem se_op {op : Operator} {r : R2} {g : PyData → PyData → Option R} (ho : OpR X (binaryOp op) r) (dr : Does2 T r g) (ha : SE X T W a fa) (hb : SE X T W b fb) : SE X T W (.BinOp a op b pos) (op2M g fa fb) :=
  pe_imp (pe_op ho ha hb) fun _ _ _ h => op2 dr h
theorem se_ix {r : R2} {g : PyData → PyData → Option R} (ho : IxR X r) (dr : Does2 T r g) (hs : PlainIx b) (ha : SE X T W a fa) (hb : SE X T W b fb) : SE X T W (.Subscript a b pos) (op2M g fa fb) :=
  pe_imp (pe_ix ho ha hb hs) fun _ _ _ h => op2 dr h
def Does1 (T : Tb) (r : V → Hp → VK → Prop) (g : PyData → Option R) : Prop :=
  ∀ (x : V) (d : PyData) (z : R) (H : Hp) (F : Reg) (Q : VK), (∀ p, F p → H p ≠ none) → Vw T H F x d → g d = some z → (∀ v H' F', Gr H F H' F' → ResN T H H' F' v z → Q v H') → r x H Q
theorem sa_nil : SA X T W [] nilA := pa_imp pa_nil fun σ H Q ⟨ρ, F, O, E, P⟩ => P [] H F O .refl E .nil
theorem ResRs.mono {H0 H H' : Hp} {F F' : Reg} {O O' : Ows} {σ : L2.St} {ρ : Rho} (E : EnvR T H F O σ ρ) (x : Ext false H F O H' F' O') : ∀ {vs : List V} {rs : List R}, ResRs T H0 H F O σ vs rs → ResRs T H0 H' F' O' σ vs rs
  | _, _, .nil => .nil
  | _, _, .cons a b => .cons (ResR.mono E x a) (ResRs.mono E x b)
theorem ResRs.back {H0 H1 H : Hp} {F : Reg} {O : Ows} {σ : L2.St} (l : ∀ b, H1 b = none → H0 b = none) : ∀ {vs : List V} {rs : List R}, ResRs T H1 H F O σ vs rs → ResRs T H0 H F O σ vs rs
  | _, _, .nil => .nil
  | _, _, .cons a b => .cons (ResR.back l a) (ResRs.back l b)
/-- a temporary becomes still -/
theorem tmp_ok {B H0 H : Hp} {FB F : Reg} {OB O : Ows} {σ : L2.St} {ρ : Rho} {v : V} (x : Ext false B FB OB H F O) (l : ∀ b, H0 b = none → B b = none) (E : EnvR T H F O σ ρ) {r : R} (h : ResR T H0 H F O σ v r) :
    ∃ F', Ext false B FB OB H F' O ∧ EnvR T H F' O σ ρ ∧ ResR T H0 H F' O σ v (tmp r) := by
  cases r with
  | own d =>
    obtain ⟨a, h1, h2, h3, h4, h5⟩ := h
    have nf : ∀ i b, b ∈ O i → ¬ (F b ∨ b = a) := fun i b q z => z.elim (E.nf i b q) fun y => h4 i (y ▸ q)
    obtain ⟨o, ho, _⟩ := h5.there
    have lv : ∀ b, (F b ∨ b = a) → H b ≠ none := fun b h => h.elim (E.lv b) fun z => by rw [z, ho]; simp
    refine ⟨fun b => F b ∨ b = a, ⟨x.keep, x.live, fun b h => .inl (x.grow b h), fun b h => ?_, x.own⟩, E.grown (fun _ _ h => h) (fun _ h => .inl h) nf lv, ?_⟩
    · rcases h with h | rfl
      · exact x.new b h
      · exact .inr (.inr (l b h2))
    · rw [h1]
      exact OwnAt.df (F := fun b => F b ∨ b = a) (.inr rfl) (h5.mono (fun _ _ h _ => h) (fun _ h => .inl h) fun _ h => h)
  | dat d => exact ⟨F, x, E, h⟩
  | slt i => exact ⟨F, x, E, h⟩
  | fn k => exact ⟨F, x, E, h⟩
  | st xs => exact ⟨F, x, E, h⟩
  | ex c fs => exact ⟨F, x, E, h⟩
  | two d e => exact ⟨F, x, E, h⟩
  | obj o => exact ⟨F, x, E, h⟩
  | prt i k => exact ⟨F, x, E, h⟩
variable {e : Expr} {es : List Expr} {fe : EM} {fr : AM}
theorem sa_cons (he : SE X T W e fe) (hr : SA X T W es fr) (hs : starEach (e :: es) X.env = (false, eval e X.env) :: starEach es X.env := by rfl) : SA X T W (e :: es) (consA fe fr) := by
  refine pa_imp (pa_cons he hr hs) fun σ H Q ⟨ρ, F, O, E, P⟩ => ?_
  refine stp .refl E P fun v H1 ra ρ1 F1 O1 _ y1 E1 r1 P1 => ?_
  obtain ⟨F1', y1', E1', r1'⟩ := tmp_ok y1 (fun _ h => h) E1 r1
  refine stp y1' E1' P1 fun vs H2 rs ρ2 F2 O2 x2 y2 E2 r2 P2 => ?_
  exact P2 _ _ _ _ y2 E2 (.cons (ResR.mono E1' x2 r1') (ResRs.back y1'.live r2))
theorem sd_cons (he : SE X T W e fe) (hr : SA X T W es fr) (hs : starEach (e :: es) X.env = (false, eval e X.env) :: starEach es X.env := by rfl) : SA X T W (e :: es) (consD fe fr) := by
  refine pa_imp (pa_cons he hr hs) fun σ H Q ⟨ρ, F, O, E, P⟩ => ?_
  refine stp .refl E P fun v H1 ra ρ1 F1 O1 _ y1 E1 r1 P1 => ?_
  cases q : frz ρ1 ra with
  | none => rw [q] at P1; exact P1.elim
  | some z =>
    obtain ⟨d, ρ1'⟩ := z
    rw [q] at P1
    obtain ⟨F1', O1', y1', E1', d1, _, _, _⟩ := fz y1 (fun _ h => h) E1 r1 q
    refine stp y1' E1' P1 fun vs H2 rs ρ2 F2 O2 x2 y2 E2 r2 P2 => ?_
    exact P2 _ _ _ _ y2 E2 (.cons (show ResR T H H2 F2 O2 σ v (.dat d) from DF.mono (E1'.kept x2) x2.grow d1) (ResRs.back y1'.live r2))
inductive Vws (T : Tb) (H : Hp) (F : Reg) : List V → List PyData → Prop where
  | nil : Vws T H F [] []
  | cons {v : V} {d : PyData} {vs : List V} {ds : List PyData} : Vw T H F v d → Vws T H F vs ds → Vws T H F (v :: vs) (d :: ds)
theorem vals_vws {H0 H : Hp} {F : Reg} {O : Ows} {σ : L2.St} {ρ : Rho} (E : EnvR T H F O σ ρ) : ∀ {vs : List V} {rs : List R} {ds : List PyData}, ResRs T H0 H F O σ vs rs → vals ρ rs = some ds → Vws T H F vs ds
  | _, _, _, .nil, h => by cases h; exact .nil
  | _, r :: rs, ds, .cons a b, h => by
    unfold vals at h
    cases q1 : val ρ r with
    | none => rw [q1] at h; cases h
    | some d =>
      cases q2 : vals ρ rs with
      | none => rw [q1, q2] at h; cases h
      | some es =>
        rw [q1, q2] at h
        cases h
        exact .cons (val_vw E a q1) (vals_vws E b q2)
def DoesN (T : Tb) (r : List V → Hp → VK → Prop) (g : List PyData → Option R) : Prop :=
  ∀ (xs : List V) (ds : List PyData) (z : R) (H : Hp) (F : Reg) (Q : VK), (∀ p, F p → H p ≠ none) → Vws T H F xs ds → g ds = some z → (∀ v H' F', Gr H F H' F' → ResN T H H' F' v z → Q v H') → r xs H Q
theorem opn {r : List V → Hp → VK → Prop} {g : List PyData → Option R} (dr : DoesN T r g) {f : AM} {σ : L2.St} {H : Hp} {Q : VK} (h : Tof T W (tlE T) (opnM g f) σ H Q) : Tof T W (tlA T) f σ H fun vs H1 => r vs H1 Q := by
  obtain ⟨ρ, F, O, E, P⟩ := h
  refine stp .refl E P fun vs H1 rs ρ1 F1 O1 x1 y1 E1 r1 P1 => ?_
  cases q1 : vals ρ1 rs with
  | none => rw [q1] at P1; exact P1.elim
  | some ds =>
    rw [q1] at P1
    dsimp only at P1
    cases q3 : g ds with
    | none => rw [q3] at P1; exact P1.elim
    | some z =>
      rw [q3] at P1
      exact dr vs ds z H1 F1 Q E1.lv (vals_vws E1 r1 q1) q3 fun w H3 F3 g3 n3 => fin_op y1 E1 P1 g3 n3
/-- a built-in by its name, a built-in class -/
theorem se_callB {x : Str} {id : String} {r : List V → Hp → VK → Prop} {g : List PyData → Option R} {f : AM} {p : Pos} (hc : CallR X (.builtin id) r) (dr : DoesN T r g) (hg : L2.Gl X x) (hm : X.mg x = none) (hv : bootBuiltins x = some (.builtin id)) (ha : SA X T W (e :: es) f)
    (hn : x ≠ "__name__" := by decide) (hdb : (x == ("__debug__" : Str)) = false := by decide) (he : starEach (e :: es) X.env = (false, eval e X.env) :: starEach es X.env := by rfl) (hpl : (backTo pos (starEach es X.env)).any (·.1) = false := by rfl) :
    SE X T W (.Call (.Name x p) (e :: es) [] pos) (opnM g f) := pe_imp (pe_callB hc hg hm hv ha hn hdb he hpl) fun _ _ _ h => opn dr h
theorem dats_dfs {H0 H : Hp} {F : Reg} {O : Ows} {σ : L2.St} : ∀ {vs : List V} {rs : List R} {ds : List PyData}, ResRs T H0 H F O σ vs rs → dats rs = some ds → DFs T.K H F vs ds
  | _, _, _, .nil, h => by cases h; exact .nil
  | _, .dat d :: rs, ds, .cons a b, h => by
    have h' : (dats rs).map (d :: ·) = some ds := h
    cases q : dats rs with
    | none => rw [q] at h'; cases h'
    | some es => rw [q] at h'; cases h'; exact .cons a (dats_dfs b q)
theorem sz5 {n : Nat} (h : n ≤ 100000) : n ≤ sizeLine := Nat.le_trans h (by decide)
theorem se_tup {f : AM} {k : Nat} (h : SA X T W es f) : SE X T W (.Tuple es k pos) (tupM f) := by
  refine pe_imp (pe_tup h) fun σ H Q ⟨ρ, F, O, E, P⟩ => ?_
  refine stp .refl E P fun vs H1 rs ρ1 F1 O1 x1 y1 E1 r1 P1 => ?_
  cases q1 : dats rs with
  | none => rw [q1] at P1; exact P1.elim
  | some ds =>
    rw [q1] at P1
    dsimp only at P1
    have s := dats_dfs r1 q1
    split at P1
    · rename_i hz
      refine ⟨by rw [s.length]; exact sz5 hz, fun p hp => ?_⟩
      exact fin_op y1 E1 P1 (.laid hp) (resN_tup hp s)
    · exact P1.elim
theorem se_lst {f : AM} (h : SA X T W es f) : SE X T W (.List es pos) (lstM f) := by
  refine pe_imp (pe_lst h) fun σ H Q ⟨ρ, F, O, E, P⟩ => ?_
  refine stp .refl E P fun vs H1 rs ρ1 F1 O1 x1 y1 E1 r1 P1 => ?_
  cases q1 : dats rs with
  | none => rw [q1] at P1; exact P1.elim
  | some ds =>
    rw [q1] at P1
    dsimp only at P1
    have s := dats_dfs r1 q1
    split at P1
    · rename_i hz
      refine ⟨by rw [s.length]; exact sz5 hz, fun p hp => ?_⟩
      exact fin_op y1 E1 P1 (.laid hp) (resN_lst hp (fun q => E1.lv p q hp) s)
    · exact P1.elim
theorem ts_of {f : EM} {σ : L2.St} {H : Hp} {Q : Bool → Hp → Prop} (h : Tof T W tlB (tsM f) σ H Q) : Tof T W (tlE T) f σ H fun x H1 => ∃ k, x = .bl k ∧ Q k H1 := by
  obtain ⟨ρ, F, O, E, P⟩ := h
  refine stp .refl E P fun v H1 ra ρ1 F1 O1 x1 y1 E1 r1 P1 => ?_
  cases ra with
  | dat d =>
    cases d with
    | bool b =>
      have e : v = .bl b := by cases (show DF T.K H1 F1 v (.bool b) from r1); rfl
      exact ⟨b, e, P1 b H1 F1 O1 y1 E1 rfl⟩
    | none => exact P1.elim
    | int i => exact P1.elim
    | str x => exact P1.elim
    | list xs => exact P1.elim
    | tuple xs => exact P1.elim
    | dict xs => exact P1.elim
  | own d => exact P1.elim
  | slt i => exact P1.elim
  | fn k => exact P1.elim
  | st xs => exact P1.elim
  | ex c fs => exact P1.elim
  | two d e => exact P1.elim
  | obj o => exact P1.elim
  | prt i k => exact P1.elim
variable {ta tb : Rho → Option (Oe Bool)}
theorem st_val {f : EM} (h : SE X T W e f) (he : ∀ whole, isTrue e X.env whole = (do let v ← whole; standAt e.pos; holding [v] (truthy v)) := by intro _; rfl) : ST X T W e (tsM f) :=
  pt_imp (pt_val h he) fun _ _ _ h => ts_of h
theorem st_cmp {op : CmpOp} {r : R2} {g : PyData → PyData → Option R} (ho : OpR X (compareOp op) r) (dr : Does2 T r g) (ha : SE X T W a fa) (hb : SE X T W b fb) (hm : behindInMarks op b = false) : ST X T W (.Compare a [op] [b] pos) (tsM (op2M g fa fb)) :=
  pt_imp (pt_cmpR ho ha hb hm) fun _ _ _ h => op2 dr (ts_of h)
def SW (X : Cx) (T : Tb) (W : WX) (e : Expr) (f : Rho → Option (Oe Bool)) : Prop := PW X e (Tof T W tlB f)
theorem pw_imp {X : Cx} {e : Expr} {t t' : TT} (h : PW X e t) (i : ∀ σ H Q, t' σ H Q → t σ H Q) : PW X e t' := ⟨fun whole pins s σ H Q I q => h.run whole pins s σ H Q I (i σ H Q q)⟩
theorem st_w {f : Rho → Option (Oe Bool)} (h : SW X T W e f) : ST X T W e f := PW.pt h
theorem sw_or1 (h : ST X T W a ta) : SW X T W (.BoolOp .Or [a] pos) ta := pw_or1 h
theorem or_of {f g : Rho → Option (Oe Bool)} {σ : L2.St} {H : Hp} {Q : Bool → Hp → Prop} (h : Tof T W tlB (orT f g) σ H Q) : tOr (Tof T W tlB f) (Tof T W tlB g) σ H Q := by
  obtain ⟨ρ, F, O, E, P⟩ := h
  refine stp .refl E P fun v H1 b ρ1 F1 O1 x1 y1 E1 r1 P1 => ?_
  have r1' : v = b := r1
  subst r1'
  cases v with
  | false =>
    rw [if_neg Bool.false_ne_true] at P1 ⊢
    refine ⟨ρ1, F1, O1, E1, ?_⟩
    cases q : g ρ1 with
    | none => rw [q] at P1; exact P1
    | some o =>
      rw [q] at P1
      cases o with
      | ok c ρ2 => exact fun w H2 F2 O2 x2 E2 r2 => P1 w H2 F2 O2 (y1.trans x2) E2 r2
      | er c fs ρ2 => exact fun w d H2 F2 O2 x2 E2 r2 => P1 w d H2 F2 O2 (y1.trans x2) E2 r2
  | true =>
    rw [if_pos rfl] at P1 ⊢
    exact P1 true H1 F1 O1 y1 E1 rfl
variable {rest : List Expr}
theorem sw_or (ha : ST X T W a ta) (hb : SW X T W (.BoolOp .Or (b :: rest) pos) tb) : SW X T W (.BoolOp .Or (a :: b :: rest) pos) (orT ta tb) := pw_imp (pw_or ha hb) fun _ _ _ h => or_of h
theorem st_not (ha : ST X T W a ta) : ST X T W (.UnaryOp .Not a pos) (notT ta) := by
  refine pt_imp (pt_not ha) fun σ H Q ⟨ρ, F, O, E, P⟩ => ?_
  refine stp .refl E P fun v H1 b ρ1 F1 O1 x1 y1 E1 r1 P1 => ?_
  have r1' : v = b := r1
  subst r1'
  exact P1 _ H1 F1 O1 y1 E1 rfl
/-- the rest of a piece from the state where it stands -/
theorem rst {α β : Type} {Ra : Tell α β} {B H : Hp} {FB F : Reg} {OB O : Ows} {σ : L2.St} {ρ : Rho} {f : Rho → Option (Oe α)} {Q : β → Hp → Prop}
    (bk : ∀ H' F' O' v a, Ra σ H H' F' O' v a → Ra σ B H' F' O' v a) (x : Ext false B FB OB H F O) (E : EnvR T H F O σ ρ) (P : Post T W Ra σ B FB OB Q (f ρ)) : Tof T W Ra f σ H Q := by
  refine ⟨ρ, F, O, E, ?_⟩
  cases q : f ρ with
  | none => rw [q] at P; exact P
  | some o =>
    rw [q] at P
    cases o with
    | ok c ρ2 => exact fun w H2 F2 O2 x2 E2 r2 => P w H2 F2 O2 (x.trans x2) E2 (bk _ _ _ _ _ r2)
    | er c fs ρ2 => exact fun w d H2 F2 O2 x2 E2 r2 => P w d H2 F2 O2 (x.trans x2) E2 r2
theorem rstE {B H : Hp} {FB F : Reg} {OB O : Ows} {σ : L2.St} {ρ : Rho} {f : EM} {Q : VK} (x : Ext false B FB OB H F O) (E : EnvR T H F O σ ρ) (P : Post T W (tlE T) σ B FB OB Q (f ρ)) : Tof T W (tlE T) f σ H Q :=
  rst (fun _ _ _ _ _ h => ResR.back x.live h) x E P
theorem bl_of {H : Hp} {F : Reg} {v : V} {b : Bool} (h : DF T.K H F v (.bool b)) : v = .bl b := by cases h; rfl
theorem se_ite (hc : ST X T W c ta) (ha : SE X T W a fa) (hb : SE X T W b fb) : SE X T W (.IfExp c a b pos) (iteM ta fa fb) := by
  refine pe_imp (pe_ifExp hc ha hb) fun σ H Q ⟨ρ, F, O, E, P⟩ => ?_
  refine stp .refl E P fun v H1 b ρ1 F1 O1 x1 y1 E1 r1 P1 => ?_
  have r1' : v = b := r1
  subst r1'
  cases v with
  | true => rw [if_pos rfl] at P1 ⊢; exact rstE y1 E1 P1
  | false => rw [if_neg Bool.false_ne_true] at P1 ⊢; exact rstE y1 E1 P1
end
end DL
namespace DL
open PySem L2
section
variable {X : Cx} {pins : List (Addr × Obj)} {σ : L2.St} {H : Hp} {s : Shared} {a : Addr} {xs : List V}
theorem isL_of (I : L2.Inv X pins σ H s) (h : LsR X.K H a xs) : ∃ its n, Vals xs its ∧ IsL s.heap a its.toArray n ∧ xs.length ≤ sizeLine := by
  rcases h with (h | ⟨o, h⟩) | ⟨its, n, h1, h2, h3, _⟩
  · obtain ⟨z, its, n, r, e⟩ := I.hok a _ h
    exact ⟨its, n, r, e, z⟩
  · obtain ⟨_, z, its, n, r, e⟩ := I.hok a _ h
    exact ⟨its, n, r, e, z⟩
  · refine ⟨its.toList, n, h3, ?_, ?_⟩
    · have q := I.kIn a _ h1
      simpa using q
    · rw [h3.length]
      simpa using h2
end
/-- + -/
def rPlus (K : PySem.W.Frag) : R2 := fun x y H Q => (∃ i j, x = .int i ∧ y = .int j ∧ Q (.int (i + j)) H) ∨
  (∃ i j, x = .str i ∧ y = .str j ∧ i.length + j.length ≤ sizeLine ∧ Q (.str (i ++ j)) H) ∨
  (∃ l b xs zs, x = .ref l ∧ y = .ref b ∧ LsR K H l xs ∧ LsR K H b zs ∧ xs.length + zs.length ≤ sizeLine ∧ ∀ p, H p = none → Q (.ref p) (upd H p (.lst (xs ++ zs)))) ∨ rCatA K x y H Q
theorem op_plusL {X : Cx} : OpR X (binaryOp .Add) (fun x y H Q => ∃ l b xs zs, x = .ref l ∧ y = .ref b ∧ LsR X.K H l xs ∧ LsR X.K H b zs ∧ xs.length + zs.length ≤ sizeLine ∧ ∀ p, H p = none → Q (.ref p) (upd H p (.lst (xs ++ zs)))) := by
  intro pins s σ H x y v u Q I rx ry h
  obtain ⟨l, b, xs, zs, rfl, rfl, h1, h2, hz, q⟩ := h
  cases rx
  cases ry
  obtain ⟨i1, n1, r1, e1, _⟩ := isL_of I h1
  obtain ⟨i2, n2, r2, e2, _⟩ := isL_of I h2
  have l1 := r1.length
  have l2 := r2.length
  refine PySem.P.add_list e1 e2 ?_ (by simp only [List.size_toArray]; omega)
  rw [show i1.toArray ++ i2.toArray = (i1 ++ i2).toArray by simp]
  exact ⟨.ref _, _, I.lnew (t' := s.toks) (r1.append r2) (by rw [List.length_append]; exact hz), rfl, q _ I.fresh⟩
theorem op_plus {X : Cx} : OpR X (binaryOp .Add) (rPlus X.K) := op_add.or (op_add_str.or (op_plusL.or op_catA))
def CFd (_ j : Int) : Prop := j ≠ 0 ∧ j.natAbs.log2 < 9000
theorem op_fd {X : Cx} : OpR X (binaryOp .FloorDiv) (rI CFd fun i j => .int (i.fdiv j)) := opI fun _ _ _ _ _ _ _ hc q => PyProof.Rows.floordiv_int hc.1 q (.inl (PyProof.noPylong_of_log2 hc.2))
/-- lengths are kept within a bound that every heap bears -/
abbrev lim : Nat := 100000
def dPlus : PyData → PyData → Option R
  | .int i, .int j => some (.dat (.int (i + j)))
  | .str i, .str j => if i.length + j.length ≤ lim then some (.dat (.str (i ++ j))) else none
  | .list xs, .list ys => if xs.length + ys.length ≤ lim then some (.own (.list (xs ++ ys))) else none
  | .tuple xs, .tuple ys => if xs.length + ys.length ≤ lim then some (.dat (.tuple (xs ++ ys))) else none
  | _, _ => none
def dMinus : PyData → PyData → Option R
  | .int i, .int j => some (.dat (.int (i - j)))
  | _, _ => none
def dMul : PyData → PyData → Option R
  | .int i, .int j => if i.natAbs.log2 + j.natAbs.log2 < 1000000 then some (.dat (.int (i * j))) else none
  | .tuple xs, .int k => if xs ≠ [] ∧ 2 ≤ k ∧ k ≤ 1000 ∧ xs.length ≤ 1000 then some (.dat (.tuple (List.replicate k.toNat xs).flatten)) else none
  | _, _ => none
def dFd : PyData → PyData → Option R
  | .int i, .int j => if j ≠ 0 ∧ j.natAbs.log2 < 9000 then some (.dat (.int (i.fdiv j))) else none
  | _, _ => none
def dMod : PyData → PyData → Option R
  | .int i, .int j => if j ≠ 0 then some (.dat (.int (i.fmod j))) else none
  | _, _ => none
def dPow : PyData → PyData → Option R
  | .int i, .int j => if 0 ≤ j ∧ j ≤ 1000000 ∧ i.natAbs < 2 ^ 64 then some (.dat (.int (i ^ j.toNat))) else none
  | _, _ => none
def dNeg : PyData → Option R
  | .int i => some (.dat (.int (-i)))
  | _ => none
def dLt : PyData → PyData → Option R
  | .int i, .int j => some (.dat (.bool (decide (i < j))))
  | _, _ => none
def dLe : PyData → PyData → Option R
  | .int i, .int j => some (.dat (.bool (decide (i ≤ j))))
  | _, _ => none
def dGt : PyData → PyData → Option R
  | .int i, .int j => some (.dat (.bool (decide (j < i))))
  | _, _ => none
def dGe : PyData → PyData → Option R
  | .int i, .int j => some (.dat (.bool (decide (j ≤ i))))
  | _, _ => none
def dEq : PyData → PyData → Option R
  | .str i, .str j => some (.dat (.bool (decide (i = j))))
  | d, e => if SeqAt.shaped d = true ∧ SeqAt.shaped e = true then some (.dat (.bool (PyData.eqv d e))) else none
def dNe : PyData → PyData → Option R
  | .str i, .str j => some (.dat (.bool (!decide (i = j))))
  | d, e => if SeqAt.shaped d = true ∧ SeqAt.shaped e = true then some (.dat (.bool (!PyData.eqv d e))) else none
/-- x is None -/
def isNone : PyData → Bool
  | .none => true
  | _ => false
def dIsN (d e : PyData) : Option R := match e with
  | .none => some (.dat (.bool (isNone d)))
  | _ => none
def dNotN (d e : PyData) : Option R := match e with
  | .none => some (.dat (.bool (!isNone d)))
  | _ => none
def dIx : PyData → PyData → Option R
  | .list xs, .int i => (atI xs i).map R.dat
  | .tuple xs, .int i => (atI xs i).map R.dat
  | .str x, .int i => if x.length ≤ lim then (atI x.cps.toList i).map fun c => R.dat (.str ⟨#[c]⟩) else none
  | _, _ => none
section
variable {T : Tb} {H : Hp} {F : Reg}
theorem lm {n : Nat} (h : n ≤ lim) : n ≤ sizeLine := Nat.le_trans h (by decide)
theorem does_plus : Does2 T (rPlus T.K) dPlus := by
  intro x y d e z H F Q lv hx hy hg hq
  unfold dPlus at hg
  split at hg
  · cases hg
    exact .inl ⟨_, _, hx.int, hy.int, hq _ H F .refl (.int _)⟩
  · split at hg
    · rename_i hz
      cases hg
      exact .inr (.inl ⟨_, _, hx.str, hy.str, lm hz, hq _ H F .refl (.str _)⟩)
    · cases hg
  · split at hg
    · rename_i hz
      cases hg
      obtain ⟨a, vs, rfl, h1, s1⟩ := hx.lst
      obtain ⟨b, us, rfl, h2, s2⟩ := hy.lst
      refine .inr (.inr (.inl ⟨a, b, vs, us, rfl, rfl, h1, h2, by rw [s1.length, s2.length]; exact lm hz, fun p hp => hq _ _ F (.laid hp) (resN_lst hp (fun q => lv p q hp) (s1.append s2))⟩))
    · cases hg
  · split at hg
    · rename_i hz
      cases hg
      obtain ⟨a, vs, rfl, h1, s1⟩ := hx.tup
      obtain ⟨b, us, rfl, h2, s2⟩ := hy.tup
      refine .inr (.inr (.inr ⟨a, b, vs, us, rfl, rfl, h1, h2, by rw [s1.length, s2.length]; exact lm hz, fun e => ?_, fun _ e => ?_, fun _ _ p hp => hq _ _ F (.laid hp) (resN_tup hp (s1.append s2))⟩))
      · subst e
        cases s1
        exact hq _ H F .refl (.tup h2 s2)
      · subst e
        cases s2
        rw [List.append_nil] at hq
        exact hq _ H F .refl (.tup h1 s1)
    · cases hg
  · cases hg
theorem does_minus : Does2 T (rI0 fun i j => .int (i - j)) dMinus := by
  intro x y d e z H F Q lv hx hy hg hq
  unfold dMinus at hg
  split at hg
  · cases hg
    exact ⟨_, _, hx.int, hy.int, hq _ H F .refl (.int _)⟩
  · cases hg
def rMulX (K : PySem.W.Frag) : R2 := fun x y H Q => rI CMulW (fun i j => .int (i * j)) x y H Q ∨ rRepT K x y H Q
theorem op_mulX {X : Cx} : OpR X (binaryOp .Mult) (rMulX X.K) := op_mulW.or op_repT
theorem DFs.rep {vs : List V} {ds : List PyData} (h : DFs T.K H F vs ds) : ∀ n : Nat, DFs T.K H F (List.replicate n vs).flatten (List.replicate n ds).flatten
  | 0 => .nil
  | n + 1 => by
    rw [List.replicate_succ, List.replicate_succ, List.flatten_cons, List.flatten_cons]
    exact h.append (DFs.rep h n)
theorem does_mul : Does2 T (rMulX T.K) dMul := by
  intro x y d e z H F Q lv hx hy hg hq
  unfold dMul at hg
  split at hg
  · split at hg
    · rename_i hz
      cases hg
      exact .inl ⟨_, _, hx.int, hy.int, hz, hq _ H F .refl (.int _)⟩
    · cases hg
  · split at hg
    · rename_i hz
      cases hg
      obtain ⟨a, vs, rfl, h1, s1⟩ := hx.tup
      refine .inr ⟨a, _, vs, rfl, hy.int, h1, fun e => ?_, hz.2.1, hz.2.2.1, by rw [s1.length]; exact hz.2.2.2, fun p hp => hq _ _ F (.laid hp) (resN_tup hp (s1.rep _))⟩
      subst e
      cases s1
      exact hz.1 rfl
    · cases hg
  · cases hg
theorem does_fd : Does2 T (rI CFd fun i j => .int (i.fdiv j)) dFd := by
  intro x y d e z H F Q lv hx hy hg hq
  unfold dFd at hg
  split at hg
  · split at hg
    · rename_i hz
      cases hg
      exact ⟨_, _, hx.int, hy.int, hz, hq _ H F .refl (.int _)⟩
    · cases hg
  · cases hg
theorem does_mod : Does2 T (rI (fun _ j => j ≠ 0) fun i j => .int (i.fmod j)) dMod := by
  intro x y d e z H F Q lv hx hy hg hq
  unfold dMod at hg
  split at hg
  · split at hg
    · rename_i hz
      cases hg
      exact ⟨_, _, hx.int, hy.int, hz, hq _ H F .refl (.int _)⟩
    · cases hg
  · cases hg
theorem does_pow : Does2 T (rI CPow fun i j => .int (i ^ j.toNat)) dPow := by
  intro x y d e z H F Q lv hx hy hg hq
  unfold dPow at hg
  split at hg
  · split at hg
    · rename_i hz
      cases hg
      exact ⟨_, _, hx.int, hy.int, hz, hq _ H F .refl (.int _)⟩
    · cases hg
  · cases hg
theorem does_lt : Does2 T (rI0 fun i j => .bl (decide (i < j))) dLt := by
  intro x y d e z H F Q lv hx hy hg hq
  unfold dLt at hg
  split at hg
  · cases hg
    exact ⟨_, _, hx.int, hy.int, hq _ H F .refl (.bl _)⟩
  · cases hg
theorem does_le : Does2 T (rI0 fun i j => .bl (decide (i ≤ j))) dLe := by
  intro x y d e z H F Q lv hx hy hg hq
  unfold dLe at hg
  split at hg
  · cases hg
    exact ⟨_, _, hx.int, hy.int, hq _ H F .refl (.bl _)⟩
  · cases hg
theorem does_gt : Does2 T (rI0 fun i j => .bl (decide (j < i))) dGt := by
  intro x y d e z H F Q lv hx hy hg hq
  unfold dGt at hg
  split at hg
  · cases hg
    exact ⟨_, _, hx.int, hy.int, hq _ H F .refl (.bl _)⟩
  · cases hg
theorem does_ge : Does2 T (rI0 fun i j => .bl (decide (j ≤ i))) dGe := by
  intro x y d e z H F Q lv hx hy hg hq
  unfold dGe at hg
  split at hg
  · cases hg
    exact ⟨_, _, hx.int, hy.int, hq _ H F .refl (.bl _)⟩
  · cases hg
mutual
theorem DF.dp : ∀ {v : V} {d : PyData}, DF T.K H F v d → d.canLay0 = true → L2.Dp T.K H v d
  | _, _, .non, _ => .non
  | _, _, .bl b, _ => .bl b
  | _, _, .int i, _ => .int i
  | _, _, .str x, _ => .str x
  | _, _, .lst f r s, h => .lst (.inl r) (DFs.dp s (by simpa [PyData.canLay0] using h))
  | _, _, .lstK r s, h => .lst (LsR.sq (.inr r)) (DFs.dp s (by simpa [PyData.canLay0] using h))
  | _, _, .tup r s, h => .tup r (DFs.dp s (by simpa [PyData.canLay0] using h))
  | _, _, .dct f r s, h => by simp [PyData.canLay0] at h
  | _, _, .dcT f r e s, h => by simp [PyData.canLay0] at h
theorem DFs.dp : ∀ {vs : List V} {ds : List PyData}, DFs T.K H F vs ds → PyData.canLayAll0 ds = true → L2.DpAll T.K H vs ds
  | _, _, .nil, _ => .nil
  | _, _, .cons a b, h => by
    have h' := h
    simp only [PyData.canLayAll0, Bool.and_eq_true] at h'
    exact .cons (DF.dp a h'.1) (DFs.dp b h'.2)
end
theorem Vw.dp {v : V} {d : PyData} (h : Vw T H F v d) (hs : SeqAt.shaped d = true) : L2.Dp T.K H v d := by
  have hc : d.canLay0 = true := by
    unfold SeqAt.shaped at hs
    simp only [Bool.and_eq_true] at hs
    exact hs.1
  rcases h with h | ⟨a, rfl, h⟩
  · exact h.dp hc
  · cases d with
    | list ds =>
      obtain ⟨vs, e, s⟩ := h
      exact .lst (.inl (.inl e)) (s.dp (by simpa [PyData.canLay0] using hc))
    | dict ds => simp [PyData.canLay0] at hc
    | none => exact h.elim
    | bool b => exact h.elim
    | int i => exact h.elim
    | str x => exact h.elim
    | tuple xs => exact h.elim
theorem does_ne : Does2 T (fun x y H Q => rNe x y H Q ∨ rNeD T.K x y H Q) dNe := by
  intro x y d e z H F Q lv hx hy hg hq
  unfold dNe at hg
  split at hg
  · cases hg
    have ex := hx.str
    have ey := hy.str
    subst ex ey
    refine .inl ⟨rfl, ?_⟩
    have := hq _ H F .refl (.bl _)
    simpa using this
  · split at hg
    · rename_i hz
      cases hg
      exact .inr ⟨_, _, hx.dp hz.1, hy.dp hz.2, hz.1, hz.2, hq _ H F .refl (.bl _)⟩
    · cases hg
theorem Vw.isNone {v : V} {d : PyData} (h : Vw T H F v d) : decide (v = .non) = DL.isNone d := by
  rcases h with h | ⟨a, rfl, h⟩
  · cases h <;> simp [DL.isNone]
  · cases d with
    | list ds => simp [DL.isNone]
    | dict ds => simp [DL.isNone]
    | none => exact h.elim
    | bool b => exact h.elim
    | int i => exact h.elim
    | str x => exact h.elim
    | tuple xs => exact h.elim
theorem atI_dfs {vs : List V} {ds : List PyData} {i : Int} {d : PyData} (s : DFs T.K H F vs ds) (h : atI ds i = some d) : ∃ v, atI vs i = some v ∧ DF T.K H F v d := by
  unfold atI at h ⊢
  rw [s.length]
  cases q : ixN ds.length i with
  | none => rw [q] at h; cases h
  | some j =>
    rw [q] at h
    exact s.get (show ds[j]? = some d from h)
theorem does_ix : Does2 T (rIx T.K) dIx := by
  intro x y d e z H F Q lv hx hy hg hq
  unfold dIx at hg
  split at hg
  · obtain ⟨a, vs, rfl, h1, s1⟩ := hx.lst
    obtain ⟨d', e1, e2⟩ := Option.map_eq_some_iff.mp hg
    subst e2
    obtain ⟨v, e3, h3⟩ := atI_dfs s1 e1
    exact .inl ⟨a, vs, _, v, rfl, hy.int, h1.sq, e3, hq _ H F .refl h3⟩
  · obtain ⟨a, vs, rfl, h1, s1⟩ := hx.tup
    obtain ⟨d', e1, e2⟩ := Option.map_eq_some_iff.mp hg
    subst e2
    obtain ⟨v, e3, h3⟩ := atI_dfs s1 e1
    exact .inr (.inl ⟨a, vs, _, v, rfl, hy.int, h1, e3, hq _ H F .refl h3⟩)
  · split at hg
    · rename_i hz
      obtain ⟨c, e1, e2⟩ := Option.map_eq_some_iff.mp hg
      subst e2
      exact .inr (.inr ⟨_, _, c, hx.str, hy.int, lm hz, e1, hq _ H F .refl (.str _)⟩)
    · cases hg
  · cases hg
end
end DL
namespace DL
open PySem L2
inductive Ot where
  | nx (ρ : Rho)
  | rt (r : R) (ρ : Rho)
  | bk (ρ : Rho)
  | ct (ρ : Rho)
  | er (c : Nat) (fs : List PyData) (ρ : Rho)
abbrev SM := Rho → Option Ot
/-- the slots that a def never stores stay -/
def Keeps (pr : Nat → Bool) (σ σ' : L2.St) : Prop := σ'.length = σ.length ∧ ∀ i, pr i = true → σ'[i]? = σ[i]?
theorem Keeps.refl {pr : Nat → Bool} {σ : L2.St} : Keeps pr σ σ := ⟨rfl, fun _ _ => rfl⟩
theorem Keeps.trans {pr : Nat → Bool} {σ σ1 σ2 : L2.St} (a : Keeps pr σ σ1) (b : Keeps pr σ1 σ2) : Keeps pr σ σ2 := ⟨b.1.trans a.1, fun i h => (b.2 i h).trans (a.2 i h)⟩
theorem Keeps.set {pr : Nat → Bool} {σ : L2.St} {i : Nat} {x : Option V} (h : pr i = false) : Keeps pr σ (σ.set i x) := ⟨List.length_set, fun j hj => by
  by_cases e : j = i
  · subst e; rw [h] at hj; cases hj
  · rw [List.getElem?_set_ne (Ne.symm e)]⟩
/-- a def's frame: the heap at its entry, how many parameters, the slots that it never stores -/
structure Fm where
  HB : Hp
  n : Nat
  pr : Nat → Bool
/-- the state between two statements -/
structure StR (T : Tb) (φ : Fm) (H : Hp) (F : Reg) (O : Ows) (σ : L2.St) (ρ : Rho) : Prop where
  E : EnvR T H F O σ ρ
  lb : ∀ b, H b = none → φ.HB b = none
  lf : ∀ i a, φ.n ≤ i → a ∈ O i → φ.HB a = none
theorem StR.step {T : Tb} {φ : Fm} {H H1 : Hp} {F F1 : Reg} {O O1 : Ows} {σ : L2.St} {ρ ρ1 : Rho} (S : StR T φ H F O σ ρ) (x : Ext false H F O H1 F1 O1) (E1 : EnvR T H1 F1 O1 σ ρ1) : StR T φ H1 F1 O1 σ ρ1 :=
  ⟨E1, fun b h => S.lb b (x.live b h), fun i a hi h => (x.own i a h).elim (S.lf i a hi) fun z => nomatch z.1⟩
def PostS (T : Tb) (W : WX) (φ : Fm) (σ : L2.St) (H : Hp) (F : Reg) (O : Ows) (D : Ends) : Option Ot → Prop
  | some (.nx ρ) => ∀ σ' H' F' O', Ext true H F O H' F' O' → StR T φ H' F' O' σ' ρ → Keeps φ.pr σ σ' → D.nx σ' H'
  | some (.rt r ρ) => ∀ v σ' H' F' O', Ext true H F O H' F' O' → StR T φ H' F' O' σ' ρ → Keeps φ.pr σ σ' → ResR T φ.HB H' F' O' [] v r → D.rt v H'
  | some (.bk ρ) => ∀ σ' H' F' O', Ext true H F O H' F' O' → StR T φ H' F' O' σ' ρ → Keeps φ.pr σ σ' → D.bk σ' H'
  | some (.ct ρ) => ∀ σ' H' F' O', Ext true H F O H' F' O' → StR T φ H' F' O' σ' ρ → Keeps φ.pr σ σ' → D.ct σ' H'
  | some (.er c fs ρ) => ∀ cls d σ' H' F' O', Ext true H F O H' F' O' → StR T φ H' F' O' σ' ρ → Keeps φ.pr σ σ' → ExcR T H' cls d c fs → W cls d σ' H'
  | none => False
def TSof (T : Tb) (W : WX) (φ : Fm) (f : SM) : TS := fun D σ H => ∃ ρ F O, StR T φ H F O σ ρ ∧ PostS T W φ σ H F O D (f ρ)
def SS (X : Cx) (T : Tb) (W : WX) (φ : Fm) (st : Stmt) (f : SM) : Prop := PS X st (TSof T W φ f)
def SB (X : Cx) (T : Tb) (W : WX) (φ : Fm) (st : List Stmt) (f : SM) : Prop := PSs X st (TSof T W φ f)
theorem ps_imp {X : Cx} {e : Stmt} {t t' : TS} (h : PS X e t) (i : ∀ D σ H, t' D σ H → t D σ H) : PS X e t' := ⟨fun pins s σ H D I q => h.run pins s σ H D I (i D σ H q)⟩
theorem pss_imp {X : Cx} {e : List Stmt} {t t' : TS} (h : PSs X e t) (i : ∀ D σ H, t' D σ H → t D σ H) : PSs X e t' := ⟨fun pins s σ H D I q => h.run pins s σ H D I (i D σ H q)⟩
theorem ps_impL {X : Cx} {e : Stmt} {t t' : TS} (h : PS X e t) (i : ∀ D σ H, σ.length = X.N.length → t' D σ H → t D σ H) : PS X e t' := ⟨fun pins s σ H D I q => h.run pins s σ H D I (i D σ H I.len q)⟩
theorem pe_impL {X : Cx} {e : Expr} {t t' : TE} (h : PE X e t) (i : ∀ σ H Q, σ.length = X.N.length → t' σ H Q → t σ H Q) : PE X e t' := ⟨fun pins s σ H Q I q => h.run pins s σ H Q I (i σ H Q I.len q)⟩
def seqM (f g : SM) : SM := fun ρ => match f ρ with
  | some (.nx ρ1) => g ρ1
  | o => o
def skipM : SM := fun ρ => some (.nx ρ)
/-- an expression's end as a statement's -/
def bindS {α : Type} (o : Option (Oe α)) (g : α → Rho → Option Ot) : Option Ot := match o with
  | some (.ok a ρ) => g a ρ
  | some (.er c fs ρ) => some (.er c fs ρ)
  | none => none
@[simp] theorem bindS_ok {α : Type} (a : α) (ρ : Rho) (g : α → Rho → Option Ot) : bindS (some (.ok a ρ)) g = g a ρ := rfl
@[simp] theorem bindS_er {α : Type} (c : Nat) (fs : List PyData) (ρ : Rho) (g : α → Rho → Option Ot) : bindS (some (.er c fs ρ)) g = some (.er c fs ρ) := rfl
@[simp] theorem bindS_none {α : Type} (g : α → Rho → Option Ot) : bindS none g = none := rfl
def dropM (f : EM) : SM := fun ρ => bindS (f ρ) fun _ ρ1 => some (.nx ρ1)
def ifM (c : Rho → Option (Oe Bool)) (f g : SM) : SM := fun ρ => bindS (c ρ) fun b ρ1 => if b = true then f ρ1 else g ρ1
/-- what is stored in a slot -/
def asR (ρ : Rho) (i : Nat) : R → Option Rho
  | .dat d => some (ρ.set i (some (.dat d)))
  | .own d => some (ρ.set i (some (.own d)))
  | .st xs => some (ρ.set i (some (.st xs)))
  | .fn k => some (ρ.set i (some (.fn k)))
  | .slt j => (frz ρ (.slt j)).map fun p => p.2.set i (some (.dat p.1))
  | .ex _ _ => none
  | .two _ _ => none
  | .obj o => some (ρ.set i (some (.obj o)))
  | .prt _ _ => none
def asgM (i : Nat) (f : EM) : SM := fun ρ => bindS (f ρ) fun r ρ1 => (asR ρ1 i r).map .nx
/-- n: how many parameters; what they hold is shared with the caller -/
def retR (n : Nat) (ρ : Rho) : R → Option (R × Rho)
  | .slt i => if i < n then (frz ρ (.slt i)).map fun p => (.dat p.1, p.2) else match ρ[i]? with
    | some (some (.own d)) => some (.own d, ρ.set i none)
    | some (some (.dat d)) => some (.dat d, ρ)
    | some (some (.obj o)) => some (.obj o, ρ.set i none)
    | _ => none
  | .ex _ _ => none
  | .prt _ _ => none
  | r => some (r, ρ)
def retM (n : Nat) (f : EM) : SM := fun ρ => bindS (f ρ) fun r ρ1 => (retR n ρ1 r).map fun p => .rt p.1 p.2
def retN : SM := fun ρ => some (.rt (.dat .none) ρ)
section
variable {X : Cx} {T : Tb} {W : WX} {φ : Fm} {α β : Type} {Ra : Tell α β} {σ : L2.St} {ρ : Rho} {B H : Hp} {FB F : Reg} {OB O : Ows} {D : Ends} {σB : L2.St}
/-- an expression within a statement -/
theorem sps {f : Rho → Option (Oe α)} {g : α → Rho → Option Ot} {Q' : β → Hp → Prop} (x : Ext true B FB OB H F O) (ks : Keeps φ.pr σB σ) (S : StR T φ H F O σ ρ) (P : PostS T W φ σB B FB OB D (bindS (f ρ) g))
    (k : ∀ v H1 a ρ1 F1 O1, Ext false H F O H1 F1 O1 → Ext true B FB OB H1 F1 O1 → StR T φ H1 F1 O1 σ ρ1 → Ra σ H H1 F1 O1 v a → PostS T W φ σB B FB OB D (g a ρ1) → Q' v H1) : Tof T W Ra f σ H Q' := by
  refine ⟨ρ, F, O, S.E, ?_⟩
  cases q : f ρ with
  | none => rw [q] at P; exact P
  | some o =>
    rw [q] at P
    cases o with
    | ok a ρ1 => exact fun v H1 F1 O1 x1 E1 r1 => k v H1 a ρ1 F1 O1 x1 (x.trans x1.up) (S.step x1 E1) r1 P
    | er c fs ρ1 => exact fun cls d H1 F1 O1 x1 E1 r1 => P cls d σ H1 F1 O1 (x.trans x1.up) (S.step x1 E1) ks r1
/-- the rest of a statement from where it stands -/
theorem rsts {f : SM} (x : Ext true B FB OB H F O) (ks : Keeps φ.pr σB σ) (S : StR T φ H F O σ ρ) (P : PostS T W φ σB B FB OB D (f ρ)) : TSof T W φ f D σ H := by
  refine ⟨ρ, F, O, S, ?_⟩
  cases q : f ρ with
  | none => rw [q] at P; exact P
  | some o =>
    rw [q] at P
    cases o with
    | nx ρ1 => exact fun σ' H1 F1 O1 x1 E1 k1 => P σ' H1 F1 O1 (x.trans x1) E1 (ks.trans k1)
    | rt r ρ1 => exact fun v σ' H1 F1 O1 x1 E1 k1 r1 => P v σ' H1 F1 O1 (x.trans x1) E1 (ks.trans k1) r1
    | bk ρ1 => exact fun σ' H1 F1 O1 x1 E1 k1 => P σ' H1 F1 O1 (x.trans x1) E1 (ks.trans k1)
    | ct ρ1 => exact fun σ' H1 F1 O1 x1 E1 k1 => P σ' H1 F1 O1 (x.trans x1) E1 (ks.trans k1)
    | er c fs ρ1 => exact fun cls d σ' H1 F1 O1 x1 E1 k1 r1 => P cls d σ' H1 F1 O1 (x.trans x1) E1 (ks.trans k1) r1
end
section
variable {X : Cx} {T : Tb} {W : WX} {φ : Fm} {st : Stmt} {rest : List Stmt} {f g : SM} {e c : Expr} {fe : EM} {tc : Rho → Option (Oe Bool)} {pos : Pos}
theorem ss_nil : SB X T W φ [] skipM := pss_imp pss_nil fun D σ H ⟨ρ, F, O, S, P⟩ => P σ H F O .refl S .refl
theorem seq_of {D : Ends} {σ : L2.St} {H : Hp} (h : TSof T W φ (seqM f g) D σ H) : tSeq (TSof T W φ f) (TSof T W φ g) D σ H := by
  obtain ⟨ρ, F, O, S, P⟩ := h
  refine ⟨ρ, F, O, S, ?_⟩
  unfold seqM at P
  cases q : f ρ with
  | none => rw [q] at P; exact P
  | some o =>
    rw [q] at P
    cases o with
    | nx ρ1 => exact fun σ' H1 F1 O1 x1 E1 k1 => rsts x1 k1 E1 P
    | rt r ρ1 => exact P
    | bk ρ1 => exact P
    | ct ρ1 => exact P
    | er c fs ρ1 => exact P
theorem ss_cons (h1 : SS X T W φ st f) (h2 : SB X T W φ rest g) : SB X T W φ (st :: rest) (seqM f g) := pss_imp (pss_cons h1 h2) fun _ _ _ h => seq_of h
theorem ss_one (h : SS X T W φ st f) : SB X T W φ [st] f := pss_one h
theorem ss_if {a b : List Stmt} (hc : ST X T W c tc) (ha : SB X T W φ a f) (hb : SB X T W φ b g) : SS X T W φ (.If c a b pos) (ifM tc f g) := by
  refine ps_imp (ps_if hc ha hb) fun D σ H ⟨ρ, F, O, S, P⟩ => ?_
  refine sps .refl .refl S P fun v H1 b ρ1 F1 O1 x1 y1 S1 r1 P1 => ?_
  have r1' : v = b := r1
  subst r1'
  cases v with
  | true => rw [if_pos rfl] at P1 ⊢; exact rsts y1 .refl S1 P1
  | false => rw [if_neg Bool.false_ne_true] at P1 ⊢; exact rsts y1 .refl S1 P1
/-- a slot forgets what it alone held -/
theorem EnvR.put {H : Hp} {F : Reg} {O : Ows} {σ : L2.St} {ρ : Rho} {i : Nat} {v : V} {r : R} {oa : List Addr} (E : EnvR T H F O σ ρ) (hi : i < σ.length) (s : SlotR T H F oa v r) (h1 : ∀ a, a ∈ oa → ¬ F a) (h2 : ∀ a, a ∈ oa → ∀ j, a ∉ O j) :
    EnvR T H F (fun j => if j = i then oa else O j) (σ.set i (some v)) (ρ.set i (some r)) := by
  have hl : i < ρ.length := by rw [E.len]; exact hi
  refine ⟨by rw [List.length_set, List.length_set]; exact E.len, fun j r' e => ?_, fun j b e => ?_, fun j k b e1 e2 => ?_, fun j b e q => ?_, E.lv, E.tb⟩
  · by_cases hj : j = i
    · subst hj
      rw [List.getElem?_set_self hl] at e
      cases e
      exact ⟨v, by rw [List.getElem?_set_self hi], by rw [if_pos rfl]; exact s⟩
    · rw [List.getElem?_set_ne (Ne.symm hj)] at e ⊢
      rw [if_neg hj]
      exact E.at_ j r' e
  · by_cases hj : j = i
    · subst hj
      exact ⟨r, by rw [List.getElem?_set_self hl]⟩
    · rw [if_neg hj] at e
      rw [List.getElem?_set_ne (Ne.symm hj)]
      exact E.own j b e
  · by_cases hj : j = i
    · rw [if_pos hj] at e1
      by_cases hk : k = i
      · rw [hj, hk]
      · rw [if_neg hk] at e2
        exact absurd e2 (h2 b e1 k)
    · rw [if_neg hj] at e1
      by_cases hk : k = i
      · rw [if_pos hk] at e2
        exact absurd e1 (h2 b e2 j)
      · rw [if_neg hk] at e2
        exact E.inj j k b e1 e2
  · by_cases hj : j = i
    · rw [if_pos hj] at e
      exact h1 b e q
    · rw [if_neg hj] at e
      exact E.nf j b e q
/-- a result is stored in a slot -/
theorem as_ok {B H0 H : Hp} {FB F : Reg} {OB O : Ows} {σ : L2.St} {ρ ρ' : Rho} {i : Nat} {v : V} (x : Ext true B FB OB H F O) (l : ∀ b, H0 b = none → B b = none) (E : EnvR T H F O σ ρ) (hi : i < σ.length) {r : R} (h : ResR T H0 H F O σ v r) (e : asR ρ i r = some ρ') :
    ∃ F' O', Ext true B FB OB H F' O' ∧ EnvR T H F' O' (σ.set i (some v)) ρ' ∧ ∀ j a, a ∈ O' j → a ∈ O j ∨ (j = i ∧ H0 a = none) := by
  have drop : ∀ {oa : List Addr}, (∀ a, a ∈ oa → B a = none) → Ext true B FB OB H F (fun j => if j = i then oa else O j) := fun ho => ⟨x.keep, x.live, x.grow, x.new, fun j b q => by
    by_cases hj : j = i
    · rw [if_pos hj] at q
      exact .inr ⟨rfl, .inr (ho b q)⟩
    · rw [if_neg hj] at q
      exact x.own j b q⟩
  have sub : ∀ {oa : List Addr}, (∀ a, a ∈ oa → H0 a = none) → ∀ j a, a ∈ (if j = i then oa else O j) → a ∈ O j ∨ (j = i ∧ H0 a = none) := fun ho j a q => by
    by_cases hj : j = i
    · rw [if_pos hj] at q
      exact .inr ⟨hj, ho a q⟩
    · rw [if_neg hj] at q
      exact .inl q
  cases r with
  | dat d =>
    cases e
    exact ⟨F, _, drop (oa := []) (fun _ q => absurd q List.not_mem_nil), E.put hi (oa := []) ⟨rfl, h⟩ (fun _ q => absurd q List.not_mem_nil) (fun _ q => absurd q List.not_mem_nil), sub fun _ q => absurd q List.not_mem_nil⟩
  | own d =>
    cases e
    obtain ⟨a, h1, h2, h3, h4, h5⟩ := h
    exact ⟨F, _, drop (oa := [a]) (fun _ q => by cases List.mem_singleton.mp q; exact l a h2), E.put hi (oa := [a]) ⟨a, rfl, h1, h5⟩ (fun _ q => by cases List.mem_singleton.mp q; exact h3) (fun _ q => by cases List.mem_singleton.mp q; exact h4), sub fun _ q => by cases List.mem_singleton.mp q; exact h2⟩
  | st xs =>
    cases e
    obtain ⟨a, h1, h2, h3, h4, h5⟩ := h
    exact ⟨F, _, drop (oa := [a]) (fun _ q => by cases List.mem_singleton.mp q; exact l a h2), E.put hi (oa := [a]) ⟨a, rfl, h1, h5⟩ (fun _ q => by cases List.mem_singleton.mp q; exact h3) (fun _ q => by cases List.mem_singleton.mp q; exact h4), sub fun _ q => by cases List.mem_singleton.mp q; exact h2⟩
  | fn k =>
    cases e
    exact ⟨F, _, drop (oa := []) (fun _ q => absurd q List.not_mem_nil), E.put hi (oa := []) ⟨rfl, h⟩ (fun _ q => absurd q List.not_mem_nil) (fun _ q => absurd q List.not_mem_nil), sub fun _ q => absurd q List.not_mem_nil⟩
  | ex c fs => cases e
  | two d d' => cases e
  | prt i k => cases e
  | obj o =>
    cases e
    obtain ⟨L, h1, h2⟩ := h
    exact ⟨F, _, drop (oa := L) (fun b q => l b (h1 b q).1), E.put hi (oa := L) h2 (fun b q => (h1 b q).2.1) (fun b q => (h1 b q).2.2), sub fun b q => (h1 b q).1⟩
  | slt j =>
    have e' : (frz ρ (.slt j)).map (fun p => p.2.set i (some (.dat p.1))) = some ρ' := e
    obtain ⟨⟨d, ρ1⟩, e1, e2⟩ := Option.map_eq_some_iff.mp e'
    subst e2
    obtain ⟨F1, O1, x1, E1, d1, _, sb, _⟩ := fz x l E h e1
    refine ⟨F1, fun j => if j = i then [] else O1 j, ⟨x1.keep, x1.live, x1.grow, x1.new, fun j b q => ?_⟩, E1.put hi (oa := []) ⟨rfl, d1⟩ (fun _ q => absurd q List.not_mem_nil) (fun _ q => absurd q List.not_mem_nil), fun j a q => ?_⟩
    · by_cases hj : j = i
      · rw [if_pos hj] at q; cases q
      · rw [if_neg hj] at q
        exact x1.own j b q
    · have q' : a ∈ (if j = i then [] else O1 j) := q
      by_cases hj : j = i
      · rw [if_pos hj] at q'; cases q'
      · rw [if_neg hj] at q'
        exact .inl (sb j a q')
variable {i : Nat} {x : Str}
theorem asg_of {D : Ends} {σ : L2.St} {H : Hp} (hp : φ.pr i = false) (hN : i < σ.length) (h : TSof T W φ (asgM i fe) D σ H) : tAsg (Tof T W (tlE T) fe) (gName i) D σ H := by
  obtain ⟨ρ, F, O, S, P⟩ := h
  refine sps .refl .refl S P fun v H1 r ρ1 F1 O1 x1 y1 S1 r1 P1 => ?_
  cases q : asR ρ1 i r with
  | none => rw [q] at P1; exact P1.elim
  | some ρ2 =>
    rw [q] at P1
    obtain ⟨F2, O2, y2, E2, sb⟩ := as_ok y1 (fun _ h => h) S1.E hN r1 q
    exact P1 _ H1 F2 O2 y2 ⟨E2, S1.lb, fun j a hj e => (sb j a e).elim (S1.lf j a hj) fun z => S.lb a z.2⟩ (.set hp)
theorem lt_of_at {α : Type} {l : List α} {i : Nat} {x : α} (h : l[i]? = some x) : i < l.length := (List.getElem?_eq_some_iff.mp h).1
theorem ss_asg {pos' : Pos} (hp : φ.pr i = false) (hN : X.N.Nodup) (hi : X.N[i]? = some x) (hx : Loc X.env.scope x) (he : SE X T W e fe) (hs : swapsWith e (some (.Name x pos')) pos.line X.env = pure false := by rfl)
    (hf : X.fn x = true ∨ X.env.scope.names.lookup x = some .local := by first | exact .inl rfl | exact .inr rfl | assumption) : SS X T W φ (.Assign [.Name x pos'] e pos) (asgM i fe) :=
  ps_impL (ps_set hN hi hx he hs hf) fun D σ H hl h => asg_of hp (by rw [hl]; exact lt_of_at hi) h
/-- what a return hands back -/
theorem ret_ok {B H0 H : Hp} {FB F : Reg} {OB O : Ows} {σ : L2.St} {ρ ρ' : Rho} {v : V} (x : Ext true B FB OB H F O) (l : ∀ b, H0 b = none → B b = none) (l2 : ∀ b, H0 b = none → φ.HB b = none) (S : StR T φ H F O σ ρ) {r r' : R} (h : ResR T H0 H F O σ v r) (e : retR φ.n ρ r = some (r', ρ')) :
    ∃ F' O', Ext true B FB OB H F' O' ∧ StR T φ H F' O' σ ρ' ∧ ResR T φ.HB H F' O' [] v r' := by
  have E := S.E
  cases r with
  | dat d => cases e; exact ⟨F, O, x, S, h⟩
  | own d =>
    cases e
    obtain ⟨a, h1, h2, h3⟩ := h
    exact ⟨F, O, x, S, a, h1, l2 a h2, h3⟩
  | st xs =>
    cases e
    obtain ⟨a, h1, h2, h3⟩ := h
    exact ⟨F, O, x, S, a, h1, l2 a h2, h3⟩
  | fn k => cases e; exact ⟨F, O, x, S, h⟩
  | ex c fs => cases e
  | prt i k => cases e
  | obj o =>
    cases e
    obtain ⟨L, h1, h2⟩ := h
    exact ⟨F, O, x, S, L, fun b hb => ⟨l2 b (h1 b hb).1, (h1 b hb).2⟩, h2⟩
  | two d d' =>
    cases e
    obtain ⟨p, a, b, h1, h2, h3, ⟨a1, a2⟩, b1, b2⟩ := h
    exact ⟨F, O, x, S, p, a, b, h1, h2, h3, ⟨l2 a a1, a2⟩, l2 b b1, b2⟩
  | slt i =>
    unfold retR at e
    dsimp only at e
    split at e
    · obtain ⟨⟨d, ρ1⟩, e1, e2⟩ := Option.map_eq_some_iff.mp e
      cases e2
      obtain ⟨F1, O1, x1, E1, d1, _, sb, _⟩ := fz x l E h e1
      exact ⟨F1, O1, x1, ⟨E1, S.lb, fun j a hj q => S.lf j a hj (sb j a q)⟩, d1⟩
    · rename_i hi
      have h' : σ[i]? = some (some v) := h
      split at e
      · rename_i d q
        cases e
        obtain ⟨u, hu, a, z1, z2, z3⟩ := E.at_ i _ q
        rw [h'] at hu
        cases hu
        have zm : a ∈ O i := by rw [z1]; exact List.mem_singleton.mpr rfl
        have hl : i < ρ.length := lt_of_at q
        have sb : ∀ j b, b ∈ (if j = i then [] else O j) → b ∈ O j ∧ j ≠ i := fun j b q => by
          by_cases hj : j = i
          · rw [if_pos hj] at q; cases q
          · rw [if_neg hj] at q; exact ⟨q, hj⟩
        refine ⟨F, fun j => if j = i then [] else O j, ⟨x.keep, x.live, x.grow, x.new, fun j b q => x.own j b (sb j b q).1⟩, ⟨⟨by rw [List.length_set]; exact E.len, fun j r e => ?_, fun j b e => ?_, fun j k b e1 e2 => E.inj j k b (sb j b e1).1 (sb k b e2).1, fun j b e => E.nf j b (sb j b e).1, E.lv, E.tb⟩, S.lb, fun j b hj q => S.lf j b hj (sb j b q).1⟩, a, z2, S.lf i a (Nat.le_of_not_lt hi) zm, E.nf i a zm, fun j q => (sb j a q).2 (E.inj j i a (sb j a q).1 zm), z3⟩
        · by_cases hj : j = i
          · subst hj; rw [List.getElem?_set_self hl] at e; cases e
          · rw [List.getElem?_set_ne (Ne.symm hj)] at e
            rw [if_neg hj]
            exact E.at_ j r e
        · rw [List.getElem?_set_ne (Ne.symm (sb j b e).2)]
          exact E.own j b (sb j b e).1
      · rename_i d q
        cases e
        obtain ⟨u, hu, z1, z2⟩ := E.at_ i _ q
        rw [h'] at hu
        cases hu
        exact ⟨F, O, x, S, z2⟩
      · rename_i o q
        cases e
        obtain ⟨u, hu, z⟩ := E.at_ i _ q
        rw [h'] at hu
        cases hu
        have hl : i < ρ.length := lt_of_at q
        have sb : ∀ j b, b ∈ (if j = i then [] else O j) → b ∈ O j ∧ j ≠ i := fun j b q => by
          by_cases hj : j = i
          · rw [if_pos hj] at q; cases q
          · rw [if_neg hj] at q; exact ⟨q, hj⟩
        refine ⟨F, fun j => if j = i then [] else O j, ⟨x.keep, x.live, x.grow, x.new, fun j b q => x.own j b (sb j b q).1⟩, ⟨⟨by rw [List.length_set]; exact E.len, fun j r e => ?_, fun j b e => ?_, fun j k b e1 e2 => E.inj j k b (sb j b e1).1 (sb k b e2).1, fun j b e => E.nf j b (sb j b e).1, E.lv, E.tb⟩, S.lb, fun j b hj q => S.lf j b hj (sb j b q).1⟩, O i, fun b hb => ⟨S.lf i b (Nat.le_of_not_lt hi) hb, E.nf i b hb, fun j q => (sb j b q).2 (E.inj j i b (sb j b q).1 hb)⟩, z⟩
        · by_cases hj : j = i
          · subst hj; rw [List.getElem?_set_self hl] at e; cases e
          · rw [List.getElem?_set_ne (Ne.symm hj)] at e
            rw [if_neg hj]
            exact E.at_ j r e
        · rw [List.getElem?_set_ne (Ne.symm (sb j b e).2)]
          exact E.own j b (sb j b e).1
      · cases e
theorem ss_ret (he : SE X T W e fe) : SS X T W φ (.Return (some e) pos) (retM φ.n fe) := by
  refine ps_imp (ps_ret he) fun D σ H ⟨ρ, F, O, S, P⟩ => ?_
  refine sps .refl .refl S P fun v H1 r ρ1 F1 O1 x1 y1 S1 r1 P1 => ?_
  cases q : retR φ.n ρ1 r with
  | none => rw [q] at P1; exact P1.elim
  | some p =>
    obtain ⟨r', ρ2⟩ := p
    rw [q] at P1
    obtain ⟨F2, O2, y2, S2, r2⟩ := ret_ok y1 (fun _ h => h) S.lb S1 r1 q
    exact P1 v σ H1 F2 O2 y2 S2 .refl r2
end
end DL
namespace DL
open PySem L2
abbrev GM := PyData → Rho → Option Rho
abbrev GsM := List PyData → Rho → Option Rho
def gnM (i : Nat) : GM := fun d ρ => some (ρ.set i (some (.dat d)))
def gs0 : GsM := fun ds ρ => match ds with
  | [] => some ρ
  | _ => none
def gsC (g : GM) (gs : GsM) : GsM := fun ds ρ => match ds with
  | d :: r => (g d ρ).bind (gs r)
  | [] => none
def gtM (gs : GsM) : GM := fun d ρ => match d with
  | .tuple ds => gs ds ρ
  | _ => none
def Sub (O' O : Ows) : Prop := ∀ i a, a ∈ O' i → a ∈ O i
def TGof (T : Tb) (pr : Nat → Bool) (g : GM) : TG := fun v σ H Q => ∃ d ρ F O, EnvR T H F O σ ρ ∧ DF T.K H F v d ∧ match g d ρ with
  | none => False
  | some ρ' => ∀ σ' O', EnvR T H F O' σ' ρ' → Keeps pr σ σ' → Sub O' O → Q σ' H
def SG (X : Cx) (T : Tb) (pr : Nat → Bool) (e : Expr) (g : GM) : Prop := PG X e (TGof T pr g)
theorem pg_imp {X : Cx} {e : Expr} {t t' : TG} (h : PG X e t) (i : ∀ v σ H Q, σ.length = X.N.length → t' v σ H Q → t v σ H Q) : PG X e t' := ⟨fun pins s σ H x v Q I r q => h.run pins s σ H x v Q I r (i x σ H Q I.len q)⟩
section
variable {X : Cx} {T : Tb} {pr : Nat → Bool} {i : Nat} {x : Str} {pos : Pos} {e : Expr} {es : List Expr} {g : GM} {gs : GsM}
theorem sg_nm (hp : pr i = false) (hN : X.N.Nodup) (hi : X.N[i]? = some x) (hx : Loc X.env.scope x) (hf : X.fn x = true ∨ X.env.scope.names.lookup x = some .local := by first | exact .inl rfl | exact .inr rfl | assumption) : SG X T pr (.Name x pos) (gnM i) := by
  refine pg_imp (pg_name hN hi hx hf) fun v σ H Q hl ⟨d, ρ, F, O, E, dv, P⟩ => ?_
  have hlt : i < σ.length := by rw [hl]; exact lt_of_at hi
  refine P _ _ (E.put hlt (oa := []) ⟨rfl, dv⟩ (fun _ q => absurd q List.not_mem_nil) fun _ q => absurd q List.not_mem_nil) (.set hp) fun j a q => ?_
  by_cases hj : j = i
  · rw [if_pos hj] at q; cases q
  · rw [if_neg hj] at q; exact q
end
abbrev IM := Rho → Option (Oe (List PyData))
/-- the iterator yields just these -/
structure ItOk (T : Tb) (J : It) (F : Reg) (H : Hp) (ds : List PyData) : Prop where
  go : ∀ H', Kept F H H' → ∀ i d, ds[i]? = some d → J.go i H' ∧ ∀ x H'', J.yld i H' x H'' → (∀ b o, H' b = some o → H'' b = some o) ∧ DF T.K H'' F x d
  stop : ∀ H', Kept F H H' → ∀ i, ds.length ≤ i → i ≤ ds.length → J.stop i H'
def tlI (T : Tb) : Tell (List PyData) It := fun _ _ H F _ J ds => ItOk T J F H ds
def SI (X : Cx) (T : Tb) (W : WX) (tg iter : Expr) (f : IM) : Prop := PI X tg iter (Tof T W (tlI T) f)
theorem pi_imp {X : Cx} {tg e : Expr} {t t' : TI} (h : PI X tg e t) (i : ∀ σ H Q, t' σ H Q → t σ H Q) : PI X tg e t' := ⟨fun pins s σ H Q I q => h.run pins s σ H Q I (i σ H Q q)⟩
def forL (g : GM) (body : SM) : List PyData → SM
  | [], ρ => some (.nx ρ)
  | x :: xs, ρ => match g x ρ with
    | none => none
    | some ρ1 => match body ρ1 with
      | some (.nx ρ2) => forL g body xs ρ2
      | some (.ct ρ2) => forL g body xs ρ2
      | some (.bk ρ2) => some (.nx ρ2)
      | o => o
def forM (it : IM) (g : GM) (body : SM) : SM := fun ρ => bindS (it ρ) fun ds ρ1 => forL g body ds ρ1
theorem Kept.trans {F F1 : Reg} {H H1 H2 : Hp} (a : Kept F H H1) (g : ∀ b, F b → F1 b) (b : Kept F1 H1 H2) : Kept F H H2 := fun c o h q => b c o (a c o h q) (q.elim (fun z => .inl ⟨g c z.1, z.2⟩) .inr)
theorem kept_all {F : Reg} {H H' : Hp} (k : ∀ b o, H b = some o → H' b = some o) : Kept F H H' := fun b o h _ => k b o h
section
variable {X : Cx} {T : Tb} {W : WX} {φ : Fm} {tg iter : Expr} {body : List Stmt} {it : IM} {g : GM} {fb : SM} {pos : Pos}
theorem for_of {D : Ends} {σ : L2.St} {H : Hp} (h : TSof T W φ (forM it g fb) D σ H) : tFor (Tof T W (tlI T) it) (TGof T φ.pr g) (TSof T W φ fb) D σ H := by
  obtain ⟨ρ, F, O, S, P⟩ := h
  refine sps .refl .refl S P fun J H1 ds ρ1 F1 O1 x1 y1 S1 r1 P1 => ?_
  refine ⟨fun i m σ' H' => ∃ ρ' F' O', m = ds.length - i ∧ i ≤ ds.length ∧ Ext true H F O H' F' O' ∧ Keeps φ.pr σ σ' ∧ StR T φ H' F' O' σ' ρ' ∧ Kept F1 H1 H' ∧ (∀ b, F1 b → F' b) ∧ PostS T W φ σ H F O D (forL g fb (ds.drop i) ρ'),
    ⟨ds.length, ρ1, F1, O1, by simp, Nat.zero_le _, y1, .refl, S1, .refl, fun _ h => h, P1⟩, ?_⟩
  rintro i m σ' H' ⟨ρ', F', O', rfl, hi, x', k', S', kp, gF, P'⟩
  by_cases hlt : i < ds.length
  · have hd : ds[i]? = some ds[i] := by simp [hlt]
    rw [List.drop_eq_getElem_cons hlt] at P'
    obtain ⟨go, yl⟩ := r1.go H' kp i _ hd
    refine .inr ⟨go, fun σ2 H2 => ∃ ρ' F' O', i + 1 ≤ ds.length ∧ Ext true H F O H2 F' O' ∧ Keeps φ.pr σ σ2 ∧ StR T φ H2 F' O' σ2 ρ' ∧ Kept F1 H1 H2 ∧ (∀ b, F1 b → F' b) ∧ PostS T W φ σ H F O D (forL g fb (ds.drop (i + 1)) ρ'), fun σ2 H2 ⟨ρ2, F2, O2, a, b⟩ => ⟨ds.length - (i + 1), by omega, ρ2, F2, O2, rfl, a, b⟩, fun x H'' y => ?_⟩
    obtain ⟨kH, dx⟩ := yl x H'' y
    have gr : Gr H' F' H'' F' := ⟨kH, fun _ h => h, fun _ h => .inl h⟩
    refine ⟨ds[i], ρ', F', O', S'.E.gr gr, dx.mono .refl gF, ?_⟩
    have P2 : PostS T W φ σ H F O D (match g ds[i] ρ' with
      | none => none
      | some ρ1 => match fb ρ1 with
        | some (.nx ρ2) => forL g fb (ds.drop (i + 1)) ρ2
        | some (.ct ρ2) => forL g fb (ds.drop (i + 1)) ρ2
        | some (.bk ρ2) => some (.nx ρ2)
        | o => o) := P'
    cases q : g ds[i] ρ' with
    | none => rw [q] at P2; exact P2.elim
    | some ρ2 =>
      rw [q] at P2
      dsimp only at P2
      refine fun σ3 O3 E3 k3 s3 => ?_
      have x3 : Ext true H F O H'' F' O3 := ⟨fun b o h n z => (x'.trans gr.ext).keep b o h n z, (x'.trans (gr.ext (O := O'))).live, x'.grow, x'.new, fun j b e => x'.own j b (s3 j b e)⟩
      have S3 : StR T φ H'' F' O3 σ3 ρ2 := ⟨E3, fun b h => S'.lb b (gr.live b h), fun j a hj e => S'.lf j a hj (s3 j a e)⟩
      have kp3 : Kept F1 H1 H'' := kp.trans gF (kept_all kH)
      refine ⟨ρ2, F', O3, S3, ?_⟩
      cases q2 : fb ρ2 with
      | none => rw [q2] at P2; exact P2
      | some o =>
        rw [q2] at P2
        cases o with
        | nx ρ4 => exact fun σ4 H4 F4 O4 x4 S4 k4 => ⟨ρ4, F4, O4, hlt, x3.trans x4, (k'.trans k3).trans k4, S4, kp3.trans gF (S3.E.kept x4), fun b h => x4.grow b (gF b h), P2⟩
        | ct ρ4 => exact fun σ4 H4 F4 O4 x4 S4 k4 => ⟨ρ4, F4, O4, hlt, x3.trans x4, (k'.trans k3).trans k4, S4, kp3.trans gF (S3.E.kept x4), fun b h => x4.grow b (gF b h), P2⟩
        | bk ρ4 => exact fun σ4 H4 F4 O4 x4 S4 k4 => P2 σ4 H4 F4 O4 (x3.trans x4) S4 ((k'.trans k3).trans k4)
        | rt r ρ4 => exact fun v σ4 H4 F4 O4 x4 S4 k4 r4 => P2 v σ4 H4 F4 O4 (x3.trans x4) S4 ((k'.trans k3).trans k4) r4
        | er c fs ρ4 => exact fun cls d σ4 H4 F4 O4 x4 S4 k4 r4 => P2 cls d σ4 H4 F4 O4 (x3.trans x4) S4 ((k'.trans k3).trans k4) r4
  · have e : i = ds.length := by omega
    subst e
    rw [List.drop_length] at P'
    exact .inl ⟨r1.stop H' kp _ (Nat.le_refl _) (Nat.le_refl _), P' σ' H' F' O' x' S' k'⟩
theorem ss_for (hp : PassesOwn (model X.prog X.w) X.A X.env X.xe) (hc : X.calm = true) (hi : SI X T W tg iter it) (hg : SG X T φ.pr tg g) (hb : SB X T W φ body fb) (hs : ∀ x, foldedSetIterable iter X.env x = pure x := by intro _; rfl) : SS X T W φ (.For tg iter body [] pos) (forM it g fb) :=
  ps_imp (ps_for hp hc hi hg hb hs) fun _ _ _ h => for_of h
end
def wipeR (ρ : Rho) : List Nat → Rho
  | [] => ρ
  | v :: vs => (wipeR ρ vs).set v none
def bindN {α β : Type} (o : Option (Oe α)) (g : α → Rho → Option β) : Option β := match o with
  | some (.ok a ρ) => g a ρ
  | _ => none
@[simp] theorem bindN_ok {α β : Type} (a : α) (ρ : Rho) (g : α → Rho → Option β) : bindN (some (.ok a ρ)) g = g a ρ := rfl
@[simp] theorem bindN_er {α β : Type} (c : Nat) (fs : List PyData) (ρ : Rho) (g : α → Rho → Option β) : bindN (some (.er c fs ρ)) g = none := rfl
@[simp] theorem bindN_none {α β : Type} (g : α → Rho → Option β) : bindN none g = none := rfl
def lcL (g : GM) (vs : List Nat) (c : Rho → Option (Oe Bool)) (f : EM) : List PyData → Rho → List PyData → Option (Oe R)
  | [], ρ, acc => some (.ok (.own (.list acc)) ρ)
  | x :: xs, ρ, acc => match g x ρ with
    | none => none
    | some ρ1 => bindN (c ρ1) fun b ρ2 => if b = true then bindN (f ρ2) fun r ρ3 => match frz ρ3 r with
        | some (d, ρ4) => if acc.length < lim then lcL g vs c f xs (wipeR ρ4 vs) (acc ++ [d]) else none
        | none => none
      else lcL g vs c f xs (wipeR ρ2 vs) acc
def lcM (it : IM) (g : GM) (vs : List Nat) (c : Rho → Option (Oe Bool)) (f : EM) : EM := fun ρ => bindO (it ρ) fun ds ρ1 => lcL g vs c f ds (wipeR ρ1 vs) []
def yesT : Rho → Option (Oe Bool) := fun ρ => some (.ok true ρ)
/-- within a comprehension no exception may leave -/
abbrev W0 : WX := fun _ _ _ _ => False
theorem wipeR_length (ρ : Rho) : ∀ vs : List Nat, (wipeR ρ vs).length = ρ.length
  | [] => rfl
  | v :: vs => by unfold wipeR; rw [List.length_set, wipeR_length ρ vs]
theorem wipeR_some {ρ : Rho} {i : Nat} {x : R} : ∀ {vs : List Nat}, (wipeR ρ vs)[i]? = some (some x) → ρ[i]? = some (some x) ∧ i ∉ vs
  | [], h => ⟨h, by simp⟩
  | v :: vs, h => by
    unfold wipeR at h
    by_cases hi : v = i
    · subst hi
      by_cases hv : v < (wipeR ρ vs).length
      · rw [List.getElem?_set_self hv] at h; cases h
      · rw [List.getElem?_eq_none (by simpa using hv)] at h; cases h
    · rw [List.getElem?_set_ne hi] at h
      obtain ⟨h1, h2⟩ := wipeR_some h
      exact ⟨h1, by simp only [List.mem_cons, not_or]; exact ⟨fun e => hi e.symm, h2⟩⟩
theorem wipe_other {σ : L2.St} {i : Nat} : ∀ {vs : List Nat}, i ∉ vs → (wipe σ vs)[i]? = σ[i]?
  | [], _ => rfl
  | v :: vs, h => by
    unfold wipe
    rw [List.getElem?_set_ne (fun e => h (by simp [e])), wipe_other (fun z => h (List.mem_cons_of_mem _ z))]
theorem wipeR_other {ρ : Rho} {i : Nat} : ∀ {vs : List Nat}, i ∉ vs → (wipeR ρ vs)[i]? = ρ[i]?
  | [], _ => rfl
  | v :: vs, h => by
    unfold wipeR
    rw [List.getElem?_set_ne (fun e => h (by simp [e])), wipeR_other (fun z => h (List.mem_cons_of_mem _ z))]
theorem wipe_in {σ : L2.St} {i : Nat} : ∀ {vs : List Nat}, i ∈ vs → i < σ.length → (wipe σ vs)[i]? = some none
  | v :: vs, h, hl => by
    unfold wipe
    by_cases e : v = i
    · subst e
      rw [List.getElem?_set_self (by rw [wipe_length]; exact hl)]
    · rw [List.getElem?_set_ne e]
      exact wipe_in ((List.mem_cons.mp h).elim (fun z => absurd z.symm e) id) hl
theorem wipe_eq {σ σ2 : L2.St} {vs : List Nat} (hl : σ2.length = σ.length) (h : ∀ i, i ∉ vs → σ2[i]? = σ[i]?) : wipe σ2 vs = wipe σ vs := by
  refine List.ext_getElem? fun i => ?_
  by_cases hi : i ∈ vs
  · by_cases hlt : i < σ.length
    · rw [wipe_in hi hlt, wipe_in hi (by rw [hl]; exact hlt)]
    · rw [List.getElem?_eq_none (by rw [wipe_length, hl]; omega), List.getElem?_eq_none (by rw [wipe_length]; omega)]
  · rw [wipe_other hi, wipe_other hi, h i hi]
section
variable {T : Tb} {H : Hp} {F : Reg} {O : Ows} {σ : L2.St} {ρ : Rho} {vs : List Nat}
theorem EnvR.unwipe (E : EnvR T H F O (wipe σ vs) ρ) : EnvR T H F O σ ρ :=
  ⟨by rw [E.len, wipe_length], fun i r e => let ⟨v, h1, h2⟩ := E.at_ i r e; ⟨v, (wipe_some h1).1, h2⟩, E.own, E.inj, E.nf, E.lv, E.tb⟩
theorem EnvR.wiped (E : EnvR T H F O σ ρ) : ∃ O', EnvR T H F O' (wipe σ vs) (wipeR ρ vs) ∧ Sub O' O := by
  have sb : Sub (fun j => if j ∈ vs then [] else O j) O := fun j a q => by
    have q' : a ∈ (if j ∈ vs then [] else O j) := q
    by_cases hj : j ∈ vs
    · rw [if_pos hj] at q'; cases q'
    · rw [if_neg hj] at q'; exact q'
  have ni : ∀ j a, a ∈ (if j ∈ vs then [] else O j) → j ∉ vs := fun j a q hj => by rw [if_pos hj] at q; cases q
  refine ⟨fun j => if j ∈ vs then [] else O j, ⟨by rw [wipe_length, wipeR_length]; exact E.len, fun i r e => ?_, fun i a e => ?_, fun i j a e1 e2 => E.inj i j a (sb i a e1) (sb j a e2), fun i a e => E.nf i a (sb i a e), E.lv, E.tb⟩, sb⟩
  · obtain ⟨h1, h2⟩ := wipeR_some e
    obtain ⟨v, h3, h4⟩ := E.at_ i r h1
    exact ⟨v, by rw [wipe_other h2]; exact h3, by rw [if_neg h2]; exact h4⟩
  · obtain ⟨r, h⟩ := E.own i a (sb i a e)
    exact ⟨r, by rw [wipeR_other (ni i a e)]; exact h⟩
/-- a list that is nobody's slot's changes -/
theorem EnvR.other {p : Addr} {o o' : HO} (E : EnvR T H F O σ ρ) (hp : H p = some o) (ns : ¬ Still o) (nf : ¬ F p) (no : ∀ i, p ∉ O i) (nc : NC o := by first | exact lst_nc | exact dK_nc | exact set_nc) : EnvR T (upd H p o') F O σ ρ ∧ Kept F H (upd H p o') := by
  have k : Kept F H (upd H p o') := fun b u h q => by
    by_cases e : b = p
    · subst e
      rw [hp] at h; cases h
      exact (q.elim (fun z => nf z.1) ns).elim
    · rw [upd_ne e]; exact h
  refine ⟨⟨E.len, fun i r e => ?_, E.own, E.inj, E.nf, fun b h => ?_, tabs_put E.tb hp nc⟩, k⟩
  · obtain ⟨v, h1, h2⟩ := E.at_ i r e
    exact ⟨v, h1, h2.mono k (fun _ h => h) fun a u ha hu => by have n : a ≠ p := fun z => no i (z ▸ ha); rw [upd_ne n]; exact hu⟩
  · by_cases e : b = p
    · subst e; exact (nf h).elim
    · rw [upd_ne e]; exact E.lv b h
end
section
variable {X : Cx} {T : Tb} {W : WX} {pr : Nat → Bool} {it : IM} {g : GM} {vs : List Nat} {c : Rho → Option (Oe Bool)} {f : EM}
theorem tof_N {α β γ : Type} {Ra : Tell α β} {σ : L2.St} {ρ : Rho} {H : Hp} {F : Reg} {O : Ows} {h : Rho → Option (Oe α)} {k : α → Rho → Option γ} {Q' : β → Hp → Prop} {Pp : Option γ → Prop} (hn : ¬ Pp none) (E : EnvR T H F O σ ρ) (P : Pp (bindN (h ρ) k))
    (kk : ∀ v H1 a ρ1 F1 O1, Ext false H F O H1 F1 O1 → EnvR T H1 F1 O1 σ ρ1 → Ra σ H H1 F1 O1 v a → Pp (k a ρ1) → Q' v H1) : Tof T W0 Ra h σ H Q' := by
  refine ⟨ρ, F, O, E, ?_⟩
  cases q : h ρ with
  | none => rw [q] at P; exact hn P
  | some o =>
    rw [q] at P
    cases o with
    | ok a ρ1 => exact fun v H1 F1 O1 x1 E1 r1 => kk v H1 a ρ1 F1 O1 x1 E1 r1 P
    | er c fs ρ1 => exact fun _ _ _ _ _ _ _ _ => hn P
theorem lc_of {σ : L2.St} {H : Hp} {Q : VK} (hpr : ∀ i, i ∉ vs → pr i = true) (h : Tof T W (tlE T) (lcM it g vs c f) σ H Q) : tLc (Tof T W (tlI T) it) (TGof T pr g) (Tof T W0 tlB c) (Tof T W0 (tlE T) f) vs σ H Q := by
  obtain ⟨ρ, F, O, E, P⟩ := h
  refine stp .refl E P fun J H1 ds ρ1 F1 O1 x1 y1 E1 r1 P1 => ?_
  intro D hD
  have hDB : H D = none := y1.live D hD
  obtain ⟨Ow, Ew, sw⟩ := E1.wiped (vs := vs)
  refine ⟨fun i m H' => ∃ ρ' F' O' acc va, m = ds.length - i ∧ i ≤ ds.length ∧ Ext false H F O H' F' O' ∧ EnvR T H' F' O' (wipe σ vs) ρ' ∧ H' D = some (.lst va) ∧ DFs T.K H' F' va acc ∧ ¬ F' D ∧ (∀ j, D ∉ O' j) ∧ Kept F1 H1 H' ∧ (∀ b, F1 b → F' b) ∧ Post T W (tlE T) σ H F O Q (lcL g vs c f (ds.drop i) ρ' acc),
    ⟨ds.length, wipeR ρ1 vs, F1, Ow, [], [], by simp, Nat.zero_le _, ?_, Ew.laid hD, upd_same, .nil, fun q => E1.lv D q hD, fun j q => E1.ne_new hD j (sw j D q), kept_all (kept_new hD), fun _ h => h, P1⟩, ?_⟩
  · have y2 : Ext false H F O (upd H1 D (.lst [])) F1 O1 := y1.trans (.laid hD)
    exact ⟨y2.keep, y2.live, y2.grow, y2.new, fun j b e => y2.own j b (sw j b e)⟩
  rintro i m H' ⟨ρ', F', O', acc, va, rfl, hi, x', E', hDl, sa, nD, oD, kp, gF, P'⟩
  by_cases hlt : i < ds.length
  · have hd : ds[i]? = some ds[i] := by simp [hlt]
    rw [List.drop_eq_getElem_cons hlt] at P'
    obtain ⟨go, yl⟩ := r1.go H' kp i _ hd
    refine .inr ⟨go, fun H2 => ∃ ρ' F' O' acc va, i + 1 ≤ ds.length ∧ Ext false H F O H2 F' O' ∧ EnvR T H2 F' O' (wipe σ vs) ρ' ∧ H2 D = some (.lst va) ∧ DFs T.K H2 F' va acc ∧ ¬ F' D ∧ (∀ j, D ∉ O' j) ∧ Kept F1 H1 H2 ∧ (∀ b, F1 b → F' b) ∧ Post T W (tlE T) σ H F O Q (lcL g vs c f (ds.drop (i + 1)) ρ' acc), fun H2 ⟨ρ2, F2, O2, ac, va, a, b⟩ => ⟨ds.length - (i + 1), by omega, ρ2, F2, O2, ac, va, rfl, a, b⟩, fun x H'' y => ?_⟩
    obtain ⟨kH, dx⟩ := yl x H'' y
    have gr : Gr H' F' H'' F' := ⟨kH, fun _ h => h, fun _ h => .inl h⟩
    refine ⟨ds[i], ρ', F', O', E'.gr gr, dx.mono .refl gF, ?_⟩
    have P2 : Post T W (tlE T) σ H F O Q (match g ds[i] ρ' with
      | none => none
      | some ρ1 => bindN (c ρ1) fun b ρ2 => if b = true then bindN (f ρ2) fun r ρ3 => match frz ρ3 r with
          | some (d, ρ4) => if acc.length < lim then lcL g vs c f (ds.drop (i + 1)) (wipeR ρ4 vs) (acc ++ [d]) else none
          | none => none
        else lcL g vs c f (ds.drop (i + 1)) (wipeR ρ2 vs) acc) := P'
    cases q : g ds[i] ρ' with
    | none => rw [q] at P2; exact P2.elim
    | some ρ2 =>
      rw [q] at P2
      dsimp only at P2
      refine fun σ3 O3 E3 k3 s3 => ?_
      have hw : wipe σ3 vs = wipe σ vs := by
        have e0 : wipe σ3 vs = wipe (wipe σ vs) vs := wipe_eq k3.1 fun j hj => k3.2 j (hpr j hj)
        rw [e0]
        exact wipe_eq (wipe_length σ vs) fun j hj => wipe_other hj
      have oD' : ∀ j, D ∉ O3 j := fun j z => oD j (s3 j D z)
      have x3 : Ext false H F O H'' F' O3 := ⟨fun b o h n z => kH b o (x'.keep b o h n z), fun b h => x'.live b (gr.live b h), x'.grow, x'.new, fun j b e => x'.own j b (s3 j b e)⟩
      have kp3 : Kept F1 H1 H'' := kp.trans gF (kept_all kH)
      have hD3 := kH D _ hDl
      have sa3 : DFs T.K H'' F' va acc := sa.mono (kept_all kH) fun _ h => h
      refine ⟨hw, ?_⟩
      refine tof_N (Pp := Post T W (tlE T) σ H F O Q) (fun z => z) E3 P2 fun b H4 b' ρ4 F4 O4 x4 E4 r4 P4 => ?_
      have r4' : b = b' := r4
      subst r4'
      have hD4 : H4 D = some (.lst va) := x4.keep D _ hD3 oD' trivial
      have nD4 : ¬ F4 D := fun z => by
        rcases x4.new D z with z | ⟨j, z⟩ | z
        · exact nD z
        · exact oD' j z
        · rw [hD3] at z; cases z
      have oD4 : ∀ j, D ∉ O4 j := fun j z => (x4.ow z).elim (fun ⟨k, y⟩ => oD' k y) fun y => by rw [hD3] at y; cases y
      have kp4 := kp3.trans gF (E3.kept x4)
      have sa4 : DFs T.K H4 F4 va acc := sa3.mono (E3.kept x4) x4.grow
      cases b with
      | false =>
        rw [if_neg Bool.false_ne_true] at P4 ⊢
        obtain ⟨O5, E5, s5⟩ := E4.wiped (vs := vs)
        rw [hw] at E5
        have y4 := x3.trans x4
        exact ⟨_, F4, O5, acc, va, hlt, ⟨y4.keep, y4.live, y4.grow, y4.new, fun j b e => y4.own j b (s5 j b e)⟩, E5, hD4, sa4, nD4, fun j z => oD4 j (s5 j D z), kp4, fun b h => x4.grow b (gF b h), P4⟩
      | true =>
        rw [if_pos rfl] at P4 ⊢
        refine tof_N (Pp := Post T W (tlE T) σ H F O Q) (fun z => z) E4 P4 fun v H5 r ρ5 F5 O5 x5 E5 r5 P5 => ?_
        have hD5 : H5 D = some (.lst va) := x5.keep D _ hD4 oD4 trivial
        have nD5 : ¬ F5 D := fun z => by
          rcases x5.new D z with z | ⟨j, z⟩ | z
          · exact nD4 z
          · exact oD4 j z
          · rw [hD4] at z; cases z
        have oD5 : ∀ j, D ∉ O5 j := fun j z => (x5.ow z).elim (fun ⟨k, y⟩ => oD4 k y) fun y => by rw [hD4] at y; cases y
        have kp5 := kp4.trans (fun b h => x4.grow b (gF b h)) (E4.kept x5)
        have sa5 : DFs T.K H5 F5 va acc := sa4.mono (E4.kept x5) x5.grow
        cases q6 : frz ρ5 r with
        | none => rw [q6] at P5; exact P5.elim
        | some p =>
          obtain ⟨d, ρ6⟩ := p
          rw [q6] at P5
          dsimp only at P5
          split at P5
          · rename_i hz
            have y5 := (x3.trans x4).trans x5
            obtain ⟨F6, O6, y6, E6, d6, g6, s6, n6⟩ := fz y5 (fun b h => (x3.trans x4).live b h) E5 r5 q6
            have nD6 : ¬ F6 D := fun z => by
              rcases n6 D z with z | ⟨j, z⟩ | z
              · exact nD5 z
              · exact oD5 j z
              · rw [hD4] at z; cases z
            have oD6 : ∀ j, D ∉ O6 j := fun j z => oD5 j (s6 j D z)
            have sa6 : DFs T.K H5 F6 (va ++ [v]) (acc ++ [d]) := (sa5.mono .refl g6).append (.cons d6 .nil)
            refine ⟨va, hD5, by rw [sa5.length]; exact Nat.lt_of_lt_of_le hz (by decide), ?_⟩
            obtain ⟨O7, E7, s7⟩ := E6.wiped (vs := vs)
            rw [hw] at E7
            obtain ⟨E8, k8⟩ := E7.other (o' := .lst (va ++ [v])) hD5 (fun z => z) nD6 fun j z => oD6 j (s7 j D z)
            refine ⟨_, F6, O7, acc ++ [d], va ++ [v], hlt, ⟨fun b o h n z => ?_, fun b h => ?_, y6.grow, y6.new, fun j b e => y6.own j b (s7 j b e)⟩, E8, upd_same, sa6.mono k8 fun _ h => h, nD6, fun j z => oD6 j (s7 j D z), ?_, fun b h => g6 b (x5.grow b (x4.grow b (gF b h))), P5⟩
            · rw [upd_ne (ne_of_none h hDB)]
              exact y6.keep b o h n z
            · by_cases e : b = D
              · subst e; exact hDB
              · rw [upd_ne e] at h
                exact y6.live b h
            · exact kp5.trans (fun b h => g6 b (x5.grow b (x4.grow b (gF b h)))) k8
          · exact P5.elim
  · have e : i = ds.length := by omega
    subst e
    rw [List.drop_length] at P'
    exact .inl ⟨r1.stop H' kp _ (Nat.le_refl _) (Nat.le_refl _), P' (.ref D) H' F' O' x' E'.unwipe ⟨D, rfl, hDB, nD, oD, va, hDl, sa⟩⟩
end
end DL
namespace DL
open PySem L2 PyProof.Rows
def iSeq (K : PySem.W.Frag) (tl : TE) : TI := fun σ H R => tl σ H fun x H1 => ∃ a, x = .ref a ∧ ((∃ xs, SqL K H1 a xs ∧ R (Itl K a) H1) ∨ (∃ xs, SqT K H1 a xs ∧ R (Itt K a) H1))
theorem pi_seq {X : Cx} {tg l : Expr} {tl : TE} (hl : PE X l tl) : PI X tg l (iSeq X.K tl) := by
  constructor
  intro pins s σ H R I h
  refine thn (hl.run pins s σ H _ I h) ?_
  rintro v s1 ⟨x, H1, I1, r1, a, rfl, z⟩
  have fr : ∀ b ∈ [s1.heap.objs.size], FpOk X pins H1 b := by
    intro b hb
    obtain rfl : b = s1.heap.objs.size := by simpa using hb
    exact I1.fpOk (Nat.le_refl _) (I1.hok.fresh (Nat.le_refl _))
  have J1 : ∀ o : Obj, L2.Inv X pins σ H1 { s1 with heap := s1.heap.push o } := fun o => I1.kept (t' := s1.toks) fun b u e => Heap.get?_push_of_some _ e
  cases r1
  rcases z with ⟨xs, hq, q⟩ | ⟨xs, hq, q⟩
  · obtain ⟨its, rv, p, _⟩ := I1.list hq
    refine wpAny_pyIter_list p.isList ?_
    exact ⟨_, [s1.heap.objs.size], _, _, H1, rfl, J1 _, turn_list a _, ⟨_, Heap.get?_push_size _ rfl, rfl, rfl⟩, fr, q⟩
  · obtain ⟨its, rv, p, _⟩ := I1.tuple hq
    refine wpAny_pyIter_tuple (show s1.heap.IsTuple a its.toArray from p) ?_
    exact ⟨_, [s1.heap.objs.size], _, _, H1, rfl, J1 _, turn_tuple a _, ⟨_, Heap.get?_push_size _ rfl, rfl, rfl⟩, fr, q⟩
/-- the items of a list or tuple -/
def itemsOf : PyData → Option (List PyData)
  | .list ds => some ds
  | .tuple ds => some ds
  | _ => none
def iM (f : EM) : IM := fun ρ => bindO (f ρ) fun r ρ1 => match frz ρ1 r with
  | some (d, ρ2) => (itemsOf d).map fun ds => .ok ds ρ2
  | none => none
def rngL (lo : Int) (n : Nat) : List PyData := (List.range n).map fun (k : Nat) => .int (lo + (k : Int))
/-- within the machine's bounds, asked so that nothing is counted down -/
def inW (j : Int) : Bool := Nat.ble j.toNat 4611686018427387903 && Nat.ble (-j).toNat 4611686018427387904
theorem inW_of {j : Int} (h : inW j = true) : -(2 ^ 62) ≤ j ∧ j < 2 ^ 62 := by
  unfold inW at h
  rw [Bool.and_eq_true] at h
  have a := Nat.le_of_ble_eq_true h.1
  have b := Nat.le_of_ble_eq_true h.2
  omega
theorem inW_is {j : Int} (h1 : -4611686018427387904 ≤ j) (h2 : j < 4611686018427387904) : inW j = true := by
  unfold inW
  rw [Bool.and_eq_true]
  exact ⟨Nat.ble_eq_true_of_le (by omega), Nat.ble_eq_true_of_le (by omega)⟩
def irM1 (fa : EM) : IM := fun ρ => bindO (fa ρ) fun r ρ1 => match r with
  | .dat (.int j) => if inW j = true then some (.ok (rngL 0 j.toNat) ρ1) else none
  | _ => none
def irM2 (fa fb : EM) : IM := fun ρ => bindO (fa ρ) fun r ρ1 => bindO (fb ρ1) fun s ρ2 => match r, s with
  | .dat (.int i), .dat (.int j) => if inW i = true ∧ inW j = true then some (.ok (rngL i (j - i).toNat) ρ2) else none
  | _, _ => none
section
variable {T : Tb} {K : PySem.W.Frag}
theorem LsR.kept {F : Reg} {H H' : Hp} {a : Addr} {xs : List V} (f : F a) (k : Kept F H H') (h : LsR K H a xs) : LsR K H' a xs := h.imp (k.rdF f) id
end
section
variable {T : Tb} {F : Reg} {H : Hp}
theorem it_list {a : Addr} {xs : List V} {ds : List PyData} (r : ∀ H', Kept F H H' → SqL T.K H' a xs) (s : DFs T.K H F xs ds) : ItOk T (Itl T.K a) F H ds :=
  ⟨fun H' k i d h => by
    obtain ⟨v, hv, dv⟩ := s.get h
    refine ⟨⟨xs, v, r H' k, hv⟩, fun x H'' y => ?_⟩
    obtain ⟨rfl, y⟩ := y
    have e := y xs (r _ k)
    rw [hv] at e
    cases e
    exact ⟨fun _ _ h => h, dv.mono k fun _ h => h⟩, fun H' k i h _ => ⟨xs, r H' k, by rw [s.length]; exact h⟩⟩
theorem it_tup {a : Addr} {xs : List V} {ds : List PyData} (r : ∀ H', Kept F H H' → SqT T.K H' a xs) (s : DFs T.K H F xs ds) : ItOk T (Itt T.K a) F H ds :=
  ⟨fun H' k i d h => by
    obtain ⟨v, hv, dv⟩ := s.get h
    refine ⟨⟨xs, v, r H' k, hv⟩, fun x H'' y => ?_⟩
    obtain ⟨rfl, y⟩ := y
    have e := y xs (r _ k)
    rw [hv] at e
    cases e
    exact ⟨fun _ _ h => h, dv.mono k fun _ h => h⟩, fun H' k i h _ => ⟨xs, r H' k, by rw [s.length]; exact h⟩⟩
theorem rngL_get {lo : Int} {n i : Nat} {d : PyData} (h : (rngL lo n)[i]? = some d) : i < n ∧ d = .int (lo + i) := by
  unfold rngL at h
  rw [List.getElem?_map] at h
  by_cases hi : i < n
  · rw [List.getElem?_range hi] at h
    cases h
    exact ⟨hi, rfl⟩
  · rw [List.getElem?_eq_none (by simpa using hi)] at h
    cases h
theorem rngL_len (lo : Int) (n : Nat) : (rngL lo n).length = n := by unfold rngL; simp
theorem it_rng {lo : Int} {n : Nat} : ItOk T (Itr lo n) F H (rngL lo n) :=
  ⟨fun H' k i d h => by
    obtain ⟨hi, rfl⟩ := rngL_get h
    refine ⟨hi, fun x H'' y => ?_⟩
    obtain ⟨rfl, rfl⟩ := y
    exact ⟨fun _ _ h => h, .int _⟩, fun H' k i h _ => by rw [rngL_len] at h; exact h⟩
end
section
variable {X : Cx} {T : Tb} {W : WX} {tg e a b : Expr} {f fa fb : EM} {pos p : Pos}
theorem si_seq (hK : X.K = T.K) (he : SE X T W e f) : SI X T W tg e (iM f) := by
  refine pi_imp (pi_seq he) fun σ H Q ⟨ρ, F, O, E, P⟩ => ?_
  rw [hK]
  refine stp .refl E P fun v H1 r ρ1 F1 O1 x1 y1 E1 r1 P1 => ?_
  cases q : frz ρ1 r with
  | none => rw [q] at P1; exact P1.elim
  | some z =>
    obtain ⟨d, ρ2⟩ := z
    rw [q] at P1
    dsimp only at P1
    obtain ⟨F2, O2, y2, E2, d2, _, _, _⟩ := fz y1 (fun _ h => h) E1 r1 q
    cases d2 with
    | @lst a xs ds f r s => exact ⟨a, rfl, .inl ⟨xs, .inl r, P1 _ _ _ _ y2 E2 (it_list (fun H' k => .inl (k.rdF f r)) s)⟩⟩
    | @lstK a xs ds r s => exact ⟨a, rfl, .inl ⟨xs, LsR.sq (.inr r), P1 _ _ _ _ y2 E2 (it_list (fun H' k => LsR.sq (.inr r)) s)⟩⟩
    | @tup a xs ds r s => exact ⟨a, rfl, .inr ⟨xs, r, P1 _ _ _ _ y2 E2 (it_tup (fun H' k => k.sqT r) s)⟩⟩
    | non => exact P1.elim
    | bl b => exact P1.elim
    | int i => exact P1.elim
    | str x => exact P1.elim
    | dct a b c => exact P1.elim
    | dcT a b c d => exact P1.elim
theorem int_of {H : Hp} {F : Reg} {v : V} {i : Int} (h : DF T.K H F v (.int i)) : v = .int i := by cases h; rfl
theorem si_rng1 (hg : L2.Gl X "range") (hm : X.mg "range" = none) (ha : SE X T W a fa) (hs : starEach [a] X.env = [(false, eval a X.env)] := by rfl) : SI X T W tg (.Call (.Name "range" p) [a] [] pos) (irM1 fa) := by
  refine pi_imp (pi_range1 hg hm (pa_cons ha pa_nil hs) hs) fun σ H Q ⟨ρ, F, O, E, P⟩ => ?_
  refine stp .refl E P fun v H1 r ρ1 F1 O1 x1 y1 E1 r1 P1 => ?_
  split at P1
  · rename_i j
    split at P1
    · rename_i hz
      exact ⟨j, by rw [int_of r1], (inW_of hz).1, (inW_of hz).2, P1 _ _ _ _ y1 E1 it_rng⟩
    · exact P1.elim
  · exact P1.elim
end
theorem Cxt.blk {X : Cx} {T : Tb} {W : WX} {n : Nat} (c : Cxt X T W n) (s : Shared) (H : Hp) (scope : Scope) (env : Env) (fp : List Addr) : Cxt (X.blk s H scope env fp) T W0 n :=
  ⟨c.hK, c.hw, c.calm, c.room, c.gd, takes0, PassesOwn.never, c.nd, c.sm⟩
def STs (X : Cx) (T : Tb) (ifs : List Expr) (c : Rho → Option (Oe Bool)) : Prop := PTs X ifs (Tof T W0 tlB c)
section
variable {X : Cx} {T : Tb} {W : WX} {elt tg iter : Expr} {ifs : List Expr} {scope : Scope} {own : List (Str × Nat)} {pos : Pos} {it : IM} {g : GM} {c : Rho → Option (Oe Bool)} {f : EM} {pr : Nat → Bool}
theorem sts_nil : STs X T [] yesT := ⟨fun pins s σ H Q I ⟨ρ, F, O, E, P⟩ => pts_nil.run pins s σ H Q I (P true H F O .refl E rfl)⟩
/-- pr: all slots but the block's own -/
def prB (vs : List Nat) (i : Nat) : Bool := !vs.contains i
theorem prB_ok {vs : List Nat} : ∀ i, i ∉ vs → prB vs i = true := fun i h => by simp [prB, h]
theorem se_lc (hc : X.calm = true) (hN : X.N.Nodup) (hi : SI X T W tg iter it) (ok : BlkOk X.N X.env.scope scope own)
    (hg : ∀ (s : Shared) (H : Hp) (C : Addr) (cl : List (Str × Addr)) (fp : List Addr), SG (X.blk s H scope (compEnvC scope cl C X.env) fp) T (prB (own.map (·.2))) tg g)
    (ht : ∀ (s : Shared) (H : Hp) (C : Addr) (cl : List (Str × Addr)) (fp : List Addr), STs (X.blk s H scope (compEnvC scope cl C X.env) fp) T ifs c)
    (he : ∀ (s : Shared) (H : Hp) (C : Addr) (cl : List (Str × Addr)) (fp : List Addr), SE (X.blk s H scope (compEnvC scope cl C X.env) fp) T W0 elt f) (hs : ∀ x, foldedSetIterable iter X.env x = pure x := by intro _; rfl) :
    SE X T W (.ListComp elt [⟨tg, iter, ifs, 0⟩] scope pos) (lcM it g (own.map (·.2)) c f) :=
  pe_imp (pe_lc hc hN hi ok hg ht he hs) fun _ _ _ h => lc_of prB_ok h
end
end DL
namespace DL
open PySem L2 PyProof.Rows
abbrev Sem := List R → Option (Oe R)
def PostF (T : Tb) (vs : List V) (H : Hp) (F : Reg) (O : Ows) (Q : VK) (E : XK) : Option (Oe R) → Prop
  | some (.ok r ρ) => ∀ v H' F' O', Ext true H F O H' F' O' → EnvR T H' F' O' (vs.map some) ρ → ResR T H H' F' O' [] v r → Q v H'
  | some (.er c fs ρ) => ∀ cls d H' F' O', Ext true H F O H' F' O' → EnvR T H' F' O' (vs.map some) ρ → ExcR T H' cls d c fs → E cls d H'
  | none => False
/-- a def's promise, by what it comes to -/
def spOf (T : Tb) (n : Nat) (sem : Sem) : Sp := fun vs H Q E => ∃ args F O, vs.length = n ∧ EnvR T H F O (vs.map some) (args.map some) ∧ PostF T vs H F O Q E (sem args)
/-- what the caller's slots hold behind a call: pr: the parameters that the def never stores -/
def outs (n : Nat) (pr : Nat → Bool) (ρ : Rho) : Rho := (List.range n).map fun i => if pr i = true then ρ[i]?.join else none
def runD (n m : Nat) (pr : Nat → Bool) (f : SM) : Sem := fun args => if args.length = n then match f (args.map some ++ List.replicate (m - n) none) with
    | some (.nx ρ) => some (.ok (.dat .none) (outs n pr ρ))
    | some (.rt r ρ) => some (.ok r (outs n pr ρ))
    | some (.er c fs ρ) => some (.er c fs (outs n pr ρ))
    | _ => none
  else none
/-- a def's promise where the walk knows that no repr runs around it -/
structure FnG (P : Program) (w : World) (K : PySem.W.Frag) (mg : Str → Option Value) (base : Heap) (k : Nat) (f : Addr) (fd : FuncData) (ps : List Str) (sp : Sp) : Prop where
  len : ∀ vs H Q E, sp vs H Q E → vs.length = ps.length
  run : ∀ (A : Around) (outer : List Env) (s : Shared) (H : Hp) (args : Args) (us : List Value) (vs : List V) (Q : VK) (E : XK), A.guards = some [] → Room k A → Env0 P w K mg base A outer s H → BindsTo s fd args (ps.zip us) →
    Vals vs us → sp vs H Q E → codeAny (model P w) A (.call (.ref f) args) (CR (L2.CX P w) outer P w H s Q E) s
section
variable {T : Tb}
theorem outs_get {n : Nat} {pr : Nat → Bool} {ρ : Rho} {i : Nat} {r : R} (h : (outs n pr ρ)[i]? = some (some r)) : i < n ∧ pr i = true ∧ ρ[i]? = some (some r) := by
  unfold outs at h
  rw [List.getElem?_map] at h
  by_cases hi : i < n
  · rw [List.getElem?_range hi] at h
    have h' : (if pr i = true then ρ[i]?.join else none) = some r := Option.some.inj h
    by_cases hp : pr i = true
    · rw [if_pos hp] at h'
      cases q : ρ[i]? with
      | none => rw [q] at h'; cases h'
      | some x => rw [q] at h'; exact ⟨hi, hp, by rw [show x = some r from h']⟩
    · rw [if_neg hp] at h'; cases h'
  · rw [List.getElem?_eq_none (by simpa using hi)] at h
    cases h
theorem outs_put {n : Nat} {pr : Nat → Bool} {ρ : Rho} {i : Nat} {r : R} (hi : i < n) (hp : pr i = true) (h : ρ[i]? = some (some r)) : (outs n pr ρ)[i]? = some (some r) := by
  unfold outs
  rw [List.getElem?_map, List.getElem?_range hi]
  show some (if pr i = true then ρ[i]?.join else none) = _
  rw [if_pos hp, h]
  rfl
theorem start_get {N : List Str} {vs : List V} {i : Nat} {v : V} (h : (L2.start N vs)[i]? = some (some v)) : vs[i]? = some v := by
  unfold L2.start at h
  by_cases hi : i < vs.length
  · rw [List.getElem?_append_left (by simpa using hi), List.getElem?_map] at h
    cases q : vs[i]? with
    | none => rw [q] at h; cases h
    | some u => rw [q] at h; cases h; rfl
  · rw [List.getElem?_append_right (by simpa using hi), List.getElem?_replicate] at h
    split at h <;> cases h
theorem start_put {N : List Str} {vs : List V} {i : Nat} {v : V} (h : vs[i]? = some v) : (L2.start N vs)[i]? = some (some v) := by
  have hi : i < vs.length := lt_of_at h
  unfold L2.start
  rw [List.getElem?_append_left (by simpa using hi), List.getElem?_map, h]
  rfl
/-- the slots at a def's entry -/
theorem env_start {N : List Str} {H : Hp} {F : Reg} {O : Ows} {vs : List V} {args : List R} (hN : vs.length ≤ N.length) (E : EnvR T H F O (vs.map some) (args.map some)) : EnvR T H F O (L2.start N vs) (args.map some ++ List.replicate (N.length - args.length) none) := by
  have hl : args.length = vs.length := by have := E.len; simpa using this
  have get : ∀ i r, (args.map some ++ List.replicate (N.length - args.length) none)[i]? = some (some r) → (args.map some)[i]? = some (some r) := fun i r e => by
    by_cases hi : i < args.length
    · rw [List.getElem?_append_left (by simpa using hi)] at e; exact e
    · rw [List.getElem?_append_right (by simpa using hi), List.getElem?_replicate] at e
      split at e <;> cases e
  refine ⟨?_, fun i r e => ?_, fun i a e => ?_, E.inj, E.nf, E.lv, E.tb⟩
  · unfold L2.start
    simp only [List.length_append, List.length_map, List.length_replicate]
    omega
  · obtain ⟨v, h1, h2⟩ := E.at_ i r (get i r e)
    refine ⟨v, ?_, h2⟩
    rw [List.getElem?_map] at h1
    cases q : vs[i]? with
    | none => rw [q] at h1; cases h1
    | some u => rw [q] at h1; cases h1; exact start_put q
  · obtain ⟨r, e1⟩ := E.own i a e
    have hi : i < args.length := by have := lt_of_at e1; simpa using this
    exact ⟨r, by rw [List.getElem?_append_left (by simpa using hi)]; exact e1⟩
/-- the parameters behind a def's end -/
theorem env_out {N : List Str} {φ : Fm} {H' : Hp} {F' : Reg} {O' : Ows} {σ' : L2.St} {ρ : Rho} {vs : List V} (hn : vs.length = φ.n) (S : StR T φ H' F' O' σ' ρ) (k : Keeps φ.pr (L2.start N vs) σ') :
    ∃ O2, EnvR T H' F' O2 (vs.map some) (outs φ.n φ.pr ρ) ∧ Sub O2 O' := by
  have E := S.E
  have sb : Sub (fun i => if i < φ.n ∧ φ.pr i = true then O' i else []) O' := fun i a e => by
    have e' : a ∈ (if i < φ.n ∧ φ.pr i = true then O' i else []) := e
    split at e'
    · exact e'
    · cases e'
  refine ⟨fun i => if i < φ.n ∧ φ.pr i = true then O' i else [], ⟨?_, fun i r e => ?_, fun i a e => ?_, fun i j a e1 e2 => E.inj i j a (sb i a e1) (sb j a e2), fun i a e => E.nf i a (sb i a e), E.lv, E.tb⟩, sb⟩
  · unfold outs
    simp [hn]
  · obtain ⟨h1, h2, h3⟩ := outs_get e
    obtain ⟨v, h4, h5⟩ := E.at_ i r h3
    refine ⟨v, ?_, by rw [if_pos ⟨h1, h2⟩]; exact h5⟩
    rw [k.2 i h2] at h4
    rw [List.getElem?_map, start_get h4]
    rfl
  · have e' : a ∈ (if i < φ.n ∧ φ.pr i = true then O' i else []) := e
    split at e'
    · rename_i h
      obtain ⟨r, e1⟩ := E.own i a e'
      exact ⟨r, outs_put h.1 h.2 e1⟩
    · cases e'
theorem Ext.sub {H H' : Hp} {F F' : Reg} {O O' O2 : Ows} {s : Bool} (x : Ext s H F O H' F' O') (sb : Sub O2 O') : Ext s H F O H' F' O2 := ⟨x.keep, x.live, x.grow, x.new, fun i b e => x.own i b (sb i b e)⟩
theorem ResR.sub {H0 H : Hp} {F : Reg} {O O2 : Ows} {σ : L2.St} {v : V} (sb : Sub O2 O) : ∀ {r : R}, ResR T H0 H F O σ v r → ResR T H0 H F O2 σ v r
  | .dat _, h => h
  | .own _, ⟨a, h1, h2, h3, h4, h5⟩ => ⟨a, h1, h2, h3, fun i e => h4 i (sb i a e), h5⟩
  | .slt _, h => h
  | .fn _, h => h
  | .st _, ⟨a, h1, h2, h3, h4, h5⟩ => ⟨a, h1, h2, h3, fun i e => h4 i (sb i a e), h5⟩
  | .ex _ _, h => h
  | .two _ _, ⟨p, a, b, h1, h2, h3, ⟨a1, a2, a3, a4⟩, b1, b2, b3, b4⟩ => ⟨p, a, b, h1, h2, h3, ⟨a1, a2, fun i e => a3 i (sb i a e), a4⟩, b1, b2, fun i e => b3 i (sb i b e), b4⟩
  | .obj _, ⟨L, h1, h2⟩ => ⟨L, fun b hb => ⟨(h1 b hb).1, (h1 b hb).2.1, fun i e => (h1 b hb).2.2 i (sb i b e)⟩, h2⟩
  | .prt _ _, h => h
/-- from a def's promise to its body's reading -/
theorem body_of {N : List Str} {n : Nat} {pr : Nat → Bool} {m : SM} {vs : List V} {H : Hp} {Q : VK} {E : XK} (hN : n ≤ N.length) (h : spOf T n (runD n N.length pr m) vs H Q E) :
    TSof T (fun cls d _ H' => E cls d H') ⟨H, n, pr⟩ m { nx := fun _ H' => Q .non H', rt := Q } (L2.start N vs) H := by
  obtain ⟨args, F, O, hl, En, P⟩ := h
  have hla : args.length = n := by have := En.len; simp at this; omega
  unfold runD at P
  rw [if_pos hla] at P
  have E0 := env_start (N := N) (by omega) En
  rw [hla] at E0
  refine ⟨_, F, O, ⟨E0, fun b h => h, fun i a hi e => ?_⟩, ?_⟩
  · obtain ⟨r, e1⟩ := En.own i a e
    have h1 := lt_of_at e1
    simp at h1
    have hi' : n ≤ i := hi
    omega
  cases q : m (args.map some ++ List.replicate (N.length - n) none) with
  | none => rw [q] at P; exact P
  | some o =>
    rw [q] at P
    cases o with
    | nx ρ =>
      intro σ' H' F' O' x S k
      obtain ⟨O2, E2, sb⟩ := env_out hl S k
      exact P .non H' F' O2 (x.sub sb) E2 .non
    | rt r ρ =>
      intro v σ' H' F' O' x S k rr
      obtain ⟨O2, E2, sb⟩ := env_out hl S k
      exact P v H' F' O2 (x.sub sb) E2 (rr.sub sb)
    | er c fs ρ =>
      intro cls d σ' H' F' O' x S k rr
      obtain ⟨O2, E2, sb⟩ := env_out hl S k
      exact P cls d H' F' O2 (x.sub sb) E2 rr
    | bk ρ => exact P.elim
    | ct ρ => exact P.elim
end
/-- a def by its body: m is what the body comes to -/
theorem fn_g {T : Tb} {P : Program} {w : World} {K : PySem.W.Frag} {mg : Str → Option Value} {base : Heap} {k n : Nat} {x qual : Str} {st : Stmt} {f : Addr} {fd : FuncData} {N ps : List Str} {pr : Nat → Bool} {m : SM} (G : Fun K x qual st f fd) (S : FnScope N ps (defScope st)) (hn : ps.length = n)
    (hK : K = T.K) (hw : w = T.w) (hsm : base.get? sysModules ≠ none)
    (body : ∀ (X : Cx) (W : WX) (H : Hp), X.prog = P → X.w = w → X.K = K → X.mg = mg → X.base = base → X.N = N → X.env.scope = defScope st → X.env.scope.kind = .function → X.fn = (fun _ => true) → Cxt X T W k → SB X T W ⟨H, n, pr⟩ (defBody st) m) :
    FnG P w K mg base (k + 1) f fd ps (spOf T n (runD n N.length pr m)) := by
  have hN : n ≤ N.length := by
    have h := congrArg List.length S.pre
    rw [List.length_take] at h
    omega
  obtain ⟨oc, od, kV, doc, pm, an, cdv, ct, osl, rfl, lk, hcd⟩ := G.ex
  refine ⟨fun vs H Q E ⟨_, _, _, hl, _⟩ => hl.trans hn.symm, ?_⟩
  intro A outer s H args us vs Q E hg hr e0 hb r hsp
  have hl : vs.length = ps.length := by obtain ⟨_, _, _, q, _⟩ := hsp; exact q.trans hn.symm
  have kin : K.In s.heap := e0.mod.kin.keeps fun b o e => (e0.bs b o e).1
  have lim : s.heap.NoLimit := e0.mod.nolimit.keeps fun b o e => (e0.bs b o e).1
  have kinds : ∀ y ∈ ps.zip us, (defScope st).names.lookup y.1 = some .local ∨ ((defScope st).names.lookup y.1 = some .cell ∧ ((cellsFrom (s.heap.objs.size + 1) (defScope st).names []).lookup y.1).isSome = true) := by
    rintro ⟨y, v⟩ hy
    exact (S.par y (List.of_mem_zip hy).1).imp id fun q => ⟨q, PySem.W.cellsFrom_some _ _ _ (.inl q)⟩
  refine codeAny_call_function hr.depth (kin _ _ lk) rfl S.co S.gen rfl (PySem.W.codeRec_of kin hcd) (hb _ _ _ _ ?_)
  refine wpAny_newFunctionEnv_cells S.kind kinds ?_
  rintro env rfl s1 ic
  refine ⟨lim.keeps ic.toInCall.keep, codeAny_func ?_⟩
  let X := cxOf (L2.CX P w) P w K mg base N qual (defScope st) f cdv A outer s H E
  have I : L2.Inv X [] (L2.start N vs) H s1 := inv_start S hr.hd e0 hl r ic
  have cx : Cxt X T (fun cls d _ H' => E cls d H') k := ⟨hK, hw, rfl, hr.deeper _, hg, takes_of rfl rfl rfl rfl, passes_of rfl, S.nd, hsm⟩
  have B := body X _ H rfl rfl rfl rfl rfl rfl rfl S.kind rfl cx
  refine wpAny_mono (B.run [] s1 (L2.start N vs) H _ I (body_of hN hsp)) ?_ fun _ _ z => z
  intro fl s' hs
  cases fl with
  | ret u =>
    obtain ⟨v, σ', H', J, rv, q⟩ := hs
    exact ⟨v, H', J.os, J.bare, J.base, J.hok, rv, q⟩
  | next =>
    obtain ⟨σ', H', J, q⟩ := hs
    exact ⟨.non, H', J.os, J.bare, J.base, J.hok, rfl, q⟩
  | brk =>
    obtain ⟨_, _, _, q⟩ := hs
    exact q.elim
  | cont =>
    obtain ⟨_, _, _, q⟩ := hs
    exact q.elim
/-- an object that may be handed on -/
def okO : OD → Bool
  | .pr _ _ _ => false
  | .many _ xs => xs.all Option.isSome
  | _ => true
def pass1 (ρ : Rho) : R → Option R
  | .dat d => some (.dat d)
  | .fn k => some (.fn k)
  | .ex c fs => some (.ex c fs)
  | .obj o => if okO o = true then some (.obj o) else none
  | .slt i => match ρ[i]? with
    | some (some (.own d)) => some (.own d)
    | some (some (.dat d)) => some (.dat d)
    | some (some (.st xs)) => some (.st xs)
    | some (some (.obj o)) => if okO o = true then some (.obj o) else none
    | _ => none
  | _ => none
def passA (ρ : Rho) : List R → Option (List R)
  | [] => some []
  | r :: rs => match pass1 ρ r, passA ρ rs with
    | some a, some as => some (a :: as)
    | _, _ => none
def isSlt (j : Nat) : R → Bool
  | .slt i => i == j
  | _ => false
def posOf (j : Nat) : List R → Option Nat
  | [] => none
  | r :: rs => if isSlt j r = true then some 0 else (posOf j rs).map (· + 1)
/-- no new object among them -/
def noOb : List R → Bool
  | [] => true
  | .obj _ :: _ => false
  | _ :: rs => noOb rs
def dist : List R → Bool
  | [] => true
  | .slt i :: rs => (posOf i rs).isNone && dist rs
  | .obj _ :: rs => noOb rs && dist rs
  | _ :: rs => dist rs
def isOwn : Option R → Bool
  | some (.own _) => true
  | some (.st _) => true
  | some (.obj _) => true
  | _ => false
/-- an object is an object's alone -/
def mend (x : Option R) : Option R → Option R
  | some (.obj o) => match x with
    | some (.obj _) => some (.obj o)
    | _ => none
  | y => y
/-- what the slots hold behind the call -/
def backA (ρ : Rho) (rs : List R) (os : Rho) : Rho := ρ.mapIdx fun j x => if isOwn x = true then match posOf j rs with
    | some k => mend x os[k]?.join
    | none => x
  else x
def callM (sem : Sem) (fa : AM) : EM := fun ρ => bindO (fa ρ) fun rs ρ1 => if dist rs = true then match passA ρ1 rs with
    | some args => match sem args with
      | some (.ok r os) => some (.ok r (backA ρ1 rs os))
      | some (.er c fs os) => some (.er c fs (backA ρ1 rs os))
      | none => none
    | none => none
  else none
end DL
namespace DL
open PySem L2 PyProof.Rows
theorem posOf_some {j : Nat} : ∀ {rs : List R} {k : Nat}, posOf j rs = some k → rs[k]? = some (.slt j)
  | r :: rs, k, h => by
    unfold posOf at h
    split at h
    · rename_i q
      cases h
      cases r with
      | slt i => have e : i = j := by simpa [isSlt] using q
                 subst e; rfl
      | dat d => simp [isSlt] at q
      | own d => simp [isSlt] at q
      | fn d => simp [isSlt] at q
      | st d => simp [isSlt] at q
      | ex c d => simp [isSlt] at q
      | two c d => simp [isSlt] at q
      | obj o => simp [isSlt] at q
      | prt c d => simp [isSlt] at q
    · obtain ⟨k', h1, rfl⟩ := Option.map_eq_some_iff.mp h
      simpa using posOf_some h1
theorem posOf_none {j : Nat} : ∀ {rs : List R} {k : Nat}, posOf j rs = none → rs[k]? ≠ some (.slt j)
  | [], _, _ => by simp
  | r :: rs, 0, h => fun e => by
    have e' : r = .slt j := by simpa using e
    subst e'
    simp [posOf, isSlt] at h
  | r :: rs, k + 1, h => fun e => by
    unfold posOf at h
    split at h
    · cases h
    · have h1 : posOf j rs = none := by simpa using h
      exact posOf_none (k := k) h1 (by simpa using e)
theorem dist_ok : ∀ {rs : List R} {j k k' : Nat}, dist rs = true → rs[k]? = some (.slt j) → rs[k']? = some (.slt j) → k = k'
  | r :: rs, j, 0, 0, _, _, _ => rfl
  | r :: rs, j, 0, k' + 1, h, e, e' => by
    have e1 : r = .slt j := by simpa using e
    subst e1
    simp only [dist, Bool.and_eq_true, Option.isNone_iff_eq_none] at h
    exact absurd (by simpa using e') (posOf_none (k := k') h.1)
  | r :: rs, j, k + 1, 0, h, e, e' => by
    have e1 : r = .slt j := by simpa using e'
    subst e1
    simp only [dist, Bool.and_eq_true, Option.isNone_iff_eq_none] at h
    exact absurd (by simpa using e) (posOf_none (k := k) h.1)
  | r :: rs, j, k + 1, k' + 1, h, e, e' => by
    have h' : dist rs = true := by
      cases r <;> simp only [dist, Bool.and_eq_true] at h <;> first | exact h.2 | exact h
    have a1 : rs[k]? = some (.slt j) := by simpa using e
    have a2 : rs[k']? = some (.slt j) := by simpa using e'
    rw [dist_ok h' a1 a2]
theorem noOb_ok : ∀ {rs : List R} {k : Nat} {o : OD}, noOb rs = true → rs[k]? ≠ some (.obj o)
  | [], k, o, _ => by simp
  | r :: rs, 0, o, h => fun e => by
    have e1 : r = .obj o := by simpa using e
    subst e1
    cases h
  | r :: rs, k + 1, o, h => fun e => by
    have h' : noOb rs = true := by cases r <;> first | exact h | cases h
    exact noOb_ok (k := k) (o := o) h' (by simpa using e)
theorem dist_ob : ∀ {rs : List R} {k k' : Nat} {o o' : OD}, dist rs = true → rs[k]? = some (.obj o) → rs[k']? = some (.obj o') → k = k'
  | [], _, _, _, _, _, e, _ => by simp at e
  | r :: rs, 0, 0, _, _, _, _, _ => rfl
  | r :: rs, 0, k' + 1, o, o', h, e, e' => by
    have e1 : r = .obj o := by simpa using e
    subst e1
    simp only [dist, Bool.and_eq_true] at h
    exact absurd (by simpa using e') (noOb_ok (k := k') (o := o') h.1)
  | r :: rs, k + 1, 0, o, o', h, e, e' => by
    have e1 : r = .obj o' := by simpa using e'
    subst e1
    simp only [dist, Bool.and_eq_true] at h
    exact absurd (by simpa using e) (noOb_ok (k := k) (o := o) h.1)
  | r :: rs, k + 1, k' + 1, o, o', h, e, e' => by
    have h' : dist rs = true := by
      cases r <;> simp only [dist, Bool.and_eq_true] at h <;> first | exact h.2 | exact h
    have a1 : rs[k]? = some (.obj o) := by simpa using e
    have a2 : rs[k']? = some (.obj o') := by simpa using e'
    rw [dist_ob h' a1 a2]
section
variable {T : Tb} {B H : Hp} {FB F : Reg} {OB O : Ows} {σ : L2.St} {ρ : Rho} {L : Nat → List Addr}
/-- the owners among the arguments -/
def Oa (L : Nat → List Addr) (O : Ows) (rs : List R) : Ows := fun k => match rs[k]? with
  | some (.slt i) => O i
  | some (.obj _) => L k
  | _ => []
theorem Oa_some {rs : List R} {k : Nat} {a : Addr} (h : a ∈ Oa L O rs k) : (∃ i, rs[k]? = some (.slt i) ∧ a ∈ O i) ∨ ∃ o, rs[k]? = some (.obj o) ∧ a ∈ L k := by
  unfold Oa at h
  split at h
  · rename_i i q; exact .inl ⟨i, q, h⟩
  · rename_i o q; exact .inr ⟨o, q, h⟩
  · cases h
/-- L: the places of the new objects among the arguments -/
def TmpOk (T : Tb) (B H : Hp) (F : Reg) (O : Ows) (L : Nat → List Addr) (vs : List V) (rs : List R) : Prop :=
  ∀ k v o, vs[k]? = some v → rs[k]? = some (.obj o) → (∀ b, b ∈ L k → B b = none ∧ ¬ F b ∧ ∀ i, b ∉ O i) ∧ ObjAt T H F (L k) v o
theorem resRs_get : ∀ {vs : List V} {rs : List R} {k : Nat} {r : R}, ResRs T B H F O σ vs rs → rs[k]? = some r → ∃ v, vs[k]? = some v ∧ ResR T B H F O σ v r
  | _, _, _, _, .nil, e => by simp at e
  | _, _, 0, _, .cons a _, e => by simp at e; subst e; exact ⟨_, rfl, a⟩
  | _, _, k + 1, r, .cons _ b, e => by
    obtain ⟨v, h1, h2⟩ := resRs_get (k := k) (r := r) b (by simpa using e)
    exact ⟨v, by simpa using h1, h2⟩
theorem resRs_len : ∀ {vs : List V} {rs : List R}, ResRs T B H F O σ vs rs → vs.length = rs.length
  | _, _, .nil => rfl
  | _, _, .cons _ b => by rw [List.length_cons, List.length_cons, resRs_len b]
theorem tmps {vs : List V} {rs : List R} (r : ResRs T B H F O σ vs rs) : ∃ L, TmpOk T B H F O L vs rs := by
  have key : ∀ k : Nat, ∃ Lk : List Addr, ∀ (v : V) (o : OD), vs[k]? = some v → rs[k]? = some (R.obj o) → (∀ b, b ∈ Lk → B b = none ∧ ¬ F b ∧ ∀ i, b ∉ O i) ∧ ObjAt T H F Lk v o := fun k => by
    cases hk : rs[k]? with
    | none => exact ⟨[], fun _ _ _ e => by cases e⟩
    | some r0 =>
      cases r0 with
      | obj o =>
        obtain ⟨v, hv, Lk, h1, h2⟩ := resRs_get r hk
        exact ⟨Lk, fun v' o' e1 e2 => by rw [hv] at e1; cases e1; cases e2; exact ⟨h1, h2⟩⟩
      | _ => exact ⟨[], fun _ _ _ e => by cases e⟩
  exact ⟨fun k => Classical.choose (key k), fun k => Classical.choose_spec (key k)⟩
theorem passA_get : ∀ {rs args : List R} {k : Nat} {a : R}, passA ρ rs = some args → args[k]? = some a → ∃ r, rs[k]? = some r ∧ pass1 ρ r = some a
  | [], args, k, a, h, e => by cases h; simp at e
  | r :: rs, args, k, a, h, e => by
    unfold passA at h
    cases q1 : pass1 ρ r with
    | none => rw [q1] at h; cases h
    | some b =>
      cases q2 : passA ρ rs with
      | none => rw [q1, q2] at h; cases h
      | some bs =>
        rw [q1, q2] at h
        cases h
        cases k with
        | zero => simp at e; subst e; exact ⟨r, rfl, q1⟩
        | succ k =>
          obtain ⟨r', h1, h2⟩ := passA_get (k := k) (a := a) q2 (by simpa using e)
          exact ⟨r', by simpa using h1, h2⟩
theorem passA_len : ∀ {rs args : List R}, passA ρ rs = some args → args.length = rs.length
  | [], args, h => by cases h; rfl
  | r :: rs, args, h => by
    unfold passA at h
    cases q1 : pass1 ρ r with
    | none => rw [q1] at h; cases h
    | some b =>
      cases q2 : passA ρ rs with
      | none => rw [q1, q2] at h; cases h
      | some bs =>
        rw [q1, q2] at h
        cases h
        rw [List.length_cons, List.length_cons, passA_len q2]
theorem passA_there : ∀ {rs args : List R} {k : Nat} {r : R}, passA ρ rs = some args → rs[k]? = some r → ∃ a, args[k]? = some a := fun {rs args k r} h e => by
  have hk := lt_of_at e
  rw [← passA_len h] at hk
  exact ⟨args[k], by simp [hk]⟩
/-- the arguments, as a def takes them -/
theorem env_args (E : EnvR T H F O σ ρ) {vs : List V} {rs args : List R} (hd : dist rs = true) (r : ResRs T B H F O σ vs rs) (tm : TmpOk T B H F O L vs rs) (p : passA ρ rs = some args) : EnvR T H F (Oa L O rs) (vs.map some) (args.map some) := by
  have thr : ∀ (k : Nat) (o : OD), rs[k]? = some (R.obj o) → ∃ v, vs[k]? = some v := fun k o h => let ⟨v, hv, _⟩ := resRs_get r h; ⟨v, hv⟩
  refine ⟨by rw [List.length_map, List.length_map, passA_len p, resRs_len r], fun k a e => ?_, fun k a e => ?_, fun k k' a e1 e2 => ?_, fun k a e => ?_, E.lv, E.tb⟩
  · have e' : args[k]? = some a := by
      rw [List.getElem?_map] at e
      cases q : args[k]? with
      | none => rw [q] at e; cases e
      | some b => rw [q] at e; cases e; rfl
    obtain ⟨s, h1, h2⟩ := passA_get p e'
    obtain ⟨v, h3, h4⟩ := resRs_get r h1
    refine ⟨v, by rw [List.getElem?_map, h3]; rfl, ?_⟩
    cases s with
    | dat d =>
      cases h2
      exact ⟨by unfold Oa; rw [h1], h4⟩
    | fn d =>
      cases h2
      exact ⟨by unfold Oa; rw [h1], h4⟩
    | own d => cases h2
    | st d => cases h2
    | ex c d =>
      cases h2
      exact ⟨by unfold Oa; rw [h1], h4⟩
    | two c d => cases h2
    | obj o =>
      have h2' : (if okO o = true then some (R.obj o) else none) = some a := h2
      split at h2'
      all_goals cases h2'
      have := (tm k v o h3 h1).2
      show ObjAt T H F (Oa L O rs k) v o
      rw [show Oa L O rs k = L k by unfold Oa; rw [h1]]
      exact this
    | prt c d => cases h2
    | slt i =>
      have hO : Oa L O rs k = O i := by unfold Oa; rw [h1]
      rw [hO]
      have h2' := h2
      unfold pass1 at h2'
      dsimp only at h2'
      split at h2'
      all_goals first
        | (rename_i q
           cases h2'
           obtain ⟨u, hu, su⟩ := E.at_ i _ q
           have h4' : σ[i]? = some (some v) := h4
           rw [h4'] at hu
           cases hu
           exact su)
        | (rename_i q
           split at h2' <;> cases h2'
           obtain ⟨u, hu, su⟩ := E.at_ i _ q
           have h4' : σ[i]? = some (some v) := h4
           rw [h4'] at hu
           cases hu
           exact su)
        | cases h2'
  · rcases Oa_some e with ⟨i, h1, h2⟩ | ⟨o, h1, h2⟩
    · obtain ⟨b, h3⟩ := passA_there p h1
      exact ⟨b, by rw [List.getElem?_map, h3]; rfl⟩
    · obtain ⟨b, h3⟩ := passA_there p h1
      exact ⟨b, by rw [List.getElem?_map, h3]; rfl⟩
  · rcases Oa_some e1 with ⟨i, h1, h2⟩ | ⟨o, h1, h2⟩
    · rcases Oa_some e2 with ⟨j, h3, h4⟩ | ⟨o, h3, h4⟩
      · have := E.inj i j a h2 h4
        subst this
        exact dist_ok hd h1 h3
      · obtain ⟨v, hv⟩ := thr k' o h3
        exact absurd h2 (((tm k' v o hv h3).1 a h4).2.2 i)
    · rcases Oa_some e2 with ⟨j, h3, h4⟩ | ⟨o', h3, h4⟩
      · obtain ⟨v, hv⟩ := thr k o h1
        exact absurd h4 (((tm k v o hv h1).1 a h2).2.2 j)
      · exact dist_ob hd h1 h3
  · rcases Oa_some e with ⟨i, h1, h2⟩ | ⟨o, h1, h2⟩
    · exact E.nf i a h2
    · obtain ⟨v, hv⟩ := thr k o h1
      exact ((tm k v o hv h1).1 a h2).2.1
/-- what a slot alone holds: its place -/
theorem own_is (E : EnvR T H F O σ ρ) {j : Nat} {a : Addr} (h : a ∈ O j) : ∃ x, ρ[j]? = some x ∧ isOwn x = true := by
  obtain ⟨r, e⟩ := E.own j a h
  obtain ⟨v, h1, s⟩ := E.at_ j r e
  refine ⟨some r, e, ?_⟩
  cases r with
  | own d => rfl
  | st d => rfl
  | obj d => rfl
  | dat d => obtain ⟨z, _⟩ := s; rw [z] at h; cases h
  | slt i => exact s.elim
  | fn d => obtain ⟨z, _⟩ := s; rw [z] at h; cases h
  | ex c d => obtain ⟨z, _⟩ := s; rw [z] at h; cases h
  | two c d => exact s.elim
  | prt c d => exact s.elim
/-- the places of what one slot alone holds are told by its value -/
theorem LedAt.same {L L' : List Addr} {H' : Hp} {F' : Reg} {v : V} {ts ss ts' ss' : List PyData} (k : Kept F H H') (h : LedAt T H F L v ts ss) (h' : LedAt T H' F' L' v ts' ss') : L' = L := by
  obtain ⟨a, dx, t, s, rfl, rfl, _, e1, _⟩ := h
  obtain ⟨a', dx', t', s', z, rfl, _, e1', _⟩ := h'
  cases z
  have e2 := k _ _ e1 (.inr trivial)
  rw [e2] at e1'
  unfold ledF at e1'
  cases e1'
  rfl
theorem DskAt.same {L L' : List Addr} {H' : Hp} {F' : Reg} {v : V} {ts ss ts' ss' : List PyData} (k : Kept F H H') (h : DskAt T H F L v ts ss) (h' : DskAt T H' F' L' v ts' ss') : L' = L := by
  obtain ⟨b, dx, a, h1, h2, h3⟩ := h
  obtain ⟨b', dx', a', g1, g2, g3⟩ := h'
  rw [h1] at g1
  cases g1
  have e2 := k _ _ h2 (.inr trivial)
  rw [e2] at g2
  cases g2
  exact h3.same k g3
theorem no_both {L L' : List Addr} {H' : Hp} {F' : Reg} {v : V} {ts ss ts' ss' : List PyData} (k : Kept F H H') (h : LedAt T H F L v ts ss) (h' : DskAt T H' F' L' v ts' ss') : False := by
  obtain ⟨a, dx, t, s, rfl, _, _, e1, _⟩ := h
  obtain ⟨b', dx', a', g1, g2, g3⟩ := h'
  cases g1
  have e2 := k _ _ e1 (.inr trivial)
  rw [e2] at g2
  have z := congrArg List.length (HO.ins.inj (Option.some.inj g2)).2.2
  simp [ledF] at z
theorem no_both' {L L' : List Addr} {H' : Hp} {F' : Reg} {v : V} {ts ss ts' ss' : List PyData} (k : Kept F H H') (h : DskAt T H F L v ts ss) (h' : LedAt T H' F' L' v ts' ss') : False := by
  obtain ⟨b', dx', a', g1, g2, g3⟩ := h
  obtain ⟨a, dx, t, s, e0, _, _, e1, _⟩ := h'
  rw [g1] at e0
  cases e0
  have e2 := k _ _ g2 (.inr trivial)
  rw [e2] at e1
  have z := congrArg List.length (HO.ins.inj (Option.some.inj e1)).2.2
  simp [ledF] at z
theorem OneAt.same {b b' : Bool} {L L' : List Addr} {H' : Hp} {F' : Reg} {v : V} {ts ss ts' ss' : List PyData} (k : Kept F H H') (h : OneAt T H F b L v ts ss) (h' : OneAt T H' F' b' L' v ts' ss') : L' = L := by
  unfold OneAt at h h'
  split at h <;> split at h'
  · exact h.same k h'
  · exact (no_both k h h').elim
  · exact (no_both' k h h').elim
  · exact DskAt.same k h h'
theorem ManyAt.same {b b' : Bool} {H' : Hp} {F' : Reg} (k : Kept F H H') : ∀ {Ls Ls' : List (List Addr)} {vs : List V} {xs xs' : List (Option (List PyData × List PyData))}, ManyAt T H F b Ls vs xs → xs.all Option.isSome = true → ManyAt T H' F' b' Ls' vs xs' → ∀ a, a ∈ Ls'.flatten → a ∈ Ls.flatten
  | _, _, _, _, _, .nil, _, .nil, a, ha => ha
  | _, _, _, _, _, .hole q, h, _, a, ha => by simp at h
  | _, _, _, _, _, .cons q r, h, .hole r', a, ha => by
    rw [List.flatten_cons, List.mem_append]
    exact .inr (ManyAt.same k r (by simpa using h) r' a (by simpa using ha))
  | _, _, _, _, _, .cons q r, h, .cons q' r', a, ha => by
    rw [List.flatten_cons, List.mem_append] at ha ⊢
    rcases ha with ha | ha
    · rw [q.same k q'] at ha; exact .inl ha
    · exact .inr (ManyAt.same k r (by simpa using h) r' a ha)
/-- what stands at an object's place -/
theorem obj_ho {L : List Addr} {v : V} : ∀ {o : OD}, ObjAt T H F L v o → ∃ p u, v = .ref p ∧ H p = some u ∧ ((∃ C dx fs, u = .ins C dx fs) ∨ (∃ xs, u = .tup xs) ∨ F p)
  | .led _ _, ⟨a, dx, t, s, h1, _, _, h2, _⟩ => ⟨a, _, h1, h2, .inl ⟨_, _, _, rfl⟩⟩
  | .dsk _ _, ⟨b, dx, a, h1, h2, _⟩ => ⟨b, _, h1, h2, .inl ⟨_, _, _, rfl⟩⟩
  | .pr _ _ _, ⟨p, a, l, L0, h1, h2, _⟩ => ⟨p, _, h1, h2, .inr (.inl ⟨_, rfl⟩)⟩
  | .many _ _, ⟨p, vs, Ls, h1, h2, h3, _⟩ => ⟨p, _, h1, h3, .inr (.inr h2)⟩
  | .exs _, ⟨p, vs, h1, h2, h3, _⟩ => ⟨p, _, h1, h3, .inr (.inr h2)⟩
theorem ExsAt.no {H' : Hp} {F' : Reg} (k : Kept F H H') {vs : List V} {cs : List (Nat × List PyData)} (h : ExsAt T H F vs cs) : ∀ {b : Bool} {Ls : List (List Addr)} {xs : List (Option (List PyData × List PyData))}, ManyAt T H' F' b Ls vs xs → ∀ a, a ∉ Ls.flatten := by
  induction h with
  | nil =>
    intro b Ls xs m a ha
    cases m
    cases ha
  | cons q _ ih =>
    intro b Ls xs m a ha
    cases m with
    | hole m' => exact ih m' a (by simpa using ha)
    | cons o m' =>
      obtain ⟨e, d, rfl, h2, h3, _⟩ := q
      have h3' := k _ _ h3 (.inl ⟨h2, trivial⟩)
      unfold OneAt at o
      unfold L2.exo at h3'
      split at o
      · obtain ⟨y, dx, t, s, h5, _, _, h6, _⟩ := o
        cases h5
        rw [h3'] at h6
        cases h6
      · obtain ⟨y, dx, x, h5, h6, _⟩ := o
        cases h5
        rw [h3'] at h6
        cases h6
theorem obj_same {L L' : List Addr} {H' : Hp} {F' : Reg} {v : V} (k : Kept F H H') : ∀ {o o' : OD}, okO o = true → ObjAt T H F L v o → ObjAt T H' F' L' v o' → ∀ a, a ∈ L' → a ∈ L
  | .led _ _, .led _ _, _, h, h', a, ha => by rw [LedAt.same k h h'] at ha; exact ha
  | .dsk _ _, .dsk _ _, _, h, h', a, ha => by rw [DskAt.same k h h'] at ha; exact ha
  | .led _ _, .dsk _ _, _, h, h', _, _ => (no_both k h h').elim
  | .dsk _ _, .led _ _, _, h, h', _, _ => (no_both' k h h').elim
  | .many _ _, .many _ _, ok, ⟨p, vs, Ls, h1, h2, h3, h4, _, h5⟩, ⟨p', vs', Ls', g1, g2, g3, g4, _, g5⟩, a, ha => by
    rw [h1] at g1
    cases g1
    have e2 := k _ _ h3 (.inl ⟨h2, trivial⟩)
    rw [e2] at g3
    cases g3
    rw [g4] at ha
    rw [h4]
    exact ManyAt.same k h5 ok g5 a ha
  | .led _ _, .pr _ _ _, _, ⟨a, dx, t, s, h1, _, _, h2, _⟩, ⟨p', a', l', L0', g1, g2, _⟩, _, _ => by
    rw [h1] at g1
    cases g1
    rw [k _ _ h2 (.inr trivial)] at g2; cases g2
  | .dsk _ _, .pr _ _ _, _, ⟨b, dx, a, h1, h2, _⟩, ⟨p', a', l', L0', g1, g2, _⟩, _, _ => by
    rw [h1] at g1
    cases g1
    rw [k _ _ h2 (.inr trivial)] at g2; cases g2
  | .many _ _, .pr _ _ _, _, ⟨p, vs, Ls, h1, h2, h3, _⟩, ⟨p', a', l', L0', g1, g2, _⟩, _, _ => by
    rw [h1] at g1
    cases g1
    rw [k _ _ h3 (.inl ⟨h2, trivial⟩)] at g2; cases g2
  | .led _ _, .many _ _, _, ⟨a, dx, t, s, h1, _, _, h2, _⟩, ⟨p', vs', Ls', g1, _, g2, _⟩, _, _ => by
    rw [h1] at g1
    cases g1
    rw [k _ _ h2 (.inr trivial)] at g2; cases g2
  | .dsk _ _, .many _ _, _, ⟨b, dx, a, h1, h2, _⟩, ⟨p', vs', Ls', g1, _, g2, _⟩, _, _ => by
    rw [h1] at g1
    cases g1
    rw [k _ _ h2 (.inr trivial)] at g2; cases g2
  | .many _ _, .led _ _, _, ⟨p, vs, Ls, h1, h2, h3, _⟩, ⟨a, dx, t, s, g1, _, _, g2, _⟩, _, _ => by
    rw [h1] at g1
    cases g1
    rw [k _ _ h3 (.inl ⟨h2, trivial⟩)] at g2; cases g2
  | .many _ _, .dsk _ _, _, ⟨p, vs, Ls, h1, h2, h3, _⟩, ⟨b, dx, a, g1, g2, _⟩, _, _ => by
    rw [h1] at g1
    cases g1
    rw [k _ _ h3 (.inl ⟨h2, trivial⟩)] at g2; cases g2
  | _, .exs _, _, _, ⟨_, _, _, _, _, e, _⟩, _, ha => by rw [e] at ha; cases ha
  | .exs _, .many _ _, _, ⟨p, vs, h1, h2, h3, _, h5⟩, ⟨p', vs', Ls', g1, g2, g3, g4, _, g5⟩, a, ha => by
    rw [h1] at g1
    cases g1
    have e2 := k _ _ h3 (.inl ⟨h2, trivial⟩)
    rw [e2] at g3
    cases g3
    rw [g4] at ha
    exact absurd ha (h5.no k g5 a)
  | .exs _, .led _ _, _, ⟨p, vs, h1, h2, h3, _⟩, ⟨a, dx, t, s, g1, _, _, g2, _⟩, _, _ => by
    rw [h1] at g1
    cases g1
    rw [k _ _ h3 (.inl ⟨h2, trivial⟩)] at g2; cases g2
  | .exs _, .dsk _ _, _, ⟨p, vs, h1, h2, h3, _⟩, ⟨b, dx, a, g1, g2, _⟩, _, _ => by
    rw [h1] at g1
    cases g1
    rw [k _ _ h3 (.inl ⟨h2, trivial⟩)] at g2; cases g2
  | .exs _, .pr _ _ _, _, ⟨p, vs, h1, h2, h3, _⟩, ⟨p', a', l', L0', g1, g2, _⟩, _, _ => by
    rw [h1] at g1
    cases g1
    rw [k _ _ h3 (.inl ⟨h2, trivial⟩)] at g2; cases g2
theorem slot_same {L L' : List Addr} {H' : Hp} {F' : Reg} {v : V} (k : Kept F H H') (nf : ∀ b, b ∈ L' → ¬ F b) : ∀ {r r' : R}, isOwn (some r) = true → (∀ o, r = .obj o → okO o = true) → mend (some r) (some r') = some r' → SlotR T H F L v r → SlotR T H' F' L' v r' → ∀ a, a ∈ L' → a ∈ L
  | .own _, .own _, _, _, _, ⟨b, z, w, _⟩, ⟨c, y, u, _⟩, _, ha => by rw [y] at ha; rw [z]; rw [w] at u; cases u; exact ha
  | .own _, .st _, _, _, _, ⟨b, z, w, _⟩, ⟨c, y, u, _⟩, _, ha => by rw [y] at ha; rw [z]; rw [w] at u; cases u; exact ha
  | .st _, .own _, _, _, _, ⟨b, z, w, _⟩, ⟨c, y, u, _⟩, _, ha => by rw [y] at ha; rw [z]; rw [w] at u; cases u; exact ha
  | .st _, .st _, _, _, _, ⟨b, z, w, _⟩, ⟨c, y, u, _⟩, _, ha => by rw [y] at ha; rw [z]; rw [w] at u; cases u; exact ha
  | .obj o, .obj o', _, ok, _, h, h', a, ha => obj_same k (ok o rfl) h h' a ha
  | .obj o, .own d, _, _, _, h, ⟨c, y, u, q⟩, _, ha => by
    exfalso
    obtain ⟨p, w, h1, h2, h3⟩ := obj_ho h
    rw [h1] at u
    cases u
    obtain ⟨o', ho, n⟩ := q.there
    rcases h3 with ⟨C, dx, fs, rfl⟩ | ⟨xs, rfl⟩ | h3
    · rw [k _ _ h2 (.inr trivial)] at ho; cases ho; exact n trivial
    · rw [k _ _ h2 (.inr trivial)] at ho; cases ho; exact n trivial
    · exact nf _ (by rw [y]; exact List.mem_singleton.mpr rfl) h3
  | .obj o, .st d, _, _, _, h, ⟨c, y, u, q⟩, _, ha => by
    exfalso
    obtain ⟨p, w, h1, h2, h3⟩ := obj_ho h
    rw [h1] at u
    cases u
    obtain ⟨o', ho, n⟩ := q.there
    rcases h3 with ⟨C, dx, fs, rfl⟩ | ⟨xs, rfl⟩ | h3
    · rw [k _ _ h2 (.inr trivial)] at ho; cases ho; exact n trivial
    · rw [k _ _ h2 (.inr trivial)] at ho; cases ho; exact n trivial
    · exact nf _ (by rw [y]; exact List.mem_singleton.mpr rfl) h3
  | _, .dat _, _, _, _, _, ⟨z, _⟩, a, ha => by rw [z] at ha; cases ha
  | _, .fn _, _, _, _, _, ⟨z, _⟩, a, ha => by rw [z] at ha; cases ha
  | _, .ex _ _, _, _, _, _, ⟨z, _⟩, a, ha => by rw [z] at ha; cases ha
/-- behind the call -/
theorem env_back (E : EnvR T H F O σ ρ) {vs : List V} {rs : List R} {args : List R} (hd : dist rs = true) (r : ResRs T B H F O σ vs rs) (tm : TmpOk T B H F O L vs rs) (p : passA ρ rs = some args) {H' : Hp} {F' : Reg} {O' : Ows} {os : Rho} (yB : Ext false B FB OB H F O) (x : Ext true H F (Oa L O rs) H' F' O') (E' : EnvR T H' F' O' (vs.map some) os) :
    ∃ O2, Ext false B FB OB H' F' O2 ∧ EnvR T H' F' O2 σ (backA ρ rs os) ∧ ∀ i a, a ∈ O2 i → a ∈ O i := by
  have Ea := env_args E hd r tm p
  have thr : ∀ (k : Nat) (o : OD), rs[k]? = some (R.obj o) → ∃ v, vs[k]? = some v := fun k o h => let ⟨v, hv, _⟩ := resRs_get r h; ⟨v, hv⟩
  have tmB : ∀ (k : Nat) (o : OD) (a : Addr), rs[k]? = some (R.obj o) → a ∈ L k → B a = none ∧ ∀ i, a ∉ O i := fun k o a h h2 => by
    obtain ⟨v, hv⟩ := thr k o h
    have := (tm k v o hv h).1 a h2
    exact ⟨this.1, this.2.2⟩
  -- an owner behind the call is the same as ahead of it
  have kp : Kept F H H' := Ea.kept x
  have same : ∀ k j a, rs[k]? = some (.slt j) → a ∈ O' k → ∀ y, ρ[j]? = some y → isOwn y = true → (mend y os[k]?.join).isSome = true → a ∈ O j := fun k j a h1 h2 y hy ho hm => by
    obtain ⟨q, e3⟩ := E'.own k a h2
    obtain ⟨v, e4, s⟩ := E'.at_ k q e3
    obtain ⟨u, e5, e6⟩ := resRs_get r h1
    have e6' : σ[j]? = some (some u) := e6
    rw [List.getElem?_map, e5] at e4
    cases e4
    cases y with
    | none => cases ho
    | some p =>
      obtain ⟨w, g1, g2⟩ := E.at_ j p hy
      rw [e6'] at g1
      cases g1
      refine slot_same kp (fun b hb z => E'.nf k b hb (x.grow b z)) ho (fun o e => ?_) ?_ g2 s a h2
      · subst e
        obtain ⟨ar, har⟩ := passA_there p h1
        obtain ⟨r1, q1, q2⟩ := passA_get p har
        rw [h1] at q1
        cases q1
        have q3 : (match ρ[j]? with
          | some (some (.own d)) => some (R.own d)
          | some (some (.dat d)) => some (.dat d)
          | some (some (.st xs)) => some (.st xs)
          | some (some (.obj o)) => if okO o = true then some (.obj o) else none
          | _ => none) = some ar := q2
        rw [hy] at q3
        dsimp only at q3
        split at q3
        · assumption
        · cases q3
      · rw [e3] at hm
        cases q with
        | obj o =>
          cases p with
          | obj o' => rfl
          | _ => cases hm
        | _ => rfl
  let O2 : Ows := fun j => match ρ[j]? with
    | some y => if isOwn y = true then match posOf j rs with
        | some k => if (mend y os[k]?.join).isSome = true then O' k else []
        | none => O j
      else []
    | none => []
  have cases2 : ∀ j a, a ∈ O2 j → (∃ y, ρ[j]? = some y ∧ isOwn y = true ∧ ((∃ k, posOf j rs = some k ∧ (mend y os[k]?.join).isSome = true ∧ a ∈ O' k) ∨ (posOf j rs = none ∧ a ∈ O j))) := fun j a h => by
    have h' : a ∈ (match ρ[j]? with
      | some y => if isOwn y = true then match posOf j rs with
          | some k => if (mend y os[k]?.join).isSome = true then O' k else []
          | none => O j
        else []
      | none => []) := h
    cases q : ρ[j]? with
    | none => rw [q] at h'; cases h'
    | some y =>
      rw [q] at h'
      dsimp only at h'
      split at h'
      · rename_i ho
        refine ⟨y, rfl, ho, ?_⟩
        cases q2 : posOf j rs with
        | none => rw [q2] at h'; exact .inr ⟨rfl, h'⟩
        | some k =>
          rw [q2] at h'
          dsimp only at h'
          split at h'
          · rename_i hm; exact .inl ⟨k, rfl, hm, h'⟩
          · cases h'
      · cases h'
  have sub : ∀ j a, a ∈ O2 j → a ∈ O j := fun j a h => by
    obtain ⟨y, hy, ho, ⟨k, h1, hm, h2⟩ | ⟨_, h2⟩⟩ := cases2 j a h
    · exact same k j a (posOf_some h1) h2 y hy ho hm
    · exact h2
  have keepO : ∀ j a o, posOf j rs = none → a ∈ O j → H a = some o → H' a = some o := fun j a o h1 h2 h3 => x.keep a o h3 (fun k e => by
    rcases Oa_some e with ⟨i, e1, e2⟩ | ⟨o', e1, e2⟩
    · have := E.inj i j a e2 h2
      subst this
      exact posOf_none h1 e1
    · exact (tmB k o' a e1 e2).2 j h2) (E.nc h2 h3).1
  refine ⟨O2, ⟨fun b o h n z => x.keep b o (yB.keep b o h n z) (fun k e => ?_) z, fun b h => yB.live b (x.live b h), fun b h => x.grow b (yB.grow b h), fun b h => ?_, fun j b h => yB.own j b (sub j b h)⟩, ⟨?_, fun j q e => ?_, fun j a h => ?_, fun i j a e1 e2 => E.inj i j a (sub i a e1) (sub j a e2), fun j a h => ?_, E'.lv, E'.tb⟩, sub⟩
  · rcases Oa_some e with ⟨i, _, e2⟩ | ⟨o', e1, e2⟩
    · exact (yB.own i b e2).elim (n i) fun z => absurd z.1 Bool.false_ne_true
    · rw [(tmB k o' b e1 e2).1] at h; cases h
  · rcases x.new b h with z | ⟨k, z⟩ | z
    · exact yB.new b z
    · rcases Oa_some z with ⟨i, _, e2⟩ | ⟨o', e1, e2⟩
      · exact (yB.ow e2).elim (fun q => .inr (.inl q)) fun q => .inr (.inr q)
      · exact .inr (.inr (tmB k o' b e1 e2).1)
    · exact .inr (.inr (yB.live b z))
  · unfold backA
    rw [List.length_mapIdx]
    exact E.len
  · unfold backA at e
    rw [List.getElem?_mapIdx] at e
    cases qj : ρ[j]? with
    | none => rw [qj] at e; cases e
    | some y =>
      rw [qj] at e
      have e' : (if isOwn y = true then match posOf j rs with
          | some k => mend y os[k]?.join
          | none => y
        else y) = some q := Option.some.inj e
      have O2j : O2 j = if isOwn y = true then match posOf j rs with
          | some k => if (mend y os[k]?.join).isSome = true then O' k else []
          | none => O j
        else [] := by show (match ρ[j]? with
          | some y => if isOwn y = true then match posOf j rs with
              | some k => if (mend y os[k]?.join).isSome = true then O' k else []
              | none => O j
            else []
          | none => []) = _
                      rw [qj]
      rw [O2j]
      by_cases ho : isOwn y = true
      · rw [if_pos ho] at e' ⊢
        cases qp : posOf j rs with
        | none =>
          rw [qp] at e'
          dsimp only at e' ⊢
          subst e'
          obtain ⟨v, h1, s⟩ := E.at_ j q qj
          exact ⟨v, h1, s.mono kp x.grow fun a o ha hh => keepO j a o qp ha hh⟩
        | some k =>
          rw [qp] at e'
          dsimp only at e' ⊢
          rw [e', if_pos (show (some q).isSome = true from rfl)]
          have e2 : os[k]? = some (some q) := by
            cases z : os[k]? with
            | none => rw [z] at e'; cases e'
            | some w =>
              rw [z] at e'
              cases w with
              | none => cases e'
              | some w =>
                cases w with
                | obj o =>
                  cases y with
                  | none => cases e'
                  | some y =>
                    cases y with
                    | obj o' => cases e'; rfl
                    | _ => cases e'
                | _ => cases e'; rfl
          obtain ⟨v, h1, s⟩ := E'.at_ k q e2
          obtain ⟨u, e5, e6⟩ := resRs_get r (posOf_some qp)
          rw [List.getElem?_map, e5] at h1
          obtain rfl : u = v := by simpa using h1
          exact ⟨u, e6, s⟩
      · rw [if_neg ho] at e' ⊢
        subst e'
        obtain ⟨v, h1, s⟩ := E.at_ j q qj
        have hn : O j = [] := by
          cases z : O j with
          | nil => rfl
          | cons a l =>
            obtain ⟨y, hy, ho'⟩ := own_is E (j := j) (a := a) (by rw [z]; exact List.mem_cons_self)
            rw [qj] at hy
            cases hy
            exact absurd ho' ho
        rw [hn] at s
        exact ⟨v, h1, s.mono kp x.grow fun a o ha _ => by cases ha⟩
  · obtain ⟨y, hy, ho, z⟩ := cases2 j a h
    unfold backA
    rw [List.getElem?_mapIdx, hy]
    show ∃ q, some (if isOwn y = true then match posOf j rs with
          | some k => mend y os[k]?.join
          | none => y
        else y) = some (some q)
    rw [if_pos ho]
    rcases z with ⟨k, h1, hm, h2⟩ | ⟨h1, h2⟩
    · rw [h1]
      dsimp only
      cases z : mend y os[k]?.join with
      | none => rw [z] at hm; cases hm
      | some w => exact ⟨w, rfl⟩
    · rw [h1]
      obtain ⟨q, e⟩ := E.own j a h2
      rw [hy] at e
      cases e
      exact ⟨q, rfl⟩
  · obtain ⟨y, hy, ho, ⟨k, h1, hm, h2⟩ | ⟨h1, h2⟩⟩ := cases2 j a h
    · exact E'.nf k a h2
    · intro z
      rcases x.new a z with z | ⟨k, z⟩ | z
      · exact E.nf j a h2 z
      · rcases Oa_some z with ⟨i, e1, e2⟩ | ⟨o', e1, e2⟩
        · have := E.inj i j a e2 h2
          subst this
          exact posOf_none h1 e1
        · exact (tmB k o' a e1 e2).2 j h2
      · obtain ⟨o, ho, _⟩ := E.there h2
        rw [ho] at z; cases z
/-- a callee's result is ours -/
theorem res_back (E : EnvR T H F O σ ρ) {H' : Hp} {F' : Reg} {O' O2 : Ows} {v : V} (sb : ∀ i a, a ∈ O2 i → a ∈ O i) : ∀ {r : R}, ResR T H H' F' O' [] v r → ResR T H H' F' O2 σ v r
  | .dat _, h => h
  | .own _, ⟨a, h1, h2, h3, _, h5⟩ => ⟨a, h1, h2, h3, fun i e => E.ne_new h2 i (sb i a e), h5⟩
  | .slt i, h => by
    have h' : ([] : L2.St)[i]? = some (some v) := h
    simp at h'
  | .fn _, h => h
  | .st _, ⟨a, h1, h2, h3, _, h5⟩ => ⟨a, h1, h2, h3, fun i e => E.ne_new h2 i (sb i a e), h5⟩
  | .ex _ _, h => h
  | .two _ _, ⟨p, a, b, h1, h2, h3, ⟨a1, a2, _, a4⟩, b1, b2, _, b4⟩ => ⟨p, a, b, h1, h2, h3, ⟨a1, a2, fun i e => E.ne_new a1 i (sb i a e), a4⟩, b1, b2, fun i e => E.ne_new b1 i (sb i b e), b4⟩
  | .obj _, ⟨L, h1, h2⟩ => ⟨L, fun b hb => ⟨(h1 b hb).1, (h1 b hb).2.1, fun i e => E.ne_new (h1 b hb).1 i (sb i b e)⟩, h2⟩
  | .prt _ _, ⟨_, _, _, _, h, _⟩ => by simp at h
end
/-- a def of the text: its name, its place, its promise -/
structure FnE (P : Program) (w : World) (mg : Str → Option Value) (base : Heap) (T : Tb) (x : Str) (k n : Nat) (sem : Sem) : Prop where
  ex : ∃ f fd ps, mg x = some (.ref f) ∧ PySem.W.keepIn T.K (.ref f) = true ∧ Binds T.K fd ps [] ∧ ps.length = n ∧ FnG P w T.K mg base k f fd ps (spOf T n sem)
section
variable {X : Cx} {T : Tb} {W : WX} {x : Str} {k n m : Nat} {sem : Sem} {e : Expr} {es : List Expr} {fa : AM} {p pos : Pos}
theorem call_of {σ : L2.St} {H : Hp} {Q : VK} (h : Tof T W (tlE T) (callM sem fa) σ H Q) (hl : ∀ vs rs H0 H1 F1 O1, ResRs T H0 H1 F1 O1 σ vs rs → ∀ args ρ, passA ρ rs = some args → ∀ o, sem args = some o → vs.length = n) :
    Tof T W (tlA T) fa σ H fun vs H1 => spOf T n sem vs H1 Q fun cls d H' => W cls d σ H' := by
  obtain ⟨ρ, F, O, E, P⟩ := h
  refine stp .refl E P fun vs H1 rs ρ1 F1 O1 x1 y1 E1 r1 P1 => ?_
  split at P1
  · rename_i hd
    cases q : passA ρ1 rs with
    | none => rw [q] at P1; exact P1.elim
    | some args =>
      rw [q] at P1
      dsimp only at P1
      cases q2 : sem args with
      | none => rw [q2] at P1; exact P1.elim
      | some o =>
        rw [q2] at P1
        obtain ⟨L, tm⟩ := tmps r1
        refine ⟨args, F1, Oa L O1 rs, hl vs rs _ _ _ _ r1 args ρ1 q o q2, env_args E1 hd r1 tm q, ?_⟩
        rw [q2]
        cases o with
        | ok r os =>
          intro v H2 F2 O2 x2 E2 r2
          obtain ⟨O3, x3, E3, sb⟩ := env_back E1 hd r1 tm q y1 x2 E2
          exact P1 v H2 F2 O3 x3 E3 ((res_back E1 sb r2).back x1.live)
        | er c fs os =>
          intro cls d H2 F2 O2 x2 E2 r2
          obtain ⟨O3, x3, E3, sb⟩ := env_back E1 hd r1 tm q y1 x2 E2
          exact P1 cls d H2 F2 O3 x3 E3 r2
  · exact P1.elim
/-- f(e, ..) -/
theorem se_call (h : FnE X.prog X.w X.mg X.base T x k n sem) (c : Cxt X T W m) (hk : k ≤ m) (hg : L2.Gl X x) (ha : SA X T W (e :: es) fa) (hl : ∀ args o, sem args = some o → args.length = n) (hdb : (x == ("__debug__" : Str)) = false := by decide)
    (he : starEach (e :: es) X.env = (false, eval e X.env) :: starEach es X.env := by rfl) (hpl : (backTo pos (starEach es X.env)).any (·.1) = false := by rfl) : SE X T W (.Call (.Name x p) (e :: es) [] pos) (callM sem fa) := by
  obtain ⟨f, fd, ps, hm, hkp, hb, hn, G⟩ := h.ex
  rw [← c.hK] at hkp hb G
  refine ⟨fun pins s σ H Q I h => ?_⟩
  have h2 := call_of (n := n) h fun vs rs H0 H1 F1 O1 rr args ρ pa o so => by rw [resRs_len rr, ← passA_len pa]; exact hl args o so
  have fin : ∀ us s1, AP X pins σ (fun vs H1 => spOf T n sem vs H1 Q fun cls d H' => W cls d σ H') us s1 → X.K.In s1.heap ∧ wpAny (model X.prog X.w) X.A (call (.ref f) us) (EP X pins σ Q) X.xe s1 := by
    rintro us s1 ⟨vs, H1, I1, r, q⟩
    refine ⟨I1.kIn, ?_⟩
    have lus : us.length = ps.length := by rw [← r.length]; exact G.len _ _ _ _ q
    have bb := hb s1 us I1.kIn (by rw [List.append_nil]; exact lus)
    rw [List.append_nil] at bb
    refine wpAny_call (codeAny_mono (G.run X.A X.stack s1 H1 ⟨us, []⟩ us vs Q _ c.gd (c.room.mono hk) I1.env0 bb r q) ?_)
    intro r' s' hq
    cases r' with
    | error e => exact c.tk e s' (XE.of_call I1 (fun _ _ _ z => z) hq)
    | ok fl =>
      cases fl with
      | ret u => exact I1.after hq
      | next => exact hq.elim
      | brk => exact hq.elim
      | cont => exact hq.elim
  exact wpAny_Call_Name_kw (ld_glob I hg hm (PySem.W.callWith_K (h₀ := X.base) I.ok.mod.kin hkp (thn (ha.run pos pins s σ H _ I h2) fin) he hpl) hdb)
end
theorem runD_len {n N : Nat} {pr : Nat → Bool} {m : SM} : ∀ args o, runD n N pr m args = some o → args.length = n := fun args o h => by
  unfold runD at h
  split at h
  · assumption
  · cases h
end DL
namespace DL
open PySem L2 PyProof.Rows
section
variable {T : Tb} {H : Hp} {F : Reg} {O : Ows} {σ : L2.St} {ρ : Rho}
/-- what a slot alone holds changes -/
theorem EnvR.mut {i : Nat} {a : Addr} {d d' : PyData} {o : HO} {s : Bool} (E : EnvR T H F O σ ρ) (h : ρ[i]? = some (some (.own d))) (hO : O i = [a]) (new : Kept F H (upd H a o) → OwnAt T.K (upd H a o) F a d') :
    EnvR T (upd H a o) F O σ (ρ.set i (some (.own d'))) ∧ Ext s H F O (upd H a o) F O ∧ Kept F H (upd H a o) := by
  have ho : a ∈ O i := by rw [hO]; exact List.mem_singleton.mpr rfl
  have x : Ext s H F O (upd H a o) F O := ⟨fun b u hb n _ => by rw [upd_ne (show b ≠ a from fun z => n i (by rw [z]; exact ho))]; exact hb, fun b hb => by
    by_cases e : b = a
    · subst e; rw [upd_same] at hb; cases hb
    · rw [upd_ne e] at hb; exact hb, fun _ h => h, fun _ h => .inl h, fun _ _ h => .inl h⟩
  have k := E.kept x
  have hl : i < ρ.length := lt_of_at h
  refine ⟨⟨by rw [List.length_set]; exact E.len, fun j r e => ?_, fun j b e => ?_, E.inj, E.nf, fun b hb z => ?_, by
    obtain ⟨u, hu, _⟩ := E.there ho
    exact tabs_put E.tb hu (E.nc ho hu)⟩, x, k⟩
  · by_cases hj : j = i
    · subst hj
      rw [List.getElem?_set_self hl] at e
      cases e
      obtain ⟨v, h1, b, h2, h3, _⟩ := E.at_ j _ h
      rw [hO] at h2
      cases h2
      exact ⟨v, h1, a, hO, h3, new k⟩
    · rw [List.getElem?_set_ne (Ne.symm hj)] at e
      obtain ⟨v, h1, h2⟩ := E.at_ j r e
      exact ⟨v, h1, h2.mono k (fun _ h => h) fun b u hb hu => by
        have n : b ≠ a := fun z => hj (E.inj j i a (z ▸ hb) ho)
        rw [upd_ne n]; exact hu⟩
  · by_cases hj : j = i
    · subst hj
      exact ⟨_, by rw [List.getElem?_set_self hl]⟩
    · rw [List.getElem?_set_ne (Ne.symm hj)]
      exact E.own j b e
  · by_cases e : b = a
    · subst e; exact E.nf i b ho hb
    · rw [upd_ne e] at z; exact E.lv b hb z
theorem own_lst (E : EnvR T H F O σ ρ) {i : Nat} {ds : List PyData} (h : ρ[i]? = some (some (.own (.list ds)))) : ∃ a vs, σ[i]? = some (some (.ref a)) ∧ O i = [a] ∧ H a = some (.lst vs) ∧ DFs T.K H F vs ds := by
  obtain ⟨v, h1, a, h2, rfl, vs, h3, h4⟩ := E.at_ i _ h
  exact ⟨a, vs, h1, h2, h3, h4⟩
end
def isList : Option (Option R) → Bool
  | some (some (.own (.list _))) => true
  | _ => false
theorem isList_ex {x : Option (Option R)} (h : isList x = true) : ∃ ds, x = some (some (.own (.list ds))) := by
  unfold isList at h
  split at h
  · exact ⟨_, rfl⟩
  · cases h
/-- x.append(e) -/
def appM (i : Nat) (fe : EM) : SM := fun ρ => if isList ρ[i]? = true then bindS (fe ρ) fun r ρ1 => match frz ρ1 r with
    | some (d, ρ2) => match ρ2[i]? with
      | some (some (.own (.list ds))) => if ds.length < lim then some (.nx (ρ2.set i (some (.own (.list (ds ++ [d])))))) else none
      | _ => none
    | none => none
  else none
/-- x[i] = e -/
def setM (s : Nat) (fi fe : EM) : SM := fun ρ => bindS (fe ρ) fun r ρ1 => match frz ρ1 r with
  | some (d, ρ2) => if isList ρ2[s]? = true then bindS (fi ρ2) fun ri ρ3 => match ri, ρ3[s]? with
      | .dat (.int k), some (some (.own (.list ds))) => (ixN ds.length k).map fun j => .nx (ρ3.set s (some (.own (.list (ds.set j d)))))
      | _, _ => none
    else none
  | none => none
/-- a result that may be stored in a slot: what another slot holds is shared, so it stays -/
def sv (ρ : Rho) : R → Option (R × Rho)
  | .slt i => (frz ρ (.slt i)).map fun p => (.dat p.1, p.2)
  | .ex _ _ => none
  | .two _ _ => none
  | .prt _ _ => none
  | r => some (r, ρ)
/-- what a slot may hold -/
def Sto : R → Prop
  | .slt _ => False
  | .two _ _ => False
  | .prt _ _ => False
  | _ => True
def parM (i j : Nat) (fa fb : EM) : SM := fun ρ => bindS (fa ρ) fun r ρ1 => match sv ρ1 r with
  | some (r', ρ2) => bindS (fb ρ2) fun s ρ3 => match sv ρ3 s with
    | some (s', ρ4) => some (.nx ((ρ4.set i (some r')).set j (some s')))
    | none => none
  | none => none
def parM3 (i j l : Nat) (fa fb fc : EM) : SM := fun ρ => bindS (fa ρ) fun r ρ1 => match sv ρ1 r with
  | some (r', ρ2) => bindS (fb ρ2) fun s ρ3 => match sv ρ3 s with
    | some (s', ρ4) => bindS (fc ρ4) fun t ρ5 => match sv ρ5 t with
      | some (t', ρ6) => some (.nx (((ρ6.set i (some r')).set j (some s')).set l (some t')))
      | none => none
    | none => none
  | none => none
/-- a, b = e, e a tuple -/
def asgTM (g : GM) (fe : EM) : SM := fun ρ => bindS (fe ρ) fun r ρ1 => match frz ρ1 r with
  | some (d, ρ2) => (g d ρ2).map .nx
  | none => none
section
variable {X : Cx} {T : Tb} {W : WX} {φ : Fm} {e ei : Expr} {fe fi : EM} {pos p apos : Pos} {i : Nat} {x : Str}
theorem ss_set {s : Nat} {tg : Expr} (he : SE X T W e fe) (hpg : PG X tg (gSub (tVar s) (Tof T W (tlE T) fi) rSetL)) (hs : swapsWithSole [tg] e pos.line X.env = pure false := by rfl) (hw : swappedStores [tg] e X.env = pure none := by rfl) (h1 : (assignEach [tg] X.env).map (·.2) = [assign tg X.env] := by rfl) :
    SS X T W φ (.Assign [tg] e pos) (setM s fi fe) := by
  refine ps_imp (ps_asg he hpg hs hw h1) fun D σ H ⟨ρ, F, O, S, P⟩ => ?_
  refine sps .refl .refl S P fun v H1 r ρ1 F1 O1 x1 y1 S1 r1 P1 => ?_
  cases q : frz ρ1 r with
  | none => rw [q] at P1; exact P1.elim
  | some z =>
    obtain ⟨d, ρ2⟩ := z
    rw [q] at P1
    dsimp only at P1
    obtain ⟨F2, O2, y2, E2, d2, _, sb, _⟩ := fz y1 (fun _ h => h) S1.E r1 q
    have S2 : StR T φ H1 F2 O2 σ ρ2 := ⟨E2, S1.lb, fun j b hj q => S1.lf j b hj (sb j b q)⟩
    split at P1
    · rename_i hi
      obtain ⟨ds0, q0⟩ := isList_ex hi
      obtain ⟨a, vs0, h1, h2, h3, h4⟩ := own_lst E2 q0
      refine ⟨.ref a, h1, ?_⟩
      refine sps y2 .refl S2 P1 fun u H3 ri ρ3 F3 O3 x3 y3 S3 r3 P3 => ?_
      split at P3
      · rename_i k ds q3
        obtain ⟨j, e1, e2⟩ : ∃ j, ixN ds.length k = some j ∧ True := by
          cases z : ixN ds.length k with
          | none => rw [z] at P3; exact P3.elim
          | some j => exact ⟨j, rfl, trivial⟩
        rw [e1] at P3
        obtain ⟨b, vs, g1, g2, g3, g4⟩ := own_lst S3.E q3
        rw [h1] at g1
        cases g1
        refine ⟨a, vs, k, j, rfl, int_of r3, g3, by rw [g4.length]; exact e1, ?_⟩
        have d3 : DF T.K H3 F3 v d := d2.mono (E2.kept x3) x3.grow
        obtain ⟨E4, x4, k4⟩ := S3.E.mut (o := .lst (vs.set j v)) (d' := .list (ds.set j d)) (s := true) q3 g2 fun k => ⟨_, upd_same, (g4.set d3 j).mono k fun _ h => h⟩
        exact P3 σ _ F3 O3 (y3.trans x4) ⟨E4, fun b h => S3.lb b (x4.live b h), S3.lf⟩ .refl
      · exact P3.elim
    · exact P1.elim
theorem sv_ok {t : Bool} {B H0 H : Hp} {FB F : Reg} {OB O : Ows} {σ : L2.St} {ρ ρ' : Rho} {v : V} (x : Ext t B FB OB H F O) (l : ∀ b, H0 b = none → B b = none) (E : EnvR T H F O σ ρ) {r r' : R} (h : ResR T H0 H F O σ v r) (e : sv ρ r = some (r', ρ')) :
    ∃ F' O', Ext t B FB OB H F' O' ∧ EnvR T H F' O' σ ρ' ∧ ResR T H0 H F' O' σ v r' ∧ (∀ b, F b → F' b) ∧ Sub O' O ∧ (∀ b, F' b → F b ∨ ∃ i, b ∈ O i) ∧ Sto r' := by
  cases r with
  | dat d => cases e; exact ⟨F, O, x, E, h, fun _ h => h, fun _ _ h => h, fun _ h => .inl h, trivial⟩
  | own d => cases e; exact ⟨F, O, x, E, h, fun _ h => h, fun _ _ h => h, fun _ h => .inl h, trivial⟩
  | fn d => cases e; exact ⟨F, O, x, E, h, fun _ h => h, fun _ _ h => h, fun _ h => .inl h, trivial⟩
  | st d => cases e; exact ⟨F, O, x, E, h, fun _ h => h, fun _ _ h => h, fun _ h => .inl h, trivial⟩
  | ex c d => cases e
  | two c d => cases e
  | prt c d => cases e
  | obj d => cases e; exact ⟨F, O, x, E, h, fun _ h => h, fun _ _ h => h, fun _ h => .inl h, trivial⟩
  | slt i =>
    obtain ⟨⟨d, ρ1⟩, e1, e2⟩ := Option.map_eq_some_iff.mp (show (frz ρ (.slt i)).map (fun p => (R.dat p.1, p.2)) = some (r', ρ') from e)
    cases e2
    -- here what is new in the region is the slot's own
    have h' : σ[i]? = some (some v) := h
    have key : ∀ (d1 : PyData), ρ[i]? = some (some (.dat d1)) ∨ ρ[i]? = some (some (.own d1)) → slotD ρ[i]? = some d1 := fun d1 z => z.elim (fun z => by rw [z]; rfl) fun z => by rw [z]; rfl
    cases q : ρ[i]? with
    | none => exact absurd e1 (by simp [frz, q, slotD])
    | some o =>
      cases o with
      | none => exact absurd e1 (by simp [frz, q, slotD])
      | some r =>
        obtain ⟨u, hu, s⟩ := E.at_ i r q
        rw [h'] at hu
        cases hu
        cases r with
        | dat d1 =>
          have e3 : some (d1, ρ.set i (some (.dat d1))) = some (d, ρ1) := by simpa [frz, q, slotD] using e1
          cases e3
          exact ⟨F, O, x, E.setD q, s.2, fun _ h => h, fun _ _ h => h, fun _ h => .inl h, trivial⟩
        | own d1 =>
          have e3 : some (d1, ρ.set i (some (.dat d1))) = some (d, ρ1) := by simpa [frz, q, slotD] using e1
          cases e3
          obtain ⟨a, z1, z2, z3⟩ := s
          have zm : a ∈ O i := by rw [z1]; exact List.mem_singleton.mpr rfl
          subst z2
          have hd : DF T.K H (fun b => F b ∨ b = a) (.ref a) d := OwnAt.df (F := fun b => F b ∨ b = a) (.inr rfl) (z3.mono (fun _ _ h _ => h) (fun _ h => .inl h) fun _ h => h)
          have sb : Sub (fun j => if j = i then [] else O j) O := fun j b q => by
            have q' : b ∈ (if j = i then [] else O j) := q
            by_cases hj : j = i
            · rw [if_pos hj] at q'; cases q'
            · rw [if_neg hj] at q'; exact q'
          refine ⟨fun b => F b ∨ b = a, fun j => if j = i then [] else O j, ⟨x.keep, x.live, fun b h => .inl (x.grow b h), fun b h => ?_, fun j b e => x.own j b (sb j b e)⟩, vw_fz E z1 h' (fun _ => Iff.rfl) hd, hd, fun _ h => .inl h, sb, fun b h => h.elim .inl fun z => .inr ⟨i, z ▸ zm⟩, trivial⟩
          rcases h with h | rfl
          · exact x.new b h
          · exact .inr (x.ow zm)
        | slt j => exact absurd e1 (by simp [frz, q, slotD])
        | fn k => exact absurd e1 (by simp [frz, q, slotD])
        | st xs => exact absurd e1 (by simp [frz, q, slotD])
        | ex c fs => exact absurd e1 (by simp [frz, q, slotD])
        | two c fs => exact absurd e1 (by simp [frz, q, slotD])
        | prt c fs => exact absurd e1 (by simp [frz, q, slotD])
        | obj c => exact absurd e1 (by simp [frz, q, slotD])
/-- where a result's own things stand -/
def Own1 (T : Tb) (H0 H : Hp) (F : Reg) (O : Ows) (v : V) (r : R) (L : List Addr) : Prop := SlotR T H F L v r ∧ ∀ a, a ∈ L → ¬ F a ∧ (∀ i, a ∉ O i) ∧ H0 a = none ∧ ∃ o, H a = some o
theorem res_slot {H0 H : Hp} {F : Reg} {O : Ows} {σ : L2.St} {v : V} {r : R} (h : ResR T H0 H F O σ v r) (n : Sto r) : ∃ L, Own1 T H0 H F O v r L := by
  cases r with
  | dat d => exact ⟨[], ⟨rfl, h⟩, fun _ q => absurd q List.not_mem_nil⟩
  | fn d => exact ⟨[], ⟨rfl, h⟩, fun _ q => absurd q List.not_mem_nil⟩
  | slt i => exact n.elim
  | two c d => exact n.elim
  | prt c d => exact n.elim
  | ex c d => exact ⟨[], ⟨rfl, h⟩, fun _ q => absurd q List.not_mem_nil⟩
  | own d =>
    obtain ⟨a, rfl, h2, h3, h4, h5⟩ := h
    exact ⟨[a], ⟨a, rfl, rfl, h5⟩, fun b q => by
      cases List.mem_singleton.mp q
      obtain ⟨o, ho, _⟩ := h5.there
      exact ⟨h3, h4, h2, o, ho⟩⟩
  | st d =>
    obtain ⟨a, rfl, h2, h3, h4, h5⟩ := h
    exact ⟨[a], ⟨a, rfl, rfl, h5⟩, fun b q => by
      cases List.mem_singleton.mp q
      obtain ⟨o, ho, _⟩ := h5.there
      exact ⟨h3, h4, h2, o, ho⟩⟩
  | obj d =>
    obtain ⟨L, h1, h2⟩ := h
    refine ⟨L, h2, fun b q => ?_⟩
    obtain ⟨o, ho, _⟩ := h2.there q
    exact ⟨(h1 b q).2.1, (h1 b q).2.2, (h1 b q).1, o, ho⟩
theorem Own1.mono {H0 H H' : Hp} {F F' : Reg} {O O' : Ows} {σ : L2.St} {ρ : Rho} {v : V} {r : R} {L : List Addr} {s : Bool} (E : EnvR T H F O σ ρ) (x : Ext s H F O H' F' O') (w : Own1 T H0 H F O v r L) : Own1 T H0 H' F' O' v r L := by
  obtain ⟨h, w⟩ := w
  refine ⟨h.mono (E.kept x) x.grow fun a o ha ho => x.keep a o ho (w a ha).2.1 (h.nc ha ho).1, fun a ha => ?_⟩
  obtain ⟨w1, w2, w3, o, ho⟩ := w a ha
  refine ⟨fun z => ?_, fun i z => ?_, w3, o, x.keep a o ho w2 (h.nc ha ho).1⟩
  · rcases x.new a z with y | ⟨i, y⟩ | y
    · exact w1 y
    · exact w2 i y
    · rw [ho] at y; cases y
  · rcases x.ow z with ⟨j, y⟩ | y
    · exact w2 j y
    · rw [ho] at y; cases y
theorem Own1.up {H0 H : Hp} {F F' : Reg} {O O' : Ows} {v : V} {r : R} {L : List Addr} (g : ∀ b, F b → F' b) (sb : Sub O' O) (n : ∀ b, F' b → F b ∨ ∃ i, b ∈ O i) (w : Own1 T H0 H F O v r L) : Own1 T H0 H F' O' v r L :=
  ⟨w.1.mono (fun _ _ h _ => h) g (fun _ _ _ h => h), fun a ha => by
    obtain ⟨w1, w2, w3, w4⟩ := w.2 a ha
    exact ⟨fun z => (n a z).elim w1 fun ⟨i, y⟩ => w2 i y, fun i z => w2 i (sb i a z), w3, w4⟩⟩
theorem put_ok {B H : Hp} {FB F : Reg} {OB O : Ows} {σ : L2.St} {ρ : Rho} {v : V} {r : R} {i : Nat} {L : List Addr} (x : Ext true B FB OB H F O) (S : StR T φ H F O σ ρ) (hi : i < σ.length) (s : SlotR T H F L v r) (c : ∀ a, a ∈ L → ¬ F a ∧ (∀ k, a ∉ O k) ∧ B a = none ∧ φ.HB a = none) :
    ∃ O', Ext true B FB OB H F O' ∧ StR T φ H F O' (σ.set i (some v)) (ρ.set i (some r)) ∧ ∀ k a, a ∈ O' k → a ∈ O k ∨ a ∈ L := by
  have cs : ∀ k a, a ∈ (if k = i then L else O k) → a ∈ O k ∨ a ∈ L := fun k a q => by
    by_cases hk : k = i
    · rw [if_pos hk] at q; exact .inr q
    · rw [if_neg hk] at q; exact .inl q
  refine ⟨fun k => if k = i then L else O k, ⟨x.keep, x.live, x.grow, x.new, fun k b q => ?_⟩, ⟨S.E.put hi s (fun a q => (c a q).1) fun a q => (c a q).2.1, S.lb, fun k b hk q => ?_⟩, cs⟩
  · rcases cs k b q with z | z
    · exact x.own k b z
    · exact .inr ⟨rfl, .inr (c b z).2.2.1⟩
  · rcases cs k b q with z | z
    · exact S.lf k b hk z
    · exact (c b z).2.2.2
theorem par_of {i j : Nat} {fa fb : EM} {D : Ends} {σ : L2.St} {H : Hp} (hp : φ.pr i = false) (hq : φ.pr j = false) (hi : i < σ.length) (hj : j < σ.length) (h : TSof T W φ (parM i j fa fb) D σ H) : tPar i j (tCons (Tof T W (tlE T) fa) (tCons (Tof T W (tlE T) fb) tNil)) D σ H := by
  obtain ⟨ρ, F, O, S, P⟩ := h
  refine sps .refl .refl S P fun v H1 r ρ1 F1 O1 x1 y1 S1 r1 P1 => ?_
  cases q1 : sv ρ1 r with
  | none => rw [q1] at P1; exact P1.elim
  | some z =>
    obtain ⟨r', ρ2⟩ := z
    rw [q1] at P1
    dsimp only at P1
    obtain ⟨F2, O2, y2, E2, r2, g2, sb2, _, n2⟩ := sv_ok y1 (fun _ h => h) S1.E r1 q1
    have S2 : StR T φ H1 F2 O2 σ ρ2 := ⟨E2, S1.lb, fun k b hk q => S1.lf k b hk (sb2 k b q)⟩
    refine sps y2 .refl S2 P1 fun u H3 s ρ3 F3 O3 x3 y3 S3 r3 P3 => ?_
    cases q3 : sv ρ3 s with
    | none => rw [q3] at P3; exact P3.elim
    | some z =>
      obtain ⟨s', ρ4⟩ := z
      rw [q3] at P3
      obtain ⟨F4, O4, y4, E4, r4, g4, sb4, nw4, n4⟩ := sv_ok y3 (fun b h => y1.live b h) S3.E r3 q3
      have S4 : StR T φ H3 F4 O4 σ ρ4 := ⟨E4, S3.lb, fun k b hk q => S3.lf k b hk (sb4 k b q)⟩
      obtain ⟨L2, w2⟩ := res_slot r2 n2
      obtain ⟨L4, w4⟩ := res_slot r4 n4
      have c2 := w2.2
      obtain ⟨s5, c5⟩ := Own1.up g4 sb4 nw4 (Own1.mono E2 x3 w2)
      obtain ⟨s6, c6⟩ := w4
      obtain ⟨O5, y5, S5, w5⟩ := put_ok y4 S4 hi s5 fun a e => ⟨(c5 a e).1, (c5 a e).2.1, (c5 a e).2.2.1, S.lb a (c5 a e).2.2.1⟩
      have ne : ∀ a, a ∈ L4 → ∀ k, a ∉ O5 k := fun a e k z => by
        rcases w5 k a z with z | z
        · exact (c6 a e).2.1 k z
        · obtain ⟨o, ho⟩ := (c2 a z).2.2.2
          have := (c6 a e).2.2.1
          rw [ho] at this; cases this
      obtain ⟨O6, y6, S6, _⟩ := put_ok y5 S5 (by rw [List.length_set]; exact hj) s6 fun a e => ⟨(c6 a e).1, ne a e, y1.live a (c6 a e).2.2.1, S1.lb a (c6 a e).2.2.1⟩
      exact ⟨v, u, rfl, P3 _ H3 F4 O6 y6 S6 (.trans (.set hp) (.set hq))⟩
theorem ss_par {st : Stmt} {i j : Nat} {x y : Str} {fa fb : EM} (hp : φ.pr i = false) (hq : φ.pr j = false) (hi : X.N[i]? = some x) (hj : X.N[j]? = some y) (h : PS X st (tPar i j (tCons (Tof T W (tlE T) fa) (tCons (Tof T W (tlE T) fb) tNil)))) : SS X T W φ st (parM i j fa fb) :=
  ps_impL h fun D σ H hl q => par_of hp hq (by rw [hl]; exact lt_of_at hi) (by rw [hl]; exact lt_of_at hj) q
end
end DL
namespace DL
open PySem L2 PyProof.Rows
def lenD : PyData → Option R
  | .list ds => some (.dat (.int ds.length))
  | .tuple ds => some (.dat (.int ds.length))
  | .str x => if x.length ≤ lim then some (.dat (.int x.length)) else none
  | _ => none
def absD : PyData → Option R
  | .int i => some (.dat (.int (if i < 0 then -i else i)))
  | _ => none
def tupD : PyData → Option R
  | .list ds => some (.dat (.tuple ds))
  | .tuple ds => some (.dat (.tuple ds))
  | _ => none
def lstD : PyData → Option R
  | .list ds => some (.own (.list ds))
  | .tuple ds => some (.own (.list ds))
  | _ => none
def intD : PyData → Option R
  | .int i => some (.dat (.int i))
  | .bool b => some (.dat (.int (if b then 1 else 0)))
  | _ => none
def strD : PyData → Option R
  | .int i => if i.natAbs.log2 < 1920 then some (.dat (.str (toString i))) else none
  | _ => none
def max2D : PyData → PyData → Option R
  | .int i, .int j => some (.dat (.int (if j > i then j else i)))
  | _, _ => none
def min2D : PyData → PyData → Option R
  | .int i, .int j => some (.dat (.int (if j < i then j else i)))
  | _, _ => none
def intsOf : List PyData → Option (List Int)
  | [] => some []
  | .int i :: r => (intsOf r).map (i :: ·)
  | _ => none
def boolsOf : List PyData → Option (List Bool)
  | [] => some []
  | .bool i :: r => (boolsOf r).map (i :: ·)
  | _ => none
@[simp] theorem intsOf_map : ∀ ns : List Int, intsOf (ns.map PyData.int) = some ns
  | [] => rfl
  | i :: r => by show (intsOf (r.map PyData.int)).map (i :: ·) = _; rw [intsOf_map r]; rfl
theorem boolsOf_eq : ∀ {ds : List PyData} {ns : List Bool}, boolsOf ds = some ns → ds = ns.map PyData.bool
  | [], _, h => by cases h; rfl
  | .bool i :: r, _, h => by
    obtain ⟨ns, h1, rfl⟩ := Option.map_eq_some_iff.mp (show (boolsOf r).map (i :: ·) = _ from h)
    rw [List.map_cons, ← boolsOf_eq h1]
@[simp] theorem boolsOf_map : ∀ ns : List Bool, boolsOf (ns.map PyData.bool) = some ns
  | [] => rfl
  | i :: r => by show (boolsOf (r.map PyData.bool)).map (i :: ·) = _; rw [boolsOf_map r]; rfl
def sumD (d : PyData) : Option R := (itemsOf d).bind fun ds => (intsOf ds).map fun ns => .dat (.int ns.sum)
def allD : PyData → Option R
  | .list ds => (boolsOf ds).map fun bs => .dat (.bool (bs.all id))
  | _ => none
def anyD : PyData → Option R
  | .list ds => (boolsOf ds).map fun bs => .dat (.bool (bs.any id))
  | _ => none
/-- as functions of a list of arguments -/
def on1 (g : PyData → Option R) : List PyData → Option R
  | [d] => g d
  | _ => none
def on2 (g : PyData → PyData → Option R) : List PyData → Option R
  | [d, e] => g d e
  | _ => none
section
variable {T : Tb}
theorem does1_on {r : List V → Hp → VK → Prop} {g : PyData → Option R} (h : Does1 T (fun x => r [x]) g) : DoesN T r (on1 g) := by
  intro xs ds z H F Q lv hx hg hq
  unfold on1 at hg
  split at hg
  · cases hx with
    | cons a b => cases b; exact h _ _ z H F Q lv a hg hq
  · cases hg
theorem does2_on {r : List V → Hp → VK → Prop} {g : PyData → PyData → Option R} (h : Does2 T (fun x y => r [x, y]) g) : DoesN T r (on2 g) := by
  intro xs ds z H F Q lv hx hg hq
  unfold on2 at hg
  split at hg
  · cases hx with
    | cons a b => cases b with
      | cons a' b' => cases b'; exact h _ _ _ _ z H F Q lv a a' hg hq
  · cases hg
def rLen (K : PySem.W.Frag) : List V → Hp → VK → Prop := fun xs H Q => (∃ p ys, xs = [.ref p] ∧ (SqL K H p ys ∨ SqT K H p ys) ∧ Q (.int ys.length) H) ∨ ∃ z, xs = [.str z] ∧ z.length ≤ sizeLine ∧ Q (.int z.length) H
theorem call_lenX {X : Cx} : CallR X (.builtin "len") (rLen X.K) := call_len_seq.or call_len_str
theorem does_len : DoesN T (rLen T.K) (on1 lenD) := does1_on fun x d z H F Q lv hx hg hq => by
  unfold lenD at hg
  split at hg
  · cases hg
    obtain ⟨a, vs, rfl, h1, s1⟩ := hx.lst
    exact .inl ⟨a, vs, rfl, .inl h1.sq, hq _ H F .refl (by rw [s1.length]; exact .int _)⟩
  · cases hg
    obtain ⟨a, vs, rfl, h1, s1⟩ := hx.tup
    exact .inl ⟨a, vs, rfl, .inr h1, hq _ H F .refl (by rw [s1.length]; exact .int _)⟩
  · split at hg
    · rename_i hz
      cases hg
      exact .inr ⟨_, by rw [hx.str], lm hz, hq _ H F .refl (.int _)⟩
    · cases hg
  · cases hg
theorem does_max2 : DoesN T (fun xs H Q => ∃ i j, xs = [.int i, .int j] ∧ Q (.int (if j > i then j else i)) H) (on2 max2D) := does2_on fun x y d e z H F Q lv hx hy hg hq => by
  unfold max2D at hg
  split at hg
  · cases hg
    exact ⟨_, _, by rw [hx.int, hy.int], hq _ H F .refl (.int _)⟩
  · cases hg
theorem does_min2 : DoesN T (fun xs H Q => ∃ i j, xs = [.int i, .int j] ∧ Q (.int (if j < i then j else i)) H) (on2 min2D) := does2_on fun x y d e z H F Q lv hx hy hg hq => by
  unfold min2D at hg
  split at hg
  · cases hg
    exact ⟨_, _, by rw [hx.int, hy.int], hq _ H F .refl (.int _)⟩
  · cases hg
theorem does_all : DoesN T (rAll T.K) (on1 allD) := does1_on fun x d z H F Q lv hx hg hq => by
  unfold allD at hg
  split at hg
  · obtain ⟨bs, h1, rfl⟩ := Option.map_eq_some_iff.mp hg
    obtain ⟨a, vs, rfl, h2, s1⟩ := hx.lst
    rw [boolsOf_eq h1] at s1
    exact ⟨a, bs, rfl, by rw [← s1.bools]; exact h2.sq, hq _ H F .refl (.bl _)⟩
  · cases hg
end
def tyN : PyData → String
  | .none => "NoneType"
  | .bool _ => "bool"
  | .int _ => "int"
  | .str _ => "str"
  | .list _ => "list"
  | .tuple _ => "tuple"
  | .dict _ => "dict"
def isiD (c : String) (d : PyData) : Option R := (kitB (tyN d) c).map fun b => .dat (.bool b)
end DL
namespace DL
open PySem L2 PyProof.Rows
def cutD (xs : List PyData) (lo hi : Option Int) : List PyData := (xs.drop (HT.sIx xs.length 0 lo)).take (HT.sIx xs.length xs.length hi - HT.sIx xs.length 0 lo)
def slD (d : PyData) (lo hi : Option Int) : Option R := match d with
  | .list ds => some (.own (.list (cutD ds lo hi)))
  | .tuple ds => some (.dat (.tuple (cutD ds lo hi)))
  | .str x => if x.length ≤ lim then some (.dat (.str (cutS x lo hi))) else none
  | _ => none
/-- a part of a slice -/
def ptM (o : Option EM) : Rho → Option (Oe (Option Int)) := fun ρ => match o with
  | none => some (.ok none ρ)
  | some f => bindO (f ρ) fun r ρ1 => match r with
    | .dat (.int i) => some (.ok (some i) ρ1)
    | _ => none
def slM (fe : EM) (lo hi : Option EM) : EM := fun ρ => bindO (fe ρ) fun r ρ1 => bindO (ptM lo ρ1) fun a ρ2 => bindO (ptM hi ρ2) fun b ρ3 => match val ρ3 r with
  | some d => (slD d a b).map fun z => .ok z ρ3
  | none => none
end DL
namespace DL
open PySem L2 PyProof.Rows
/-- the defs that make lambdas: their code objects and tables, as the top has left them -/
structure TabsAt (K : PySem.W.Frag) (h : Heap) (mg : Str → Option Value) (cs : List (Addr × Addr)) : Prop where
  tab : ∀ p ∈ cs, h.get? p.2 = some { cls := .none, data := .fields #[] }
  out : ∀ p ∈ cs, K.lookup p.2 = none
  code : ∀ p ∈ cs, PySem.W.CodeHd h p.1 p.2
  bm : ∃ (bm : Addr) (ob : Obj), mg "__builtins__" = some (.ref bm) ∧ bm ≠ builtinsNs ∧ h.get? bm = some ob ∧ ob.cls = .type "module" ∧ ob.dict = some builtinsNs ∧ ob.data = .plain
def isTab (cs : List (Addr × Addr)) (b : Addr) : Prop := ∃ p ∈ cs, p.2 = b
instance (cs : List (Addr × Addr)) (b : Addr) : Decidable (isTab cs b) := by unfold isTab; infer_instance
section
variable {K : PySem.W.Frag} {h : Heap} {mg : Str → Option Value} {cs : List (Addr × Addr)}
theorem TabsAt.at (t : TabsAt K h mg cs) {b : Addr} (e : isTab cs b) : h.get? b = some { cls := .none, data := .fields #[] } := by
  obtain ⟨p, hp, rfl⟩ := e
  exact t.tab p hp
theorem TabsAt.not (t : TabsAt K h mg cs) {b : Addr} {o : Obj} (e : h.get? b = some o) (n : o.data ≠ .fields #[]) : ¬ isTab cs b := fun z => by
  rw [t.at z] at e
  cases e
  exact n rfl
/-- the tables over the base that hides what is tracked -/
theorem TabsAt.base (t : TabsAt K h mg cs) (ns : h.Ns mainGlobals mg) {g : Heap} (gt : ∀ b o, h.get? b = some o → ¬ isTab cs b → (∀ us n, o.data ≠ .seq us n) → g.get? b = some o) : ∀ p ∈ cs, LamX.TabB g mg p.1 p.2 := fun p hp => by
  have hp2 := t.tab p hp
  refine ⟨?_, ?_, fun z => ?_⟩
  · obtain ⟨o, us, file, tf, flags, tg, inF, text, tt, e1, r1, r2, r⟩ := t.code p hp
    refine ⟨o, us, file, tf, flags, tg, inF, text, tt, gt _ _ e1 (t.not e1 fun z => ?_) (fun vs n z => ?_), r1, r2, r⟩
    · rw [r2] at z
      cases z
      simp at r
    · rw [r2] at z
      cases z
  · obtain ⟨b, ob, b1, b2, b3, b4, b5, b6⟩ := t.bm
    refine ⟨b, ob, b1, b2, fun q => ?_, fun q => ?_, gt _ _ b3 (t.not b3 fun z => by rw [b6] at z; cases z) (fun vs n z => by rw [b6] at z; cases z), b4, b5, b6⟩
    · obtain ⟨o, es, ep, e, hd, _⟩ := ns
      rw [q, e] at b3
      cases b3
      rw [hd] at b6
      cases b6
    · rw [q, hp2] at b3
      cases b3
      cases b6
  · obtain ⟨o, es, ep, e, hd, _⟩ := ns
    rw [z, hp2] at e
    cases e
    cases hd
end
/-- the law's call at the heap that the top has left: from the law's promise at every base -/
theorem law_g {P : Program} {w : World} {T : Tb} {mg mb : Str → Option Value} {k : Nat} {fa a : Addr} {fd : FuncData} {x : Str} {sem : Sem} {s1 : Shared} {vs : List Value} {ns : List Int} {cs : List (Addr × Addr)} (KX : T.K.In s1.heap) (gl : s1.heap.Ns mainGlobals mg) (bl : s1.heap.Ns builtinsNs mb)
    (bb : ∀ x : Str, x ≠ "__name__" → mb x = bootBuiltins x) (nl : s1.heap.NoLimit) (sy : ∃ mm, s1.heap.Ns sysModules mm) (gn : s1.gens = #[]) (ha : s1.heap.get? a = some { cls := .type "list", data := .seq vs.toArray }) (hi : IntsAre vs ns) (hl : ns.length ≤ lim) (hr : Room k callerA)
    (tc : TabsAt T.K s1.heap mg cs) (htb : ∀ q ∈ T.tb, isTab cs q.1)
    (G : ∀ base : Heap, T.K.In base → base.Ns mainGlobals mg → base.get? sysModules ≠ none → (∀ p ∈ cs, LamX.TabB base mg p.1 p.2) → FnG P w T.K mg base k fa fd [x] (spOf T 1 sem)) (hb : ∀ (s : Shared) (u : Value), BindsTo s fd ⟨[u], []⟩ [(x, u)])
    (hs : ∃ os, sem [.dat (.list (ns.map .int))] = some (.ok (.dat (.bool true)) os)) :
    codeAny (model P w) callerA (.call (.ref fa) ⟨[.ref a], []⟩) (fun r s' => r = .ok (.ret (.bool true)) ∧ OldK s1.heap s'.heap ∧ s'.os = s1.os ∧ AllBare s'.gens) s1 := by
  have rv := vals_ints hi
  have aT : ¬ isTab cs a := tc.not ha fun z => by cases z
  have nds : ∀ {b : Addr} {m : Str → Option Value}, s1.heap.Ns b m → b ≠ a := fun {b m} ⟨o, es, ep, e, dd, _⟩ z => by
    subst z
    rw [ha] at e
    cases e
    exact absurd dd (by intro q; cases q)
  have ndt : ∀ {b : Addr} {m : Str → Option Value}, s1.heap.Ns b m → ¬ isTab cs b := fun {b m} ⟨o, es, ep, e, dd, _⟩ => tc.not e fun z => by rw [dd] at z; cases z
  obtain ⟨mm, sy⟩ := sy
  -- over any abstract heap that tracks the tables and at most the script
  have core : ∀ (H : Hp) (F : Reg), (∀ b, H b ≠ none → ¬ isTab cs b → b = a ∧ T.K.lookup a = none ∧ ∃ o xs, H b = some (.frz o (.lst xs))) → (∀ b, isTab cs b → H b = some (.tbl #[])) → HOk P w H s1.heap → (∀ b, F b → H b ≠ none) → DF T.K H F (.ref a) (.list (ns.map .int)) →
      codeAny (model P w) callerA (.call (.ref fa) ⟨[.ref a], []⟩) (fun r s' => r = .ok (.ret (.bool true)) ∧ OldK s1.heap s'.heap ∧ s'.os = s1.os ∧ AllBare s'.gens) s1 := by
    intro H F hH hT hok hF dd
    have free : ∀ {b : Addr}, b ≠ a → ¬ isTab cs b → H b = none := fun {b} n nt => by
      cases q : H b with
      | none => rfl
      | some o => exact absurd (hH b (by rw [q]; simp) nt).1 n
    have ns' : ∀ {b : Addr} {m : Str → Option Value}, s1.heap.Ns b m → (hidT s1.heap H).Ns b m := fun {b m} z => by
      have n := nds z
      have n2 := ndt z
      obtain ⟨o, es, ep, e, r⟩ := z
      exact ⟨o, es, ep, hidT_get e (free n n2), r⟩
    have kb : T.K.In (hidT s1.heap H) := fun b o e => hidT_get (KX b o e) (by
      cases q : H b with
      | none => rfl
      | some u =>
        by_cases ht : isTab cs b
        · obtain ⟨p, hp, rfl⟩ := ht
          rw [tc.out p hp] at e; cases e
        · obtain ⟨rfl, z, _⟩ := hH b (by rw [q]; simp) ht
          rw [z] at e; cases e)
    have md : Mod T.K mg (hidT s1.heap H) := ⟨kb, ns' gl, ⟨mb, ns' bl, bb⟩, by
      obtain ⟨mc, h1, h2⟩ := nl
      exact ⟨mc, ns' h1, h2⟩⟩
    have sm : (hidT s1.heap H).get? sysModules ≠ none := by
      obtain ⟨o, es, ep, e, _⟩ := ns' sy
      rw [e]; simp
    have tB : ∀ p ∈ cs, LamX.TabB (hidT s1.heap H) mg p.1 p.2 := tc.base gl fun b o e nt nsq => hidT_get e (free (fun z => by rw [z, ha] at e; cases e; exact nsq _ _ rfl) nt)
    have e0 : Env0 P w T.K mg (hidT s1.heap H) callerA [] s1 H := ⟨rfl, md, fun b o e => of_hidT e, Nat.le_of_eq (hidT_size _ _), trivial, fun b z => absurd (show b ∈ ([] : List Addr) from z) (by simp), hok, .of_eq gn⟩
    obtain ⟨os, hs⟩ := hs
    have sp : spOf T 1 sem [.ref a] H (fun v _ => v = .bl true) (fun _ _ _ => False) := by
      refine ⟨[.dat (.list (ns.map .int))], F, fun _ => [], rfl, ⟨rfl, fun i r e => ?_, (fun _ _ q => absurd q List.not_mem_nil), (fun _ _ _ q => absurd q List.not_mem_nil), (fun _ _ q => absurd q List.not_mem_nil), hF, fun q hq => .nil (hT _ (htb q hq))⟩, ?_⟩
      · cases i with
        | zero => simp at e; subst e; exact ⟨.ref a, rfl, rfl, dd⟩
        | succ i => simp at e
      · rw [hs]
        exact fun v H' F' O' _ _ r => bl_of r
    refine codeAny_mono ((G _ kb (ns' gl) sm tB).run callerA [] s1 H ⟨[.ref a], []⟩ [.ref a] [.ref a] _ _ rfl hr e0 (hb s1 (.ref a)) (.cons rfl .nil) sp) ?_
    intro r s' h
    cases r with
    | error e =>
      obtain ⟨_, _, _, _, _, _, _, _, _, _, _, _, z⟩ := h
      exact z.elim
    | ok fl =>
      cases fl with
      | next => exact h.elim
      | brk => exact h.elim
      | cont => exact h.elim
      | ret u =>
        obtain ⟨v, H', os', bare, un, hok', rr, qv⟩ := h
        subst qv
        obtain rfl : u = Value.bool true := rr
        have kp : ∀ b o, ¬ isTab cs b → s1.heap.get? b = some o → s'.heap.get? b = some o := fun b o nt e => by
          by_cases n : H b = none
          · exact un.keep b o e n (by intro z; exact absurd (show b ∈ ([] : List Addr) from z) (by simp)) (by simp)
          · obtain ⟨_, _, ob, xs, z⟩ := hH b n nt
            obtain ⟨e1, _⟩ := hok b _ z
            obtain ⟨e2, _⟩ := hok' b _ (un.frzs b ob _ z)
            rw [e] at e1
            cases e1
            exact e2
        have gw : ∀ b, isTab cs b → ∃ us : Array Value, s'.heap.get? b = some { cls := .none, data := .fields us } := fun b ht => by
          obtain ⟨us, z⟩ := un.tbls b #[] (hT b ht)
          exact ⟨_, hok' b _ z⟩
        refine ⟨rfl, ⟨fun b o e => ?_, fun b o e => ?_⟩, os', bare⟩
        · by_cases ht : isTab cs b
          · obtain ⟨us, hu⟩ := gw b ht
            have e' := e
            rw [tc.at ht] at e'
            cases e'
            obtain ⟨p, hp, rfl⟩ := ht
            exact .inr (.inl ⟨((tc.code p hp).tab (tc.tab p hp)).isCodeTable, rfl, #[], us, rfl, by simpa using hu⟩)
          · exact .inl (kp b o ht e)
        · by_cases ht : isTab cs b
          · obtain ⟨us, hu⟩ := gw b ht
            exact ⟨_, hu⟩
          · exact ⟨o, kp b o ht e⟩
  have lv := hi.length
  cases hk : T.K.lookup a with
  | some o =>
    have e := KX a o hk
    rw [ha] at e
    cases e
    refine core (fun b => if isTab cs b then some (.tbl #[]) else none) (fun _ => False) (fun b z nt => absurd (if_neg nt) z) (fun b ht => if_pos ht) (fun b u z => ?_) (fun _ z => z.elim) (.lstK ⟨vs.toArray, _, hk, ?_, by simpa using rv, ?_⟩ (DFs.of_ints ns))
    · by_cases ht : isTab cs b
      · have z' := (if_pos ht).symm.trans z
        cases z'
        exact tc.at ht
      · have z' := (if_neg ht).symm.trans z
        cases z'
    · rw [List.size_toArray, lv]
      exact lm hl
    · exact Ne.symm (nds sy)
  | none =>
    have h1 : (fun b => if b = a then some (HO.frz { cls := .type "list", data := .seq vs.toArray } (.lst (ns.map V.int))) else if isTab cs b then some (.tbl #[]) else none : Hp) a = some (.frz { cls := .type "list", data := .seq vs.toArray } (.lst (ns.map V.int))) := if_pos rfl
    refine core (fun b => if b = a then some (.frz { cls := .type "list", data := .seq vs.toArray } (.lst (ns.map V.int))) else if isTab cs b then some (.tbl #[]) else none) (fun b => b = a) (fun b z nt => ?_) (fun b ht => ?_) (fun b u z => ?_) (fun b z => ?_) (.lst rfl (.inr ⟨_, h1⟩) (DFs.of_ints ns))
    · by_cases e : b = a
      · subst e
        exact ⟨rfl, hk, _, _, h1⟩
      · exact absurd ((if_neg e).trans (if_neg nt)) z
    · exact (if_neg (show ¬ b = a from fun z => aT (z ▸ ht))).trans (if_pos ht)
    · by_cases e : b = a
      · subst e
        have z' := h1.symm.trans z
        cases z'
        exact ⟨ha, by rw [List.length_map]; exact lm hl, vs, _, rv, ha⟩
      · by_cases ht : isTab cs b
        · have z' := ((if_neg e).trans (if_pos ht)).symm.trans z
          cases z'
          exact tc.at ht
        · have z' := ((if_neg e).trans (if_neg ht)).symm.trans z
          cases z'
    · rw [z, if_pos rfl]
      simp
/-- the goal that the head leaves; ts: the tables of the defs that make lambdas -/
theorem walk_g {l : PySem.W.OpenLaw} {n k : Nat} {q : Program} {loose : List Str} {XP : (Str → Option Value) → Heap → Prop} {YP : World → Heap → Prop} {d : DefRec} {K : Params → PySem.W.Frag} {x : Str} (ts : List Addr) (hn : l.most = some n) (hn2 : n ≤ lim) (hdf : d.params.defaults = []) (hr : Room k callerA) (him : importsNone q = true)
    (hY : ∀ (w : World) (h : Heap), YP w h → (K w.params).In h) (hYT : ∀ (w : World) (h : Heap), YP w h → ∀ P ∈ ts, h.get? P = some (PySem.W.tabObj #[]))
    (F : ∀ (w : World) (mg : Str → Option Value) (fa : Addr) (h : Heap), (K w.params).In h → h.Ns mainGlobals mg → mg d.name = some (.ref fa) → ∃ (fd : FuncData) (T : Tb) (sem : Sem) (tn : List (Addr × Addr)), T.K = K w.params ∧ T.w = w ∧ (∀ (s : Shared) (u : Value), BindsTo s fd ⟨[u], []⟩ [(x, u)]) ∧
      ((∀ t ∈ tn, PySem.W.codeHdIn T.K t.1 t.2 = true ∧ t.2 ∈ ts ∧ T.K.lookup t.2 = none) ∧ ∀ q ∈ T.tb, isTab tn q.1) ∧
      (∀ base : Heap, T.K.In base → base.Ns mainGlobals mg → base.get? sysModules ≠ none → (∀ t ∈ tn, LamX.TabB base mg t.1 t.2) → FnG l.prog w T.K mg base k fa fd [x] (spOf T 1 sem)) ∧ ∀ ns : List Int, ns.length ≤ n → ∃ os, sem [.dat (.list (ns.map .int))] = some (.ok (.dat (.bool true)) os)) :
    PySem.W.WalkO q loose XP YP l.row.toRowW d [] (fun f vs => PySem.call f vs) := by
  refine Att.attach_call hn hdf ?_
  intro w s0 s1 mg mb fa o pm cd doc a vs ns G Y ho hd hcd hmg hobj hints hlen hg
  have kx := hY w _ Y
  have ky := hYT w _ Y
  obtain ⟨fd, T, sem, tn, e1, e2, hb, ⟨ht, htb⟩, hF, hS⟩ := F w mg fa _ kx G.T.g hmg
  rw [← e1] at kx
  obtain ⟨mm, hm, _⟩ := (G.T.seer him).mods
  have tc : TabsAt T.K s1.heap mg tn := ⟨fun p hp => ky _ (ht p hp).2.1, fun p hp => (ht p hp).2.2, fun p hp => PySem.W.codeHd_of_K kx (ht p hp).1, G.T.bmain⟩
  exact law_g kx G.T.g G.T.b G.T.builtins G.T.nolimit ⟨mm, hm⟩ hg hobj hints (Nat.le_trans hlen hn2) hr tc htb hF hb (hS ns hlen)
end DL
namespace DL
open PySem L2 PyProof.Rows
/-- the names by slot and the scope -/
structure At (X : Cx) (N : List Str) (sc : Scope) : Prop where
  hN : X.N = N
  hs : X.env.scope = sc
def visB (sc : Scope) (x : Str) : Bool := match sc.names.lookup x with
  | some .local => true
  | some .cell => true
  | some .free => true
  | _ => false
def locB (sc : Scope) (x : Str) : Bool := match sc.names.lookup x with
  | some .local => true
  | some .cell => true
  | _ => false
def lclB (sc : Scope) (x : Str) : Bool := match sc.names.lookup x with
  | some .local => true
  | _ => false
def glB (sc : Scope) (x : Str) : Bool := match sc.names.lookup x with
  | some .globalImplicit => true
  | _ => false
theorem visB_ok {sc : Scope} {x : Str} (h : visB sc x = true) : Vis sc x := by
  unfold visB at h
  split at h
  · exact .inl (by assumption)
  · exact .inr (.inl (by assumption))
  · exact .inr (.inr (by assumption))
  · cases h
theorem locB_ok {sc : Scope} {x : Str} (h : locB sc x = true) : Loc sc x := by
  unfold locB at h
  split at h
  · exact .inl (by assumption)
  · exact .inr (by assumption)
  · cases h
theorem lclB_ok {sc : Scope} {x : Str} (h : lclB sc x = true) : sc.names.lookup x = some .local := by
  unfold lclB at h
  split at h
  · assumption
  · cases h
theorem glB_ok {sc : Scope} {x : Str} (h : glB sc x = true) : sc.names.lookup x = some .globalImplicit := by
  unfold glB at h
  split at h
  · assumption
  · cases h
/-- a slot's name is seen -/
def nmB (N : List Str) (sc : Scope) (i : Nat) (x : Str) : Bool := decide (N[i]? = some x) && visB sc x && !(x == ("__debug__" : Str)) && !(x == ("__classdict__" : Str))
def tgB (N : List Str) (sc : Scope) (i : Nat) (x : Str) : Bool := decide (N[i]? = some x) && locB sc x
def gnB (sc : Scope) (x : Str) : Bool := glB sc x && !(x == ("__debug__" : Str)) && !decide (x = "__name__")
section
variable {X : Cx} {T : Tb} {W : WX} {N : List Str} {sc : Scope} {φ : Fm} {pos p : Pos} {x : Str} {i : Nat}
theorem At.gl (a : At X N sc) (h : gnB sc x = true) : L2.Gl X x ∧ (x == ("__debug__" : Str)) = false ∧ x ≠ "__name__" := by
  unfold gnB at h
  simp only [Bool.and_eq_true, Bool.not_eq_true', decide_eq_false_iff_not] at h
  refine ⟨?_, h.1.2, h.2⟩
  show X.env.scope.names.lookup x = _
  rw [a.hs]
  exact glB_ok h.1.1
theorem se_n (a : At X N sc) (i : Nat) (h : nmB N sc i x = true) : SE X T W (.Name x pos) (nmM i) := by
  unfold nmB at h
  simp only [Bool.and_eq_true, decide_eq_true_eq, Bool.not_eq_true'] at h
  exact se_nm i (by rw [a.hN]; exact h.1.1.1) (by rw [a.hs]; exact visB_ok h.1.1.2) h.1.2 h.2
theorem pe_n (a : At X N sc) (i : Nat) (h : nmB N sc i x = true) : PE X (.Name x pos) (tVar i) := by
  unfold nmB at h
  simp only [Bool.and_eq_true, decide_eq_true_eq, Bool.not_eq_true'] at h
  exact pe_var (by rw [a.hN]; exact h.1.1.1) (by rw [a.hs]; exact visB_ok h.1.1.2) h.1.2 h.2
theorem sg_n {pr : Nat → Bool} (a : At X N sc) (nd : X.N.Nodup) (fn : X.fn x = true ∨ sc.names.lookup x = some .local) (i : Nat) (h : tgB N sc i x = true) (hp : pr i = false) : SG X T pr (.Name x pos) (gnM i) := by
  unfold tgB at h
  simp only [Bool.and_eq_true, decide_eq_true_eq] at h
  exact sg_nm hp nd (by rw [a.hN]; exact h.1) (by rw [a.hs]; exact locB_ok h.2) (by rw [a.hs]; exact fn)
theorem ss_a {e : Expr} {fe : EM} {pos' : Pos} (a : At X N sc) (nd : X.N.Nodup) (fn : ∀ x, X.fn x = true) (i : Nat) (h : tgB N sc i x = true) (hp : φ.pr i = false) (he : SE X T W e fe) (hs : swapsWith e (some (.Name x pos')) pos.line X.env = pure false := by rfl) : SS X T W φ (.Assign [.Name x pos'] e pos) (asgM i fe) := by
  unfold tgB at h
  simp only [Bool.and_eq_true, decide_eq_true_eq] at h
  exact ss_asg hp nd (by rw [a.hN]; exact h.1) (by rw [a.hs]; exact locB_ok h.2) he hs (.inl (fn x))
/-- the block of a comprehension -/
theorem At.blk (a : At X N sc) (s : Shared) (H : Hp) (scope : Scope) (cl : List (Str × Addr)) (C : Addr) (fp : List Addr) : At (X.blk s H scope (compEnvC scope cl C X.env) fp) N (relS scope sc) := by
  refine ⟨a.hN, ?_⟩
  show relabel scope X.env = _
  rw [← a.hs]
  rfl
theorem At.blkOk {scope : Scope} {own : List (Str × Nat)} (a : At X N sc) (h : blkC N sc scope own = true) : BlkOk X.N X.env.scope scope own := by
  rw [a.hN, a.hs]
  exact blkOk_by h
/-- a built-in by its name -/
theorem se_b {id : String} {r : List V → Hp → VK → Prop} {g : List PyData → Option R} {f : AM} {e : Expr} {es : List Expr} (a : At X N sc) (hx : gnB sc x = true) (hc : CallR X (.builtin id) r) (dr : DoesN T r g) (hm : X.mg x = none) (hv : bootBuiltins x = some (.builtin id)) (ha : SA X T W (e :: es) f)
    (he : starEach (e :: es) X.env = (false, eval e X.env) :: starEach es X.env := by rfl) (hpl : (backTo pos (starEach es X.env)).any (·.1) = false := by rfl) :
    SE X T W (.Call (.Name x p) (e :: es) [] pos) (opnM g f) := se_callB hc dr (a.gl hx).1 hm hv ha (a.gl hx).2.2 (a.gl hx).2.1 he hpl
theorem se_f {k n m : Nat} {sem : Sem} {f : AM} {e : Expr} {es : List Expr} (a : At X N sc) (hx : gnB sc x = true) (c : Cxt X T W m) (h : FnE X.prog X.w X.mg X.base T x k n sem) (hl : ∀ args o, sem args = some o → args.length = n) (hk : k ≤ m) (ha : SA X T W (e :: es) f)
    (he : starEach (e :: es) X.env = (false, eval e X.env) :: starEach es X.env := by rfl) (hpl : (backTo pos (starEach es X.env)).any (·.1) = false := by rfl) : SE X T W (.Call (.Name x p) (e :: es) [] pos) (callM sem f) :=
  se_call h c hk (a.gl hx).1 ha hl (a.gl hx).2.1 he hpl
/-- a, b = e, f: two local names -/
theorem swap2 {ea eb : Expr} {y : Str} {px py pt : Pos} {kt k2 : Nat} {pt2 : Pos} (a : At X N sc) (hk : X.env.scope.kind = .function) (h : (lclB sc x && lclB sc y && !(x == y) && (py.line == px.line)) = true)
    (h1 : ([ea, eb].any fun | .Starred .. => true | _ => false) = false := by rfl) (h2 : [ea, eb].all (foldedForSure 8) = false := by rfl) (h3 : [ea, eb].all (constantsAlone 8) = false := by rfl) :
    swappedStores [.Tuple [.Name x px, .Name y py] kt pt] (.Tuple [ea, eb] k2 pt2) X.env = pure (some [x, y]) := by
  simp only [Bool.and_eq_true, Bool.not_eq_true', beq_iff_eq] at h
  obtain ⟨⟨⟨hx, hy⟩, hxy⟩, hl⟩ := h
  have kx : X.env.kindOf x = some .local := by show X.env.scope.names.lookup x = _; rw [a.hs]; exact lclB_ok hx
  have ky : X.env.kindOf y = some .local := by show X.env.scope.names.lookup y = _; rw [a.hs]; exact lclB_ok hy
  have bk : X.env.blockKind = .function := by unfold Env.blockKind; rw [hk]; rfl
  have hne : (y == x) = false := by
    have : x ≠ y := by simpa using hxy
    simpa using Ne.symm this
  unfold swappedStores
  simp [kx, ky, bk, hl, h1, h2, h3, Expr.pos, List.eraseDups_cons, hne, hxy]
  intro h
  simp only [List.any_cons, List.any_nil, Bool.or_false, Bool.or_eq_false_iff] at h1
  rcases h with h | h
  · cases ea <;> first | exact absurd h Bool.false_ne_true | exact absurd h1.1.symm Bool.false_ne_true
  · cases eb <;> first | exact absurd h Bool.false_ne_true | exact absurd h1.2.symm Bool.false_ne_true
theorem ss_p2 {ea eb : Expr} {fa fb : EM} {y : Str} {px py pt : Pos} {kt k2 : Nat} {pt2 : Pos} (a : At X N sc) (hk : X.env.scope.kind = .function) (nd : X.N.Nodup) (hc : X.calm = true) (i j : Nat) (hi : decide (N[i]? = some x) = true) (hj : decide (N[j]? = some y) = true) (hij : i ≠ j) (hp : φ.pr i = false) (hq : φ.pr j = false)
    (h : (lclB sc x && lclB sc y && !(x == y) && (py.line == px.line)) = true) (ha : SE X T W ea fa) (hb : SE X T W eb fb) (hs : starEach [ea, eb] X.env = (false, eval ea X.env) :: starEach [eb] X.env := by rfl) (hs2 : starEach [eb] X.env = (false, eval eb X.env) :: starEach [] X.env := by rfl)
    (h1 : ([ea, eb].any fun | .Starred .. => true | _ => false) = false := by rfl) (h2 : [ea, eb].all (foldedForSure 8) = false := by rfl) (h3 : [ea, eb].all (constantsAlone 8) = false := by rfl)
    (hw : swapsWithSole [.Tuple [.Name x px, .Name y py] kt pt] (.Tuple [ea, eb] k2 pt2) pos.line X.env = pure false := by rfl) :
    SS X T W φ (.Assign [.Tuple [.Name x px, .Name y py] kt pt] (.Tuple [ea, eb] k2 pt2) pos) (parM i j fa fb) := by
  have h' := h
  simp only [Bool.and_eq_true, Bool.not_eq_true', beq_iff_eq] at h'
  have gi : X.N[i]? = some x := by rw [a.hN]; exact of_decide_eq_true hi
  have gj : X.N[j]? = some y := by rw [a.hN]; exact of_decide_eq_true hj
  exact ss_par hp hq gi gj (ps_par hc nd gi gj hij (by rw [a.hs]; exact lclB_ok h'.1.1.1) (by rw [a.hs]; exact lclB_ok h'.1.1.2) (pa_cons ha (pa_cons hb pa_nil hs2) hs) (swap2 a hk h h1 h2 h3) hw)
end
/-- a def of the text, with its promise -/
theorem fn_e {T : Tb} {P : Program} {w : World} {mg : Str → Option Value} {base : Heap} {k n : Nat} {x qual : Str} {st : Stmt} {f : Addr} {fd : FuncData} {N ps : List Str} {pr : Nat → Bool} {m : SM} (G : Fun T.K x qual st f fd) (S : FnScope N ps (defScope st)) (hn : ps.length = n) (hmg : mg x = some (.ref f)) (hb : Binds T.K fd ps [])
    (hw : w = T.w) (hsm : base.get? sysModules ≠ none)
    (body : ∀ (X : Cx) (W : WX) (H : Hp), X.prog = P → X.w = w → X.mg = mg → X.base = base → At X N (defScope st) → X.env.scope.kind = .function → (∀ x, X.fn x = true) → Cxt X T W k → SB X T W ⟨H, n, pr⟩ (defBody st) m) :
    FnE P w mg base T x (k + 1) n (runD n N.length pr m) :=
  ⟨f, fd, ps, hmg, G.kp, hb, hn, fn_g G S hn rfl hw hsm fun X W H h1 h2 _ h4 h5 h6 h7 h8 h9 c => body X W H h1 h2 h4 h5 ⟨h6, h7⟩ h8 (fun x => by rw [h9]) c⟩
end DL
namespace DL
open PySem L2 PyProof.Rows
section
variable {X : Cx} {T : Tb} {W : WX} {n : Nat} {N : List Str} {sc : Scope} {a b d e : Expr} {fa fb fd fe : EM} {pos p : Pos}
theorem e_add (c : Cxt X T W n) (ha : SE X T W a fa) (hb : SE X T W b fb) : SE X T W (.BinOp a .Add b pos) (op2M dPlus fa fb) := se_op (c.hK ▸ op_plus) does_plus ha hb
theorem e_sub (c : Cxt X T W n) (ha : SE X T W a fa) (hb : SE X T W b fb) : SE X T W (.BinOp a .Sub b pos) (op2M dMinus fa fb) := se_op op_sub does_minus ha hb
theorem e_mul (c : Cxt X T W n) (ha : SE X T W a fa) (hb : SE X T W b fb) : SE X T W (.BinOp a .Mult b pos) (op2M dMul fa fb) := se_op (c.hK ▸ op_mulX) does_mul ha hb
theorem e_fd (c : Cxt X T W n) (ha : SE X T W a fa) (hb : SE X T W b fb) : SE X T W (.BinOp a .FloorDiv b pos) (op2M dFd fa fb) := se_op op_fd does_fd ha hb
theorem e_mod (c : Cxt X T W n) (ha : SE X T W a fa) (hb : SE X T W b fb) : SE X T W (.BinOp a .Mod b pos) (op2M dMod fa fb) := se_op op_modN does_mod ha hb
theorem e_pow (c : Cxt X T W n) (ha : SE X T W a fa) (hb : SE X T W b fb) : SE X T W (.BinOp a .Pow b pos) (op2M dPow fa fb) := se_op op_pow does_pow ha hb
theorem t_lt (c : Cxt X T W n) (ha : SE X T W a fa) (hb : SE X T W b fb) : ST X T W (.Compare a [.Lt] [b] pos) (tsM (op2M dLt fa fb)) := st_cmp op_lt does_lt ha hb (nomark _)
theorem t_ge (c : Cxt X T W n) (ha : SE X T W a fa) (hb : SE X T W b fb) : ST X T W (.Compare a [.GtE] [b] pos) (tsM (op2M dGe fa fb)) := st_cmp op_ge does_ge ha hb (nomark _)
theorem t_ne (c : Cxt X T W n) (ha : SE X T W a fa) (hb : SE X T W b fb) : ST X T W (.Compare a [.NotEq] [b] pos) (tsM (op2M dNe fa fb)) := st_cmp (op_ne.or (c.hK ▸ op_neD c.room.units)) does_ne ha hb (nomark _)
/-- the four orders, for chains -/
inductive Ord : CmpOp → (PyData → PyData → Option R) → Prop where
  | lt : Ord .Lt dLt
  | le : Ord .LtE dLe
  | gt : Ord .Gt dGt
  | ge : Ord .GtE dGe
theorem Ord.ok {op : CmpOp} {g : PyData → PyData → Option R} (o : Ord op g) : ∃ r, OpR X (compareOp op) r ∧ Does2 T r g := by
  cases o with
  | lt => exact ⟨_, op_lt, does_lt⟩
  | le => exact ⟨_, op_le, does_le⟩
  | gt => exact ⟨_, op_gt, does_gt⟩
  | ge => exact ⟨_, op_ge, does_ge⟩
variable {es : List Expr} {f : AM}
theorem e_len (l : At X N sc) (c : Cxt X T W n) (hx : gnB sc "len" = true) (hm : X.mg "len" = none) (ha : SA X T W [e] f) (he : starEach [e] X.env = (false, eval e X.env) :: starEach [] X.env := by rfl) : SE X T W (.Call (.Name "len" p) [e] [] pos) (opnM (on1 lenD) f) :=
  se_b l hx (c.hK ▸ call_lenX) does_len hm PySem.boot_len ha he rfl
theorem e_all (l : At X N sc) (c : Cxt X T W n) (hx : gnB sc "all" = true) (hm : X.mg "all" = none) (ha : SA X T W [e] f) (he : starEach [e] X.env = (false, eval e X.env) :: starEach [] X.env := by rfl) : SE X T W (.Call (.Name "all" p) [e] [] pos) (opnM (on1 allD) f) :=
  se_b l hx (c.hK ▸ cr_all c.calm) does_all hm (by decide +kernel) ha he rfl
theorem e_max2 (l : At X N sc) (c : Cxt X T W n) (hx : gnB sc "max" = true) (hm : X.mg "max" = none) (ha : SA X T W [e, d] f) (he : starEach [e, d] X.env = (false, eval e X.env) :: starEach [d] X.env := by rfl) (hpl : (backTo pos (starEach [d] X.env)).any (·.1) = false := by rfl) : SE X T W (.Call (.Name "max" p) [e, d] [] pos) (opnM (on2 max2D) f) :=
  se_b l hx (call_max2 c.calm) does_max2 hm (by decide +kernel) ha he hpl
theorem e_min2 (l : At X N sc) (c : Cxt X T W n) (hx : gnB sc "min" = true) (hm : X.mg "min" = none) (ha : SA X T W [e, d] f) (he : starEach [e, d] X.env = (false, eval e X.env) :: starEach [d] X.env := by rfl) (hpl : (backTo pos (starEach [d] X.env)).any (·.1) = false := by rfl) : SE X T W (.Call (.Name "min" p) [e, d] [] pos) (opnM (on2 min2D) f) :=
  se_b l hx (call_min2 c.calm) does_min2 hm (by decide +kernel) ha he hpl
theorem e_rng1 {tg : Expr} (l : At X N sc) (hx : gnB sc "range" = true) (hm : X.mg "range" = none) (ha : SE X T W a fa) (hs : starEach [a] X.env = [(false, eval a X.env)] := by rfl) : SI X T W tg (.Call (.Name "range" p) [a] [] pos) (irM1 fa) := si_rng1 (l.gl hx).1 hm ha hs
end
end DL
namespace DL
open PySem L2 PyProof.Rows
/-- the classes above an own one over ValueError -/
abbrev veM : List Value := [.type "ValueError", .type "Exception", .type "BaseException", .type "object"]
/-- a class of errors of the text, made without anything -/
structure ExE (mg : Str → Option Value) (T : Tb) (x : Str) (c : Nat) : Prop where
  g : mg x = some (.ref (T.ca c))
  k : PySem.W.keepIn T.K (.ref (T.ca c)) = true
  x : PySem.W.excIn T.K (T.ca c) veM "ValueError.__new__" = true
  b : PySem.W.subIn T.K (.ref (T.ca c)) (.type "BaseException") = some true
  t : PySem.W.typeIn T.K (.ref (T.ca c)) = some (.type "type")
def raiseM (c : Nat) : SM := fun ρ => some (.er c [] ρ)
end DL
namespace DL
open PySem L2 PyProof.Rows
/-- what a walk has to give -/
def Walked (ts : List Addr) (P : Program) (w : World) (K : PySem.W.Frag) (mg : Str → Option Value) (fa : Addr) (x : Str) (k : Nat) (pr : Sem → Prop) : Prop :=
  ∃ (fd : FuncData) (T : Tb) (sem : Sem) (tn : List (Addr × Addr)), T.K = K ∧ T.w = w ∧ (∀ (s : Shared) (u : Value), BindsTo s fd ⟨[u], []⟩ [(x, u)]) ∧
      ((∀ t ∈ tn, PySem.W.codeHdIn T.K t.1 t.2 = true ∧ t.2 ∈ ts ∧ T.K.lookup t.2 = none) ∧ ∀ q ∈ T.tb, isTab tn q.1) ∧
      (∀ base : Heap, T.K.In base → base.Ns mainGlobals mg → base.get? sysModules ≠ none → (∀ t ∈ tn, LamX.TabB base mg t.1 t.2) → FnG P w T.K mg base k fa fd [x] (spOf T 1 sem)) ∧ pr sem
theorem fin_g {ts : List Addr} {P : Program} {w : World} {K : PySem.W.Frag} {mg : Str → Option Value} {fa : Addr} {x : Str} {k n : Nat} {sl : Sem}
    (tr : ∀ ns : List Int, ns.length ≤ n → ∃ os, sl [.dat (.list (ns.map .int))] = some (.ok (.dat (.bool true)) os))
    (h : Walked ts P w K mg fa x k fun sem => sem = sl) : Walked ts P w K mg fa x k fun sem => ∀ ns : List Int, ns.length ≤ n → ∃ os, sem [.dat (.list (ns.map .int))] = some (.ok (.dat (.bool true)) os) := by
  obtain ⟨fd, T, sem, tn, a, b, c, d, e, f⟩ := h
  exact ⟨fd, T, sem, tn, a, b, c, d, e, f ▸ tr⟩
theorem no_tabs {ts : List Addr} {T : Tb} (h : T.tb = []) : (∀ t ∈ ([] : List (Addr × Addr)), PySem.W.codeHdIn T.K t.1 t.2 = true ∧ t.2 ∈ ts ∧ T.K.lookup t.2 = none) ∧ ∀ q ∈ T.tb, isTab [] q.1 :=
  ⟨fun _ h => absurd h List.not_mem_nil, fun q hq => by rw [h] at hq; cases hq⟩
end DL
namespace DL
open PySem L2
end DL
namespace DL
open PySem L2
/-- a proof whose steps a reader of terms need not take again -/
theorem eqI {α : Sort _} {a b : α} (h : a = b) : a = b := h
/-- what follows a statement -/
def thenS (o : Option Ot) (g : SM) : Option Ot := match o with
  | some (.nx ρ1) => g ρ1
  | o => o
@[simp] theorem thenS_nx (ρ : Rho) (g : SM) : thenS (some (.nx ρ)) g = g ρ := eqI rfl
@[simp] theorem thenS_rt (r : R) (ρ : Rho) (g : SM) : thenS (some (.rt r ρ)) g = some (.rt r ρ) := eqI rfl
@[simp] theorem thenS_bk (ρ : Rho) (g : SM) : thenS (some (.bk ρ)) g = some (.bk ρ) := eqI rfl
@[simp] theorem thenS_ct (ρ : Rho) (g : SM) : thenS (some (.ct ρ)) g = some (.ct ρ) := eqI rfl
@[simp] theorem thenS_er (c : Nat) (fs : List PyData) (ρ : Rho) (g : SM) : thenS (some (.er c fs ρ)) g = some (.er c fs ρ) := eqI rfl
@[simp] theorem seqM_e (f g : SM) (ρ : Rho) : seqM f g ρ = thenS (f ρ) g := eqI rfl
@[simp] theorem skipM_e (ρ : Rho) : skipM ρ = some (.nx ρ) := eqI rfl
@[simp] theorem dropM_e (f : EM) (ρ : Rho) : dropM f ρ = bindS (f ρ) fun _ ρ1 => some (.nx ρ1) := eqI rfl
/-- one of two -/
def pick {α : Type} (b : Bool) (f g : Rho → Option α) (ρ : Rho) : Option α := if b = true then f ρ else g ρ
@[simp] theorem pick_t {α : Type} (f g : Rho → Option α) (ρ : Rho) : pick true f g ρ = f ρ := eqI rfl
@[simp] theorem pick_f {α : Type} (f g : Rho → Option α) (ρ : Rho) : pick false f g ρ = g ρ := eqI rfl
@[simp] theorem ifM_e (c : Rho → Option (Oe Bool)) (f g : SM) (ρ : Rho) : ifM c f g ρ = bindS (c ρ) fun b ρ1 => pick b f g ρ1 := eqI rfl
@[simp] theorem iteM_e (c : Rho → Option (Oe Bool)) (f g : EM) (ρ : Rho) : iteM c f g ρ = bindO (c ρ) fun b ρ1 => pick b f g ρ1 := eqI rfl
@[simp] theorem andT_e (f g : Rho → Option (Oe Bool)) (ρ : Rho) : andT f g ρ = bindO (f ρ) fun b ρ1 => pick b g (fun ρ => some (.ok false ρ)) ρ1 := eqI rfl
@[simp] theorem orT_e (f g : Rho → Option (Oe Bool)) (ρ : Rho) : orT f g ρ = bindO (f ρ) fun b ρ1 => pick b (fun ρ => some (.ok true ρ)) g ρ1 := eqI rfl
@[simp] theorem notT_e (f : Rho → Option (Oe Bool)) (ρ : Rho) : notT f ρ = bindO (f ρ) fun b ρ1 => some (.ok (!b) ρ1) := eqI rfl
@[simp] theorem yesT_e (ρ : Rho) : yesT ρ = some (.ok true ρ) := eqI rfl
def tsR (r : R) (ρ1 : Rho) : Option (Oe Bool) := match r with
  | .dat (.bool b) => some (.ok b ρ1)
  | _ => none
@[simp] theorem tsR_e (b : Bool) (ρ : Rho) : tsR (.dat (.bool b)) ρ = some (.ok b ρ) := eqI rfl
@[simp] theorem tsM_e (f : EM) (ρ : Rho) : tsM f ρ = bindO (f ρ) tsR := eqI rfl
/-- a truth, then -/
def bR (r : R) (f g : EM) (ρ : Rho) : Option (Oe R) := match r with
  | .dat (.bool true) => f ρ
  | .dat (.bool false) => g ρ
  | _ => none
@[simp] theorem bR_e (b : Bool) (f g : EM) (ρ : Rho) : bR (.dat (.bool b)) f g ρ = pick b f g ρ := by cases b <;> rfl
@[simp] theorem andM_e (f g : EM) (ρ : Rho) : andM f g ρ = bindO (f ρ) fun r ρ1 => bR r g (cM (.bool false)) ρ1 := by
  unfold andM bR; cases f ρ with
  | none => rfl
  | some o => cases o with
    | er _ _ _ => rfl
    | ok r ρ1 => cases r with
      | dat d => cases d with
        | bool b => cases b <;> rfl
        | _ => rfl
      | _ => rfl
@[simp] theorem orM_e (f g : EM) (ρ : Rho) : orM f g ρ = bindO (f ρ) fun r ρ1 => bR r (cM (.bool true)) g ρ1 := by
  unfold orM bR; cases f ρ with
  | none => rfl
  | some o => cases o with
    | er _ _ _ => rfl
    | ok r ρ1 => cases r with
      | dat d => cases d with
        | bool b => cases b <;> rfl
        | _ => rfl
      | _ => rfl
def ntR (r : R) (ρ1 : Rho) : Option (Oe R) := match r with
  | .dat (.bool b) => some (.ok (.dat (.bool (!b))) ρ1)
  | _ => none
@[simp] theorem ntR_e (b : Bool) (ρ : Rho) : ntR (.dat (.bool b)) ρ = some (.ok (.dat (.bool (!b))) ρ) := eqI rfl
@[simp] theorem notM_e (f : EM) (ρ : Rho) : notM f ρ = bindO (f ρ) ntR := eqI rfl
/-- a slot read -/
def nmR (i : Nat) (o : Option (Option R)) (ρ : Rho) : Option (Oe R) := match o with
  | some (some (.dat d)) => some (.ok (.dat d) ρ)
  | some (some (.own _)) => some (.ok (.slt i) ρ)
  | some (some (.st _)) => some (.ok (.slt i) ρ)
  | some (some (.obj _)) => some (.ok (.slt i) ρ)
  | some (some (.fn k)) => some (.ok (.fn k) ρ)
  | some (some (.ex c fs)) => some (.ok (.ex c fs) ρ)
  | _ => none
@[simp] theorem nmR_x (i c : Nat) (fs : List PyData) (ρ : Rho) : nmR i (some (some (.ex c fs))) ρ = some (.ok (.ex c fs) ρ) := eqI rfl
@[simp] theorem nmR_d (i : Nat) (d : PyData) (ρ : Rho) : nmR i (some (some (.dat d))) ρ = some (.ok (.dat d) ρ) := eqI rfl
@[simp] theorem nmR_o (i : Nat) (d : PyData) (ρ : Rho) : nmR i (some (some (.own d))) ρ = some (.ok (.slt i) ρ) := eqI rfl
@[simp] theorem nmR_s (i : Nat) (d : List Int) (ρ : Rho) : nmR i (some (some (.st d))) ρ = some (.ok (.slt i) ρ) := eqI rfl
@[simp] theorem nmR_ob (i : Nat) (d : OD) (ρ : Rho) : nmR i (some (some (.obj d))) ρ = some (.ok (.slt i) ρ) := eqI rfl
@[simp] theorem nmM_e (i : Nat) (ρ : Rho) : nmM i ρ = nmR i ρ[i]? ρ := eqI rfl
@[simp] theorem cM_e (d : PyData) (ρ : Rho) : cM d ρ = some (.ok (.dat d) ρ) := eqI rfl
@[simp] theorem val_d (ρ : Rho) (d : PyData) : val ρ (.dat d) = some d := eqI rfl
@[simp] theorem val_o (ρ : Rho) (d : PyData) : val ρ (.own d) = some d := eqI rfl
@[simp] theorem val_pt (ρ : Rho) (i k : Nat) : val ρ (.prt i k) = partD k ρ[i]? := eqI rfl
@[simp] theorem partD_0 (ts ss : List PyData) : partD 0 (some (some (.obj (.led ts ss)))) = some (.list ts) := eqI rfl
@[simp] theorem partD_1 (ts ss : List PyData) : partD 1 (some (some (.obj (.led ts ss)))) = some (.list ss) := eqI rfl
@[simp] theorem val_s (ρ : Rho) (i : Nat) : val ρ (.slt i) = slotD ρ[i]? := eqI rfl
@[simp] theorem slotD_d (d : PyData) : slotD (some (some (.dat d))) = some d := eqI rfl
@[simp] theorem slotD_o (d : PyData) : slotD (some (some (.own d))) = some d := eqI rfl
@[simp] theorem frz_d (ρ : Rho) (d : PyData) : frz ρ (.dat d) = some (d, ρ) := eqI rfl
@[simp] theorem frz_o (ρ : Rho) (d : PyData) : frz ρ (.own d) = some (d, ρ) := eqI rfl
@[simp] theorem frz_s (ρ : Rho) (i : Nat) : frz ρ (.slt i) = (slotD ρ[i]?).map fun d => (d, ρ.set i (some (.dat d))) := eqI rfl
/-- an answer in its place -/
def retO (o : Option R) (ρ : Rho) : Option (Oe R) := match o with
  | some z => some (.ok z ρ)
  | none => none
@[simp] theorem retO_e (z : R) (ρ : Rho) : retO (some z) ρ = some (.ok z ρ) := eqI rfl
def op2R (g : PyData → PyData → Option R) (ρ : Rho) (a b : Option PyData) : Option (Oe R) := match a, b with
  | some d, some e => retO (g d e) ρ
  | _, _ => none
@[simp] theorem op2R_e (g : PyData → PyData → Option R) (ρ : Rho) (d e : PyData) : op2R g ρ (some d) (some e) = retO (g d e) ρ := eqI rfl
theorem map_retO (o : Option R) (ρ : Rho) : (o.map fun z => Oe.ok z ρ) = retO o ρ := by cases o <;> rfl
@[simp] theorem op2M_e (g : PyData → PyData → Option R) (fa fb : EM) (ρ : Rho) : op2M g fa fb ρ = bindO (fa ρ) fun r ρ1 => bindO (fb ρ1) fun s ρ2 => op2R g ρ2 (val ρ2 r) (val ρ2 s) := by
  unfold op2M op2R; simp only [map_retO] <;> rfl
def op1R (g : PyData → Option R) (ρ : Rho) (a : Option PyData) : Option (Oe R) := match a with
  | some d => retO (g d) ρ
  | _ => none
@[simp] theorem op1R_e (g : PyData → Option R) (ρ : Rho) (d : PyData) : op1R g ρ (some d) = retO (g d) ρ := eqI rfl
@[simp] theorem op1M_e (g : PyData → Option R) (fa : EM) (ρ : Rho) : op1M g fa ρ = bindO (fa ρ) fun r ρ1 => op1R g ρ1 (val ρ1 r) := by
  unfold op1M op1R; simp only [map_retO] <;> rfl
@[simp] theorem tmp_d (d : PyData) : tmp (.dat d) = .dat d := eqI rfl
@[simp] theorem tmp_x (c : Nat) (fs : List PyData) : tmp (.ex c fs) = .ex c fs := eqI rfl
@[simp] theorem tmp_o (d : PyData) : tmp (.own d) = .dat d := eqI rfl
@[simp] theorem tmp_s (d : Nat) : tmp (.slt d) = .slt d := eqI rfl
@[simp] theorem nilA_e (ρ : Rho) : nilA ρ = some (.ok [] ρ) := eqI rfl
@[simp] theorem consA_e (fe : EM) (fr : AM) (ρ : Rho) : consA fe fr ρ = bindO (fe ρ) fun r ρ1 => bindO (fr ρ1) fun rs ρ2 => some (.ok (tmp r :: rs) ρ2) := eqI rfl
/-- stilled, then -/
def bindF {β : Type} (o : Option (PyData × Rho)) (g : PyData → Rho → Option β) : Option β := match o with
  | some (d, ρ) => g d ρ
  | none => none
@[simp] theorem bindF_e {β : Type} (d : PyData) (ρ : Rho) (g : PyData → Rho → Option β) : bindF (some (d, ρ)) g = g d ρ := eqI rfl
@[simp] theorem consD_e (fe : EM) (fr : AM) (ρ : Rho) : consD fe fr ρ = bindO (fe ρ) fun r ρ1 => bindF (frz ρ1 r) fun d ρ2 => bindO (fr ρ2) fun rs ρ3 => some (.ok (.dat d :: rs) ρ3) := eqI rfl
def consV (a : Option PyData) (b : Option (List PyData)) : Option (List PyData) := match a, b with
  | some d, some ds => some (d :: ds)
  | _, _ => none
@[simp] theorem consV_e (d : PyData) (ds : List PyData) : consV (some d) (some ds) = some (d :: ds) := eqI rfl
@[simp] theorem vals_0 (ρ : Rho) : vals ρ [] = some [] := eqI rfl
@[simp] theorem vals_c (ρ : Rho) (r : R) (rs : List R) : vals ρ (r :: rs) = consV (val ρ r) (vals ρ rs) := eqI rfl
def opnR (g : List PyData → Option R) (ρ : Rho) (a : Option (List PyData)) : Option (Oe R) := match a with
  | some d => retO (g d) ρ
  | _ => none
@[simp] theorem opnR_e (g : List PyData → Option R) (ρ : Rho) (d : List PyData) : opnR g ρ (some d) = retO (g d) ρ := eqI rfl
@[simp] theorem opnM_e (g : List PyData → Option R) (fa : AM) (ρ : Rho) : opnM g fa ρ = bindO (fa ρ) fun rs ρ1 => opnR g ρ1 (vals ρ1 rs) := by
  unfold opnM opnR; simp only [map_retO]
  congr; funext rs ρ1; cases vals ρ1 rs <;> rfl
@[simp] theorem on1_e (g : PyData → Option R) (d : PyData) : on1 g [d] = g d := eqI rfl
@[simp] theorem on2_e (g : PyData → PyData → Option R) (d e : PyData) : on2 g [d, e] = g d e := eqI rfl
@[simp] theorem dats_0 : dats [] = some [] := eqI rfl
@[simp] theorem dats_c (d : PyData) (rs : List R) : dats (.dat d :: rs) = (dats rs).map (d :: ·) := eqI rfl
def tupR (o : Option (List PyData)) (ρ : Rho) : Option (Oe R) := match o with
  | some ds => if ds.length ≤ 100000 then some (.ok (.dat (.tuple ds)) ρ) else none
  | none => none
@[simp] theorem tupR_e (ds : List PyData) (ρ : Rho) : tupR (some ds) ρ = if ds.length ≤ 100000 then some (.ok (.dat (.tuple ds)) ρ) else none := eqI rfl
@[simp] theorem tupM_e (fa : AM) (ρ : Rho) : tupM fa ρ = bindO (fa ρ) fun rs ρ1 => tupR (dats rs) ρ1 := eqI rfl
def lstR (o : Option (List PyData)) (ρ : Rho) : Option (Oe R) := match o with
  | some ds => if ds.length ≤ 100000 then some (.ok (.own (.list ds)) ρ) else none
  | none => none
@[simp] theorem lstR_e (ds : List PyData) (ρ : Rho) : lstR (some ds) ρ = if ds.length ≤ 100000 then some (.ok (.own (.list ds)) ρ) else none := eqI rfl
@[simp] theorem lstM_e (fa : AM) (ρ : Rho) : lstM fa ρ = bindO (fa ρ) fun rs ρ1 => lstR (dats rs) ρ1 := eqI rfl
/-- the second comparison -/
def chR (o : Option R) (k : EM) (ρ : Rho) : Option (Oe R) := match o with
  | some (.dat (.bool true)) => k ρ
  | some (.dat (.bool false)) => some (.ok (.dat (.bool false)) ρ)
  | _ => none
@[simp] theorem chR_e (b : Bool) (k : EM) (ρ : Rho) : chR (some (.dat (.bool b))) k ρ = pick b k (cM (.bool false)) ρ := by cases b <;> rfl
def chR2 (g : PyData → PyData → Option R) (a b : Option PyData) (k : EM) (ρ : Rho) : Option (Oe R) := match a, b with
  | some d, some e => chR (g d e) k ρ
  | _, _ => none
@[simp] theorem chR2_e (g : PyData → PyData → Option R) (d e : PyData) (k : EM) (ρ : Rho) : chR2 g (some d) (some e) k ρ = chR (g d e) k ρ := eqI rfl
@[simp] theorem chM_e (g g' : PyData → PyData → Option R) (fa fb fc : EM) (ρ : Rho) : chM g g' fa fb fc ρ = bindO (fa ρ) fun r ρ1 => bindO (fb ρ1) fun s ρ2 => chR2 g (val ρ2 r) (val ρ2 s) (fun ρ => bindO (fc ρ) fun t ρ3 => op2R g' ρ3 (val ρ3 s) (val ρ3 t)) ρ2 := by
  unfold chM chR2 chR op2R; simp only [map_retO] <;> rfl
def nxO (o : Option Rho) : Option Ot := match o with
  | some ρ => some (.nx ρ)
  | none => none
@[simp] theorem nxO_e (ρ : Rho) : nxO (some ρ) = some (.nx ρ) := eqI rfl
theorem map_nxO (o : Option Rho) : o.map Ot.nx = nxO o := by cases o <;> rfl
@[simp] theorem asR_d (ρ : Rho) (i : Nat) (d : PyData) : asR ρ i (.dat d) = some (ρ.set i (some (.dat d))) := eqI rfl
@[simp] theorem asR_o (ρ : Rho) (i : Nat) (d : PyData) : asR ρ i (.own d) = some (ρ.set i (some (.own d))) := eqI rfl
@[simp] theorem asR_ob (ρ : Rho) (i : Nat) (d : OD) : asR ρ i (.obj d) = some (ρ.set i (some (.obj d))) := eqI rfl
@[simp] theorem asR_s (ρ : Rho) (i j : Nat) : asR ρ i (.slt j) = (slotD ρ[j]?).map fun d => (ρ.set j (some (.dat d))).set i (some (.dat d)) := by
  show ((slotD ρ[j]?).map _).map _ = _
  rw [Option.map_map]; rfl
@[simp] theorem asgM_e (i : Nat) (f : EM) (ρ : Rho) : asgM i f ρ = bindS (f ρ) fun r ρ1 => nxO (asR ρ1 i r) := by
  unfold asgM; simp only [map_nxO]
def rtO (o : Option (R × Rho)) : Option Ot := match o with
  | some p => some (.rt p.1 p.2)
  | none => none
@[simp] theorem rtO_e (r : R) (ρ : Rho) : rtO (some (r, ρ)) = some (.rt r ρ) := eqI rfl
@[simp] theorem retR_d (n : Nat) (ρ : Rho) (d : PyData) : retR n ρ (.dat d) = some (.dat d, ρ) := eqI rfl
@[simp] theorem retR_o (n : Nat) (ρ : Rho) (d : PyData) : retR n ρ (.own d) = some (.own d, ρ) := eqI rfl
def rtR (n i : Nat) (ρ : Rho) (o : Option (Option R)) : Option (R × Rho) := if i < n then (slotD o).map fun d => (.dat d, ρ.set i (some (.dat d))) else match o with
    | some (some (.own d)) => some (.own d, ρ.set i none)
    | some (some (.dat d)) => some (.dat d, ρ)
    | some (some (.obj d)) => some (.obj d, ρ.set i none)
    | _ => none
@[simp] theorem rtR_ob {n i : Nat} (h : ¬ i < n) (ρ : Rho) (d : OD) : rtR n i ρ (some (some (.obj d))) = some (.obj d, ρ.set i none) := by unfold rtR; rw [if_neg h]
@[simp] theorem rtR_o (n i : Nat) (ρ : Rho) (d : PyData) : rtR n i ρ (some (some (.own d))) = if i < n then some (.dat d, ρ.set i (some (.dat d))) else some (.own d, ρ.set i none) := by unfold rtR; split <;> rfl
@[simp] theorem rtR_d (n i : Nat) (ρ : Rho) (d : PyData) : rtR n i ρ (some (some (.dat d))) = if i < n then some (.dat d, ρ.set i (some (.dat d))) else some (.dat d, ρ) := by unfold rtR; split <;> rfl
@[simp] theorem retR_ob (n : Nat) (ρ : Rho) (d : OD) : retR n ρ (.obj d) = some (.obj d, ρ) := eqI rfl
@[simp] theorem retR_t (n : Nat) (ρ : Rho) (d e : PyData) : retR n ρ (.two d e) = some (.two d e, ρ) := eqI rfl
@[simp] theorem retR_s (n : Nat) (ρ : Rho) (i : Nat) : retR n ρ (.slt i) = rtR n i ρ ρ[i]? := by
  unfold retR rtR; simp only [frz_s, Option.map_map]; rfl
@[simp] theorem retM_e (n : Nat) (f : EM) (ρ : Rho) : retM n f ρ = bindS (f ρ) fun r ρ1 => rtO (retR n ρ1 r) := by
  unfold retM; congr; funext r ρ1; cases retR n ρ1 r <;> rfl
@[simp] theorem retN_e (ρ : Rho) : retN ρ = some (.rt (.dat .none) ρ) := eqI rfl
@[simp] theorem raiseM_e (c : Nat) (ρ : Rho) : raiseM c ρ = some (.er c [] ρ) := eqI rfl
@[simp] theorem isList_e (ds : List PyData) : isList (some (some (.own (.list ds)))) = true := eqI rfl
def appR (i : Nat) (d : PyData) (ρ : Rho) (o : Option (Option R)) : Option Ot := match o with
  | some (some (.own (.list ds))) => if ds.length < lim then some (.nx (ρ.set i (some (.own (.list (ds ++ [d])))))) else none
  | _ => none
@[simp] theorem appR_e (i : Nat) (d : PyData) (ρ : Rho) (ds : List PyData) : appR i d ρ (some (some (.own (.list ds)))) = if ds.length < lim then some (.nx (ρ.set i (some (.own (.list (ds ++ [d])))))) else none := eqI rfl
@[simp] theorem appM_e (i : Nat) (fe : EM) (ρ : Rho) : appM i fe ρ = pick (isList ρ[i]?) (fun ρ => bindS (fe ρ) fun r ρ1 => bindF (frz ρ1 r) fun d ρ2 => appR i d ρ2 ρ2[i]?) (fun _ => none) ρ := eqI rfl
def setR (s : Nat) (d : PyData) (ri : R) (ρ : Rho) (o : Option (Option R)) : Option Ot := match ri, o with
  | .dat (.int k), some (some (.own (.list ds))) => nxO ((ixN ds.length k).map fun j => ρ.set s (some (.own (.list (ds.set j d)))))
  | _, _ => none
@[simp] theorem setR_e (s : Nat) (d : PyData) (k : Int) (ρ : Rho) (ds : List PyData) : setR s d (.dat (.int k)) ρ (some (some (.own (.list ds)))) = nxO ((ixN ds.length k).map fun j => ρ.set s (some (.own (.list (ds.set j d))))) := eqI rfl
@[simp] theorem setM_e (s : Nat) (fi fe : EM) (ρ : Rho) : setM s fi fe ρ = bindS (fe ρ) fun r ρ1 => bindF (frz ρ1 r) fun d ρ2 => pick (isList ρ2[s]?) (fun ρ => bindS (fi ρ) fun ri ρ3 => setR s d ri ρ3 ρ3[s]?) (fun _ => none) ρ2 := by
  unfold setM setR pick bindF
  congr; funext r ρ1; cases frz ρ1 r with
  | none => rfl
  | some p =>
    obtain ⟨d, ρ2⟩ := p
    simp only
    congr; funext ri ρ3
    simp only [← map_nxO, Option.map_map]
    rfl
/-- kept in a slot, then -/
def bindV (o : Option (R × Rho)) (g : R → Rho → Option Ot) : Option Ot := match o with
  | some (d, ρ) => g d ρ
  | none => none
@[simp] theorem bindV_e (d : R) (ρ : Rho) (g : R → Rho → Option Ot) : bindV (some (d, ρ)) g = g d ρ := eqI rfl
@[simp] theorem sv_d (ρ : Rho) (d : PyData) : sv ρ (.dat d) = some (.dat d, ρ) := eqI rfl
@[simp] theorem sv_o (ρ : Rho) (d : PyData) : sv ρ (.own d) = some (.own d, ρ) := eqI rfl
@[simp] theorem sv_s (ρ : Rho) (i : Nat) : sv ρ (.slt i) = (slotD ρ[i]?).map fun d => (.dat d, ρ.set i (some (.dat d))) := by
  show ((slotD ρ[i]?).map _).map _ = _
  rw [Option.map_map]; rfl
@[simp] theorem parM_e (i j : Nat) (fa fb : EM) (ρ : Rho) : parM i j fa fb ρ = bindS (fa ρ) fun r ρ1 => bindV (sv ρ1 r) fun r' ρ2 => bindS (fb ρ2) fun s ρ3 => bindV (sv ρ3 s) fun s' ρ4 => some (.nx ((ρ4.set i (some r')).set j (some s'))) := eqI rfl
@[simp] theorem parM3_e (i j l : Nat) (fa fb fc : EM) (ρ : Rho) : parM3 i j l fa fb fc ρ = bindS (fa ρ) fun r ρ1 => bindV (sv ρ1 r) fun r' ρ2 => bindS (fb ρ2) fun s ρ3 => bindV (sv ρ3 s) fun s' ρ4 => bindS (fc ρ4) fun t ρ5 => bindV (sv ρ5 t) fun t' ρ6 => some (.nx (((ρ6.set i (some r')).set j (some s')).set l (some t'))) := eqI rfl
@[simp] theorem asgTM_e (g : GM) (fe : EM) (ρ : Rho) : asgTM g fe ρ = bindS (fe ρ) fun r ρ1 => bindF (frz ρ1 r) fun d ρ2 => nxO (g d ρ2) := by
  unfold asgTM bindF; simp only [map_nxO] <;> rfl
@[simp] theorem gnM_e (i : Nat) (d : PyData) (ρ : Rho) : gnM i d ρ = some (ρ.set i (some (.dat d))) := eqI rfl
@[simp] theorem gs0_e (ρ : Rho) : gs0 [] ρ = some ρ := eqI rfl
def bindG (o : Option Rho) (g : Rho → Option Rho) : Option Rho := match o with
  | some ρ => g ρ
  | none => none
@[simp] theorem bindG_e (ρ : Rho) (g : Rho → Option Rho) : bindG (some ρ) g = g ρ := eqI rfl
@[simp] theorem gtM_e (gs : GsM) (ds : List PyData) (ρ : Rho) : gtM gs (.tuple ds) ρ = gs ds ρ := eqI rfl
@[simp] theorem itemsOf_l (ds : List PyData) : itemsOf (.list ds) = some ds := eqI rfl
@[simp] theorem itemsOf_t (ds : List PyData) : itemsOf (.tuple ds) = some ds := eqI rfl
def okI (o : Option (List PyData)) (ρ : Rho) : Option (Oe (List PyData)) := match o with
  | some ds => some (.ok ds ρ)
  | none => none
@[simp] theorem okI_e (ds : List PyData) (ρ : Rho) : okI (some ds) ρ = some (.ok ds ρ) := eqI rfl
@[simp] theorem iM_e (f : EM) (ρ : Rho) : iM f ρ = bindO (f ρ) fun r ρ1 => bindF (frz ρ1 r) fun d ρ2 => okI (itemsOf d) ρ2 := by
  unfold iM bindF; congr; funext r ρ1; cases frz ρ1 r with
  | none => rfl
  | some p =>
    obtain ⟨d, ρ2⟩ := p
    show (itemsOf d).map _ = okI (itemsOf d) ρ2
    cases itemsOf d <;> rfl
def rg1 (r : R) (ρ : Rho) : Option (Oe (List PyData)) := match r with
  | .dat (.int j) => if inW j = true then some (.ok (rngL 0 j.toNat) ρ) else none
  | _ => none
theorem rg1_is {j : Int} (ρ : Rho) (h1 : -4611686018427387904 ≤ j) (h2 : j < 4611686018427387904) : rg1 (.dat (.int j)) ρ = some (.ok (rngL 0 j.toNat) ρ) := if_pos (inW_is h1 h2)
@[simp] theorem irM1_e (f : EM) (ρ : Rho) : irM1 f ρ = bindO (f ρ) rg1 := eqI rfl
def rg2 (r s : R) (ρ : Rho) : Option (Oe (List PyData)) := match r, s with
  | .dat (.int i), .dat (.int j) => if inW i = true ∧ inW j = true then some (.ok (rngL i (j - i).toNat) ρ) else none
  | _, _ => none
@[simp] theorem irM2_e (f g : EM) (ρ : Rho) : irM2 f g ρ = bindO (f ρ) fun r ρ1 => bindO (g ρ1) fun s ρ2 => rg2 r s ρ2 := eqI rfl
@[simp] theorem wipeR_0 (ρ : Rho) : wipeR ρ [] = ρ := eqI rfl
@[simp] theorem wipeR_c (ρ : Rho) (v : Nat) (vs : List Nat) : wipeR ρ (v :: vs) = (wipeR ρ vs).set v none := eqI rfl
@[simp] theorem gsC_e (g : GM) (gs : GsM) (d : PyData) (ds : List PyData) (ρ : Rho) : gsC g gs (d :: ds) ρ = bindG (g d ρ) (gs ds) := by
  show (g d ρ).bind (gs ds) = bindG (g d ρ) (gs ds)
  unfold bindG
  cases g d ρ <;> rfl
def bindP (o : Option (List R)) (g : List R → Option (Oe R)) : Option (Oe R) := match o with
  | some a => g a
  | none => none
@[simp] theorem bindP_e (a : List R) (g : List R → Option (Oe R)) : bindP (some a) g = g a := eqI rfl
/-- behind a call -/
def bkO (o : Option (Oe R)) (ρ : Rho) (rs : List R) : Option (Oe R) := match o with
  | some (.ok r os) => some (.ok r (backA ρ rs os))
  | some (.er c fs os) => some (.er c fs (backA ρ rs os))
  | none => none
@[simp] theorem bkO_ok (r : R) (os ρ : Rho) (rs : List R) : bkO (some (.ok r os)) ρ rs = some (.ok r (backA ρ rs os)) := eqI rfl
@[simp] theorem bkO_er (c : Nat) (fs : List PyData) (os ρ : Rho) (rs : List R) : bkO (some (.er c fs os)) ρ rs = some (.er c fs (backA ρ rs os)) := eqI rfl
@[simp] theorem callM_e (sem : Sem) (fa : AM) (ρ : Rho) : callM sem fa ρ = bindO (fa ρ) fun rs ρ1 => pick (dist rs) (fun ρ => bindP (passA ρ rs) fun as => bkO (sem as) ρ rs) (fun _ => none) ρ1 := by
  unfold callM pick bindP bkO
  rfl
@[simp] theorem dist_0 : dist [] = true := eqI rfl
@[simp] theorem dist_d (d : PyData) (rs : List R) : dist (.dat d :: rs) = dist rs := eqI rfl
@[simp] theorem dist_o (d : PyData) (rs : List R) : dist (.own d :: rs) = dist rs := eqI rfl
@[simp] theorem dist_ob' (o : OD) (rs : List R) : dist (.obj o :: rs) = (noOb rs && dist rs) := eqI rfl
@[simp] theorem noOb_0 : noOb [] = true := eqI rfl
@[simp] theorem noOb_d (d : PyData) (rs : List R) : noOb (.dat d :: rs) = noOb rs := eqI rfl
@[simp] theorem noOb_s (i : Nat) (rs : List R) : noOb (.slt i :: rs) = noOb rs := eqI rfl
@[simp] theorem posOf_ob (j : Nat) (o : OD) (rs : List R) : posOf j (.obj o :: rs) = (posOf j rs).map (· + 1) := eqI rfl
@[simp] theorem pass1_led (ρ : Rho) (ts ss : List PyData) : pass1 ρ (.obj (.led ts ss)) = some (.obj (.led ts ss)) := eqI rfl
@[simp] theorem pass1_dsk (ρ : Rho) (ts ss : List PyData) : pass1 ρ (.obj (.dsk ts ss)) = some (.obj (.dsk ts ss)) := eqI rfl
@[simp] theorem pass1_exs (ρ : Rho) (cs : List (Nat × List PyData)) : pass1 ρ (.obj (.exs cs)) = some (.obj (.exs cs)) := eqI rfl
@[simp] theorem pass1_many (ρ : Rho) (b : Bool) (xs : List (Option (List PyData × List PyData))) : pass1 ρ (.obj (.many b xs)) = if xs.all Option.isSome = true then some (.obj (.many b xs)) else none := eqI rfl
@[simp] theorem dist_s (i : Nat) (rs : List R) : dist (.slt i :: rs) = ((posOf i rs).isNone && dist rs) := eqI rfl
@[simp] theorem posOf_0 (j : Nat) : posOf j [] = none := eqI rfl
@[simp] theorem posOf_d (j : Nat) (d : PyData) (rs : List R) : posOf j (.dat d :: rs) = (posOf j rs).map (· + 1) := eqI rfl
@[simp] theorem posOf_s (j i : Nat) (rs : List R) : posOf j (.slt i :: rs) = if (i == j) = true then some 0 else (posOf j rs).map (· + 1) := eqI rfl
@[simp] theorem passA_0 (ρ : Rho) : passA ρ [] = some [] := eqI rfl
def consP (a : Option R) (b : Option (List R)) : Option (List R) := match a, b with
  | some d, some ds => some (d :: ds)
  | _, _ => none
@[simp] theorem consP_e (d : R) (ds : List R) : consP (some d) (some ds) = some (d :: ds) := eqI rfl
@[simp] theorem passA_c (ρ : Rho) (r : R) (rs : List R) : passA ρ (r :: rs) = consP (pass1 ρ r) (passA ρ rs) := eqI rfl
@[simp] theorem pass1_d (ρ : Rho) (d : PyData) : pass1 ρ (.dat d) = some (.dat d) := eqI rfl
def p1 (o : Option (Option R)) : Option R := match o with
    | some (some (.own d)) => some (.own d)
    | some (some (.dat d)) => some (.dat d)
    | some (some (.st xs)) => some (.st xs)
    | some (some (.obj o)) => if okO o = true then some (.obj o) else none
    | _ => none
@[simp] theorem p1_led (ts ss : List PyData) : p1 (some (some (.obj (.led ts ss)))) = some (.obj (.led ts ss)) := eqI rfl
@[simp] theorem p1_exs (cs : List (Nat × List PyData)) : p1 (some (some (.obj (.exs cs)))) = some (.obj (.exs cs)) := eqI rfl
@[simp] theorem p1_dsk (ts ss : List PyData) : p1 (some (some (.obj (.dsk ts ss)))) = some (.obj (.dsk ts ss)) := eqI rfl
@[simp] theorem p1_many (b : Bool) (xs : List (Option (List PyData × List PyData))) : p1 (some (some (.obj (.many b xs)))) = if xs.all Option.isSome = true then some (.obj (.many b xs)) else none := eqI rfl
@[simp] theorem p1_o (d : PyData) : p1 (some (some (.own d))) = some (.own d) := eqI rfl
@[simp] theorem p1_d (d : PyData) : p1 (some (some (.dat d))) = some (.dat d) := eqI rfl
@[simp] theorem p1_s (d : List Int) : p1 (some (some (.st d))) = some (.st d) := eqI rfl
@[simp] theorem pass1_x (ρ : Rho) (c : Nat) (fs : List PyData) : pass1 ρ (.ex c fs) = some (.ex c fs) := eqI rfl
@[simp] theorem pass1_s (ρ : Rho) (i : Nat) : pass1 ρ (.slt i) = p1 ρ[i]? := eqI rfl
/-- a slot behind a call -/
def bk1 (x : Option R) (o : Option Nat) (os : Rho) : Option R := if isOwn x = true then match o with
    | some k => mend x os[k]?.join
    | none => x
  else x
@[simp] theorem mend_n (x : Option R) : mend x none = none := eqI rfl
@[simp] theorem mend_d (x : Option R) (d : PyData) : mend x (some (.dat d)) = some (.dat d) := eqI rfl
@[simp] theorem mend_o (x : Option R) (d : PyData) : mend x (some (.own d)) = some (.own d) := eqI rfl
@[simp] theorem mend_s (x : Option R) (d : List Int) : mend x (some (.st d)) = some (.st d) := eqI rfl
@[simp] theorem mend_ob (o d : OD) : mend (some (.obj o)) (some (.obj d)) = some (.obj d) := eqI rfl
@[simp] theorem bk1_obo (d : OD) (os : Rho) : bk1 (some (.obj d)) none os = some (.obj d) := eqI rfl
@[simp] theorem bk1_obp (d : OD) (k : Nat) (os : Rho) : bk1 (some (.obj d)) (some k) os = mend (some (.obj d)) os[k]?.join := eqI rfl
@[simp] theorem bk1_x (x : Option R) (os : Rho) : bk1 x none os = x := by unfold bk1; split <;> rfl
@[simp] theorem bk1_n (o : Option Nat) (os : Rho) : bk1 none o os = none := eqI rfl
@[simp] theorem bk1_d (d : PyData) (o : Option Nat) (os : Rho) : bk1 (some (.dat d)) o os = some (.dat d) := eqI rfl
@[simp] theorem bk1_o (d : PyData) (os : Rho) : bk1 (some (.own d)) none os = some (.own d) := eqI rfl
@[simp] theorem bk1_p (d : PyData) (k : Nat) (os : Rho) : bk1 (some (.own d)) (some k) os = mend (some (.own d)) os[k]?.join := eqI rfl
@[simp] theorem bk1_so (d : List Int) (os : Rho) : bk1 (some (.st d)) none os = some (.st d) := eqI rfl
@[simp] theorem bk1_sp (d : List Int) (k : Nat) (os : Rho) : bk1 (some (.st d)) (some k) os = mend (some (.st d)) os[k]?.join := eqI rfl
def bkL (rs : List R) (os : Rho) : Nat → Rho → Rho
  | _, [] => []
  | j, x :: xs => bk1 x (posOf j rs) os :: bkL rs os (j + 1) xs
@[simp] theorem bkL_0 (rs : List R) (os : Rho) (j : Nat) : bkL rs os j [] = [] := eqI rfl
@[simp] theorem bkL_c (rs : List R) (os : Rho) (j : Nat) (x : Option R) (xs : Rho) : bkL rs os j (x :: xs) = bk1 x (posOf j rs) os :: bkL rs os (j + 1) xs := eqI rfl
theorem bkL_is (rs : List R) (os : Rho) : ∀ (ρ : Rho) (j : Nat), bkL rs os j ρ = ρ.mapIdx fun i x => bk1 x (posOf (i + j) rs) os
  | [], _ => rfl
  | x :: xs, j => by
    rw [List.mapIdx_cons, bkL_c, bkL_is rs os xs (j + 1), Nat.zero_add]
    congr 1
    congr 1
    funext i y
    rw [Nat.add_assoc, Nat.add_comm 1 j]
@[simp] theorem backA_e (ρ : Rho) (rs : List R) (os : Rho) : backA ρ rs os = bkL rs os 0 ρ := by rw [bkL_is]; rfl
/-- the end of a def's run -/
def fnR (n : Nat) (pr : Nat → Bool) (o : Option Ot) : Option (Oe R) := match o with
    | some (.nx ρ) => some (.ok (.dat .none) (outs n pr ρ))
    | some (.rt r ρ) => some (.ok r (outs n pr ρ))
    | some (.er c fs ρ) => some (.er c fs (outs n pr ρ))
    | _ => none
@[simp] theorem fnR_nx (n : Nat) (pr : Nat → Bool) (ρ : Rho) : fnR n pr (some (.nx ρ)) = some (.ok (.dat .none) (outs n pr ρ)) := eqI rfl
@[simp] theorem fnR_rt (n : Nat) (pr : Nat → Bool) (r : R) (ρ : Rho) : fnR n pr (some (.rt r ρ)) = some (.ok r (outs n pr ρ)) := eqI rfl
@[simp] theorem fnR_er (n : Nat) (pr : Nat → Bool) (c : Nat) (fs : List PyData) (ρ : Rho) : fnR n pr (some (.er c fs ρ)) = some (.er c fs (outs n pr ρ)) := eqI rfl
theorem outs_1 (pr : Nat → Bool) (ρ : Rho) : outs 1 pr ρ = [if pr 0 = true then ρ[0]?.join else none] := rfl
theorem outs_2 (pr : Nat → Bool) (ρ : Rho) : outs 2 pr ρ = [if pr 0 = true then ρ[0]?.join else none, if pr 1 = true then ρ[1]?.join else none] := rfl
@[simp] theorem dPlus_i (i j : Int) : dPlus (.int i) (.int j) = some (.dat (.int (i + j))) := eqI rfl
@[simp] theorem dPlus_l (i j : List PyData) : dPlus (.list i) (.list j) = if i.length + j.length ≤ lim then some (.own (.list (i ++ j))) else none := eqI rfl
@[simp] theorem dPlus_t (i j : List PyData) : dPlus (.tuple i) (.tuple j) = if i.length + j.length ≤ lim then some (.dat (.tuple (i ++ j))) else none := eqI rfl
@[simp] theorem dMinus_i (i j : Int) : dMinus (.int i) (.int j) = some (.dat (.int (i - j))) := eqI rfl
@[simp] theorem dMul_i (i j : Int) : dMul (.int i) (.int j) = if i.natAbs.log2 + j.natAbs.log2 < 1000000 then some (.dat (.int (i * j))) else none := eqI rfl
@[simp] theorem dFd_i (i j : Int) : dFd (.int i) (.int j) = if j ≠ 0 ∧ j.natAbs.log2 < 9000 then some (.dat (.int (i.fdiv j))) else none := eqI rfl
@[simp] theorem dMod_i (i j : Int) : dMod (.int i) (.int j) = if j ≠ 0 then some (.dat (.int (i.fmod j))) else none := eqI rfl
@[simp] theorem dNeg_i (i : Int) : dNeg (.int i) = some (.dat (.int (-i))) := eqI rfl
@[simp] theorem dLt_i (i j : Int) : dLt (.int i) (.int j) = some (.dat (.bool (decide (i < j)))) := eqI rfl
@[simp] theorem dLe_i (i j : Int) : dLe (.int i) (.int j) = some (.dat (.bool (decide (i ≤ j)))) := eqI rfl
@[simp] theorem dGt_i (i j : Int) : dGt (.int i) (.int j) = some (.dat (.bool (decide (j < i)))) := eqI rfl
@[simp] theorem dGe_i (i j : Int) : dGe (.int i) (.int j) = some (.dat (.bool (decide (j ≤ i)))) := eqI rfl
@[simp] theorem dIx_l (xs : List PyData) (i : Int) : dIx (.list xs) (.int i) = (atI xs i).map R.dat := eqI rfl
@[simp] theorem dIx_t (xs : List PyData) (i : Int) : dIx (.tuple xs) (.int i) = (atI xs i).map R.dat := eqI rfl
@[simp] theorem dEq_i (i j : Int) : dEq (.int i) (.int j) = some (.dat (.bool (decide (i = j)))) := by
  show (if SeqAt.shaped (.int i) = true ∧ SeqAt.shaped (.int j) = true then some (R.dat (.bool (PyData.eqv (.int i) (.int j)))) else none) = _
  rw [if_pos ⟨rfl, rfl⟩]; rfl
@[simp] theorem dNe_i (i j : Int) : dNe (.int i) (.int j) = some (.dat (.bool (!decide (i = j)))) := by
  show (if SeqAt.shaped (.int i) = true ∧ SeqAt.shaped (.int j) = true then some (R.dat (.bool (!PyData.eqv (.int i) (.int j)))) else none) = _
  rw [if_pos ⟨rfl, rfl⟩]; rfl
@[simp] theorem dEq_s (i j : Str) : dEq (.str i) (.str j) = some (.dat (.bool (decide (i = j)))) := eqI rfl
@[simp] theorem dNe_s (i j : Str) : dNe (.str i) (.str j) = some (.dat (.bool (!decide (i = j)))) := eqI rfl
@[simp] theorem lenD_l (ds : List PyData) : lenD (.list ds) = some (.dat (.int ds.length)) := eqI rfl
@[simp] theorem lenD_t (ds : List PyData) : lenD (.tuple ds) = some (.dat (.int ds.length)) := eqI rfl
@[simp] theorem tupD_l (ds : List PyData) : tupD (.list ds) = some (.dat (.tuple ds)) := eqI rfl
@[simp] theorem tupD_t (ds : List PyData) : tupD (.tuple ds) = some (.dat (.tuple ds)) := eqI rfl
@[simp] theorem lstD_l (ds : List PyData) : lstD (.list ds) = some (.own (.list ds)) := eqI rfl
@[simp] theorem lstD_t (ds : List PyData) : lstD (.tuple ds) = some (.own (.list ds)) := eqI rfl
@[simp] theorem intD_i (i : Int) : intD (.int i) = some (.dat (.int i)) := eqI rfl
@[simp] theorem intD_b (i : Bool) : intD (.bool i) = some (.dat (.int (if i then 1 else 0))) := eqI rfl
@[simp] theorem absD_i (i : Int) : absD (.int i) = some (.dat (.int (if i < 0 then -i else i))) := eqI rfl
@[simp] theorem max2D_i (i j : Int) : max2D (.int i) (.int j) = some (.dat (.int (if j > i then j else i))) := eqI rfl
@[simp] theorem min2D_i (i j : Int) : min2D (.int i) (.int j) = some (.dat (.int (if j < i then j else i))) := eqI rfl
@[simp] theorem sumD_l (ns : List Int) : sumD (.list (ns.map PyData.int)) = some (.dat (.int ns.sum)) := by simp [sumD]
@[simp] theorem sumD_t (ns : List Int) : sumD (.tuple (ns.map PyData.int)) = some (.dat (.int ns.sum)) := by simp [sumD]
@[simp] theorem allD_l (bs : List Bool) : allD (.list (bs.map PyData.bool)) = some (.dat (.bool (bs.all id))) := by simp [allD]
@[simp] theorem anyD_l (bs : List Bool) : anyD (.list (bs.map PyData.bool)) = some (.dat (.bool (bs.any id))) := by simp [anyD]
theorem atI_nn {α : Type} (xs : List α) (i : Int) (h : 0 ≤ i) : atI xs i = xs[i.toNat]? := by
  unfold atI ixN
  rw [if_pos h]
  split
  · rfl
  · rename_i g
    show none = _
    rw [List.getElem?_eq_none]
    omega
@[simp] theorem forM_e (it : IM) (g : GM) (body : SM) (ρ : Rho) : forM it g body ρ = bindS (it ρ) fun ds ρ1 => forL g body ds ρ1 := eqI rfl
@[simp] theorem lcM_e (it : IM) (g : GM) (vs : List Nat) (c : Rho → Option (Oe Bool)) (f : EM) (ρ : Rho) : lcM it g vs c f ρ = bindO (it ρ) fun ds ρ1 => lcL g vs c f ds (wipeR ρ1 vs) [] := eqI rfl
/-- a loop whose every turn goes on: I holds ahead of each -/
theorem forL_inv {g : GM} {body : SM} (I : List PyData → Rho → Prop) : ∀ (xs : List PyData) (ρ : Rho), I xs ρ →
    (∀ x r ρ, I (x :: r) ρ → ∃ ρ1 ρ2, g x ρ = some ρ1 ∧ (body ρ1 = some (.nx ρ2) ∨ body ρ1 = some (.ct ρ2)) ∧ I r ρ2) → ∃ ρ', forL g body xs ρ = some (.nx ρ') ∧ I [] ρ'
  | [], ρ, h, _ => ⟨ρ, rfl, h⟩
  | x :: r, ρ, h, st => by
    obtain ⟨ρ1, ρ2, e1, e2, h2⟩ := st x r ρ h
    obtain ⟨ρ', e3, h3⟩ := forL_inv I r ρ2 h2 st
    refine ⟨ρ', ?_, h3⟩
    show (match g x ρ with | none => none | some ρ1 => match body ρ1 with | some (.nx ρ2) => forL g body r ρ2 | some (.ct ρ2) => forL g body r ρ2 | some (.bk ρ2) => some (.nx ρ2) | o => o) = _
    rw [e1]
    rcases e2 with e2 | e2 <;> (simp only [e2]; exact e3)
end DL
namespace DL
open PySem L2
theorem canLayAll_of : ∀ {ds : List PyData}, (∀ d ∈ ds, d.canLay0 = true) → PyData.canLayAll0 ds = true
  | [], _ => by simp [PyData.canLayAll0]
  | d :: r, h => by
    simp only [PyData.canLayAll0, Bool.and_eq_true]
    exact ⟨h d (List.mem_cons_self ..), canLayAll_of fun x hx => h x (List.mem_cons_of_mem _ hx)⟩
theorem depthAll_of {n : Nat} : ∀ {ds : List PyData}, (∀ d ∈ ds, d.depth ≤ n) → PyData.depthAll ds ≤ n
  | [], _ => by simp [PyData.depthAll]
  | d :: r, h => by
    simp only [PyData.depthAll]
    exact Nat.max_le.mpr ⟨h d (List.mem_cons_self ..), depthAll_of fun x hx => h x (List.mem_cons_of_mem _ hx)⟩
theorem showableAll_of : ∀ {ds : List PyData}, (∀ d ∈ ds, d.showable = true) → PyData.showableAll ds = true
  | [], _ => by simp [PyData.showableAll]
  | d :: r, h => by
    simp only [PyData.showableAll, Bool.and_eq_true]
    exact ⟨h d (List.mem_cons_self ..), showableAll_of fun x hx => h x (List.mem_cons_of_mem _ hx)⟩
theorem shownAll_len {n : Nat} : ∀ {ds : List PyData}, (∀ d ∈ ds, d.shown.length ≤ n) → ((PyData.shownAll ds).map (·.length)).sum ≤ n * ds.length ∧ (PyData.shownAll ds).length = ds.length
  | [], _ => by simp [PyData.shownAll]
  | d :: r, h => by
    obtain ⟨a, b⟩ := shownAll_len (ds := r) fun x hx => h x (List.mem_cons_of_mem _ hx)
    have c := h d (List.mem_cons_self ..)
    simp only [PyData.shownAll, List.map_cons, List.sum_cons, List.length_cons, b, Nat.mul_add, Nat.mul_one]
    exact ⟨by omega, trivial⟩
/-- may be compared -/
structure Eqb (m : Nat) (d : PyData) : Prop where
  l : d.canLay0 = true
  p : d.depth ≤ m
theorem Eqb.int (i : Int) : Eqb 0 (.int i) := ⟨rfl, Nat.le_refl 0⟩
theorem Eqb.bool (i : Bool) : Eqb 0 (.bool i) := ⟨rfl, Nat.le_refl 0⟩
theorem Eqb.none : Eqb 0 .none := ⟨rfl, Nat.le_refl 0⟩
theorem Eqb.mono {m n : Nat} {d : PyData} (h : Eqb m d) (l : m ≤ n) : Eqb n d := ⟨h.l, Nat.le_trans h.p l⟩
theorem Eqb.list {m : Nat} {ds : List PyData} (h : ∀ d ∈ ds, Eqb m d) : Eqb (m + 1) (.list ds) :=
  ⟨by simp only [PyData.canLay0]; exact canLayAll_of fun d hd => (h d hd).l, by simp only [PyData.depth]; exact Nat.succ_le_succ (depthAll_of fun d hd => (h d hd).p)⟩
theorem Eqb.tuple {m : Nat} {ds : List PyData} (h : ∀ d ∈ ds, Eqb m d) : Eqb (m + 1) (.tuple ds) :=
  ⟨by simp only [PyData.canLay0]; exact canLayAll_of fun d hd => (h d hd).l, by simp only [PyData.depth]; exact Nat.succ_le_succ (depthAll_of fun d hd => (h d hd).p)⟩
theorem Eqb.shaped {m : Nat} {d : PyData} (h : Eqb m d) (l : m ≤ 64) : SeqAt.shaped d = true := by
  unfold SeqAt.shaped
  rw [h.l, Bool.true_and, decide_eq_true_eq]
  exact Nat.le_trans h.p l
theorem dNe_of {d e : PyData} {m n : Nat} (h : Eqb m d) (h2 : Eqb n e) (l : m ≤ 64) (l2 : n ≤ 64) (ns : ∀ i j, d = .str i → e = .str j → False) : dNe d e = some (.dat (.bool (!PyData.eqv d e))) := by
  unfold dNe
  split
  · exact (ns _ _ rfl rfl).elim
  · rw [if_pos ⟨h.shaped l, h2.shaped l2⟩]
/-- may be shown, in at most n signs -/
structure Rp (n m : Nat) (d : PyData) : Prop where
  s : d.showable = true
  l : d.shown.length ≤ n
  p : d.depth ≤ m
theorem Rp.int {i : Int} (h : i.natAbs < 10 ^ 12) : Rp 13 0 (.int i) := by
  refine ⟨?_, PyData.shown_int_le h, Nat.le_refl 0⟩
  simp only [PyData.showable, decide_eq_true_eq]
  by_cases z : i.natAbs = 0
  · rw [z]; decide
  · exact Nat.lt_trans ((Nat.log2_lt z).mpr (Nat.lt_trans h (show 10 ^ 12 < 2 ^ 40 by decide))) (by decide)
theorem Rp.mono {n m n' m' : Nat} {d : PyData} (h : Rp n m d) (l : n ≤ n') (l2 : m ≤ m') : Rp n' m' d := ⟨h.s, Nat.le_trans h.l l, Nat.le_trans h.p l2⟩
theorem Rp.tuple {n m k : Nat} {ds : List PyData} (h : ∀ d ∈ ds, Rp n m d) (hl : ds.length ≤ k) : Rp ((n + 2) * k + 3) (m + 1) (.tuple ds) := by
  refine ⟨?_, ?_, ?_⟩
  · simp only [PyData.showable]; exact showableAll_of fun d hd => (h d hd).s
  · simp only [PyData.shown]
    obtain ⟨a, b⟩ := shownAll_len (n := n) (ds := ds) fun d hd => (h d hd).l
    have c := tupleText_len_le (PyData.shownAll ds)
    rw [b] at c
    have e : (n + 2) * ds.length ≤ (n + 2) * k := Nat.mul_le_mul_left _ hl
    have e' : (n + 2) * ds.length = n * ds.length + 2 * ds.length := Nat.add_mul ..
    omega
  · simp only [PyData.depth]; exact Nat.succ_le_succ (depthAll_of fun d hd => (h d hd).p)
theorem Rp.list {n m k : Nat} {ds : List PyData} (h : ∀ d ∈ ds, Rp n m d) (hl : ds.length ≤ k) : Rp ((n + 2) * k + 3) (m + 1) (.list ds) := by
  refine ⟨?_, ?_, ?_⟩
  · simp only [PyData.showable]; exact showableAll_of fun d hd => (h d hd).s
  · simp only [PyData.shown]
    obtain ⟨a, b⟩ := shownAll_len (n := n) (ds := ds) fun d hd => (h d hd).l
    have c := listText_len_le (PyData.shownAll ds)
    rw [b] at c
    have e : (n + 2) * ds.length ≤ (n + 2) * k := Nat.mul_le_mul_left _ hl
    have e' : (n + 2) * ds.length = n * ds.length + 2 * ds.length := Nat.add_mul ..
    omega
  · simp only [PyData.depth]; exact Nat.succ_le_succ (depthAll_of fun d hd => (h d hd).p)
theorem log2_lt {i : Int} {n : Nat} (h1 : 0 ≤ i) (h2 : i < 2 ^ n) (hn : 0 < n): i.natAbs.log2 < n := by
  obtain ⟨m, rfl⟩ := Int.eq_ofNat_of_zero_le h1
  rw [Int.natAbs_natCast]
  by_cases h : m = 0
  · subst h; simpa using hn
  · rw [Nat.log2_lt h]
    exact_mod_cast h2
theorem mul_ok {i j : Int} (h1 : 0 ≤ i) (h2 : i < 2 ^ 62) (h3 : 0 ≤ j) (h4 : j < 2 ^ 62) : i.natAbs.log2 + j.natAbs.log2 < 1000000 := by
  have a := log2_lt (n := 62) h1 h2 (by decide)
  have b := log2_lt (n := 62) h3 h4 (by decide)
  omega
theorem mul_is {i j : Int} (h1 : 0 ≤ i) (h2 : i < 2 ^ 62) (h3 : 0 ≤ j) (h4 : j < 2 ^ 62) : dMul (.int i) (.int j) = some (.dat (.int (i * j))) := by
  rw [dMul_i, if_pos (mul_ok h1 h2 h3 h4)]
theorem rngL_zero (lo : Int) : rngL lo 0 = [] := rfl
theorem rngL_succ (lo : Int) (n : Nat) : rngL lo (n + 1) = .int lo :: rngL (lo + 1) n := by
  simp only [rngL, List.range_succ_eq_map, List.map_cons, List.map_map]
  congr 1
  · simp
  · apply List.map_congr_left
    intro k _
    simp only [Function.comp]
    congr 1
    simp only [Nat.succ_eq_add_one, Int.natCast_add]
    omega
@[simp] theorem isi_int_none : isiD "int" .none = some (.dat (.bool false)) := by
  show (kitB "NoneType" "int").map (fun b => R.dat (.bool b)) = _
  rw [show kitB "NoneType" "int" = some false by decide +kernel]
  rfl
@[simp] theorem isi_int_bool (b : Bool) : isiD "int" (.bool b) = some (.dat (.bool true)) := by
  show (kitB "bool" "int").map (fun b => R.dat (.bool b)) = _
  rw [show kitB "bool" "int" = some true by decide +kernel]
  rfl
@[simp] theorem isi_int_int (i : Int) : isiD "int" (.int i) = some (.dat (.bool true)) := by
  show (kitB "int" "int").map (fun b => R.dat (.bool b)) = _
  rw [show kitB "int" "int" = some true by decide +kernel]
  rfl
@[simp] theorem isi_int_str (x : Str) : isiD "int" (.str x) = some (.dat (.bool false)) := by
  show (kitB "str" "int").map (fun b => R.dat (.bool b)) = _
  rw [show kitB "str" "int" = some false by decide +kernel]
  rfl
@[simp] theorem isi_int_list (xs : List PyData) : isiD "int" (.list xs) = some (.dat (.bool false)) := by
  show (kitB "list" "int").map (fun b => R.dat (.bool b)) = _
  rw [show kitB "list" "int" = some false by decide +kernel]
  rfl
@[simp] theorem isi_int_tuple (xs : List PyData) : isiD "int" (.tuple xs) = some (.dat (.bool false)) := by
  show (kitB "tuple" "int").map (fun b => R.dat (.bool b)) = _
  rw [show kitB "tuple" "int" = some false by decide +kernel]
  rfl
@[simp] theorem isi_int_dict (xs : List (PyData × PyData)) : isiD "int" (.dict xs) = some (.dat (.bool false)) := by
  show (kitB "dict" "int").map (fun b => R.dat (.bool b)) = _
  rw [show kitB "dict" "int" = some false by decide +kernel]
  rfl
@[simp] theorem isi_bool_none : isiD "bool" .none = some (.dat (.bool false)) := by
  show (kitB "NoneType" "bool").map (fun b => R.dat (.bool b)) = _
  rw [show kitB "NoneType" "bool" = some false by decide +kernel]
  rfl
@[simp] theorem isi_bool_bool (b : Bool) : isiD "bool" (.bool b) = some (.dat (.bool true)) := by
  show (kitB "bool" "bool").map (fun b => R.dat (.bool b)) = _
  rw [show kitB "bool" "bool" = some true by decide +kernel]
  rfl
@[simp] theorem isi_bool_int (i : Int) : isiD "bool" (.int i) = some (.dat (.bool false)) := by
  show (kitB "int" "bool").map (fun b => R.dat (.bool b)) = _
  rw [show kitB "int" "bool" = some false by decide +kernel]
  rfl
@[simp] theorem isi_bool_str (x : Str) : isiD "bool" (.str x) = some (.dat (.bool false)) := by
  show (kitB "str" "bool").map (fun b => R.dat (.bool b)) = _
  rw [show kitB "str" "bool" = some false by decide +kernel]
  rfl
@[simp] theorem isi_bool_list (xs : List PyData) : isiD "bool" (.list xs) = some (.dat (.bool false)) := by
  show (kitB "list" "bool").map (fun b => R.dat (.bool b)) = _
  rw [show kitB "list" "bool" = some false by decide +kernel]
  rfl
@[simp] theorem isi_bool_tuple (xs : List PyData) : isiD "bool" (.tuple xs) = some (.dat (.bool false)) := by
  show (kitB "tuple" "bool").map (fun b => R.dat (.bool b)) = _
  rw [show kitB "tuple" "bool" = some false by decide +kernel]
  rfl
@[simp] theorem isi_bool_dict (xs : List (PyData × PyData)) : isiD "bool" (.dict xs) = some (.dat (.bool false)) := by
  show (kitB "dict" "bool").map (fun b => R.dat (.bool b)) = _
  rw [show kitB "dict" "bool" = some false by decide +kernel]
  rfl
@[simp] theorem isi_tuple_none : isiD "tuple" .none = some (.dat (.bool false)) := by
  show (kitB "NoneType" "tuple").map (fun b => R.dat (.bool b)) = _
  rw [show kitB "NoneType" "tuple" = some false by decide +kernel]
  rfl
@[simp] theorem isi_tuple_bool (b : Bool) : isiD "tuple" (.bool b) = some (.dat (.bool false)) := by
  show (kitB "bool" "tuple").map (fun b => R.dat (.bool b)) = _
  rw [show kitB "bool" "tuple" = some false by decide +kernel]
  rfl
@[simp] theorem isi_tuple_int (i : Int) : isiD "tuple" (.int i) = some (.dat (.bool false)) := by
  show (kitB "int" "tuple").map (fun b => R.dat (.bool b)) = _
  rw [show kitB "int" "tuple" = some false by decide +kernel]
  rfl
@[simp] theorem isi_tuple_str (x : Str) : isiD "tuple" (.str x) = some (.dat (.bool false)) := by
  show (kitB "str" "tuple").map (fun b => R.dat (.bool b)) = _
  rw [show kitB "str" "tuple" = some false by decide +kernel]
  rfl
@[simp] theorem isi_tuple_list (xs : List PyData) : isiD "tuple" (.list xs) = some (.dat (.bool false)) := by
  show (kitB "list" "tuple").map (fun b => R.dat (.bool b)) = _
  rw [show kitB "list" "tuple" = some false by decide +kernel]
  rfl
@[simp] theorem isi_tuple_tuple (xs : List PyData) : isiD "tuple" (.tuple xs) = some (.dat (.bool true)) := by
  show (kitB "tuple" "tuple").map (fun b => R.dat (.bool b)) = _
  rw [show kitB "tuple" "tuple" = some true by decide +kernel]
  rfl
@[simp] theorem isi_tuple_dict (xs : List (PyData × PyData)) : isiD "tuple" (.dict xs) = some (.dat (.bool false)) := by
  show (kitB "dict" "tuple").map (fun b => R.dat (.bool b)) = _
  rw [show kitB "dict" "tuple" = some false by decide +kernel]
  rfl
@[simp] theorem isi_str_none : isiD "str" .none = some (.dat (.bool false)) := by
  show (kitB "NoneType" "str").map (fun b => R.dat (.bool b)) = _
  rw [show kitB "NoneType" "str" = some false by decide +kernel]
  rfl
@[simp] theorem isi_str_bool (b : Bool) : isiD "str" (.bool b) = some (.dat (.bool false)) := by
  show (kitB "bool" "str").map (fun b => R.dat (.bool b)) = _
  rw [show kitB "bool" "str" = some false by decide +kernel]
  rfl
@[simp] theorem isi_str_int (i : Int) : isiD "str" (.int i) = some (.dat (.bool false)) := by
  show (kitB "int" "str").map (fun b => R.dat (.bool b)) = _
  rw [show kitB "int" "str" = some false by decide +kernel]
  rfl
@[simp] theorem isi_str_str (x : Str) : isiD "str" (.str x) = some (.dat (.bool true)) := by
  show (kitB "str" "str").map (fun b => R.dat (.bool b)) = _
  rw [show kitB "str" "str" = some true by decide +kernel]
  rfl
@[simp] theorem isi_str_list (xs : List PyData) : isiD "str" (.list xs) = some (.dat (.bool false)) := by
  show (kitB "list" "str").map (fun b => R.dat (.bool b)) = _
  rw [show kitB "list" "str" = some false by decide +kernel]
  rfl
@[simp] theorem isi_str_tuple (xs : List PyData) : isiD "str" (.tuple xs) = some (.dat (.bool false)) := by
  show (kitB "tuple" "str").map (fun b => R.dat (.bool b)) = _
  rw [show kitB "tuple" "str" = some false by decide +kernel]
  rfl
@[simp] theorem isi_str_dict (xs : List (PyData × PyData)) : isiD "str" (.dict xs) = some (.dat (.bool false)) := by
  show (kitB "dict" "str").map (fun b => R.dat (.bool b)) = _
  rw [show kitB "dict" "str" = some false by decide +kernel]
  rfl
@[simp] theorem isi_list_none : isiD "list" .none = some (.dat (.bool false)) := by
  show (kitB "NoneType" "list").map (fun b => R.dat (.bool b)) = _
  rw [show kitB "NoneType" "list" = some false by decide +kernel]
  rfl
@[simp] theorem isi_list_bool (b : Bool) : isiD "list" (.bool b) = some (.dat (.bool false)) := by
  show (kitB "bool" "list").map (fun b => R.dat (.bool b)) = _
  rw [show kitB "bool" "list" = some false by decide +kernel]
  rfl
@[simp] theorem isi_list_int (i : Int) : isiD "list" (.int i) = some (.dat (.bool false)) := by
  show (kitB "int" "list").map (fun b => R.dat (.bool b)) = _
  rw [show kitB "int" "list" = some false by decide +kernel]
  rfl
@[simp] theorem isi_list_str (x : Str) : isiD "list" (.str x) = some (.dat (.bool false)) := by
  show (kitB "str" "list").map (fun b => R.dat (.bool b)) = _
  rw [show kitB "str" "list" = some false by decide +kernel]
  rfl
@[simp] theorem isi_list_list (xs : List PyData) : isiD "list" (.list xs) = some (.dat (.bool true)) := by
  show (kitB "list" "list").map (fun b => R.dat (.bool b)) = _
  rw [show kitB "list" "list" = some true by decide +kernel]
  rfl
@[simp] theorem isi_list_tuple (xs : List PyData) : isiD "list" (.tuple xs) = some (.dat (.bool false)) := by
  show (kitB "tuple" "list").map (fun b => R.dat (.bool b)) = _
  rw [show kitB "tuple" "list" = some false by decide +kernel]
  rfl
@[simp] theorem isi_list_dict (xs : List (PyData × PyData)) : isiD "list" (.dict xs) = some (.dat (.bool false)) := by
  show (kitB "dict" "list").map (fun b => R.dat (.bool b)) = _
  rw [show kitB "dict" "list" = some false by decide +kernel]
  rfl
@[simp] theorem isi_dict_none : isiD "dict" .none = some (.dat (.bool false)) := by
  show (kitB "NoneType" "dict").map (fun b => R.dat (.bool b)) = _
  rw [show kitB "NoneType" "dict" = some false by decide +kernel]
  rfl
@[simp] theorem isi_dict_bool (b : Bool) : isiD "dict" (.bool b) = some (.dat (.bool false)) := by
  show (kitB "bool" "dict").map (fun b => R.dat (.bool b)) = _
  rw [show kitB "bool" "dict" = some false by decide +kernel]
  rfl
@[simp] theorem isi_dict_int (i : Int) : isiD "dict" (.int i) = some (.dat (.bool false)) := by
  show (kitB "int" "dict").map (fun b => R.dat (.bool b)) = _
  rw [show kitB "int" "dict" = some false by decide +kernel]
  rfl
@[simp] theorem isi_dict_str (x : Str) : isiD "dict" (.str x) = some (.dat (.bool false)) := by
  show (kitB "str" "dict").map (fun b => R.dat (.bool b)) = _
  rw [show kitB "str" "dict" = some false by decide +kernel]
  rfl
@[simp] theorem isi_dict_list (xs : List PyData) : isiD "dict" (.list xs) = some (.dat (.bool false)) := by
  show (kitB "list" "dict").map (fun b => R.dat (.bool b)) = _
  rw [show kitB "list" "dict" = some false by decide +kernel]
  rfl
@[simp] theorem isi_dict_tuple (xs : List PyData) : isiD "dict" (.tuple xs) = some (.dat (.bool false)) := by
  show (kitB "tuple" "dict").map (fun b => R.dat (.bool b)) = _
  rw [show kitB "tuple" "dict" = some false by decide +kernel]
  rfl
@[simp] theorem isi_dict_dict (xs : List (PyData × PyData)) : isiD "dict" (.dict xs) = some (.dat (.bool true)) := by
  show (kitB "dict" "dict").map (fun b => R.dat (.bool b)) = _
  rw [show kitB "dict" "dict" = some true by decide +kernel]
  rfl
def bindR {β : Type} (o : Option Rho) (g : Rho → Option β) : Option β := match o with
  | some ρ => g ρ
  | none => none
@[simp] theorem bindR_e {β : Type} (ρ : Rho) (g : Rho → Option β) : bindR (some ρ) g = g ρ := eqI rfl
/-- what a turn gives, and the slots behind it -/
def ev (g : GM) (vs : List Nat) (c : Rho → Option (Oe Bool)) (f : EM) (x : PyData) (ρ : Rho) : Option (Option PyData × Rho) :=
  bindR (g x ρ) fun ρ1 => bindN (c ρ1) fun b ρ2 => pick b (fun ρ2 => bindN (f ρ2) fun q ρ3 => bindF (frz ρ3 q) fun d ρ4 => some (some d, wipeR ρ4 vs)) (fun ρ2 => some (none, wipeR ρ2 vs)) ρ2
theorem lcL_ev {g : GM} {vs : List Nat} {c : Rho → Option (Oe Bool)} {f : EM} (x : PyData) (xs : List PyData) (ρ : Rho) (acc : List PyData) {o : Option PyData} {ρ' : Rho} (h : ev g vs c f x ρ = some (o, ρ')) (hl : acc.length < lim) :
    lcL g vs c f (x :: xs) ρ acc = lcL g vs c f xs ρ' (acc ++ o.toList) := by
  unfold ev at h
  rw [lcL]
  cases e1 : g x ρ with
  | none => rw [e1] at h; cases h
  | some ρ1 =>
    rw [e1, bindR_e] at h
    simp only
    cases e2 : c ρ1 with
    | none => rw [e2] at h; cases h
    | some oc =>
      cases oc with
      | er _ _ _ => rw [e2] at h; cases h
      | ok b ρ2 =>
        rw [e2, bindN_ok] at h
        rw [bindN_ok]
        cases b with
        | false =>
          rw [pick_f] at h
          cases h
          simp
        | true =>
          rw [pick_t] at h
          rw [if_pos rfl]
          cases e3 : f ρ2 with
          | none => rw [e3] at h; cases h
          | some oq =>
            cases oq with
            | er _ _ _ => rw [e3] at h; cases h
            | ok q ρ3 =>
              rw [e3, bindN_ok] at h
              rw [bindN_ok]
              cases e4 : frz ρ3 q with
              | none => rw [e4] at h; cases h
              | some pr =>
                obtain ⟨d, ρ4⟩ := pr
                rw [e4, bindF_e] at h
                cases h
                simp only
                rw [if_pos hl]
                rfl
/-- a comprehension whose turns leave the slots as they were -/
theorem lcL_fm {α : Type} {g : GM} {vs : List Nat} {c : Rho → Option (Oe Bool)} {f : EM} {ρ : Rho} (inD : α → PyData) (out : α → Option PyData) (xs : List α) (hl : xs.length ≤ lim)
    (st : ∀ x ∈ xs, ev g vs c f (inD x) ρ = some (out x, ρ)) : lcL g vs c f (xs.map inD) ρ [] = some (.ok (.own (.list (xs.filterMap out))) ρ) := by
  have key : ∀ (xs : List α) (acc : List PyData), acc.length + xs.length ≤ lim → (∀ x ∈ xs, ev g vs c f (inD x) ρ = some (out x, ρ)) →
      lcL g vs c f (xs.map inD) ρ acc = some (.ok (.own (.list (acc ++ xs.filterMap out))) ρ) := by
    intro xs
    induction xs with
    | nil => intro acc _ _; rw [List.map_nil, List.filterMap_nil, List.append_nil]; rfl
    | cons x r ih =>
      intro acc hl st
      rw [List.length_cons] at hl
      rw [List.map_cons, lcL_ev _ _ _ _ (st x (List.mem_cons_self ..)) (by omega)]
      have : (out x).toList.length ≤ 1 := by cases out x <;> simp
      rw [ih _ (by rw [List.length_append]; omega) fun y hy => st y (List.mem_cons_of_mem _ hy), List.append_assoc]
      cases h : out x <;> simp [h]
  have := key xs [] (by simpa using hl) st
  simpa using this
theorem lcL_mp {α : Type} {g : GM} {vs : List Nat} {c : Rho → Option (Oe Bool)} {f : EM} {ρ : Rho} (inD out : α → PyData) (xs : List α) (hl : xs.length ≤ lim)
    (st : ∀ x ∈ xs, ev g vs c f (inD x) ρ = some (some (out x), ρ)) : lcL g vs c f (xs.map inD) ρ [] = some (.ok (.own (.list (xs.map out))) ρ) := by
  rw [lcL_fm inD (fun x => some (out x)) xs hl st, List.filterMap_eq_map']
end DL
namespace DL
open PySem L2 PyProof.Rows PpSet
end DL
namespace DL
open PySem L2 PyProof.Rows
def addK (acc : List Int) (k : Int) : List Int := if k ∈ acc then acc else acc ++ [k]
/-- in rising order, each once -/
def insU (k : Int) : List Int → List Int
  | [] => [k]
  | x :: r => if k < x then k :: x :: r else if k = x then x :: r else x :: insU k r
def sortU : List Int → List Int
  | [] => []
  | k :: r => insU k (sortU r)
def scL (g : GM) (vs : List Nat) (c : Rho → Option (Oe Bool)) (f : EM) : List PyData → Rho → List Int → Option (Oe R)
  | [], ρ, acc => some (.ok (.st acc) ρ)
  | x :: xs, ρ, acc => match g x ρ with
    | none => none
    | some ρ1 => bindN (c ρ1) fun b ρ2 => if b = true then bindN (f ρ2) fun r ρ3 => match r with
        | .dat (.int k) => if acc.length < 100 then scL g vs c f xs (wipeR ρ3 vs) (addK acc k) else none
        | _ => none
      else scL g vs c f xs (wipeR ρ2 vs) acc
def scM (it : IM) (g : GM) (vs : List Nat) (c : Rho → Option (Oe Bool)) (f : EM) : EM := fun ρ => bindO (it ρ) fun ds ρ1 => scL g vs c f ds (wipeR ρ1 vs) []
/-- sorted(a set) -/
def srtR (r : R) (ρ : Rho) : Option (Oe R) := match r with
  | .st xs => if xs.length < 64 then some (.ok (.own (.list ((sortU xs).map .int))) ρ) else none
  | _ => none
def sortSM (f : EM) : EM := fun ρ => bindO (f ρ) srtR
end DL
namespace DL
open PySem L2 PyProof.Rows
theorem vals_ints : ∀ {ns : List Int} {us : List Value}, Vals (ns.map V.int) us → IntsAre us ns
  | [], _, .nil => .nil
  | n :: r, _, .cons h t => by
    obtain ⟨tk, rfl⟩ := h
    exact .cons _ _ (vals_ints t)
/-- the ints in a list, each once -/
def onceL : List Int → List Int → List Int
  | [], acc => acc
  | k :: r, acc => onceL r (addK acc k)
def setD : PyData → Option R
  | .list ds => (intsOf ds).bind fun ns => if ns.length < 4000 then some (.st (onceL ns [])) else none
  | _ => none
def rSetL (K : PySem.W.Frag) (w : World) : List V → Hp → VK → Prop := fun xs H Q => ∃ (a : Addr) (ns : List Int), xs = [V.ref a] ∧ SqL K H a (ns.map V.int) ∧ ns.length < 4000 ∧ ∀ p, H p = none → ∀ H', (∀ b o, H b = some o → H' b = some o) → (∀ b, H b = none → b ≠ p → H' b = none) → SetAt w H' p (onceL ns []) → Q (.ref p) H'
end DL
namespace DL
open PySem L2 PyProof.Rows
@[simp] theorem scM_e (it : IM) (g : GM) (vs : List Nat) (c : Rho → Option (Oe Bool)) (f : EM) (ρ : Rho) : scM it g vs c f ρ = bindO (it ρ) fun ds ρ1 => scL g vs c f ds (wipeR ρ1 vs) [] := eqI rfl
@[simp] theorem sortSM_e (f : EM) (ρ : Rho) : sortSM f ρ = bindO (f ρ) srtR := eqI rfl
@[simp] theorem srtR_e (xs : List Int) (ρ : Rho) : srtR (.st xs) ρ = if xs.length < 64 then some (.ok (.own (.list ((sortU xs).map .int))) ρ) else none := eqI rfl
@[simp] theorem setD_l (ns : List Int) : setD (.list (ns.map .int)) = if ns.length < 4000 then some (.st (onceL ns [])) else none := by
  show (intsOf _).bind _ = _
  rw [intsOf_map]
  rfl
end DL
namespace DL
open PySem L2 PyProof.Rows
def repR (r s : R) (ρ : Rho) : Option (Oe R) := match r, s with
  | .own (.list ds), .dat (.int k) => if (-9223372036854775808 ≤ k ∧ k < 9223372036854775808) ∧ ds.length * k.toNat ≤ lim then some (.ok (.own (.list (List.replicate k.toNat ds).flatten)) ρ) else none
  | _, _ => none
def repM (fa fb : EM) : EM := fun ρ => bindO (fa ρ) fun r ρ1 => bindO (fb ρ1) fun s ρ2 => repR r s ρ2
@[simp] theorem repM_e (fa fb : EM) (ρ : Rho) : repM fa fb ρ = bindO (fa ρ) fun r ρ1 => bindO (fb ρ1) fun s ρ2 => repR r s ρ2 := rfl
@[simp] theorem repR_e (ds : List PyData) (k : Int) (ρ : Rho) : repR (.own (.list ds)) (.dat (.int k)) ρ = if (-9223372036854775808 ≤ k ∧ k < 9223372036854775808) ∧ ds.length * k.toNat ≤ lim then some (.ok (.own (.list (List.replicate k.toNat ds).flatten)) ρ) else none := rfl
end DL
namespace DL
open PySem L2 PyProof.Rows
open Builtin.SmallTypes (nextOf nextOrEnd)
end DL
namespace DL
open PySem L2 PyProof.Rows
end DL
namespace DL
open PySem L2 PyProof.Rows
end DL
namespace DL
open PySem L2 PyProof.Rows
def pairD (x y : PyData) : PyData := .tuple [x, y]
def izR (o : Option (List PyData)) (ρ : Rho) : Option (Oe (List PyData)) := match o with
  | some [d, e] => match itemsOf d, itemsOf e with
    | some xs, some ys => if xs.length = ys.length then some (.ok (List.zipWith pairD xs ys) ρ) else none
    | _, _ => none
  | _ => none
def izM (f : AM) : IM := fun ρ => bindO (f ρ) fun rs ρ1 => izR (dats rs) ρ1
@[simp] theorem izM_e (f : AM) (ρ : Rho) : izM f ρ = bindO (f ρ) fun rs ρ1 => izR (dats rs) ρ1 := eqI rfl
@[simp] theorem izR_ll (xs ys : List PyData) (ρ : Rho) : izR (some [.list xs, .list ys]) ρ = if xs.length = ys.length then some (.ok (List.zipWith pairD xs ys) ρ) else none := eqI rfl
@[simp] theorem izR_lt (xs ys : List PyData) (ρ : Rho) : izR (some [.list xs, .tuple ys]) ρ = if xs.length = ys.length then some (.ok (List.zipWith pairD xs ys) ρ) else none := eqI rfl
@[simp] theorem izR_tl (xs ys : List PyData) (ρ : Rho) : izR (some [.tuple xs, .list ys]) ρ = if xs.length = ys.length then some (.ok (List.zipWith pairD xs ys) ρ) else none := eqI rfl
@[simp] theorem izR_tt (xs ys : List PyData) (ρ : Rho) : izR (some [.tuple xs, .tuple ys]) ρ = if xs.length = ys.length then some (.ok (List.zipWith pairD xs ys) ρ) else none := eqI rfl
end DL
namespace DL
open PySem L2
end DL
namespace DL
open PySem L2
/-- a number that fits into so many bits -/
structure Sz (k : Nat) (q : Rat) : Prop where
  n : q.num.natAbs < 2 ^ k
  d : q.den < 2 ^ k
theorem Sz.mono {k m : Nat} {q : Rat} (h : Sz k q) (l : k ≤ m) : Sz m q :=
  ⟨Nat.lt_of_lt_of_le h.n (Nat.pow_le_pow_right (by decide) l), Nat.lt_of_lt_of_le h.d (Nat.pow_le_pow_right (by decide) l)⟩
theorem Sz.int {k : Nat} {i : Int} (h : i.natAbs < 2 ^ k) (hk : 0 < k) : Sz k (i : Rat) := ⟨by rw [Rat.num_intCast]; exact h, by rw [Rat.den_intCast]; exact Nat.one_lt_two_pow (by omega)⟩
theorem q_pos (p : Rat) : 0 < (p.den : Int) := by have := p.den_pos; omega
end DL
namespace DL
open PySem L2
/-- a span: begin, until, kind -/
structure Sp where
  b : Int
  u : Int
  k : Int
def Sp.d (s : Sp) : PyData := .tuple [.int s.b, .int s.u, .int s.k]
/-- a loop whose every turn goes on, with a state that is reckoned -/
theorem forL_st {α S : Type} {g : GM} {body : SM} (inD : α → PyData) (I : S → Rho → Prop) (step : S → α → S) (s0 : S) (L : List α) (ρ : Rho) (h0 : I s0 ρ)
    (ht : ∀ pre x post ρ, L = pre ++ x :: post → I (pre.foldl step s0) ρ → ∃ ρ2, bindR (g (inD x) ρ) body = some (.nx ρ2) ∧ I (step (pre.foldl step s0) x) ρ2) :
    ∃ ρ', forL g body (L.map inD) ρ = some (.nx ρ') ∧ I (L.foldl step s0) ρ' := by
  have key : ∀ (B A : List α) (ρ : Rho), L = A ++ B → I (A.foldl step s0) ρ → ∃ ρ', forL g body (B.map inD) ρ = some (.nx ρ') ∧ I (L.foldl step s0) ρ' := by
    intro B
    induction B with
    | nil => intro A ρ e h; rw [List.append_nil] at e; subst e; exact ⟨ρ, rfl, h⟩
    | cons x r ih =>
      intro A ρ e h
      obtain ⟨ρ2, e1, h1⟩ := ht A x r ρ e h
      obtain ⟨ρ', e2, h2⟩ := ih (A ++ [x]) ρ2 (by rw [e, List.append_assoc]; rfl) (by rw [List.foldl_append]; exact h1)
      refine ⟨ρ', ?_, h2⟩
      cases q : g (inD x) ρ with
      | none => rw [q] at e1; cases e1
      | some ρ1 =>
        rw [q, bindR_e] at e1
        show (match g (inD x) ρ with | none => none | some ρ1 => match body ρ1 with | some (.nx ρ2) => forL g body (r.map inD) ρ2 | some (.ct ρ2) => forL g body (r.map inD) ρ2 | some (.bk ρ2) => some (.nx ρ2) | o => o) = _
        rw [q]
        simp only [e1]
        exact e2
  exact key L [] ρ rfl h0
def slR (o : Option PyData) (a b : Option Int) (ρ : Rho) : Option (Oe R) := match o with
  | some d => retO (slD d a b) ρ
  | none => none
def ptR (r : R) (ρ : Rho) : Option (Oe (Option Int)) := match r with
  | .dat (.int i) => some (.ok (some i) ρ)
  | _ => none
@[simp] theorem slR_e (d : PyData) (a b : Option Int) (ρ : Rho) : slR (some d) a b ρ = retO (slD d a b) ρ := eqI rfl
@[simp] theorem ptR_e (i : Int) (ρ : Rho) : ptR (.dat (.int i)) ρ = some (.ok (some i) ρ) := eqI rfl
@[simp] theorem ptM_0 (ρ : Rho) : ptM none ρ = some (.ok none ρ) := eqI rfl
@[simp] theorem ptM_1 (f : EM) (ρ : Rho) : ptM (some f) ρ = bindO (f ρ) ptR := eqI rfl
@[simp] theorem slM_e (fe : EM) (lo hi : Option EM) (ρ : Rho) : slM fe lo hi ρ = bindO (fe ρ) fun r ρ1 => bindO (ptM lo ρ1) fun a ρ2 => bindO (ptM hi ρ2) fun b ρ3 => slR (val ρ3 r) a b ρ3 := by
  unfold slM
  congr 1
  funext r ρ1
  congr 1
  funext a ρ2
  congr 1
  funext b ρ3
  cases val ρ3 r with
  | none => rfl
  | some d => exact map_retO _ _
@[simp] theorem slD_l (ds : List PyData) (a b : Option Int) : slD (.list ds) a b = some (.own (.list (cutD ds a b))) := eqI rfl
@[simp] theorem slD_t (ds : List PyData) (a b : Option Int) : slD (.tuple ds) a b = some (.dat (.tuple (cutD ds a b))) := eqI rfl
theorem cut_from (xs : List PyData) {i : Int} (h : 0 ≤ i) : cutD xs (some i) none = xs.drop i.toNat := by
  unfold cutD HT.sIx
  simp only
  rw [if_neg (by omega)]
  by_cases c : i.toNat ≤ xs.length
  · rw [Nat.min_eq_left c, List.take_of_length_le (by rw [List.length_drop]; omega)]
  · rw [Nat.min_eq_right (by omega), List.drop_eq_nil_of_le (by omega : xs.length ≤ i.toNat), List.drop_length, List.take_nil]
@[simp] theorem cut_1 (x : PyData) (xs : List PyData) : cutD (x :: xs) (some 1) none = xs := by rw [cut_from _ (by decide)]; rfl
/-- a top and a bottom that fit into so many bits -/
structure Sp2 (k : Nat) (a b : Int) : Prop where
  n : a.natAbs < 2 ^ k
  p : 0 < b
  d : b.natAbs < 2 ^ k
theorem Sz.r {k : Nat} {q : Rat} (h : Sz k q) : Sp2 k q.num (q.den : Int) := ⟨h.n, q_pos q, by rw [Int.natAbs_natCast]; exact h.d⟩
end DL
namespace DL
open PySem PyProof.Rows
open L2 hiding Sp
open Builtin.SmallTypes (nextOf nextOrEnd)
def ipR (o : Option (List PyData)) (ρ : Rho) : Option (Oe (List PyData)) := match o with
  | some [d, e] => match itemsOf d, itemsOf e with
    | some xs, some ys => some (.ok (List.zipWith pairD xs ys) ρ)
    | _, _ => none
  | _ => none
def ipM (f : AM) : IM := fun ρ => bindO (f ρ) fun rs ρ1 => ipR (dats rs) ρ1
@[simp] theorem ipM_e (f : AM) (ρ : Rho) : ipM f ρ = bindO (f ρ) fun rs ρ1 => ipR (dats rs) ρ1 := eqI rfl
@[simp] theorem ipR_ll (xs ys : List PyData) (ρ : Rho) : ipR (some [.list xs, .list ys]) ρ = some (.ok (List.zipWith pairD xs ys) ρ) := eqI rfl
@[simp] theorem ipR_lt (xs ys : List PyData) (ρ : Rho) : ipR (some [.list xs, .tuple ys]) ρ = some (.ok (List.zipWith pairD xs ys) ρ) := eqI rfl
@[simp] theorem ipR_tl (xs ys : List PyData) (ρ : Rho) : ipR (some [.tuple xs, .list ys]) ρ = some (.ok (List.zipWith pairD xs ys) ρ) := eqI rfl
@[simp] theorem ipR_tt (xs ys : List PyData) (ρ : Rho) : ipR (some [.tuple xs, .tuple ys]) ρ = some (.ok (List.zipWith pairD xs ys) ρ) := eqI rfl
end DL
namespace DL
open PySem PyProof.Rows
open L2 hiding Sp
open AutoSeq1 (wpAny_loadPart')
def enumL (ds : List PyData) : List PyData := ds.mapIdx fun i d => .tuple [.int (i : Int), d]
def enR (o : Option PyData) (ρ : Rho) : Option (Oe (List PyData)) := match o with
  | some d => match itemsOf d with
    | some xs => some (.ok (enumL xs) ρ)
    | none => none
  | none => none
def enM (f : EM) : IM := fun ρ => bindO (f ρ) fun r ρ1 => bindF (frz ρ1 r) fun d ρ2 => enR (some d) ρ2
@[simp] theorem enM_e (f : EM) (ρ : Rho) : enM f ρ = bindO (f ρ) fun r ρ1 => bindF (frz ρ1 r) fun d ρ2 => enR (some d) ρ2 := eqI rfl
@[simp] theorem enR_l (xs : List PyData) (ρ : Rho) : enR (some (.list xs)) ρ = some (.ok (enumL xs) ρ) := eqI rfl
@[simp] theorem enR_t (xs : List PyData) (ρ : Rho) : enR (some (.tuple xs)) ρ = some (.ok (enumL xs) ρ) := eqI rfl
end DL
namespace DL
open PySem PyProof.Rows
open L2 hiding Sp
def popR (i : Nat) (r : R) (ρ : Rho) (o : Option (Option R)) : Option (Oe R) := match r, o with
  | .dat (.int k), some (some (.own (.list ds))) => if ds.length ≤ lim then match ixN ds.length k with
    | some j => match ds[j]? with
      | some d => some (.ok (.dat d) (ρ.set i (some (.own (.list (ds.eraseIdx j))))))
      | none => none
    | none => none
    else none
  | _, _ => none
def popM (i : Nat) (fe : EM) : EM := fun ρ => if isList ρ[i]? = true then bindO (fe ρ) fun r ρ1 => popR i r ρ1 ρ1[i]? else none
@[simp] theorem popM_e (i : Nat) (fe : EM) (ρ : Rho) : popM i fe ρ = pick (isList ρ[i]?) (fun ρ => bindO (fe ρ) fun r ρ1 => popR i r ρ1 ρ1[i]?) (fun _ => none) ρ := eqI rfl
theorem DFs.eraseIdx {K : PySem.W.Frag} {H : Hp} {F : Addr → Prop} : ∀ {vs : List V} {ds : List PyData} (i : Nat), DFs K H F vs ds → DFs K H F (vs.eraseIdx i) (ds.eraseIdx i)
  | _, _, _, .nil => .nil
  | _, _, 0, .cons _ b => b
  | _, _, i + 1, .cons a b => .cons a (DFs.eraseIdx i b)
def clrM (i : Nat) : SM := fun ρ => if isList ρ[i]? = true then some (.nx (ρ.set i (some (.own (.list []))))) else none
@[simp] theorem clrM_e (i : Nat) (ρ : Rho) : clrM i ρ = pick (isList ρ[i]?) (fun ρ => some (.nx (ρ.set i (some (.own (.list [])))))) (fun _ => none) ρ := eqI rfl
/-- whether a thing is this key -/
def keq : PyData → PyData → Bool
  | .int i, .int j => decide (i = j)
  | .str x, .str y => decide (x = y)
  | _, _ => false
def isKey : PyData → Bool
  | .int _ => true
  | .str _ => true
  | _ => false
/-- what stands at a key -/
def atK : List (PyData × PyData) → PyData → Option PyData
  | [], _ => none
  | (k, d) :: r, y => if keq k y = true then some d else atK r y
theorem keq_kD (k j : Key) : keq (kD k) (kD j) = decide (k = j) := by
  cases k <;> cases j <;> simp [keq, kD]
theorem isKey_ex {d : PyData} (h : isKey d = true) : ∃ k, d = kD k := by
  cases d with
  | int i => exact ⟨.inl i, rfl⟩
  | str x => exact ⟨.inr x, rfl⟩
  | _ => cases h
theorem kD_vw {T : Tb} {H : Hp} {F : Reg} {v : V} {k : Key} (h : Vw T H F v (kD k)) : v = kV k := by
  cases k with
  | inl i => exact h.int
  | inr x => exact h.str
theorem atK_dfk {K : PySem.W.Frag} {H : Hp} {F : Reg} (k : Key) : ∀ {ks : List (Key × V)} {ds : List (PyData × PyData)} {d : PyData}, DFk K H F ks ds → atK ds (kD k) = some d → ∃ v, valV ks k = some v ∧ DF K H F v d
  | _, _, _, .nil, h => by cases h
  | _, _, d, .cons (k := k') (v := v) a b, h => by
    unfold atK at h
    rw [keq_kD] at h
    by_cases e : k' = k
    · rw [if_pos (by simpa using e)] at h
      cases h
      exact ⟨v, valV_pos (p := (k', v)) e, a⟩
    · rw [if_neg (by simpa using e)] at h
      obtain ⟨u, h1, h2⟩ := atK_dfk k b h
      exact ⟨u, by rw [valV_neg (p := (k', v)) e]; exact h1, h2⟩
theorem atK_dft {K : PySem.W.Frag} {H : Hp} {F : Reg} (k : Key) : ∀ {ks : List Ent} {ds : List (PyData × PyData)}, DFt K H F ks ds → atK ds (kD k) = none
  | _, _, .nil => rfl
  | _, _, .cons _ _ a b => by
    unfold atK
    rw [if_neg (by cases k <;> simp [keq, kT, kD])]
    exact atK_dft k b
def rIxK : R2 := fun x y H Q => ∃ a kvs k v, x = .ref a ∧ Rd H a (.dK kvs) ∧ y = kV k ∧ valV kvs k = some v ∧ Q v H
theorem ix_dK {X : Cx} : IxR X rIxK := by
  intro value slice pins s σ H x y v u Q I rx ry h hs
  obtain ⟨a, kvs, k, r, rfl, e, rfl, l, q⟩ := h
  obtain rfl : v = Value.ref a := rx
  obtain ⟨z, hd, vs, rel, dd⟩ := dk_rd I.hok e
  obtain ⟨w', hw, rw'⟩ := RelO.some_of (v := r) (o := valueAt vs k) (by have h := rel.val k; rw [l] at h; exact h)
  exact tail_any dd.typeIs slot_dict_getitem.lookup (wpAny_getItem_of (kV_is ry) dd.mapOf hw ⟨r, H, I.tok _, rw', q⟩) hs
/-- an item of a list, tuple, text or dict -/
def dIxA : PyData → PyData → Option R
  | .dict ds, y => if isKey y = true then (atK ds y).map R.dat else none
  | d, e => dIx d e
@[simp] theorem dIxA_l (xs : List PyData) (i : Int) : dIxA (.list xs) (.int i) = (atI xs i).map R.dat := eqI rfl
@[simp] theorem dIxA_t (xs : List PyData) (i : Int) : dIxA (.tuple xs) (.int i) = (atI xs i).map R.dat := eqI rfl
@[simp] theorem dIxA_s (x : Str) (i : Int) : dIxA (.str x) (.int i) = dIx (.str x) (.int i) := eqI rfl
@[simp] theorem dIxA_ds (ds : List (PyData × PyData)) (x : Str) : dIxA (.dict ds) (.str x) = (atK ds (.str x)).map R.dat := eqI rfl
@[simp] theorem dIxA_di (ds : List (PyData × PyData)) (x : Int) : dIxA (.dict ds) (.int x) = (atK ds (.int x)).map R.dat := eqI rfl
theorem does_ixA {T : Tb} : Does2 T (fun x y H Q => rIx T.K x y H Q ∨ rIxK x y H Q) dIxA := by
  intro x y d e z H F Q lv hx hy hg hq
  unfold dIxA at hg
  split at hg
  · split at hg
    · rename_i ds hk
      obtain ⟨k, rfl⟩ := isKey_ex hk
      obtain ⟨d', e1, e2⟩ := Option.map_eq_some_iff.mp hg
      subst e2
      obtain ⟨a, rfl, ⟨ks, h1, s1⟩ | ⟨o, ks, h1, _, s1⟩⟩ := hx.dctA
      · obtain ⟨v, e3, h3⟩ := atK_dfk k s1 e1
        exact .inr ⟨a, ks, k, v, rfl, h1, kD_vw hy, e3, hq _ H F .refl h3⟩
      · rw [atK_dft k s1] at e1
        cases e1
    · cases hg
  · exact .inl (does_ix x y d e z H F Q lv hx hy hg hq)
section
variable {X : Cx} {T : Tb} {W : WX} {n : Nat} {a b : Expr} {fa fb : EM} {pos : Pos}
theorem e_ixA (c : Cxt X T W n) (ha : SE X T W a fa) (hb : SE X T W b fb) (hs : PlainIx b := by exact fun _ _ => rfl) : SE X T W (.Subscript a b pos) (op2M dIxA fa fb) :=
  se_ix ((c.hK ▸ ix_seq (X := X)).or ix_dK) does_ixA hs ha hb
end
/-- all keys apart -/
def apartK : List (PyData × PyData) → Bool
  | [] => true
  | (k, _) :: r => isKey k && (r.all fun p => !keq k p.1) && apartK r
def prR (rk : R) (o : Option (PyData × Rho)) (k : PyData → PyData → Rho → Option (Oe (List (PyData × PyData)))) : Option (Oe (List (PyData × PyData))) := match rk, o with
  | .dat kd, some (d, ρ) => if isKey kd = true then k kd d ρ else none
  | _, _ => none
@[simp] theorem prR_s (x : Str) (d : PyData) (ρ : Rho) (k : PyData → PyData → Rho → Option (Oe (List (PyData × PyData)))) : prR (.dat (.str x)) (some (d, ρ)) k = k (.str x) d ρ := eqI rfl
@[simp] theorem prR_i (x : Int) (d : PyData) (ρ : Rho) (k : PyData → PyData → Rho → Option (Oe (List (PyData × PyData)))) : prR (.dat (.int x)) (some (d, ρ)) k = k (.int x) d ρ := eqI rfl
def prsM : List (EM × EM) → Rho → Option (Oe (List (PyData × PyData)))
  | [], ρ => some (.ok [] ρ)
  | (fk, fv) :: r, ρ => bindO (fk ρ) fun rk ρ1 => bindO (fv ρ1) fun rv ρ2 => prR rk (frz ρ2 rv) fun kd d ρ3 => bindO (prsM r ρ3) fun ps ρ4 => some (.ok ((kd, d) :: ps) ρ4)
@[simp] theorem prsM_0 (ρ : Rho) : prsM [] ρ = some (.ok [] ρ) := eqI rfl
@[simp] theorem prsM_c (fk fv : EM) (r : List (EM × EM)) (ρ : Rho) : prsM ((fk, fv) :: r) ρ = bindO (fk ρ) fun rk ρ1 => bindO (fv ρ1) fun rv ρ2 => prR rk (frz ρ2 rv) fun kd d ρ3 => bindO (prsM r ρ3) fun ps ρ4 => some (.ok ((kd, d) :: ps) ρ4) := eqI rfl
def dctR (ps : List (PyData × PyData)) (ρ : Rho) : Option (Oe R) := if apartK ps = true ∧ ps.length ≤ 15 then some (.ok (.own (.dict ps)) ρ) else none
def dctM (l : List (EM × EM)) : EM := fun ρ => bindO (prsM l ρ) dctR
@[simp] theorem dctM_e (l : List (EM × EM)) (ρ : Rho) : dctM l ρ = bindO (prsM l ρ) dctR := eqI rfl
/-- the pairs in the run -/
inductive Prs (T : Tb) (H : Hp) (F : Reg) : List (Key × V) → List (PyData × PyData) → Prop where
  | nil : Prs T H F [] []
  | cons {k : Key} {v : V} {d : PyData} {vs : List (Key × V)} {ds : List (PyData × PyData)} : DF T.K H F v d → Prs T H F vs ds → Prs T H F ((k, v) :: vs) ((kD k, d) :: ds)
section
variable {X : Cx} {T : Tb} {W : WX} {n : Nat}
/-- pieces and readings of the pairs -/
inductive Rdg (X : Cx) (T : Tb) (W : WX) (pos : Pos) : List (Option Expr) → List Expr → List (EM × EM) → List (TE × TE) → Prop where
  | nil : Rdg X T W pos [] [] [] []
  | cons {k v : Expr} {ks : List (Option Expr)} {vs : List Expr} {fk fv : EM} {l : List (EM × EM)} {ts : List (TE × TE)} : SE X T W k fk → SE X T W v fv → Rdg X T W pos ks vs l ts → Rdg X T W pos (some k :: ks) (v :: vs) ((fk, fv) :: l) ((Tof T W (tlE T) fk, Tof T W (tlE T) fv) :: ts)
theorem Rdg.all {pos : Pos} : ∀ {ks : List (Option Expr)} {vs : List Expr} {l : List (EM × EM)} {ts : List (TE × TE)}, Rdg X T W pos ks vs l ts → ks.all (·.isSome) = true ∧ ks.length = vs.length ∧ ks.length = l.length
  | _, _, _, _, .nil => ⟨rfl, rfl, rfl⟩
  | _, _, _, _, .cons a b c => by obtain ⟨h1, h2, h3⟩ := c.all; simp [h1, h2, h3]; omega
theorem Prs.mono {H H' : Hp} {F F' : Reg} (k : Kept F H H') (g : ∀ b, F b → F' b) : ∀ {kvs : List (Key × V)} {ds : List (PyData × PyData)}, Prs T H F kvs ds → Prs T H' F' kvs ds
  | _, _, .nil => .nil
  | _, _, .cons a b => .cons (a.mono k g) (Prs.mono k g b)
theorem Prs.len {H : Hp} {F : Reg} : ∀ {kvs : List (Key × V)} {ds : List (PyData × PyData)}, Prs T H F kvs ds → kvs.length = ds.length
  | _, _, .nil => rfl
  | _, _, .cons _ b => by rw [List.length_cons, List.length_cons, Prs.len b]
end
end DL
namespace DL
open PySem PyProof.Rows
open L2 hiding Sp
def minL : List Int → Int
  | [] => 0
  | [x] => x
  | x :: r => if x ≤ minL r then x else minL r
def insI (x : Int) : List Int → List Int
  | [] => [x]
  | y :: r => if x ≤ y then x :: y :: r else y :: insI x r
def sortI : List Int → List Int
  | [] => []
  | x :: r => insI x (sortI r)
def sortD : PyData → Option R
  | .list ds => (intsOf ds).map fun ns => .own (.list ((sortI ns).map PyData.int))
  | _ => none
@[simp] theorem sortD_l (ns : List Int) : sortD (.list (ns.map PyData.int)) = some (.own (.list ((sortI ns).map PyData.int))) := by
  show (intsOf _).map _ = _
  rw [intsOf_map]
  rfl
section
variable {X : Cx} {T : Tb} {W : WX} {n : Nat} {N : List Str} {sc : Scope} {e d : Expr} {f : AM} {pos p : Pos}
def dict0M : EM := fun ρ => some (.ok (.own (.dict [])) ρ)
@[simp] theorem dict0M_e (ρ : Rho) : dict0M ρ = some (.ok (.own (.dict [])) ρ) := eqI rfl
end
end DL
namespace DL
open PySem PyProof.Rows
open L2 hiding Sp
open AutoSeq1 (wpAny_loadPart')
end DL
namespace DL
open PySem PyProof.Rows
open L2 hiding Sp
/-- arguments, with the defaults behind them -/
def appA (fa : AM) (dds : List PyData) : AM := fun ρ => bindO (fa ρ) fun rs ρ1 => some (.ok (rs ++ dds.map R.dat) ρ1)
@[simp] theorem appA_e (fa : AM) (dds : List PyData) (ρ : Rho) : appA fa dds ρ = bindO (fa ρ) fun rs ρ1 => some (.ok (rs ++ dds.map R.dat) ρ1) := eqI rfl
end DL
namespace DL
open PySem PySem.Spec PyProof.Rows
open L2 hiding Sp
def boolOf : PyData → Option Bool
  | .bool b => some b
  | _ => none
def dIsB (d e : PyData) : Option R := match e with
  | .bool b => some (.dat (.bool (boolOf d == some b)))
  | _ => dIsN d e
def dNotB (d e : PyData) : Option R := match e with
  | .bool b => some (.dat (.bool (!(boolOf d == some b))))
  | _ => dNotN d e
@[simp] theorem dIsB_b (b c : Bool) : dIsB (.bool b) (.bool c) = some (.dat (.bool (b == c))) := by
  show some (R.dat (.bool (some b == some c))) = _
  rw [show (some b == some c) = (b == c) from rfl]
@[simp] theorem dNotB_b (b c : Bool) : dNotB (.bool b) (.bool c) = some (.dat (.bool (!(b == c)))) := by
  show some (R.dat (.bool (!(some b == some c)))) = _
  rw [show (some b == some c) = (b == c) from rfl]
def revD : PyData → Option R
  | .list ds => some (.own (.list ds.reverse))
  | .tuple ds => some (.dat (.tuple ds.reverse))
  | _ => none
@[simp] theorem revD_l (ds : List PyData) : revD (.list ds) = some (.own (.list ds.reverse)) := eqI rfl
@[simp] theorem revD_t (ds : List PyData) : revD (.tuple ds) = some (.dat (.tuple ds.reverse)) := eqI rfl
def pairOf : PyData → Option (Int × Int)
  | .tuple [.int a, .int b] => some (a, b)
  | _ => none
def pairsOf : List PyData → Option (List (Int × Int))
  | [] => some []
  | d :: r => match pairOf d, pairsOf r with
    | some p, some q => some (p :: q)
    | _, _ => none
def prD (p : Int × Int) : PyData := .tuple [.int p.1, .int p.2]
/-- ahead of, or the same -/
def leP (p q : Int × Int) : Bool := decide (p.1 * 4096 + p.2 ≤ q.1 * 4096 + q.2)
def insP (x : Int × Int) : List (Int × Int) → List (Int × Int)
  | [] => [x]
  | y :: r => if leP x y = true then x :: y :: r else y :: insP x r
def sortP : List (Int × Int) → List (Int × Int)
  | [] => []
  | x :: r => insP x (sortP r)
def bdP (p : Int × Int) : Bool := decide (0 ≤ p.1 ∧ p.1 < 4096 ∧ 0 ≤ p.2 ∧ p.2 < 4096)
def sortAD : PyData → Option R
  | .list ds => match intsOf ds with
    | some ns => some (.own (.list ((sortI ns).map PyData.int)))
    | none => match pairsOf ds with
      | some ps => if ps.length < 64 ∧ ps.all bdP = true then some (.own (.list ((sortP ps).map prD))) else none
      | none => none
  | _ => none
@[simp] theorem sortAD_l (ns : List Int) : sortAD (.list (ns.map PyData.int)) = some (.own (.list ((sortI ns).map PyData.int))) := by
  unfold sortAD
  simp only [intsOf_map]
end DL
namespace DL
open PySem PySem.Spec PyProof.Rows
open L2 hiding Sp
end DL
namespace DL
open PySem PySem.Spec PyProof.Rows
open L2 hiding Sp
def ch3M (g g' g'' : PyData → PyData → Option R) (fa fb fc fd : EM) : EM := fun ρ => bindO (fa ρ) fun r ρ1 => bindO (fb ρ1) fun s ρ2 => chR2 g (val ρ2 r) (val ρ2 s) (fun ρ => bindO (fc ρ) fun t ρ3 => chR2 g' (val ρ3 s) (val ρ3 t) (fun ρ => bindO (fd ρ) fun u ρ4 => op2R g'' ρ4 (val ρ4 t) (val ρ4 u)) ρ3) ρ2
@[simp] theorem ch3M_e (g g' g'' : PyData → PyData → Option R) (fa fb fc fd : EM) (ρ : Rho) : ch3M g g' g'' fa fb fc fd ρ = bindO (fa ρ) fun r ρ1 => bindO (fb ρ1) fun s ρ2 => chR2 g (val ρ2 r) (val ρ2 s) (fun ρ => bindO (fc ρ) fun t ρ3 => chR2 g' (val ρ3 s) (val ρ3 t) (fun ρ => bindO (fd ρ) fun u ρ4 => op2R g'' ρ4 (val ρ4 t) (val ρ4 u)) ρ3) ρ2 := eqI rfl
end DL
namespace DL
open PySem PySem.Spec PyProof.Rows
open L2 hiding Sp
def dEqE : PyData → PyData → Option R
  | .list ds, .list [] => some (.dat (.bool ds.isEmpty))
  | .tuple ds, .tuple [] => some (.dat (.bool ds.isEmpty))
  | d, e => dEq d e
@[simp] theorem dEqE_l (ds : List PyData) : dEqE (.list ds) (.list []) = some (.dat (.bool ds.isEmpty)) := eqI rfl
@[simp] theorem dEqE_t (ds : List PyData) : dEqE (.tuple ds) (.tuple []) = some (.dat (.bool ds.isEmpty)) := eqI rfl
end DL
namespace DL
open PySem PySem.Spec PyProof.Rows
open L2 hiding Sp
def lrR (r : R) (ρ : Rho) : Option (Oe R) := match r with
  | .dat (.int n) => if 0 ≤ n ∧ n ≤ 1000 then some (.ok (.own (.list (rngL 0 n.toNat))) ρ) else none
  | _ => none
def lrM (f : EM) : EM := fun ρ => bindO (f ρ) lrR
@[simp] theorem lrM_e (f : EM) (ρ : Rho) : lrM f ρ = bindO (f ρ) lrR := eqI rfl
end DL
namespace DL
open PySem PyProof.Rows
open L2 hiding Sp
/-- the same text, while an exception is held -/
def Tb.at (T : Tb) (a : Addr) (c : Nat) (d : Option Addr) : Tb := { T with hot := some (a, c, d) }
/-- nothing is held any more -/
def coolR : Option R → Option R
  | some (.ex _ _) => none
  | x => x
def cool (i : Nat) (ρ : Rho) : Rho := (ρ.set i none).map coolR
def isEx : R → Bool
  | .ex _ _ => true
  | _ => false
@[simp] theorem coolR_d (d : PyData) : coolR (some (.dat d)) = some (.dat d) := eqI rfl
@[simp] theorem coolR_o (d : PyData) : coolR (some (.own d)) = some (.own d) := eqI rfl
@[simp] theorem coolR_x (c : Nat) (fs : List PyData) : coolR (some (.ex c fs)) = none := eqI rfl
@[simp] theorem coolR_ob (d : OD) : coolR (some (.obj d)) = some (.obj d) := eqI rfl
@[simp] theorem coolR_n : coolR none = none := eqI rfl
@[simp] theorem coolR_f (k : Nat) : coolR (some (.fn k)) = some (.fn k) := eqI rfl
@[simp] theorem coolR_t (xs : List Int) : coolR (some (.st xs)) = some (.st xs) := eqI rfl
/-- what a suite's end is behind it -/
def coolS (i : Nat) : Option Ot → Option Ot
  | some (.nx ρ) => some (.nx (cool i ρ))
  | some (.bk ρ) => some (.bk (cool i ρ))
  | some (.ct ρ) => some (.ct (cool i ρ))
  | some (.rt r ρ) => if isEx r = true then none else some (.rt r (cool i ρ))
  | _ => none
/-- try: fb, except X as slot i: fh; mt: which classes X takes -/
def tryR (mt : Nat → Option Bool) (i : Nat) (fh : SM) : Option Ot → Option Ot
  | some (.er c fs ρ1) => match mt c with
    | some true => coolS i (fh (ρ1.set i (some (.ex c fs))))
    | some false => some (.er c fs ρ1)
    | none => none
  | o => o
def tryM (mt : Nat → Option Bool) (i : Nat) (fb fh : SM) : SM := fun ρ => tryR mt i fh (fb ρ)
@[simp] theorem tryM_e (mt : Nat → Option Bool) (i : Nat) (fb fh : SM) (ρ : Rho) : tryM mt i fb fh ρ = tryR mt i fh (fb ρ) := eqI rfl
@[simp] theorem tryR_nx (mt : Nat → Option Bool) (i : Nat) (fh : SM) (ρ : Rho) : tryR mt i fh (some (.nx ρ)) = some (.nx ρ) := eqI rfl
@[simp] theorem tryR_rt (mt : Nat → Option Bool) (i : Nat) (fh : SM) (r : R) (ρ : Rho) : tryR mt i fh (some (.rt r ρ)) = some (.rt r ρ) := eqI rfl
@[simp] theorem coolS_nx (i : Nat) (ρ : Rho) : coolS i (some (.nx ρ)) = some (.nx (cool i ρ)) := eqI rfl
theorem coolS_rt {i : Nat} {r : R} (h : isEx r = false) (ρ : Rho) : coolS i (some (.rt r ρ)) = some (.rt r (cool i ρ)) := by
  show (if isEx r = true then _ else _) = _
  rw [h, if_neg Bool.false_ne_true]
@[simp] theorem coolS_rd (i : Nat) (d : PyData) (ρ : Rho) : coolS i (some (.rt (.dat d) ρ)) = some (.rt (.dat d) (cool i ρ)) := coolS_rt rfl ρ
/-- the facts of the place where a piece runs while an exception is held -/
structure CxH (X : Cx) (T : Tb) (n : Nat) : Prop where
  hK : X.K = T.K
  hw : X.w = T.w
  gd : X.A.guards = some []
  room : L2H.RoomH n X.A
  nd : X.N.Nodup
  sm : X.base.get? sysModules ≠ none
  pin : ∃ a oe c d, T.hot = some (a, c, d) ∧ (a, oe) ∈ X.pn ∧ Zc (.ref (T.ca c)) d oe ∧ ∃ vs, oe.data = .fields vs
end DL
namespace DL
open PySem PyProof.Rows
open L2 hiding Sp
/-- a def's promise while the exception at a is held -/
structure FnP (P : Program) (w : World) (K : PySem.W.Frag) (mg : Str → Option Value) (base : Heap) (k : Nat) (f : Addr) (fd : FuncData) (ps : List Str) (sp : L2.Sp) (a : Addr) (Z : Obj → Prop) : Prop where
  len : ∀ vs H Q E, sp vs H Q E → vs.length = ps.length
  run : ∀ (A : Around) (outer : List Env) (s : Shared) (H : Hp) (args : Args) (us : List Value) (vs : List V) (Q : VK) (E : XK) (oe : Obj), A.guards = some [] → L2H.RoomH k A → L2H.PinOk outer H s (a, oe) → Z oe → (∃ us, oe.data = .fields us) → Env0 P w K mg base A outer s H → BindsTo s fd args (ps.zip us) →
    Vals vs us → sp vs H Q E → codeAny (model P w) A (.call (.ref f) args) (CR (L2.CX P w) outer P w H s Q E) s
/-- a def of the text that is called there -/
structure FnX (P : Program) (w : World) (mg : Str → Option Value) (base : Heap) (T : Tb) (x : Str) (k n : Nat) (sem : Sem) : Prop where
  ex : ∃ f fd ps, mg x = some (.ref f) ∧ PySem.W.keepIn T.K (.ref f) = true ∧ Binds T.K fd ps [] ∧ ps.length = n ∧ ∀ a c d, FnP P w T.K mg base k f fd ps (spOf (T.at a c d) n sem) a (Zc (.ref (T.ca c)) d)
theorem fn_x {T : Tb} {P : Program} {w : World} {mg : Str → Option Value} {base : Heap} {k n : Nat} {x qual : Str} {st : Stmt} {f : Addr} {fd : FuncData} {N ps : List Str} {pr : Nat → Bool} {m : SM} (G : Fun T.K x qual st f fd) (S : FnScope N ps (defScope st)) (hn : ps.length = n) (hmg : mg x = some (.ref f)) (hb : Binds T.K fd ps [])
    (hw : w = T.w) (hsm : base.get? sysModules ≠ none)
    (body : ∀ (X : Cx) (W : WX) (H : Hp) (a : Addr) (c : Nat) (d : Option Addr), X.prog = P → X.w = w → X.mg = mg → X.base = base → At X N (defScope st) → X.env.scope.kind = .function → (∀ x, X.fn x = true) → CxH X (T.at a c d) k → SB X (T.at a c d) W ⟨H, n, pr⟩ (defBody st) m) :
    FnX P w mg base T x (k + 1) n (runD n N.length pr m) := by
  have hN : n ≤ N.length := by
    have h := congrArg List.length S.pre
    rw [List.length_take] at h
    omega
  refine ⟨f, fd, ps, hmg, G.kp, hb, hn, fun a c d => ⟨fun vs H Q E ⟨_, _, _, hl, _⟩ => hl.trans hn.symm, ?_⟩⟩
  obtain ⟨oc, od, kV, doc, pm, an, cdv, ct, osl, rfl, lk, hcd⟩ := G.ex
  intro A outer s H args us vs Q E oe hg hr pin hz hf e0 hbd r hsp
  have hl : vs.length = ps.length := by obtain ⟨_, _, _, q, _⟩ := hsp; exact q.trans hn.symm
  have kin : T.K.In s.heap := e0.mod.kin.keeps fun b o e => (e0.bs b o e).1
  have nolim : s.heap.NoLimit := e0.mod.nolimit.keeps fun b o e => (e0.bs b o e).1
  have kinds : ∀ y ∈ ps.zip us, (defScope st).names.lookup y.1 = some .local ∨ ((defScope st).names.lookup y.1 = some .cell ∧ ((cellsFrom (s.heap.objs.size + 1) (defScope st).names []).lookup y.1).isSome = true) := by
    rintro ⟨y, v⟩ hy
    exact (S.par y (List.of_mem_zip hy).1).imp id fun q => ⟨q, PySem.W.cellsFrom_some _ _ _ (.inl q)⟩
  refine codeAny_call_function hr.depth (kin _ _ lk) rfl S.co S.gen rfl (PySem.W.codeRec_of kin hcd) (hbd _ _ _ _ ?_)
  refine wpAny_newFunctionEnv_cells S.kind kinds ?_
  rintro env rfl s1 ic
  refine ⟨nolim.keeps ic.toInCall.keep, codeAny_func ?_⟩
  let X := L2H.cxH (L2.CX P w) P w T.K mg base N qual (defScope st) f cdv A outer s H E (a, oe)
  have I : L2.Inv X [] (L2.start N vs) H s1 := L2H.inv_startH S pin e0 hl r ic
  have cx : CxH X (T.at a c d) k := ⟨rfl, hw, hg, hr.deeper _, S.nd, hsm, a, oe, c, d, rfl, List.mem_cons_self, hz, hf⟩
  have B := body X (fun cls d _ H' => E cls d H') H a c d rfl rfl rfl rfl ⟨rfl, rfl⟩ S.kind (fun _ => rfl) cx
  refine wpAny_mono (B.run [] s1 (L2.start N vs) H _ I (body_of hN hsp)) ?_ fun _ _ z => z
  intro fl s' hs
  cases fl with
  | ret u =>
    obtain ⟨v, σ', H', J, rv, q⟩ := hs
    exact ⟨v, H', J.os, J.bare, J.base, J.hok, rv, q⟩
  | next =>
    obtain ⟨σ', H', J, q⟩ := hs
    exact ⟨.non, H', J.os, J.bare, J.base, J.hok, rfl, q⟩
  | brk =>
    obtain ⟨_, _, _, q⟩ := hs
    exact q.elim
  | cont =>
    obtain ⟨_, _, _, q⟩ := hs
    exact q.elim
/-- a call from which nothing is raised -/
def noEr : Option (Oe R) → Option (Oe R)
  | some (.er _ _ _) => none
  | o => o
@[simp] theorem noEr_ok (r : R) (ρ : Rho) : noEr (some (.ok r ρ)) = some (.ok r ρ) := eqI rfl
def semX (sem : Sem) : Sem := fun args => noEr (sem args)
@[simp] theorem semX_e (sem : Sem) (args : List R) : semX sem args = noEr (sem args) := eqI rfl
section
variable {X : Cx} {T : Tb} {W : WX} {x : Str} {k n m : Nat} {sem : Sem} {e : Expr} {es : List Expr} {fa : AM} {p pos : Pos} {a : Addr} {c : Nat} {d : Option Addr} {N : List Str} {sc : Scope}
def isER (tb : Nat → Option Bool) (r : R) (ρ : Rho) : Option (Oe R) := match r with
  | .ex c [] => match tb c with
    | some b => some (.ok (.dat (.bool b)) ρ)
    | none => none
  | _ => none
def isEM (tb : Nat → Option Bool) (fe : EM) : EM := fun ρ => bindO (fe ρ) fun r ρ1 => isER tb r ρ1
@[simp] theorem isEM_e (tb : Nat → Option Bool) (fe : EM) (ρ : Rho) : isEM tb fe ρ = bindO (fe ρ) fun r ρ1 => isER tb r ρ1 := eqI rfl
/-- what a class of errors must say, so that isinstance asks rightly: reckoned by the kernel -/
def excCB (K : PySem.W.Frag) (D : Addr) : Bool :=
  decide (PySem.W.findIn K (.ref D) "__getattribute__" = some (some (.builtin "BaseException.__getattribute__"))) && decide (PySem.W.findIn K (.ref D) "__getattr__" = some none) &&
  decide (PySem.W.subIn K (.ref D) (.type "BaseException") = some true) && PySem.W.hasDictIn K D && decide (PySem.W.findIn K (.ref D) "__class__" = some (some (.builtin "object.__class__"))) &&
  decide (PySem.W.specialIn K (.builtin "object.__class__") "__get__" = some (some (.builtin "getset_descriptor.__get__"))) && decide (PySem.W.takesIn K (.builtin "object.__class__") = some true) && decide (PySem.W.mroIn K D (.type "object") = some true)
theorem excC_of {K : PySem.W.Frag} {D : Addr} (h : excCB K D = true) : ExcC K D := by
  unfold excCB at h
  simp only [Bool.and_eq_true, decide_eq_true_eq] at h
  obtain ⟨⟨⟨⟨⟨⟨⟨h1, h2⟩, h3⟩, h4⟩, h5⟩, h6⟩, h7⟩, h8⟩ := h
  exact ⟨h1, h2, h3, h4, h5, h6, h7, h8⟩
/-- the table's answers are the machine's -/
def IsTb (T : Tb) (cv : Value) (tb : Nat → Option Bool) : Prop := ∀ c b, tb c = some b → excCB T.K (T.ca c) = true ∧ PySem.W.kitOne T.K (.ref (T.ca c)) cv = some b
def IsTbs (T : Tb) (cvs : List Value) (tb : Nat → Option Bool) : Prop := ∀ c b, tb c = some b → excCB T.K (T.ca c) = true ∧ PySem.W.kitAny T.K (.ref (T.ca c)) cvs = some b
theorem exc_inst {A : Addr} {oe : Obj} {s : Shared} {D : Addr} (hget : s.heap.get? A = some oe) (hz : Zc (.ref D) none oe) (hf : ∃ vs, oe.data = .fields vs) : PySem.W.InstAt s.heap A oe D none := by
  obtain ⟨vs, hv⟩ := hf
  obtain ⟨oc, od, oda, osl⟩ := oe
  obtain ⟨h1, h2⟩ := hz
  dsimp only at h1 h2 hv
  subst h1 h2 hv
  exact ⟨hget, rfl, rfl, trivial⟩
/-- the class that a name bears -/
def ClsN (X : Cx) (x : Str) (v : V) (cv : Value) : Prop := (X.mg x = some cv ∨ (X.mg x = none ∧ bootBuiltins x = some cv)) ∧ RelV v cv ∧ ∀ u, RelV v u → u = cv
theorem pe_cls {v : V} {cv : Value} (l : At X N sc) (hx : gnB sc x = true) (h : ClsN X x v cv) : PE X (.Name x pos) (tC v) := by
  obtain ⟨h1 | ⟨h1, h2⟩, h3, _⟩ := h
  · exact pe_glob (l.gl hx).1 h1 h3 (l.gl hx).2.1
  · exact pe_bltn (l.gl hx).1 h1 h2 h3 (l.gl hx).2.2 (l.gl hx).2.1
end
def flV : PyData → Option V
  | .none => some .non
  | .bool b => some (.bl b)
  | .int i => some (.int i)
  | .str x => some (.str x)
  | _ => none
def eqL (d e : PyData) : Bool := match flV d, flV e with
  | some x, some y => eqV x y
  | _, _ => false
def flats (ds : List PyData) : Bool := ds.all fun d => (flV d).isSome
def dCnt : PyData → PyData → Option R
  | .list ds, e => if (flV e).isSome && flats ds then some (.dat (.int (ds.countP fun d => eqL d e : Nat))) else none
  | _, _ => none
def dIdx : PyData → PyData → Option R
  | .list ds, e => if (flV e).isSome && flats ds then (ds.findIdx? fun d => eqL d e).map fun j => .dat (.int (j : Nat)) else none
  | _, _ => none
def isLs : Option PyData → Bool
  | some (.list _) => true
  | _ => false
def lmM (g : PyData → PyData → Option R) (fo fe : EM) : EM := fun ρ => bindO (fo ρ) fun r ρ1 => pick (isLs (val ρ1 r)) (fun ρ1 => bindO (fe ρ1) fun s ρ2 => op2R g ρ2 (val ρ2 r) (val ρ2 s)) (fun _ => none) ρ1
@[simp] theorem lmM_e (g : PyData → PyData → Option R) (fo fe : EM) (ρ : Rho) : lmM g fo fe ρ = bindO (fo ρ) fun r ρ1 => pick (isLs (val ρ1 r)) (fun ρ1 => bindO (fe ρ1) fun s ρ2 => op2R g ρ2 (val ρ2 r) (val ρ2 s)) (fun _ => none) ρ1 := eqI rfl
@[simp] theorem isLs_l (ds : List PyData) : isLs (some (.list ds)) = true := eqI rfl
theorem flV_df {K : PySem.W.Frag} {H : Hp} {F : Reg} {v x : V} {d : PyData} (h : DF K H F v d) (e : flV d = some x) : v = x := by
  cases h <;> first | (cases e; rfl) | cases e
theorem flV_vw {T : Tb} {H : Hp} {F : Reg} {v x : V} {d : PyData} (h : Vw T H F v d) (e : flV d = some x) : v = x := by
  rcases h with h | ⟨a, _, h⟩
  · exact flV_df h e
  · cases d <;> first | exact h.elim | cases e
theorem flV_flat {d : PyData} {x : V} (e : flV d = some x) : flatV x = true := by
  cases d <;> first | (cases e; rfl) | cases e
theorem flats_vs {K : PySem.W.Frag} {H : Hp} {F : Reg} : ∀ {vs : List V} {ds : List PyData}, DFs K H F vs ds → flats ds = true → vs.all flatV = true
  | _, _, .nil, _ => rfl
  | _, _, .cons a b, h => by
    unfold flats at h
    rw [List.all_cons, Bool.and_eq_true] at h
    obtain ⟨x, hx⟩ := Option.isSome_iff_exists.mp h.1
    rw [List.all_cons, flV_df a hx, flV_flat hx, flats_vs b h.2]
    rfl
theorem eqL_at {K : PySem.W.Frag} {H : Hp} {F : Reg} {v y : V} {d e : PyData} (h : DF K H F v d) (hf : (flV d).isSome = true) (he : flV e = some y) : eqL d e = eqV v y := by
  obtain ⟨x, hx⟩ := Option.isSome_iff_exists.mp hf
  unfold eqL
  rw [hx, he, flV_df h hx]
theorem count_eq {K : PySem.W.Frag} {H : Hp} {F : Reg} {y : V} {e : PyData} (he : flV e = some y) : ∀ {vs : List V} {ds : List PyData}, DFs K H F vs ds → flats ds = true → (ds.countP fun d => eqL d e) = vs.countP fun v => eqV v y
  | _, _, .nil, _ => rfl
  | _, _, .cons a b, h => by
    unfold flats at h
    rw [List.all_cons, Bool.and_eq_true] at h
    rw [List.countP_cons, List.countP_cons, count_eq he b h.2, eqL_at a h.1 he]
def rCnt (K : PySem.W.Frag) : V → List V → Hp → VK → Prop := fun x xs H Q => ∃ (a : Addr) (ys : List V) (y : V), x = .ref a ∧ xs = [y] ∧ SqL K H a ys ∧ flatV y = true ∧ ys.all flatV = true ∧ Q (.int (ys.countP fun v => eqV v y : Nat)) H
theorem countP_eqU {y : V} : ∀ {ys : List V} {us : List Value}, Vals ys us → ys.all flatV = true → us.countP (eqU y) = ys.countP fun v => eqV v y
  | _, _, .nil, _ => rfl
  | _, _, .cons r t, h => by
    rw [List.all_cons, Bool.and_eq_true] at h
    rw [List.countP_cons, List.countP_cons, countP_eqU t h.2, eqU_of r h.1]
section
variable {X : Cx} {T : Tb} {W : WX} {o e ex : Expr} {fo fe : EM}
theorem mt_cnt : MtR X "list.count" (rCnt X.K) := by
  intro pins s σ H x xs v us Q I rx rxs h
  obtain ⟨p, ys, y, rfl, rfl, hs, fy, fys, q⟩ := h
  cases rx
  obtain ⟨u, rfl, ru⟩ := rxs.one
  obtain ⟨its, rv, ⟨⟨cls, dd, data, sl⟩, n, ho, hc, hdn, hd⟩, hlen⟩ := I.list hs
  simp only at hc hd
  subst hc hd
  refine call_meets PySem.F.slot_list_count ⟨_, ho, rfl⟩ PySem.F.entry_list_count (PySem.F.args_list_count_2 _ _)
    (SeqAt.list_countAt p its.toArray n dd sl u (eqU y)) ⟨ho, fun z hz => mem_eqAt ru fy rv fys z (by simpa using hz), ?_⟩
  refine ⟨.int (ys.countP fun v => eqV v y : Nat), H, I.tok _, ⟨s.toks, ?_⟩, q⟩
  show Value.int ((its.toArray.toList.countP (eqU y) : Nat) : Int) s.toks = _
  rw [show its.toArray.toList = its from rfl, countP_eqU rv fys]
theorem lm_of {r : V → List V → Hp → VK → Prop} {g : PyData → PyData → Option R} (hg : ∀ d e z, g d e = some z → ∃ ds, d = .list ds) (dr : ∀ (a : Addr) (y : V) (vs : List V) (ds : List PyData) (d : PyData) (z : R) (H : Hp) (F : Reg) (Q : VK), SqL T.K H a vs → DFs T.K H F vs ds → Vw T H F y d → g (.list ds) d = some z → (∀ v, ResN T H H F v z → Q v H) → r (.ref a) [y] H Q)
    {σ : L2.St} {H : Hp} {Q : VK} (h : Tof T W (tlE T) (lmM g fo fe) σ H Q) : tBM T.K "list" r (Tof T W (tlE T) fo) (tCons (Tof T W (tlE T) fe) tNil) σ H Q := by
  obtain ⟨ρ, F, O, E, P⟩ := h
  refine stp .refl E P fun v H1 ra ρ1 F1 O1 x1 y1 E1 r1 P1 => ?_
  cases q1 : val ρ1 ra with
  | none => rw [q1] at P1; exact P1.elim
  | some d1 =>
    rw [q1] at P1
    cases d1 with
    | list ds =>
      obtain ⟨a, vs, rfl, hs, sd⟩ := (val_vw E1 r1 q1).lst
      refine ⟨.inl ⟨rfl, vs, hs.sq⟩, ?_⟩
      refine stp y1 E1 P1 fun u H2 rb ρ2 F2 O2 x2 y2 E2 r2 P2 => ?_
      have r1' : ResR T H H2 F2 O2 σ (.ref a) ra := ResR.mono E1 x2 r1
      cases q2 : val ρ2 ra with
      | none => rw [q2] at P2; exact P2.elim
      | some d2 =>
        cases q3 : val ρ2 rb with
        | none => rw [q2, q3] at P2; exact P2.elim
        | some d3 =>
          rw [q2, q3] at P2
          have P3 : Post T W (tlE T) σ H F O Q (retO (g d2 d3) ρ2) := P2
          cases q4 : g d2 d3 with
          | none => rw [q4] at P3; exact P3.elim
          | some z =>
            rw [q4] at P3
            obtain ⟨ds2, rfl⟩ := hg _ _ _ q4
            obtain ⟨a2, vs2, ea, hs2, sd2⟩ := (val_vw E2 r1' q2).lst
            cases ea
            exact dr a u vs2 ds2 d3 z H2 F2 Q hs2.sq sd2 (val_vw E2 r2 q3) q4 fun w n3 => fin_op y2 E2 P3 .refl n3
    | _ => exact P1.elim
theorem dCnt_ls : ∀ d e z, dCnt d e = some z → ∃ ds, d = .list ds
  | .list ds, _, _, _ => ⟨ds, rfl⟩
theorem dIdx_ls : ∀ d e z, dIdx d e = some z → ∃ ds, d = .list ds
  | .list ds, _, _, _ => ⟨ds, rfl⟩
theorem se_cnt (hK : X.K = T.K) (h : PE X ex (tBM X.K "list" (rCnt X.K) (Tof T W (tlE T) fo) (tCons (Tof T W (tlE T) fe) tNil))) : SE X T W ex (lmM dCnt fo fe) := by
  rw [hK] at h
  refine pe_imp h fun σ H Q z => lm_of dCnt_ls (fun a y vs ds d z H F Q hs sd vw hg k => ?_) z
  have hg' : (if ((flV d).isSome && flats ds) = true then some (R.dat (.int (ds.countP fun d' => eqL d' d : Nat))) else none) = some z := hg
  split at hg'
  · rename_i hc
    rw [Bool.and_eq_true] at hc
    cases hg'
    obtain ⟨x, hx⟩ := Option.isSome_iff_exists.mp hc.1
    obtain rfl := flV_vw vw hx
    refine ⟨a, vs, y, rfl, rfl, hs, flV_flat hx, flats_vs sd hc.2, k _ ?_⟩
    rw [count_eq hx sd hc.2]
    exact .int _
  · cases hg'
theorem se_idx (hK : X.K = T.K) (h : PE X ex (tBM X.K "list" (rIndex X.K) (Tof T W (tlE T) fo) (tCons (Tof T W (tlE T) fe) tNil))) : SE X T W ex (lmM dIdx fo fe) := by
  rw [hK] at h
  refine pe_imp h fun σ H Q z => lm_of dIdx_ls (fun a y vs ds d z H F Q hs sd vw hg k => ?_) z
  have hg' : (if ((flV d).isSome && flats ds) = true then (ds.findIdx? fun d' => eqL d' d).map (fun j => R.dat (.int (j : Nat))) else none) = some z := hg
  split at hg'
  · rename_i hc
    rw [Bool.and_eq_true] at hc
    obtain ⟨j, hj, rfl⟩ := Option.map_eq_some_iff.mp hg'
    obtain ⟨x, hx⟩ := Option.isSome_iff_exists.mp hc.1
    obtain rfl := flV_vw vw hx
    rw [List.findIdx?_eq_some_iff_getElem] at hj
    obtain ⟨hl, h1, h2⟩ := hj
    have fl : ∀ m (hm : m < ds.length), (flV ds[m]).isSome = true := fun m hm => List.all_eq_true.mp hc.2 _ (List.getElem_mem hm)
    obtain ⟨v, hv, dv⟩ := sd.get (show ds[j]? = some ds[j] from List.getElem?_eq_getElem hl)
    refine ⟨a, vs, y, j, v, rfl, rfl, hs, flV_flat hx, flats_vs sd hc.2, hv, ?_, fun m z' hm hz => ?_, k _ (.int _)⟩
    · rw [← eqL_at dv (fl j hl) hx]; exact h1
    · have hml : m < ds.length := by omega
      obtain ⟨v', hv', dv'⟩ := sd.get (show ds[m]? = some ds[m] from List.getElem?_eq_getElem hml)
      rw [hz] at hv'
      cases hv'
      rw [← eqL_at dv' (fl m hml) hx]
      simpa using h2 m hm
  · cases hg'
end
end DL
namespace DL
open PySem PyProof.Rows
open L2 hiding Sp
/-- all but tables stays, nothing goes -/
structure Grew (H H1 : Hp) : Prop where
  keep : ∀ b o, H b = some o → NT o → H1 b = some o
  live : ∀ b, H1 b = none → H b = none
theorem Grew.refl {H : Hp} : Grew H H := ⟨fun _ _ h _ => h, fun _ h => h⟩
theorem Grew.ext {s : Bool} {H H1 : Hp} {F : Reg} {O : Ows} (g : Grew H H1) : Ext s H F O H1 F O := ⟨fun b o h _ n => g.keep b o h n, g.live, fun _ h => h, fun _ h => .inl h, fun _ _ h => .inl h⟩
/-- the place of a piece where a lambda is made -/
structure LamC (X : Cx) (T : Tb) (c P : Addr) (q : Str) : Prop where
  tb : LamX.TabB X.base X.mg c P
  cd : X.env.code = .ref c
  ql : X.env.qual ++ "<lambda>" = q
  mem : (P, q) ∈ T.tb
  uni : ∀ p ∈ T.tb, p.1 = P → p.2 = q
theorem LamC.blk {X : Cx} {T : Tb} {c P : Addr} {q : Str} (l : LamC X T c P q) (s : Shared) (H : Hp) (scope : Scope) (cl : List (Str × Addr)) (C : Addr) (fp : List Addr) : LamC (X.blk s H scope (compEnvC scope cl C X.env) fp) T c P q := ⟨l.tb, l.cd, l.ql, l.mem, l.uni⟩
def saidR (mt : Nat → Option Bool) (wd : Nat → List PyData → Option PyData) : Option (Oe R) → Option (Oe R)
  | some (.ok r ρ1) => bindF (frz ρ1 r) fun d ρ2 => some (.ok (.dat (.tuple [.str "told", d])) ρ2)
  | some (.er c fs ρ1) => match mt c with
    | some true => match wd c fs with
      | some d => some (.ok (.dat d) ρ1)
      | none => none
    | _ => none
  | none => none
def saidM (mt : Nat → Option Bool) (wd : Nat → List PyData → Option PyData) (fE : EM) : EM := fun ρ => saidR mt wd (fE ρ)
@[simp] theorem saidM_e (mt : Nat → Option Bool) (wd : Nat → List PyData → Option PyData) (fE : EM) (ρ : Rho) : saidM mt wd fE ρ = saidR mt wd (fE ρ) := eqI rfl
@[simp] theorem saidR_ok (mt : Nat → Option Bool) (wd : Nat → List PyData → Option PyData) (r : R) (ρ : Rho) : saidR mt wd (some (.ok r ρ)) = bindF (frz ρ r) fun d ρ2 => some (.ok (.dat (.tuple [.str "told", d])) ρ2) := eqI rfl
end DL
namespace DL
open PySem PyProof.Rows
open L2 hiding Sp
def noM : EM := fun _ => none
@[simp] theorem noM_e (ρ : Rho) : noM ρ = none := eqI rfl
def noS : SM := fun _ => none
@[simp] theorem noS_e (ρ : Rho) : noS ρ = none := eqI rfl
section
variable {X : Cx} {T : Tb} {W : WX} {n : Nat} {N : List Str} {sc : Scope} {a b o e : Expr} {fa fb fo fe : EM} {pos p apos : Pos}
theorem RoomH_units {n : Nat} {A : Around} (r : L2H.RoomH n A) : A.units + 64 < cLine := by have := r.un; omega
theorem h_add (c : CxH X T n) (ha : SE X T W a fa) (hb : SE X T W b fb) : SE X T W (.BinOp a .Add b pos) (op2M dPlus fa fb) := se_op (c.hK ▸ op_plus) does_plus ha hb
theorem ht_lt (c : CxH X T n) (ha : SE X T W a fa) (hb : SE X T W b fb) : ST X T W (.Compare a [.Lt] [b] pos) (tsM (op2M dLt fa fb)) := st_cmp op_lt does_lt ha hb (nomark _)
theorem ht_ne (c : CxH X T n) (ha : SE X T W a fa) (hb : SE X T W b fb) : ST X T W (.Compare a [.NotEq] [b] pos) (tsM (op2M dNe fa fb)) := st_cmp (op_ne.or (c.hK ▸ op_neD (RoomH_units c.room))) does_ne ha hb (nomark _)
theorem h_ixA (c : CxH X T n) (ha : SE X T W a fa) (hb : SE X T W b fb) (hs : PlainIx b := by exact fun _ _ => rfl) : SE X T W (.Subscript a b pos) (op2M dIxA fa fb) :=
  se_ix ((c.hK ▸ ix_seq (X := X)).or ix_dK) does_ixA hs ha hb
/-- xs.count(e), xs.index(e) -/
theorem e_cnt (hK : X.K = T.K) (ho : SE X T W o fo) (he : SE X T W e fe) (hbase : attributeBase o "count" X.env (eval o X.env) = eval o X.env := by rfl)
    (hfew : ((backTo pos (starEach [e] X.env)).all (fun x => !x.1) && (backToKw pos (keywordEach [] X.env)).all (fun x => x.1.isSome) && decide ([e].length + ([] : List Keyword).length + (if ([] : List Keyword).isEmpty then 0 else 1) < 30)) = true := by rfl)
    (hline : (apos.endLine == pos.line) = true := by rfl) (hs : starEach [e] X.env = (false, eval e X.env) :: starEach [] X.env := by rfl) (hpl : (backTo pos (starEach [] X.env)).any (·.1) = false := by rfl) :
    SE X T W (.Call (.Attribute o "count" apos) [e] [] pos) (lmM dCnt fo fe) :=
  se_cnt hK (pe_bm PySem.F.plainAttrs_list PySem.F.slot_list_count PySem.F.type_list_count mt_cnt ho (pa_cons he pa_nil hs) hbase hfew hline hs hpl)
theorem e_idx (hK : X.K = T.K) (ho : SE X T W o fo) (he : SE X T W e fe) (hbase : attributeBase o "index" X.env (eval o X.env) = eval o X.env := by rfl)
    (hfew : ((backTo pos (starEach [e] X.env)).all (fun x => !x.1) && (backToKw pos (keywordEach [] X.env)).all (fun x => x.1.isSome) && decide ([e].length + ([] : List Keyword).length + (if ([] : List Keyword).isEmpty then 0 else 1) < 30)) = true := by rfl)
    (hline : (apos.endLine == pos.line) = true := by rfl) (hs : starEach [e] X.env = (false, eval e X.env) :: starEach [] X.env := by rfl) (hpl : (backTo pos (starEach [] X.env)).any (·.1) = false := by rfl) :
    SE X T W (.Call (.Attribute o "index" apos) [e] [] pos) (lmM dIdx fo fe) :=
  se_idx hK (pe_bm PySem.F.plainAttrs_list PySem.F.slot_list_index PySem.F.type_list_index mt_index ho (pa_cons he pa_nil hs) hbase hfew hline hs hpl)
/-- an own class of errors, a built-in one -/
theorem clsN_own {x : Str} {c : Nat} (h : X.mg x = some (.ref (T.ca c))) : ClsN X x (.ref (T.ca c)) (.ref (T.ca c)) := ⟨.inl h, rfl, fun _ r => r⟩
theorem clsN_blt {x : Str} {t : String} (h : X.mg x = none) (hb : bootBuiltins x = some (.type t)) : ClsN X x (.ty t) (.type t) := ⟨.inr ⟨h, hb⟩, rfl, fun _ r => r⟩
end
def pickR (sems : List Sem) (fa : AM) (ρ : Rho) (i : Option PyData) : Option (Oe R) := match i with
  | some (.int j) => match atI sems j with
    | some sem => callM sem fa ρ
    | none => none
  | _ => none
def pickM (sems : List Sem) (fi : EM) (fa : AM) : EM := fun ρ => bindO (fi ρ) fun r ρ1 => pickR sems fa ρ1 (val ρ1 r)
@[simp] theorem pickM_e (sems : List Sem) (fi : EM) (fa : AM) (ρ : Rho) : pickM sems fi fa ρ = bindO (fi ρ) fun r ρ1 => pickR sems fa ρ1 (val ρ1 r) := eqI rfl
section
variable {X : Cx} {T : Tb} {W : WX} {n k m : Nat} {N : List Str} {sc : Scope} {e b : Expr} {es ns : List Expr} {fi : EM} {fa : AM} {sems : List Sem} {pos p p2 : Pos}
/-- the defs at their places -/
inductive Pl (P : Program) (w : World) (mg : Str → Option Value) (base : Heap) (T : Tb) (k n : Nat) : List V → List Sem → Prop where
  | nil : Pl P w mg base T k n [] []
  | cons {f : Addr} {fd : FuncData} {ps : List Str} {sem : Sem} {j : Nat} {vs : List V} {sems : List Sem} : PySem.W.keepIn T.K (.ref f) = true → Binds T.K fd ps [] → ps.length = n → FnG P w T.K mg base j f fd ps (spOf T n sem) → j ≤ k → (∀ args o, sem args = some o → args.length = n) → Pl P w mg base T k n vs sems → Pl P w mg base T k n (.ref f :: vs) (sem :: sems)
theorem Pl.len {P : Program} {w : World} {mg : Str → Option Value} {base : Heap} : ∀ {vs : List V} {sems : List Sem}, Pl P w mg base T k n vs sems → vs.length = sems.length
  | _, _, .nil => rfl
  | _, _, .cons _ _ _ _ _ _ r => by rw [List.length_cons, List.length_cons, r.len]
theorem Pl.get {P : Program} {w : World} {mg : Str → Option Value} {base : Heap} : ∀ {vs : List V} {sems : List Sem} {i : Nat} {sem : Sem}, Pl P w mg base T k n vs sems → sems[i]? = some sem →
    ∃ f fd ps j, vs[i]? = some (.ref f) ∧ PySem.W.keepIn T.K (.ref f) = true ∧ Binds T.K fd ps [] ∧ ps.length = n ∧ FnG P w T.K mg base j f fd ps (spOf T n sem) ∧ j ≤ k ∧ ∀ args o, sem args = some o → args.length = n
  | _, _, _, _, .nil, e => by simp at e
  | _, _, 0, _, .cons a b c d e' g _, e => by simp at e; subst e; exact ⟨_, _, _, _, rfl, a, b, c, d, e', g⟩
  | _, _, i + 1, sem, .cons _ _ _ _ _ _ r, e => by
    obtain ⟨f, fd, ps, j, h⟩ := Pl.get (i := i) (sem := sem) r (by simpa using e)
    exact ⟨f, fd, ps, j, by simpa using h⟩
end
end DL
namespace DL
open PySem PyProof.Rows
open L2 hiding Sp
theorem mem_look {c : Nat} {b : Bool} : ∀ {l : List (Nat × Bool)}, l.lookup c = some b → (c, b) ∈ l
  | [], h => by cases h
  | (k, v) :: r, h => by
    rw [List.lookup_cons] at h
    by_cases e : c = k
    · subst e
      simp at h
      subst h
      exact List.mem_cons_self
    · have e' : (c == k) = false := by simpa using e
      rw [e'] at h
      exact List.mem_cons_of_mem _ (mem_look h)
theorem isTb_l {T : Tb} {cv : Value} {l : List (Nat × Bool)} (h : ∀ p ∈ l, excCB T.K (T.ca p.1) = true ∧ PySem.W.kitOne T.K (.ref (T.ca p.1)) cv = some p.2) : IsTb T cv (fun c => l.lookup c) := fun c b e => by
  have hm : (c, b) ∈ l := mem_look e
  exact h _ hm
theorem isTbs_l {T : Tb} {cvs : List Value} {l : List (Nat × Bool)} (h : ∀ p ∈ l, excCB T.K (T.ca p.1) = true ∧ PySem.W.kitAny T.K (.ref (T.ca p.1)) cvs = some p.2) : IsTbs T cvs (fun c => l.lookup c) := fun c b e => by
  have hm : (c, b) ∈ l := mem_look e
  exact h _ hm
section
variable {X : Cx} {T : Tb} {W : WX} {N : List Str} {sc : Scope} {k m : Nat} {x : Str} {sem : Sem} {p pos : Pos}
/-- f() -/
theorem se_f0 (a : At X N sc) (hx : gnB sc x = true) (c : Cxt X T W m) (h : FnE X.prog X.w X.mg X.base T x k 0 sem) (hl : ∀ args o, sem args = some o → args.length = 0) (hk : k ≤ m) : SE X T W (.Call (.Name x p) [] [] pos) (callM sem nilA) := by
  obtain ⟨f, fd, ps, hm, hkp, hb, hn, G⟩ := h.ex
  rw [← c.hK] at hkp hb G
  refine ⟨fun pins s σ H Q I h => ?_⟩
  have h2 := call_of (n := 0) h fun vs rs H0 H1 F1 O1 rr args ρ pa o so => by rw [resRs_len rr, ← passA_len pa]; exact hl args o so
  obtain ⟨ρ, F, O, E, P⟩ := h2
  have q : spOf T 0 sem [] H Q fun cls d H' => W cls d σ H' := P [] H F O .refl E .nil
  refine wpAny_Call_Name_kw (ld_glob I (a.gl hx).1 hm (PySem.W.callWith_K0 I.kIn hkp ?_) (a.gl hx).2.1)
  have bb := hb s [] I.kIn (by rw [List.append_nil]; exact hn.symm)
  rw [List.append_nil] at bb
  refine wpAny_call (codeAny_mono (G.run X.A X.stack s H ⟨[], []⟩ [] [] Q _ c.gd (c.room.mono hk) I.env0 bb .nil q) ?_)
  intro r' s' hq
  cases r' with
  | error e => exact c.tk e s' (XE.of_call I (fun _ _ _ z => z) hq)
  | ok fl =>
    cases fl with
    | ret u => exact I.after hq
    | next => exact hq.elim
    | brk => exact hq.elim
    | cont => exact hq.elim
end
end DL
namespace DL
open PySem PySem.Spec PyProof.Rows
open L2 hiding Sp
def rg3 (i k : Int) (m : Nat) : List PyData := (List.range m).map fun (t : Nat) => .int (i + (t : Int) * k)
def lr3M (i k : Int) (m : Nat) : EM := fun ρ => some (.ok (.own (.list (rg3 i k m))) ρ)
@[simp] theorem lr3M_e (i k : Int) (m : Nat) (ρ : Rho) : lr3M i k m ρ = some (.ok (.own (.list (rg3 i k m))) ρ) := eqI rfl
end DL
namespace DL
open PySem PySem.Spec PyProof.Rows
open L2 hiding Sp
open PySem.W (alike alikeAll dataLt keyToks AllAlike Sortable dataLe KeyedOut EachIs)
def minDf (ns : List Int) (d : Int) : Int := if ns = [] then d else minL ns
/-- min(a, default=b) -/
def mdM (f g : EM) : EM := fun ρ => bindO (f ρ) fun r ρ1 => bindO (g ρ1) fun s ρ2 => match val ρ2 r, s with
  | some (.list ds), .dat (.int d) => (intsOf ds).map fun ns => .ok (.dat (.int (minDf ns d))) ρ2
  | _, _ => none
@[simp] theorem mdM_e (f g : EM) (ρ : Rho) : mdM f g ρ = bindO (f ρ) fun r ρ1 => bindO (g ρ1) fun s ρ2 => match val ρ2 r, s with
  | some (.list ds), .dat (.int d) => (intsOf ds).map fun ns => .ok (.dat (.int (minDf ns d))) ρ2
  | _, _ => none := eqI rfl
end DL
namespace DL
open PySem PySem.Spec PyProof.Rows
open L2 hiding Sp
/-- a key by a tuple of whole numbers -/
def keyT : PyData → Option (List Int)
  | .tuple ds => intsOf ds
  | _ => none
@[simp] theorem keyT_k (k : List Int) : keyT (kT k) = some k := by show intsOf _ = _; rw [intsOf_map]
def atT : List (PyData × PyData) → List Int → Option PyData
  | [], _ => none
  | (k, d) :: r, y => if keyT k = some y then some d else atT r y
end DL
namespace DL
open PySem PySem.Spec PyProof.Rows
open L2 hiding Sp
def isDict : Option (Option R) → Bool
  | some (some (.own (.dict _))) => true
  | _ => false
/-- by ints and texts (or empty) -/
def isKD : List (PyData × PyData) → Bool
  | [] => true
  | (k, _) :: _ => isKey k
/-- by tuples -/
def isTD : List (PyData × PyData) → Bool
  | [] => false
  | (k, _) :: _ => (keyT k).isSome
def putD (ds : List (PyData × PyData)) (k d : PyData) : List (PyData × PyData) := if (ds.any fun p => keq p.1 k) = true then ds.map (fun p => if keq p.1 k = true then (p.1, d) else p) else ds ++ [(k, d)]
def setKR (s : Nat) (d : PyData) (y : Option PyData) (ρ : Rho) : Option (Option R) → Option Ot
  | some (some (.own (.dict ds))) => match y with
    | some y => if ds.length < lim then (if isKey y = true then (if isKD ds = true then some (.nx (ρ.set s (some (.own (.dict (putD ds y d)))))) else none) else match keyT y with
        | some k => if (ds.isEmpty || isTD ds) = true ∧ atT ds k = none then some (.nx (ρ.set s (some (.own (.dict (ds ++ [(y, d)])))))) else none
        | none => none) else none
    | none => none
  | _ => none
def setKM (s : Nat) (fi fe : EM) : SM := fun ρ => bindS (fe ρ) fun r ρ1 => match frz ρ1 r with
  | some (d, ρ2) => if isDict ρ2[s]? = true then bindS (fi ρ2) fun ri ρ3 => setKR s d (val ρ3 ri) ρ3 ρ3[s]? else none
  | none => none
@[simp] theorem isDict_e (ds : List (PyData × PyData)) : isDict (some (some (.own (.dict ds)))) = true := eqI rfl
@[simp] theorem setKM_e (s : Nat) (fi fe : EM) (ρ : Rho) : setKM s fi fe ρ = bindS (fe ρ) fun r ρ1 => bindF (frz ρ1 r) fun d ρ2 => pick (isDict ρ2[s]?) (fun ρ => bindS (fi ρ) fun ri ρ3 => setKR s d (val ρ3 ri) ρ3 ρ3[s]?) (fun _ => none) ρ2 := eqI rfl
theorem any_dfk {K : PySem.W.Frag} {H : Hp} {F : Reg} (k : Key) : ∀ {ks : List (Key × V)} {ds : List (PyData × PyData)}, DFk K H F ks ds → (ks.any fun kv => decide (kv.1 = k)) = ds.any fun p => keq p.1 (kD k)
  | _, _, .nil => rfl
  | _, _, .cons a b => by rw [List.any_cons, List.any_cons, any_dfk k b, keq_kD]
theorem DFk.repl {K : PySem.W.Frag} {H : Hp} {F : Reg} {k : Key} {v : V} {d : PyData} (hd : DF K H F v d) : ∀ {ks : List (Key × V)} {ds : List (PyData × PyData)}, DFk K H F ks ds → DFk K H F (ks.map fun kv => if kv.1 = k then (kv.1, v) else kv) (ds.map fun p => if keq p.1 (kD k) = true then (p.1, d) else p)
  | _, _, .nil => .nil
  | _, _, .cons (k := j) a b => by
    rw [List.map_cons, List.map_cons]
    simp only [keq_kD]
    by_cases e : j = k
    · rw [if_pos e, if_pos (by simpa using e)]
      exact .cons hd (DFk.repl hd b)
    · rw [if_neg e, if_neg (by simpa using e)]
      exact .cons a (DFk.repl hd b)
theorem DFk.append {K : PySem.W.Frag} {H : Hp} {F : Reg} : ∀ {ks js : List (Key × V)} {ds es : List (PyData × PyData)}, DFk K H F ks ds → DFk K H F js es → DFk K H F (ks ++ js) (ds ++ es)
  | _, _, _, _, .nil, h => h
  | _, _, _, _, .cons a b, h => .cons a (DFk.append b h)
theorem DFk.put {K : PySem.W.Frag} {H : Hp} {F : Reg} {k : Key} {v : V} {d : PyData} {ks : List (Key × V)} {ds : List (PyData × PyData)} (h : DFk K H F ks ds) (hd : DF K H F v d) : DFk K H F (putK ks k v) (putD ds (kD k) d) := by
  unfold putK putD
  rw [any_dfk k h]
  split
  · exact DFk.repl hd h
  · exact h.append (.cons hd .nil)
theorem DFt.append {K : PySem.W.Frag} {H : Hp} {F : Reg} : ∀ {ks js : List Ent} {ds es : List (PyData × PyData)}, DFt K H F ks ds → DFt K H F js es → DFt K H F (ks ++ js) (ds ++ es)
  | _, _, _, _, .nil, h => h
  | _, _, _, _, .cons q r a b, h => .cons q r a (DFt.append b h)
theorem DFk.length {K : PySem.W.Frag} {H : Hp} {F : Reg} : ∀ {ks : List (Key × V)} {ds : List (PyData × PyData)}, DFk K H F ks ds → ks.length = ds.length
  | _, _, .nil => rfl
  | _, _, .cons _ b => by rw [List.length_cons, List.length_cons, DFk.length b]
theorem DFt.length {K : PySem.W.Frag} {H : Hp} {F : Reg} : ∀ {ks : List Ent} {ds : List (PyData × PyData)}, DFt K H F ks ds → ks.length = ds.length
  | _, _, .nil => rfl
  | _, _, .cons _ _ _ b => by rw [List.length_cons, List.length_cons, DFt.length b]
end DL
namespace DL
open PySem PySem.Spec PyProof.Rows
open L2 hiding Sp
def iwM (g : PyData → Option (List PyData)) (f : EM) : IM := fun ρ => bindO (f ρ) fun r ρ1 => match frz ρ1 r with
  | some (d, ρ2) => okI (g d) ρ2
  | none => none
@[simp] theorem iwM_e (g : PyData → Option (List PyData)) (f : EM) (ρ : Rho) : iwM g f ρ = bindO (f ρ) fun r ρ1 => bindF (frz ρ1 r) fun d ρ2 => okI (g d) ρ2 := eqI rfl
end DL
namespace DL
open PySem PySem.Spec PyProof.Rows
open L2 hiding Sp
/-- what stays as the heap goes on -/
def Clo (G : Hp → Reg → Prop) : Prop := ∀ H F H' F', G H F → Kept F H H' → (∀ b, F b → F' b) → G H' F'
/-- amid a comprehension: the new list at D holds acc -/
def LcS (T : Tb) (H : Hp) (F : Reg) (O : Ows) (G : Hp → Reg → Prop) (D : Addr) (σ : L2.St) (ρ : Rho) (acc : List PyData) (H' : Hp) : Prop :=
  ∃ F' O' va, Ext false H F O H' F' O' ∧ EnvR T H' F' O' σ ρ ∧ H' D = some (.lst va) ∧ DFs T.K H' F' va acc ∧ ¬ F' D ∧ (∀ j, D ∉ O' j) ∧ G H' F'
section
variable {T : Tb} {H : Hp} {F : Reg} {O : Ows} {G : Hp → Reg → Prop} {D : Addr} {σ σ' : L2.St} {ρ ρ' : Rho} {acc : List PyData} {H' H'' : Hp}
theorem LcS.imp {G' : Hp → Reg → Prop} (s : LcS T H F O G D σ ρ acc H') (g : ∀ F', G H' F' → G' H' F') : LcS T H F O G' D σ ρ acc H' := by
  obtain ⟨F', O', va, x, E, hD, sa, nD, oD, gg⟩ := s
  exact ⟨F', O', va, x, E, hD, sa, nD, oD, g _ gg⟩
theorem LcS.grow (cl : Clo G) (s : LcS T H F O G D σ ρ acc H') (k : ∀ b o, H' b = some o → H'' b = some o) : LcS T H F O G D σ ρ acc H'' := by
  obtain ⟨F', O', va, x, E, hD, sa, nD, oD, gg⟩ := s
  have gr : Gr H' F' H'' F' := ⟨k, fun _ h => h, fun _ h => .inl h⟩
  exact ⟨F', O', va, x.trans gr.ext, E.gr gr, k _ _ hD, sa.mono (kept_all k) fun _ h => h, nD, oD, cl _ _ _ _ gg (kept_all k) fun _ h => h⟩
/-- slots are stored: some owners are forgotten -/
theorem LcS.sub (s : LcS T H F O G D σ ρ acc H') (k : ∀ F' O', EnvR T H' F' O' σ ρ → G H' F' → ∃ O2, EnvR T H' F' O2 σ' ρ' ∧ Sub O2 O') : LcS T H F O G D σ' ρ' acc H' := by
  obtain ⟨F', O', va, x, E, hD, sa, nD, oD, gg⟩ := s
  obtain ⟨O2, E2, s2⟩ := k _ _ E gg
  exact ⟨F', O2, va, ⟨x.keep, x.live, x.grow, x.new, fun j b e => x.own j b (s2 j b e)⟩, E2, hD, sa, nD, fun j z => oD j (s2 j D z), gg⟩
theorem LcS.wipe {vs : List Nat} (s : LcS T H F O G D σ ρ acc H') : LcS T H F O G D (wipe σ vs) (wipeR ρ vs) acc H' := s.sub fun F' O' E _ => let ⟨O2, E2, s2⟩ := E.wiped (vs := vs); ⟨O2, E2, s2⟩
theorem LcS.unwipe {vs : List Nat} (s : LcS T H F O G D (L2.wipe σ vs) ρ acc H') : LcS T H F O G D σ ρ acc H' := s.sub fun F' O' E _ => ⟨O', E.unwipe, fun _ _ h => h⟩
end
/-- the inner clause -/
def lcI (g : GM) (vs : List Nat) (c : Rho → Option (Oe Bool)) (f : EM) : List PyData → Rho → List PyData → Option (List PyData × Rho)
  | [], ρ, acc => some (acc, ρ)
  | x :: xs, ρ, acc => match g x ρ with
    | none => none
    | some ρ1 => bindN (c ρ1) fun b ρ2 => if b = true then bindN (f ρ2) fun r ρ3 => match frz ρ3 r with
        | some (d, ρ4) => if acc.length < lim then lcI g vs c f xs (wipeR ρ4 vs) (acc ++ [d]) else none
        | none => none
      else lcI g vs c f xs (wipeR ρ2 vs) acc
def lc2L (g : GM) (vs : List Nat) (c : Rho → Option (Oe Bool)) (it1 : IM) (g1 : GM) (vs1 : List Nat) (c1 : Rho → Option (Oe Bool)) (f : EM) : List PyData → Rho → List PyData → Option (Oe R)
  | [], ρ, acc => some (.ok (.own (.list acc)) ρ)
  | x :: xs, ρ, acc => match g x ρ with
    | none => none
    | some ρ1 => bindN (c ρ1) fun b ρ2 => if b = true then bindN (it1 ρ2) fun ds ρ3 => match lcI g1 vs1 c1 f ds (wipeR ρ3 vs1) acc with
        | some (acc', ρ4) => lc2L g vs c it1 g1 vs1 c1 f xs (wipeR ρ4 vs) acc'
        | none => none
      else lc2L g vs c it1 g1 vs1 c1 f xs (wipeR ρ2 vs) acc
def lc2M (it : IM) (g : GM) (vs : List Nat) (c : Rho → Option (Oe Bool)) (it1 : IM) (g1 : GM) (vs1 : List Nat) (c1 : Rho → Option (Oe Bool)) (f : EM) : EM := fun ρ => bindO (it ρ) fun ds ρ1 => lc2L g vs c it1 g1 vs1 c1 f ds (wipeR ρ1 vs) []
@[simp] theorem lc2M_e (it : IM) (g : GM) (vs : List Nat) (c : Rho → Option (Oe Bool)) (it1 : IM) (g1 : GM) (vs1 : List Nat) (c1 : Rho → Option (Oe Bool)) (f : EM) (ρ : Rho) : lc2M it g vs c it1 g1 vs1 c1 f ρ = bindO (it ρ) fun ds ρ1 => lc2L g vs c it1 g1 vs1 c1 f ds (wipeR ρ1 vs) [] := eqI rfl
end DL
namespace DL
open PySem PySem.Spec PyProof.Rows
open L2 hiding Sp
def isKDo : Option PyData → Bool
  | some (.dict ds) => isKD ds
  | _ => false
def getR (y z : R) (ρ : Rho) : Option PyData → Option (Oe R)
  | some (.dict ds) => match y, z with
    | .dat y, .dat z => if isKey y = true ∧ isKD ds = true then some (.ok (.dat ((atK ds y).getD z)) ρ) else none
    | _, _ => none
  | _ => none
def getM (f fk fd : EM) : EM := fun ρ => bindO (f ρ) fun r ρ1 => if isKDo (val ρ1 r) = true then bindO (fk ρ1) fun y ρ2 => bindO (fd ρ2) fun z ρ3 => getR y z ρ3 (val ρ3 r) else none
@[simp] theorem isKDo_e (ds : List (PyData × PyData)) : isKDo (some (.dict ds)) = isKD ds := eqI rfl
@[simp] theorem getM_e (f fk fd : EM) (ρ : Rho) : getM f fk fd ρ = bindO (f ρ) fun r ρ1 => pick (isKDo (val ρ1 r)) (fun ρ => bindO (fk ρ) fun y ρ2 => bindO (fd ρ2) fun z ρ3 => getR y z ρ3 (val ρ3 r)) (fun _ => none) ρ1 := eqI rfl
def lenKD : PyData → Option R
  | .dict ds => some (.dat (.int ds.length))
  | _ => none
@[simp] theorem lenKD_e (ds : List (PyData × PyData)) : lenKD (.dict ds) = some (.dat (.int ds.length)) := eqI rfl
end DL
namespace DL
open PySem PySem.Spec PyProof.Rows
open L2 hiding Sp
end DL
namespace DL
open PySem PySem.Spec PyProof.Rows
open L2 hiding Sp
end DL
namespace DL
open PySem PySem.Spec PyProof.Rows
open L2 hiding Sp
/-- sorted of a list or a tuple of ints -/
def sortTD : PyData → Option R
  | .tuple ds => (intsOf ds).map fun ns => .own (.list ((sortI ns).map PyData.int))
  | _ => none
@[simp] theorem sortTD_t (ns : List Int) : sortTD (.tuple (ns.map PyData.int)) = some (.own (.list ((sortI ns).map PyData.int))) := by
  show (intsOf _).map _ = _
  rw [intsOf_map]
  rfl
end DL
namespace DL
open PySem L2
/-- one of a new pair of two -/
def ix2M (k : Int) (f : EM) : EM := fun ρ => bindO (f ρ) fun r ρ1 => match r with
  | .two d e => if k = 0 then some (.ok (.own d) ρ1) else if k = 1 then some (.ok (.own e) ρ1) else none
  | _ => none
@[simp] theorem ix2M_e (k : Int) (f : EM) (ρ : Rho) : ix2M k f ρ = bindO (f ρ) fun r ρ1 => match r with
  | .two d e => if k = 0 then some (.ok (.own d) ρ1) else if k = 1 then some (.ok (.own e) ρ1) else none
  | _ => none := eqI rfl
end DL
namespace DL
open PySem PySem.Spec PyProof.Rows
open L2 hiding Sp
open PySem.W (alike alikeAll dataLt keyToks AllAlike Sortable dataLe KeyedOut EachIs)
end DL
namespace DL
open PySem PyProof.Rows
open L2 hiding Sp
end DL
namespace DL
open PySem PyProof.Rows
open L2 hiding Sp
/-- arguments in the order of the parameters, the defaults of those left out behind them -/
def prmA (pm : List Nat) (dds : List PyData) (fa : AM) : AM := fun ρ => bindO (fa ρ) fun rs ρ1 => if rs.length = pm.length then some (.ok (pm.filterMap (rs[·]?) ++ dds.map R.dat) ρ1) else none
@[simp] theorem prmA_e (pm : List Nat) (dds : List PyData) (fa : AM) (ρ : Rho) : prmA pm dds fa ρ = bindO (fa ρ) fun rs ρ1 => if rs.length = pm.length then some (.ok (pm.filterMap (rs[·]?) ++ dds.map R.dat) ρ1) else none := eqI rfl
section
variable {X : Cx} {T : Tb} {W : WX} {x : Str} {k n m i : Nat} {sem : Sem} {e : Expr} {es : List Expr} {kws : List Keyword} {fa : AM} {fe : EM} {p pos kpos : Pos} {ks : List Str} {pm : List Nat} {dds : List PyData} {N : List Str} {sc : Scope} {f : Addr}
def SK (X : Cx) (T : Tb) (W : WX) (kws : List Keyword) (f : AM) : Prop := PK X kws (Tof T W (tlA T) f)
theorem pk_imp {t t' : TA} (h : PK X kws t) (i : ∀ σ H Q, t' σ H Q → t σ H Q) : PK X kws t' := ⟨fun pos pins s σ H Q I q => h.run pos pins s σ H Q I (i σ H Q q)⟩
theorem sk_nil : SK X T W [] nilA := pk_imp pk_nil fun σ H Q ⟨ρ, F, O, E, P⟩ => P [] H F O .refl E .nil
theorem sk_cons {nm : Option Str} (he : SE X T W e fe) (hr : SK X T W kws fa) : SK X T W (⟨nm, e, kpos⟩ :: kws) (consA fe fa) := by
  refine pk_imp (pk_cons he hr) fun σ H Q ⟨ρ, F, O, E, P⟩ => ?_
  refine stp .refl E P fun v H1 ra ρ1 F1 O1 _ y1 E1 r1 P1 => ?_
  obtain ⟨F1', y1', E1', r1'⟩ := tmp_ok y1 (fun _ h => h) E1 r1
  refine stp y1' E1' P1 fun vs H2 rs ρ2 F2 O2 x2 y2 E2 r2 P2 => ?_
  exact P2 _ _ _ _ y2 E2 (.cons (ResR.mono E1' x2 r1') (ResRs.back y1'.live r2))
/-- slot i holds one of these defs -/
def vfM (i : Nat) (sems : Nat → Option Sem) (fa : AM) : EM := fun ρ => match ρ[i]? with
  | some (some (.fn j)) => match sems j with
    | some sem => callM sem fa ρ
    | none => none
  | _ => none
end
@[simp] theorem vfM_e (i : Nat) (sems : Nat → Option Sem) (fa : AM) (ρ : Rho) : vfM i sems fa ρ = match ρ[i]? with
  | some (some (.fn j)) => (match sems j with | some sem => callM sem fa ρ | none => none)
  | _ => none := eqI rfl
def forF (i : Nat) (body : SM) : List Nat → SM
  | [], ρ => some (.nx ρ)
  | k :: ks, ρ => match body (ρ.set i (some (.fn k))) with
    | some (.nx ρ2) => forF i body ks ρ2
    | some (.ct ρ2) => forF i body ks ρ2
    | some (.bk ρ2) => some (.nx ρ2)
    | o => o
@[simp] theorem forF_nil (i : Nat) (body : SM) (ρ : Rho) : forF i body [] ρ = some (.nx ρ) := eqI rfl
end DL
namespace DL
open PySem L2
def insE (i : Nat) (k : Int) : Option (PyData × Rho) → Option Ot
  | some (d, ρ) => match ρ[i]? with
    | some (some (.own (.list ds))) => if ds.length < lim ∧ 0 ≤ k ∧ k < 4611686018427387904 then some (.nx (ρ.set i (some (.own (.list (ds.take k.toNat ++ [d] ++ ds.drop k.toNat)))))) else none
    | _ => none
  | none => none
def insR (i : Nat) (fb : EM) (r : R) (ρ : Rho) : Option Ot := match r with
  | .dat (.int k) => bindS (fb ρ) fun s ρ2 => insE i k (frz ρ2 s)
  | _ => none
/-- x.insert(k, e) -/
def insM (i : Nat) (fa fb : EM) : SM := fun ρ => if isList ρ[i]? = true then bindS (fa ρ) (insR i fb) else none
@[simp] theorem insM_e (i : Nat) (fa fb : EM) (ρ : Rho) : insM i fa fb ρ = pick (isList ρ[i]?) (fun ρ => bindS (fa ρ) (insR i fb)) (fun _ => none) ρ := by
  unfold insM pick
  cases isList ρ[i]? <;> rfl
@[simp] theorem insR_e (i : Nat) (fb : EM) (k : Int) (ρ : Rho) : insR i fb (.dat (.int k)) ρ = bindS (fb ρ) fun s ρ2 => insE i k (frz ρ2 s) := eqI rfl
end DL
namespace DL
open PySem PyProof.Rows
open L2 hiding Sp
/-- the text of __init__(self, many, most) -/
structure IniT (st : Stmt) : Prop where
  sc : FnScope ["self", "many", "most"] ["self", "many", "most"] (defScope st)
  loc : ∀ x ∈ (["self", "many", "most"] : List Str), (defScope st).names.lookup x = some .local
  body : ∃ p1 p2 p3 p4 q1 q2 q3 q4 : Pos, defBody st = [.Assign [.Attribute (.Name "self" p1) "many" p2] (.Name "many" p3) p4, .Assign [.Attribute (.Name "self" q1) "most" q2] (.Name "most" q3) q4]
/-- what the written part says of a class of errors with two fields -/
structure OexE (mg : Str → Option Value) (T : Tb) (x : Str) (c : Nat) (st : Stmt) : Prop where
  g : mg x = some (.ref (T.ca c))
  o : L2.OexC T.K (T.ca c)
  n1 : PySem.W.findIn T.K (.ref (T.ca c)) "many" = some none
  n2 : PySem.W.findIn T.K (.ref (T.ca c)) "most" = some none
  i : ∃ (qual : Str) (fI : Addr) (oc : Value) (od : Option Addr) (kV doc pm : Value) (an : Option Addr) (cdv ct : Value) (osl : Array (Option Value)),
    PySem.W.findIn T.K (.ref (T.ca c)) "__init__" = some (some (.ref fI)) ∧ PySem.W.typeIn T.K (.ref fI) = some (.type "function") ∧
    T.K.lookup fI = some ⟨oc, od, .func (PySem.W.fnOf "__init__" qual (defArgs st) (defBody st) (defScope st) .none kV doc pm an cdv ct), osl⟩ ∧ PySem.W.codeIn T.K cdv qual = true ∧
    Binds T.K (PySem.W.fnOf "__init__" qual (defArgs st) (defBody st) (defScope st) .none kV doc pm an cdv ct) ["self", "many", "most"] []
def spI (K : PySem.W.Frag) (C : Addr) : L2.Sp := fun vs H Q _ => ∃ (a : Addr) (x y : V), vs = [.ref a, x, y] ∧ H a = some (exo a C none) ∧
  ∀ dx, H dx = none → dx ≠ a → Q .non (upd (upd (upd H dx (exd dx [("many", x)])) a (exo a C (some dx))) dx (exd dx [("most", y), ("many", x)]))
theorem ini_ok {P : Program} {w : World} {K : PySem.W.Frag} {mg : Str → Option Value} {base : Heap} {st : Stmt} {qual : Str} {fI C : Addr} {oc : Value} {od : Option Addr} {kV doc pm : Value} {an : Option Addr} {cdv ct : Value} {osl : Array (Option Value)}
    (lk : K.lookup fI = some ⟨oc, od, .func (PySem.W.fnOf "__init__" qual (defArgs st) (defBody st) (defScope st) .none kV doc pm an cdv ct), osl⟩) (hcd : PySem.W.codeIn K cdv qual = true) (S : IniT st)
    (O : L2.OexC K C) (n1 : PySem.W.findIn K (.ref C) "many" = some none) (n2 : PySem.W.findIn K (.ref C) "most" = some none) :
    FnOk P w K mg base CX0 1 fI (PySem.W.fnOf "__init__" qual (defArgs st) (defBody st) (defScope st) .none kV doc pm an cdv ct) ["self", "many", "most"] (spI K C) := by
  refine fn_of lk hcd S.sc (fun vs H Q E ⟨a, x, y, e, _⟩ => by rw [e]; rfl) fun A outer s H vs Q E hr hsp => ?_
  obtain ⟨p1, p2, p3, p4, q1, q2, q3, q4, hb⟩ := S.body
  obtain ⟨a, x, y, rfl, ha, q⟩ := hsp
  have vis : ∀ x ∈ (["self", "many", "most"] : List Str), Vis (defScope st) x := fun x hx => .inl (S.loc x hx)
  have e0 : PE (cxOf CX0 P w K mg base ["self", "many", "most"] qual (defScope st) fI cdv A outer s H E) (.Name "self" p1) (tVar 0) := pe_var rfl (vis _ (by simp))
  have e0' : PE (cxOf CX0 P w K mg base ["self", "many", "most"] qual (defScope st) fI cdv A outer s H E) (.Name "self" q1) (tVar 0) := pe_var rfl (vis _ (by simp))
  have e1 : PE (cxOf CX0 P w K mg base ["self", "many", "most"] qual (defScope st) fI cdv A outer s H E) (.Name "many" p3) (tVar 1) := pe_var rfl (vis _ (by simp))
  have e2 : PE (cxOf CX0 P w K mg base ["self", "many", "most"] qual (defScope st) fI cdv A outer s H E) (.Name "most" q3) (tVar 2) := pe_var rfl (vis _ (by simp))
  refine ⟨_, by rw [hb]; exact pss_cons (ps_ost e0 e1) (pss_one (ps_ost e0' e2)), ?_⟩
  show tOst K "many" (tVar 0) (tVar 1) _ [some (V.ref a), some x, some y] H
  refine ⟨x, rfl, .ref a, rfl, a, C, rfl, O, n1, .inl ⟨ha, fun dx hd hne => ?_⟩⟩
  show tOst K "most" (tVar 0) (tVar 2) _ [some (V.ref a), some x, some y] _
  refine ⟨y, rfl, .ref a, rfl, a, C, rfl, O, n2, .inr ⟨dx, [("many", x)], upd_same, by rw [upd_ne hne]; exact upd_same, Nat.le_of_ble_eq_true rfl, ?_⟩⟩
  exact q dx hd hne
/-- raise C(e1, e2) -/
def raise2R (c : Nat) (rs : List R) (ρ : Rho) : Option Ot := match rs with
  | [.dat (.int m), .dat (.int n)] => some (.er c [.int m, .int n] ρ)
  | _ => none
def raise2M (c : Nat) (fa : AM) : SM := fun ρ => bindS (fa ρ) (raise2R c)
@[simp] theorem raise2M_e (c : Nat) (fa : AM) (ρ : Rho) : raise2M c fa ρ = bindS (fa ρ) (raise2R c) := eqI rfl
@[simp] theorem raise2R_e (c : Nat) (m n : Int) (ρ : Rho) : raise2R c [.dat (.int m), .dat (.int n)] ρ = some (.er c [.int m, .int n] ρ) := eqI rfl
theorem ResRs.ints {T : Tb} {H0 H : Hp} {F : Reg} {O : Ows} {σ : L2.St} {vs : List V} {m n : Int} (h : ResRs T H0 H F O σ vs [.dat (.int m), .dat (.int n)]) : vs = [.int m, .int n] := by
  cases h with
  | cons a b =>
    cases b with
    | cons c d =>
      cases d
      have a' : DF T.K H F _ (.int m) := a
      have c' : DF T.K H F _ (.int n) := c
      cases a'
      cases c'
      rfl
def isXR (tb : Nat → Option Bool) (r : R) (ρ : Rho) : Option (Oe R) := match r with
  | .ex c _ => match tb c with
    | some b => some (.ok (.dat (.bool b)) ρ)
    | none => none
  | _ => none
/-- isinstance(e, C) -/
def isXM (tb : Nat → Option Bool) (fe : EM) : EM := fun ρ => bindO (fe ρ) fun r ρ1 => isXR tb r ρ1
@[simp] theorem isXM_e (tb : Nat → Option Bool) (fe : EM) (ρ : Rho) : isXM tb fe ρ = bindO (fe ρ) fun r ρ1 => isXR tb r ρ1 := eqI rfl
/-- the fields that an exception with two may have -/
def xdAt (H : Hp) (d : Option Addr) : Prop := d = none ∨ ∃ x fs, d = some x ∧ H x = some (.xd fs)
theorem excR_xd {T : Tb} {H : Hp} {cls : Value} {d : Option Addr} {c : Nat} {fs : List PyData} (h : ExcR T H cls d c fs) : xdAt H d := by
  obtain ⟨_, h⟩ := h
  unfold xdAt
  split at h
  · exact .inl h
  · obtain ⟨x, e, z⟩ := h
    exact .inr ⟨x, _, e, z⟩
  · exact h.elim
theorem inst_at {H : Hp} {P : Program} {w : World} {A D : Addr} {oe : Obj} {s : Shared} {d : Option Addr} (hok : HOk P w H s.heap) (hget : s.heap.get? A = some oe) (hz : Zc (.ref D) d oe) (hf : ∃ vs, oe.data = .fields vs) (hd : xdAt H d) :
    ∃ od, PySem.W.InstAt s.heap A oe D od := by
  obtain ⟨vs, hv⟩ := hf
  rcases hd with rfl | ⟨x, fs, rfl, hx⟩
  · exact ⟨none, exc_inst hget hz ⟨vs, hv⟩⟩
  · have hx2 : ObjOk P w H s.heap x (.xd fs) := hok x _ hx
    obtain ⟨mA, hns, hr⟩ := hx2
    obtain ⟨od, ho, hl⟩ := lookIn_ns hns
    exact ⟨some od, hget, hz.1, by unfold PySem.W.notCls; rw [hv] <;> rfl, by rw [hz.2]; exact ho⟩
def rIsX (K : PySem.W.Frag) (D A : Addr) (d : Option Addr) : List V → Hp → VK → Prop := fun xs H Q => ∃ (c : V) (cv : Value) (b : Bool), xs = [.ref A, c] ∧ (∀ u, RelV c u → u = cv) ∧ PySem.W.kitOne K (.ref D) cv = some b ∧ xdAt H d ∧ Q (.bl b) H
section
variable {X : Cx} {T : Tb} {W : WX} {m : Nat} {N : List Str} {sc : Scope} {pos p : Pos} {e : Expr}
theorem call_isX {A : Addr} {oe : Obj} {D : Addr} {d : Option Addr} (C : ExcC X.K D) (hm : (A, oe) ∈ X.pn) (hz : Zc (.ref D) d oe) (hf : ∃ vs, oe.data = .fields vs) : CallR X (.builtin "isinstance") (rIsX X.K D A d) := by
  intro pins s σ H xs us Q I r h
  obtain ⟨c, cv, b, rfl, hcv, e, hd, q⟩ := h
  cases r with
  | cons rx rr =>
    cases rr with
    | cons rt rr =>
      cases rr
      cases rx
      have ec := hcv _ rt
      subst ec
      have P1 := I.pin (A, oe) (List.mem_append_left _ hm)
      obtain ⟨od, J⟩ := inst_at I.hok P1.1 hz hf hd
      have hcl : (PySem.W.clsIn X.K D).isSome = true := by
        obtain ⟨cd, hc, _⟩ := PySem.W.any_some C.hd
        rw [hc]; rfl
      exact PySem.W.kia_one (PySem.W.kitx_exc hcl C.hg C.hk C.hs C.ha C.hn C.ht C.hm) I.kIn J e (fun z => nomatch z) fun tk => ⟨.bl b, H, I.kept (t' := tk) fun _ _ z => z, rfl, q⟩
theorem never_of {fe : EM} {σ : L2.St} {H : Hp} {g : R → Rho → Option (Oe R)} {ρ : Rho} {F : Reg} {O : Ows} {Q : VK} (E : EnvR T H F O σ ρ) (P : Post T W (tlE T) σ H F O Q (bindO (fe ρ) g)) (k : ∀ v H1 F1 O1 r ρ1, ResR T H H1 F1 O1 σ v r → EnvR T H1 F1 O1 σ ρ1 → Post T W (tlE T) σ H F O Q (g r ρ1) → False) :
    Tof T W (tlE T) fe σ H fun _ _ => False := stp .refl E P fun u H1 r ρ1 F1 O1 x1 y1 E1 r1 P1 => k _ _ _ _ _ _ r1 E1 P1
theorem se_isX {cx : Str} {fe : EM} {tb : Nat → Option Bool} {v : V} {cv : Value} {p2 : Pos} (l : At X N sc) (ch : CxH X T m) (h1 : gnB sc "isinstance" = true) (hm : X.mg "isinstance" = none) (h2 : gnB sc cx = true) (hc : ClsN X cx v cv) (ht : IsTb T cv tb) (he : SE X T W e fe)
    (hs : starEach [e, .Name cx p2] X.env = (false, eval e X.env) :: starEach [.Name cx p2] X.env := by rfl) (hpl : (backTo pos (starEach [.Name cx p2] X.env)).any (·.1) = false := by rfl) :
    SE X T W (.Call (.Name "isinstance" p) [e, .Name cx p2] [] pos) (isXM tb fe) := by
  refine ⟨fun pins s σ H Q I h => ?_⟩
  obtain ⟨A, oe, ec, ed, ehot, emem, ez, ef⟩ := ch.pin
  obtain ⟨ρ, F, O, E, P⟩ := h
  by_cases hD : ∃ b, tb ec = some b
  · obtain ⟨b, hb⟩ := hD
    obtain ⟨t1, t2⟩ := ht ec b hb
    have C : ExcC X.K (T.ca ec) := by rw [ch.hK]; exact excC_of t1
    refine (pe_callB (pos := pos) (p := p) (call_isX C emem ez ef) (l.gl h1).1 hm (by decide +kernel) (pa_cons he (pa_cons (pe_cls (pos := p2) l h2 hc) pa_nil) hs) (l.gl h1).2.2 (l.gl h1).2.1 hs hpl).run pins s σ H Q I ?_
    refine stp .refl E P fun u H1 r ρ1 F1 O1 x1 y1 E1 r1 P1 => ?_
    show rIsX X.K (T.ca ec) A ed [u, v] H1 Q
    unfold isXR at P1
    split at P1
    · rename_i c0 fs0
      obtain ⟨a0, d0, e1, e2, e3⟩ := r1
      rw [ehot] at e2
      cases e2
      rw [hb] at P1
      exact ⟨v, cv, b, by rw [e1], hc.2.2, by rw [ch.hK]; exact t2, excR_xd e3, P1 (.bl b) H1 F1 O1 y1 E1 (.bl b)⟩
    · exact P1.elim
  · refine (pe_imp (t' := fun σ H Q => Tof T W (tlE T) fe σ H fun _ _ => False) (pe_callB (pos := pos) (p := p) (id := "isinstance") (r := fun _ _ _ => False) (fun _ _ _ _ _ _ _ _ _ z => z.elim) (l.gl h1).1 hm (by decide +kernel) (pa_cons he (pa_cons (pe_cls (pos := p2) l h2 hc) pa_nil) hs) (l.gl h1).2.2 (l.gl h1).2.1 hs hpl) fun σ H Q z => ?_).run pins s σ H Q I ?_
    · obtain ⟨ρ, F, O, E, P⟩ := z
      refine ⟨ρ, F, O, E, ?_⟩
      cases q : fe ρ with
      | none => rw [q] at P; exact P
      | some o =>
        rw [q] at P
        cases o with
        | ok r ρ1 => exact fun v H' F' O' a1 a2 a3 => (P v H' F' O' a1 a2 a3).elim
        | er c fs ρ1 => exact P
    · refine never_of E P fun u H1 F1 O1 r ρ1 r1 E1 P1 => ?_
      unfold isXR at P1
      split at P1
      · rename_i c0 fs0
        obtain ⟨a0, d0, e1, e2, e3⟩ := r1
        rw [ehot] at e2
        cases e2
        split at P1
        · rename_i b0 hb0
          exact hD ⟨b0, hb0⟩
        · exact P1.elim
      · exact P1.elim
/-- e.many (true), e.most (false) -/
def fldR (tb : Nat → Bool) (f : Bool) (r : R) (ρ : Rho) : Option (Oe R) := match r with
  | .ex c [.int m, .int n] => if tb c = true then some (.ok (.dat (.int (if f = true then m else n))) ρ) else none
  | _ => none
def fldM (tb : Nat → Bool) (f : Bool) (fe : EM) : EM := fun ρ => bindO (fe ρ) fun r ρ1 => fldR tb f r ρ1
@[simp] theorem fldM_e (tb : Nat → Bool) (f : Bool) (fe : EM) (ρ : Rho) : fldM tb f fe ρ = bindO (fe ρ) fun r ρ1 => fldR tb f r ρ1 := eqI rfl
def fldN (f : Bool) : Str := if f = true then "many" else "most"
/-- the table's classes have no such name -/
def FldTb (T : Tb) (f : Bool) (tb : Nat → Bool) : Prop := ∀ c, tb c = true → xfB T.K (T.ca c) = true ∧ PySem.W.findIn T.K (.ref (T.ca c)) (fldN f) = some none
theorem fld_l {T : Tb} {f : Bool} {i : Nat} (h1 : xfB T.K (T.ca i) = true) (h2 : PySem.W.findIn T.K (.ref (T.ca i)) (fldN f) = some none) : FldTb T f (fun c => c == i) := fun c e => by
  have e' : c = i := by simpa using e
  subst e'
  exact ⟨h1, h2⟩
theorem se_fld {fe : EM} {tb : Nat → Bool} {f : Bool} {x : Str} (ch : CxH X T m) (hx : x = fldN f) (ht : FldTb T f tb) (he : SE X T W e fe) (hb : attributeBase e x X.env (eval e X.env) = eval e X.env := by rfl) : SE X T W (.Attribute e x pos) (fldM tb f fe) := by
  refine ⟨fun pins s σ H Q I h => ?_⟩
  obtain ⟨A, oe, ec, ed, ehot, emem, ez, ef⟩ := ch.pin
  obtain ⟨ρ, F, O, E, P⟩ := h
  refine attr_of hb (thn (he.run pins s σ H (fun v H1 => v = .ref A ∧ tb ec = true ∧ ∃ (m n : Int) (x : Addr), ed = some x ∧ H1 x = some (.xd [("most", .int n), ("many", .int m)]) ∧ Q (.int (if f = true then m else n)) H1) I ?_) fun u s1 hh => ?_)
  · refine stp .refl E P fun u H1 r ρ1 F1 O1 x1 y1 E1 r1 P1 => ?_
    unfold fldR at P1
    split at P1
    · rename_i c0 m0 n0
      obtain ⟨a0, d0, e1, e2, e3⟩ := r1
      rw [ehot] at e2
      cases e2
      split at P1
      · rename_i hb0
        obtain ⟨z, hz, hH⟩ := e3.2
        exact ⟨e1, hb0, m0, n0, z, hz, hH, P1 (.int _) H1 F1 O1 y1 E1 (.int _)⟩
      · exact P1.elim
    · exact P1.elim
  · obtain ⟨v, H1, I1, rv, rfl, htb, m1, n1, z, rfl, hH, q⟩ := hh
    obtain rfl : u = Value.ref A := rv
    obtain ⟨t1, t2⟩ := ht ec htb
    have TC : XfC X.K (T.ca ec) := by rw [ch.hK]; exact xfB_ok t1
    have hno : PySem.W.findIn X.K (.ref (T.ca ec)) x = some none := by rw [ch.hK, hx]; exact t2
    obtain ⟨ha, _⟩ := I1.pin (A, oe) (List.mem_append_left _ emem)
    obtain ⟨vs, hd⟩ := ef
    have hxo : ObjOk X.prog X.w H1 s1.heap z (.xd [("most", .int n1), ("many", .int m1)]) := I1.hok z _ hH
    obtain ⟨mA, hns, hr⟩ := hxo
    obtain ⟨od, ho, hl⟩ := lookIn_ns hns
    have lk : List.lookup x [(("most" : Str), V.int n1), ("many", V.int m1)] = some (.int (if f = true then m1 else n1)) := by
      subst hx
      cases f
      · rfl
      · rfl
    obtain ⟨u, hu, ru⟩ := RelO.some_of (v := .int (if f = true then m1 else n1)) (o := mA x) (by rw [← lk]; exact hr x)
    have J : PySem.W.InstAt s1.heap A oe (T.ca ec) (some od) := ⟨ha, ez.1, by unfold PySem.W.notCls; rw [hd] <;> rfl, by rw [ez.2]; exact ho⟩
    exact HandSPX.exc_get I1.kIn J TC.ga TC.gg TC.exC (PySem.W.findObj_own TC.hdC hno rfl (by rw [hl, hu])) (handed_of ru) ⟨_, H1, I1.tok _, ru, q⟩
end
end DL
namespace DL
open PySem PyProof.Rows
open L2 hiding Sp
def signsD (x : Str) : List PyData := x.cps.toList.map fun c => .str ⟨#[c]⟩
def isM (f : EM) : IM := fun ρ => bindO (f ρ) fun r ρ1 => match r with
  | .dat (.str x) => some (.ok (signsD x) ρ1)
  | _ => none
def isR (r : R) (ρ : Rho) : Option (Oe (List PyData)) := match r with
  | .dat (.str x) => some (.ok (signsD x) ρ)
  | _ => none
@[simp] theorem isM_e (f : EM) (ρ : Rho) : isM f ρ = bindO (f ρ) isR := eqI rfl
@[simp] theorem isR_e (x : Str) (ρ : Rho) : isR (.dat (.str x)) ρ = some (.ok (signsD x) ρ) := eqI rfl
section
variable {X : Cx} {T : Tb} {W : WX} {tg e o : Expr} {f fo fe : EM} {pos p : Pos} {N : List Str} {sc : Scope} {n : Nat}
def dIc : PyData → PyData → Option R
  | .str x, .str z => match x.cps.toList with
    | [c] => some (.dat (.bool (decide (c ∈ z.cps.toList))))
    | _ => none
  | _, _ => none
@[simp] theorem dIc_e (c : Nat) (z : Str) : dIc (.str ⟨#[c]⟩) (.str z) = some (.dat (.bool (decide (c ∈ z.cps.toList)))) := eqI rfl
def dNic : PyData → PyData → Option R
  | .str x, .str z => match x.cps.toList with
    | [c] => some (.dat (.bool (!decide (c ∈ z.cps.toList))))
    | _ => none
  | _, _ => none
@[simp] theorem dNic_e (c : Nat) (z : Str) : dNic (.str ⟨#[c]⟩) (.str z) = some (.dat (.bool (!decide (c ∈ z.cps.toList)))) := eqI rfl
def intSD : PyData → Option R
  | .str a => if a.length ≤ 640 then (PySem.intText? a).map fun n => .dat (.int n) else none
  | _ => none
@[simp] theorem intSD_e (a : Str) : intSD (.str a) = if a.length ≤ 640 then (PySem.intText? a).map fun n => R.dat (.int n) else none := eqI rfl
def isSt : Option PyData → Bool
  | some (.str _) => true
  | _ => false
@[simp] theorem isSt_s (x : Str) : isSt (some (.str x)) = true := eqI rfl
def smM (g : PyData → PyData → Option R) (fo fe : EM) : EM := fun ρ => bindO (fo ρ) fun r ρ1 => pick (isSt (val ρ1 r)) (fun ρ1 => bindO (fe ρ1) fun s ρ2 => op2R g ρ2 (val ρ2 r) (val ρ2 s)) (fun _ => none) ρ1
@[simp] theorem smM_e (g : PyData → PyData → Option R) (fo fe : EM) (ρ : Rho) : smM g fo fe ρ = bindO (fo ρ) fun r ρ1 => pick (isSt (val ρ1 r)) (fun ρ1 => bindO (fe ρ1) fun s ρ2 => op2R g ρ2 (val ρ2 r) (val ρ2 s)) (fun _ => none) ρ1 := eqI rfl
theorem sm_of {r : V → List V → Hp → VK → Prop} {g : PyData → PyData → Option R} (dr : Does2 T (fun x y H Q => r x [y] H Q) g) {σ : L2.St} {H : Hp} {Q : VK} (h : Tof T W (tlE T) (smM g fo fe) σ H Q) : tM1 r (Tof T W (tlE T) fo) (Tof T W (tlE T) fe) σ H Q := by
  obtain ⟨ρ, F, O, E, P⟩ := h
  refine stp .refl E P fun v H1 ra ρ1 F1 O1 x1 y1 E1 r1 P1 => ?_
  cases q1 : val ρ1 ra with
  | none => rw [q1] at P1; exact P1.elim
  | some d1 =>
    rw [q1] at P1
    cases d1 with
    | str a =>
      refine ⟨⟨a, (val_vw E1 r1 q1).str⟩, ?_⟩
      refine stp y1 E1 P1 fun u H2 rb ρ2 F2 O2 x2 y2 E2 r2 P2 => ?_
      have r1' : ResR T H H2 F2 O2 σ v ra := ResR.mono E1 x2 r1
      cases q2 : val ρ2 ra with
      | none => rw [q2] at P2; exact P2.elim
      | some d2 =>
        cases q3 : val ρ2 rb with
        | none => rw [q2, q3] at P2; exact P2.elim
        | some d3 =>
          rw [q2, q3] at P2
          have P3 : Post T W (tlE T) σ H F O Q (retO (g d2 d3) ρ2) := P2
          cases q4 : g d2 d3 with
          | none => rw [q4] at P3; exact P3.elim
          | some z =>
            rw [q4] at P3
            exact dr v u d2 d3 z H2 F2 Q E2.lv (val_vw E2 r1' q2) (val_vw E2 r2 q3) q4 fun w H3 F3 g3 n3 => fin_op y2 E2 P3 g3 n3
    | _ => exact P1.elim
/-- x.split(sep) -/
def splD : PyData → PyData → Option R
  | .str a, .str b => if (b.length == 0) = false ∧ a.length ≤ lim then some (.own (.list ((Txt.split a b).map .str))) else none
  | _, _ => none
@[simp] theorem splD_e (a b : Str) : splD (.str a) (.str b) = if (b.length == 0) = false ∧ a.length ≤ lim then some (R.own (.list ((Txt.split a b).map .str))) else none := eqI rfl
theorem dfs_strs {K : PySem.W.Frag} {H : Hp} {F : Reg} : ∀ ys : List Str, DFs K H F (ys.map V.str) (ys.map PyData.str)
  | [] => .nil
  | _ :: r => .cons (.str _) (dfs_strs r)
theorem se_split (ho : SE X T W o fo) (he : SE X T W e fe) {apos : Pos} (hs : starEach [e] X.env = [(false, eval e X.env)] := by rfl) (hbase : attributeBase o "split" X.env (eval o X.env) = eval o X.env := by rfl) (hline : (apos.endLine == pos.line) = true := by rfl) :
    SE X T W (.Call (.Attribute o "split" apos) [e] [] pos) (smM splD fo fe) := pe_imp (pe_split ho he hs hbase hline) fun σ H Q h => sm_of (fun x y d e z H F Q lv hx hy hg hq => by
  unfold splD at hg
  split at hg
  · rename_i a b
    obtain rfl := hx.str
    obtain rfl := hy.str
    split at hg
    · rename_i hc
      cases hg
      refine ⟨a, b, rfl, rfl, hc.1, Nat.le_trans (Nat.add_le_add_right hc.2 2) (Nat.le_of_ble_eq_true rfl), fun p hp => ?_⟩
      refine hq (.ref p) _ F (.laid hp) (resN_lst hp (fun z => lv p z hp) (dfs_strs _))
    · cases hg
  · cases hg) h
/-- x.partition(sep) -/
def prtD : PyData → PyData → Option R
  | .str a, .str b => if (b.length == 0) = false ∧ a.length ≤ lim then some (.dat (.tuple [.str (Txt.partition a b).1, .str (Txt.partition a b).2.1, .str (Txt.partition a b).2.2])) else none
  | _, _ => none
@[simp] theorem prtD_e (a b : Str) : prtD (.str a) (.str b) = if (b.length == 0) = false ∧ a.length ≤ lim then some (R.dat (.tuple [.str (Txt.partition a b).1, .str (Txt.partition a b).2.1, .str (Txt.partition a b).2.2])) else none := eqI rfl
end
/-- a number's text -/
def nS (i : Int) : Str := Str.ofString (toString i)
def fmtD : Option PyData → Option Str
  | some (.str y) => if y.length ≤ lim then some y else none
  | some (.int i) => if i.natAbs.log2 < 1920 then some (toString i) else none
  | _ => none
@[simp] theorem fmtD_s (y : Str) : fmtD (some (.str y)) = if y.length ≤ lim then some y else none := eqI rfl
@[simp] theorem fmtD_i (i : Int) : fmtD (some (.int i)) = if i.natAbs.log2 < 1920 then some (nS i) else none := eqI rfl
def fsA (acc : Str) (o : Option Str) (g : Str → Option (Oe R)) : Option (Oe R) := match o with
  | some y => if (acc ++ y).length ≤ lim then g (acc ++ y) else none
  | none => none
@[simp] theorem fsA_s (acc y : Str) (g : Str → Option (Oe R)) : fsA acc (some y) g = if (acc ++ y).length ≤ lim then g (acc ++ y) else none := eqI rfl
def fsL : List EM → Str → EM
  | [], acc, ρ => some (.ok (.dat (.str acc)) ρ)
  | f :: fs, acc, ρ => bindO (f ρ) fun r ρ1 => fsA acc (fmtD (val ρ1 r)) fun a => fsL fs a ρ1
@[simp] theorem fsL_nil (acc : Str) (ρ : Rho) : fsL [] acc ρ = some (.ok (.dat (.str acc)) ρ) := eqI rfl
@[simp] theorem fsL_cons (f : EM) (fs : List EM) (acc : Str) (ρ : Rho) : fsL (f :: fs) acc ρ = bindO (f ρ) fun r ρ1 => fsA acc (fmtD (val ρ1 r)) fun a => fsL fs a ρ1 := eqI rfl
def fsM (fs : List EM) : EM := fsL fs Str.empty
@[simp] theorem fsM_e (fs : List EM) (ρ : Rho) : fsM fs ρ = fsL fs Str.empty ρ := eqI rfl
section
variable {X : Cx} {T : Tb} {W : WX} {N : List Str} {sc : Scope} {n : Nat} {e : Expr} {f : AM} {p pos : Pos}
@[simp] theorem strD_e (i : Int) : strD (.int i) = if i.natAbs.log2 < 1920 then some (R.dat (.str (nS i))) else none := eqI rfl
end
end DL
namespace DL
open PySem PyProof.Rows
open L2 hiding Sp
/-- a text turned about -/
def revS (x : Str) : Str := ⟨((Builtin.Str.strSliceIndices none none (-1) x.length).filterMap (x.cps[·]?)).toArray⟩
def revSD : PyData → Option R
  | .str x => if (revS x).length ≤ lim then some (.dat (.str (revS x))) else none
  | _ => none
@[simp] theorem revSD_e (x : Str) : revSD (.str x) = if (revS x).length ≤ lim then some (R.dat (.str (revS x))) else none := eqI rfl
section
variable {X : Cx} {T : Tb} {W : WX} {e o : Expr} {f fo fe : EM} {pos apos : Pos}
/-- x.count(y) -/
def cntSD : PyData → PyData → Option R
  | .str a, .str b => some (.dat (.int (Txt.count a b)))
  | _, _ => none
@[simp] theorem cntSD_e (a b : Str) : cntSD (.str a) (.str b) = some (R.dat (.int (Txt.count a b))) := eqI rfl
/-- x.strip(y) -/
def stripSD : PyData → PyData → Option R
  | .str a, .str b => if a.length ≤ lim then some (.dat (.str (Txt.stripChars a b))) else none
  | _, _ => none
@[simp] theorem stripSD_e (a b : Str) : stripSD (.str a) (.str b) = if a.length ≤ lim then some (R.dat (.str (Txt.stripChars a b))) else none := eqI rfl
end
def gtLM (gs : GsM) : GM := fun d ρ => match d with
  | .tuple ds => gs ds ρ
  | .list ds => gs ds ρ
  | _ => none
@[simp] theorem gtLM_t (gs : GsM) (ds : List PyData) (ρ : Rho) : gtLM gs (.tuple ds) ρ = gs ds ρ := eqI rfl
@[simp] theorem gtLM_l (gs : GsM) (ds : List PyData) (ρ : Rho) : gtLM gs (.list ds) ρ = gs ds ρ := eqI rfl
end DL
namespace DL
open PySem PyProof.Rows
open L2 hiding Sp
end DL
namespace DL
open PySem PyProof.Rows
open L2 hiding Sp
def isLed : Option (Option R) → Bool
  | some (some (.obj (.led _ _))) => true
  | _ => false
def isDsk : Option (Option R) → Bool
  | some (some (.obj (.dsk _ _))) => true
  | _ => false
/-- the class of ledgers (b) or of desks -/
def Tb.cl (T : Tb) (b : Bool) : Addr := if b = true then T.lc else T.dc
/-- a method of an own class: its name, its place, its promise; dds: the defaults that are left out -/
structure FnM (P : Program) (w : World) (mg : Str → Option Value) (base : Heap) (T : Tb) (b : Bool) (x : Str) (k n : Nat) (sem : Sem) (dds : List PyData) : Prop where
  cl : Cls T.K (T.cl b)
  ex : ∃ f fd ps dus dvs, Meth T.K (T.cl b) x f ∧ Binds T.K fd ps dus ∧ ps.length = n ∧ FnG P w T.K mg base k f fd ps (spOf T n sem) ∧ Vals dvs dus ∧ ∀ H F, DFs T.K H F dvs dds
def isOb (b : Bool) (x : Option (Option R)) : Bool := if b = true then isLed x else isDsk x
/-- o.m(e, ..): o's method m where o is a slot's object -/
def metM (b : Bool) (i : Nat) (sem : Sem) (dds : List PyData) (fa : AM) : EM := fun ρ => if isOb b ρ[i]? = true then callM sem (appA (consA (nmM i) fa) dds) ρ else none
end DL
namespace DL
open PySem PyProof.Rows
open L2 hiding Sp
/-- o.tellings, o.stood, o a slot's ledger -/
def prtM (i k : Nat) : EM := fun ρ => if isLed ρ[i]? = true then some (.ok (.prt i k) ρ) else none
def addP (k : Nat) (d : PyData) (ts ss : List PyData) : OD := if k = 0 then .led (ts ++ [d]) ss else .led ts (ss ++ [d])
def appPR (i k : Nat) (d : PyData) (ρ : Rho) : Option (Option R) → Option Ot
  | some (some (.obj (.led ts ss))) => if (if k = 0 then ts else ss).length < lim then some (.nx (ρ.set i (some (.obj (addP k d ts ss))))) else none
  | _ => none
/-- o.tellings.append(e) -/
def appPM (i k : Nat) (fe : EM) : SM := fun ρ => if isLed ρ[i]? = true then bindS (fe ρ) fun r ρ1 => match frz ρ1 r with
    | some (d, ρ2) => appPR i k d ρ2 ρ2[i]?
    | none => none
  else none
def cutP (k : Nat) (ts ss : List PyData) : OD := if k = 0 then .led ts.dropLast ss else .led ts ss.dropLast
def popPR (i k : Nat) (ρ : Rho) : Option (Option R) → Option (Oe R)
  | some (some (.obj (.led ts ss))) => match (if k = 0 then ts else ss).getLast? with
    | some d => some (.ok (.dat d) (ρ.set i (some (.obj (cutP k ts ss)))))
    | none => none
  | _ => none
/-- o.tellings.pop() -/
def popPM (i k : Nat) : EM := fun ρ => popPR i k ρ ρ[i]?
section
variable {T : Tb} {H : Hp} {F : Reg} {O : Ows} {σ : L2.St} {ρ : Rho}
/-- a ledger in a slot, with its lists -/
theorem led_at (E : EnvR T H F O σ ρ) {i : Nat} {ts ss : List PyData} (h : ρ[i]? = some (some (.obj (.led ts ss)))) : ∃ a dx t s vs us, σ[i]? = some (some (.ref a)) ∧ O i = [t, s] ∧ t ≠ s ∧ H a = some (.ins T.lc dx (ledF t s)) ∧ H t = some (.lst vs) ∧ DFs T.K H F vs ts ∧ H s = some (.lst us) ∧ DFs T.K H F us ss := by
  obtain ⟨v, h1, a, dx, t, s, rfl, h2, h3, h4, ⟨vs, h5, h6⟩, us, h7, h8⟩ := E.at_ i _ h
  exact ⟨a, dx, t, s, vs, us, h1, h2, h3, h4, h5, h6, h7, h8⟩
end
end DL
namespace DL
open PySem PyProof.Rows
open L2 hiding Sp
end DL
namespace DL
open PySem PyProof.Rows
open L2 hiding Sp
def newLM : EM := fun ρ => some (.ok (.obj (.led [] [.dict []])) ρ)
def newDM : EM := fun ρ => some (.ok (.obj (.dsk [] [.dict []])) ρ)
def twR (ρ : Rho) : Option (Option R) → Option (Oe R)
  | some (some (.obj (.led ts ss))) => some (.ok (.obj (.led ts ss)) ρ)
  | _ => none
/-- o.twin() -/
def twM (i : Nat) : EM := fun ρ => twR ρ ρ[i]?
@[simp] theorem newLM_e (ρ : Rho) : newLM ρ = some (.ok (.obj (.led [] [.dict []])) ρ) := eqI rfl
@[simp] theorem newDM_e (ρ : Rho) : newDM ρ = some (.ok (.obj (.dsk [] [.dict []])) ρ) := eqI rfl
@[simp] theorem twM_e (i : Nat) (ρ : Rho) : twM i ρ = twR ρ ρ[i]? := eqI rfl
@[simp] theorem twR_e (ts ss : List PyData) (ρ : Rho) : twR ρ (some (some (.obj (.led ts ss)))) = some (.ok (.obj (.led ts ss)) ρ) := eqI rfl
@[simp] theorem isOb_l (ts ss : List PyData) : isOb true (some (some (.obj (.led ts ss)))) = true := eqI rfl
@[simp] theorem isOb_d (ts ss : List PyData) : isOb false (some (some (.obj (.dsk ts ss)))) = true := eqI rfl
@[simp] theorem isLed_l (ts ss : List PyData) : isLed (some (some (.obj (.led ts ss)))) = true := eqI rfl
@[simp] theorem metM_e (b : Bool) (i : Nat) (sem : Sem) (dds : List PyData) (fa : AM) (ρ : Rho) : metM b i sem dds fa ρ = pick (isOb b ρ[i]?) (callM sem (appA (consA (nmM i) fa) dds)) (fun _ => none) ρ := by
  unfold metM pick
  split <;> rfl
@[simp] theorem prtM_e (i k : Nat) (ρ : Rho) : prtM i k ρ = pick (isLed ρ[i]?) (fun ρ => some (.ok (.prt i k) ρ)) (fun _ => none) ρ := by
  unfold prtM pick
  split <;> rfl
@[simp] theorem appPM_e (i k : Nat) (fe : EM) (ρ : Rho) : appPM i k fe ρ = pick (isLed ρ[i]?) (fun ρ => bindS (fe ρ) fun r ρ1 => bindF (frz ρ1 r) fun d ρ2 => appPR i k d ρ2 ρ2[i]?) (fun _ => none) ρ := eqI rfl
@[simp] theorem appPR_0 (i : Nat) (d : PyData) (ρ : Rho) (ts ss : List PyData) : appPR i 0 d ρ (some (some (.obj (.led ts ss)))) = if ts.length < lim then some (.nx (ρ.set i (some (.obj (.led (ts ++ [d]) ss))))) else none := eqI rfl
@[simp] theorem appPR_1 (i : Nat) (d : PyData) (ρ : Rho) (ts ss : List PyData) : appPR i 1 d ρ (some (some (.obj (.led ts ss)))) = if ss.length < lim then some (.nx (ρ.set i (some (.obj (.led ts (ss ++ [d])))))) else none := eqI rfl
@[simp] theorem popPM_e (i k : Nat) (ρ : Rho) : popPM i k ρ = popPR i k ρ ρ[i]? := eqI rfl
end DL
namespace DL
open PySem PyProof.Rows
open L2 hiding Sp
def dropD (ds : List (PyData × PyData)) (y : PyData) : List (PyData × PyData) := ds.filter fun p => !keq p.1 y
def popKR (i : Nat) (y : Option PyData) (ρ : Rho) : Option (Option R) → Option (Oe R)
  | some (some (.own (.dict ds))) => match y with
    | some y => if isKey y = true ∧ isKD ds = true then match atK ds y with
        | some d => some (.ok (.dat d) (ρ.set i (some (.own (.dict (dropD ds y))))))
        | none => none else none
    | none => none
  | _ => none
def isDK : Option (Option R) → Bool
  | some (some (.own (.dict ds))) => isKD ds
  | _ => false
def popKM (i : Nat) (fe : EM) : EM := fun ρ => if isDK ρ[i]? = true then bindO (fe ρ) fun r ρ1 => popKR i (val ρ1 r) ρ1 ρ1[i]? else none
theorem DFk.drop {K : PySem.W.Frag} {H : Hp} {F : Reg} (k : Key) : ∀ {ks : List (Key × V)} {ds : List (PyData × PyData)}, DFk K H F ks ds → DFk K H F (dropK ks k) (dropD ds (kD k))
  | _, _, .nil => .nil
  | _, _, .cons (k := j) (v := v) (d := d) (vs := vs) (ds := ds) a b => by
    unfold dropK dropD
    have e : keq (kD j) (kD k) = decide (j = k) := keq_kD j k
    by_cases h : j = k
    · rw [List.filter_cons_of_neg (by simpa using h), List.filter_cons_of_neg (p := fun p : PyData × PyData => !keq p.1 (kD k)) (a := (kD j, d)) (show ¬ (!keq (kD j) (kD k)) = true by rw [e, decide_eq_true h]; exact Bool.false_ne_true)]
      exact DFk.drop k b
    · rw [List.filter_cons_of_pos (by simpa using h), List.filter_cons_of_pos (p := fun p : PyData × PyData => !keq p.1 (kD k)) (a := (kD j, d)) (show (!keq (kD j) (kD k)) = true by rw [e, decide_eq_false h]; rfl)]
      exact .cons a (DFk.drop k b)
@[simp] theorem isDK_e (ds : List (PyData × PyData)) : isDK (some (some (.own (.dict ds)))) = isKD ds := eqI rfl
@[simp] theorem popKM_e (i : Nat) (fe : EM) (ρ : Rho) : popKM i fe ρ = pick (isDK ρ[i]?) (fun ρ => bindO (fe ρ) fun r ρ1 => popKR i (val ρ1 r) ρ1 ρ1[i]?) (fun _ => none) ρ := eqI rfl
def mgD (ds : List (PyData × PyData)) : List (PyData × PyData) := ds.foldl (fun acc p => putD acc p.1 p.2) []
theorem DFk.fold {K : PySem.W.Frag} {H : Hp} {F : Reg} : ∀ {ks js : List (Key × V)} {ds es : List (PyData × PyData)}, DFk K H F ks ds → DFk K H F js es → DFk K H F (ks.foldl (fun acc kv => putK acc kv.1 kv.2) js) (ds.foldl (fun acc p => putD acc p.1 p.2) es)
  | _, _, _, _, .nil, h => h
  | _, _, _, _, .cons a b, h => by
    rw [List.foldl_cons, List.foldl_cons]
    exact DFk.fold b (h.put a)
theorem DFk.mg {K : PySem.W.Frag} {H : Hp} {F : Reg} {ks : List (Key × V)} {ds : List (PyData × PyData)} (h : DFk K H F ks ds) : DFk K H F (mergeK [] ks) (mgD ds) := DFk.fold h .nil
end DL
namespace DL
open PySem PyProof.Rows
open L2 hiding Sp
def callRM (sem : Sem) (rs : List R) (ρ : Rho) : Option (Oe R) := if dist rs = true then match passA ρ rs with
    | some args => match sem args with
      | some (.ok r os) => some (.ok r (backA ρ rs os))
      | some (.er c fs os) => some (.er c fs (backA ρ rs os))
      | none => none
    | none => none
  else none
@[simp] theorem callRM_e (sem : Sem) (rs : List R) (ρ : Rho) : callRM sem rs ρ = pick (dist rs) (fun ρ => bindP (passA ρ rs) fun as => bkO (sem as) ρ rs) (fun _ => none) ρ := by
  unfold callRM pick bindP bkO
  rfl
end DL
namespace DL
open PySem PyProof.Rows
open L2 hiding Sp
section
variable {X : Cx} {T : Tb} {W : WX} {k n nn : Nat} {sem : Sem} {C : Addr} {f : Addr} {fd : FuncData} {ps : List Str} {sp : L2.Sp}
def lenOR : Option (Oe R) → Option (Oe R)
  | some (.ok (.dat (.int n)) ρ) => if (decide (0 ≤ n) && inW n) = true then some (.ok (.dat (.int n)) ρ) else none
  | _ => none
def lenOM (i : Nat) (sem : Sem) : EM := fun ρ => if isLed ρ[i]? = true then lenOR (callRM sem [.slt i] ρ) else none
def strOR : Option (Oe R) → Option (Oe R)
  | some (.ok (.dat (.str n)) ρ) => some (.ok (.dat (.str n)) ρ)
  | _ => none
def reprOM (i : Nat) (sem : Sem) : EM := fun ρ => if isLed ρ[i]? = true then strOR (callRM sem [.slt i] ρ) else none
def boolOR (neg : Bool) : Option (Oe R) → Option (Oe R)
  | some (.ok (.dat (.bool b)) ρ) => some (.ok (.dat (.bool (if neg = true then !b else b))) ρ)
  | _ => none
def isLR (ρ : Rho) : R → Bool
  | .slt i => isLed ρ[i]?
  | .obj (.led _ _) => true
  | _ => false
def eqOM (neg : Bool) (sem : Sem) (fa fb : EM) : EM := fun ρ => bindO (fa ρ) fun r ρ1 => bindO (fb ρ1) fun s ρ2 => if (isLR ρ2 r && isLR ρ2 s) = true then boolOR neg (callRM sem [r, s] ρ2) else none
variable {N : List Str} {sc : Scope} {o : Expr} {p pos : Pos} {i : Nat} {a b : Expr} {fa fb : EM}
theorem FnM.plain {P : Program} {w : World} {mg : Str → Option Value} {base : Heap} {b : Bool} {x : Str} (h : FnM P w mg base T b x k n sem []) : ∃ f fd ps, Meth T.K (T.cl b) x f ∧ Binds T.K fd ps [] ∧ ps.length = n ∧ FnG P w T.K mg base k f fd ps (spOf T n sem) := by
  obtain ⟨_, f, fd, ps, dus, dvs, h1, h2, h3, h4, h5, h6⟩ := h
  have e := h6 (fun _ => none) fun _ => False
  cases e
  cases h5
  exact ⟨f, fd, ps, h1, h2, h3, h4⟩
end
@[simp] theorem lenOM_e (i : Nat) (sem : Sem) (ρ : Rho) : lenOM i sem ρ = pick (isLed ρ[i]?) (fun ρ => lenOR (callRM sem [.slt i] ρ)) (fun _ => none) ρ := by
  unfold lenOM pick
  split <;> rfl
@[simp] theorem reprOM_e (i : Nat) (sem : Sem) (ρ : Rho) : reprOM i sem ρ = pick (isLed ρ[i]?) (fun ρ => strOR (callRM sem [.slt i] ρ)) (fun _ => none) ρ := by
  unfold reprOM pick
  split <;> rfl
@[simp] theorem strOR_e (n : Str) (ρ : Rho) : strOR (some (.ok (.dat (.str n)) ρ)) = some (.ok (.dat (.str n)) ρ) := eqI rfl
@[simp] theorem boolOR_t (b : Bool) (ρ : Rho) : boolOR true (some (.ok (.dat (.bool b)) ρ)) = some (.ok (.dat (.bool (!b))) ρ) := eqI rfl
@[simp] theorem boolOR_f (b : Bool) (ρ : Rho) : boolOR false (some (.ok (.dat (.bool b)) ρ)) = some (.ok (.dat (.bool b)) ρ) := eqI rfl
@[simp] theorem isLR_s (ρ : Rho) (i : Nat) : isLR ρ (.slt i) = isLed ρ[i]? := eqI rfl
@[simp] theorem isLR_o (ρ : Rho) (ts ss : List PyData) : isLR ρ (.obj (.led ts ss)) = true := eqI rfl
@[simp] theorem eqOM_e (neg : Bool) (sem : Sem) (fa fb : EM) (ρ : Rho) : eqOM neg sem fa fb ρ = bindO (fa ρ) fun r ρ1 => bindO (fb ρ1) fun s ρ2 => pick (isLR ρ2 r && isLR ρ2 s) (fun ρ => boolOR neg (callRM sem [r, s] ρ)) (fun _ => none) ρ2 := by
  rfl
end DL
namespace DL
open PySem PyProof.Rows
open L2 hiding Sp
def isLM (i : Nat) : EM := fun ρ => if isLed ρ[i]? = true then some (.ok (.dat (.bool true)) ρ) else none
@[simp] theorem isLM_e (i : Nat) (ρ : Rho) : isLM i ρ = pick (isLed ρ[i]?) (fun ρ => some (.ok (.dat (.bool true)) ρ)) (fun _ => none) ρ := by
  unfold isLM pick
  split <;> rfl
section
variable {X : Cx} {T : Tb} {W : WX} {N : List Str} {sc : Scope} {n k nn : Nat} {o e : Expr} {es : List Expr} {i : Nat} {p p2 pos apos : Pos} {f fa : AM} {fo : EM} {m : Str} {sem : Sem}
def closeR (i : Nat) : Option (Oe R) → Option (Oe R)
  | some (.ok r ρ) => match ρ[i]? with
    | some (some (.obj (.led ts ss))) => some (.ok r (ρ.set i (some (.obj (.dsk ts ss)))))
    | _ => none
  | some (.er c fs ρ) => match ρ[i]? with
    | some (some (.obj (.led ts ss))) => some (.er c fs (ρ.set i (some (.obj (.dsk ts ss)))))
    | _ => none
  | none => none
def keptR (i : Nat) (sem : Sem) (rs : List R) (ρ : Rho) : Option (Oe R) := match ρ[i]? with
  | some (some (.obj (.dsk ts ss))) => closeR i (callRM sem (.slt i :: rs) (ρ.set i (some (.obj (.led ts ss)))))
  | _ => none
def metKM (i : Nat) (sem : Sem) (dds : List PyData) (fa : AM) : EM := fun ρ => if isDsk ρ[i]? = true then bindO (appA fa dds ρ) (keptR i sem) else none
end
end DL
namespace DL
open PySem PyProof.Rows
open L2 hiding Sp
/-- x, y = e, e a new pair of a ledger and a list -/
def asgPM (i j : Nat) (fe : EM) : SM := fun ρ => bindS (fe ρ) fun r ρ1 => match r with
  | .obj (.pr ts ss ds) => some (.nx ((ρ1.set i (some (.obj (.led ts ss)))).set j (some (.own (.list ds)))))
  | _ => none
@[simp] theorem asgPM_e (i j : Nat) (fe : EM) (ρ : Rho) : asgPM i j fe ρ = bindS (fe ρ) fun r ρ1 => match r with
  | .obj (.pr ts ss ds) => some (.nx ((ρ1.set i (some (.obj (.led ts ss)))).set j (some (.own (.list ds)))))
  | _ => none := eqI rfl
end DL
namespace DL
open PySem PyProof.Rows
open L2 hiding Sp
def isHole : Option (Option R) → Bool
  | some none => true
  | _ => false
def hid (i : Nat) (O : Ows) : Ows := fun j => if j = i then [] else O j
theorem hid_sub {i : Nat} {O : Ows} : Sub (hid i O) O := fun j a e => by
  unfold hid at e
  split at e
  · cases e
  · exact e
theorem hid_ne {i j : Nat} {a : Addr} {O : Ows} (e : a ∈ hid i O j) : j ≠ i := by
  unfold hid at e
  split at e
  · cases e
  · assumption
section
variable {X : Cx} {T : Tb} {W : WX} {φ : Fm} {σ : L2.St} {H : Hp} {ρ : Rho} {F : Reg} {O : Ows} {i : Nat}
theorem EnvR.hide (E : EnvR T H F O σ ρ) (i : Nat) : EnvR T H F (hid i O) σ (ρ.set i none) := by
  refine ⟨by rw [List.length_set]; exact E.len, fun j r e => ?_, fun j a e => ?_, fun j k a e1 e2 => E.inj j k a (hid_sub j a e1) (hid_sub k a e2), fun j a e => E.nf j a (hid_sub j a e), E.lv, E.tb⟩
  · by_cases h : j = i
    · subst h
      by_cases hl : j < ρ.length
      · rw [List.getElem?_set_self hl] at e; cases e
      · rw [List.getElem?_eq_none (by rw [List.length_set]; omega)] at e; cases e
    · rw [List.getElem?_set_ne (fun z => h z.symm)] at e
      unfold hid
      rw [if_neg h]
      exact E.at_ j r e
  · have h := hid_ne e
    obtain ⟨r, hr⟩ := E.own j a (hid_sub j a e)
    exact ⟨r, by rw [List.getElem?_set_ne (fun z => h z.symm)]; exact hr⟩
/-- and taken back -/
theorem EnvR.show {H' : Hp} {F' : Reg} {O' : Ows} {σ' : L2.St} {ρ' : Rho} {ts ss : List PyData} (E : EnvR T H F O σ ρ) (h : ρ[i]? = some (some (.obj (.led ts ss)))) (x : Ext true H F (hid i O) H' F' O') (E' : EnvR T H' F' O' σ' ρ') (ho : isHole ρ'[i]? = true) (hs : σ'[i]? = σ[i]?) :
    ∃ O2, EnvR T H' F' O2 σ' (ρ'.set i (some (.obj (.led ts ss)))) ∧ Ext true H F O H' F' O2 ∧ ∀ j a, a ∈ O2 j → a ∈ O j ∨ a ∈ O' j := by
  obtain ⟨a, dx, t, s, vs, us, h1, h2, h3, h4, h5, h6, h7, h8⟩ := led_at E h
  have kp : Kept F H H' := (E.hide i).kept x
  have gF := x.grow
  have hl : i < ρ'.length := by
    by_cases hl : i < ρ'.length
    · exact hl
    · rw [List.getElem?_eq_none (by omega)] at ho; cases ho
  have none_i : ∀ b, b ∉ O' i := fun b e => by
    obtain ⟨r, hr⟩ := E'.own i b e
    rw [hr] at ho
    cases ho
  have own_i : ∀ b, b ∈ O i → ∀ j, b ∉ hid i O j := fun b e j e2 => hid_ne e2 (E.inj j i b (hid_sub j b e2) e)
  have kept_i : ∀ b o, b ∈ O i → H b = some o → NT o → H' b = some o := fun b o e hb n => x.keep b o hb (own_i b e) n
  have mt : t ∈ O i := by rw [h2]; simp
  have ms : s ∈ O i := by rw [h2]; simp
  have no_j : ∀ b, b ∈ O i → H b ≠ none → ∀ j, b ∉ O' j := fun b e hb j e2 => by
    rcases x.own j b e2 with z | ⟨_, ⟨j', z⟩ | z⟩
    · exact own_i b e j z
    · exact own_i b e j' z
    · exact hb z
  have live_i : ∀ b, b ∈ O i → H b ≠ none := fun b e => by
    rw [h2] at e
    rcases List.mem_cons.mp e with rfl | e
    · rw [h5]; exact Option.some_ne_none _
    · rw [List.mem_singleton] at e; subst e; rw [h7]; exact Option.some_ne_none _
  let O2 : Ows := fun j => if j = i then O i else O' j
  have o2 : ∀ j b, b ∈ O2 j → (j = i ∧ b ∈ O i) ∨ (j ≠ i ∧ b ∈ O' j) := fun j b e => by
    by_cases hj : j = i
    · have e' : b ∈ (if j = i then O i else O' j) := e
      rw [if_pos hj] at e'
      exact .inl ⟨hj, e'⟩
    · have e' : b ∈ (if j = i then O i else O' j) := e
      rw [if_neg hj] at e'
      exact .inr ⟨hj, e'⟩
  refine ⟨O2, ⟨by rw [List.length_set]; exact E'.len, fun j r e => ?_, fun j b e => ?_, fun j k b e1 e2 => ?_, fun j b e => ?_, E'.lv, E'.tb⟩, ⟨fun b o hb n z => x.keep b o hb (fun j e => n j (hid_sub j b e)) z, x.live, x.grow, fun b hb => (x.new b hb).imp_right fun z => z.imp_left fun ⟨j, e⟩ => ⟨j, hid_sub j b e⟩, fun j b e => ?_⟩, fun j b e => ?_⟩
  · by_cases hj : j = i
    · subst hj
      rw [List.getElem?_set_self hl] at e
      cases e
      refine ⟨.ref a, by rw [hs]; exact h1, ?_⟩
      show ObjAt T H' F' (if j = j then O j else O' j) (.ref a) (.led ts ss)
      rw [if_pos rfl]
      have ha : H' a = some (.ins T.lc dx (ledF t s)) := kp a _ h4 (.inr trivial)
      exact ⟨a, dx, t, s, rfl, h2, h3, ha, ⟨vs, kept_i t _ mt h5 trivial, h6.mono kp gF⟩, us, kept_i s _ ms h7 trivial, h8.mono kp gF⟩
    · rw [List.getElem?_set_ne (fun z => hj z.symm)] at e
      show ∃ v, _ ∧ SlotR T H' F' (if j = i then O i else O' j) v r
      rw [if_neg hj]
      exact E'.at_ j r e
  · rcases o2 j b e with ⟨rfl, _⟩ | ⟨hj, e'⟩
    · exact ⟨_, List.getElem?_set_self hl⟩
    · obtain ⟨r, hr⟩ := E'.own j b e'
      exact ⟨r, by rw [List.getElem?_set_ne (fun z => hj z.symm)]; exact hr⟩
  · rcases o2 j b e1 with ⟨rfl, z1⟩ | ⟨hj, z1⟩ <;> rcases o2 k b e2 with ⟨rfl, z2⟩ | ⟨hk, z2⟩
    · rfl
    · exact absurd z2 (no_j b z1 (live_i b z1) k)
    · exact absurd z1 (no_j b z2 (live_i b z2) j)
    · exact E'.inj j k b z1 z2
  · rcases o2 j b e with ⟨rfl, z⟩ | ⟨hj, z⟩
    · intro hf
      rcases x.new b hf with q | ⟨j', q⟩ | q
      · exact E.nf j b z q
      · exact own_i b z j' q
      · exact live_i b z q
    · exact E'.nf j b z
  · rcases o2 j b e with ⟨rfl, z⟩ | ⟨hj, z⟩
    · exact .inl z
    · exact (x.own j b z).imp (fun q => hid_sub j b q) fun ⟨q1, q2⟩ => ⟨q1, q2.imp_left fun ⟨j', q⟩ => ⟨j', hid_sub j' b q⟩⟩
  · rcases o2 j b e with ⟨rfl, z⟩ | ⟨hj, z⟩
    · exact .inl z
    · exact .inr z
end
@[simp] theorem isHole_n : isHole (some none) = true := eqI rfl
end DL
namespace DL
open PySem PyProof.Rows
open L2 hiding Sp
end DL
namespace DL
namespace KT
open PySem PySem.Spec PySem.Calls PyProof.V PyProof.Rows PyProof.Rows.KTD
section
variable {prog : Program} {w : World} {A : Around} {E : Value → Shared → Prop} {s : Shared} {a : Addr} {δ : Type} {R : δ → Value → Prop} {D : List (Str × δ)} {k : Str} {tk : Tok}
theorem typeIs (T : TabOf R s.heap a D) : s.TypeIs (.ref a) "dict" := let ⟨_, o, _, _, ho, hc, _⟩ := T; ⟨o, ho, hc.1⟩
end
end KT
open PySem PyProof.Rows
open L2 hiding Sp
open PyProof.Rows.KTD (datumAt)
/-- what it holds, as data -/
inductive CR (K : PySem.W.Frag) : List (Str × V) → List (Str × PyData) → Prop where
  | nil : CR K [] []
  | cons {x : Str} {v : V} {d : PyData} {D : List (Str × V)} {C : List (Str × PyData)} : (∀ H F, DF K H F v d) → CR K D C → CR K ((x, v) :: D) ((x, d) :: C)
theorem CR.at_ {K : PySem.W.Frag} (k : Str) : ∀ {D : List (Str × V)} {C : List (Str × PyData)}, CR K D C → (datumAt k D = none ∧ datumAt k C = none) ∨ ∃ v d, datumAt k D = some v ∧ datumAt k C = some d ∧ ∀ H F, DF K H F v d
  | _, _, .nil => .inl ⟨rfl, rfl⟩
  | _, _, .cons (x := x) (v := v) (d := d) (D := D) (C := C) a b => by
    have ih := b.at_ k
    unfold datumAt
    by_cases h : decide (k = x) = true
    · rw [if_pos h, if_pos h]; exact .inr ⟨v, d, rfl, rfl, a⟩
    · rw [if_neg h, if_neg h]; exact ih
def inCR (neg : Bool) (C : List (Str × PyData)) (ρ : Rho) : Option PyData → Option (Oe R)
  | some (.str k) => some (.ok (.dat (.bool (if neg = true then !(datumAt k C).isSome else (datumAt k C).isSome))) ρ)
  | _ => none
def inCM (neg : Bool) (C : List (Str × PyData)) (fe : EM) : EM := fun ρ => bindO (fe ρ) fun r ρ1 => inCR neg C ρ1 (val ρ1 r)
def ixCR (C : List (Str × PyData)) (ρ : Rho) : Option PyData → Option (Oe R)
  | some (.str k) => (datumAt k C).map fun d => .ok (.dat d) ρ
  | _ => none
def ixCM (C : List (Str × PyData)) (fe : EM) : EM := fun ρ => bindO (fe ρ) fun r ρ1 => ixCR C ρ1 (val ρ1 r)
@[simp] theorem inCM_e (neg : Bool) (C : List (Str × PyData)) (fe : EM) (ρ : Rho) : inCM neg C fe ρ = bindO (fe ρ) fun r ρ1 => inCR neg C ρ1 (val ρ1 r) := eqI rfl
@[simp] theorem inCR_e (neg : Bool) (C : List (Str × PyData)) (k : Str) (ρ : Rho) : inCR neg C ρ (some (.str k)) = some (.ok (.dat (.bool (if neg = true then !(datumAt k C).isSome else (datumAt k C).isSome))) ρ) := eqI rfl
@[simp] theorem ixCM_e (C : List (Str × PyData)) (fe : EM) (ρ : Rho) : ixCM C fe ρ = bindO (fe ρ) fun r ρ1 => ixCR C ρ1 (val ρ1 r) := eqI rfl
@[simp] theorem ixCR_e (C : List (Str × PyData)) (k : Str) (ρ : Rho) : ixCR C ρ (some (.str k)) = (datumAt k C).map fun d => .ok (.dat d) ρ := eqI rfl
end DL
namespace DL
open PySem PyProof.Rows
open L2 hiding Sp
/-- x, *y = e -/
def starR (i j : Nat) (ρ : Rho) : Option PyData → Option Ot
  | some (.list (x :: xs)) => if xs.length ≤ 16000 then some (.nx ((ρ.set i (some (.dat x))).set j (some (.own (.list xs))))) else none
  | _ => none
def asgStM (i j : Nat) (fe : EM) : SM := fun ρ => bindS (fe ρ) fun r ρ1 => starR i j ρ1 (val ρ1 r)
@[simp] theorem asgStM_e (i j : Nat) (fe : EM) (ρ : Rho) : asgStM i j fe ρ = bindS (fe ρ) fun r ρ1 => starR i j ρ1 (val ρ1 r) := eqI rfl
end DL
namespace DL
open PySem PyProof.Rows
open L2 hiding Sp
/-- a heap in which all is new -/
def HN : Hp := fun _ => none
section
variable {T : Tb} {B H : Hp} {FB F : Reg} {OB O : Ows} {σ : L2.St} {ρ : Rho} {L : Nat → List Addr}
/-- L: the places of the objects among the arguments: new ones, or a slot's of before -/
def TmpOk2 (T : Tb) (B : Hp) (OB : Ows) (H : Hp) (F : Reg) (O : Ows) (L : Nat → List Addr) (vs : List V) (rs : List R) : Prop :=
  ∀ k v o, vs[k]? = some v → rs[k]? = some (.obj o) → (∀ b, b ∈ L k → (B b = none ∨ ∃ i, b ∈ OB i) ∧ ¬ F b ∧ ∀ i, b ∉ O i) ∧ ObjAt T H F (L k) v o
theorem TmpOk2.one {vs : List V} {rs : List R} (h : TmpOk2 T B OB H F O L vs rs) : TmpOk T HN H F O L vs rs := fun k v o h1 h2 => ⟨fun b hb => ⟨rfl, ((h k v o h1 h2).1 b hb).2⟩, (h k v o h1 h2).2⟩
end
abbrev LSt := Option (List PyData × List PyData)
inductive AK where
  | nm (i : Nat)
  | ci (i : Int)
  | cb (b : Bool)
def AK.r (ρ : Rho) : AK → Option R
  | .nm i => match ρ[i]? with
    | some (some (.dat d)) => some (.dat d)
    | some (some (.own _)) => some (.slt i)
    | some (some (.obj _)) => some (.slt i)
    | _ => none
  | .ci i => some (.dat (.int i))
  | .cb b => some (.dat (.bool b))
def tAs : List TE → TA
  | [] => tNil
  | t :: ts => tCons t (tAs ts)
section
variable {T : Tb} {W : WX} {B H : Hp} {FB F : Reg} {OB O : Ows} {σ : L2.St} {ρ ρ1 : Rho}
/-- slots' objects: where they stand -/
inductive Pk (σ : L2.St) (O : Ows) : List Nat → List V → List (List Addr) → Prop where
  | nil : Pk σ O [] [] []
  | cons {n : Nat} {u : V} {L : List Addr} {ns : List Nat} {us : List V} {Ls : List (List Addr)} : σ[n]? = some (some u) → (∀ b, b ∈ L → b ∈ O n) → Pk σ O ns us Ls → Pk σ O (n :: ns) (u :: us) (L :: Ls)
theorem Pk.mono {O' : Ows} (h : ∀ i b, b ∈ O i → b ∈ O' i) : ∀ {ns : List Nat} {us : List V} {Ls : List (List Addr)}, Pk σ O ns us Ls → Pk σ O' ns us Ls
  | _, _, _, .nil => .nil
  | _, _, _, .cons a b c => .cons a (fun x hx => h _ x (b x hx)) (c.mono h)
theorem Pk.len : ∀ {ns : List Nat} {us : List V} {Ls : List (List Addr)}, Pk σ O ns us Ls → us.length = ns.length
  | _, _, _, .nil => rfl
  | _, _, _, .cons _ _ c => by rw [List.length_cons, List.length_cons, c.len]
theorem Pk.names : ∀ {ns : List Nat} {us : List V} {Ls : List (List Addr)}, Pk σ O ns us Ls → ∀ Q : List V → Hp → Prop, Q us H → tAs (ns.map tVar) σ H Q
  | _, _, _, .nil, Q, q => q
  | _, _, _, .cons a b c, Q, q => ⟨_, a, c.names _ q⟩
theorem ResRs.app {H0 : Hp} : ∀ {vs us : List V} {rs ss : List R}, ResRs T H0 H F O σ vs rs → ResRs T H0 H F O σ us ss → ResRs T H0 H F O σ (vs ++ us) (rs ++ ss)
  | _, _, _, _, .nil, h => h
  | _, _, _, _, .cons a b, h => .cons a (b.app h)
end
section
variable {T : Tb} {H : Hp} {F : Reg}
/-- one is taken out -/
theorem ManyAt.out {b : Bool} : ∀ {Ls : List (List Addr)} {vs : List V} {xs : List LSt} {k : Nat} {ts ss : List PyData}, ManyAt T H F b Ls vs xs → xs[k]? = some (some (ts, ss)) → ∃ L v, vs[k]? = some v ∧ OneAt T H F b L v ts ss ∧ ManyAt T H F b (Ls.set k []) vs (xs.set k none) ∧ List.Perm Ls.flatten (L ++ (Ls.set k []).flatten)
  | _, _, _, k, _, _, .nil, h => by simp at h
  | _, _, _, 0, _, _, .hole q, h => by simp at h
  | _, _, _, k + 1, _, _, .hole q, h => by
    obtain ⟨L, v, h1, h2, h3, h4⟩ := q.out (k := k) (by simpa using h)
    exact ⟨L, v, by simpa using h1, h2, .hole h3, by simpa using h4⟩
  | _, _, _, 0, _, _, .cons (L := L) (v := v) q r, h => by
    simp only [List.getElem?_cons_zero, Option.some.injEq, Prod.mk.injEq] at h
    obtain ⟨rfl, rfl⟩ := h
    exact ⟨L, v, rfl, q, .hole r, by simp⟩
  | _, _, _, k + 1, _, _, .cons (L := L0) q r, h => by
    obtain ⟨L, v, h1, h2, h3, h4⟩ := r.out (k := k) (by simpa using h)
    refine ⟨L, v, by simpa using h1, h2, .cons q h3, ?_⟩
    rw [List.set_cons_succ, List.flatten_cons, List.flatten_cons]
    refine (List.Perm.append_left L0 h4).trans ?_
    rw [← List.append_assoc, ← List.append_assoc]
    exact List.Perm.append_right _ List.perm_append_comm
end
end DL
namespace DL
open PySem PyProof.Rows
open L2 hiding Sp
def parM4 (i j l m : Nat) (fa fb fc fd : EM) : SM := fun ρ => bindS (fa ρ) fun r ρ1 => match sv ρ1 r with
  | some (r', ρ2) => bindS (fb ρ2) fun s ρ3 => match sv ρ3 s with
    | some (s', ρ4) => bindS (fc ρ4) fun t ρ5 => match sv ρ5 t with
      | some (t', ρ6) => bindS (fd ρ6) fun u ρ7 => match sv ρ7 u with
        | some (u', ρ8) => some (.nx ((((ρ8.set i (some r')).set j (some s')).set l (some t')).set m (some u')))
        | none => none
      | none => none
    | none => none
  | none => none
@[simp] theorem parM4_e (i j l m : Nat) (fa fb fc fd : EM) (ρ : Rho) : parM4 i j l m fa fb fc fd ρ = bindS (fa ρ) fun r ρ1 => match sv ρ1 r with
  | some (r', ρ2) => bindS (fb ρ2) fun s ρ3 => match sv ρ3 s with
    | some (s', ρ4) => bindS (fc ρ4) fun t ρ5 => match sv ρ5 t with
      | some (t', ρ6) => bindS (fd ρ6) fun u ρ7 => match sv ρ7 u with
        | some (u', ρ8) => some (.nx ((((ρ8.set i (some r')).set j (some s')).set l (some t')).set m (some u')))
        | none => none
      | none => none
    | none => none
  | none => none := eqI rfl
def appTR (fe : EM) (ρ : Rho) : R → Option Ot
  | .own (.list ds) => if ds.length < lim then bindS (fe ρ) fun _ ρ2 => some (.nx ρ2) else none
  | _ => none
def appTM (fo fe : EM) : SM := fun ρ => bindS (fo ρ) fun r ρ1 => appTR fe ρ1 r
def clrTR (ρ : Rho) : R → Option Ot
  | .own (.list _) => some (.nx ρ)
  | _ => none
def clrTM (fo : EM) : SM := fun ρ => bindS (fo ρ) fun r ρ1 => clrTR ρ1 r
section
variable {X : Cx} {T : Tb} {W : WX} {φ : Fm} {fo fe : EM} {pos : Pos} {ex : Expr}
theorem StR.other {H : Hp} {F : Reg} {O : Ows} {σ : L2.St} {ρ : Rho} {a : Addr} {vs us : List V} (S : StR T φ H F O σ ρ) (h : H a = some (.lst vs)) (nf : ¬ F a) (no : ∀ i, a ∉ O i) : StR T φ (upd H a (.lst us)) F O σ ρ := by
  obtain ⟨E, _⟩ := S.E.other (o' := .lst us) h (fun z => z) nf no
  refine ⟨E, fun b hb => S.lb b ?_, S.lf⟩
  by_cases e : b = a
  · subst e; rw [upd_same] at hb; cases hb
  · rw [upd_ne e] at hb; exact hb
end
@[simp] theorem appTM_e (fo fe : EM) (ρ : Rho) : appTM fo fe ρ = bindS (fo ρ) fun r ρ1 => appTR fe ρ1 r := eqI rfl
@[simp] theorem clrTM_e (fo : EM) (ρ : Rho) : clrTM fo ρ = bindS (fo ρ) fun r ρ1 => clrTR ρ1 r := eqI rfl
@[simp] theorem clrTR_is (ρ : Rho) (ds : List PyData) : clrTR ρ (.own (.list ds)) = some (.nx ρ) := eqI rfl
end DL
namespace DL
open PySem PyProof.Rows
open L2 hiding Sp
def orSR (fb : EM) (ρ : Rho) : Option PyData → Option (Oe R)
  | some (.str x) => if x.length ≤ lim then (if x.length = 0 then fb ρ else some (.ok (.dat (.str x)) ρ)) else none
  | _ => none
def orSM (fa fb : EM) : EM := fun ρ => bindO (fa ρ) fun r ρ1 => orSR fb ρ1 (val ρ1 r)
@[simp] theorem orSM_e (fa fb : EM) (ρ : Rho) : orSM fa fb ρ = bindO (fa ρ) fun r ρ1 => orSR fb ρ1 (val ρ1 r) := eqI rfl
end DL
namespace DL
open PySem PyProof.Rows
open L2 hiding Sp
def keptQ (i : Nat) (sem : Sem) (rs : List R) (ρ : Rho) : Option (Option R) → Option (Oe R)
  | some (some (.obj (.dsk ts ss))) => closeR i (callRM sem (.slt i :: rs) (ρ.set i (some (.obj (.led ts ss)))))
  | _ => none
def closeQ (i : Nat) (r : R) (ρ : Rho) : Option (Option R) → Option (Oe R)
  | some (some (.obj (.led ts ss))) => some (.ok r (ρ.set i (some (.obj (.dsk ts ss)))))
  | _ => none
def closeE (i c : Nat) (fs : List PyData) (ρ : Rho) : Option (Option R) → Option (Oe R)
  | some (some (.obj (.led ts ss))) => some (.er c fs (ρ.set i (some (.obj (.dsk ts ss)))))
  | _ => none
@[simp] theorem isDsk_d (ts ss : List PyData) : isDsk (some (some (.obj (.dsk ts ss)))) = true := eqI rfl
@[simp] theorem metKM_e (i : Nat) (sem : Sem) (dds : List PyData) (fa : AM) (ρ : Rho) : metKM i sem dds fa ρ = pick (isDsk ρ[i]?) (fun ρ => bindO (appA fa dds ρ) (keptR i sem)) (fun _ => none) ρ := by
  unfold metKM pick
  split <;> rfl
@[simp] theorem keptR_e (i : Nat) (sem : Sem) (rs : List R) (ρ : Rho) : keptR i sem rs ρ = keptQ i sem rs ρ ρ[i]? := by
  unfold keptR keptQ
  rfl
@[simp] theorem keptQ_e (i : Nat) (sem : Sem) (rs : List R) (ρ : Rho) (ts ss : List PyData) : keptQ i sem rs ρ (some (some (.obj (.dsk ts ss)))) = closeR i (callRM sem (.slt i :: rs) (ρ.set i (some (.obj (.led ts ss))))) := eqI rfl
@[simp] theorem closeR_ok (i : Nat) (r : R) (ρ : Rho) : closeR i (some (.ok r ρ)) = closeQ i r ρ ρ[i]? := by
  unfold closeR closeQ
  rfl
@[simp] theorem closeR_er (i c : Nat) (fs : List PyData) (ρ : Rho) : closeR i (some (.er c fs ρ)) = closeE i c fs ρ ρ[i]? := by
  unfold closeR closeE
  rfl
@[simp] theorem closeQ_e (i : Nat) (r : R) (ρ : Rho) (ts ss : List PyData) : closeQ i r ρ (some (some (.obj (.led ts ss)))) = some (.ok r (ρ.set i (some (.obj (.dsk ts ss))))) := eqI rfl
@[simp] theorem closeE_e (i c : Nat) (fs : List PyData) (ρ : Rho) (ts ss : List PyData) : closeE i c fs ρ (some (some (.obj (.led ts ss)))) = some (.er c fs (ρ.set i (some (.obj (.dsk ts ss))))) := eqI rfl
end DL
namespace DL
open PySem PyProof.Rows
open L2 hiding Sp
def strB : PyData → Option R
  | .int i => if i.natAbs.log2 < 1920 then some (.dat (.str (toString i))) else none
  | .str x => some (.dat (.str x))
  | _ => none
@[simp] theorem strB_i (i : Int) : strB (.int i) = if i.natAbs.log2 < 1920 then some (R.dat (.str (nS i))) else none := eqI rfl
@[simp] theorem strB_s (x : Str) : strB (.str x) = some (R.dat (.str x)) := eqI rfl
end DL
namespace DL
open PySem PySem.Spec PyProof.Rows L2 He
def fdX (K : PySem.W.Frag) (f : Addr) : Option FuncData := match K.lookup f with
  | some ⟨_, _, .func fd, _⟩ => some fd
  | _ => none
def cdX (K : PySem.W.Frag) (f : Addr) : Value := match fdX K f with
  | some fd => fd.code
  | none => .none
def dvX (K : PySem.W.Frag) (f : Addr) : Value := match fdX K f with
  | some fd => fd.defaults
  | none => .none
def tkV : Value → Tok
  | .str _ t => t
  | .int _ t => t
  | _ => default
inductive Shp where
  | i (n : Int)
  | s (x : Str)
  | r (a : Addr)
  | b (b : Bool)
  | non
def Shp.ok : Shp → Value → Bool
  | .i n, .int m _ => decide (m = n)
  | .s x, .str y _ => decide (y = x)
  | .r a, .ref c => Nat.beq c a
  | .b z, .bool c => z == c
  | .non, .none => true
  | _, _ => false
def Shp.val : Shp → Value → Value
  | .i n, v => .int n (tkV v)
  | .s x, v => .str x (tkV v)
  | .r a, _ => .ref a
  | .b z, _ => .bool z
  | .non, _ => .none
structure DfX where
  at_ : Str × Option Str
  name : Str
  qual : Str
  params : Arguments
  body : List Stmt
  scope : Scope
def DfX.val (d : DfX) : FnW := some (d.name, d.qual, d.params, .stmts d.body, d.scope, mainGlobals, [], builtinsNs)
def DfX.ok (K : PySem.W.Frag) (d : DfX) : Bool := PySem.W.keepIn K (.ref (fAd K d.at_)) && PySem.W.codeIn K (cdX K (fAd K d.at_)) d.qual
theorem DfX.fn {K : PySem.W.Frag} {d : DfX} (e : fnW K d.at_ = d.val) :
    ∃ oc od osl kV doc pm an ct, K.lookup (fAd K d.at_) = some ⟨oc, od, .func (PySem.W.fnOf d.name d.qual d.params d.body d.scope (dvX K (fAd K d.at_)) kV doc pm an (cdX K (fAd K d.at_)) ct), osl⟩ := by
  unfold fnW at e
  cases q : K.lookup (fAd K d.at_) with
  | none =>
    rw [q] at e
    cases e
  | some o =>
    obtain ⟨oc, od, dt, osl⟩ := o
    rw [q] at e
    cases dt with
    | func fd =>
      have ec : cdX K (fAd K d.at_) = fd.code := by unfold cdX fdX; rw [q]
      have ed : dvX K (fAd K d.at_) = fd.defaults := by unfold dvX fdX; rw [q]
      rw [ec, ed]
      obtain ⟨n1, n2, n3, n4, n5, n6, n7, n8, n9, n10, n11, n12, n13, n14, n15⟩ := fd
      have e2 : (some (n1, n2, n3, n4, n5, n6, n7, n15) : FnW) = some (d.name, d.qual, d.params, .stmts d.body, d.scope, mainGlobals, [], builtinsNs) := e
      simp only [Option.some.injEq, Prod.mk.injEq] at e2
      obtain ⟨h1, h2, h3, h4, h5, h6, h7, h8⟩ := e2
      subst h1 h2 h3 h4 h5 h6 h7 h8
      exact ⟨oc, od, osl, n9, n10, n11, n12, n14, rfl⟩
    | _ => cases e
end DL
namespace DL
open PySem PyProof.Rows
open L2 hiding Sp
end DL
namespace DL
open PySem PyProof.Rows
open L2 hiding Sp
def endO (ρ : Rho) : Option (Oe R) → Option (Oe R)
  | some (.ok (.dat d) _) => some (.ok (.dat d) ρ)
  | _ => none
def callOR (sem : Sem) (fb : EM) (ρ : Rho) : R → Option (Oe R)
  | .own (.list p) => bindO (fb ρ) fun s ρ2 => match s with
    | .dat d => endO ρ2 (sem [.own (.list p), .dat d])
    | _ => none
  | _ => none
def callOM (sem : Sem) (fa fb : EM) : EM := fun ρ => bindO (fa ρ) fun r ρ1 => callOR sem fb ρ1 r
@[simp] theorem callOM_e (sem : Sem) (fa fb : EM) (ρ : Rho) : callOM sem fa fb ρ = bindO (fa ρ) fun r ρ1 => callOR sem fb ρ1 r := eqI rfl
@[simp] theorem endO_ok (d : PyData) (ρ os : Rho) : endO ρ (some (.ok (.dat d) os)) = some (.ok (.dat d) ρ) := eqI rfl
end DL
namespace DL
open PySem PyProof.Rows
open L2 hiding Sp
/-- a function object known to the object -/
def FnO (a : Addr) (o : Obj) : HO := .ext fun h => h.get? a = some o
section
variable {X : Cx} {pins : List (Addr × Obj)} {σ : L2.St} {H : Hp} {s : Shared}
/-- the lambda's object -/
abbrev lamO (X : Cx) (q : Str) (params : Arguments) (body : Expr) (scope : Scope) (pm : Value) (c' : Addr) (ctv : Value) : Obj := PySem.W.kla_obj "<lambda>" q params body scope (cloFrom X.env.cells scope.names []) pm c' ctv
end
/-- a lambda of X's and what it comes to -/
structure LamK (X : Cx) (T : Tb) (kb : Nat) (params : Arguments) (body : Expr) (scope : Scope) (fE : EM) : Prop where
  L : LamX.LamS X.env.scope scope
  bind : ∀ (q : Str) (cl : List (Str × Addr)) (pm cv ctv : Value), bindArgs (PySem.W.kla_fn "<lambda>" q params body scope cl pm cv ctv) ⟨[], []⟩ = pure []
  run : ∀ (A : Around) (outer : List Env) (s : Shared) (H : Hp) (E : XK) (f c' : Addr), A.guards = some [] → Room kb (A.deeper (LamX.lamEnv X scope s.heap.objs.size f c')) → SE (LamX.lamCx X A outer s H E scope f c') T (fun cls d _ H' => E cls d H') body fE
/-- what a lambda that is tracked is -/
def LamT (X : Cx) (T : Tb) (kb : Nat) (q : Str) (H : Hp) (f : Addr) (fE : EM) : Prop := ∃ (c' : Addr) (params : Arguments) (body : Expr) (scope : Scope) (pm ctv : Value), LamK X T kb params body scope fE ∧ H f = some (FnO f (lamO X q params body scope pm c' ctv)) ∧ H c' = some (LamX.CodeO c' q)
end DL
namespace DL
open PySem PySem.Spec PyProof.Rows
open L2 hiding Sp
end DL
namespace DL
open PySem PySem.Spec PyProof.Rows
open L2 hiding Sp
inductive LamTs (X : Cx) (T : Tb) (kb : Nat) (q : Str) (H : Hp) : List Addr → List EM → Prop where
  | nil : LamTs X T kb q H [] []
  | cons {f : Addr} {fE : EM} {fs : List Addr} {es : List EM} : LamT X T kb q H f fE → LamTs X T kb q H fs es → LamTs X T kb q H (f :: fs) (fE :: es)
section
variable {X : Cx} {T : Tb} {kb : Nat} {q : Str} {H H' : Hp}
theorem LamT.mono {f : Addr} {fE : EM} (k : ∀ b o, H b = some o → (b = f ∨ ∃ c q, o = LamX.CodeO c q) → H' b = some o) : LamT X T kb q H f fE → LamT X T kb q H' f fE
  | ⟨c', params, body, scope, pm, ctv, h1, h2, h3⟩ => ⟨c', params, body, scope, pm, ctv, h1, k _ _ h2 (.inl rfl), k _ _ h3 (.inr ⟨_, _, rfl⟩)⟩
theorem LamTs.mono : ∀ {fs : List Addr} {es : List EM}, (∀ b o, H b = some o → (b ∈ fs ∨ ∃ c q, o = LamX.CodeO c q) → H' b = some o) → LamTs X T kb q H fs es → LamTs X T kb q H' fs es
  | _, _, _, .nil => .nil
  | _, _, k, .cons a b => .cons (a.mono fun b o h z => k b o h (z.imp (fun e => by rw [e]; exact List.mem_cons_self) id)) (b.mono fun b o h z => k b o h (z.imp (List.mem_cons_of_mem _) id))
theorem LamTs.len : ∀ {fs : List Addr} {es : List EM}, LamTs X T kb q H fs es → fs.length = es.length
  | _, _, .nil => rfl
  | _, _, .cons _ b => by rw [List.length_cons, List.length_cons, b.len]
theorem LamTs.at_ : ∀ {fs : List Addr} {es : List EM} {i : Nat} {f : Addr}, LamTs X T kb q H fs es → fs[i]? = some f → ∃ fE, es[i]? = some fE ∧ LamT X T kb q H f fE
  | _, _, _, _, .nil, h => by simp at h
  | _, _, 0, _, .cons a _, h => by simp at h; subst h; exact ⟨_, rfl, a⟩
  | _, _, i + 1, _, .cons _ b, h => by
    obtain ⟨fE, e, h⟩ := b.at_ (i := i) (by simpa using h)
    exact ⟨fE, by simpa using e, h⟩
theorem LamT.there {f : Addr} {fE : EM} : LamT X T kb q H f fE → ∃ ob, H f = some (FnO f ob)
  | ⟨_, _, _, _, _, _, _, h2, _⟩ => ⟨_, h2⟩
theorem LamTs.there {f : Addr} : ∀ {fs : List Addr} {es : List EM}, LamTs X T kb q H fs es → f ∈ fs → ∃ ob, H f = some (FnO f ob)
  | _, _, .nil, h => by cases h
  | _, _, .cons a b, h => by
    rcases List.mem_cons.mp h with rfl | h
    · exact a.there
    · exact b.there h
end
end DL
namespace DL
open PySem PySem.Spec PyProof.Rows
open L2 hiding Sp
end DL
namespace DL
open PySem PyProof.Rows
open L2 hiding Sp
inductive RowsAt (K : PySem.W.Frag) (H : Hp) (F : Addr → Prop) : List Addr → List (List PyData) → Prop where
  | nil : RowsAt K H F [] []
  | cons {a : Addr} {as : List Addr} {ds : List PyData} {dss : List (List PyData)} : OwnAt K H F a (.list ds) → RowsAt K H F as dss → RowsAt K H F (a :: as) (ds :: dss)
section
variable {K : PySem.W.Frag} {H H' : Hp} {F F' : Addr → Prop}
theorem RowsAt.len : ∀ {as : List Addr} {dss : List (List PyData)}, RowsAt K H F as dss → as.length = dss.length
  | _, _, .nil => rfl
  | _, _, .cons _ b => by rw [List.length_cons, List.length_cons, b.len]
theorem RowsAt.mono (k : Kept F H H') (g : ∀ b, F b → F' b) : ∀ {as : List Addr} {dss : List (List PyData)}, (∀ a ∈ as, ∀ o, H a = some o → H' a = some o) → RowsAt K H F as dss → RowsAt K H' F' as dss
  | _, _, _, .nil => .nil
  | _, _, ha, .cons a b => .cons (a.mono k g (ha _ List.mem_cons_self)) (b.mono k g fun c hc => ha c (List.mem_cons_of_mem _ hc))
theorem RowsAt.get : ∀ {as : List Addr} {dss : List (List PyData)} {i : Nat} {a : Addr}, RowsAt K H F as dss → as[i]? = some a → ∃ ds, dss[i]? = some ds ∧ OwnAt K H F a (.list ds)
  | _, _, _, _, .nil, h => by simp at h
  | _, _, 0, _, .cons a _, h => by simp at h; subst h; exact ⟨_, rfl, a⟩
  | _, _, i + 1, _, .cons a b, h => by
    obtain ⟨ds, h1, h2⟩ := b.get (i := i) (by simpa using h)
    exact ⟨ds, by simpa using h1, h2⟩
theorem RowsAt.there {a : Addr} : ∀ {as : List Addr} {dss : List (List PyData)}, RowsAt K H F as dss → a ∈ as → ∃ o, H a = some o
  | _, _, .nil, h => by cases h
  | _, _, .cons q b, h => by
    rcases List.mem_cons.mp h with rfl | h
    · obtain ⟨o, ho, _⟩ := q.there; exact ⟨o, ho⟩
    · exact b.there h
theorem RowsAt.put {a : Addr} {ds : List PyData} (k : Kept F H H') (n : OwnAt K H' F a (.list ds)) : ∀ {as : List Addr} {dss : List (List PyData)} {i : Nat}, RowsAt K H F as dss → as[i]? = some a → as.Nodup → (∀ c ∈ as, c ≠ a → ∀ o, H c = some o → H' c = some o) → RowsAt K H' F as (dss.set i ds)
  | _, _, _, .nil, h, _, _ => by simp at h
  | _, _, 0, .cons q b, h, nd, kk => by
    simp at h
    subst h
    rw [List.nodup_cons] at nd
    exact .cons n (b.mono k (fun _ h => h) fun c hc => kk c (List.mem_cons_of_mem _ hc) fun e => nd.1 (e ▸ hc))
  | _, _, i + 1, .cons (a := c) q b, h, nd, kk => by
    rw [List.nodup_cons] at nd
    have hm : a ∈ _ := List.mem_of_getElem? (show _ = some a by simpa using h)
    exact .cons (q.mono k (fun _ h => h) (kk c List.mem_cons_self fun e => nd.1 (e ▸ hm))) (b.put k n (by simpa using h) nd.2 fun c hc => kk c (List.mem_cons_of_mem _ hc))
end
end DL
namespace DL
open PySem PyProof.Rows
open L2 hiding Sp
theorem RowsAt.nt {K : PySem.W.Frag} {H : Hp} {F : Addr → Prop} {a : Addr} {o : HO} : ∀ {as : List Addr} {dss : List (List PyData)}, RowsAt K H F as dss → a ∈ as → H a = some o → NT o
  | _, _, .nil, h, _ => by cases h
  | _, _, .cons q b, h, e => by
    rcases List.mem_cons.mp h with rfl | h
    · exact (q.nc e).1
    · exact b.nt h e
theorem RowsAt.ext {T : Tb} {H H' : Hp} {F F' : Addr → Prop} {O O' : Nat → List Addr} {σ : L2.St} {ρ : Rho} {s : Bool} (E : EnvR T H F O σ ρ) (x : Ext s H F O H' F' O') {as : List Addr} {dss : List (List PyData)} (r : RowsAt T.K H F as dss) (n : ∀ b ∈ as, ∀ i, b ∉ O i) : RowsAt T.K H' F' as dss :=
  r.mono (E.kept x) x.grow fun a ha o ho => x.keep a o ho (n a ha) (r.nt ha ho)
end DL
namespace DL
open PySem PyProof.Rows
open L2 hiding Sp
end DL
namespace DL
open PySem PyProof.Rows
open L2 hiding Sp
def KOr (ks : List (Key × V)) (o : HO) : Prop := o = .dK ks ∨ ∃ od, o = .frz od (.dK ks)
structure Tw (a : Addr) (ks : List (Key × V)) (H H' : Hp) : Prop where
  off : ∀ b, b ≠ a → H' b = H b
  l : ∃ o, H a = some o ∧ KOr ks o
  r : ∃ o, H' a = some o ∧ KOr ks o
section
variable {a : Addr} {ks : List (Key × V)} {H H' : Hp} {K : PySem.W.Frag} {F : Addr → Prop}
theorem Tw.rd (t : Tw a ks H H') {b : Addr} {u : HO} (h : Rd H b u) (n : ∀ od, u ≠ .frz od (.dK ks)) : Rd H' b u := by
  by_cases e : b = a
  · subst e
    obtain ⟨o, h1, h2⟩ := t.l
    obtain ⟨o', h3, h4⟩ := t.r
    have hu : u = .dK ks := by
      rcases h with h | ⟨od, h⟩
      · rw [h] at h1
        cases h1
        rcases h2 with h2 | ⟨od, h2⟩
        · exact h2
        · exact absurd h2 (n od)
      · rw [h] at h1
        cases h1
        rcases h2 with h2 | ⟨od', h2⟩
        · cases h2
        · cases h2; rfl
    subst hu
    rcases h4 with rfl | ⟨od, rfl⟩
    · exact .inl h3
    · exact .inr ⟨od, h3⟩
  · rcases h with h | ⟨od, h⟩
    · exact .inl (by rw [t.off b e]; exact h)
    · exact .inr ⟨od, by rw [t.off b e]; exact h⟩
theorem Tw.sqT (t : Tw a ks H H') {b : Addr} {xs : List V} (h : SqT K H b xs) : SqT K H' b xs := by
  rcases h with h | h
  · exact .inl (t.rd h fun od z => by cases z)
  · exact .inr h
end
def nxS : Option Ot → Option Ot
  | some (.nx ρ) => some (.nx ρ)
  | _ => none
@[simp] theorem nxS_nx (ρ : Rho) : nxS (some (.nx ρ)) = some (.nx ρ) := eqI rfl
def lsO : Option (Oe R) → Option (Oe R)
  | some (.ok (.own (.list ds)) ρ) => some (.ok (.own (.list ds)) ρ)
  | _ => none
@[simp] theorem lsO_l (ds : List PyData) (ρ : Rho) : lsO (some (.ok (.own (.list ds)) ρ)) = some (.ok (.own (.list ds)) ρ) := eqI rfl
end DL
namespace DL
open PySem PyProof.Rows
open L2 hiding Sp
section
variable {X : Cx} {pins : List (Addr × Obj)} {σ σ' : L2.St} {H H' : Hp} {s s' : Shared} {a C : Addr} {d : Option Addr} {oe : Obj}
theorem exo_still {o : HO} (h : Still o) : exo a C d ≠ o := fun z => by
  subst z
  unfold exo at h
  exact h
theorem inv_nofs (I : L2.Inv X pins σ H s) {u : HO} (h : H a = some u) : a ∉ X.fs := fun hb => by
  obtain ⟨_, o, ho, _⟩ := I.ok.funs.mem hb
  have := I.base.free a o ho (I.ok.frf a hb) (fun z => I.ok.exfs a z hb)
  rw [this] at h; cases h
/-- put aside -/
theorem inv_gone (I : L2.Inv X pins σ H s) (e : H a = some (exo a C d)) : L2.Inv X pins σ (del H a) s := by
  have nn : ∀ {b : Addr}, H b = none → del H a b = none := fun {b} h => by
    by_cases z : b = a
    · rw [z, del_same]
    · rw [del_ne z]; exact h
  refine ⟨I.ok, I.os, I.bare, ⟨I.base.keep, I.base.slot, fun b o q n hx => nn (I.base.free b o q n hx), I.base.there, fun b xs z => ?_, fun b o u z => ?_, fun b ps z => ?_⟩, I.loc, I.cell, nn I.free, fun x c h => nn (I.freeC x c h), fun p hp => ?_, fun b o z => ?_, I.len⟩
  · have y := I.base.tups b xs z
    rw [del_ne (at_ne e y exo_tup)]; exact y
  · have y := I.base.frzs b o u z
    rw [del_ne (at_ne e y exo_frz)]; exact y
  · obtain ⟨m, y⟩ := I.base.tbls b ps z
    exact ⟨m, by rw [del_ne (at_ne e y exo_tbl)]; exact y⟩
  · obtain ⟨h1, h2, h3⟩ := I.pin p hp
    exact ⟨h1, nn h2, h3⟩
  · have hba : b ≠ a := fun y => by rw [y, del_same] at z; cases z
    rw [del_ne hba] at z
    exact (I.hok b o z).stay (fun c v _ y => y) (fun c hc => by rw [del_ne (at_ne e hc exo_own)]; exact hc) fun c xs hc => by rw [del_ne (at_ne e hc exo_tup)]; exact hc
/-- aside, with its record known -/
theorem inv_aside (I : L2.Inv X pins σ H s) (e : H a = some (exo a C d)) : ∃ t1 : Addr, L2.Inv X (pins ++ [(a, { cls := .ref C, dict := d, data := .fields #[.ref t1, .none, .none, .none, .bool false, .none] })]) σ (del H a) s := by
  obtain ⟨t1, he⟩ := exo_at I.hok e
  have J := inv_gone I e
  refine ⟨t1, J.pins_of fun p hp => ?_⟩
  rcases List.mem_append.mp hp with hp | hp
  · exact J.pin p (List.mem_append_right _ hp)
  · rw [List.mem_singleton] at hp
    subst hp
    refine ⟨he, del_same, ?_, inv_nofs I e, ?_⟩
    · intro z
      have z' : a = X.env.locals := z
      rw [z', I.free] at e; cases e
    · intro v z
      cases z
/-- back again -/
theorem inv_back {t1 : Addr} (I0 : L2.Inv X pins σ H s) (e : H a = some (exo a C d)) (I : L2.Inv X (pins ++ [(a, { cls := .ref C, dict := d, data := .fields #[.ref t1, .none, .none, .none, .bool false, .none] })]) σ' H' s') : L2.Inv X pins σ' (upd H' a (exo a C d)) s' := by
  obtain ⟨p1, p2, p3, p4, p5⟩ := I.pin (a, _) (List.mem_append_right _ (List.mem_append_right _ (List.mem_singleton.mpr rfl)))
  have p1 : s'.heap.get? a = _ := p1
  have p2 : H' a = none := p2
  have nn : ∀ {b : Addr}, H b = none → H' b = none → upd H' a (exo a C d) b = none := fun {b} h h2 => by
    rw [upd_ne (fun z => by rw [z, e] at h; cases h)]; exact h2
  refine ⟨I.ok, I.os, I.bare, ⟨I.base.keep, I.base.slot, fun b o q n hx => nn (I0.base.free b o q n hx) (I.base.free b o q n hx), I.base.there, fun b xs z => ?_, fun b o u z => ?_, fun b ps z => ?_⟩, I.loc, I.cell, nn I0.free I.free, fun x c h => nn (I0.freeC x c h) (I.freeC x c h), fun p hp => ?_, fun b o z => ?_, I.len⟩
  · rw [upd_ne (at_ne e (I0.base.tups b xs z) exo_tup)]; exact I.base.tups b xs z
  · rw [upd_ne (at_ne e (I0.base.frzs b o u z) exo_frz)]; exact I.base.frzs b o u z
  · obtain ⟨m0, y0⟩ := I0.base.tbls b ps z
    obtain ⟨m, y⟩ := I.base.tbls b ps z
    exact ⟨m, by rw [upd_ne (at_ne e y0 exo_tbl)]; exact y⟩
  · obtain ⟨h1, h2, h3⟩ := I.pin p ((List.mem_append.mp hp).elim (fun z => List.mem_append_left _ z) fun z => List.mem_append_right _ (List.mem_append_left _ z))
    exact ⟨h1, nn (I0.pin p hp).2.1 h2, h3⟩
  · by_cases hba : b = a
    · subst hba
      rw [upd_same] at z
      cases z
      exact exo_ok p1
    · rw [upd_ne hba] at z
      exact (I.hok b o z).stay (fun c v _ y => y) (fun c hc => by rw [upd_ne (ne_of_none hc p2)]; exact hc) fun c xs hc => by rw [upd_ne (ne_of_none hc p2)]; exact hc
end
end DL
namespace DL
open PySem PyProof.Rows
open L2 hiding Sp
/-- a zip whose last pair is held by another -/
abbrev IsZf (h : Heap) (z TI TO a : Addr) (f : Bool) : Prop :=
  h.get? z = some { cls := .type "zip", dict := none, data := .fields #[rawInt a, .bool f, .bool false, .ref TI, .ref TO], slots := #[] }
structure ZlSt (x : Str) (t : Tok) (vs : Array Value) (S z TI TO i1 i2 b : Addr) (i : Nat) (h : Heap) : Prop where
  z : (IsZip h z TI TO .none ∧ ∃ a1 a2, IsTupOf2 h TO a1 a2) ∨ ∃ a f oa, IsZf h z TI TO a f ∧ h.get? a = some oa ∧ (a ≠ z ∧ a ≠ TO ∧ a ≠ i1 ∧ a ≠ i2) ∧ a ≠ S
  ti : IsTupOf2 h TI (.ref i1) (.ref i2)
  s1 : h.IsStrIter i1 (strIterType x) x t i
  s2 : h.IsTupleIter i2 b i ∧ h.IsTuple b vs
/-- the cells lie below the new list -/
structure ZlD (S z TI TO i1 i2 b : Addr) : Prop where
  D : ZipSep2 z TI TO i1 i2 [i1] [i2, b]
  bi : b ≠ i2
  zS : z < S
  tS : TO < S
  iS : i1 < S
  jS : i2 < S
  bS : b < S
  IS : TI < S
section
variable {prog : Program} {w : World} {A : Around} {E : Value → Shared → Prop} {s : Shared} {x : Str} {t : Tok} {vs : Array Value} {S z TI TO i1 i2 b : Addr} {i : Nat}
theorem ZlSt.keep {h h' : Heap} (st : ZlSt x t vs S z TI TO i1 i2 b i h) (d : ZlD S z TI TO i1 i2 b) (hk : ∀ c o, c ≠ S → h.get? c = some o → h'.get? c = some o) : ZlSt x t vs S z TI TO i1 i2 b i h' := by
  have n : ∀ c, c < S → c ≠ S := fun c h => Nat.ne_of_lt h
  refine ⟨?_, hk _ _ (n _ d.IS) st.ti, ?_, st.s2.1.at fun o q => hk _ _ (n _ d.jS) q, st.s2.2.at fun o q => hk _ _ (n _ d.bS) q⟩
  · rcases st.z with ⟨hz, a1, a2, h2⟩ | ⟨a, f, oa, h1, h2, h3, h4⟩
    · exact .inl ⟨hk _ _ (n _ d.zS) hz, a1, a2, hk _ _ (n _ d.tS) h2⟩
    · exact .inr ⟨a, f, oa, hk _ _ (n _ d.zS) h1, hk _ _ h4 h2, h3, h4⟩
  · obtain ⟨o, e, r⟩ := st.s1
    exact ⟨o, hk _ _ (n _ d.iS) e, r⟩
end
section
open PySem.W
variable {prog : Program} {w : World} {A : Around} {E : Value → Shared → Prop} {s : Shared} {R : Result → Shared → Prop} {x : Str} {t : Tok} {vs : Array Value} {S z TI TO i1 i2 b : Addr}
theorem ZlSt.ty {h : Heap} {i : Nat} {g : Array GenState} {dr : Drawn} {tk : Nat} {os : OsState} (st : ZlSt x t vs S z TI TO i1 i2 b i h) : Shared.TypeIs ⟨h, g, dr, tk, os⟩ (.ref z) "zip" := by
  rcases st.z with ⟨hz, _⟩ | ⟨a, f, oa, h1, _⟩
  · exact ⟨_, hz, rfl⟩
  · exact ⟨_, h1, rfl⟩
end
/-- of a text and a tuple -/
def zxR (o : Option (List PyData)) : Option (List PyData) := match o with
  | some [.str x, .tuple ys] => some (List.zipWith pairD (signsD x) ys)
  | _ => none
@[simp] theorem zxR_e (x : Str) (ys : List PyData) : zxR (some [.str x, .tuple ys]) = some (List.zipWith pairD (signsD x) ys) := eqI rfl
def ixM (f : AM) : IM := fun ρ => bindO (f ρ) fun rs ρ1 => (zxR (dats rs)).map fun ds => .ok ds ρ1
@[simp] theorem ixM_e (f : AM) (ρ : Rho) : ixM f ρ = bindO (f ρ) fun rs ρ1 => (zxR (dats rs)).map fun ds => .ok ds ρ1 := eqI rfl
def lzR (o : Option (List PyData)) (ρ : Rho) : Option (Oe R) := (zxR o).map fun ds => .ok (.own (.list ds)) ρ
def lzM (f : AM) : EM := fun ρ => bindO (f ρ) fun rs ρ1 => lzR (dats rs) ρ1
@[simp] theorem lzM_e (f : AM) (ρ : Rho) : lzM f ρ = bindO (f ρ) fun rs ρ1 => lzR (dats rs) ρ1 := eqI rfl
@[simp] theorem lzR_e (x : Str) (ys : List PyData) (ρ : Rho) : lzR (some [.str x, .tuple ys]) ρ = some (.ok (.own (.list (List.zipWith pairD (signsD x) ys))) ρ) := eqI rfl
end DL
namespace DL
open PySem PyProof.Rows
open L2 hiding Sp
def bindX (vs : List Nat) (o : Option (Oe R)) (g : R → Rho → Option (Oe R)) : Option (Oe R) := match o with
  | some (.ok a ρ) => g a ρ
  | some (.er c fs ρ) => some (.er c fs (wipeR ρ vs))
  | none => none
@[simp] theorem bindX_ok (vs : List Nat) (a : R) (ρ : Rho) (g : R → Rho → Option (Oe R)) : bindX vs (some (.ok a ρ)) g = g a ρ := rfl
@[simp] theorem bindX_er (vs : List Nat) (c : Nat) (fs : List PyData) (ρ : Rho) (g : R → Rho → Option (Oe R)) : bindX vs (some (.er c fs ρ)) g = some (.er c fs (wipeR ρ vs)) := rfl
@[simp] theorem bindX_none (vs : List Nat) (g : R → Rho → Option (Oe R)) : bindX vs none g = none := rfl
def lcXL (g : GM) (vs : List Nat) (c : Rho → Option (Oe Bool)) (f : EM) : List PyData → Rho → List PyData → Option (Oe R)
  | [], ρ, acc => some (.ok (.own (.list acc)) ρ)
  | x :: xs, ρ, acc => match g x ρ with
    | none => none
    | some ρ1 => bindN (c ρ1) fun b ρ2 => if b = true then bindX vs (f ρ2) fun r ρ3 => match frz ρ3 r with
        | some (d, ρ4) => if acc.length < lim then lcXL g vs c f xs (wipeR ρ4 vs) (acc ++ [d]) else none
        | none => none
      else lcXL g vs c f xs (wipeR ρ2 vs) acc
def lcXM (it : IM) (g : GM) (vs : List Nat) (c : Rho → Option (Oe Bool)) (f : EM) : EM := fun ρ => bindO (it ρ) fun ds ρ1 => lcXL g vs c f ds (wipeR ρ1 vs) []
@[simp] theorem lcXM_e (it : IM) (g : GM) (vs : List Nat) (c : Rho → Option (Oe Bool)) (f : EM) (ρ : Rho) : lcXM it g vs c f ρ = bindO (it ρ) fun ds ρ1 => lcXL g vs c f ds (wipeR ρ1 vs) [] := eqI rfl
end DL
namespace DL
open PySem L2 PyProof.Rows
end DL
namespace PySem
namespace HandSPX
open Builtin
section
variable {M : Model} {A : Around} {E : Value → Shared → Prop} {h : Heap} {g : Array GenState} {d : Drawn} {t : Nat} {os : OsState}
variable {nm q : Str} {C N : Addr} {bs bm bmB : List Value} {hdct : Bool} {sn : List Str} {sub : List Value} {ab : Bool} {col : Option Bool} {dd : Option Addr} {k0 k1 k2 k3 k5 : Option Value} {B newId initId : String} {x y : Value} {kx ky : Str}
theorem check_new_kw (F : ExcBaseFacts B newId initId bmB) (hT : ∀ X : String, bm.contains (.type X) = bmB.contains (.type X)) {Q : Unit → Shared → Prop}
    (hC : h.get? C = some (excClassObj nm q C N bs bm hdct sn sub ab col dd k0 k1 k2 k3 k5 newId)) (hq : Q () ⟨h, g, d, t, os⟩) : wpAny M A (checkBuiltinCall newId ⟨[.ref C], [(kx, x), (ky, y)]⟩) Q E ⟨h, g, d, t, os⟩ := by
  have hcont : (Value.ref C :: bm).contains (.type B) = true := by rw [List.contains_cons, hT, F.hasB, Bool.or_true]
  have hstar := F.noStar
  simp only [checkBuiltinCall, F.newKind, F.newSplit, F.newRow]
  repeat (first | refine wpAny_loadPart_at hC ?_ | (refine wpAny_isSubtype_exc hC ?_; rw [hcont]) | refine wpAny_staticBase_exc hC ?_ | refine wpAny_madeBy_exc hC ?_ | simp only [bne_self_eq_false, Bool.false_eq_true, if_false] | wp_step)
  exact hq
end
section
variable {prog : Program} {w : World} {A : Around} {E : Value → Shared → Prop} {R : Result → Shared → Prop} {h : Heap} {g : Array GenState} {d : Drawn} {t : Nat} {os : OsState}
variable {nm q : Str} {C N : Addr} {bs bm bmB : List Value} {hdct : Bool} {sn : List Str} {sub : List Value} {ab : Bool} {col : Option Bool} {dd : Option Addr} {k0 k1 k2 k3 k5 : Option Value} {B newId initId : String} {x y : Value} {kx ky : Str}
theorem new_kw (F : ExcBaseFacts B newId initId bmB) (hT : ∀ X : String, bm.contains (.type X) = bmB.contains (.type X))
    (hC : h.get? C = some (excClassObj nm q C N bs bm hdct sn sub ab col dd k0 k1 k2 k3 k5 newId))
    (hq : R (.ok (.ret (.ref (h.objs.size + 1)))) ⟨(h.push (W.kdv_tup [])).push (excO C h.objs.size), g, d, t, os⟩) :
    codeAny (model prog w) A (.builtin newId ⟨[.ref C], [(kx, x), (ky, y)]⟩) R ⟨h, g, d, t, os⟩ := by
  have hends := F.ends
  have hcB : (Value.ref C :: bm).contains (.type B) = true := by rw [List.contains_cons, hT, F.hasB, Bool.or_true]
  have hcA : (Value.ref C :: bm).contains (.type "AttributeError") = false := by rw [List.contains_cons, hT, F.noAttr]; rfl
  have hcN : (Value.ref C :: bm).contains (.type "NameError") = false := by rw [List.contains_cons, hT, F.noName]; rfl
  have hrest : ([] : List Value).length ≤ sizeLine := Nat.zero_le _
  refine codeAny_builtinAt F.entry ?_
  unfold Builtin.«BaseException.__new__»
  refine wpAt_bind ?_
  show wpAt _ _ _ (stack >>= _) _ _ _
  refine wpAt_bind (wpAt_stack fun p below => wpAt_of_wpAny ?_)
  wp_walk
  refine wpAt_of_wpAny ?_
  rw [F.owner]
  repeat (first | with_reducible refine wpAny_madeHere_exc F.canon hC ?_ | with_reducible refine wpAny_loadPart_at hC ?_ | (with_reducible refine wpAny_isSubtype_exc hC ?_; first | rw [hcB] | rw [hcA] | rw [hcN]) | wp_step)
  show R _ _
  rw [Heap.size_push]
  exact hq
theorem type_call_kw (F : ExcBaseFacts B newId initId bmB) (hT : ∀ X : String, bm.contains (.type X) = bmB.contains (.type X)) {fI : Addr} {Q : Fin → Shared → Prop}
    (hC : h.get? C = some (excClassObj nm q C N bs bm hdct sn sub ab col dd k0 k1 k2 k3 k5 newId))
    (hi : W.Looks (model prog w) h (typeLookup (.ref C) "__init__") (some (.ref fI))) (hb : ∀ self, W.Looks (model prog w) h (bindSpecial (.ref fI) self) (.ref fI, [self]))
    (hq : codeAny (model prog w) A (.call (.ref fI) ⟨[.ref (h.objs.size + 1)], [(kx, x), (ky, y)]⟩)
      (fun r s' => match r with | .ok (.ret v) => v = .none ∧ Q (.done (.ret (.ref (h.objs.size + 1)))) s' | .ok _ => False | .error e => E e s')
      ⟨(h.push (W.kdv_tup [])).push (excO C h.objs.size), g, d, t, os⟩) :
    wpAny (model prog w) A (Builtin.«type.__call__» ⟨[.ref C], [(kx, x), (ky, y)]⟩) Q E ⟨h, g, d, t, os⟩ := by
  repeat (first | with_reducible refine wpAny_loadPart_at hC ?_ | with_reducible refine wpAny_madeBy_exc hC ?_ | wp_step)
  refine codeAny_call_builtin_code (Code.quiet_builtin _ F.quiet) (check_new_kw F hT hC ?_)
  refine new_kw F hT hC ?_
  show wpAny _ _ _ _ _ _
  have k : ∀ b o, h.get? b = some o → ((h.push (W.kdv_tup [])).push (excO C h.objs.size)).get? b = some o := fun b o e => Heap.get?_push_of_some _ (Heap.get?_push_of_some _ e)
  have hC₁ := k _ _ hC
  have hget : ((h.push (W.kdv_tup [])).push (excO C h.objs.size)).get? (h.objs.size + 1) = some (excO C h.objs.size) := by heap_get
  have hcC : (Value.ref C :: bm).contains (.ref C) = true := by simp
  have i1 := hi.keeps k
  have b1 := (hb (.ref (h.objs.size + 1))).keeps k
  unfold isInstance
  repeat (first | with_reducible refine wpAny_loadPart_at hget ?_ | (with_reducible refine wpAny_isSubtype_exc hC₁ ?_; rw [hcC]) | wp_step)
  show wpAny _ _ (typeLookup (.ref C) _) _ _ _
  refine i1.at ?_
  refine wpAny_holding (wpAny_bind (b1.at ?_))
  refine wpAny_bind (wpAny_call (codeAny_mono hq fun r s' z => ?_))
  rcases r with e | (v | _ | _ | _) <;> first | exact z | exact z.elim | skip
  obtain ⟨rfl, z⟩ := z
  first
    | exact wpAny_pure (wpAny_pure z)
    | (wp_walk; exact z)
theorem call_kw (F : ExcBaseFacts B newId initId bmB) (hT : ∀ X : String, bm.contains (.type X) = bmB.contains (.type X)) {fI : Addr}
    (hC : h.get? C = some (excClassObj nm q C N bs bm hdct sn sub ab col dd k0 k1 k2 k3 k5 newId))
    (hi : W.Looks (model prog w) h (typeLookup (.ref C) "__init__") (some (.ref fI))) (hb : ∀ self, W.Looks (model prog w) h (bindSpecial (.ref fI) self) (.ref fI, [self]))
    (hq : codeAny (model prog w) (A.under (.builtin "type.__call__" ⟨[.ref C], [(kx, x), (ky, y)]⟩)) (.call (.ref fI) ⟨[.ref (h.objs.size + 1)], [(kx, x), (ky, y)]⟩) (W.InitBack (h.objs.size + 1) R)
      ⟨(h.push (W.kdv_tup [])).push (excO C h.objs.size), g, d, t, os⟩) :
    codeAny (model prog w) A (.call (.ref C) ⟨[], [(kx, x), (ky, y)]⟩) R ⟨h, g, d, t, os⟩ := by
  have f1 := tc_lookup
  have f2 := tc_bind (.ref C)
  have hTy : (⟨h, g, d, t, os⟩ : Shared).TypeIs (.ref C) "type" := ⟨_, hC, rfl⟩
  refine codeAny_of_tree ?_
  show wpAny _ _ (callAny (.ref C) _) _ _ _
  repeat (any_goals (first | assumption | with_reducible refine wpAny_loadPart_at hC ?_ | wp_step))
  refine ⟨rfl, ?_⟩
  refine codeAny_call_builtin_at (Code.quiet_builtin _ (by decide +kernel)) entry_typeCall (wpAny_check_type_call_sub hC (type_call_kw F hT hC hi hb ?_))
  refine codeAny_mono hq fun r s' z => ?_
  rcases r with e | (v | _ | _ | _) <;> exact z
end
end HandSPX
end PySem
namespace DL
open PySem PyProof.Rows
open L2 hiding Sp
theorem exo_xd {a C : Addr} {d : Option Addr} {fs : List (Str × V)} : exo a C d ≠ .xd fs := exo_still trivial
/-- an exception that stands in the heap -/
def ExAt0 (T : Tb) (H : Hp) (a : Addr) (c : Nat) (fs : List PyData) : Prop := ∃ d, H a = some (exo a (T.ca c) d) ∧ ExcR T H (.ref (T.ca c)) d c fs
theorem ExAt0.mono {T : Tb} {H H' : Hp} {a : Addr} {c : Nat} {fs : List PyData} (h : ExAt0 T H a c fs) (k : ∀ b o, H b = some o → NT o → H' b = some o) : ExAt0 T H' a c fs := by
  obtain ⟨d, h1, h2, h3⟩ := h
  refine ⟨d, k _ _ h1 trivial, h2, ?_⟩
  split at h3
  · exact h3
  · obtain ⟨x, e1, e2⟩ := h3
    exact ⟨x, e1, k _ _ e2 trivial⟩
  · exact h3
/-- what a new thing leaves -/
structure New (T : Tb) (H : Hp) (H' : Hp) (F' : Reg) : Prop where
  keep : ∀ b o, H b = some o → NT o → H' b = some o
  live : ∀ b, H' b = none → H b = none
  new : ∀ b, F' b → H b = none
  lv : ∀ b, F' b → H' b ≠ none
  tb : LamX.Tabs T.tb H'
def tRefX (T : Tb) (sem : Sem) (j : Nat) : TE := fun σ H Q => ∃ (a : Addr) (c : Nat) (fs : List PyData) (d : PyData) (ρo : Rho), σ[j]? = some (some (.ref a)) ∧ ExAt0 T H a c fs ∧ sem [.ex c fs] = some (.ok (.dat d) ρo) ∧ ∀ v H' F', New T H H' F' → DF T.K H' F' v d → Q v H'
section
variable {X : Cx} {T : Tb} {W : WX} {k n m j : Nat} {N : List Str} {sc : Scope} {pos p pe : Pos} {x e : Str} {sem : Sem}
theorem pe_refX (htb : T.tb = []) (l : At X N sc) (hx : gnB sc x = true) (c : Cxt X T W m) (h : FnX X.prog X.w X.mg X.base T x k 1 sem) (hk : k + 1 ≤ m) (hj : nmB N sc j e = true) : PE X (.Call (.Name x p) [.Name e pe] [] pos) (tRefX T sem j) := by
  obtain ⟨f, fd, ps, hm, hkp, hb, hn, G0⟩ := h.ex
  have hK : X.K = T.K := c.hK
  refine ⟨fun pins s σ H Q I ⟨a, cx, fs, d, ρo, hσ, ⟨dx, he, hex⟩, hs, q⟩ => ?_⟩
  have G := G0 a cx dx
  rw [← hK] at hkp hb G
  have ha := (pa_cons (pe_n (pos := pe) l j hj) pa_nil).run pos pins s σ H (fun vs H1 => vs = [.ref a] ∧ H1 = H) I ⟨.ref a, hσ, rfl, rfl⟩
  have fin : ∀ us s1, AP X pins σ (fun vs H1 => vs = [.ref a] ∧ H1 = H) us s1 → X.K.In s1.heap ∧ wpAny (model X.prog X.w) X.A (call (.ref f) us) (EP X pins σ Q) X.xe s1 := by
    rintro us s1 ⟨vs, H1, I1, r, rfl, rfl⟩
    refine ⟨I1.kIn, ?_⟩
    have lus : us.length = ps.length := by rw [← r.length, hn]; rfl
    have bb := hb s1 us I1.kIn (by rw [List.append_nil]; exact lus)
    rw [List.append_nil] at bb
    obtain ⟨t1, J⟩ := inv_aside I1 he
    have P1 := J.pin (a, _) (List.mem_append_right _ (List.mem_append_right _ (List.mem_singleton.mpr rfl)))
    have pin : L2H.PinOk X.stack (del H1 a) s1 (a, _) := ⟨P1.1, P1.2.1, fun hm => (List.mem_cons.mp (J.stkSub a hm)).elim P1.2.2.1 P1.2.2.2.1, P1.2.2.2.2⟩
    have dn : ∀ {b : Addr} {o : HO}, H1 b = some o → exo a (T.ca cx) dx ≠ o → del H1 a b = some o := fun {b o} hb n => by
      rw [del_ne (at_ne he hb n)]; exact hb
    have E : EnvR (T.at a cx dx) (del H1 a) (fun _ => False) (fun _ => []) ([V.ref a].map some) ([R.ex cx fs].map some) := by
      refine ⟨rfl, fun i r hr => ?_, fun i b hb => absurd hb List.not_mem_nil, fun i k b hb => absurd hb List.not_mem_nil, fun i b hb => absurd hb List.not_mem_nil, fun b hb => hb.elim, ?_⟩
      · cases i with
        | succ i => simp at hr
        | zero =>
          simp at hr
          subst hr
          refine ⟨.ref a, rfl, rfl, a, dx, rfl, rfl, hex.1, ?_⟩
          have h3 := hex.2
          split at h3
          · exact h3
          · obtain ⟨x, e1, e2⟩ := h3
            exact ⟨x, e1, dn e2 exo_xd⟩
          · exact h3
      · intro p hp
        have hp' : p ∈ T.tb := hp
        rw [htb] at hp'
        cases hp'
    have sp : spOf (T.at a cx dx) 1 sem [.ref a] (del H1 a) (fun v H' => H' a = none → Q v (upd H' a (exo a (T.ca cx) dx))) fun _ _ _ => False := by
      refine ⟨[.ex cx fs], _, _, rfl, E, ?_⟩
      rw [hs]
      intro v H' F' O' x' E' r' na
      have r'' : DF T.K H' F' v d := r'
      have kk : ∀ b o, H' b = some o → upd H' a (exo a (T.ca cx) dx) b = some o := fun b o z => kept_new na b o z
      refine q v _ F' ⟨fun b o hb nt => ?_, fun b hb => ?_, fun b hb => ?_, fun b hb z => ?_, E'.tb.ext kk⟩ (r''.mono (kept_all kk) fun _ h => h)
      · by_cases e : b = a
        · subst e
          rw [upd_same, ← he]; exact hb
        · rw [upd_ne e]
          exact x'.keep b o (by rw [del_ne e]; exact hb) (fun _ z => absurd z List.not_mem_nil) nt
      · by_cases e : b = a
        · subst e; rw [upd_same] at hb; cases hb
        · rw [upd_ne e] at hb
          have := x'.live b hb
          rw [del_ne e] at this
          exact this
      · have ba : b ≠ a := fun e => E'.lv b hb (by rw [e]; exact na)
        rcases x'.new b hb with z | ⟨i, z⟩ | z
        · exact z.elim
        · exact absurd z List.not_mem_nil
        · rw [del_ne ba] at z; exact z
      · cases y : H' b with
        | none => exact E'.lv b hb y
        | some o => rw [kk b o y] at z; cases z
    refine wpAny_call (codeAny_mono (G.run X.A X.stack s1 (del H1 a) ⟨us, []⟩ us [.ref a] _ _ _ c.gd ⟨(c.room.mono (Nat.le_of_succ_le hk)).dp, (c.room.mono (Nat.le_of_succ_le hk)).un⟩ pin ⟨rfl, rfl⟩ ⟨_, rfl⟩ J.env0 bb r sp) ?_)
    intro r' s' hq
    cases r' with
    | error er =>
      obtain ⟨_, _, _, _, _, _, _, _, _, _, _, _, z⟩ := hq
      exact z.elim
    | ok fl =>
      cases fl with
      | ret u =>
        obtain ⟨v, H', J', rv, q'⟩ := J.after hq
        exact ⟨v, _, inv_back I1 he J', rv, q' (J'.pin (a, _) (List.mem_append_right _ (List.mem_append_right _ (List.mem_singleton.mpr rfl)))).2.1⟩
      | next => exact hq.elim
      | brk => exact hq.elim
      | cont => exact hq.elim
  exact wpAny_Call_Name_kw (ld_glob I (l.gl hx).1 hm (PySem.W.callWith_K (h₀ := X.base) I.ok.mod.kin hkp (thn ha fin) rfl rfl) (l.gl hx).2.1)
end
def tMk (C : Addr) : TE := fun _ H Q => ∀ a, H a = none → Q (.ref a) (upd H a (exo a C none))
theorem pe_mk0 {X : Cx} {C : Addr} {x : Str} {p pos : Pos} (q : PySem.W.excIn X.K C veM "ValueError.__new__" = true) (gC : X.mg x = some (.ref C)) (kC : PySem.W.keepIn X.K (.ref C) = true) (hg : L2.Gl X x) (hdb : (x == ("__debug__" : Str)) = false) :
    PE X (.Call (.Name x p) [] [] pos) (tMk C) := by
  refine ⟨fun pins s σ H Q I h => ?_⟩
  have go : wpAny (model X.prog X.w) X.A (call (.ref C) []) (EP X pins σ Q) X.xe s := by
    obtain ⟨bm, N, nm, qn, bs, hdct, sn, sub, ab, col, dd, k0, k1, k2, k3, k5, mN, hC, hN, hni, T⟩ := exc_obj I.kIn q
    refine wpAny_call_exc_subT PySem.F.excBase_ValueError T hC hN hni ?_ (by show 0 ≤ sizeLine; exact Nat.zero_le _)
    intro h' e hm
    obtain ⟨t, he, _, _⟩ := hm.there
    have na := I.hok.gone hm.new
    exact ⟨.ref e, _, I.laidN (t' := s.toks) (o := exo e C none) hm.keeps hm.new na (exo_ok he), rfl, h e na⟩
  exact wpAny_Call_Name_kw (ld_glob I hg gC (PySem.W.callWith_K0 I.kIn kC go) hdb)
/-- a list of expressions that make exceptions -/
def tlX (T : Tb) : Tell (List (Nat × List PyData)) (List V) := fun _ _ H F _ vs cs => ExsAt T H F vs cs
abbrev XM := Rho → Option (Oe (List (Nat × List PyData)))
def SX (X : Cx) (T : Tb) (W : WX) (es : List Expr) (f : XM) : Prop := PA X es (Tof T W (tlX T) f)
def nilX : XM := fun ρ => some (.ok [] ρ)
def consX (c : Nat) (f : XM) : XM := fun ρ => bindO (f ρ) fun cs ρ1 => some (.ok ((c, []) :: cs) ρ1)
@[simp] theorem nilX_e (ρ : Rho) : nilX ρ = some (.ok [] ρ) := eqI rfl
@[simp] theorem consX_e (c : Nat) (f : XM) (ρ : Rho) : consX c f ρ = bindO (f ρ) fun cs ρ1 => some (.ok ((c, []) :: cs) ρ1) := eqI rfl
def exsM (f : XM) : EM := fun ρ => bindO (f ρ) fun cs ρ1 => if cs.length ≤ 1000 then some (.ok (.obj (.exs cs)) ρ1) else none
@[simp] theorem exsM_e (f : XM) (ρ : Rho) : exsM f ρ = bindO (f ρ) fun cs ρ1 => if cs.length ≤ 1000 then some (.ok (.obj (.exs cs)) ρ1) else none := eqI rfl
theorem ExsAt.len {T : Tb} {H : Hp} {F : Reg} {vs : List V} {cs : List (Nat × List PyData)} (h : ExsAt T H F vs cs) : vs.length = cs.length := by
  induction h with
  | nil => rfl
  | cons _ _ ih => rw [List.length_cons, List.length_cons, ih]
theorem ExsAt.app {T : Tb} {H : Hp} {F : Reg} {vs ws : List V} {cs ds : List (Nat × List PyData)} (h : ExsAt T H F vs cs) (k : ExsAt T H F ws ds) : ExsAt T H F (vs ++ ws) (cs ++ ds) := by
  induction h with
  | nil => exact k
  | cons q _ ih => exact .cons q ih
section
variable {X : Cx} {T : Tb} {W : WX} {n k : Nat} {N : List Str} {sc : Scope} {pos p : Pos} {x : Str} {es : List Expr} {f : XM}
theorem sx_nil : SX X T W [] nilX := pa_imp pa_nil fun σ H Q ⟨ρ, F, O, E, P⟩ => P [] H F O .refl E .nil
theorem sx_cons (l : At X N sc) (c : Cxt X T W n) (h : ExE X.mg T x k) (hx : gnB sc x = true) (hr : SX X T W es f)
    (hs : starEach (.Call (.Name x p) [] [] pos :: es) X.env = (false, eval (.Call (.Name x p) [] [] pos) X.env) :: starEach es X.env := by rfl) : SX X T W (.Call (.Name x p) [] [] pos :: es) (consX k f) := by
  have hK := c.hK
  refine pa_imp (pa_cons (pe_mk0 (by rw [hK]; exact h.x) h.g (by rw [hK]; exact h.k) (l.gl hx).1 (l.gl hx).2.1) hr hs) fun σ H Q ⟨ρ, F, O, E, P⟩ => ?_
  intro a ha
  have E1 := E.laidF (o := exo a (T.ca k) none) ha
  have g1 : Gr H F (upd H a (exo a (T.ca k) none)) (fun b => F b ∨ b = a) := .laidF ha
  refine stp (B := H) (FB := F) (OB := O) g1.ext E1 P fun vs H1 cs ρ1 F1 O1 x1 y1 E2 r1 P1 => ?_
  refine P1 _ _ _ _ y1 E2 ?_
  have kk := E1.kept x1
  exact .cons ((show ExAt T (upd H a (exo a (T.ca k) none)) (fun b => F b ∨ b = a) (.ref a) k [] from ⟨a, none, rfl, .inr rfl, upd_same, rfl, rfl⟩).mono kk x1.grow) r1
theorem ExsAt.len' {vs : List V} {cs : List (Nat × List PyData)} {σ : L2.St} {H0 H : Hp} {F : Reg} {O : Ows} (h : tlX T σ H0 H F O vs cs) : vs.length = cs.length := ExsAt.len h
theorem se_exs (h : SX X T W es f) : SE X T W (.List es pos) (exsM f) := by
  refine pe_imp (pe_lst h) fun σ H Q ⟨ρ, F, O, E, P⟩ => ?_
  refine stp .refl E P fun vs H1 cs ρ1 F1 O1 x1 y1 E1 r1 P1 => ?_
  split at P1
  case isFalse => exact P1.elim
  rename_i hz
  refine ⟨by rw [ExsAt.len' r1]; exact Nat.le_trans hz (by rw [sizeLine_eq]; decide), fun q hq => ?_⟩
  have g1 : Gr H1 F1 (upd H1 q (.lst vs)) (fun b => F1 b ∨ b = q) := .laidF hq
  exact P1 (.ref q) _ _ O1 (y1.trans g1.ext) (E1.gr g1) ⟨[], (fun b hb => by cases hb), q, vs, rfl, .inr rfl, upd_same, rfl, ExsAt.mono (kept_all (kept_new hq)) (fun _ z => .inl z) r1⟩
theorem live_upd' {H : Hp} {D b : Addr} {o : HO} (hD : H D = none) (h : upd H D o b = none) : H b = none := by
  by_cases z : b = D
  · subst z; exact hD
  · rw [upd_ne z] at h; exact h
def exsOf (ρ : Rho) : R → Option (List (Nat × List PyData))
  | .obj (.exs cs) => some cs
  | .slt i => match ρ[i]? with
    | some (some (.obj (.exs cs))) => some cs
    | _ => none
  | _ => none
@[simp] theorem exsOf_o (ρ : Rho) (cs : List (Nat × List PyData)) : exsOf ρ (.obj (.exs cs)) = some cs := eqI rfl
theorem exsOf_s {ρ : Rho} {i : Nat} {cs : List (Nat × List PyData)} (h : ρ[i]? = some (some (.obj (.exs cs)))) : exsOf ρ (.slt i) = some cs := by
  unfold exsOf
  dsimp only
  rw [h]
theorem exsOf_at {ρ : Rho} {H0 H : Hp} {F : Reg} {O : Ows} {σ : L2.St} {v : V} {r : R} {cs : List (Nat × List PyData)} (E : EnvR T H F O σ ρ) (h : exsOf ρ r = some cs) (rr : ResR T H0 H F O σ v r) : ∃ p vs, v = .ref p ∧ F p ∧ H p = some (.lst vs) ∧ ExsAt T H F vs cs := by
  cases r with
  | slt i =>
    unfold exsOf at h
    dsimp only at h
    split at h
    · rename_i ds e
      cases h
      obtain ⟨u, hu, q⟩ := E.at_ i _ e
      have rr' : σ[i]? = some (some v) := rr
      rw [hu] at rr'
      cases rr'
      obtain ⟨p, vs, h1, h2, h3, _, h5⟩ := q
      exact ⟨p, vs, h1, h2, h3, h5⟩
    · cases h
  | obj o =>
    cases o with
    | exs ds =>
      cases h
      obtain ⟨L, _, p, vs, h1, h2, h3, _, h5⟩ := rr
      exact ⟨p, vs, h1, h2, h3, h5⟩
    | _ => cases h
  | _ => cases h
def catXM (fa fb : EM) : EM := fun ρ => bindO (fa ρ) fun r ρ1 => bindO (fb ρ1) fun s ρ2 => match exsOf ρ2 r, exsOf ρ2 s with
  | some cs, some ds => if cs.length + ds.length ≤ lim then some (.ok (.obj (.exs (cs ++ ds))) ρ2) else none
  | _, _ => none
@[simp] theorem catXM_e (fa fb : EM) (ρ : Rho) : catXM fa fb ρ = bindO (fa ρ) fun r ρ1 => bindO (fb ρ1) fun s ρ2 => match exsOf ρ2 r, exsOf ρ2 s with
  | some cs, some ds => if cs.length + ds.length ≤ lim then some (.ok (.obj (.exs (cs ++ ds))) ρ2) else none
  | _, _ => none := eqI rfl
variable {a b : Expr} {fa fb : EM}
theorem catX_of {σ : L2.St} {H : Hp} {Q : VK} (h : Tof T W (tlE T) (catXM fa fb) σ H Q) : tOp rCat (Tof T W (tlE T) fa) (Tof T W (tlE T) fb) σ H Q := by
  obtain ⟨ρ, F, O, E, P⟩ := h
  refine stp .refl E P fun v H1 ra ρ1 F1 O1 x1 _ E1 r1 P1 => ?_
  refine stp x1 E1 P1 fun u H2 rb ρ2 F2 O2 x2 y2 E2 r2 P2 => ?_
  have r1' : ResR T H H2 F2 O2 σ v ra := ResR.mono E1 x2 r1
  cases q1 : exsOf ρ2 ra with
  | none => rw [q1] at P2; exact P2.elim
  | some cs =>
    cases q2 : exsOf ρ2 rb with
    | none => rw [q1, q2] at P2; exact P2.elim
    | some ds =>
      rw [q1, q2] at P2
      dsimp only at P2
      split at P2
      · rename_i hz
        obtain ⟨l, xs, rfl, fl, hl, ex⟩ := exsOf_at E2 q1 r1'
        obtain ⟨m, ys, rfl, fm, hm, ey⟩ := exsOf_at E2 q2 r2
        refine ⟨l, m, xs, ys, rfl, rfl, hl, hm, by rw [ex.len, ey.len]; exact Nat.le_trans hz (by decide), fun q hq => ?_⟩
        have g1 : Gr H2 F2 (upd H2 q (.lst (xs ++ ys))) (fun b => F2 b ∨ b = q) := .laidF hq
        exact P2 (.ref q) _ _ O2 (y2.trans g1.ext) (E2.gr g1) ⟨[], (fun b hb => by cases hb), q, _, rfl, .inr rfl, upd_same, rfl, ExsAt.mono (kept_all (kept_new hq)) (fun _ z => .inl z) (ex.app ey)⟩
      · exact P2.elim
theorem e_catX (ha : SE X T W a fa) (hb : SE X T W b fb) : SE X T W (.BinOp a .Add b pos) (catXM fa fb) := pe_imp (pe_op op_cat ha hb) fun _ _ _ h => catX_of h
def ansL (ans : Nat → List PyData → Option PyData) : List (Nat × List PyData) → Option (List PyData)
  | [] => some []
  | (c, fs) :: r => match ans c fs with
    | some d => (ansL ans r).map (d :: ·)
    | none => none
theorem ansL_len {ans : Nat → List PyData → Option PyData} : ∀ {cs : List (Nat × List PyData)} {ds : List PyData}, ansL ans cs = some ds → ds.length = cs.length
  | [], ds, h => by cases h; rfl
  | (c, fs) :: r, ds, h => by
    rw [ansL] at h
    cases q : ans c fs with
    | none => rw [q] at h; cases h
    | some d =>
      rw [q] at h
      obtain ⟨es, h1, rfl⟩ := Option.map_eq_some_iff.mp h
      rw [List.length_cons, List.length_cons, ansL_len h1]
theorem ansL_at {ans : Nat → List PyData → Option PyData} {H : Hp} {F : Reg} : ∀ {cs : List (Nat × List PyData)} {vs : List V} {ds : List PyData}, ansL ans cs = some ds → ExsAt T H F vs cs → ∀ (i : Nat) (h : i < vs.length), ∃ c fs d, ExAt T H F vs[i] c fs ∧ ans c fs = some d ∧ ds.take (i + 1) = ds.take i ++ [d]
  | [], [], ds, h, .nil, i, hi => absurd hi (Nat.not_lt_zero i)
  | (c, fs) :: r, v :: vs, ds, h, .cons q e, i, hi => by
    rw [ansL] at h
    cases q1 : ans c fs with
    | none => rw [q1] at h; cases h
    | some d =>
      rw [q1] at h
      obtain ⟨es, h1, rfl⟩ := Option.map_eq_some_iff.mp h
      cases i with
      | zero => exact ⟨c, fs, d, q, q1, rfl⟩
      | succ i =>
        obtain ⟨c', fs', d', a1, a2, a3⟩ := ansL_at h1 e i (by simpa using hi)
        exact ⟨c', fs', d', a1, a2, by rw [List.take_succ_cons, a3]; rfl⟩
/-- [ask(e) for e in a] -/
def askM (ans : Nat → List PyData → Option PyData) (fa : EM) : EM := fun ρ => bindO (fa ρ) fun r ρ1 => match exsOf ρ1 r with
  | some cs => match ansL ans cs with
    | some ds => if cs.length ≤ 1000 then some (.ok (.own (.list ds)) ρ1) else none
    | none => none
  | none => none
@[simp] theorem askM_e (ans : Nat → List PyData → Option PyData) (fa : EM) (ρ : Rho) : askM ans fa ρ = bindO (fa ρ) fun r ρ1 => match exsOf ρ1 r with
  | some cs => match ansL ans cs with
    | some ds => if cs.length ≤ 1000 then some (.ok (.own (.list ds)) ρ1) else none
    | none => none
  | none => none := eqI rfl
/-- what asks the one at slot j -/
def Asks (T : Tb) (j : Nat) (ans : Nat → List PyData → Option PyData) (te : TE) : Prop := ∀ σ H Q a c fs d, σ[j]? = some (some (.ref a)) → ExAt0 T H a c fs → ans c fs = some d → (∀ v H' F', New T H H' F' → DF T.K H' F' v d → Q v H') → te σ H Q
theorem EnvR.newly {H1 H' : Hp} {F1 F' : Reg} {O1 : Ows} {σ : L2.St} {ρ : Rho} (E : EnvR T H1 F1 O1 σ ρ) (nw : New T H1 H' F') : Ext false H1 F1 O1 H' (fun b => F1 b ∨ F' b) O1 ∧ EnvR T H' (fun b => F1 b ∨ F' b) O1 σ ρ := by
  have x : Ext false H1 F1 O1 H' (fun b => F1 b ∨ F' b) O1 := ⟨fun b o h _ nt => nw.keep b o h nt, nw.live, fun _ h => .inl h, fun b h => h.elim .inl fun z => .inr (.inr (nw.new b z)), fun _ _ h => .inl h⟩
  refine ⟨x, E.len, fun i r e => ?_, E.own, E.inj, fun i a ha h => h.elim (E.nf i a ha) fun z => E.ne_new (nw.new a z) i ha, fun b h q => h.elim (fun z => E.lv b z (nw.live b q)) fun z => nw.lv b z q, nw.tb⟩
  obtain ⟨v, h1, h2⟩ := E.at_ i r e
  exact ⟨v, h1, h2.mono (E.kept x) (fun _ h => .inl h) fun a u ha hu => nw.keep a u hu (h2.nc ha hu).1⟩
theorem ask_of {j : Nat} {ans : Nat → List PyData → Option PyData} {te : TE} {K : PySem.W.Frag} {σ : L2.St} {H : Hp} {Q : VK} (hK : K = T.K) (htb : T.tb = []) (hj : j < σ.length) (hel : Asks T j ans te) (h : Tof T W (tlE T) (askM ans fa) σ H Q) : tLc (iSeq K (Tof T W (tlE T) fa)) (gName j) (fun σ H Q => Q true H) te [j] σ H Q := by
  subst hK
  obtain ⟨ρ, F, O, E, P⟩ := h
  refine stp .refl E P fun v H1 r ρ1 F1 O1 x1 y1 E1 r1 P1 => ?_
  cases q1 : exsOf ρ1 r with
  | none => rw [q1] at P1; exact P1.elim
  | some cs =>
    cases q2 : ansL ans cs with
    | none => rw [q1] at P1; dsimp only at P1; rw [q2] at P1; exact P1.elim
    | some ds =>
      rw [q1] at P1
      dsimp only at P1
      rw [q2] at P1
      dsimp only at P1
      split at P1
      · rename_i hz
        obtain ⟨p, vs, rfl, fp, hp, ex⟩ := exsOf_at E1 q1 r1
        have lv := ex.len
        refine ⟨p, rfl, .inl ⟨vs, .inl (.inl hp), fun D hD => ?_⟩⟩
        have nDp : ∀ b o, H1 b = some o → b ≠ D := fun b o h z => by rw [z, hD] at h; cases h
        refine ⟨fun i m H' => ∃ F' acc, m = vs.length - i ∧ i ≤ vs.length ∧ New T H1 H' F' ∧ H' D = some (.lst acc) ∧ DFs T.K H' F' acc (ds.take i) ∧ ¬ F' D,
          ⟨vs.length, fun _ => False, [], by simp, Nat.zero_le _, ⟨fun b o h _ => by rw [upd_ne (nDp b o h)]; exact h, fun b h => live_upd' hD h, fun _ h => h.elim, fun _ h => h.elim, by rw [htb]; intro p hp; cases hp⟩, upd_same, .nil, fun z => z⟩, ?_⟩
        rintro i m H' ⟨F', acc, rfl, hi, nw, hDl, sa, nD⟩
        have hp' : H' p = some (.lst vs) := nw.keep p _ hp trivial
        by_cases hlt : i < vs.length
        · have hv : vs[i]? = some vs[i] := by simp [hlt]
          obtain ⟨c, fs, d, ea, an, tk⟩ := ansL_at q2 ex i hlt
          refine .inr ⟨⟨vs, vs[i], .inl (.inl hp'), hv⟩, fun H2 => ∃ F2 acc, i + 1 ≤ vs.length ∧ New T H1 H2 F2 ∧ H2 D = some (.lst acc) ∧ DFs T.K H2 F2 acc (ds.take (i + 1)) ∧ ¬ F2 D, fun H2 ⟨F2, acc, a1, a2⟩ => ⟨vs.length - (i + 1), by omega, F2, acc, rfl, a1, a2⟩, fun x H'' y => ?_⟩
          obtain ⟨rfl, y⟩ := y
          have e := y vs (.inl (.inl hp'))
          rw [hv] at e
          cases e
          obtain ⟨A, dx, eA, fA, hA, xA⟩ := ea
          show wipe ((wipe σ [j]).set j (some vs[i])) [j] = wipe σ [j] ∧ _
          refine ⟨by show ((σ.set j none).set j (some vs[i])).set j none = σ.set j none; rw [List.set_set, List.set_set], ?_⟩
          show (if true = true then _ else _)
          rw [if_pos rfl]
          have ex0 : ExAt0 T H'' A c fs := ⟨dx, nw.keep A _ hA trivial, xA.1, by
            have h5 := xA.2
            split at h5
            · exact h5
            · obtain ⟨z, e1, e2⟩ := h5
              exact ⟨z, e1, nw.keep z _ e2 trivial⟩
            · exact h5⟩
          refine hel _ _ _ A c fs d (by rw [← eA]; show ((σ.set j none).set j (some vs[i]))[j]? = _; rw [List.getElem?_set_self (by simpa using hj)]) ex0 an fun v H4 F4 nw4 dv => ?_
          have hD4 : H4 D = some (.lst acc) := nw4.keep D _ hDl trivial
          have la : acc.length = i := by rw [sa.length, List.length_take, ansL_len q2]; omega
          refine ⟨acc, hD4, by rw [la]; exact Nat.lt_of_lt_of_le (show i < 1001 by omega) (by decide), fun b => F' b ∨ F4 b, acc ++ [v], hlt, ⟨fun b o h nt => ?_, fun b h => ?_, fun b h => ?_, fun b h => ?_, by rw [htb]; intro p hp; cases hp⟩, upd_same, ?_, fun z => ?_⟩
          · rw [upd_ne (nDp b o h)]
            exact nw4.keep b o (nw.keep b o h nt) nt
          · by_cases z : b = D
            · subst z; exact hD
            · rw [upd_ne z] at h
              exact nw.live b (nw4.live b h)
          · exact h.elim (nw.new b) fun z => nw.live b (nw4.new b z)
          · by_cases z : b = D
            · subst z; rw [upd_same]; simp
            · rw [upd_ne z]
              exact h.elim (fun y q => nw.lv b y (nw4.live b q)) (nw4.lv b)
          · rw [tk]
            have k1 : Kept F' H'' (upd H4 D (.lst (acc ++ [v]))) := fun b o h q => by
              have z : b ≠ D := fun z => by
                subst z
                rw [hDl] at h
                cases h
                exact q.elim (fun y => nD y.1) fun y => y
              rw [upd_ne z]
              refine nw4.keep b o h ?_
              cases o <;> first | trivial | (exact q.elim (fun y => y.2) fun y => y.elim)
            have k2 : Kept F4 H4 (upd H4 D (.lst (acc ++ [v]))) := fun b o h q => by
              have z : b ≠ D := fun z => by
                subst z
                rw [hD4] at h
                cases h
                exact q.elim (fun y => by have := nw4.new _ y.1; rw [hDl] at this; cases this) fun y => y
              rw [upd_ne z]; exact h
            exact (sa.mono k1 fun _ h => .inl h).append (.cons (dv.mono k2 fun _ h => .inr h) .nil)
          · exact z.elim nD fun y => by have := nw4.new D y; rw [hDl] at this; cases this
        · have e : i = vs.length := by omega
          subst e
          refine .inl ⟨⟨vs, .inl (.inl hp'), Nat.le_refl _⟩, ?_⟩
          obtain ⟨xn, En⟩ := E1.newly nw
          rw [List.take_of_length_le (by rw [ansL_len q2, lv]; exact Nat.le_refl _)] at sa
          exact P1 (.ref D) H' _ O1 (y1.trans xn) En ⟨D, rfl, y1.live D hD, fun z => z.elim (fun y => E1.lv D y hD) nD, E1.ne_new hD, acc, hDl, sa.mono .refl fun _ h => .inr h⟩
      · exact P1.elim
end
def ansR (sem : Sem) (c : Nat) (fs : List PyData) : Option PyData := match sem [.ex c fs] with
  | some (.ok (.dat d) _) => some d
  | _ => none
def ansI (tb : Nat → Option Bool) (c : Nat) (_ : List PyData) : Option PyData := (tb c).map PyData.bool
def rIsTk (K : PySem.W.Frag) : List V → Hp → VK → Prop := fun xs H Q => ∃ (A D : Addr) (d : Option Addr) (c : V) (cv : Value) (b : Bool), xs = [.ref A, c] ∧ H A = some (exo A D d) ∧ ExcC K D ∧ (∀ u, RelV c u → u = cv) ∧ PySem.W.kitOne K (.ref D) cv = some b ∧ xdAt H d ∧ Q (.bl b) H
section
variable {X : Cx} {T : Tb} {W : WX} {k n m j : Nat} {N : List Str} {sc : Scope} {pos pos2 p py pe p2 : Pos} {f y : Str} {sem : Sem} {it : Expr} {fa : EM} {scope : Scope} {ans : Nat → List PyData → Option PyData}
theorem call_isTk : CallR X (.builtin "isinstance") (rIsTk X.K) := by
  intro pins s σ H xs us Q I r h
  obtain ⟨A, D, d, c, cv, b, rfl, hA, C, hcv, e, hd, q⟩ := h
  cases r with
  | cons rx rr =>
    cases rr with
    | cons rt rr =>
      cases rr
      cases rx
      have ec := hcv _ rt
      subst ec
      obtain ⟨t1, he⟩ := exo_at I.hok hA
      obtain ⟨od, J⟩ := inst_at I.hok he ⟨rfl, rfl⟩ ⟨_, rfl⟩ hd
      have hcl : (PySem.W.clsIn X.K D).isSome = true := by
        obtain ⟨cd, hc, _⟩ := PySem.W.any_some C.hd
        rw [hc]; rfl
      exact PySem.W.kia_one (PySem.W.kitx_exc hcl C.hg C.hk C.hs C.ha C.hn C.ht C.hm) I.kIn J e (fun z => nomatch z) fun tk => ⟨.bl b, H, I.kept (t' := tk) fun _ _ z => z, rfl, q⟩
def tIsTk (K : PySem.W.Frag) (j : Nat) (v : V) : TE := fun σ H Q => ∃ A, σ[j]? = some (some (.ref A)) ∧ rIsTk K [.ref A, v] H Q
theorem pe_isTk {cx : Str} {v : V} {cv : Value} (l : At X N sc) (h1 : gnB sc "isinstance" = true) (hm : X.mg "isinstance" = none) (h2 : gnB sc cx = true) (hc : ClsN X cx v cv) (hj : nmB N sc j y = true)
    (hs : starEach [.Name y pe, .Name cx p2] X.env = (false, eval (.Name y pe) X.env) :: starEach [.Name cx p2] X.env := by rfl) (hpl : (backTo pos (starEach [.Name cx p2] X.env)).any (·.1) = false := by rfl) :
    PE X (.Call (.Name "isinstance" p) [.Name y pe, .Name cx p2] [] pos) (tIsTk X.K j v) :=
  pe_imp (pe_callB (pos := pos) (p := p) call_isTk (l.gl h1).1 hm (by decide +kernel) (pa_cons (pe_n (pos := pe) l j hj) (pa_cons (pe_cls (pos := p2) l h2 hc) pa_nil) hs) (l.gl h1).2.2 (l.gl h1).2.1 hs hpl) fun σ H Q ⟨A, h1, h2⟩ => ⟨.ref A, h1, h2⟩
theorem asks_R (j : Nat) (sem : Sem) : Asks T j (ansR sem) (tRefX T sem j) := by
  intro σ H Q a c fs d h1 h2 h3 h4
  unfold ansR at h3
  split at h3
  · rename_i d' ρo hs
    cases h3
    exact ⟨a, c, fs, d, ρo, h1, h2, hs, h4⟩
  · cases h3
theorem asks_I {tb : Nat → Option Bool} {v : V} {cv : Value} {K : PySem.W.Frag} (hK : K = T.K) (htb : T.tb = []) (hc : ∀ u, RelV v u → u = cv) (ht : IsTb T cv tb) : Asks T j (ansI tb) (tIsTk K j v) := by
  subst hK
  intro σ H Q a c fs d h1 ⟨dx, h2, h3⟩ h4 h5
  obtain ⟨b, hb, rfl⟩ := Option.map_eq_some_iff.mp h4
  obtain ⟨t1, t2⟩ := ht c b hb
  exact ⟨a, h1, a, _, dx, v, cv, b, rfl, h2, excC_of t1, hc, t2, excR_xd h3, h5 (.bl b) H (fun _ => False) ⟨fun _ _ h _ => h, fun _ h => h, fun _ h => h.elim, fun _ h => h.elim, by rw [htb]; intro p hp; cases hp⟩ (.bl b)⟩
theorem pg_at (a : At X N sc) (nd : X.N.Nodup) (fn : X.fn y = true ∨ sc.names.lookup y = some .local) (h : tgB N sc j y = true) : PG X (.Name y pos) (gName j) := by
  unfold tgB at h
  simp only [Bool.and_eq_true, decide_eq_true_eq] at h
  exact pg_name nd (by rw [a.hN]; exact h.1) (by rw [a.hs]; exact locB_ok h.2) (by rw [a.hs]; exact fn)
theorem se_ask {elt : Expr} {te : TE} (htb : T.tb = []) (l : At X N sc) (c : Cxt X T W n) (hi : SE X T W it fa) (ok : blkC N sc scope [(y, j)] = true) (hg : tgB N (relS scope sc) j y = true) (hl : lclB (relS scope sc) y = true) (hel : Asks T j ans te)
    (he : ∀ (s : Shared) (H : Hp) (C : Addr) (cl : List (Str × Addr)) (fp : List Addr), PE (X.blk s H scope (compEnvC scope cl C X.env) fp) elt te) (hs : ∀ x, foldedSetIterable it X.env x = pure x := by intro _; rfl) :
    SE X T W (.ListComp elt [⟨.Name y py, it, [], 0⟩] scope pos) (askM ans fa) := by
  have hN : X.N[j]? = some y := by
    unfold tgB at hg
    simp only [Bool.and_eq_true, decide_eq_true_eq] at hg
    rw [l.hN]; exact hg.1
  refine pe_impL (pe_lc (own := [(y, j)]) c.calm c.nd (pi_seq hi) (l.blkOk ok) (fun s H C cl fp => pg_at (l.blk s H scope cl C fp) c.nd (.inr (lclB_ok hl)) hg) (fun s H C cl fp => pts_nil) he hs) fun σ H Q hl' h => ?_
  exact ask_of c.hK htb (by rw [hl']; exact lt_of_at hN) hel h
theorem se_askR (htb : T.tb = []) (l : At X N sc) (c : Cxt X T W n) (hx : gnB (relS scope sc) f = true) (h : FnX X.prog X.w X.mg X.base T f k 1 sem) (hk : k + 1 ≤ n) (hj : nmB N (relS scope sc) j y = true) (hi : SE X T W it fa) (ok : blkC N sc scope [(y, j)] = true) (hg : tgB N (relS scope sc) j y = true) (hl : lclB (relS scope sc) y = true) (hs : ∀ x, foldedSetIterable it X.env x = pure x := by intro _; rfl) :
    SE X T W (.ListComp (.Call (.Name f p) [.Name y pe] [] pos2) [⟨.Name y py, it, [], 0⟩] scope pos) (askM (ansR sem) fa) :=
  se_ask htb l c hi ok hg hl (asks_R j sem) (fun s H C cl fp => pe_refX htb (l.blk s H scope cl C fp) hx (c.blk s H scope _ fp) h hk hj) hs
theorem se_askI {cx : Str} {v : V} {cv : Value} {tb : Nat → Option Bool} (htb : T.tb = []) (l : At X N sc) (c : Cxt X T W n) (h1 : gnB (relS scope sc) "isinstance" = true) (hm : X.mg "isinstance" = none) (h2 : gnB (relS scope sc) cx = true) (hc : ClsN X cx v cv) (ht : IsTb T cv tb) (hj : nmB N (relS scope sc) j y = true) (hi : SE X T W it fa) (ok : blkC N sc scope [(y, j)] = true) (hg : tgB N (relS scope sc) j y = true) (hl : lclB (relS scope sc) y = true) (hs : ∀ x, foldedSetIterable it X.env x = pure x := by intro _; rfl) :
    SE X T W (.ListComp (.Call (.Name "isinstance" p) [.Name y pe, .Name cx p2] [] pos2) [⟨.Name y py, it, [], 0⟩] scope pos) (askM (ansI tb) fa) :=
  se_ask htb l c hi ok hg hl (asks_I c.hK htb hc.2.2 ht) (fun s H C cl fp => pe_isTk (l.blk s H scope cl C fp) h1 hm h2 hc hj) hs
end
/-- the binding of keywords -/
def IniK (st : Stmt) : Prop := ∀ (qual : Str) (kV doc p : Value) (an : Option Addr) (cdv ct self x y : Value), bindArgs (PySem.W.fnOf "__init__" qual (defArgs st) (defBody st) (defScope st) .none kV doc p an cdv ct) ⟨[self], [("most", x), ("many", y)]⟩ = pure ((["self", "many", "most"] : List Str).zip [self, y, x])
def tMkL (C : Addr) (ta : TA) : TE := fun σ H Q => ta σ H fun vs H1 => ∃ x y : V, vs = [x, y] ∧ ∀ a dx, H1 a = none → H1 dx = none → dx ≠ a → Q (.ref a) (upd (upd H1 a (exo a C (some dx))) dx (.xd [("most", y), ("many", x)]))
def tMkK (C : Addr) (ta : TA) : TE := fun σ H Q => ta σ H fun vs H1 => ∃ x y : V, vs = [y, x] ∧ ∀ a dx, H1 a = none → H1 dx = none → dx ≠ a → Q (.ref a) (upd (upd H1 a (exo a C (some dx))) dx (.xd [("most", y), ("many", x)]))
theorem upd_del2 {H : Hp} {a dx : Addr} {o1 o2 o3 o4 o5 o6 : HO} (hne : dx ≠ a) : upd (upd (del (upd (upd (upd (upd H a o1) dx o2) a o3) dx o4) a) dx o5) a o6 = upd (upd H a o6) dx o5 := by
  funext b
  by_cases h : b = a
  · subst h; rw [upd_same, upd_ne (Ne.symm hne), upd_same]
  · rw [upd_ne h]
    by_cases h2 : b = dx
    · subst h2; rw [upd_same, upd_same]
    · rw [upd_ne h2, upd_ne h2, upd_ne h, del_ne h, upd_ne h2, upd_ne h, upd_ne h2, upd_ne h]
section
variable {X : Cx} {C fI : Addr} {fd : FuncData} {x : Str} {e : Expr} {es : List Expr} {kws : List Keyword} {ta : TA} {p pos : Pos}
theorem pe_mk2 (T : OexC X.K C) (iC : PySem.W.findIn X.K (.ref C) "__init__" = some (some (.ref fI))) (tI : PySem.W.typeIn X.K (.ref fI) = some (.type "function")) (F1 : FnOk X.prog X.w X.K X.mg X.base CX0 1 fI fd ["self", "many", "most"] (spI X.K C)) (hr : Room 2 X.A) (hb : Binds X.K fd ["self", "many", "most"] []) (hg : L2.Gl X x) (hm : X.mg x = some (.ref C)) (ha : PA X (e :: es) ta) (hdb : (x == ("__debug__" : Str)) = false) (he : starEach (e :: es) X.env = (false, eval e X.env) :: starEach es X.env) (hpl : (backTo pos (starEach es X.env)).any (·.1) = false) :
    PE X (.Call (.Name x p) (e :: es) [] pos) (tMkL C ta) := by
  refine ⟨fun pins s σ H Q I h => ?_⟩
  obtain ⟨nm, q, N, bs, bm, sn, sub, ab, col, dd, k0, k1, k2, k3, k5, hC, hbm⟩ := T.cls
  refine wpAny_Call_Name_kw (ld_glob I hg hm ?_ hdb)
  refine PySem.W.callWith_K (h₀ := X.base) I.ok.mod.kin T.kC (thn (ha.run pos pins s σ H _ I h) fun us s1 ⟨vs, H1, I1, r1, vx, vy, ev, q1⟩ => ⟨I1.kIn, ?_⟩) he hpl
  subst ev
  obtain ⟨u1, us2, rfl, rx, r2⟩ : ∃ u1 us2, us = u1 :: us2 ∧ RelV vx u1 ∧ Vals [vy] us2 := by cases r1 with | cons a b => exact ⟨_, _, rfl, a, b⟩
  obtain ⟨u2, rfl, ry⟩ : ∃ u2, us2 = [u2] ∧ RelV vy u2 := by
    cases r2 with
    | cons a b => cases b; exact ⟨_, rfl, a⟩
  show wpAny _ _ (call (.ref C) [u1, u2]) _ _ _
  obtain ⟨hp, g, dr, tk, os⟩ := s1
  have hsz : hp.objs.size ≤ hp.objs.size + 1 := Nat.le_succ _
  have hn : H1 (hp.objs.size + 1) = none := I1.hok.fresh hsz
  have kk : ∀ b o, hp.get? b = some o → ((hp.push (PySem.W.kdv_tup [u1, u2])).push (PySem.HandSPX.excO C hp.objs.size)).get? b = some o := fun b o e => Heap.get?_push_of_some _ (Heap.get?_push_of_some _ e)
  have hget : ((hp.push (PySem.W.kdv_tup [u1, u2])).push (PySem.HandSPX.excO C hp.objs.size)).get? (hp.objs.size + 1) = some (PySem.HandSPX.excO C hp.objs.size) := by heap_get
  have I2 : L2.Inv X pins σ (upd H1 (hp.objs.size + 1) (exo (hp.objs.size + 1) C none)) ⟨(hp.push (PySem.W.kdv_tup [u1, u2])).push (PySem.HandSPX.excO C hp.objs.size), g, dr, tk, os⟩ :=
    I1.laid (t' := tk) (a := hp.objs.size + 1) (o := exo (hp.objs.size + 1) C none) (h' := (hp.push (PySem.W.kdv_tup [u1, u2])).push (PySem.HandSPX.excO C hp.objs.size)) kk hsz (exo_ok hget)
  have r2 : Vals [V.ref (hp.objs.size + 1), vx, vy] [Value.ref (hp.objs.size + 1), u1, u2] := .cons rfl (.cons rx (.cons ry .nil))
  have bb := hb _ [Value.ref (hp.objs.size + 1), u1, u2] I2.kIn rfl
  rw [List.append_nil] at bb
  have sp : spI X.K C [V.ref (hp.objs.size + 1), vx, vy] (upd H1 (hp.objs.size + 1) (exo (hp.objs.size + 1) C none)) (fun v H2 => v = .non ∧ ∃ dx, H1 dx = none ∧ dx ≠ hp.objs.size + 1 ∧ H2 = upd (upd (upd (upd H1 (hp.objs.size + 1) (exo (hp.objs.size + 1) C none)) dx (exd dx [("many", vx)])) (hp.objs.size + 1) (exo (hp.objs.size + 1) C (some dx))) dx (exd dx [("most", vy), ("many", vx)])) (fun _ _ _ => False) :=
    ⟨_, vx, vy, rfl, upd_same, fun dx hd hne => ⟨rfl, dx, by rw [upd_ne hne] at hd; exact hd, hne, rfl⟩⟩
  refine wpAny_call (PySem.HandSPX.call_own F.excBase_ValueError (fun Y => PySem.HandSPX.refsVE_contains Y bm hbm) (I1.kIn _ _ hC) (PySem.W.looks_findIn I1.kIn iC) (fun self => PySem.W.bind_fn I1.kIn self tI) (by show 2 ≤ sizeLine; rw [sizeLine_eq]; omega)
    (codeAny_mono (F1.run _ X.stack _ _ ⟨[Value.ref (hp.objs.size + 1), u1, u2], []⟩ [Value.ref (hp.objs.size + 1), u1, u2] _ _ (fun _ _ _ => False) (hr.make C [u1, u2] []) (I2.env0.make C [u1, u2] []) bb r2 sp) fun r s' hq' => ?_))
  cases r with
  | error er => exact False.elim hq'
  | ok fl =>
    cases fl with
    | ret u =>
      obtain ⟨v, H2, os2, bare2, un2, hok2, rv, ev, dx, hd1, hne, rfl⟩ := hq'
      subst ev
      obtain ⟨h2, g2, d2, t2, os'⟩ := s'
      have ea : (upd (upd (upd (upd H1 (hp.objs.size + 1) (exo (hp.objs.size + 1) C none)) dx (exd dx [("many", vx)])) (hp.objs.size + 1) (exo (hp.objs.size + 1) C (some dx))) dx (exd dx [("most", vy), ("many", vx)])) (hp.objs.size + 1) = some (exo (hp.objs.size + 1) C (some dx)) := by rw [upd_ne (Ne.symm hne)]; exact upd_same
      obtain ⟨t0, G, J, kG, ge, hoe, na⟩ := mk_end0 (d2 := d2) (t2 := t2) I1 hsz kk un2 hok2 os2 bare2 ea upd_same hd1
      have J2 := J.laidN (t' := t2) (o := exo (hp.objs.size + 1) C (some dx)) kG ge na (exo_ok hoe)
      rw [upd_del2 hne] at J2
      exact ⟨rv, .ref (hp.objs.size + 1), _, J2, rfl, q1 _ dx hn hd1 hne⟩
    | next => exact False.elim hq'
    | brk => exact False.elim hq'
    | cont => exact False.elim hq'
theorem pe_mk2k (T : OexC X.K C) (iC : PySem.W.findIn X.K (.ref C) "__init__" = some (some (.ref fI))) (tI : PySem.W.typeIn X.K (.ref fI) = some (.type "function")) (F1 : FnOk X.prog X.w X.K X.mg X.base CX0 1 fI fd ["self", "many", "most"] (spI X.K C)) (hr : Room 2 X.A) (hb : ∀ (s : Shared) (self u v : Value), BindsTo s fd ⟨[self], [("most", u), ("many", v)]⟩ ((["self", "many", "most"] : List Str).zip [self, v, u])) (hg : L2.Gl X x) (hm : X.mg x = some (.ref C)) (ha : PK X kws ta) (hdb : (x == ("__debug__" : Str)) = false) (hall : ((backToKw pos (keywordEach kws X.env)).all fun x => x.fst.isSome) = true) (hks : List.filterMap (fun x => x.fst) (backToKw pos (keywordEach kws X.env)) = (["most", "many"] : List Str)) (hpl : (((backTo pos (starEach [] X.env)).any fun x => x.fst) || (backToKw pos (keywordEach kws X.env)).any fun x => x.fst.isNone) = false) :
    PE X (.Call (.Name x p) [] kws pos) (tMkK C ta) := by
  refine ⟨fun pins s σ H Q I h => ?_⟩
  obtain ⟨nm, q, N, bs, bm, sn, sub, ab, col, dd, k0, k1, k2, k3, k5, hC, hbm⟩ := T.cls
  refine wpAny_Call_Name_kw (ld_glob I hg hm ?_ hdb)
  refine PySem.W.callWith_KW0 (h₀ := X.base) I.ok.mod.kin T.kC hall (thn (ha.run pos pins s σ H _ I h) fun us s1 ⟨vs, H1, I1, r1, vx, vy, ev, q1⟩ => ⟨I1.kIn, ?_⟩) hpl
  rw [hks]
  subst ev
  obtain ⟨u2, us2, rfl, ry, r2⟩ : ∃ u2 us2, us = u2 :: us2 ∧ RelV vy u2 ∧ Vals [vx] us2 := by cases r1 with | cons a b => exact ⟨_, _, rfl, a, b⟩
  obtain ⟨u1, rfl, rx⟩ : ∃ u1, us2 = [u1] ∧ RelV vx u1 := by
    cases r2 with
    | cons a b => cases b; exact ⟨_, rfl, a⟩
  show wpAny _ _ (call (.ref C) [] [("most", u2), ("many", u1)]) _ _ _
  obtain ⟨hp, g, dr, tk, os⟩ := s1
  have hsz : hp.objs.size ≤ hp.objs.size + 1 := Nat.le_succ _
  have hn : H1 (hp.objs.size + 1) = none := I1.hok.fresh hsz
  have kk : ∀ b o, hp.get? b = some o → ((hp.push (PySem.W.kdv_tup [])).push (PySem.HandSPX.excO C hp.objs.size)).get? b = some o := fun b o e => Heap.get?_push_of_some _ (Heap.get?_push_of_some _ e)
  have hget : ((hp.push (PySem.W.kdv_tup [])).push (PySem.HandSPX.excO C hp.objs.size)).get? (hp.objs.size + 1) = some (PySem.HandSPX.excO C hp.objs.size) := by heap_get
  have I2 : L2.Inv X pins σ (upd H1 (hp.objs.size + 1) (exo (hp.objs.size + 1) C none)) ⟨(hp.push (PySem.W.kdv_tup [])).push (PySem.HandSPX.excO C hp.objs.size), g, dr, tk, os⟩ :=
    I1.laid (t' := tk) (a := hp.objs.size + 1) (o := exo (hp.objs.size + 1) C none) (h' := (hp.push (PySem.W.kdv_tup [])).push (PySem.HandSPX.excO C hp.objs.size)) kk hsz (exo_ok hget)
  have r2 : Vals [V.ref (hp.objs.size + 1), vx, vy] [Value.ref (hp.objs.size + 1), u1, u2] := .cons rfl (.cons rx (.cons ry .nil))
  have sp : spI X.K C [V.ref (hp.objs.size + 1), vx, vy] (upd H1 (hp.objs.size + 1) (exo (hp.objs.size + 1) C none)) (fun v H2 => v = .non ∧ ∃ dx, H1 dx = none ∧ dx ≠ hp.objs.size + 1 ∧ H2 = upd (upd (upd (upd H1 (hp.objs.size + 1) (exo (hp.objs.size + 1) C none)) dx (exd dx [("many", vx)])) (hp.objs.size + 1) (exo (hp.objs.size + 1) C (some dx))) dx (exd dx [("most", vy), ("many", vx)])) (fun _ _ _ => False) :=
    ⟨_, vx, vy, rfl, upd_same, fun dx hd hne => ⟨rfl, dx, by rw [upd_ne hne] at hd; exact hd, hne, rfl⟩⟩
  refine wpAny_call (PySem.HandSPX.call_kw F.excBase_ValueError (fun Y => PySem.HandSPX.refsVE_contains Y bm hbm) (I1.kIn _ _ hC) (PySem.W.looks_findIn I1.kIn iC) (fun self => PySem.W.bind_fn I1.kIn self tI)
    (codeAny_mono (F1.run _ X.stack _ _ ⟨[Value.ref (hp.objs.size + 1)], [("most", u2), ("many", u1)]⟩ [Value.ref (hp.objs.size + 1), u1, u2] _ _ (fun _ _ _ => False) (hr.make C [] [("most", u2), ("many", u1)]) (I2.env0.make C [] [("most", u2), ("many", u1)]) (hb _ _ _ _) r2 sp) fun r s' hq' => ?_))
  cases r with
  | error er => exact False.elim hq'
  | ok fl =>
    cases fl with
    | ret u =>
      obtain ⟨v, H2, os2, bare2, un2, hok2, rv, ev, dx, hd1, hne, rfl⟩ := hq'
      subst ev
      obtain ⟨h2, g2, d2, t2, os'⟩ := s'
      have ea : (upd (upd (upd (upd H1 (hp.objs.size + 1) (exo (hp.objs.size + 1) C none)) dx (exd dx [("many", vx)])) (hp.objs.size + 1) (exo (hp.objs.size + 1) C (some dx))) dx (exd dx [("most", vy), ("many", vx)])) (hp.objs.size + 1) = some (exo (hp.objs.size + 1) C (some dx)) := by rw [upd_ne (Ne.symm hne)]; exact upd_same
      obtain ⟨t0, G, J, kG, ge, hoe, na⟩ := mk_end0 (d2 := d2) (t2 := t2) I1 hsz kk un2 hok2 os2 bare2 ea upd_same hd1
      have J2 := J.laidN (t' := t2) (o := exo (hp.objs.size + 1) C (some dx)) kG ge na (exo_ok hoe)
      rw [upd_del2 hne] at J2
      exact ⟨rv, .ref (hp.objs.size + 1), _, J2, rfl, q1 _ dx hn hd1 hne⟩
    | next => exact False.elim hq'
    | brk => exact False.elim hq'
    | cont => exact False.elim hq'
end
def consX2 (c : Nat) (fa : AM) (f : XM) : XM := fun ρ => bindO (fa ρ) fun rs ρ1 => match rs with
  | [.dat (.int m), .dat (.int n)] => bindO (f ρ1) fun cs ρ2 => some (.ok ((c, [.int m, .int n]) :: cs) ρ2)
  | _ => none
def consX2k (c : Nat) (fa : AM) (f : XM) : XM := fun ρ => bindO (fa ρ) fun rs ρ1 => match rs with
  | [.dat (.int n), .dat (.int m)] => bindO (f ρ1) fun cs ρ2 => some (.ok ((c, [.int m, .int n]) :: cs) ρ2)
  | _ => none
@[simp] theorem consX2_e (c : Nat) (fa : AM) (f : XM) (ρ : Rho) : consX2 c fa f ρ = bindO (fa ρ) fun rs ρ1 => match rs with
  | [.dat (.int m), .dat (.int n)] => bindO (f ρ1) fun cs ρ2 => some (.ok ((c, [.int m, .int n]) :: cs) ρ2)
  | _ => none := eqI rfl
@[simp] theorem consX2k_e (c : Nat) (fa : AM) (f : XM) (ρ : Rho) : consX2k c fa f ρ = bindO (fa ρ) fun rs ρ1 => match rs with
  | [.dat (.int n), .dat (.int m)] => bindO (f ρ1) fun cs ρ2 => some (.ok ((c, [.int m, .int n]) :: cs) ρ2)
  | _ => none := eqI rfl
section
variable {X : Cx} {T : Tb} {W : WX} {n k : Nat} {N : List Str} {sc : Scope} {pos p : Pos} {x : Str} {es : List Expr} {f : XM} {st : Stmt} {e1 e2 : Expr} {fa : AM} {kws : List Keyword}
theorem two_at {H1 : Hp} {F1 : Reg} {a dx : Addr} {m n : Int} (ha : H1 a = none) (hd : H1 dx = none) (hne : dx ≠ a) : Gr H1 F1 (upd (upd H1 a (exo a (T.ca k) (some dx))) dx (.xd [("most", .int n), ("many", .int m)])) (fun b => F1 b ∨ b = a) ∧
    ExAt T (upd (upd H1 a (exo a (T.ca k) (some dx))) dx (.xd [("most", .int n), ("many", .int m)])) (fun b => F1 b ∨ b = a) (.ref a) k [.int m, .int n] :=
  ⟨(Gr.laidF ha).trans (.laid (by rw [upd_ne hne]; exact hd)), a, some dx, rfl, .inr rfl, by rw [upd_ne (Ne.symm hne)]; exact upd_same, rfl, dx, rfl, upd_same⟩
theorem sx_cons2 (l : At X N sc) (c : Cxt X T W n) (h : OexE X.mg T x k st) (hS : IniT st) (hx : gnB sc x = true) (hn : 2 ≤ n) (ha : SA X T W [e1, e2] fa) (hr : SX X T W es f)
    (he : starEach [e1, e2] X.env = (false, eval e1 X.env) :: starEach [e2] X.env := by rfl) (hpl : (backTo pos (starEach [e2] X.env)).any (·.1) = false := by rfl)
    (hs : starEach (.Call (.Name x p) [e1, e2] [] pos :: es) X.env = (false, eval (.Call (.Name x p) [e1, e2] [] pos) X.env) :: starEach es X.env := by rfl) : SX X T W (.Call (.Name x p) [e1, e2] [] pos :: es) (consX2 k fa f) := by
  have hK := c.hK
  obtain ⟨qual, fI, oc, od, kV, doc, pm, an, cdv, ct, osl, h1, h2, h3, h4, h5⟩ := h.i
  have ok := ini_ok (P := X.prog) (w := X.w) (mg := X.mg) (base := X.base) h3 h4 hS h.o h.n1 h.n2
  refine pa_imp (pa_cons (pe_mk2 (by rw [hK]; exact h.o) (by rw [hK]; exact h1) (by rw [hK]; exact h2) (by rw [hK]; exact ok) (c.room.mono hn) (by rw [hK]; exact h5) (l.gl hx).1 h.g ha (l.gl hx).2.1 he hpl) hr hs) fun σ H Q ⟨ρ, F, O, E, P⟩ => ?_
  refine stp .refl E P fun vs H1 rs ρ1 F1 O1 x1 y1 E1 r1 P1 => ?_
  split at P1
  · rename_i m n'
    obtain rfl := r1.ints
    refine ⟨.int m, .int n', rfl, fun a dx hA hd hne => ?_⟩
    obtain ⟨g, ea⟩ := two_at (T := T) (k := k) (F1 := F1) (m := m) (n := n') hA hd hne
    refine stp (y1.trans g.ext) (E1.gr g) P1 fun ws H3 cs ρ2 F3 O3 x3 y3 E3 r3 P3 => ?_
    exact P3 _ _ _ _ y3 E3 (.cons (ea.mono ((E1.gr g).kept x3) x3.grow) r3)
  · exact P1.elim
theorem sx_cons2k (l : At X N sc) (c : Cxt X T W n) (h : OexE X.mg T x k st) (hS : IniT st) (hK2 : IniK st) (hx : gnB sc x = true) (hn : 2 ≤ n) (ha : SK X T W kws fa) (hr : SX X T W es f)
    (hall : ((backToKw pos (keywordEach kws X.env)).all fun x => x.fst.isSome) = true := by rfl) (hks : List.filterMap (fun x => x.fst) (backToKw pos (keywordEach kws X.env)) = (["most", "many"] : List Str) := by rfl)
    (hpl : (((backTo pos (starEach [] X.env)).any fun x => x.fst) || (backToKw pos (keywordEach kws X.env)).any fun x => x.fst.isNone) = false := by rfl)
    (hs : starEach (.Call (.Name x p) [] kws pos :: es) X.env = (false, eval (.Call (.Name x p) [] kws pos) X.env) :: starEach es X.env := by rfl) : SX X T W (.Call (.Name x p) [] kws pos :: es) (consX2k k fa f) := by
  have hK := c.hK
  obtain ⟨qual, fI, oc, od, kV, doc, pm, an, cdv, ct, osl, h1, h2, h3, h4, h5⟩ := h.i
  have ok := ini_ok (P := X.prog) (w := X.w) (mg := X.mg) (base := X.base) h3 h4 hS h.o h.n1 h.n2
  have bk : ∀ (s : Shared) (self u v : Value), BindsTo s (PySem.W.fnOf "__init__" qual (defArgs st) (defBody st) (defScope st) .none kV doc pm an cdv ct) ⟨[self], [("most", u), ("many", v)]⟩ ((["self", "many", "most"] : List Str).zip [self, v, u]) := by
    intro s self u v M A E Q q
    rw [hK2 qual kV doc pm an cdv ct self u v]
    exact wpAny_pure q
  refine pa_imp (pa_cons (pe_mk2k (by rw [hK]; exact h.o) (by rw [hK]; exact h1) (by rw [hK]; exact h2) (by rw [hK]; exact ok) (c.room.mono hn) bk (l.gl hx).1 h.g ha (l.gl hx).2.1 hall hks hpl) hr hs) fun σ H Q ⟨ρ, F, O, E, P⟩ => ?_
  refine stp .refl E P fun vs H1 rs ρ1 F1 O1 x1 y1 E1 r1 P1 => ?_
  split at P1
  · rename_i n' m
    obtain rfl := r1.ints
    refine ⟨.int m, .int n', rfl, fun a dx hA hd hne => ?_⟩
    obtain ⟨g, ea⟩ := two_at (T := T) (k := k) (F1 := F1) (m := m) (n := n') hA hd hne
    refine stp (y1.trans g.ext) (E1.gr g) P1 fun ws H3 cs ρ2 F3 O3 x3 y3 E3 r3 P3 => ?_
    exact P3 _ _ _ _ y3 E3 (.cons (ea.mono ((E1.gr g).kept x3) x3.grow) r3)
  · exact P1.elim
end
end DL
namespace DL
open PySem PyProof.Rows
open L2 hiding Sp
def rIsXT (K : PySem.W.Frag) (D A : Addr) (d : Option Addr) : List V → Hp → VK → Prop := fun xs H Q => ∃ (p : Addr) (vs : List V) (cvs : List Value) (b : Bool), xs = [.ref A, .ref p] ∧ H p = some (.tup vs) ∧ (∀ us, Vals vs us → us = cvs) ∧ PySem.W.kitAny K (.ref D) cvs = some b ∧ xdAt H d ∧ Q (.bl b) H
section
variable {X : Cx} {T : Tb} {W : WX} {m : Nat} {N : List Str} {sc : Scope} {pos p : Pos} {e : Expr}
theorem call_isXT {A : Addr} {oe : Obj} {D : Addr} {d : Option Addr} (C : ExcC X.K D) (hm : (A, oe) ∈ X.pn) (hz : Zc (.ref D) d oe) (hf : ∃ vs, oe.data = .fields vs) : CallR X (.builtin "isinstance") (rIsXT X.K D A d) := by
  intro pins s σ H xs us Q I r h
  obtain ⟨tp, vs, cvs, b, rfl, ht, hcv, e, hd, q⟩ := h
  cases r with
  | cons rx rr =>
    cases rr with
    | cons rt rr =>
      cases rr
      cases rx
      cases rt
      have P1 := I.pin (A, oe) (List.mem_append_left _ hm)
      obtain ⟨od', J⟩ := inst_at I.hok P1.1 hz hf hd
      obtain ⟨_, its, rv, ⟨oc, od, oda, osl⟩, g1, g2, nn, g3⟩ := I.hok tp _ ht
      dsimp only at g2 g3
      subst g2 g3
      have ec := hcv _ rv
      subst ec
      have hcl : (PySem.W.clsIn X.K D).isSome = true := by
        obtain ⟨cd, hc, _⟩ := PySem.W.any_some C.hd
        rw [hc]; rfl
      exact PySem.W.kia_tup (PySem.W.kitx_exc hcl C.hg C.hk C.hs C.ha C.hn C.ht C.hm) I.kIn J g1 e (fun z => nomatch z) fun tk => ⟨.bl b, H, I.kept (t' := tk) fun _ _ z => z, rfl, q⟩
theorem se_isXT {c1 c2 : Str} {fe : EM} {tb : Nat → Option Bool} {v1 v2 : V} {cv1 cv2 : Value} {p1 p2 pt : Pos} {kt : Nat} (l : At X N sc) (ch : CxH X T m) (h1 : gnB sc "isinstance" = true) (hm : X.mg "isinstance" = none) (h2 : gnB sc c1 = true) (h3 : gnB sc c2 = true) (hc1 : ClsN X c1 v1 cv1) (hc2 : ClsN X c2 v2 cv2) (ht : IsTbs T [cv1, cv2] tb) (he : SE X T W e fe)
    (hs : starEach [e, .Tuple [.Name c1 p1, .Name c2 p2] kt pt] X.env = (false, eval e X.env) :: starEach [.Tuple [.Name c1 p1, .Name c2 p2] kt pt] X.env := by rfl) (hpl : (backTo pos (starEach [.Tuple [.Name c1 p1, .Name c2 p2] kt pt] X.env)).any (·.1) = false := by rfl) :
    SE X T W (.Call (.Name "isinstance" p) [e, .Tuple [.Name c1 p1, .Name c2 p2] kt pt] [] pos) (isXM tb fe) := by
  have pt : PE X (.Tuple [.Name c1 p1, .Name c2 p2] kt pt) (tTup (tCons (tC v1) (tCons (tC v2) tNil))) := pe_tup (pa_cons (pe_cls l h2 hc1) (pa_cons (pe_cls l h3 hc2) pa_nil))
  refine ⟨fun pins s σ H Q I h => ?_⟩
  obtain ⟨A, oe, ec, ed, ehot, emem, ez, ef⟩ := ch.pin
  obtain ⟨ρ, F, O, E, P⟩ := h
  by_cases hD : ∃ b, tb ec = some b
  · obtain ⟨b, hb⟩ := hD
    obtain ⟨t1, t2⟩ := ht ec b hb
    have C : ExcC X.K (T.ca ec) := by rw [ch.hK]; exact excC_of t1
    refine (pe_callB (pos := pos) (p := p) (call_isXT C emem ez ef) (l.gl h1).1 hm (by decide +kernel) (pa_cons he (pa_cons pt pa_nil) hs) (l.gl h1).2.2 (l.gl h1).2.1 hs hpl).run pins s σ H Q I ?_
    refine stp .refl E P fun u H1 r ρ1 F1 O1 x1 y1 E1 r1 P1 => ?_
    refine ⟨show 2 ≤ sizeLine by decide, fun q hq => ?_⟩
    show rIsXT X.K (T.ca ec) A ed [u, .ref q] (upd H1 q (.tup [v1, v2])) Q
    unfold isXR at P1
    split at P1
    · rename_i c0 fs0
      obtain ⟨a0, d0, e1, e2, e3⟩ := r1
      rw [ehot] at e2
      cases e2
      rw [hb] at P1
      have e4 : ExcR T (upd H1 q (.tup [v1, v2])) (.ref (T.ca ec)) ed ec fs0 := e3.mono (F := F1) (kept_all (kept_new hq))
      refine ⟨q, [v1, v2], [cv1, cv2], b, by rw [e1], upd_same, fun us ru => ?_, by rw [ch.hK]; exact t2, excR_xd e4, P1 (.bl b) _ F1 O1 (y1.trans (.laid hq)) (E1.laid hq) (.bl b)⟩
      cases ru with
      | cons a1 a2 =>
        cases a2 with
        | cons b1 b2 =>
          cases b2
          rw [hc1.2.2 _ a1, hc2.2.2 _ b1]
    · exact P1.elim
  · refine (pe_imp (t' := fun σ H Q => Tof T W (tlE T) fe σ H fun _ _ => False) (pe_callB (pos := pos) (p := p) (id := "isinstance") (r := fun _ _ _ => False) (fun _ _ _ _ _ _ _ _ _ z => z.elim) (l.gl h1).1 hm (by decide +kernel) (pa_cons he (pa_cons pt pa_nil) hs) (l.gl h1).2.2 (l.gl h1).2.1 hs hpl) fun σ H Q z => ?_).run pins s σ H Q I ?_
    · obtain ⟨ρ, F, O, E, P⟩ := z
      refine ⟨ρ, F, O, E, ?_⟩
      cases q : fe ρ with
      | none => rw [q] at P; exact P
      | some o =>
        rw [q] at P
        cases o with
        | ok r ρ1 => exact fun v H' F' O' a1 a2 a3 => (P v H' F' O' a1 a2 a3).elim
        | er c fs ρ1 => exact P
    · refine never_of E P fun u H1 F1 O1 r ρ1 r1 E1 P1 => ?_
      unfold isXR at P1
      split at P1
      · rename_i c0 fs0
        obtain ⟨a0, d0, e1, e2, e3⟩ := r1
        rw [ehot] at e2
        cases e2
        split at P1
        · rename_i b0 hb0
          exact hD ⟨b0, hb0⟩
        · exact P1.elim
      · exact P1.elim
end
end DL
namespace Lw
open PySem L2 DL
theorem runD_eq (n m : Nat) (pr : Nat → Bool) (f : SM) (args : List R) (ρ : Rho) (h1 : args.length = n) (h2 : args.map some ++ List.replicate (m - n) none = ρ) : runD n m pr f args = fnR n pr (f ρ) := by
  subst h1 h2
  unfold runD
  rw [if_pos rfl]
  rfl
def fl_TooMany : Nat → Bool := fun c => c == 18
def is_NoBook : Nat → Option Bool := fun c => ([(1, true), (2, false), (3, false), (4, false), (5, false), (6, false), (7, false), (8, false), (9, false), (10, false), (11, false), (12, false), (13, false), (14, false), (15, false), (16, false), (17, false), (18, false)] : List (Nat × Bool)).lookup c
def is_NoTime : Nat → Option Bool := fun c => ([(1, false), (2, true), (3, false), (4, false), (5, false), (6, false), (7, false), (8, false), (9, false), (10, false), (11, false), (12, false), (13, false), (14, false), (15, false), (16, false), (17, false), (18, false)] : List (Nat × Bool)).lookup c
def is_NoShare : Nat → Option Bool := fun c => ([(1, false), (2, false), (3, true), (4, false), (5, false), (6, false), (7, false), (8, false), (9, false), (10, false), (11, false), (12, false), (13, false), (14, false), (15, false), (16, false), (17, false), (18, false)] : List (Nat × Bool)).lookup c
def is_NoParts : Nat → Option Bool := fun c => ([(1, false), (2, false), (3, false), (4, true), (5, false), (6, false), (7, false), (8, false), (9, false), (10, false), (11, false), (12, false), (13, false), (14, false), (15, false), (16, false), (17, false), (18, false)] : List (Nat × Bool)).lookup c
def is_NoPlain : Nat → Option Bool := fun c => ([(1, false), (2, false), (3, false), (4, false), (5, true), (6, false), (7, false), (8, false), (9, false), (10, false), (11, false), (12, false), (13, false), (14, false), (15, false), (16, false), (17, false), (18, false)] : List (Nat × Bool)).lookup c
def is_NoKind : Nat → Option Bool := fun c => ([(1, false), (2, false), (3, false), (4, false), (5, false), (6, true), (7, false), (8, false), (9, false), (10, false), (11, false), (12, false), (13, false), (14, false), (15, false), (16, false), (17, false), (18, false)] : List (Nat × Bool)).lookup c
def is_NoMarks : Nat → Option Bool := fun c => ([(1, false), (2, false), (3, false), (4, false), (5, false), (6, false), (7, true), (8, false), (9, false), (10, false), (11, false), (12, false), (13, false), (14, false), (15, false), (16, false), (17, false), (18, false)] : List (Nat × Bool)).lookup c
def is_NoWord : Nat → Option Bool := fun c => ([(1, false), (2, false), (3, false), (4, false), (5, false), (6, false), (7, false), (8, true), (9, false), (10, false), (11, false), (12, false), (13, false), (14, false), (15, false), (16, false), (17, false), (18, false)] : List (Nat × Bool)).lookup c
def is_NoFull : Nat → Option Bool := fun c => ([(1, false), (2, false), (3, false), (4, false), (5, false), (6, false), (7, false), (8, false), (9, true), (10, false), (11, false), (12, false), (13, false), (14, false), (15, false), (16, false), (17, false), (18, false)] : List (Nat × Bool)).lookup c
def is_NoNumber : Nat → Option Bool := fun c => ([(1, false), (2, false), (3, false), (4, false), (5, false), (6, false), (7, false), (8, false), (9, false), (10, true), (11, false), (12, false), (13, false), (14, false), (15, false), (16, false), (17, false), (18, false)] : List (Nat × Bool)).lookup c
def is_NoBand : Nat → Option Bool := fun c => ([(1, false), (2, false), (3, false), (4, false), (5, false), (6, false), (7, false), (8, false), (9, false), (10, false), (11, true), (12, false), (13, false), (14, false), (15, false), (16, false), (17, false), (18, false)] : List (Nat × Bool)).lookup c
def is_NoName : Nat → Option Bool := fun c => ([(1, false), (2, false), (3, false), (4, false), (5, false), (6, false), (7, false), (8, false), (9, false), (10, false), (11, false), (12, true), (13, false), (14, false), (15, false), (16, false), (17, false), (18, false)] : List (Nat × Bool)).lookup c
def is_NoDay : Nat → Option Bool := fun c => ([(1, false), (2, false), (3, false), (4, false), (5, false), (6, false), (7, false), (8, false), (9, false), (10, false), (11, false), (12, false), (13, true), (14, false), (15, false), (16, false), (17, false), (18, false)] : List (Nat × Bool)).lookup c
def is_NoDeed : Nat → Option Bool := fun c => ([(1, false), (2, false), (3, false), (4, false), (5, false), (6, false), (7, false), (8, false), (9, false), (10, false), (11, false), (12, false), (13, false), (14, true), (15, false), (16, false), (17, false), (18, false)] : List (Nat × Bool)).lookup c
def is_NoFraction : Nat → Option Bool := fun c => ([(1, false), (2, false), (3, false), (4, false), (5, false), (6, false), (7, false), (8, false), (9, false), (10, false), (11, false), (12, false), (13, false), (14, false), (15, true), (16, false), (17, false), (18, false)] : List (Nat × Bool)).lookup c
def is_NoText : Nat → Option Bool := fun c => ([(1, false), (2, false), (3, false), (4, false), (5, false), (6, false), (7, false), (8, false), (9, false), (10, false), (11, false), (12, false), (13, false), (14, false), (15, false), (16, true), (17, false), (18, false)] : List (Nat × Bool)).lookup c
def is_NoLine : Nat → Option Bool := fun c => ([(1, false), (2, false), (3, false), (4, false), (5, false), (6, false), (7, false), (8, false), (9, false), (10, false), (11, false), (12, false), (13, false), (14, false), (15, false), (16, false), (17, true), (18, false)] : List (Nat × Bool)).lookup c
def is_TooMany : Nat → Option Bool := fun c => ([(1, false), (2, false), (3, false), (4, false), (5, false), (6, false), (7, false), (8, false), (9, false), (10, false), (11, false), (12, false), (13, false), (14, false), (15, false), (16, false), (17, false), (18, true)] : List (Nat × Bool)).lookup c
def is_ValueError : Nat → Option Bool := fun c => ([(1, true), (2, true), (3, true), (4, true), (5, true), (6, true), (7, true), (8, true), (9, true), (10, true), (11, true), (12, true), (13, true), (14, true), (15, true), (16, true), (17, true), (18, true)] : List (Nat × Bool)).lookup c
def is_SpanError : Nat → Option Bool := fun c => ([(1, true), (2, true), (3, true), (4, true), (5, true), (6, true), (7, true), (8, true), (9, true), (10, true), (11, true), (12, true), (13, true), (14, true), (15, true), (16, true), (17, true), (18, true)] : List (Nat × Bool)).lookup c
def isT_0 : Nat → Option Bool := fun c => ([(1, false), (2, false), (3, false), (4, false), (5, false), (6, false), (7, false), (8, false), (9, false), (10, false), (11, false), (12, false), (13, false), (14, false), (15, false), (16, false), (17, false), (18, false)] : List (Nat × Bool)).lookup c
def fb1__law_pot : SM :=
    (seqM (asgM 3 (op2M dMod (op2M dMul (op2M dPlus (op2M dPlus (op2M dMod (nmM 0) (cM (.int 2147483629))) (op2M dMul (cM (.int 7919)) (nmM 2))) (cM (.int 1))) (cM (.int 48271))) (cM (.int 2147483647))))
    (seqM (asgM 3 (op2M dMod (op2M dPlus (op2M dPlus (op2M dMul (nmM 3) (nmM 3)) (op2M dMul (cM (.int 69621)) (nmM 2))) (cM (.int 7))) (cM (.int 2147483587))))
    (asgM 1 (op2M dPlus (op2M dMul (nmM 1) (cM (.int 2147483587))) (nmM 3)))))
def pr__law_pot (i : Nat) : Bool := [0].contains i
def m__law_pot : SM :=
    (seqM (ifM (tsM (op2M dGe (nmM 0) (op2M dPow (cM (.int 10)) (cM (.int 18))))) (retM 1 (lstM (consD (op2M dMinus (nmM 0) (op2M dPow (cM (.int 10)) (cM (.int 18)))) nilA))) skipM)
    (seqM (asgM 1 (cM (.int 0)))
    (seqM (forM (irM1 (cM (.int 64))) (gnM 2) fb1__law_pot)
    (retM 1 (lstM (consD (nmM 1) nilA))))))
def sem__law_pot : Sem := runD 1 4 pr__law_pot m__law_pot
theorem run__law_pot (a0 : R) : sem__law_pot [a0] = fnR 1 pr__law_pot (m__law_pot [some a0, none, none, none]) := by
  unfold sem__law_pot
  exact runD_eq 1 4 pr__law_pot m__law_pot _ _ rfl rfl
def pr__law_cell_at (i : Nat) : Bool := [0, 1].contains i
def m__law_cell_at : SM :=
    (seqM (ifM (tsM (op2M dLt (nmM 1) (opnM (on1 lenD) (consA (nmM 0) nilA)))) (retM 2 (op2M dIxA (nmM 0) (nmM 1))) skipM)
    (retM 2 (cM (.int 0))))
def sem__law_cell_at : Sem := runD 2 2 pr__law_cell_at m__law_cell_at
theorem run__law_cell_at (a0 a1 : R) : sem__law_cell_at [a0, a1] = fnR 2 pr__law_cell_at (m__law_cell_at [some a0, some a1]) := by
  unfold sem__law_cell_at
  exact runD_eq 2 2 pr__law_cell_at m__law_cell_at _ _ rfl rfl
def pr__law_take (i : Nat) : Bool := [0, 1].contains i
def m__law_take : SM :=
    (seqM (asgM 2 (op2M dMod (op2M dIxA (nmM 0) (cM (.int 0))) (nmM 1)))
    (seqM (setM 0 (cM (.int 0)) (op2M dFd (op2M dIxA (nmM 0) (cM (.int 0))) (nmM 1)))
    (retM 2 (nmM 2))))
def sem__law_take : Sem := runD 2 3 pr__law_take m__law_take
theorem run__law_take (a0 a1 : R) : sem__law_take [a0, a1] = fnR 2 pr__law_take (m__law_take [some a0, some a1, none]) := by
  unfold sem__law_take
  exact runD_eq 2 3 pr__law_take m__law_take _ _ rfl rfl
def pr__law_plain_ones (i : Nat) : Bool := ([] : List Nat).contains i
def m__law_plain_ones : SM :=
    (seqM (asgM 0 (exsM (consX 1 (consX 2 (consX 3 (consX 4 (consX 5 (consX 6 (consX 7 (consX 8 (consX 9 (consX 10 nilX))))))))))))
    (retM 0 (catXM (nmM 0) (exsM (consX 11 (consX 12 (consX 13 (consX 14 (consX 15 (consX 16 (consX 17 nilX)))))))))))
def sem__law_plain_ones : Sem := runD 0 1 pr__law_plain_ones m__law_plain_ones
theorem run__law_plain_ones  : sem__law_plain_ones [] = fnR 0 pr__law_plain_ones (m__law_plain_ones [none]) := by
  unfold sem__law_plain_ones
  exact runD_eq 0 1 pr__law_plain_ones m__law_plain_ones _ _ rfl rfl
def pr__law_refusal (i : Nat) : Bool := [0].contains i
def m__law_refusal : SM :=
    (seqM (asgM 1 (lstM (consD (isXM is_NoBook (nmM 0)) (consD (isXM is_NoTime (nmM 0)) (consD (isXM is_NoShare (nmM 0)) (consD (isXM is_NoParts (nmM 0)) nilA))))))
    (seqM (asgM 1 (op2M dPlus (nmM 1) (lstM (consD (isXM is_NoPlain (nmM 0)) (consD (isXM is_NoKind (nmM 0)) (consD (isXM is_NoMarks (nmM 0)) (consD (isXM is_NoWord (nmM 0)) nilA)))))))
    (seqM (asgM 1 (op2M dPlus (nmM 1) (lstM (consD (isXM is_NoFull (nmM 0)) (consD (isXM is_NoNumber (nmM 0)) (consD (isXM is_NoBand (nmM 0)) (consD (isXM is_NoName (nmM 0)) nilA)))))))
    (seqM (asgM 1 (op2M dPlus (nmM 1) (lstM (consD (isXM is_NoDay (nmM 0)) (consD (isXM is_NoDeed (nmM 0)) (consD (isXM is_NoFraction (nmM 0)) (consD (isXM is_NoText (nmM 0)) nilA)))))))
    (seqM (asgM 1 (op2M dPlus (nmM 1) (lstM (consD (isXM is_NoLine (nmM 0)) (consD (isXM is_TooMany (nmM 0)) nilA)))))
    (seqM (ifM (orT (tsM (op2M dNe (lmM dCnt (nmM 1) (cM (.bool true))) (cM (.int 1)))) (orT (notT (tsM (isXM is_ValueError (nmM 0)))) (tsM (isXM isT_0 (nmM 0))))) (retM 1 (tupM (consD (cM (.str "other")) nilA))) skipM)
    (seqM (asgM 2 (lmM dIdx (nmM 1) (cM (.bool true))))
    (seqM (asgM 3 (lstM (consD (cM (.str "book")) (consD (cM (.str "time")) (consD (cM (.str "share")) (consD (cM (.str "parts")) (consD (cM (.str "plain")) (consD (cM (.str "kind")) (consD (cM (.str "marks")) (consD (cM (.str "word")) (consD (cM (.str "full")) (consD (cM (.str "number")) (consD (cM (.str "band")) (consD (cM (.str "name")) nilA))))))))))))))
    (seqM (asgM 3 (op2M dPlus (nmM 3) (lstM (consD (cM (.str "day")) (consD (cM (.str "deed")) (consD (cM (.str "fraction")) (consD (cM (.str "text")) (consD (cM (.str "line")) nilA))))))))
    (retM 1 (iteM (tsM (op2M dLt (nmM 2) (cM (.int 17)))) (tupM (consD (op2M dIxA (nmM 3) (nmM 2)) nilA)) (tupM (consD (cM (.str "many")) (consD (fldM fl_TooMany true (nmM 0)) (consD (fldM fl_TooMany false (nmM 0)) nilA)))))))))))))))
def sem__law_refusal : Sem := runD 1 4 pr__law_refusal m__law_refusal
def ce1_law : EM :=
    (tupM (consD (nmM 9) nilA))
def fb1_law : SM :=
    (seqM (asgM 3 (callM sem__law_pot (consA (callM sem__law_cell_at (consA (nmM 0) (consA (nmM 2) nilA))) nilA)))
    (seqM (parM 4 5 (callM sem__law_take (consA (nmM 3) (consA (cM (.int 99)) nilA))) (callM sem__law_take (consA (nmM 3) (consA (op2M dPow (cM (.int 10)) (cM (.int 11))) nilA))))
    (seqM (parM 6 7 (callM sem__law_plain_ones nilA) (exsM (consX2 18 (consA (nmM 4) (consA (nmM 5) nilA)) (consX2k 18 (consA (nmM 4) (consA (nmM 5) nilA)) nilX))))
    (seqM (ifM (tsM (op2M dNe (askM (ansR sem__law_refusal) (nmM 6)) (lcM (iM (nmM 1)) (gnM 9) [9] yesT ce1_law))) (retM 1 (cM (.bool false))) skipM)
    (seqM (ifM (tsM (op2M dNe (askM (ansR sem__law_refusal) (nmM 7)) (lstM (consD (tupM (consD (cM (.str "many")) (consD (nmM 4) (consD (nmM 5) nilA)))) (consD (tupM (consD (cM (.str "many")) (consD (nmM 5) (consD (nmM 4) nilA)))) nilA))))) (retM 1 (cM (.bool false))) skipM)
    (ifM (notT (tsM (opnM (on1 allD) (consA (askM (ansI is_SpanError) (catXM (nmM 6) (nmM 7))) nilA)))) (retM 1 (cM (.bool false))) skipM))))))
def pr_law (i : Nat) : Bool := [0].contains i
def m_law : SM :=
    (seqM (asgM 1 (smM splD (cM (.str "book time share parts plain kind marks word full number band name day deed")) (cM (.str " "))))
    (seqM (asgM 1 (op2M dPlus (nmM 1) (lstM (consD (cM (.str "fraction")) (consD (cM (.str "text")) (consD (cM (.str "line")) nilA))))))
    (seqM (forM (irM1 (opnM (on2 max2D) (consA (cM (.int 1)) (consA (opnM (on2 min2D) (consA (opnM (on1 lenD) (consA (nmM 0) nilA)) (consA (cM (.int 3)) nilA))) nilA)))) (gnM 2) fb1_law)
    (retM 1 (cM (.bool true))))))
def sem_law : Sem := runD 1 10 pr_law m_law
theorem run_law (a0 : R) : sem_law [a0] = fnR 1 pr_law (m_law [some a0, none, none, none, none, none, none, none, none, none]) := by
  unfold sem_law
  exact runD_eq 1 10 pr_law m_law _ _ rfl rfl
end Lw
namespace Lw
open PySem DL
open L2 hiding Sp
theorem cell_is (ns : List Int) {k : Int} (h : 0 ≤ k) : ∃ c, sem__law_cell_at [.dat (.list (ns.map .int)), .dat (.int k)] = some (.ok (.dat (.int c)) [some (.dat (.list (ns.map .int))), some (.dat (.int k))]) := by
  rw [run__law_cell_at]
  unfold m__law_cell_at
  by_cases c : k < ns.length
  · have e : atI (ns.map PyData.int) k = some (.int (ns[k.toNat]'(by omega))) := by
      rw [atI_nn _ _ h, List.getElem?_map, List.getElem?_eq_getElem (by omega)]
      rfl
    refine ⟨ns[k.toNat]'(by omega), ?_⟩
    simp [c, e, outs_2, pr__law_cell_at]
  · refine ⟨0, ?_⟩
    simp [c, outs_2, pr__law_cell_at]
/-- a pot: one whole number -/
def Pot (p : PyData) : Prop := ∃ a : Int, p = .list [.int a]
/-- ahead of each turn of the pot's loop: j turns done -/
def PotI (c : Int) (xs : List PyData) (ρ : Rho) : Prop := ∃ (j : Nat) (n : Int) (a b : Option R), xs = rngL j (64 - j) ∧ j ≤ 64 ∧ ρ = [some (.dat (.int c)), some (.dat (.int n)), a, b] ∧ 0 ≤ n ∧ n < 2 ^ (32 * j)
theorem pot_turn {c : Int} {x : PyData} {r : List PyData} {ρ : Rho} (h : PotI c (x :: r) ρ) : ∃ ρ1 ρ2, gnM 2 x ρ = some ρ1 ∧ (fb1__law_pot ρ1 = some (.nx ρ2) ∨ fb1__law_pot ρ1 = some (.ct ρ2)) ∧ PotI c r ρ2 := by
  obtain ⟨j, n, a, b, hx, hj, rfl, n0, n1⟩ := h
  have hj2 : j < 64 := by
    rcases Nat.lt_or_ge j 64 with z | z
    · exact z
    · have : 64 - j = 0 := by omega
      rw [this, rngL_zero] at hx
      cases hx
  obtain ⟨m, hm⟩ : ∃ m, 64 - j = m + 1 := ⟨63 - j, by omega⟩
  rw [hm, rngL_succ] at hx
  injection hx with hx1 hx2
  subst hx1
  generalize hc : c.fmod 2147483629 = c0
  have c1 : 0 ≤ c0 := hc ▸ Int.fmod_nonneg_of_pos _ (by decide)
  have c2 : c0 < 2147483629 := hc ▸ Int.fmod_lt_of_pos _ (by decide)
  have e1 := mul_is (i := 7919) (j := (j : Int)) (by omega) (by omega) (by omega) (by omega)
  have e2 := mul_is (i := c0 + 7919 * (j : Int) + 1) (j := 48271) (by omega) (by omega) (by omega) (by omega)
  generalize hx : ((c0 + 7919 * (j : Int) + 1) * 48271).fmod 2147483647 = x
  have x1 : 0 ≤ x := hx ▸ Int.fmod_nonneg_of_pos _ (by decide)
  have x2 : x < 2147483647 := hx ▸ Int.fmod_lt_of_pos _ (by decide)
  have e3 := mul_is (i := x) (j := x) (by omega) (by omega) (by omega) (by omega)
  have e4 := mul_is (i := 69621) (j := (j : Int)) (by omega) (by omega) (by omega) (by omega)
  generalize hy : (x * x + 69621 * (j : Int) + 7).fmod 2147483587 = y
  have y1 : 0 ≤ y := hy ▸ Int.fmod_nonneg_of_pos _ (by decide)
  have y2 : y < 2147483587 := hy ▸ Int.fmod_lt_of_pos _ (by decide)
  have e5 : dMul (.int n) (.int 2147483587) = some (.dat (.int (n * 2147483587))) := by
    rw [dMul_i, if_pos]
    have l1 : n.natAbs.log2 < 32 * j + 1 := log2_lt n0 (Int.lt_trans n1 (by rw [Int.pow_succ]; have : (0 : Int) < 2 ^ (32 * j) := Int.pow_pos (by decide); omega)) (by omega)
    have l2 := log2_lt (i := 2147483587) (n := 32) (by omega) (by omega) (by omega)
    omega
  refine ⟨_, [some (.dat (.int c)), some (.dat (.int (n * 2147483587 + y))), some (.dat (.int j)), some (.dat (.int y))], rfl, .inl ?_, j + 1, _, _, _, ?_, hj2, rfl, ?_, ?_⟩
  · unfold fb1__law_pot
    simp [hc, e1, e2, hx, e3, e4, hy, e5, -dMul_i]
  · have : 64 - (j + 1) = m := by omega
    rw [this, hx2]
    rfl
  · have := Int.mul_nonneg n0 (show (0 : Int) ≤ 2147483587 by decide)
    omega
  · have e : (2 : Int) ^ (32 * (j + 1)) = 2 ^ (32 * j) * 4294967296 := by rw [Nat.mul_succ, Int.pow_add]; rfl
    rw [e]
    have : (0 : Int) < 2 ^ (32 * j) := Int.pow_pos (by decide)
    omega
theorem pot_is (c : Int) : ∃ p, sem__law_pot [.dat (.int c)] = some (.ok (.own p) [some (.dat (.int c))]) ∧ Pot p := by
  rw [run__law_pot]
  unfold m__law_pot
  have pw : dPow (.int 10) (.int 18) = some (.dat (.int (10 ^ 18))) := by simp [dPow]
  by_cases h : (10 : Int) ^ 18 ≤ c
  · refine ⟨.list [.int (c - 10 ^ 18)], ?_, _, rfl⟩
    have h' : (1000000000000000000 : Int) ≤ c := h
    simp [pw, h', outs_1, pr__law_pot]
  · obtain ⟨ρ', e, j, n, a, b, _, _, rfl, _⟩ := forL_inv (g := gnM 2) (body := fb1__law_pot) (PotI c) (rngL 0 64) [some (.dat (.int c)), some (.dat (.int 0)), none, none]
      ⟨0, 0, none, none, rfl, by omega, rfl, by omega, by decide⟩ (fun x r ρ h => pot_turn h)
    refine ⟨.list [.int n], ?_, _, rfl⟩
    have h' : ¬ (1000000000000000000 : Int) ≤ c := h
    have hr := fun ρ => rg1_is (j := 64) ρ (by omega) (by omega)
    simp [pw, h', hr, e, outs_1, pr__law_pot]
theorem take_is {p : PyData} {b : Int} (h : Pot p) (hb : 0 < b) (hb2 : b ≤ 2 ^ 62) :
    ∃ v p', sem__law_take [.own p, .dat (.int b)] = some (.ok (.dat (.int v)) [some (.own p'), some (.dat (.int b))]) ∧ 0 ≤ v ∧ v < b ∧ Pot p' := by
  obtain ⟨a, rfl⟩ := h
  have hb0 : b ≠ 0 := by omega
  have hbl : b.natAbs.log2 < 9000 := Nat.lt_trans (log2_lt (n := 63) (by omega) (by omega) (by decide)) (by decide)
  rw [run__law_take]
  unfold m__law_take
  refine ⟨a.fmod b, .list [.int (a.fdiv b)], ?_, Int.fmod_nonneg_of_pos _ hb, Int.fmod_lt_of_pos _ hb, _, rfl⟩
  simp [atI_nn, hb0, hbl, ixN, outs_2, pr__law_take]
theorem dNe_self {d : PyData} {m : Nat} (h : Eqb m d) (l : m ≤ 64) (ns : ∀ i, d ≠ .str i) : dNe d d = some (.dat (.bool false)) := by
  rw [dNe_of h h l l (fun i j e _ => ns i e), PySem.SeqAt.eqv_refl d h.l]
  rfl
def c17 : List (Nat × List PyData) := [(1, []), (2, []), (3, []), (4, []), (5, []), (6, []), (7, []), (8, []), (9, []), (10, []), (11, []), (12, []), (13, []), (14, []), (15, []), (16, []), (17, [])]
def w17 : List Str := ["book", "time", "share", "parts", "plain", "kind", "marks", "word", "full", "number", "band", "name", "day", "deed", "fraction", "text", "line"]
def w14 : List Str := ["book", "time", "share", "parts", "plain", "kind", "marks", "word", "full", "number", "band", "name", "day", "deed"]
def wD (x : Str) : PyData := .tuple [.str x]
theorem plain_is : sem__law_plain_ones [] = some (.ok (.obj (.exs c17)) []) := by
  rw [run__law_plain_ones]
  unfold m__law_plain_ones c17
  have e : ∀ (cs : List (Nat × List PyData)), exsOf [some (R.obj (.exs cs))] (.slt 0) = some cs := fun cs => rfl
  have l1 : 17 ≤ lim := by decide
  simp [e, l1]
  rfl
theorem ans17 : ansL (ansR sem__law_refusal) c17 = some (w17.map wD) := by rfl
theorem ans2 (m n : Int) : ansL (ansR sem__law_refusal) [(18, [.int m, .int n]), (18, [.int n, .int m])] = some [.tuple [.str "many", .int m, .int n], .tuple [.str "many", .int n, .int m]] := by rfl
theorem ansB (m n : Int) : ansL (ansI is_SpanError) (c17 ++ [(18, [.int m, .int n]), (18, [.int n, .int m])]) = some (List.replicate 19 (.bool true)) := by rfl
theorem lit14 : splD (.str "book time share parts plain kind marks word full number band name day deed") (.str " ") = some (.own (.list (w14.map .str))) := by
  have e : Txt.split ("book time share parts plain kind marks word full number band name day deed" : Str) " " = w14 := by decide +kernel
  rw [splD_e, if_pos ⟨by decide +kernel, by decide +kernel⟩, e]
theorem pl17 : dPlus (.list (w14.map .str)) (.list [.str "fraction", .str "text", .str "line"]) = some (.own (.list (w17.map .str))) := by
  rw [dPlus_l, if_pos (by decide)]
  rfl
theorem w17_ok : ∀ x ∈ w17, (PyData.str x).canLay0 = true := by decide +kernel
theorem eqb_wD {x : Str} (h : x ∈ w17) : Eqb 1 (wD x) := Eqb.tuple (m := 0) fun d hd => by
  rw [List.mem_singleton] at hd
  subst hd
  exact ⟨w17_ok x h, Nat.le_refl 0⟩
theorem ne17 : dNe (.list (w17.map wD)) (.list (w17.map wD)) = some (.dat (.bool false)) :=
  dNe_self (m := 2) (Eqb.list (m := 1) fun d hd => by
    obtain ⟨x, hx, rfl⟩ := List.mem_map.mp hd
    exact eqb_wD hx) (by decide) (by intro i h; cases h)
theorem many_ok : (PyData.str "many").canLay0 = true := by decide +kernel
theorem ne2 (m n : Int) : dNe (.list [.tuple [.str "many", .int m, .int n], .tuple [.str "many", .int n, .int m]]) (.list [.tuple [.str "many", .int m, .int n], .tuple [.str "many", .int n, .int m]]) = some (.dat (.bool false)) := by
  have one : ∀ a b : Int, Eqb 1 (.tuple [.str "many", .int a, .int b]) := fun a b => Eqb.tuple (m := 0) fun d hd => by
    simp only [List.mem_cons, List.not_mem_nil, or_false] at hd
    rcases hd with rfl | rfl | rfl
    · exact ⟨many_ok, Nat.le_refl 0⟩
    · exact Eqb.int _
    · exact Eqb.int _
  refine dNe_self (m := 2) (Eqb.list (m := 1) fun d hd => ?_) (by decide) (by intro i h; cases h)
  simp only [List.mem_cons, List.not_mem_nil, or_false] at hd
  rcases hd with rfl | rfl
  · exact one m n
  · exact one n m
theorem all19 : allD (.list (List.replicate 19 (.bool true))) = some (.dat (.bool true)) := by rfl
theorem words_lc (s0 s1 s2 s3 s4 s5 s6 s7 s8 : Option R) : lcL (gnM 9) [9] yesT ce1_law (w17.map PyData.str) [s0, s1, s2, s3, s4, s5, s6, s7, s8, none] [] = some (.ok (.own (.list (w17.map wD))) [s0, s1, s2, s3, s4, s5, s6, s7, s8, none]) := by
  have l1 : 1 ≤ lim := by decide
  exact lcL_mp PyData.str wD w17 (by decide) (fun x hx => by simp [ev, ce1_law, wD, l1, wipeR])
theorem ask_s {ans : Nat → List PyData → Option PyData} {i : Nat} {ρ : Rho} {cs : List (Nat × List PyData)} {ds : List PyData} (h : ρ[i]? = some (some (.obj (.exs cs)))) (ha : ansL ans cs = some ds) (hl : cs.length ≤ 1000) : askM ans (nmM i) ρ = some (.ok (.own (.list ds)) ρ) := by
  have e : nmM i ρ = some (.ok (.slt i) ρ) := by unfold nmM; rw [h]
  unfold askM
  rw [e, bindO_ok, exsOf_s h]
  dsimp only
  rw [ha]
  exact if_pos hl
theorem ask_c {ans : Nat → List PyData → Option PyData} {i j : Nat} {ρ : Rho} {cs es : List (Nat × List PyData)} {ds : List PyData} (h : ρ[i]? = some (some (.obj (.exs cs)))) (k : ρ[j]? = some (some (.obj (.exs es)))) (ha : ansL ans (cs ++ es) = some ds) (hl : (cs ++ es).length ≤ 1000) : askM ans (catXM (nmM i) (nmM j)) ρ = some (.ok (.own (.list ds)) ρ) := by
  have e : nmM i ρ = some (.ok (.slt i) ρ) := by unfold nmM; rw [h]
  have e2 : nmM j ρ = some (.ok (.slt j) ρ) := by unfold nmM; rw [k]
  rw [List.length_append] at hl
  have c : catXM (nmM i) (nmM j) ρ = some (.ok (.obj (.exs (cs ++ es))) ρ) := by
    unfold catXM
    rw [e, bindO_ok, e2, bindO_ok, exsOf_s h, exsOf_s k]
    exact if_pos (Nat.le_trans hl (by decide))
  unfold askM
  rw [c, bindO_ok, exsOf_o]
  dsimp only
  rw [ha]
  exact if_pos (by rw [List.length_append]; exact hl)
def WdR (o : R) : Prop := o = .own (.list (w17.map .str)) ∨ o = .dat (.list (w17.map .str))
theorem law_turn {ns : List Int} (k : Nat) {o : R} (ho : WdR o) (es : Rho) (h : ∃ a b c d e, es = [a, b, c, d, e]) : ∃ es', fb1_law ((some (R.dat (.list (ns.map .int)))) :: some o :: (some (R.dat (.int k))) :: (es ++ [none, none])) = some (.nx ((some (R.dat (.list (ns.map .int)))) :: (some (R.dat (.list (w17.map .str)))) :: (some (R.dat (.int k))) :: (es' ++ [none, none]))) ∧ ∃ a b c d e, es' = [a, b, c, d, e] := by
  obtain ⟨e3, e4, e5, e6, e7, rfl⟩ := h
  obtain ⟨cell, c1⟩ := cell_is ns (k := (k : Int)) (by omega)
  obtain ⟨p, c2, o2⟩ := pot_is cell
  obtain ⟨m, p1, c3, m0, m1, o3⟩ := take_is o2 (b := 99) (by omega) (by omega)
  obtain ⟨n, p2, c4, n0, n1, o4⟩ := take_is o3 (b := 100000000000) (by omega) (by omega)
  refine ⟨[(some (R.own (p2))), (some (R.dat (.int m))), (some (R.dat (.int n))), some (.obj (.exs c17)), some (.obj (.exs [(18, [.int m, .int n]), (18, [.int n, .int m])]))], ?_, _, _, _, _, _, rfl⟩
  have pw : dPow (.int 10) (.int 11) = some (.dat (.int 100000000000)) := by rfl
  have a1 := fun s0 s1 s2 s3 s4 s5 s8 s9 => ask_s (ans := ansR sem__law_refusal) (i := 6) (ρ := [s0, s1, s2, s3, s4, s5, some (.obj (.exs c17)), some (.obj (.exs [(18, [.int m, .int n]), (18, [.int n, .int m])])), s8, s9]) rfl ans17 (by decide)
  have a2 := fun s0 s1 s2 s3 s4 s5 s8 s9 => ask_s (ans := ansR sem__law_refusal) (i := 7) (ρ := [s0, s1, s2, s3, s4, s5, some (.obj (.exs c17)), some (.obj (.exs [(18, [.int m, .int n]), (18, [.int n, .int m])])), s8, s9]) rfl (ans2 m n) (Nat.le_of_ble_eq_true rfl)
  have a3 := fun s0 s1 s2 s3 s4 s5 s8 s9 => ask_c (ans := ansI is_SpanError) (i := 6) (j := 7) (ρ := [s0, s1, s2, s3, s4, s5, some (.obj (.exs c17)), some (.obj (.exs [(18, [.int m, .int n]), (18, [.int n, .int m])])), s8, s9]) rfl rfl (ansB m n) (Nat.le_of_ble_eq_true rfl)
  have n17 := ne17
  have n2 := ne2 m n
  have al := all19
  have wl := fun s0 s1 s2 s3 s4 s5 s6 s7 s8 => words_lc s0 s1 s2 s3 s4 s5 s6 s7 s8
  have sv1 : ∀ (ρ : Rho) (cs : List (Nat × List PyData)), sv ρ (.obj (.exs cs)) = some (.obj (.exs cs), ρ) := fun _ _ => rfl
  have l3 : 3 ≤ lim ∧ 2 ≤ lim := by decide
  have pi := plain_is
  clear o2 o3 o4
  unfold WdR at ho
  generalize List.replicate 19 (PyData.bool true) = BB at *
  generalize w17.map wD = WW at *
  generalize w17.map PyData.str = VV at *
  generalize c17 = CC at *
  unfold fb1_law
  rcases ho with rfl | rfl <;> simp [c1, c2, c3, c4, pw, pi, -askM_e, -catXM_e, sv1, a1, a2, a3, n17, n2, al, wl, l3]
theorem turns_1 {ns : List Int} {c : Int} (hc : 0 ≤ c ∧ c ≤ 100) : ∃ m : Nat, 0 < m ∧ ∀ ρ, rg1 (.dat (.int (if (if c < ns.length then c else (ns.length : Int)) > 1 then (if c < ns.length then c else (ns.length : Int)) else 1))) ρ = some (.ok (rngL 0 m) ρ) :=
  ⟨_, by split <;> split <;> omega, fun ρ => rg1_is ρ (by split <;> split <;> omega) (by split <;> split <;> omega)⟩
theorem law_true : ∀ ns : List Int, ns.length ≤ 63 → ∃ os, sem_law [.dat (.list (ns.map .int))] = some (.ok (.dat (.bool true)) os) := by
  intro ns hn
  obtain ⟨m, hpos, hm⟩ := turns_1 (ns := ns) (c := 3) (by omega)
  obtain ⟨ρ', e, o, e2, es, rfl, ho, _⟩ := forL_st (g := gnM 2) (body := fb1_law) (fun (t : Nat) => PyData.int (0 + (t : Int))) (fun (_ : Nat) ρ => ∃ o e2 es, ρ = (some (R.dat (.list (ns.map .int)))) :: some o :: e2 :: (es ++ [none, none]) ∧ WdR o ∧ ∃ a b c d e, es = [a, b, c, d, e]) (fun A _ => A + 1) 0 (List.range m) [(some (R.dat (.list (ns.map .int)))), (some (R.own (.list (w17.map .str)))), none, none, none, none, none, none, none, none] ⟨_, none, [none, none, none, none, none], rfl, .inl rfl, _, _, _, _, _, rfl⟩ (by
      rintro pre t post ρ hR ⟨o, e2, es, rfl, ho, h⟩
      obtain ⟨fs, q1, q2⟩ := law_turn (ns := ns) t ho es h
      refine ⟨(some (R.dat (.list (ns.map .int)))) :: (some (R.dat (.list (w17.map .str)))) :: (some (R.dat (.int t))) :: (fs ++ [none, none]), ?_, .dat (.list (w17.map .str)), (some (R.dat (.int t))), fs, rfl, .inr rfl, q2⟩
      rw [Int.zero_add]
      exact q1)
  have er : (List.range m).map (fun (t : Nat) => PyData.int (0 + (t : Int))) = rngL 0 m := rfl
  rw [er] at e
  have sp := lit14
  have pl := pl17
  have l3 : 3 ≤ lim := by decide
  rw [run_law]
  unfold m_law
  refine ⟨[(some (R.dat (.list (ns.map .int))))], ?_⟩
  generalize w17.map PyData.str = VV at *
  generalize w14.map PyData.str = V4 at *
  simp [sp, pl, l3, hm, e, outs_1, pr_law, -dPlus_l]
end Lw
namespace Lw
open PySem L2 DL
def topS (i : Nat) : Stmt := PySem.Challenge.pw_outlasts_k04_errors_of_one_family.main.body.getD i (.Pass ⟨0, 0, 0, 0⟩)
abbrev st__law_pot : Stmt := topS 22
abbrev N__law_pot : List Str := ["_law_cell", "_law_number", "_law_j", "_law_more"]
theorem sc__law_pot : FnScope N__law_pot ["_law_cell"] (defScope st__law_pot) := ⟨rfl, rfl, rfl, by decide +kernel, rfl, by decide +kernel, by decide +kernel⟩
abbrev st__law_cell_at : Stmt := topS 21
abbrev N__law_cell_at : List Str := ["_law_script", "_law_k"]
theorem sc__law_cell_at : FnScope N__law_cell_at ["_law_script", "_law_k"] (defScope st__law_cell_at) := ⟨rfl, rfl, rfl, by decide +kernel, rfl, by decide +kernel, by decide +kernel⟩
abbrev st__law_take : Stmt := topS 23
abbrev N__law_take : List Str := ["_law_pot_here", "_law_far", "_law_found"]
theorem sc__law_take : FnScope N__law_take ["_law_pot_here", "_law_far"] (defScope st__law_take) := ⟨rfl, rfl, rfl, by decide +kernel, rfl, by decide +kernel, by decide +kernel⟩
abbrev st__law_plain_ones : Stmt := topS 25
abbrev N__law_plain_ones : List Str := ["_law_some"]
theorem sc__law_plain_ones : FnScope N__law_plain_ones [] (defScope st__law_plain_ones) := ⟨rfl, rfl, rfl, by decide +kernel, rfl, by decide +kernel, by decide +kernel⟩
abbrev st__law_refusal : Stmt := topS 24
abbrev N__law_refusal : List Str := ["_law_e", "_law_some", "_law_at", "_law_words"]
theorem sc__law_refusal : FnScope N__law_refusal ["_law_e"] (defScope st__law_refusal) := ⟨rfl, rfl, rfl, by decide +kernel, rfl, by decide +kernel, by decide +kernel⟩
abbrev st_law : Stmt := topS 26
abbrev N_law : List Str := ["_law_script", "_law_words", "_law_k", "_law_pot_here", "_law_few", "_law_far", "_law_plain", "_law_two", "_law_e", "_law_word"]
theorem sc_law : FnScope N_law ["_law_script"] (defScope st_law) := ⟨rfl, rfl, rfl, by decide +kernel, rfl, by decide +kernel, by decide +kernel⟩
abbrev st_TooMany : Stmt := L2.inClass (topS 19) 0
theorem ini_TooMany : IniT st_TooMany := ⟨⟨rfl, rfl, rfl, by decide +kernel, rfl, by decide +kernel, by decide +kernel⟩, by decide +kernel, ⟨_, _, _, _, _, _, _, _, rfl⟩⟩
theorem inik_TooMany : IniK st_TooMany := fun _ _ _ _ _ _ _ _ _ _ => rfl
structure Gv (mg : Str → Option Value) (T : Tb) : Prop where
  b_LookupError : mg "LookupError" = none
  b_TypeError : mg "TypeError" = none
  b_ValueError : mg "ValueError" = none
  b_all : mg "all" = none
  b_isinstance : mg "isinstance" = none
  b_len : mg "len" = none
  b_max : mg "max" = none
  b_min : mg "min" = none
  b_range : mg "range" = none
  x_SpanError : mg "SpanError" = some (.ref (T.ca 0))
  x_NoBook : ExE mg T "NoBook" 1
  x_NoTime : ExE mg T "NoTime" 2
  x_NoShare : ExE mg T "NoShare" 3
  x_NoParts : ExE mg T "NoParts" 4
  x_NoPlain : ExE mg T "NoPlain" 5
  x_NoKind : ExE mg T "NoKind" 6
  x_NoMarks : ExE mg T "NoMarks" 7
  x_NoWord : ExE mg T "NoWord" 8
  x_NoFull : ExE mg T "NoFull" 9
  x_NoNumber : ExE mg T "NoNumber" 10
  x_NoBand : ExE mg T "NoBand" 11
  x_NoName : ExE mg T "NoName" 12
  x_NoDay : ExE mg T "NoDay" 13
  x_NoDeed : ExE mg T "NoDeed" 14
  x_NoFraction : ExE mg T "NoFraction" 15
  x_NoText : ExE mg T "NoText" 16
  x_NoLine : ExE mg T "NoLine" 17
  x_TooMany : OexE mg T "TooMany" 18 st_TooMany
  f1_TooMany : FldTb T true fl_TooMany
  f2_TooMany : FldTb T false fl_TooMany
  i_NoBook : IsTb T (.ref (T.ca 1)) is_NoBook
  i_NoTime : IsTb T (.ref (T.ca 2)) is_NoTime
  i_NoShare : IsTb T (.ref (T.ca 3)) is_NoShare
  i_NoParts : IsTb T (.ref (T.ca 4)) is_NoParts
  i_NoPlain : IsTb T (.ref (T.ca 5)) is_NoPlain
  i_NoKind : IsTb T (.ref (T.ca 6)) is_NoKind
  i_NoMarks : IsTb T (.ref (T.ca 7)) is_NoMarks
  i_NoWord : IsTb T (.ref (T.ca 8)) is_NoWord
  i_NoFull : IsTb T (.ref (T.ca 9)) is_NoFull
  i_NoNumber : IsTb T (.ref (T.ca 10)) is_NoNumber
  i_NoBand : IsTb T (.ref (T.ca 11)) is_NoBand
  i_NoName : IsTb T (.ref (T.ca 12)) is_NoName
  i_NoDay : IsTb T (.ref (T.ca 13)) is_NoDay
  i_NoDeed : IsTb T (.ref (T.ca 14)) is_NoDeed
  i_NoFraction : IsTb T (.ref (T.ca 15)) is_NoFraction
  i_NoText : IsTb T (.ref (T.ca 16)) is_NoText
  i_NoLine : IsTb T (.ref (T.ca 17)) is_NoLine
  i_TooMany : IsTb T (.ref (T.ca 18)) is_TooMany
  i_ValueError : IsTb T (.type "ValueError") is_ValueError
  i_SpanError : IsTb T (.ref (T.ca 0)) is_SpanError
  j_0 : IsTbs T [.type "LookupError", .type "TypeError"] isT_0
theorem b__law_pot {X : Cx} {T : Tb} {W : WX} {H : Hp} (a : At X N__law_pot (defScope st__law_pot)) (hk : X.env.scope.kind = .function) (fn : ∀ x, X.fn x = true) (c : Cxt X T W 0) (g : Gv X.mg T) : SB X T W ⟨H, 1, pr__law_pot⟩ (defBody st__law_pot) m__law_pot := by
  unfold m__law_pot fb1__law_pot
  exact (ss_cons (ss_if (t_ge c (se_n a 0 (by decide +kernel)) (e_pow c se_int se_int)) (ss_one (ss_ret (se_lst (sd_cons (e_sub c (se_n a 0 (by decide +kernel)) (e_pow c se_int se_int)) sa_nil)))) ss_nil)
    (ss_cons (ss_a a c.nd fn 1 (by decide +kernel) rfl se_int)
    (ss_cons (ss_for c.po c.calm (e_rng1 a (by decide +kernel) g.b_range se_int) (sg_n a c.nd (.inl (fn _)) 2 (by decide +kernel) rfl) (ss_cons (ss_a a c.nd fn 3 (by decide +kernel) rfl (e_mod c (e_mul c (e_add c (e_add c (e_mod c (se_n a 0 (by decide +kernel)) se_int) (e_mul c se_int (se_n a 2 (by decide +kernel)))) se_int) se_int) se_int))
    (ss_cons (ss_a a c.nd fn 3 (by decide +kernel) rfl (e_mod c (e_add c (e_add c (e_mul c (se_n a 3 (by decide +kernel)) (se_n a 3 (by decide +kernel))) (e_mul c se_int (se_n a 2 (by decide +kernel)))) se_int) se_int))
    (ss_one (ss_a a c.nd fn 1 (by decide +kernel) rfl (e_add c (e_mul c (se_n a 1 (by decide +kernel)) se_int) (se_n a 3 (by decide +kernel))))))))
    (ss_one (ss_ret (se_lst (sd_cons (se_n a 1 (by decide +kernel)) sa_nil)))))))
theorem b__law_cell_at {X : Cx} {T : Tb} {W : WX} {H : Hp} (a : At X N__law_cell_at (defScope st__law_cell_at)) (hk : X.env.scope.kind = .function) (fn : ∀ x, X.fn x = true) (c : Cxt X T W 0) (g : Gv X.mg T) : SB X T W ⟨H, 2, pr__law_cell_at⟩ (defBody st__law_cell_at) m__law_cell_at := by
  unfold m__law_cell_at
  exact (ss_cons (ss_if (t_lt c (se_n a 1 (by decide +kernel)) (e_len a c (by decide +kernel) g.b_len (sa_cons (se_n a 0 (by decide +kernel)) sa_nil))) (ss_one (ss_ret (e_ixA c (se_n a 0 (by decide +kernel)) (se_n a 1 (by decide +kernel))))) ss_nil)
    (ss_one (ss_ret se_int)))
theorem b__law_take {X : Cx} {T : Tb} {W : WX} {H : Hp} (a : At X N__law_take (defScope st__law_take)) (hk : X.env.scope.kind = .function) (fn : ∀ x, X.fn x = true) (c : Cxt X T W 0) (g : Gv X.mg T) : SB X T W ⟨H, 2, pr__law_take⟩ (defBody st__law_take) m__law_take := by
  unfold m__law_take
  exact (ss_cons (ss_a a c.nd fn 2 (by decide +kernel) rfl (e_mod c (e_ixA c (se_n a 0 (by decide +kernel)) se_int) (se_n a 1 (by decide +kernel))))
    (ss_cons (ss_set (e_fd c (e_ixA c (se_n a 0 (by decide +kernel)) se_int) (se_n a 1 (by decide +kernel))) (pg_sub (pe_n a 0 (by decide +kernel)) se_int set_list))
    (ss_one (ss_ret (se_n a 2 (by decide +kernel))))))
theorem b__law_plain_ones {X : Cx} {T : Tb} {W : WX} {H : Hp} (a : At X N__law_plain_ones (defScope st__law_plain_ones)) (hk : X.env.scope.kind = .function) (fn : ∀ x, X.fn x = true) (c : Cxt X T W 0) (g : Gv X.mg T) : SB X T W ⟨H, 0, pr__law_plain_ones⟩ (defBody st__law_plain_ones) m__law_plain_ones := by
  unfold m__law_plain_ones
  exact (ss_cons (ss_a a c.nd fn 0 (by decide +kernel) rfl (se_exs (sx_cons a c g.x_NoBook (by decide +kernel) (sx_cons a c g.x_NoTime (by decide +kernel) (sx_cons a c g.x_NoShare (by decide +kernel) (sx_cons a c g.x_NoParts (by decide +kernel) (sx_cons a c g.x_NoPlain (by decide +kernel) (sx_cons a c g.x_NoKind (by decide +kernel) (sx_cons a c g.x_NoMarks (by decide +kernel) (sx_cons a c g.x_NoWord (by decide +kernel) (sx_cons a c g.x_NoFull (by decide +kernel) (sx_cons a c g.x_NoNumber (by decide +kernel) sx_nil))))))))))))
    (ss_one (ss_ret (e_catX (se_n a 0 (by decide +kernel)) (se_exs (sx_cons a c g.x_NoBand (by decide +kernel) (sx_cons a c g.x_NoName (by decide +kernel) (sx_cons a c g.x_NoDay (by decide +kernel) (sx_cons a c g.x_NoDeed (by decide +kernel) (sx_cons a c g.x_NoFraction (by decide +kernel) (sx_cons a c g.x_NoText (by decide +kernel) (sx_cons a c g.x_NoLine (by decide +kernel) sx_nil))))))))))))
theorem b__law_refusal {X : Cx} {T : Tb} {W : WX} {H : Hp} {A0 : Addr} {c0 : Nat} {d0 : Option Addr} (a : At X N__law_refusal (defScope st__law_refusal)) (hk : X.env.scope.kind = .function) (fn : ∀ x, X.fn x = true) (c : CxH X (T.at A0 c0 d0) 0) (g : Gv X.mg T) : SB X (T.at A0 c0 d0) W ⟨H, 1, pr__law_refusal⟩ (defBody st__law_refusal) m__law_refusal := by
  unfold m__law_refusal
  exact (ss_cons (ss_a a c.nd fn 1 (by decide +kernel) rfl (se_lst (sd_cons (se_isX a c (by decide +kernel) g.b_isinstance (by decide +kernel) (clsN_own g.x_NoBook.g) g.i_NoBook (se_n a 0 (by decide +kernel))) (sd_cons (se_isX a c (by decide +kernel) g.b_isinstance (by decide +kernel) (clsN_own g.x_NoTime.g) g.i_NoTime (se_n a 0 (by decide +kernel))) (sd_cons (se_isX a c (by decide +kernel) g.b_isinstance (by decide +kernel) (clsN_own g.x_NoShare.g) g.i_NoShare (se_n a 0 (by decide +kernel))) (sd_cons (se_isX a c (by decide +kernel) g.b_isinstance (by decide +kernel) (clsN_own g.x_NoParts.g) g.i_NoParts (se_n a 0 (by decide +kernel))) sa_nil))))))
    (ss_cons (ss_a a c.nd fn 1 (by decide +kernel) rfl (h_add c (se_n a 1 (by decide +kernel)) (se_lst (sd_cons (se_isX a c (by decide +kernel) g.b_isinstance (by decide +kernel) (clsN_own g.x_NoPlain.g) g.i_NoPlain (se_n a 0 (by decide +kernel))) (sd_cons (se_isX a c (by decide +kernel) g.b_isinstance (by decide +kernel) (clsN_own g.x_NoKind.g) g.i_NoKind (se_n a 0 (by decide +kernel))) (sd_cons (se_isX a c (by decide +kernel) g.b_isinstance (by decide +kernel) (clsN_own g.x_NoMarks.g) g.i_NoMarks (se_n a 0 (by decide +kernel))) (sd_cons (se_isX a c (by decide +kernel) g.b_isinstance (by decide +kernel) (clsN_own g.x_NoWord.g) g.i_NoWord (se_n a 0 (by decide +kernel))) sa_nil)))))))
    (ss_cons (ss_a a c.nd fn 1 (by decide +kernel) rfl (h_add c (se_n a 1 (by decide +kernel)) (se_lst (sd_cons (se_isX a c (by decide +kernel) g.b_isinstance (by decide +kernel) (clsN_own g.x_NoFull.g) g.i_NoFull (se_n a 0 (by decide +kernel))) (sd_cons (se_isX a c (by decide +kernel) g.b_isinstance (by decide +kernel) (clsN_own g.x_NoNumber.g) g.i_NoNumber (se_n a 0 (by decide +kernel))) (sd_cons (se_isX a c (by decide +kernel) g.b_isinstance (by decide +kernel) (clsN_own g.x_NoBand.g) g.i_NoBand (se_n a 0 (by decide +kernel))) (sd_cons (se_isX a c (by decide +kernel) g.b_isinstance (by decide +kernel) (clsN_own g.x_NoName.g) g.i_NoName (se_n a 0 (by decide +kernel))) sa_nil)))))))
    (ss_cons (ss_a a c.nd fn 1 (by decide +kernel) rfl (h_add c (se_n a 1 (by decide +kernel)) (se_lst (sd_cons (se_isX a c (by decide +kernel) g.b_isinstance (by decide +kernel) (clsN_own g.x_NoDay.g) g.i_NoDay (se_n a 0 (by decide +kernel))) (sd_cons (se_isX a c (by decide +kernel) g.b_isinstance (by decide +kernel) (clsN_own g.x_NoDeed.g) g.i_NoDeed (se_n a 0 (by decide +kernel))) (sd_cons (se_isX a c (by decide +kernel) g.b_isinstance (by decide +kernel) (clsN_own g.x_NoFraction.g) g.i_NoFraction (se_n a 0 (by decide +kernel))) (sd_cons (se_isX a c (by decide +kernel) g.b_isinstance (by decide +kernel) (clsN_own g.x_NoText.g) g.i_NoText (se_n a 0 (by decide +kernel))) sa_nil)))))))
    (ss_cons (ss_a a c.nd fn 1 (by decide +kernel) rfl (h_add c (se_n a 1 (by decide +kernel)) (se_lst (sd_cons (se_isX a c (by decide +kernel) g.b_isinstance (by decide +kernel) (clsN_own g.x_NoLine.g) g.i_NoLine (se_n a 0 (by decide +kernel))) (sd_cons (se_isX a c (by decide +kernel) g.b_isinstance (by decide +kernel) (clsN_own g.x_TooMany.g) g.i_TooMany (se_n a 0 (by decide +kernel))) sa_nil)))))
    (ss_cons (ss_if (st_w (sw_or (ht_ne c (e_cnt c.hK (se_n a 1 (by decide +kernel)) se_bl) se_int) (sw_or (st_not (st_val (se_isX a c (by decide +kernel) g.b_isinstance (by decide +kernel) (clsN_blt g.b_ValueError (by decide +kernel)) g.i_ValueError (se_n a 0 (by decide +kernel))))) (sw_or1 (st_val (se_isXT a c (by decide +kernel) g.b_isinstance (by decide +kernel) (by decide +kernel) (clsN_blt g.b_LookupError (by decide +kernel)) (clsN_blt g.b_TypeError (by decide +kernel)) g.j_0 (se_n a 0 (by decide +kernel)))))))) (ss_one (ss_ret (se_tup (sd_cons se_str sa_nil)))) ss_nil)
    (ss_cons (ss_a a c.nd fn 2 (by decide +kernel) rfl (e_idx c.hK (se_n a 1 (by decide +kernel)) se_bl))
    (ss_cons (ss_a a c.nd fn 3 (by decide +kernel) rfl (se_lst (sd_cons se_str (sd_cons se_str (sd_cons se_str (sd_cons se_str (sd_cons se_str (sd_cons se_str (sd_cons se_str (sd_cons se_str (sd_cons se_str (sd_cons se_str (sd_cons se_str (sd_cons se_str sa_nil))))))))))))))
    (ss_cons (ss_a a c.nd fn 3 (by decide +kernel) rfl (h_add c (se_n a 3 (by decide +kernel)) (se_lst (sd_cons se_str (sd_cons se_str (sd_cons se_str (sd_cons se_str (sd_cons se_str sa_nil))))))))
    (ss_one (ss_ret (se_ite (ht_lt c (se_n a 2 (by decide +kernel)) se_int) (se_tup (sd_cons (h_ixA c (se_n a 3 (by decide +kernel)) (se_n a 2 (by decide +kernel))) sa_nil)) (se_tup (sd_cons se_str (sd_cons (se_fld c rfl g.f1_TooMany (se_n a 0 (by decide +kernel))) (sd_cons (se_fld c rfl g.f2_TooMany (se_n a 0 (by decide +kernel))) sa_nil))))))))))))))))
theorem b_law {X : Cx} {T : Tb} {W : WX} {H : Hp} (hb0 : T.tb = []) (a : At X N_law (defScope st_law)) (hk : X.env.scope.kind = .function) (fn : ∀ x, X.fn x = true) (c : Cxt X T W 2) (g : Gv X.mg T) (h__law_refusal : FnX X.prog X.w X.mg X.base T "_law_refusal" 1 1 sem__law_refusal) (h__law_pot : FnE X.prog X.w X.mg X.base T "_law_pot" 1 1 sem__law_pot) (h__law_cell_at : FnE X.prog X.w X.mg X.base T "_law_cell_at" 1 2 sem__law_cell_at) (h__law_take : FnE X.prog X.w X.mg X.base T "_law_take" 1 2 sem__law_take) (h__law_plain_ones : FnE X.prog X.w X.mg X.base T "_law_plain_ones" 1 0 sem__law_plain_ones) : SB X T W ⟨H, 1, pr_law⟩ (defBody st_law) m_law := by
  unfold m_law fb1_law ce1_law
  exact (ss_cons (ss_a a c.nd fn 1 (by decide +kernel) rfl (se_split se_str se_str))
    (ss_cons (ss_a a c.nd fn 1 (by decide +kernel) rfl (e_add c (se_n a 1 (by decide +kernel)) (se_lst (sd_cons se_str (sd_cons se_str (sd_cons se_str sa_nil))))))
    (ss_cons (ss_for c.po c.calm (e_rng1 a (by decide +kernel) g.b_range (e_max2 a c (by decide +kernel) g.b_max (sa_cons se_int (sa_cons (e_min2 a c (by decide +kernel) g.b_min (sa_cons (e_len a c (by decide +kernel) g.b_len (sa_cons (se_n a 0 (by decide +kernel)) sa_nil)) (sa_cons se_int sa_nil))) sa_nil)))) (sg_n a c.nd (.inl (fn _)) 2 (by decide +kernel) rfl) (ss_cons (ss_a a c.nd fn 3 (by decide +kernel) rfl (se_f a (by decide +kernel) c h__law_pot runD_len (by decide) (sa_cons (se_f a (by decide +kernel) c h__law_cell_at runD_len (by decide) (sa_cons (se_n a 0 (by decide +kernel)) (sa_cons (se_n a 2 (by decide +kernel)) sa_nil))) sa_nil)))
    (ss_cons (ss_p2 a hk c.nd c.calm 4 5 (by decide +kernel) (by decide +kernel) (by decide) rfl rfl (by decide +kernel) (se_f a (by decide +kernel) c h__law_take runD_len (by decide) (sa_cons (se_n a 3 (by decide +kernel)) (sa_cons se_int sa_nil))) (se_f a (by decide +kernel) c h__law_take runD_len (by decide) (sa_cons (se_n a 3 (by decide +kernel)) (sa_cons (e_pow c se_int se_int) sa_nil))))
    (ss_cons (ss_p2 a hk c.nd c.calm 6 7 (by decide +kernel) (by decide +kernel) (by decide) rfl rfl (by decide +kernel) (se_f0 a (by decide +kernel) c h__law_plain_ones runD_len (by decide)) (se_exs (sx_cons2 a c g.x_TooMany ini_TooMany (by decide +kernel) (by decide) (sa_cons (se_n a 4 (by decide +kernel)) (sa_cons (se_n a 5 (by decide +kernel)) sa_nil)) (sx_cons2k a c g.x_TooMany ini_TooMany inik_TooMany (by decide +kernel) (by decide) (sk_cons (se_n a 4 (by decide +kernel)) (sk_cons (se_n a 5 (by decide +kernel)) sk_nil)) sx_nil))))
    (ss_cons (ss_if (t_ne c (se_askR (j := 8) hb0 a c (by decide +kernel) h__law_refusal (by decide) (by decide +kernel) (se_n a 6 (by decide +kernel)) (by decide +kernel) (by decide +kernel) (by decide +kernel)) (se_lc (own := [("_law_word", 9)]) c.calm c.nd (si_seq c.hK (se_n a 1 (by decide +kernel))) (a.blkOk (by decide +kernel)) (fun s1 H1 C1 cl1 fp1 => (sg_n (a.blk s1 H1 _ cl1 C1 fp1) (c.blk s1 H1 _ _ fp1).nd (.inr (lclB_ok (by decide +kernel))) 9 (by decide +kernel) rfl)) (fun s1 H1 C1 cl1 fp1 => sts_nil) (fun s1 H1 C1 cl1 fp1 => (se_tup (sd_cons (se_n (a.blk s1 H1 _ cl1 C1 fp1) 9 (by decide +kernel)) sa_nil))))) (ss_one (ss_ret se_bl)) ss_nil)
    (ss_cons (ss_if (t_ne c (se_askR (j := 8) hb0 a c (by decide +kernel) h__law_refusal (by decide) (by decide +kernel) (se_n a 7 (by decide +kernel)) (by decide +kernel) (by decide +kernel) (by decide +kernel)) (se_lst (sd_cons (se_tup (sd_cons se_str (sd_cons (se_n a 4 (by decide +kernel)) (sd_cons (se_n a 5 (by decide +kernel)) sa_nil)))) (sd_cons (se_tup (sd_cons se_str (sd_cons (se_n a 5 (by decide +kernel)) (sd_cons (se_n a 4 (by decide +kernel)) sa_nil)))) sa_nil)))) (ss_one (ss_ret se_bl)) ss_nil)
    (ss_one (ss_if (st_not (st_val (e_all a c (by decide +kernel) g.b_all (sa_cons (se_askI (j := 8) hb0 a c (by decide +kernel) g.b_isinstance (by decide +kernel) (clsN_own g.x_SpanError) g.i_SpanError (by decide +kernel) (e_catX (se_n a 6 (by decide +kernel)) (se_n a 7 (by decide +kernel))) (by decide +kernel) (by decide +kernel) (by decide +kernel)) sa_nil)))) (ss_one (ss_ret se_bl)) ss_nil))))))))
    (ss_one (ss_ret se_bl)))))
theorem all_mk {ts : List Addr} {P : Program} {w : World} {K : PySem.W.Frag} {h : Heap} {mg : Str → Option Value} {fa : Addr} (X : K.In h) (G : h.Ns mainGlobals mg) (hfa : mg "law" = some (.ref fa))
    {f__law_pot : Addr} {od__law_pot an__law_pot : Option Addr} {sl__law_pot : Array (Option Value)} {oc__law_pot kV__law_pot dc__law_pot pm__law_pot cd__law_pot ct__law_pot : Value}
    {f__law_cell_at : Addr} {od__law_cell_at an__law_cell_at : Option Addr} {sl__law_cell_at : Array (Option Value)} {oc__law_cell_at kV__law_cell_at dc__law_cell_at pm__law_cell_at cd__law_cell_at ct__law_cell_at : Value}
    {f__law_take : Addr} {od__law_take an__law_take : Option Addr} {sl__law_take : Array (Option Value)} {oc__law_take kV__law_take dc__law_take pm__law_take cd__law_take ct__law_take : Value}
    {f__law_plain_ones : Addr} {od__law_plain_ones an__law_plain_ones : Option Addr} {sl__law_plain_ones : Array (Option Value)} {oc__law_plain_ones kV__law_plain_ones dc__law_plain_ones pm__law_plain_ones cd__law_plain_ones ct__law_plain_ones : Value}
    {f__law_refusal : Addr} {od__law_refusal an__law_refusal : Option Addr} {sl__law_refusal : Array (Option Value)} {oc__law_refusal kV__law_refusal dc__law_refusal pm__law_refusal cd__law_refusal ct__law_refusal : Value}
    {f_law : Addr} {od_law an_law : Option Addr} {sl_law : Array (Option Value)} {oc_law kV_law dc_law pm_law cd_law ct_law : Value}
    {e_SpanError : Addr}
    {e_NoBook : Addr}
    {e_NoTime : Addr}
    {e_NoShare : Addr}
    {e_NoParts : Addr}
    {e_NoPlain : Addr}
    {e_NoKind : Addr}
    {e_NoMarks : Addr}
    {e_NoWord : Addr}
    {e_NoFull : Addr}
    {e_NoNumber : Addr}
    {e_NoBand : Addr}
    {e_NoName : Addr}
    {e_NoDay : Addr}
    {e_NoDeed : Addr}
    {e_NoFraction : Addr}
    {e_NoText : Addr}
    {e_NoLine : Addr}
    {e_TooMany : Addr}
    {i_TooMany N_TooMany : Addr} {nm_TooMany qn_TooMany : Str} {bs_TooMany bm_TooMany sub_TooMany : List Value} {sn_TooMany : List Str} {ab_TooMany : Bool} {col_TooMany : Option Bool} {dd_TooMany odi_TooMany ani_TooMany : Option Addr} {m0_TooMany m1_TooMany m2_TooMany m3_TooMany m5_TooMany : Option Value} {oci_TooMany kVi_TooMany dci_TooMany pmi_TooMany cdi_TooMany cti_TooMany : Value} {sli_TooMany : Array (Option Value)}
    (a__law_pot : PySem.W.nsIn K mainGlobals "_law_pot" = some (some (.ref f__law_pot)))
    (l__law_pot : K.lookup f__law_pot = some ⟨oc__law_pot, od__law_pot, .func (PySem.W.fnOf "_law_pot" "_law_pot" (defArgs st__law_pot) (defBody st__law_pot) (defScope st__law_pot) .none kV__law_pot dc__law_pot pm__law_pot an__law_pot cd__law_pot ct__law_pot), sl__law_pot⟩)
    (c__law_pot : PySem.W.codeIn K cd__law_pot "_law_pot" = true)
    (k__law_pot : PySem.W.keepIn K (.ref f__law_pot) = true)
    (a__law_cell_at : PySem.W.nsIn K mainGlobals "_law_cell_at" = some (some (.ref f__law_cell_at)))
    (l__law_cell_at : K.lookup f__law_cell_at = some ⟨oc__law_cell_at, od__law_cell_at, .func (PySem.W.fnOf "_law_cell_at" "_law_cell_at" (defArgs st__law_cell_at) (defBody st__law_cell_at) (defScope st__law_cell_at) .none kV__law_cell_at dc__law_cell_at pm__law_cell_at an__law_cell_at cd__law_cell_at ct__law_cell_at), sl__law_cell_at⟩)
    (c__law_cell_at : PySem.W.codeIn K cd__law_cell_at "_law_cell_at" = true)
    (k__law_cell_at : PySem.W.keepIn K (.ref f__law_cell_at) = true)
    (a__law_take : PySem.W.nsIn K mainGlobals "_law_take" = some (some (.ref f__law_take)))
    (l__law_take : K.lookup f__law_take = some ⟨oc__law_take, od__law_take, .func (PySem.W.fnOf "_law_take" "_law_take" (defArgs st__law_take) (defBody st__law_take) (defScope st__law_take) .none kV__law_take dc__law_take pm__law_take an__law_take cd__law_take ct__law_take), sl__law_take⟩)
    (c__law_take : PySem.W.codeIn K cd__law_take "_law_take" = true)
    (k__law_take : PySem.W.keepIn K (.ref f__law_take) = true)
    (a__law_plain_ones : PySem.W.nsIn K mainGlobals "_law_plain_ones" = some (some (.ref f__law_plain_ones)))
    (l__law_plain_ones : K.lookup f__law_plain_ones = some ⟨oc__law_plain_ones, od__law_plain_ones, .func (PySem.W.fnOf "_law_plain_ones" "_law_plain_ones" (defArgs st__law_plain_ones) (defBody st__law_plain_ones) (defScope st__law_plain_ones) .none kV__law_plain_ones dc__law_plain_ones pm__law_plain_ones an__law_plain_ones cd__law_plain_ones ct__law_plain_ones), sl__law_plain_ones⟩)
    (c__law_plain_ones : PySem.W.codeIn K cd__law_plain_ones "_law_plain_ones" = true)
    (k__law_plain_ones : PySem.W.keepIn K (.ref f__law_plain_ones) = true)
    (a__law_refusal : PySem.W.nsIn K mainGlobals "_law_refusal" = some (some (.ref f__law_refusal)))
    (l__law_refusal : K.lookup f__law_refusal = some ⟨oc__law_refusal, od__law_refusal, .func (PySem.W.fnOf "_law_refusal" "_law_refusal" (defArgs st__law_refusal) (defBody st__law_refusal) (defScope st__law_refusal) .none kV__law_refusal dc__law_refusal pm__law_refusal an__law_refusal cd__law_refusal ct__law_refusal), sl__law_refusal⟩)
    (c__law_refusal : PySem.W.codeIn K cd__law_refusal "_law_refusal" = true)
    (k__law_refusal : PySem.W.keepIn K (.ref f__law_refusal) = true)
    (a_law : PySem.W.nsIn K mainGlobals "law" = some (some (.ref f_law)))
    (l_law : K.lookup f_law = some ⟨oc_law, od_law, .func (PySem.W.fnOf "law" "law" (defArgs st_law) (defBody st_law) (defScope st_law) .none kV_law dc_law pm_law an_law cd_law ct_law), sl_law⟩)
    (c_law : PySem.W.codeIn K cd_law "law" = true)
    (k_law : PySem.W.keepIn K (.ref f_law) = true)
    (z_LookupError : PySem.W.nsIn K mainGlobals "LookupError" = some none)
    (z_TypeError : PySem.W.nsIn K mainGlobals "TypeError" = some none)
    (z_ValueError : PySem.W.nsIn K mainGlobals "ValueError" = some none)
    (z_all : PySem.W.nsIn K mainGlobals "all" = some none)
    (z_isinstance : PySem.W.nsIn K mainGlobals "isinstance" = some none)
    (z_len : PySem.W.nsIn K mainGlobals "len" = some none)
    (z_max : PySem.W.nsIn K mainGlobals "max" = some none)
    (z_min : PySem.W.nsIn K mainGlobals "min" = some none)
    (z_range : PySem.W.nsIn K mainGlobals "range" = some none)
    (g_SpanError : PySem.W.nsIn K mainGlobals "SpanError" = some (some (.ref e_SpanError)))
    (g_NoBook : PySem.W.nsIn K mainGlobals "NoBook" = some (some (.ref e_NoBook)))
    (q_NoBook : PySem.W.keepIn K (.ref e_NoBook) = true)
    (x_NoBook : PySem.W.excIn K e_NoBook veM "ValueError.__new__" = true)
    (b_NoBook : PySem.W.subIn K (.ref e_NoBook) (.type "BaseException") = some true)
    (t_NoBook : PySem.W.typeIn K (.ref e_NoBook) = some (.type "type"))
    (g_NoTime : PySem.W.nsIn K mainGlobals "NoTime" = some (some (.ref e_NoTime)))
    (q_NoTime : PySem.W.keepIn K (.ref e_NoTime) = true)
    (x_NoTime : PySem.W.excIn K e_NoTime veM "ValueError.__new__" = true)
    (b_NoTime : PySem.W.subIn K (.ref e_NoTime) (.type "BaseException") = some true)
    (t_NoTime : PySem.W.typeIn K (.ref e_NoTime) = some (.type "type"))
    (g_NoShare : PySem.W.nsIn K mainGlobals "NoShare" = some (some (.ref e_NoShare)))
    (q_NoShare : PySem.W.keepIn K (.ref e_NoShare) = true)
    (x_NoShare : PySem.W.excIn K e_NoShare veM "ValueError.__new__" = true)
    (b_NoShare : PySem.W.subIn K (.ref e_NoShare) (.type "BaseException") = some true)
    (t_NoShare : PySem.W.typeIn K (.ref e_NoShare) = some (.type "type"))
    (g_NoParts : PySem.W.nsIn K mainGlobals "NoParts" = some (some (.ref e_NoParts)))
    (q_NoParts : PySem.W.keepIn K (.ref e_NoParts) = true)
    (x_NoParts : PySem.W.excIn K e_NoParts veM "ValueError.__new__" = true)
    (b_NoParts : PySem.W.subIn K (.ref e_NoParts) (.type "BaseException") = some true)
    (t_NoParts : PySem.W.typeIn K (.ref e_NoParts) = some (.type "type"))
    (g_NoPlain : PySem.W.nsIn K mainGlobals "NoPlain" = some (some (.ref e_NoPlain)))
    (q_NoPlain : PySem.W.keepIn K (.ref e_NoPlain) = true)
    (x_NoPlain : PySem.W.excIn K e_NoPlain veM "ValueError.__new__" = true)
    (b_NoPlain : PySem.W.subIn K (.ref e_NoPlain) (.type "BaseException") = some true)
    (t_NoPlain : PySem.W.typeIn K (.ref e_NoPlain) = some (.type "type"))
    (g_NoKind : PySem.W.nsIn K mainGlobals "NoKind" = some (some (.ref e_NoKind)))
    (q_NoKind : PySem.W.keepIn K (.ref e_NoKind) = true)
    (x_NoKind : PySem.W.excIn K e_NoKind veM "ValueError.__new__" = true)
    (b_NoKind : PySem.W.subIn K (.ref e_NoKind) (.type "BaseException") = some true)
    (t_NoKind : PySem.W.typeIn K (.ref e_NoKind) = some (.type "type"))
    (g_NoMarks : PySem.W.nsIn K mainGlobals "NoMarks" = some (some (.ref e_NoMarks)))
    (q_NoMarks : PySem.W.keepIn K (.ref e_NoMarks) = true)
    (x_NoMarks : PySem.W.excIn K e_NoMarks veM "ValueError.__new__" = true)
    (b_NoMarks : PySem.W.subIn K (.ref e_NoMarks) (.type "BaseException") = some true)
    (t_NoMarks : PySem.W.typeIn K (.ref e_NoMarks) = some (.type "type"))
    (g_NoWord : PySem.W.nsIn K mainGlobals "NoWord" = some (some (.ref e_NoWord)))
    (q_NoWord : PySem.W.keepIn K (.ref e_NoWord) = true)
    (x_NoWord : PySem.W.excIn K e_NoWord veM "ValueError.__new__" = true)
    (b_NoWord : PySem.W.subIn K (.ref e_NoWord) (.type "BaseException") = some true)
    (t_NoWord : PySem.W.typeIn K (.ref e_NoWord) = some (.type "type"))
    (g_NoFull : PySem.W.nsIn K mainGlobals "NoFull" = some (some (.ref e_NoFull)))
    (q_NoFull : PySem.W.keepIn K (.ref e_NoFull) = true)
    (x_NoFull : PySem.W.excIn K e_NoFull veM "ValueError.__new__" = true)
    (b_NoFull : PySem.W.subIn K (.ref e_NoFull) (.type "BaseException") = some true)
    (t_NoFull : PySem.W.typeIn K (.ref e_NoFull) = some (.type "type"))
    (g_NoNumber : PySem.W.nsIn K mainGlobals "NoNumber" = some (some (.ref e_NoNumber)))
    (q_NoNumber : PySem.W.keepIn K (.ref e_NoNumber) = true)
    (x_NoNumber : PySem.W.excIn K e_NoNumber veM "ValueError.__new__" = true)
    (b_NoNumber : PySem.W.subIn K (.ref e_NoNumber) (.type "BaseException") = some true)
    (t_NoNumber : PySem.W.typeIn K (.ref e_NoNumber) = some (.type "type"))
    (g_NoBand : PySem.W.nsIn K mainGlobals "NoBand" = some (some (.ref e_NoBand)))
    (q_NoBand : PySem.W.keepIn K (.ref e_NoBand) = true)
    (x_NoBand : PySem.W.excIn K e_NoBand veM "ValueError.__new__" = true)
    (b_NoBand : PySem.W.subIn K (.ref e_NoBand) (.type "BaseException") = some true)
    (t_NoBand : PySem.W.typeIn K (.ref e_NoBand) = some (.type "type"))
    (g_NoName : PySem.W.nsIn K mainGlobals "NoName" = some (some (.ref e_NoName)))
    (q_NoName : PySem.W.keepIn K (.ref e_NoName) = true)
    (x_NoName : PySem.W.excIn K e_NoName veM "ValueError.__new__" = true)
    (b_NoName : PySem.W.subIn K (.ref e_NoName) (.type "BaseException") = some true)
    (t_NoName : PySem.W.typeIn K (.ref e_NoName) = some (.type "type"))
    (g_NoDay : PySem.W.nsIn K mainGlobals "NoDay" = some (some (.ref e_NoDay)))
    (q_NoDay : PySem.W.keepIn K (.ref e_NoDay) = true)
    (x_NoDay : PySem.W.excIn K e_NoDay veM "ValueError.__new__" = true)
    (b_NoDay : PySem.W.subIn K (.ref e_NoDay) (.type "BaseException") = some true)
    (t_NoDay : PySem.W.typeIn K (.ref e_NoDay) = some (.type "type"))
    (g_NoDeed : PySem.W.nsIn K mainGlobals "NoDeed" = some (some (.ref e_NoDeed)))
    (q_NoDeed : PySem.W.keepIn K (.ref e_NoDeed) = true)
    (x_NoDeed : PySem.W.excIn K e_NoDeed veM "ValueError.__new__" = true)
    (b_NoDeed : PySem.W.subIn K (.ref e_NoDeed) (.type "BaseException") = some true)
    (t_NoDeed : PySem.W.typeIn K (.ref e_NoDeed) = some (.type "type"))
    (g_NoFraction : PySem.W.nsIn K mainGlobals "NoFraction" = some (some (.ref e_NoFraction)))
    (q_NoFraction : PySem.W.keepIn K (.ref e_NoFraction) = true)
    (x_NoFraction : PySem.W.excIn K e_NoFraction veM "ValueError.__new__" = true)
    (b_NoFraction : PySem.W.subIn K (.ref e_NoFraction) (.type "BaseException") = some true)
    (t_NoFraction : PySem.W.typeIn K (.ref e_NoFraction) = some (.type "type"))
    (g_NoText : PySem.W.nsIn K mainGlobals "NoText" = some (some (.ref e_NoText)))
    (q_NoText : PySem.W.keepIn K (.ref e_NoText) = true)
    (x_NoText : PySem.W.excIn K e_NoText veM "ValueError.__new__" = true)
    (b_NoText : PySem.W.subIn K (.ref e_NoText) (.type "BaseException") = some true)
    (t_NoText : PySem.W.typeIn K (.ref e_NoText) = some (.type "type"))
    (g_NoLine : PySem.W.nsIn K mainGlobals "NoLine" = some (some (.ref e_NoLine)))
    (q_NoLine : PySem.W.keepIn K (.ref e_NoLine) = true)
    (x_NoLine : PySem.W.excIn K e_NoLine veM "ValueError.__new__" = true)
    (b_NoLine : PySem.W.subIn K (.ref e_NoLine) (.type "BaseException") = some true)
    (t_NoLine : PySem.W.typeIn K (.ref e_NoLine) = some (.type "type"))
    (g_TooMany : PySem.W.nsIn K mainGlobals "TooMany" = some (some (.ref e_TooMany)))
    (q_TooMany : PySem.W.keepIn K (.ref e_TooMany) = true)
    (y_TooMany : K.lookup e_TooMany = some (excClassObj nm_TooMany qn_TooMany e_TooMany N_TooMany bs_TooMany bm_TooMany true sn_TooMany sub_TooMany ab_TooMany col_TooMany dd_TooMany m0_TooMany m1_TooMany m2_TooMany m3_TooMany m5_TooMany "ValueError.__new__"))
    (rv_TooMany : PySem.HandSPX.refsVE bm_TooMany = true)
    (sa_TooMany : PySem.W.findIn K (.ref e_TooMany) "__setattr__" = some (some (.builtin "object.__setattr__")))
    (v1_TooMany : PySem.W.findIn K (.ref e_TooMany) "many" = some none)
    (v2_TooMany : PySem.W.findIn K (.ref e_TooMany) "most" = some none)
    (wi_TooMany : PySem.W.findIn K (.ref e_TooMany) "__init__" = some (some (.ref i_TooMany)))
    (ti_TooMany : PySem.W.typeIn K (.ref i_TooMany) = some (.type "function"))
    (li_TooMany : K.lookup i_TooMany = some ⟨oci_TooMany, odi_TooMany, .func (PySem.W.fnOf "__init__" "TooMany.__init__" (defArgs st_TooMany) (defBody st_TooMany) (defScope st_TooMany) .none kVi_TooMany dci_TooMany pmi_TooMany ani_TooMany cdi_TooMany cti_TooMany), sli_TooMany⟩)
    (ci_TooMany : PySem.W.codeIn K cdi_TooMany "TooMany.__init__" = true)
    (xf_TooMany : L2.xfB K e_TooMany = true)
    (b_TooMany : PySem.W.subIn K (.ref e_TooMany) (.type "BaseException") = some true)
    (t_TooMany : PySem.W.typeIn K (.ref e_TooMany) = some (.type "type"))
    (xq_NoBook : excCB K e_NoBook = true)
    (xi_NoBook_NoBook : PySem.W.kitOne K (.ref e_NoBook) (.ref e_NoBook) = some true)
    (xi_NoBook_NoTime : PySem.W.kitOne K (.ref e_NoBook) (.ref e_NoTime) = some false)
    (xi_NoBook_NoShare : PySem.W.kitOne K (.ref e_NoBook) (.ref e_NoShare) = some false)
    (xi_NoBook_NoParts : PySem.W.kitOne K (.ref e_NoBook) (.ref e_NoParts) = some false)
    (xi_NoBook_NoPlain : PySem.W.kitOne K (.ref e_NoBook) (.ref e_NoPlain) = some false)
    (xi_NoBook_NoKind : PySem.W.kitOne K (.ref e_NoBook) (.ref e_NoKind) = some false)
    (xi_NoBook_NoMarks : PySem.W.kitOne K (.ref e_NoBook) (.ref e_NoMarks) = some false)
    (xi_NoBook_NoWord : PySem.W.kitOne K (.ref e_NoBook) (.ref e_NoWord) = some false)
    (xi_NoBook_NoFull : PySem.W.kitOne K (.ref e_NoBook) (.ref e_NoFull) = some false)
    (xi_NoBook_NoNumber : PySem.W.kitOne K (.ref e_NoBook) (.ref e_NoNumber) = some false)
    (xi_NoBook_NoBand : PySem.W.kitOne K (.ref e_NoBook) (.ref e_NoBand) = some false)
    (xi_NoBook_NoName : PySem.W.kitOne K (.ref e_NoBook) (.ref e_NoName) = some false)
    (xi_NoBook_NoDay : PySem.W.kitOne K (.ref e_NoBook) (.ref e_NoDay) = some false)
    (xi_NoBook_NoDeed : PySem.W.kitOne K (.ref e_NoBook) (.ref e_NoDeed) = some false)
    (xi_NoBook_NoFraction : PySem.W.kitOne K (.ref e_NoBook) (.ref e_NoFraction) = some false)
    (xi_NoBook_NoText : PySem.W.kitOne K (.ref e_NoBook) (.ref e_NoText) = some false)
    (xi_NoBook_NoLine : PySem.W.kitOne K (.ref e_NoBook) (.ref e_NoLine) = some false)
    (xi_NoBook_TooMany : PySem.W.kitOne K (.ref e_NoBook) (.ref e_TooMany) = some false)
    (xi_NoBook_ValueError : PySem.W.kitOne K (.ref e_NoBook) (.type "ValueError") = some true)
    (xi_NoBook_SpanError : PySem.W.kitOne K (.ref e_NoBook) (.ref e_SpanError) = some true)
    (xj_NoBook_0 : PySem.W.kitAny K (.ref e_NoBook) [.type "LookupError", .type "TypeError"] = some false)
    (xq_NoTime : excCB K e_NoTime = true)
    (xi_NoTime_NoBook : PySem.W.kitOne K (.ref e_NoTime) (.ref e_NoBook) = some false)
    (xi_NoTime_NoTime : PySem.W.kitOne K (.ref e_NoTime) (.ref e_NoTime) = some true)
    (xi_NoTime_NoShare : PySem.W.kitOne K (.ref e_NoTime) (.ref e_NoShare) = some false)
    (xi_NoTime_NoParts : PySem.W.kitOne K (.ref e_NoTime) (.ref e_NoParts) = some false)
    (xi_NoTime_NoPlain : PySem.W.kitOne K (.ref e_NoTime) (.ref e_NoPlain) = some false)
    (xi_NoTime_NoKind : PySem.W.kitOne K (.ref e_NoTime) (.ref e_NoKind) = some false)
    (xi_NoTime_NoMarks : PySem.W.kitOne K (.ref e_NoTime) (.ref e_NoMarks) = some false)
    (xi_NoTime_NoWord : PySem.W.kitOne K (.ref e_NoTime) (.ref e_NoWord) = some false)
    (xi_NoTime_NoFull : PySem.W.kitOne K (.ref e_NoTime) (.ref e_NoFull) = some false)
    (xi_NoTime_NoNumber : PySem.W.kitOne K (.ref e_NoTime) (.ref e_NoNumber) = some false)
    (xi_NoTime_NoBand : PySem.W.kitOne K (.ref e_NoTime) (.ref e_NoBand) = some false)
    (xi_NoTime_NoName : PySem.W.kitOne K (.ref e_NoTime) (.ref e_NoName) = some false)
    (xi_NoTime_NoDay : PySem.W.kitOne K (.ref e_NoTime) (.ref e_NoDay) = some false)
    (xi_NoTime_NoDeed : PySem.W.kitOne K (.ref e_NoTime) (.ref e_NoDeed) = some false)
    (xi_NoTime_NoFraction : PySem.W.kitOne K (.ref e_NoTime) (.ref e_NoFraction) = some false)
    (xi_NoTime_NoText : PySem.W.kitOne K (.ref e_NoTime) (.ref e_NoText) = some false)
    (xi_NoTime_NoLine : PySem.W.kitOne K (.ref e_NoTime) (.ref e_NoLine) = some false)
    (xi_NoTime_TooMany : PySem.W.kitOne K (.ref e_NoTime) (.ref e_TooMany) = some false)
    (xi_NoTime_ValueError : PySem.W.kitOne K (.ref e_NoTime) (.type "ValueError") = some true)
    (xi_NoTime_SpanError : PySem.W.kitOne K (.ref e_NoTime) (.ref e_SpanError) = some true)
    (xj_NoTime_0 : PySem.W.kitAny K (.ref e_NoTime) [.type "LookupError", .type "TypeError"] = some false)
    (xq_NoShare : excCB K e_NoShare = true)
    (xi_NoShare_NoBook : PySem.W.kitOne K (.ref e_NoShare) (.ref e_NoBook) = some false)
    (xi_NoShare_NoTime : PySem.W.kitOne K (.ref e_NoShare) (.ref e_NoTime) = some false)
    (xi_NoShare_NoShare : PySem.W.kitOne K (.ref e_NoShare) (.ref e_NoShare) = some true)
    (xi_NoShare_NoParts : PySem.W.kitOne K (.ref e_NoShare) (.ref e_NoParts) = some false)
    (xi_NoShare_NoPlain : PySem.W.kitOne K (.ref e_NoShare) (.ref e_NoPlain) = some false)
    (xi_NoShare_NoKind : PySem.W.kitOne K (.ref e_NoShare) (.ref e_NoKind) = some false)
    (xi_NoShare_NoMarks : PySem.W.kitOne K (.ref e_NoShare) (.ref e_NoMarks) = some false)
    (xi_NoShare_NoWord : PySem.W.kitOne K (.ref e_NoShare) (.ref e_NoWord) = some false)
    (xi_NoShare_NoFull : PySem.W.kitOne K (.ref e_NoShare) (.ref e_NoFull) = some false)
    (xi_NoShare_NoNumber : PySem.W.kitOne K (.ref e_NoShare) (.ref e_NoNumber) = some false)
    (xi_NoShare_NoBand : PySem.W.kitOne K (.ref e_NoShare) (.ref e_NoBand) = some false)
    (xi_NoShare_NoName : PySem.W.kitOne K (.ref e_NoShare) (.ref e_NoName) = some false)
    (xi_NoShare_NoDay : PySem.W.kitOne K (.ref e_NoShare) (.ref e_NoDay) = some false)
    (xi_NoShare_NoDeed : PySem.W.kitOne K (.ref e_NoShare) (.ref e_NoDeed) = some false)
    (xi_NoShare_NoFraction : PySem.W.kitOne K (.ref e_NoShare) (.ref e_NoFraction) = some false)
    (xi_NoShare_NoText : PySem.W.kitOne K (.ref e_NoShare) (.ref e_NoText) = some false)
    (xi_NoShare_NoLine : PySem.W.kitOne K (.ref e_NoShare) (.ref e_NoLine) = some false)
    (xi_NoShare_TooMany : PySem.W.kitOne K (.ref e_NoShare) (.ref e_TooMany) = some false)
    (xi_NoShare_ValueError : PySem.W.kitOne K (.ref e_NoShare) (.type "ValueError") = some true)
    (xi_NoShare_SpanError : PySem.W.kitOne K (.ref e_NoShare) (.ref e_SpanError) = some true)
    (xj_NoShare_0 : PySem.W.kitAny K (.ref e_NoShare) [.type "LookupError", .type "TypeError"] = some false)
    (xq_NoParts : excCB K e_NoParts = true)
    (xi_NoParts_NoBook : PySem.W.kitOne K (.ref e_NoParts) (.ref e_NoBook) = some false)
    (xi_NoParts_NoTime : PySem.W.kitOne K (.ref e_NoParts) (.ref e_NoTime) = some false)
    (xi_NoParts_NoShare : PySem.W.kitOne K (.ref e_NoParts) (.ref e_NoShare) = some false)
    (xi_NoParts_NoParts : PySem.W.kitOne K (.ref e_NoParts) (.ref e_NoParts) = some true)
    (xi_NoParts_NoPlain : PySem.W.kitOne K (.ref e_NoParts) (.ref e_NoPlain) = some false)
    (xi_NoParts_NoKind : PySem.W.kitOne K (.ref e_NoParts) (.ref e_NoKind) = some false)
    (xi_NoParts_NoMarks : PySem.W.kitOne K (.ref e_NoParts) (.ref e_NoMarks) = some false)
    (xi_NoParts_NoWord : PySem.W.kitOne K (.ref e_NoParts) (.ref e_NoWord) = some false)
    (xi_NoParts_NoFull : PySem.W.kitOne K (.ref e_NoParts) (.ref e_NoFull) = some false)
    (xi_NoParts_NoNumber : PySem.W.kitOne K (.ref e_NoParts) (.ref e_NoNumber) = some false)
    (xi_NoParts_NoBand : PySem.W.kitOne K (.ref e_NoParts) (.ref e_NoBand) = some false)
    (xi_NoParts_NoName : PySem.W.kitOne K (.ref e_NoParts) (.ref e_NoName) = some false)
    (xi_NoParts_NoDay : PySem.W.kitOne K (.ref e_NoParts) (.ref e_NoDay) = some false)
    (xi_NoParts_NoDeed : PySem.W.kitOne K (.ref e_NoParts) (.ref e_NoDeed) = some false)
    (xi_NoParts_NoFraction : PySem.W.kitOne K (.ref e_NoParts) (.ref e_NoFraction) = some false)
    (xi_NoParts_NoText : PySem.W.kitOne K (.ref e_NoParts) (.ref e_NoText) = some false)
    (xi_NoParts_NoLine : PySem.W.kitOne K (.ref e_NoParts) (.ref e_NoLine) = some false)
    (xi_NoParts_TooMany : PySem.W.kitOne K (.ref e_NoParts) (.ref e_TooMany) = some false)
    (xi_NoParts_ValueError : PySem.W.kitOne K (.ref e_NoParts) (.type "ValueError") = some true)
    (xi_NoParts_SpanError : PySem.W.kitOne K (.ref e_NoParts) (.ref e_SpanError) = some true)
    (xj_NoParts_0 : PySem.W.kitAny K (.ref e_NoParts) [.type "LookupError", .type "TypeError"] = some false)
    (xq_NoPlain : excCB K e_NoPlain = true)
    (xi_NoPlain_NoBook : PySem.W.kitOne K (.ref e_NoPlain) (.ref e_NoBook) = some false)
    (xi_NoPlain_NoTime : PySem.W.kitOne K (.ref e_NoPlain) (.ref e_NoTime) = some false)
    (xi_NoPlain_NoShare : PySem.W.kitOne K (.ref e_NoPlain) (.ref e_NoShare) = some false)
    (xi_NoPlain_NoParts : PySem.W.kitOne K (.ref e_NoPlain) (.ref e_NoParts) = some false)
    (xi_NoPlain_NoPlain : PySem.W.kitOne K (.ref e_NoPlain) (.ref e_NoPlain) = some true)
    (xi_NoPlain_NoKind : PySem.W.kitOne K (.ref e_NoPlain) (.ref e_NoKind) = some false)
    (xi_NoPlain_NoMarks : PySem.W.kitOne K (.ref e_NoPlain) (.ref e_NoMarks) = some false)
    (xi_NoPlain_NoWord : PySem.W.kitOne K (.ref e_NoPlain) (.ref e_NoWord) = some false)
    (xi_NoPlain_NoFull : PySem.W.kitOne K (.ref e_NoPlain) (.ref e_NoFull) = some false)
    (xi_NoPlain_NoNumber : PySem.W.kitOne K (.ref e_NoPlain) (.ref e_NoNumber) = some false)
    (xi_NoPlain_NoBand : PySem.W.kitOne K (.ref e_NoPlain) (.ref e_NoBand) = some false)
    (xi_NoPlain_NoName : PySem.W.kitOne K (.ref e_NoPlain) (.ref e_NoName) = some false)
    (xi_NoPlain_NoDay : PySem.W.kitOne K (.ref e_NoPlain) (.ref e_NoDay) = some false)
    (xi_NoPlain_NoDeed : PySem.W.kitOne K (.ref e_NoPlain) (.ref e_NoDeed) = some false)
    (xi_NoPlain_NoFraction : PySem.W.kitOne K (.ref e_NoPlain) (.ref e_NoFraction) = some false)
    (xi_NoPlain_NoText : PySem.W.kitOne K (.ref e_NoPlain) (.ref e_NoText) = some false)
    (xi_NoPlain_NoLine : PySem.W.kitOne K (.ref e_NoPlain) (.ref e_NoLine) = some false)
    (xi_NoPlain_TooMany : PySem.W.kitOne K (.ref e_NoPlain) (.ref e_TooMany) = some false)
    (xi_NoPlain_ValueError : PySem.W.kitOne K (.ref e_NoPlain) (.type "ValueError") = some true)
    (xi_NoPlain_SpanError : PySem.W.kitOne K (.ref e_NoPlain) (.ref e_SpanError) = some true)
    (xj_NoPlain_0 : PySem.W.kitAny K (.ref e_NoPlain) [.type "LookupError", .type "TypeError"] = some false)
    (xq_NoKind : excCB K e_NoKind = true)
    (xi_NoKind_NoBook : PySem.W.kitOne K (.ref e_NoKind) (.ref e_NoBook) = some false)
    (xi_NoKind_NoTime : PySem.W.kitOne K (.ref e_NoKind) (.ref e_NoTime) = some false)
    (xi_NoKind_NoShare : PySem.W.kitOne K (.ref e_NoKind) (.ref e_NoShare) = some false)
    (xi_NoKind_NoParts : PySem.W.kitOne K (.ref e_NoKind) (.ref e_NoParts) = some false)
    (xi_NoKind_NoPlain : PySem.W.kitOne K (.ref e_NoKind) (.ref e_NoPlain) = some false)
    (xi_NoKind_NoKind : PySem.W.kitOne K (.ref e_NoKind) (.ref e_NoKind) = some true)
    (xi_NoKind_NoMarks : PySem.W.kitOne K (.ref e_NoKind) (.ref e_NoMarks) = some false)
    (xi_NoKind_NoWord : PySem.W.kitOne K (.ref e_NoKind) (.ref e_NoWord) = some false)
    (xi_NoKind_NoFull : PySem.W.kitOne K (.ref e_NoKind) (.ref e_NoFull) = some false)
    (xi_NoKind_NoNumber : PySem.W.kitOne K (.ref e_NoKind) (.ref e_NoNumber) = some false)
    (xi_NoKind_NoBand : PySem.W.kitOne K (.ref e_NoKind) (.ref e_NoBand) = some false)
    (xi_NoKind_NoName : PySem.W.kitOne K (.ref e_NoKind) (.ref e_NoName) = some false)
    (xi_NoKind_NoDay : PySem.W.kitOne K (.ref e_NoKind) (.ref e_NoDay) = some false)
    (xi_NoKind_NoDeed : PySem.W.kitOne K (.ref e_NoKind) (.ref e_NoDeed) = some false)
    (xi_NoKind_NoFraction : PySem.W.kitOne K (.ref e_NoKind) (.ref e_NoFraction) = some false)
    (xi_NoKind_NoText : PySem.W.kitOne K (.ref e_NoKind) (.ref e_NoText) = some false)
    (xi_NoKind_NoLine : PySem.W.kitOne K (.ref e_NoKind) (.ref e_NoLine) = some false)
    (xi_NoKind_TooMany : PySem.W.kitOne K (.ref e_NoKind) (.ref e_TooMany) = some false)
    (xi_NoKind_ValueError : PySem.W.kitOne K (.ref e_NoKind) (.type "ValueError") = some true)
    (xi_NoKind_SpanError : PySem.W.kitOne K (.ref e_NoKind) (.ref e_SpanError) = some true)
    (xj_NoKind_0 : PySem.W.kitAny K (.ref e_NoKind) [.type "LookupError", .type "TypeError"] = some false)
    (xq_NoMarks : excCB K e_NoMarks = true)
    (xi_NoMarks_NoBook : PySem.W.kitOne K (.ref e_NoMarks) (.ref e_NoBook) = some false)
    (xi_NoMarks_NoTime : PySem.W.kitOne K (.ref e_NoMarks) (.ref e_NoTime) = some false)
    (xi_NoMarks_NoShare : PySem.W.kitOne K (.ref e_NoMarks) (.ref e_NoShare) = some false)
    (xi_NoMarks_NoParts : PySem.W.kitOne K (.ref e_NoMarks) (.ref e_NoParts) = some false)
    (xi_NoMarks_NoPlain : PySem.W.kitOne K (.ref e_NoMarks) (.ref e_NoPlain) = some false)
    (xi_NoMarks_NoKind : PySem.W.kitOne K (.ref e_NoMarks) (.ref e_NoKind) = some false)
    (xi_NoMarks_NoMarks : PySem.W.kitOne K (.ref e_NoMarks) (.ref e_NoMarks) = some true)
    (xi_NoMarks_NoWord : PySem.W.kitOne K (.ref e_NoMarks) (.ref e_NoWord) = some false)
    (xi_NoMarks_NoFull : PySem.W.kitOne K (.ref e_NoMarks) (.ref e_NoFull) = some false)
    (xi_NoMarks_NoNumber : PySem.W.kitOne K (.ref e_NoMarks) (.ref e_NoNumber) = some false)
    (xi_NoMarks_NoBand : PySem.W.kitOne K (.ref e_NoMarks) (.ref e_NoBand) = some false)
    (xi_NoMarks_NoName : PySem.W.kitOne K (.ref e_NoMarks) (.ref e_NoName) = some false)
    (xi_NoMarks_NoDay : PySem.W.kitOne K (.ref e_NoMarks) (.ref e_NoDay) = some false)
    (xi_NoMarks_NoDeed : PySem.W.kitOne K (.ref e_NoMarks) (.ref e_NoDeed) = some false)
    (xi_NoMarks_NoFraction : PySem.W.kitOne K (.ref e_NoMarks) (.ref e_NoFraction) = some false)
    (xi_NoMarks_NoText : PySem.W.kitOne K (.ref e_NoMarks) (.ref e_NoText) = some false)
    (xi_NoMarks_NoLine : PySem.W.kitOne K (.ref e_NoMarks) (.ref e_NoLine) = some false)
    (xi_NoMarks_TooMany : PySem.W.kitOne K (.ref e_NoMarks) (.ref e_TooMany) = some false)
    (xi_NoMarks_ValueError : PySem.W.kitOne K (.ref e_NoMarks) (.type "ValueError") = some true)
    (xi_NoMarks_SpanError : PySem.W.kitOne K (.ref e_NoMarks) (.ref e_SpanError) = some true)
    (xj_NoMarks_0 : PySem.W.kitAny K (.ref e_NoMarks) [.type "LookupError", .type "TypeError"] = some false)
    (xq_NoWord : excCB K e_NoWord = true)
    (xi_NoWord_NoBook : PySem.W.kitOne K (.ref e_NoWord) (.ref e_NoBook) = some false)
    (xi_NoWord_NoTime : PySem.W.kitOne K (.ref e_NoWord) (.ref e_NoTime) = some false)
    (xi_NoWord_NoShare : PySem.W.kitOne K (.ref e_NoWord) (.ref e_NoShare) = some false)
    (xi_NoWord_NoParts : PySem.W.kitOne K (.ref e_NoWord) (.ref e_NoParts) = some false)
    (xi_NoWord_NoPlain : PySem.W.kitOne K (.ref e_NoWord) (.ref e_NoPlain) = some false)
    (xi_NoWord_NoKind : PySem.W.kitOne K (.ref e_NoWord) (.ref e_NoKind) = some false)
    (xi_NoWord_NoMarks : PySem.W.kitOne K (.ref e_NoWord) (.ref e_NoMarks) = some false)
    (xi_NoWord_NoWord : PySem.W.kitOne K (.ref e_NoWord) (.ref e_NoWord) = some true)
    (xi_NoWord_NoFull : PySem.W.kitOne K (.ref e_NoWord) (.ref e_NoFull) = some false)
    (xi_NoWord_NoNumber : PySem.W.kitOne K (.ref e_NoWord) (.ref e_NoNumber) = some false)
    (xi_NoWord_NoBand : PySem.W.kitOne K (.ref e_NoWord) (.ref e_NoBand) = some false)
    (xi_NoWord_NoName : PySem.W.kitOne K (.ref e_NoWord) (.ref e_NoName) = some false)
    (xi_NoWord_NoDay : PySem.W.kitOne K (.ref e_NoWord) (.ref e_NoDay) = some false)
    (xi_NoWord_NoDeed : PySem.W.kitOne K (.ref e_NoWord) (.ref e_NoDeed) = some false)
    (xi_NoWord_NoFraction : PySem.W.kitOne K (.ref e_NoWord) (.ref e_NoFraction) = some false)
    (xi_NoWord_NoText : PySem.W.kitOne K (.ref e_NoWord) (.ref e_NoText) = some false)
    (xi_NoWord_NoLine : PySem.W.kitOne K (.ref e_NoWord) (.ref e_NoLine) = some false)
    (xi_NoWord_TooMany : PySem.W.kitOne K (.ref e_NoWord) (.ref e_TooMany) = some false)
    (xi_NoWord_ValueError : PySem.W.kitOne K (.ref e_NoWord) (.type "ValueError") = some true)
    (xi_NoWord_SpanError : PySem.W.kitOne K (.ref e_NoWord) (.ref e_SpanError) = some true)
    (xj_NoWord_0 : PySem.W.kitAny K (.ref e_NoWord) [.type "LookupError", .type "TypeError"] = some false)
    (xq_NoFull : excCB K e_NoFull = true)
    (xi_NoFull_NoBook : PySem.W.kitOne K (.ref e_NoFull) (.ref e_NoBook) = some false)
    (xi_NoFull_NoTime : PySem.W.kitOne K (.ref e_NoFull) (.ref e_NoTime) = some false)
    (xi_NoFull_NoShare : PySem.W.kitOne K (.ref e_NoFull) (.ref e_NoShare) = some false)
    (xi_NoFull_NoParts : PySem.W.kitOne K (.ref e_NoFull) (.ref e_NoParts) = some false)
    (xi_NoFull_NoPlain : PySem.W.kitOne K (.ref e_NoFull) (.ref e_NoPlain) = some false)
    (xi_NoFull_NoKind : PySem.W.kitOne K (.ref e_NoFull) (.ref e_NoKind) = some false)
    (xi_NoFull_NoMarks : PySem.W.kitOne K (.ref e_NoFull) (.ref e_NoMarks) = some false)
    (xi_NoFull_NoWord : PySem.W.kitOne K (.ref e_NoFull) (.ref e_NoWord) = some false)
    (xi_NoFull_NoFull : PySem.W.kitOne K (.ref e_NoFull) (.ref e_NoFull) = some true)
    (xi_NoFull_NoNumber : PySem.W.kitOne K (.ref e_NoFull) (.ref e_NoNumber) = some false)
    (xi_NoFull_NoBand : PySem.W.kitOne K (.ref e_NoFull) (.ref e_NoBand) = some false)
    (xi_NoFull_NoName : PySem.W.kitOne K (.ref e_NoFull) (.ref e_NoName) = some false)
    (xi_NoFull_NoDay : PySem.W.kitOne K (.ref e_NoFull) (.ref e_NoDay) = some false)
    (xi_NoFull_NoDeed : PySem.W.kitOne K (.ref e_NoFull) (.ref e_NoDeed) = some false)
    (xi_NoFull_NoFraction : PySem.W.kitOne K (.ref e_NoFull) (.ref e_NoFraction) = some false)
    (xi_NoFull_NoText : PySem.W.kitOne K (.ref e_NoFull) (.ref e_NoText) = some false)
    (xi_NoFull_NoLine : PySem.W.kitOne K (.ref e_NoFull) (.ref e_NoLine) = some false)
    (xi_NoFull_TooMany : PySem.W.kitOne K (.ref e_NoFull) (.ref e_TooMany) = some false)
    (xi_NoFull_ValueError : PySem.W.kitOne K (.ref e_NoFull) (.type "ValueError") = some true)
    (xi_NoFull_SpanError : PySem.W.kitOne K (.ref e_NoFull) (.ref e_SpanError) = some true)
    (xj_NoFull_0 : PySem.W.kitAny K (.ref e_NoFull) [.type "LookupError", .type "TypeError"] = some false)
    (xq_NoNumber : excCB K e_NoNumber = true)
    (xi_NoNumber_NoBook : PySem.W.kitOne K (.ref e_NoNumber) (.ref e_NoBook) = some false)
    (xi_NoNumber_NoTime : PySem.W.kitOne K (.ref e_NoNumber) (.ref e_NoTime) = some false)
    (xi_NoNumber_NoShare : PySem.W.kitOne K (.ref e_NoNumber) (.ref e_NoShare) = some false)
    (xi_NoNumber_NoParts : PySem.W.kitOne K (.ref e_NoNumber) (.ref e_NoParts) = some false)
    (xi_NoNumber_NoPlain : PySem.W.kitOne K (.ref e_NoNumber) (.ref e_NoPlain) = some false)
    (xi_NoNumber_NoKind : PySem.W.kitOne K (.ref e_NoNumber) (.ref e_NoKind) = some false)
    (xi_NoNumber_NoMarks : PySem.W.kitOne K (.ref e_NoNumber) (.ref e_NoMarks) = some false)
    (xi_NoNumber_NoWord : PySem.W.kitOne K (.ref e_NoNumber) (.ref e_NoWord) = some false)
    (xi_NoNumber_NoFull : PySem.W.kitOne K (.ref e_NoNumber) (.ref e_NoFull) = some false)
    (xi_NoNumber_NoNumber : PySem.W.kitOne K (.ref e_NoNumber) (.ref e_NoNumber) = some true)
    (xi_NoNumber_NoBand : PySem.W.kitOne K (.ref e_NoNumber) (.ref e_NoBand) = some false)
    (xi_NoNumber_NoName : PySem.W.kitOne K (.ref e_NoNumber) (.ref e_NoName) = some false)
    (xi_NoNumber_NoDay : PySem.W.kitOne K (.ref e_NoNumber) (.ref e_NoDay) = some false)
    (xi_NoNumber_NoDeed : PySem.W.kitOne K (.ref e_NoNumber) (.ref e_NoDeed) = some false)
    (xi_NoNumber_NoFraction : PySem.W.kitOne K (.ref e_NoNumber) (.ref e_NoFraction) = some false)
    (xi_NoNumber_NoText : PySem.W.kitOne K (.ref e_NoNumber) (.ref e_NoText) = some false)
    (xi_NoNumber_NoLine : PySem.W.kitOne K (.ref e_NoNumber) (.ref e_NoLine) = some false)
    (xi_NoNumber_TooMany : PySem.W.kitOne K (.ref e_NoNumber) (.ref e_TooMany) = some false)
    (xi_NoNumber_ValueError : PySem.W.kitOne K (.ref e_NoNumber) (.type "ValueError") = some true)
    (xi_NoNumber_SpanError : PySem.W.kitOne K (.ref e_NoNumber) (.ref e_SpanError) = some true)
    (xj_NoNumber_0 : PySem.W.kitAny K (.ref e_NoNumber) [.type "LookupError", .type "TypeError"] = some false)
    (xq_NoBand : excCB K e_NoBand = true)
    (xi_NoBand_NoBook : PySem.W.kitOne K (.ref e_NoBand) (.ref e_NoBook) = some false)
    (xi_NoBand_NoTime : PySem.W.kitOne K (.ref e_NoBand) (.ref e_NoTime) = some false)
    (xi_NoBand_NoShare : PySem.W.kitOne K (.ref e_NoBand) (.ref e_NoShare) = some false)
    (xi_NoBand_NoParts : PySem.W.kitOne K (.ref e_NoBand) (.ref e_NoParts) = some false)
    (xi_NoBand_NoPlain : PySem.W.kitOne K (.ref e_NoBand) (.ref e_NoPlain) = some false)
    (xi_NoBand_NoKind : PySem.W.kitOne K (.ref e_NoBand) (.ref e_NoKind) = some false)
    (xi_NoBand_NoMarks : PySem.W.kitOne K (.ref e_NoBand) (.ref e_NoMarks) = some false)
    (xi_NoBand_NoWord : PySem.W.kitOne K (.ref e_NoBand) (.ref e_NoWord) = some false)
    (xi_NoBand_NoFull : PySem.W.kitOne K (.ref e_NoBand) (.ref e_NoFull) = some false)
    (xi_NoBand_NoNumber : PySem.W.kitOne K (.ref e_NoBand) (.ref e_NoNumber) = some false)
    (xi_NoBand_NoBand : PySem.W.kitOne K (.ref e_NoBand) (.ref e_NoBand) = some true)
    (xi_NoBand_NoName : PySem.W.kitOne K (.ref e_NoBand) (.ref e_NoName) = some false)
    (xi_NoBand_NoDay : PySem.W.kitOne K (.ref e_NoBand) (.ref e_NoDay) = some false)
    (xi_NoBand_NoDeed : PySem.W.kitOne K (.ref e_NoBand) (.ref e_NoDeed) = some false)
    (xi_NoBand_NoFraction : PySem.W.kitOne K (.ref e_NoBand) (.ref e_NoFraction) = some false)
    (xi_NoBand_NoText : PySem.W.kitOne K (.ref e_NoBand) (.ref e_NoText) = some false)
    (xi_NoBand_NoLine : PySem.W.kitOne K (.ref e_NoBand) (.ref e_NoLine) = some false)
    (xi_NoBand_TooMany : PySem.W.kitOne K (.ref e_NoBand) (.ref e_TooMany) = some false)
    (xi_NoBand_ValueError : PySem.W.kitOne K (.ref e_NoBand) (.type "ValueError") = some true)
    (xi_NoBand_SpanError : PySem.W.kitOne K (.ref e_NoBand) (.ref e_SpanError) = some true)
    (xj_NoBand_0 : PySem.W.kitAny K (.ref e_NoBand) [.type "LookupError", .type "TypeError"] = some false)
    (xq_NoName : excCB K e_NoName = true)
    (xi_NoName_NoBook : PySem.W.kitOne K (.ref e_NoName) (.ref e_NoBook) = some false)
    (xi_NoName_NoTime : PySem.W.kitOne K (.ref e_NoName) (.ref e_NoTime) = some false)
    (xi_NoName_NoShare : PySem.W.kitOne K (.ref e_NoName) (.ref e_NoShare) = some false)
    (xi_NoName_NoParts : PySem.W.kitOne K (.ref e_NoName) (.ref e_NoParts) = some false)
    (xi_NoName_NoPlain : PySem.W.kitOne K (.ref e_NoName) (.ref e_NoPlain) = some false)
    (xi_NoName_NoKind : PySem.W.kitOne K (.ref e_NoName) (.ref e_NoKind) = some false)
    (xi_NoName_NoMarks : PySem.W.kitOne K (.ref e_NoName) (.ref e_NoMarks) = some false)
    (xi_NoName_NoWord : PySem.W.kitOne K (.ref e_NoName) (.ref e_NoWord) = some false)
    (xi_NoName_NoFull : PySem.W.kitOne K (.ref e_NoName) (.ref e_NoFull) = some false)
    (xi_NoName_NoNumber : PySem.W.kitOne K (.ref e_NoName) (.ref e_NoNumber) = some false)
    (xi_NoName_NoBand : PySem.W.kitOne K (.ref e_NoName) (.ref e_NoBand) = some false)
    (xi_NoName_NoName : PySem.W.kitOne K (.ref e_NoName) (.ref e_NoName) = some true)
    (xi_NoName_NoDay : PySem.W.kitOne K (.ref e_NoName) (.ref e_NoDay) = some false)
    (xi_NoName_NoDeed : PySem.W.kitOne K (.ref e_NoName) (.ref e_NoDeed) = some false)
    (xi_NoName_NoFraction : PySem.W.kitOne K (.ref e_NoName) (.ref e_NoFraction) = some false)
    (xi_NoName_NoText : PySem.W.kitOne K (.ref e_NoName) (.ref e_NoText) = some false)
    (xi_NoName_NoLine : PySem.W.kitOne K (.ref e_NoName) (.ref e_NoLine) = some false)
    (xi_NoName_TooMany : PySem.W.kitOne K (.ref e_NoName) (.ref e_TooMany) = some false)
    (xi_NoName_ValueError : PySem.W.kitOne K (.ref e_NoName) (.type "ValueError") = some true)
    (xi_NoName_SpanError : PySem.W.kitOne K (.ref e_NoName) (.ref e_SpanError) = some true)
    (xj_NoName_0 : PySem.W.kitAny K (.ref e_NoName) [.type "LookupError", .type "TypeError"] = some false)
    (xq_NoDay : excCB K e_NoDay = true)
    (xi_NoDay_NoBook : PySem.W.kitOne K (.ref e_NoDay) (.ref e_NoBook) = some false)
    (xi_NoDay_NoTime : PySem.W.kitOne K (.ref e_NoDay) (.ref e_NoTime) = some false)
    (xi_NoDay_NoShare : PySem.W.kitOne K (.ref e_NoDay) (.ref e_NoShare) = some false)
    (xi_NoDay_NoParts : PySem.W.kitOne K (.ref e_NoDay) (.ref e_NoParts) = some false)
    (xi_NoDay_NoPlain : PySem.W.kitOne K (.ref e_NoDay) (.ref e_NoPlain) = some false)
    (xi_NoDay_NoKind : PySem.W.kitOne K (.ref e_NoDay) (.ref e_NoKind) = some false)
    (xi_NoDay_NoMarks : PySem.W.kitOne K (.ref e_NoDay) (.ref e_NoMarks) = some false)
    (xi_NoDay_NoWord : PySem.W.kitOne K (.ref e_NoDay) (.ref e_NoWord) = some false)
    (xi_NoDay_NoFull : PySem.W.kitOne K (.ref e_NoDay) (.ref e_NoFull) = some false)
    (xi_NoDay_NoNumber : PySem.W.kitOne K (.ref e_NoDay) (.ref e_NoNumber) = some false)
    (xi_NoDay_NoBand : PySem.W.kitOne K (.ref e_NoDay) (.ref e_NoBand) = some false)
    (xi_NoDay_NoName : PySem.W.kitOne K (.ref e_NoDay) (.ref e_NoName) = some false)
    (xi_NoDay_NoDay : PySem.W.kitOne K (.ref e_NoDay) (.ref e_NoDay) = some true)
    (xi_NoDay_NoDeed : PySem.W.kitOne K (.ref e_NoDay) (.ref e_NoDeed) = some false)
    (xi_NoDay_NoFraction : PySem.W.kitOne K (.ref e_NoDay) (.ref e_NoFraction) = some false)
    (xi_NoDay_NoText : PySem.W.kitOne K (.ref e_NoDay) (.ref e_NoText) = some false)
    (xi_NoDay_NoLine : PySem.W.kitOne K (.ref e_NoDay) (.ref e_NoLine) = some false)
    (xi_NoDay_TooMany : PySem.W.kitOne K (.ref e_NoDay) (.ref e_TooMany) = some false)
    (xi_NoDay_ValueError : PySem.W.kitOne K (.ref e_NoDay) (.type "ValueError") = some true)
    (xi_NoDay_SpanError : PySem.W.kitOne K (.ref e_NoDay) (.ref e_SpanError) = some true)
    (xj_NoDay_0 : PySem.W.kitAny K (.ref e_NoDay) [.type "LookupError", .type "TypeError"] = some false)
    (xq_NoDeed : excCB K e_NoDeed = true)
    (xi_NoDeed_NoBook : PySem.W.kitOne K (.ref e_NoDeed) (.ref e_NoBook) = some false)
    (xi_NoDeed_NoTime : PySem.W.kitOne K (.ref e_NoDeed) (.ref e_NoTime) = some false)
    (xi_NoDeed_NoShare : PySem.W.kitOne K (.ref e_NoDeed) (.ref e_NoShare) = some false)
    (xi_NoDeed_NoParts : PySem.W.kitOne K (.ref e_NoDeed) (.ref e_NoParts) = some false)
    (xi_NoDeed_NoPlain : PySem.W.kitOne K (.ref e_NoDeed) (.ref e_NoPlain) = some false)
    (xi_NoDeed_NoKind : PySem.W.kitOne K (.ref e_NoDeed) (.ref e_NoKind) = some false)
    (xi_NoDeed_NoMarks : PySem.W.kitOne K (.ref e_NoDeed) (.ref e_NoMarks) = some false)
    (xi_NoDeed_NoWord : PySem.W.kitOne K (.ref e_NoDeed) (.ref e_NoWord) = some false)
    (xi_NoDeed_NoFull : PySem.W.kitOne K (.ref e_NoDeed) (.ref e_NoFull) = some false)
    (xi_NoDeed_NoNumber : PySem.W.kitOne K (.ref e_NoDeed) (.ref e_NoNumber) = some false)
    (xi_NoDeed_NoBand : PySem.W.kitOne K (.ref e_NoDeed) (.ref e_NoBand) = some false)
    (xi_NoDeed_NoName : PySem.W.kitOne K (.ref e_NoDeed) (.ref e_NoName) = some false)
    (xi_NoDeed_NoDay : PySem.W.kitOne K (.ref e_NoDeed) (.ref e_NoDay) = some false)
    (xi_NoDeed_NoDeed : PySem.W.kitOne K (.ref e_NoDeed) (.ref e_NoDeed) = some true)
    (xi_NoDeed_NoFraction : PySem.W.kitOne K (.ref e_NoDeed) (.ref e_NoFraction) = some false)
    (xi_NoDeed_NoText : PySem.W.kitOne K (.ref e_NoDeed) (.ref e_NoText) = some false)
    (xi_NoDeed_NoLine : PySem.W.kitOne K (.ref e_NoDeed) (.ref e_NoLine) = some false)
    (xi_NoDeed_TooMany : PySem.W.kitOne K (.ref e_NoDeed) (.ref e_TooMany) = some false)
    (xi_NoDeed_ValueError : PySem.W.kitOne K (.ref e_NoDeed) (.type "ValueError") = some true)
    (xi_NoDeed_SpanError : PySem.W.kitOne K (.ref e_NoDeed) (.ref e_SpanError) = some true)
    (xj_NoDeed_0 : PySem.W.kitAny K (.ref e_NoDeed) [.type "LookupError", .type "TypeError"] = some false)
    (xq_NoFraction : excCB K e_NoFraction = true)
    (xi_NoFraction_NoBook : PySem.W.kitOne K (.ref e_NoFraction) (.ref e_NoBook) = some false)
    (xi_NoFraction_NoTime : PySem.W.kitOne K (.ref e_NoFraction) (.ref e_NoTime) = some false)
    (xi_NoFraction_NoShare : PySem.W.kitOne K (.ref e_NoFraction) (.ref e_NoShare) = some false)
    (xi_NoFraction_NoParts : PySem.W.kitOne K (.ref e_NoFraction) (.ref e_NoParts) = some false)
    (xi_NoFraction_NoPlain : PySem.W.kitOne K (.ref e_NoFraction) (.ref e_NoPlain) = some false)
    (xi_NoFraction_NoKind : PySem.W.kitOne K (.ref e_NoFraction) (.ref e_NoKind) = some false)
    (xi_NoFraction_NoMarks : PySem.W.kitOne K (.ref e_NoFraction) (.ref e_NoMarks) = some false)
    (xi_NoFraction_NoWord : PySem.W.kitOne K (.ref e_NoFraction) (.ref e_NoWord) = some false)
    (xi_NoFraction_NoFull : PySem.W.kitOne K (.ref e_NoFraction) (.ref e_NoFull) = some false)
    (xi_NoFraction_NoNumber : PySem.W.kitOne K (.ref e_NoFraction) (.ref e_NoNumber) = some false)
    (xi_NoFraction_NoBand : PySem.W.kitOne K (.ref e_NoFraction) (.ref e_NoBand) = some false)
    (xi_NoFraction_NoName : PySem.W.kitOne K (.ref e_NoFraction) (.ref e_NoName) = some false)
    (xi_NoFraction_NoDay : PySem.W.kitOne K (.ref e_NoFraction) (.ref e_NoDay) = some false)
    (xi_NoFraction_NoDeed : PySem.W.kitOne K (.ref e_NoFraction) (.ref e_NoDeed) = some false)
    (xi_NoFraction_NoFraction : PySem.W.kitOne K (.ref e_NoFraction) (.ref e_NoFraction) = some true)
    (xi_NoFraction_NoText : PySem.W.kitOne K (.ref e_NoFraction) (.ref e_NoText) = some false)
    (xi_NoFraction_NoLine : PySem.W.kitOne K (.ref e_NoFraction) (.ref e_NoLine) = some false)
    (xi_NoFraction_TooMany : PySem.W.kitOne K (.ref e_NoFraction) (.ref e_TooMany) = some false)
    (xi_NoFraction_ValueError : PySem.W.kitOne K (.ref e_NoFraction) (.type "ValueError") = some true)
    (xi_NoFraction_SpanError : PySem.W.kitOne K (.ref e_NoFraction) (.ref e_SpanError) = some true)
    (xj_NoFraction_0 : PySem.W.kitAny K (.ref e_NoFraction) [.type "LookupError", .type "TypeError"] = some false)
    (xq_NoText : excCB K e_NoText = true)
    (xi_NoText_NoBook : PySem.W.kitOne K (.ref e_NoText) (.ref e_NoBook) = some false)
    (xi_NoText_NoTime : PySem.W.kitOne K (.ref e_NoText) (.ref e_NoTime) = some false)
    (xi_NoText_NoShare : PySem.W.kitOne K (.ref e_NoText) (.ref e_NoShare) = some false)
    (xi_NoText_NoParts : PySem.W.kitOne K (.ref e_NoText) (.ref e_NoParts) = some false)
    (xi_NoText_NoPlain : PySem.W.kitOne K (.ref e_NoText) (.ref e_NoPlain) = some false)
    (xi_NoText_NoKind : PySem.W.kitOne K (.ref e_NoText) (.ref e_NoKind) = some false)
    (xi_NoText_NoMarks : PySem.W.kitOne K (.ref e_NoText) (.ref e_NoMarks) = some false)
    (xi_NoText_NoWord : PySem.W.kitOne K (.ref e_NoText) (.ref e_NoWord) = some false)
    (xi_NoText_NoFull : PySem.W.kitOne K (.ref e_NoText) (.ref e_NoFull) = some false)
    (xi_NoText_NoNumber : PySem.W.kitOne K (.ref e_NoText) (.ref e_NoNumber) = some false)
    (xi_NoText_NoBand : PySem.W.kitOne K (.ref e_NoText) (.ref e_NoBand) = some false)
    (xi_NoText_NoName : PySem.W.kitOne K (.ref e_NoText) (.ref e_NoName) = some false)
    (xi_NoText_NoDay : PySem.W.kitOne K (.ref e_NoText) (.ref e_NoDay) = some false)
    (xi_NoText_NoDeed : PySem.W.kitOne K (.ref e_NoText) (.ref e_NoDeed) = some false)
    (xi_NoText_NoFraction : PySem.W.kitOne K (.ref e_NoText) (.ref e_NoFraction) = some false)
    (xi_NoText_NoText : PySem.W.kitOne K (.ref e_NoText) (.ref e_NoText) = some true)
    (xi_NoText_NoLine : PySem.W.kitOne K (.ref e_NoText) (.ref e_NoLine) = some false)
    (xi_NoText_TooMany : PySem.W.kitOne K (.ref e_NoText) (.ref e_TooMany) = some false)
    (xi_NoText_ValueError : PySem.W.kitOne K (.ref e_NoText) (.type "ValueError") = some true)
    (xi_NoText_SpanError : PySem.W.kitOne K (.ref e_NoText) (.ref e_SpanError) = some true)
    (xj_NoText_0 : PySem.W.kitAny K (.ref e_NoText) [.type "LookupError", .type "TypeError"] = some false)
    (xq_NoLine : excCB K e_NoLine = true)
    (xi_NoLine_NoBook : PySem.W.kitOne K (.ref e_NoLine) (.ref e_NoBook) = some false)
    (xi_NoLine_NoTime : PySem.W.kitOne K (.ref e_NoLine) (.ref e_NoTime) = some false)
    (xi_NoLine_NoShare : PySem.W.kitOne K (.ref e_NoLine) (.ref e_NoShare) = some false)
    (xi_NoLine_NoParts : PySem.W.kitOne K (.ref e_NoLine) (.ref e_NoParts) = some false)
    (xi_NoLine_NoPlain : PySem.W.kitOne K (.ref e_NoLine) (.ref e_NoPlain) = some false)
    (xi_NoLine_NoKind : PySem.W.kitOne K (.ref e_NoLine) (.ref e_NoKind) = some false)
    (xi_NoLine_NoMarks : PySem.W.kitOne K (.ref e_NoLine) (.ref e_NoMarks) = some false)
    (xi_NoLine_NoWord : PySem.W.kitOne K (.ref e_NoLine) (.ref e_NoWord) = some false)
    (xi_NoLine_NoFull : PySem.W.kitOne K (.ref e_NoLine) (.ref e_NoFull) = some false)
    (xi_NoLine_NoNumber : PySem.W.kitOne K (.ref e_NoLine) (.ref e_NoNumber) = some false)
    (xi_NoLine_NoBand : PySem.W.kitOne K (.ref e_NoLine) (.ref e_NoBand) = some false)
    (xi_NoLine_NoName : PySem.W.kitOne K (.ref e_NoLine) (.ref e_NoName) = some false)
    (xi_NoLine_NoDay : PySem.W.kitOne K (.ref e_NoLine) (.ref e_NoDay) = some false)
    (xi_NoLine_NoDeed : PySem.W.kitOne K (.ref e_NoLine) (.ref e_NoDeed) = some false)
    (xi_NoLine_NoFraction : PySem.W.kitOne K (.ref e_NoLine) (.ref e_NoFraction) = some false)
    (xi_NoLine_NoText : PySem.W.kitOne K (.ref e_NoLine) (.ref e_NoText) = some false)
    (xi_NoLine_NoLine : PySem.W.kitOne K (.ref e_NoLine) (.ref e_NoLine) = some true)
    (xi_NoLine_TooMany : PySem.W.kitOne K (.ref e_NoLine) (.ref e_TooMany) = some false)
    (xi_NoLine_ValueError : PySem.W.kitOne K (.ref e_NoLine) (.type "ValueError") = some true)
    (xi_NoLine_SpanError : PySem.W.kitOne K (.ref e_NoLine) (.ref e_SpanError) = some true)
    (xj_NoLine_0 : PySem.W.kitAny K (.ref e_NoLine) [.type "LookupError", .type "TypeError"] = some false)
    (xq_TooMany : excCB K e_TooMany = true)
    (xi_TooMany_NoBook : PySem.W.kitOne K (.ref e_TooMany) (.ref e_NoBook) = some false)
    (xi_TooMany_NoTime : PySem.W.kitOne K (.ref e_TooMany) (.ref e_NoTime) = some false)
    (xi_TooMany_NoShare : PySem.W.kitOne K (.ref e_TooMany) (.ref e_NoShare) = some false)
    (xi_TooMany_NoParts : PySem.W.kitOne K (.ref e_TooMany) (.ref e_NoParts) = some false)
    (xi_TooMany_NoPlain : PySem.W.kitOne K (.ref e_TooMany) (.ref e_NoPlain) = some false)
    (xi_TooMany_NoKind : PySem.W.kitOne K (.ref e_TooMany) (.ref e_NoKind) = some false)
    (xi_TooMany_NoMarks : PySem.W.kitOne K (.ref e_TooMany) (.ref e_NoMarks) = some false)
    (xi_TooMany_NoWord : PySem.W.kitOne K (.ref e_TooMany) (.ref e_NoWord) = some false)
    (xi_TooMany_NoFull : PySem.W.kitOne K (.ref e_TooMany) (.ref e_NoFull) = some false)
    (xi_TooMany_NoNumber : PySem.W.kitOne K (.ref e_TooMany) (.ref e_NoNumber) = some false)
    (xi_TooMany_NoBand : PySem.W.kitOne K (.ref e_TooMany) (.ref e_NoBand) = some false)
    (xi_TooMany_NoName : PySem.W.kitOne K (.ref e_TooMany) (.ref e_NoName) = some false)
    (xi_TooMany_NoDay : PySem.W.kitOne K (.ref e_TooMany) (.ref e_NoDay) = some false)
    (xi_TooMany_NoDeed : PySem.W.kitOne K (.ref e_TooMany) (.ref e_NoDeed) = some false)
    (xi_TooMany_NoFraction : PySem.W.kitOne K (.ref e_TooMany) (.ref e_NoFraction) = some false)
    (xi_TooMany_NoText : PySem.W.kitOne K (.ref e_TooMany) (.ref e_NoText) = some false)
    (xi_TooMany_NoLine : PySem.W.kitOne K (.ref e_TooMany) (.ref e_NoLine) = some false)
    (xi_TooMany_TooMany : PySem.W.kitOne K (.ref e_TooMany) (.ref e_TooMany) = some true)
    (xi_TooMany_ValueError : PySem.W.kitOne K (.ref e_TooMany) (.type "ValueError") = some true)
    (xi_TooMany_SpanError : PySem.W.kitOne K (.ref e_TooMany) (.ref e_SpanError) = some true)
    (xj_TooMany_0 : PySem.W.kitAny K (.ref e_TooMany) [.type "LookupError", .type "TypeError"] = some false)
    : Walked ts P w K mg fa "_law_script" 3 fun sem => sem = sem_law := by
  have e := hfa.symm.trans (PySem.W.mg_of X G a_law)
  cases e
  let T : Tb := ⟨K, w, fun _ => 0, fun i => [e_SpanError, e_NoBook, e_NoTime, e_NoShare, e_NoParts, e_NoPlain, e_NoKind, e_NoMarks, e_NoWord, e_NoFull, e_NoNumber, e_NoBand, e_NoName, e_NoDay, e_NoDeed, e_NoFraction, e_NoText, e_NoLine, e_TooMany].getD i 0, [], none, 0, 0⟩
  have F__law_pot := fun_mk (st := st__law_pot) l__law_pot c__law_pot k__law_pot
  have B__law_pot : Binds K _ ["_law_cell"] [] := F__law_pot.binds (ps := ["_law_cell"]) fun _ _ _ _ _ _ us hl => match us, hl with | [_], _ => rfl
  have F__law_cell_at := fun_mk (st := st__law_cell_at) l__law_cell_at c__law_cell_at k__law_cell_at
  have B__law_cell_at : Binds K _ ["_law_script", "_law_k"] [] := F__law_cell_at.binds (ps := ["_law_script", "_law_k"]) fun _ _ _ _ _ _ us hl => match us, hl with | [_, _], _ => rfl
  have F__law_take := fun_mk (st := st__law_take) l__law_take c__law_take k__law_take
  have B__law_take : Binds K _ ["_law_pot_here", "_law_far"] [] := F__law_take.binds (ps := ["_law_pot_here", "_law_far"]) fun _ _ _ _ _ _ us hl => match us, hl with | [_, _], _ => rfl
  have F__law_plain_ones := fun_mk (st := st__law_plain_ones) l__law_plain_ones c__law_plain_ones k__law_plain_ones
  have B__law_plain_ones : Binds K _ [] [] := F__law_plain_ones.binds (ps := []) fun _ _ _ _ _ _ us hl => match us, hl with | [], _ => rfl
  have F__law_refusal := fun_mk (st := st__law_refusal) l__law_refusal c__law_refusal k__law_refusal
  have B__law_refusal : Binds K _ ["_law_e"] [] := F__law_refusal.binds (ps := ["_law_e"]) fun _ _ _ _ _ _ us hl => match us, hl with | [_], _ => rfl
  have F_law := fun_mk (st := st_law) l_law c_law k_law
  have g : Gv mg T := ⟨PySem.W.mg_none_of X G z_LookupError,
    PySem.W.mg_none_of X G z_TypeError,
    PySem.W.mg_none_of X G z_ValueError,
    PySem.W.mg_none_of X G z_all,
    PySem.W.mg_none_of X G z_isinstance,
    PySem.W.mg_none_of X G z_len,
    PySem.W.mg_none_of X G z_max,
    PySem.W.mg_none_of X G z_min,
    PySem.W.mg_none_of X G z_range,
    PySem.W.mg_of X G g_SpanError,
    ⟨PySem.W.mg_of X G g_NoBook, q_NoBook, x_NoBook, b_NoBook, t_NoBook⟩,
    ⟨PySem.W.mg_of X G g_NoTime, q_NoTime, x_NoTime, b_NoTime, t_NoTime⟩,
    ⟨PySem.W.mg_of X G g_NoShare, q_NoShare, x_NoShare, b_NoShare, t_NoShare⟩,
    ⟨PySem.W.mg_of X G g_NoParts, q_NoParts, x_NoParts, b_NoParts, t_NoParts⟩,
    ⟨PySem.W.mg_of X G g_NoPlain, q_NoPlain, x_NoPlain, b_NoPlain, t_NoPlain⟩,
    ⟨PySem.W.mg_of X G g_NoKind, q_NoKind, x_NoKind, b_NoKind, t_NoKind⟩,
    ⟨PySem.W.mg_of X G g_NoMarks, q_NoMarks, x_NoMarks, b_NoMarks, t_NoMarks⟩,
    ⟨PySem.W.mg_of X G g_NoWord, q_NoWord, x_NoWord, b_NoWord, t_NoWord⟩,
    ⟨PySem.W.mg_of X G g_NoFull, q_NoFull, x_NoFull, b_NoFull, t_NoFull⟩,
    ⟨PySem.W.mg_of X G g_NoNumber, q_NoNumber, x_NoNumber, b_NoNumber, t_NoNumber⟩,
    ⟨PySem.W.mg_of X G g_NoBand, q_NoBand, x_NoBand, b_NoBand, t_NoBand⟩,
    ⟨PySem.W.mg_of X G g_NoName, q_NoName, x_NoName, b_NoName, t_NoName⟩,
    ⟨PySem.W.mg_of X G g_NoDay, q_NoDay, x_NoDay, b_NoDay, t_NoDay⟩,
    ⟨PySem.W.mg_of X G g_NoDeed, q_NoDeed, x_NoDeed, b_NoDeed, t_NoDeed⟩,
    ⟨PySem.W.mg_of X G g_NoFraction, q_NoFraction, x_NoFraction, b_NoFraction, t_NoFraction⟩,
    ⟨PySem.W.mg_of X G g_NoText, q_NoText, x_NoText, b_NoText, t_NoText⟩,
    ⟨PySem.W.mg_of X G g_NoLine, q_NoLine, x_NoLine, b_NoLine, t_NoLine⟩,
    ⟨PySem.W.mg_of X G g_TooMany, ⟨⟨_, _, _, _, _, _, _, _, _, _, _, _, _, _, _, y_TooMany, rv_TooMany⟩, sa_TooMany, b_TooMany, t_TooMany, q_TooMany⟩, v1_TooMany, v2_TooMany, ⟨_, _, _, _, _, _, _, _, _, _, _, wi_TooMany, ti_TooMany, li_TooMany, ci_TooMany, Binds.all fun us hl => match us, hl with | [_, _, _], _ => rfl⟩⟩,
    fld_l xf_TooMany v1_TooMany,
    fld_l xf_TooMany v2_TooMany,
    isTb_l (List.forall_mem_cons.mpr ⟨⟨xq_NoBook, xi_NoBook_NoBook⟩, (List.forall_mem_cons.mpr ⟨⟨xq_NoTime, xi_NoTime_NoBook⟩, (List.forall_mem_cons.mpr ⟨⟨xq_NoShare, xi_NoShare_NoBook⟩, (List.forall_mem_cons.mpr ⟨⟨xq_NoParts, xi_NoParts_NoBook⟩, (List.forall_mem_cons.mpr ⟨⟨xq_NoPlain, xi_NoPlain_NoBook⟩, (List.forall_mem_cons.mpr ⟨⟨xq_NoKind, xi_NoKind_NoBook⟩, (List.forall_mem_cons.mpr ⟨⟨xq_NoMarks, xi_NoMarks_NoBook⟩, (List.forall_mem_cons.mpr ⟨⟨xq_NoWord, xi_NoWord_NoBook⟩, (List.forall_mem_cons.mpr ⟨⟨xq_NoFull, xi_NoFull_NoBook⟩, (List.forall_mem_cons.mpr ⟨⟨xq_NoNumber, xi_NoNumber_NoBook⟩, (List.forall_mem_cons.mpr ⟨⟨xq_NoBand, xi_NoBand_NoBook⟩, (List.forall_mem_cons.mpr ⟨⟨xq_NoName, xi_NoName_NoBook⟩, (List.forall_mem_cons.mpr ⟨⟨xq_NoDay, xi_NoDay_NoBook⟩, (List.forall_mem_cons.mpr ⟨⟨xq_NoDeed, xi_NoDeed_NoBook⟩, (List.forall_mem_cons.mpr ⟨⟨xq_NoFraction, xi_NoFraction_NoBook⟩, (List.forall_mem_cons.mpr ⟨⟨xq_NoText, xi_NoText_NoBook⟩, (List.forall_mem_cons.mpr ⟨⟨xq_NoLine, xi_NoLine_NoBook⟩, (List.forall_mem_cons.mpr ⟨⟨xq_TooMany, xi_TooMany_NoBook⟩, (fun _ h => absurd h List.not_mem_nil)⟩)⟩)⟩)⟩)⟩)⟩)⟩)⟩)⟩)⟩)⟩)⟩)⟩)⟩)⟩)⟩)⟩)⟩),
    isTb_l (List.forall_mem_cons.mpr ⟨⟨xq_NoBook, xi_NoBook_NoTime⟩, (List.forall_mem_cons.mpr ⟨⟨xq_NoTime, xi_NoTime_NoTime⟩, (List.forall_mem_cons.mpr ⟨⟨xq_NoShare, xi_NoShare_NoTime⟩, (List.forall_mem_cons.mpr ⟨⟨xq_NoParts, xi_NoParts_NoTime⟩, (List.forall_mem_cons.mpr ⟨⟨xq_NoPlain, xi_NoPlain_NoTime⟩, (List.forall_mem_cons.mpr ⟨⟨xq_NoKind, xi_NoKind_NoTime⟩, (List.forall_mem_cons.mpr ⟨⟨xq_NoMarks, xi_NoMarks_NoTime⟩, (List.forall_mem_cons.mpr ⟨⟨xq_NoWord, xi_NoWord_NoTime⟩, (List.forall_mem_cons.mpr ⟨⟨xq_NoFull, xi_NoFull_NoTime⟩, (List.forall_mem_cons.mpr ⟨⟨xq_NoNumber, xi_NoNumber_NoTime⟩, (List.forall_mem_cons.mpr ⟨⟨xq_NoBand, xi_NoBand_NoTime⟩, (List.forall_mem_cons.mpr ⟨⟨xq_NoName, xi_NoName_NoTime⟩, (List.forall_mem_cons.mpr ⟨⟨xq_NoDay, xi_NoDay_NoTime⟩, (List.forall_mem_cons.mpr ⟨⟨xq_NoDeed, xi_NoDeed_NoTime⟩, (List.forall_mem_cons.mpr ⟨⟨xq_NoFraction, xi_NoFraction_NoTime⟩, (List.forall_mem_cons.mpr ⟨⟨xq_NoText, xi_NoText_NoTime⟩, (List.forall_mem_cons.mpr ⟨⟨xq_NoLine, xi_NoLine_NoTime⟩, (List.forall_mem_cons.mpr ⟨⟨xq_TooMany, xi_TooMany_NoTime⟩, (fun _ h => absurd h List.not_mem_nil)⟩)⟩)⟩)⟩)⟩)⟩)⟩)⟩)⟩)⟩)⟩)⟩)⟩)⟩)⟩)⟩)⟩)⟩),
    isTb_l (List.forall_mem_cons.mpr ⟨⟨xq_NoBook, xi_NoBook_NoShare⟩, (List.forall_mem_cons.mpr ⟨⟨xq_NoTime, xi_NoTime_NoShare⟩, (List.forall_mem_cons.mpr ⟨⟨xq_NoShare, xi_NoShare_NoShare⟩, (List.forall_mem_cons.mpr ⟨⟨xq_NoParts, xi_NoParts_NoShare⟩, (List.forall_mem_cons.mpr ⟨⟨xq_NoPlain, xi_NoPlain_NoShare⟩, (List.forall_mem_cons.mpr ⟨⟨xq_NoKind, xi_NoKind_NoShare⟩, (List.forall_mem_cons.mpr ⟨⟨xq_NoMarks, xi_NoMarks_NoShare⟩, (List.forall_mem_cons.mpr ⟨⟨xq_NoWord, xi_NoWord_NoShare⟩, (List.forall_mem_cons.mpr ⟨⟨xq_NoFull, xi_NoFull_NoShare⟩, (List.forall_mem_cons.mpr ⟨⟨xq_NoNumber, xi_NoNumber_NoShare⟩, (List.forall_mem_cons.mpr ⟨⟨xq_NoBand, xi_NoBand_NoShare⟩, (List.forall_mem_cons.mpr ⟨⟨xq_NoName, xi_NoName_NoShare⟩, (List.forall_mem_cons.mpr ⟨⟨xq_NoDay, xi_NoDay_NoShare⟩, (List.forall_mem_cons.mpr ⟨⟨xq_NoDeed, xi_NoDeed_NoShare⟩, (List.forall_mem_cons.mpr ⟨⟨xq_NoFraction, xi_NoFraction_NoShare⟩, (List.forall_mem_cons.mpr ⟨⟨xq_NoText, xi_NoText_NoShare⟩, (List.forall_mem_cons.mpr ⟨⟨xq_NoLine, xi_NoLine_NoShare⟩, (List.forall_mem_cons.mpr ⟨⟨xq_TooMany, xi_TooMany_NoShare⟩, (fun _ h => absurd h List.not_mem_nil)⟩)⟩)⟩)⟩)⟩)⟩)⟩)⟩)⟩)⟩)⟩)⟩)⟩)⟩)⟩)⟩)⟩)⟩),
    isTb_l (List.forall_mem_cons.mpr ⟨⟨xq_NoBook, xi_NoBook_NoParts⟩, (List.forall_mem_cons.mpr ⟨⟨xq_NoTime, xi_NoTime_NoParts⟩, (List.forall_mem_cons.mpr ⟨⟨xq_NoShare, xi_NoShare_NoParts⟩, (List.forall_mem_cons.mpr ⟨⟨xq_NoParts, xi_NoParts_NoParts⟩, (List.forall_mem_cons.mpr ⟨⟨xq_NoPlain, xi_NoPlain_NoParts⟩, (List.forall_mem_cons.mpr ⟨⟨xq_NoKind, xi_NoKind_NoParts⟩, (List.forall_mem_cons.mpr ⟨⟨xq_NoMarks, xi_NoMarks_NoParts⟩, (List.forall_mem_cons.mpr ⟨⟨xq_NoWord, xi_NoWord_NoParts⟩, (List.forall_mem_cons.mpr ⟨⟨xq_NoFull, xi_NoFull_NoParts⟩, (List.forall_mem_cons.mpr ⟨⟨xq_NoNumber, xi_NoNumber_NoParts⟩, (List.forall_mem_cons.mpr ⟨⟨xq_NoBand, xi_NoBand_NoParts⟩, (List.forall_mem_cons.mpr ⟨⟨xq_NoName, xi_NoName_NoParts⟩, (List.forall_mem_cons.mpr ⟨⟨xq_NoDay, xi_NoDay_NoParts⟩, (List.forall_mem_cons.mpr ⟨⟨xq_NoDeed, xi_NoDeed_NoParts⟩, (List.forall_mem_cons.mpr ⟨⟨xq_NoFraction, xi_NoFraction_NoParts⟩, (List.forall_mem_cons.mpr ⟨⟨xq_NoText, xi_NoText_NoParts⟩, (List.forall_mem_cons.mpr ⟨⟨xq_NoLine, xi_NoLine_NoParts⟩, (List.forall_mem_cons.mpr ⟨⟨xq_TooMany, xi_TooMany_NoParts⟩, (fun _ h => absurd h List.not_mem_nil)⟩)⟩)⟩)⟩)⟩)⟩)⟩)⟩)⟩)⟩)⟩)⟩)⟩)⟩)⟩)⟩)⟩)⟩),
    isTb_l (List.forall_mem_cons.mpr ⟨⟨xq_NoBook, xi_NoBook_NoPlain⟩, (List.forall_mem_cons.mpr ⟨⟨xq_NoTime, xi_NoTime_NoPlain⟩, (List.forall_mem_cons.mpr ⟨⟨xq_NoShare, xi_NoShare_NoPlain⟩, (List.forall_mem_cons.mpr ⟨⟨xq_NoParts, xi_NoParts_NoPlain⟩, (List.forall_mem_cons.mpr ⟨⟨xq_NoPlain, xi_NoPlain_NoPlain⟩, (List.forall_mem_cons.mpr ⟨⟨xq_NoKind, xi_NoKind_NoPlain⟩, (List.forall_mem_cons.mpr ⟨⟨xq_NoMarks, xi_NoMarks_NoPlain⟩, (List.forall_mem_cons.mpr ⟨⟨xq_NoWord, xi_NoWord_NoPlain⟩, (List.forall_mem_cons.mpr ⟨⟨xq_NoFull, xi_NoFull_NoPlain⟩, (List.forall_mem_cons.mpr ⟨⟨xq_NoNumber, xi_NoNumber_NoPlain⟩, (List.forall_mem_cons.mpr ⟨⟨xq_NoBand, xi_NoBand_NoPlain⟩, (List.forall_mem_cons.mpr ⟨⟨xq_NoName, xi_NoName_NoPlain⟩, (List.forall_mem_cons.mpr ⟨⟨xq_NoDay, xi_NoDay_NoPlain⟩, (List.forall_mem_cons.mpr ⟨⟨xq_NoDeed, xi_NoDeed_NoPlain⟩, (List.forall_mem_cons.mpr ⟨⟨xq_NoFraction, xi_NoFraction_NoPlain⟩, (List.forall_mem_cons.mpr ⟨⟨xq_NoText, xi_NoText_NoPlain⟩, (List.forall_mem_cons.mpr ⟨⟨xq_NoLine, xi_NoLine_NoPlain⟩, (List.forall_mem_cons.mpr ⟨⟨xq_TooMany, xi_TooMany_NoPlain⟩, (fun _ h => absurd h List.not_mem_nil)⟩)⟩)⟩)⟩)⟩)⟩)⟩)⟩)⟩)⟩)⟩)⟩)⟩)⟩)⟩)⟩)⟩)⟩),
    isTb_l (List.forall_mem_cons.mpr ⟨⟨xq_NoBook, xi_NoBook_NoKind⟩, (List.forall_mem_cons.mpr ⟨⟨xq_NoTime, xi_NoTime_NoKind⟩, (List.forall_mem_cons.mpr ⟨⟨xq_NoShare, xi_NoShare_NoKind⟩, (List.forall_mem_cons.mpr ⟨⟨xq_NoParts, xi_NoParts_NoKind⟩, (List.forall_mem_cons.mpr ⟨⟨xq_NoPlain, xi_NoPlain_NoKind⟩, (List.forall_mem_cons.mpr ⟨⟨xq_NoKind, xi_NoKind_NoKind⟩, (List.forall_mem_cons.mpr ⟨⟨xq_NoMarks, xi_NoMarks_NoKind⟩, (List.forall_mem_cons.mpr ⟨⟨xq_NoWord, xi_NoWord_NoKind⟩, (List.forall_mem_cons.mpr ⟨⟨xq_NoFull, xi_NoFull_NoKind⟩, (List.forall_mem_cons.mpr ⟨⟨xq_NoNumber, xi_NoNumber_NoKind⟩, (List.forall_mem_cons.mpr ⟨⟨xq_NoBand, xi_NoBand_NoKind⟩, (List.forall_mem_cons.mpr ⟨⟨xq_NoName, xi_NoName_NoKind⟩, (List.forall_mem_cons.mpr ⟨⟨xq_NoDay, xi_NoDay_NoKind⟩, (List.forall_mem_cons.mpr ⟨⟨xq_NoDeed, xi_NoDeed_NoKind⟩, (List.forall_mem_cons.mpr ⟨⟨xq_NoFraction, xi_NoFraction_NoKind⟩, (List.forall_mem_cons.mpr ⟨⟨xq_NoText, xi_NoText_NoKind⟩, (List.forall_mem_cons.mpr ⟨⟨xq_NoLine, xi_NoLine_NoKind⟩, (List.forall_mem_cons.mpr ⟨⟨xq_TooMany, xi_TooMany_NoKind⟩, (fun _ h => absurd h List.not_mem_nil)⟩)⟩)⟩)⟩)⟩)⟩)⟩)⟩)⟩)⟩)⟩)⟩)⟩)⟩)⟩)⟩)⟩)⟩),
    isTb_l (List.forall_mem_cons.mpr ⟨⟨xq_NoBook, xi_NoBook_NoMarks⟩, (List.forall_mem_cons.mpr ⟨⟨xq_NoTime, xi_NoTime_NoMarks⟩, (List.forall_mem_cons.mpr ⟨⟨xq_NoShare, xi_NoShare_NoMarks⟩, (List.forall_mem_cons.mpr ⟨⟨xq_NoParts, xi_NoParts_NoMarks⟩, (List.forall_mem_cons.mpr ⟨⟨xq_NoPlain, xi_NoPlain_NoMarks⟩, (List.forall_mem_cons.mpr ⟨⟨xq_NoKind, xi_NoKind_NoMarks⟩, (List.forall_mem_cons.mpr ⟨⟨xq_NoMarks, xi_NoMarks_NoMarks⟩, (List.forall_mem_cons.mpr ⟨⟨xq_NoWord, xi_NoWord_NoMarks⟩, (List.forall_mem_cons.mpr ⟨⟨xq_NoFull, xi_NoFull_NoMarks⟩, (List.forall_mem_cons.mpr ⟨⟨xq_NoNumber, xi_NoNumber_NoMarks⟩, (List.forall_mem_cons.mpr ⟨⟨xq_NoBand, xi_NoBand_NoMarks⟩, (List.forall_mem_cons.mpr ⟨⟨xq_NoName, xi_NoName_NoMarks⟩, (List.forall_mem_cons.mpr ⟨⟨xq_NoDay, xi_NoDay_NoMarks⟩, (List.forall_mem_cons.mpr ⟨⟨xq_NoDeed, xi_NoDeed_NoMarks⟩, (List.forall_mem_cons.mpr ⟨⟨xq_NoFraction, xi_NoFraction_NoMarks⟩, (List.forall_mem_cons.mpr ⟨⟨xq_NoText, xi_NoText_NoMarks⟩, (List.forall_mem_cons.mpr ⟨⟨xq_NoLine, xi_NoLine_NoMarks⟩, (List.forall_mem_cons.mpr ⟨⟨xq_TooMany, xi_TooMany_NoMarks⟩, (fun _ h => absurd h List.not_mem_nil)⟩)⟩)⟩)⟩)⟩)⟩)⟩)⟩)⟩)⟩)⟩)⟩)⟩)⟩)⟩)⟩)⟩)⟩),
    isTb_l (List.forall_mem_cons.mpr ⟨⟨xq_NoBook, xi_NoBook_NoWord⟩, (List.forall_mem_cons.mpr ⟨⟨xq_NoTime, xi_NoTime_NoWord⟩, (List.forall_mem_cons.mpr ⟨⟨xq_NoShare, xi_NoShare_NoWord⟩, (List.forall_mem_cons.mpr ⟨⟨xq_NoParts, xi_NoParts_NoWord⟩, (List.forall_mem_cons.mpr ⟨⟨xq_NoPlain, xi_NoPlain_NoWord⟩, (List.forall_mem_cons.mpr ⟨⟨xq_NoKind, xi_NoKind_NoWord⟩, (List.forall_mem_cons.mpr ⟨⟨xq_NoMarks, xi_NoMarks_NoWord⟩, (List.forall_mem_cons.mpr ⟨⟨xq_NoWord, xi_NoWord_NoWord⟩, (List.forall_mem_cons.mpr ⟨⟨xq_NoFull, xi_NoFull_NoWord⟩, (List.forall_mem_cons.mpr ⟨⟨xq_NoNumber, xi_NoNumber_NoWord⟩, (List.forall_mem_cons.mpr ⟨⟨xq_NoBand, xi_NoBand_NoWord⟩, (List.forall_mem_cons.mpr ⟨⟨xq_NoName, xi_NoName_NoWord⟩, (List.forall_mem_cons.mpr ⟨⟨xq_NoDay, xi_NoDay_NoWord⟩, (List.forall_mem_cons.mpr ⟨⟨xq_NoDeed, xi_NoDeed_NoWord⟩, (List.forall_mem_cons.mpr ⟨⟨xq_NoFraction, xi_NoFraction_NoWord⟩, (List.forall_mem_cons.mpr ⟨⟨xq_NoText, xi_NoText_NoWord⟩, (List.forall_mem_cons.mpr ⟨⟨xq_NoLine, xi_NoLine_NoWord⟩, (List.forall_mem_cons.mpr ⟨⟨xq_TooMany, xi_TooMany_NoWord⟩, (fun _ h => absurd h List.not_mem_nil)⟩)⟩)⟩)⟩)⟩)⟩)⟩)⟩)⟩)⟩)⟩)⟩)⟩)⟩)⟩)⟩)⟩)⟩),
    isTb_l (List.forall_mem_cons.mpr ⟨⟨xq_NoBook, xi_NoBook_NoFull⟩, (List.forall_mem_cons.mpr ⟨⟨xq_NoTime, xi_NoTime_NoFull⟩, (List.forall_mem_cons.mpr ⟨⟨xq_NoShare, xi_NoShare_NoFull⟩, (List.forall_mem_cons.mpr ⟨⟨xq_NoParts, xi_NoParts_NoFull⟩, (List.forall_mem_cons.mpr ⟨⟨xq_NoPlain, xi_NoPlain_NoFull⟩, (List.forall_mem_cons.mpr ⟨⟨xq_NoKind, xi_NoKind_NoFull⟩, (List.forall_mem_cons.mpr ⟨⟨xq_NoMarks, xi_NoMarks_NoFull⟩, (List.forall_mem_cons.mpr ⟨⟨xq_NoWord, xi_NoWord_NoFull⟩, (List.forall_mem_cons.mpr ⟨⟨xq_NoFull, xi_NoFull_NoFull⟩, (List.forall_mem_cons.mpr ⟨⟨xq_NoNumber, xi_NoNumber_NoFull⟩, (List.forall_mem_cons.mpr ⟨⟨xq_NoBand, xi_NoBand_NoFull⟩, (List.forall_mem_cons.mpr ⟨⟨xq_NoName, xi_NoName_NoFull⟩, (List.forall_mem_cons.mpr ⟨⟨xq_NoDay, xi_NoDay_NoFull⟩, (List.forall_mem_cons.mpr ⟨⟨xq_NoDeed, xi_NoDeed_NoFull⟩, (List.forall_mem_cons.mpr ⟨⟨xq_NoFraction, xi_NoFraction_NoFull⟩, (List.forall_mem_cons.mpr ⟨⟨xq_NoText, xi_NoText_NoFull⟩, (List.forall_mem_cons.mpr ⟨⟨xq_NoLine, xi_NoLine_NoFull⟩, (List.forall_mem_cons.mpr ⟨⟨xq_TooMany, xi_TooMany_NoFull⟩, (fun _ h => absurd h List.not_mem_nil)⟩)⟩)⟩)⟩)⟩)⟩)⟩)⟩)⟩)⟩)⟩)⟩)⟩)⟩)⟩)⟩)⟩)⟩),
    isTb_l (List.forall_mem_cons.mpr ⟨⟨xq_NoBook, xi_NoBook_NoNumber⟩, (List.forall_mem_cons.mpr ⟨⟨xq_NoTime, xi_NoTime_NoNumber⟩, (List.forall_mem_cons.mpr ⟨⟨xq_NoShare, xi_NoShare_NoNumber⟩, (List.forall_mem_cons.mpr ⟨⟨xq_NoParts, xi_NoParts_NoNumber⟩, (List.forall_mem_cons.mpr ⟨⟨xq_NoPlain, xi_NoPlain_NoNumber⟩, (List.forall_mem_cons.mpr ⟨⟨xq_NoKind, xi_NoKind_NoNumber⟩, (List.forall_mem_cons.mpr ⟨⟨xq_NoMarks, xi_NoMarks_NoNumber⟩, (List.forall_mem_cons.mpr ⟨⟨xq_NoWord, xi_NoWord_NoNumber⟩, (List.forall_mem_cons.mpr ⟨⟨xq_NoFull, xi_NoFull_NoNumber⟩, (List.forall_mem_cons.mpr ⟨⟨xq_NoNumber, xi_NoNumber_NoNumber⟩, (List.forall_mem_cons.mpr ⟨⟨xq_NoBand, xi_NoBand_NoNumber⟩, (List.forall_mem_cons.mpr ⟨⟨xq_NoName, xi_NoName_NoNumber⟩, (List.forall_mem_cons.mpr ⟨⟨xq_NoDay, xi_NoDay_NoNumber⟩, (List.forall_mem_cons.mpr ⟨⟨xq_NoDeed, xi_NoDeed_NoNumber⟩, (List.forall_mem_cons.mpr ⟨⟨xq_NoFraction, xi_NoFraction_NoNumber⟩, (List.forall_mem_cons.mpr ⟨⟨xq_NoText, xi_NoText_NoNumber⟩, (List.forall_mem_cons.mpr ⟨⟨xq_NoLine, xi_NoLine_NoNumber⟩, (List.forall_mem_cons.mpr ⟨⟨xq_TooMany, xi_TooMany_NoNumber⟩, (fun _ h => absurd h List.not_mem_nil)⟩)⟩)⟩)⟩)⟩)⟩)⟩)⟩)⟩)⟩)⟩)⟩)⟩)⟩)⟩)⟩)⟩)⟩),
    isTb_l (List.forall_mem_cons.mpr ⟨⟨xq_NoBook, xi_NoBook_NoBand⟩, (List.forall_mem_cons.mpr ⟨⟨xq_NoTime, xi_NoTime_NoBand⟩, (List.forall_mem_cons.mpr ⟨⟨xq_NoShare, xi_NoShare_NoBand⟩, (List.forall_mem_cons.mpr ⟨⟨xq_NoParts, xi_NoParts_NoBand⟩, (List.forall_mem_cons.mpr ⟨⟨xq_NoPlain, xi_NoPlain_NoBand⟩, (List.forall_mem_cons.mpr ⟨⟨xq_NoKind, xi_NoKind_NoBand⟩, (List.forall_mem_cons.mpr ⟨⟨xq_NoMarks, xi_NoMarks_NoBand⟩, (List.forall_mem_cons.mpr ⟨⟨xq_NoWord, xi_NoWord_NoBand⟩, (List.forall_mem_cons.mpr ⟨⟨xq_NoFull, xi_NoFull_NoBand⟩, (List.forall_mem_cons.mpr ⟨⟨xq_NoNumber, xi_NoNumber_NoBand⟩, (List.forall_mem_cons.mpr ⟨⟨xq_NoBand, xi_NoBand_NoBand⟩, (List.forall_mem_cons.mpr ⟨⟨xq_NoName, xi_NoName_NoBand⟩, (List.forall_mem_cons.mpr ⟨⟨xq_NoDay, xi_NoDay_NoBand⟩, (List.forall_mem_cons.mpr ⟨⟨xq_NoDeed, xi_NoDeed_NoBand⟩, (List.forall_mem_cons.mpr ⟨⟨xq_NoFraction, xi_NoFraction_NoBand⟩, (List.forall_mem_cons.mpr ⟨⟨xq_NoText, xi_NoText_NoBand⟩, (List.forall_mem_cons.mpr ⟨⟨xq_NoLine, xi_NoLine_NoBand⟩, (List.forall_mem_cons.mpr ⟨⟨xq_TooMany, xi_TooMany_NoBand⟩, (fun _ h => absurd h List.not_mem_nil)⟩)⟩)⟩)⟩)⟩)⟩)⟩)⟩)⟩)⟩)⟩)⟩)⟩)⟩)⟩)⟩)⟩)⟩),
    isTb_l (List.forall_mem_cons.mpr ⟨⟨xq_NoBook, xi_NoBook_NoName⟩, (List.forall_mem_cons.mpr ⟨⟨xq_NoTime, xi_NoTime_NoName⟩, (List.forall_mem_cons.mpr ⟨⟨xq_NoShare, xi_NoShare_NoName⟩, (List.forall_mem_cons.mpr ⟨⟨xq_NoParts, xi_NoParts_NoName⟩, (List.forall_mem_cons.mpr ⟨⟨xq_NoPlain, xi_NoPlain_NoName⟩, (List.forall_mem_cons.mpr ⟨⟨xq_NoKind, xi_NoKind_NoName⟩, (List.forall_mem_cons.mpr ⟨⟨xq_NoMarks, xi_NoMarks_NoName⟩, (List.forall_mem_cons.mpr ⟨⟨xq_NoWord, xi_NoWord_NoName⟩, (List.forall_mem_cons.mpr ⟨⟨xq_NoFull, xi_NoFull_NoName⟩, (List.forall_mem_cons.mpr ⟨⟨xq_NoNumber, xi_NoNumber_NoName⟩, (List.forall_mem_cons.mpr ⟨⟨xq_NoBand, xi_NoBand_NoName⟩, (List.forall_mem_cons.mpr ⟨⟨xq_NoName, xi_NoName_NoName⟩, (List.forall_mem_cons.mpr ⟨⟨xq_NoDay, xi_NoDay_NoName⟩, (List.forall_mem_cons.mpr ⟨⟨xq_NoDeed, xi_NoDeed_NoName⟩, (List.forall_mem_cons.mpr ⟨⟨xq_NoFraction, xi_NoFraction_NoName⟩, (List.forall_mem_cons.mpr ⟨⟨xq_NoText, xi_NoText_NoName⟩, (List.forall_mem_cons.mpr ⟨⟨xq_NoLine, xi_NoLine_NoName⟩, (List.forall_mem_cons.mpr ⟨⟨xq_TooMany, xi_TooMany_NoName⟩, (fun _ h => absurd h List.not_mem_nil)⟩)⟩)⟩)⟩)⟩)⟩)⟩)⟩)⟩)⟩)⟩)⟩)⟩)⟩)⟩)⟩)⟩)⟩),
    isTb_l (List.forall_mem_cons.mpr ⟨⟨xq_NoBook, xi_NoBook_NoDay⟩, (List.forall_mem_cons.mpr ⟨⟨xq_NoTime, xi_NoTime_NoDay⟩, (List.forall_mem_cons.mpr ⟨⟨xq_NoShare, xi_NoShare_NoDay⟩, (List.forall_mem_cons.mpr ⟨⟨xq_NoParts, xi_NoParts_NoDay⟩, (List.forall_mem_cons.mpr ⟨⟨xq_NoPlain, xi_NoPlain_NoDay⟩, (List.forall_mem_cons.mpr ⟨⟨xq_NoKind, xi_NoKind_NoDay⟩, (List.forall_mem_cons.mpr ⟨⟨xq_NoMarks, xi_NoMarks_NoDay⟩, (List.forall_mem_cons.mpr ⟨⟨xq_NoWord, xi_NoWord_NoDay⟩, (List.forall_mem_cons.mpr ⟨⟨xq_NoFull, xi_NoFull_NoDay⟩, (List.forall_mem_cons.mpr ⟨⟨xq_NoNumber, xi_NoNumber_NoDay⟩, (List.forall_mem_cons.mpr ⟨⟨xq_NoBand, xi_NoBand_NoDay⟩, (List.forall_mem_cons.mpr ⟨⟨xq_NoName, xi_NoName_NoDay⟩, (List.forall_mem_cons.mpr ⟨⟨xq_NoDay, xi_NoDay_NoDay⟩, (List.forall_mem_cons.mpr ⟨⟨xq_NoDeed, xi_NoDeed_NoDay⟩, (List.forall_mem_cons.mpr ⟨⟨xq_NoFraction, xi_NoFraction_NoDay⟩, (List.forall_mem_cons.mpr ⟨⟨xq_NoText, xi_NoText_NoDay⟩, (List.forall_mem_cons.mpr ⟨⟨xq_NoLine, xi_NoLine_NoDay⟩, (List.forall_mem_cons.mpr ⟨⟨xq_TooMany, xi_TooMany_NoDay⟩, (fun _ h => absurd h List.not_mem_nil)⟩)⟩)⟩)⟩)⟩)⟩)⟩)⟩)⟩)⟩)⟩)⟩)⟩)⟩)⟩)⟩)⟩)⟩),
    isTb_l (List.forall_mem_cons.mpr ⟨⟨xq_NoBook, xi_NoBook_NoDeed⟩, (List.forall_mem_cons.mpr ⟨⟨xq_NoTime, xi_NoTime_NoDeed⟩, (List.forall_mem_cons.mpr ⟨⟨xq_NoShare, xi_NoShare_NoDeed⟩, (List.forall_mem_cons.mpr ⟨⟨xq_NoParts, xi_NoParts_NoDeed⟩, (List.forall_mem_cons.mpr ⟨⟨xq_NoPlain, xi_NoPlain_NoDeed⟩, (List.forall_mem_cons.mpr ⟨⟨xq_NoKind, xi_NoKind_NoDeed⟩, (List.forall_mem_cons.mpr ⟨⟨xq_NoMarks, xi_NoMarks_NoDeed⟩, (List.forall_mem_cons.mpr ⟨⟨xq_NoWord, xi_NoWord_NoDeed⟩, (List.forall_mem_cons.mpr ⟨⟨xq_NoFull, xi_NoFull_NoDeed⟩, (List.forall_mem_cons.mpr ⟨⟨xq_NoNumber, xi_NoNumber_NoDeed⟩, (List.forall_mem_cons.mpr ⟨⟨xq_NoBand, xi_NoBand_NoDeed⟩, (List.forall_mem_cons.mpr ⟨⟨xq_NoName, xi_NoName_NoDeed⟩, (List.forall_mem_cons.mpr ⟨⟨xq_NoDay, xi_NoDay_NoDeed⟩, (List.forall_mem_cons.mpr ⟨⟨xq_NoDeed, xi_NoDeed_NoDeed⟩, (List.forall_mem_cons.mpr ⟨⟨xq_NoFraction, xi_NoFraction_NoDeed⟩, (List.forall_mem_cons.mpr ⟨⟨xq_NoText, xi_NoText_NoDeed⟩, (List.forall_mem_cons.mpr ⟨⟨xq_NoLine, xi_NoLine_NoDeed⟩, (List.forall_mem_cons.mpr ⟨⟨xq_TooMany, xi_TooMany_NoDeed⟩, (fun _ h => absurd h List.not_mem_nil)⟩)⟩)⟩)⟩)⟩)⟩)⟩)⟩)⟩)⟩)⟩)⟩)⟩)⟩)⟩)⟩)⟩)⟩),
    isTb_l (List.forall_mem_cons.mpr ⟨⟨xq_NoBook, xi_NoBook_NoFraction⟩, (List.forall_mem_cons.mpr ⟨⟨xq_NoTime, xi_NoTime_NoFraction⟩, (List.forall_mem_cons.mpr ⟨⟨xq_NoShare, xi_NoShare_NoFraction⟩, (List.forall_mem_cons.mpr ⟨⟨xq_NoParts, xi_NoParts_NoFraction⟩, (List.forall_mem_cons.mpr ⟨⟨xq_NoPlain, xi_NoPlain_NoFraction⟩, (List.forall_mem_cons.mpr ⟨⟨xq_NoKind, xi_NoKind_NoFraction⟩, (List.forall_mem_cons.mpr ⟨⟨xq_NoMarks, xi_NoMarks_NoFraction⟩, (List.forall_mem_cons.mpr ⟨⟨xq_NoWord, xi_NoWord_NoFraction⟩, (List.forall_mem_cons.mpr ⟨⟨xq_NoFull, xi_NoFull_NoFraction⟩, (List.forall_mem_cons.mpr ⟨⟨xq_NoNumber, xi_NoNumber_NoFraction⟩, (List.forall_mem_cons.mpr ⟨⟨xq_NoBand, xi_NoBand_NoFraction⟩, (List.forall_mem_cons.mpr ⟨⟨xq_NoName, xi_NoName_NoFraction⟩, (List.forall_mem_cons.mpr ⟨⟨xq_NoDay, xi_NoDay_NoFraction⟩, (List.forall_mem_cons.mpr ⟨⟨xq_NoDeed, xi_NoDeed_NoFraction⟩, (List.forall_mem_cons.mpr ⟨⟨xq_NoFraction, xi_NoFraction_NoFraction⟩, (List.forall_mem_cons.mpr ⟨⟨xq_NoText, xi_NoText_NoFraction⟩, (List.forall_mem_cons.mpr ⟨⟨xq_NoLine, xi_NoLine_NoFraction⟩, (List.forall_mem_cons.mpr ⟨⟨xq_TooMany, xi_TooMany_NoFraction⟩, (fun _ h => absurd h List.not_mem_nil)⟩)⟩)⟩)⟩)⟩)⟩)⟩)⟩)⟩)⟩)⟩)⟩)⟩)⟩)⟩)⟩)⟩)⟩),
    isTb_l (List.forall_mem_cons.mpr ⟨⟨xq_NoBook, xi_NoBook_NoText⟩, (List.forall_mem_cons.mpr ⟨⟨xq_NoTime, xi_NoTime_NoText⟩, (List.forall_mem_cons.mpr ⟨⟨xq_NoShare, xi_NoShare_NoText⟩, (List.forall_mem_cons.mpr ⟨⟨xq_NoParts, xi_NoParts_NoText⟩, (List.forall_mem_cons.mpr ⟨⟨xq_NoPlain, xi_NoPlain_NoText⟩, (List.forall_mem_cons.mpr ⟨⟨xq_NoKind, xi_NoKind_NoText⟩, (List.forall_mem_cons.mpr ⟨⟨xq_NoMarks, xi_NoMarks_NoText⟩, (List.forall_mem_cons.mpr ⟨⟨xq_NoWord, xi_NoWord_NoText⟩, (List.forall_mem_cons.mpr ⟨⟨xq_NoFull, xi_NoFull_NoText⟩, (List.forall_mem_cons.mpr ⟨⟨xq_NoNumber, xi_NoNumber_NoText⟩, (List.forall_mem_cons.mpr ⟨⟨xq_NoBand, xi_NoBand_NoText⟩, (List.forall_mem_cons.mpr ⟨⟨xq_NoName, xi_NoName_NoText⟩, (List.forall_mem_cons.mpr ⟨⟨xq_NoDay, xi_NoDay_NoText⟩, (List.forall_mem_cons.mpr ⟨⟨xq_NoDeed, xi_NoDeed_NoText⟩, (List.forall_mem_cons.mpr ⟨⟨xq_NoFraction, xi_NoFraction_NoText⟩, (List.forall_mem_cons.mpr ⟨⟨xq_NoText, xi_NoText_NoText⟩, (List.forall_mem_cons.mpr ⟨⟨xq_NoLine, xi_NoLine_NoText⟩, (List.forall_mem_cons.mpr ⟨⟨xq_TooMany, xi_TooMany_NoText⟩, (fun _ h => absurd h List.not_mem_nil)⟩)⟩)⟩)⟩)⟩)⟩)⟩)⟩)⟩)⟩)⟩)⟩)⟩)⟩)⟩)⟩)⟩)⟩),
    isTb_l (List.forall_mem_cons.mpr ⟨⟨xq_NoBook, xi_NoBook_NoLine⟩, (List.forall_mem_cons.mpr ⟨⟨xq_NoTime, xi_NoTime_NoLine⟩, (List.forall_mem_cons.mpr ⟨⟨xq_NoShare, xi_NoShare_NoLine⟩, (List.forall_mem_cons.mpr ⟨⟨xq_NoParts, xi_NoParts_NoLine⟩, (List.forall_mem_cons.mpr ⟨⟨xq_NoPlain, xi_NoPlain_NoLine⟩, (List.forall_mem_cons.mpr ⟨⟨xq_NoKind, xi_NoKind_NoLine⟩, (List.forall_mem_cons.mpr ⟨⟨xq_NoMarks, xi_NoMarks_NoLine⟩, (List.forall_mem_cons.mpr ⟨⟨xq_NoWord, xi_NoWord_NoLine⟩, (List.forall_mem_cons.mpr ⟨⟨xq_NoFull, xi_NoFull_NoLine⟩, (List.forall_mem_cons.mpr ⟨⟨xq_NoNumber, xi_NoNumber_NoLine⟩, (List.forall_mem_cons.mpr ⟨⟨xq_NoBand, xi_NoBand_NoLine⟩, (List.forall_mem_cons.mpr ⟨⟨xq_NoName, xi_NoName_NoLine⟩, (List.forall_mem_cons.mpr ⟨⟨xq_NoDay, xi_NoDay_NoLine⟩, (List.forall_mem_cons.mpr ⟨⟨xq_NoDeed, xi_NoDeed_NoLine⟩, (List.forall_mem_cons.mpr ⟨⟨xq_NoFraction, xi_NoFraction_NoLine⟩, (List.forall_mem_cons.mpr ⟨⟨xq_NoText, xi_NoText_NoLine⟩, (List.forall_mem_cons.mpr ⟨⟨xq_NoLine, xi_NoLine_NoLine⟩, (List.forall_mem_cons.mpr ⟨⟨xq_TooMany, xi_TooMany_NoLine⟩, (fun _ h => absurd h List.not_mem_nil)⟩)⟩)⟩)⟩)⟩)⟩)⟩)⟩)⟩)⟩)⟩)⟩)⟩)⟩)⟩)⟩)⟩)⟩),
    isTb_l (List.forall_mem_cons.mpr ⟨⟨xq_NoBook, xi_NoBook_TooMany⟩, (List.forall_mem_cons.mpr ⟨⟨xq_NoTime, xi_NoTime_TooMany⟩, (List.forall_mem_cons.mpr ⟨⟨xq_NoShare, xi_NoShare_TooMany⟩, (List.forall_mem_cons.mpr ⟨⟨xq_NoParts, xi_NoParts_TooMany⟩, (List.forall_mem_cons.mpr ⟨⟨xq_NoPlain, xi_NoPlain_TooMany⟩, (List.forall_mem_cons.mpr ⟨⟨xq_NoKind, xi_NoKind_TooMany⟩, (List.forall_mem_cons.mpr ⟨⟨xq_NoMarks, xi_NoMarks_TooMany⟩, (List.forall_mem_cons.mpr ⟨⟨xq_NoWord, xi_NoWord_TooMany⟩, (List.forall_mem_cons.mpr ⟨⟨xq_NoFull, xi_NoFull_TooMany⟩, (List.forall_mem_cons.mpr ⟨⟨xq_NoNumber, xi_NoNumber_TooMany⟩, (List.forall_mem_cons.mpr ⟨⟨xq_NoBand, xi_NoBand_TooMany⟩, (List.forall_mem_cons.mpr ⟨⟨xq_NoName, xi_NoName_TooMany⟩, (List.forall_mem_cons.mpr ⟨⟨xq_NoDay, xi_NoDay_TooMany⟩, (List.forall_mem_cons.mpr ⟨⟨xq_NoDeed, xi_NoDeed_TooMany⟩, (List.forall_mem_cons.mpr ⟨⟨xq_NoFraction, xi_NoFraction_TooMany⟩, (List.forall_mem_cons.mpr ⟨⟨xq_NoText, xi_NoText_TooMany⟩, (List.forall_mem_cons.mpr ⟨⟨xq_NoLine, xi_NoLine_TooMany⟩, (List.forall_mem_cons.mpr ⟨⟨xq_TooMany, xi_TooMany_TooMany⟩, (fun _ h => absurd h List.not_mem_nil)⟩)⟩)⟩)⟩)⟩)⟩)⟩)⟩)⟩)⟩)⟩)⟩)⟩)⟩)⟩)⟩)⟩)⟩),
    isTb_l (List.forall_mem_cons.mpr ⟨⟨xq_NoBook, xi_NoBook_ValueError⟩, (List.forall_mem_cons.mpr ⟨⟨xq_NoTime, xi_NoTime_ValueError⟩, (List.forall_mem_cons.mpr ⟨⟨xq_NoShare, xi_NoShare_ValueError⟩, (List.forall_mem_cons.mpr ⟨⟨xq_NoParts, xi_NoParts_ValueError⟩, (List.forall_mem_cons.mpr ⟨⟨xq_NoPlain, xi_NoPlain_ValueError⟩, (List.forall_mem_cons.mpr ⟨⟨xq_NoKind, xi_NoKind_ValueError⟩, (List.forall_mem_cons.mpr ⟨⟨xq_NoMarks, xi_NoMarks_ValueError⟩, (List.forall_mem_cons.mpr ⟨⟨xq_NoWord, xi_NoWord_ValueError⟩, (List.forall_mem_cons.mpr ⟨⟨xq_NoFull, xi_NoFull_ValueError⟩, (List.forall_mem_cons.mpr ⟨⟨xq_NoNumber, xi_NoNumber_ValueError⟩, (List.forall_mem_cons.mpr ⟨⟨xq_NoBand, xi_NoBand_ValueError⟩, (List.forall_mem_cons.mpr ⟨⟨xq_NoName, xi_NoName_ValueError⟩, (List.forall_mem_cons.mpr ⟨⟨xq_NoDay, xi_NoDay_ValueError⟩, (List.forall_mem_cons.mpr ⟨⟨xq_NoDeed, xi_NoDeed_ValueError⟩, (List.forall_mem_cons.mpr ⟨⟨xq_NoFraction, xi_NoFraction_ValueError⟩, (List.forall_mem_cons.mpr ⟨⟨xq_NoText, xi_NoText_ValueError⟩, (List.forall_mem_cons.mpr ⟨⟨xq_NoLine, xi_NoLine_ValueError⟩, (List.forall_mem_cons.mpr ⟨⟨xq_TooMany, xi_TooMany_ValueError⟩, (fun _ h => absurd h List.not_mem_nil)⟩)⟩)⟩)⟩)⟩)⟩)⟩)⟩)⟩)⟩)⟩)⟩)⟩)⟩)⟩)⟩)⟩)⟩),
    isTb_l (List.forall_mem_cons.mpr ⟨⟨xq_NoBook, xi_NoBook_SpanError⟩, (List.forall_mem_cons.mpr ⟨⟨xq_NoTime, xi_NoTime_SpanError⟩, (List.forall_mem_cons.mpr ⟨⟨xq_NoShare, xi_NoShare_SpanError⟩, (List.forall_mem_cons.mpr ⟨⟨xq_NoParts, xi_NoParts_SpanError⟩, (List.forall_mem_cons.mpr ⟨⟨xq_NoPlain, xi_NoPlain_SpanError⟩, (List.forall_mem_cons.mpr ⟨⟨xq_NoKind, xi_NoKind_SpanError⟩, (List.forall_mem_cons.mpr ⟨⟨xq_NoMarks, xi_NoMarks_SpanError⟩, (List.forall_mem_cons.mpr ⟨⟨xq_NoWord, xi_NoWord_SpanError⟩, (List.forall_mem_cons.mpr ⟨⟨xq_NoFull, xi_NoFull_SpanError⟩, (List.forall_mem_cons.mpr ⟨⟨xq_NoNumber, xi_NoNumber_SpanError⟩, (List.forall_mem_cons.mpr ⟨⟨xq_NoBand, xi_NoBand_SpanError⟩, (List.forall_mem_cons.mpr ⟨⟨xq_NoName, xi_NoName_SpanError⟩, (List.forall_mem_cons.mpr ⟨⟨xq_NoDay, xi_NoDay_SpanError⟩, (List.forall_mem_cons.mpr ⟨⟨xq_NoDeed, xi_NoDeed_SpanError⟩, (List.forall_mem_cons.mpr ⟨⟨xq_NoFraction, xi_NoFraction_SpanError⟩, (List.forall_mem_cons.mpr ⟨⟨xq_NoText, xi_NoText_SpanError⟩, (List.forall_mem_cons.mpr ⟨⟨xq_NoLine, xi_NoLine_SpanError⟩, (List.forall_mem_cons.mpr ⟨⟨xq_TooMany, xi_TooMany_SpanError⟩, (fun _ h => absurd h List.not_mem_nil)⟩)⟩)⟩)⟩)⟩)⟩)⟩)⟩)⟩)⟩)⟩)⟩)⟩)⟩)⟩)⟩)⟩)⟩),
    isTbs_l (List.forall_mem_cons.mpr ⟨⟨xq_NoBook, xj_NoBook_0⟩, (List.forall_mem_cons.mpr ⟨⟨xq_NoTime, xj_NoTime_0⟩, (List.forall_mem_cons.mpr ⟨⟨xq_NoShare, xj_NoShare_0⟩, (List.forall_mem_cons.mpr ⟨⟨xq_NoParts, xj_NoParts_0⟩, (List.forall_mem_cons.mpr ⟨⟨xq_NoPlain, xj_NoPlain_0⟩, (List.forall_mem_cons.mpr ⟨⟨xq_NoKind, xj_NoKind_0⟩, (List.forall_mem_cons.mpr ⟨⟨xq_NoMarks, xj_NoMarks_0⟩, (List.forall_mem_cons.mpr ⟨⟨xq_NoWord, xj_NoWord_0⟩, (List.forall_mem_cons.mpr ⟨⟨xq_NoFull, xj_NoFull_0⟩, (List.forall_mem_cons.mpr ⟨⟨xq_NoNumber, xj_NoNumber_0⟩, (List.forall_mem_cons.mpr ⟨⟨xq_NoBand, xj_NoBand_0⟩, (List.forall_mem_cons.mpr ⟨⟨xq_NoName, xj_NoName_0⟩, (List.forall_mem_cons.mpr ⟨⟨xq_NoDay, xj_NoDay_0⟩, (List.forall_mem_cons.mpr ⟨⟨xq_NoDeed, xj_NoDeed_0⟩, (List.forall_mem_cons.mpr ⟨⟨xq_NoFraction, xj_NoFraction_0⟩, (List.forall_mem_cons.mpr ⟨⟨xq_NoText, xj_NoText_0⟩, (List.forall_mem_cons.mpr ⟨⟨xq_NoLine, xj_NoLine_0⟩, (List.forall_mem_cons.mpr ⟨⟨xq_TooMany, xj_TooMany_0⟩, (fun _ h => absurd h List.not_mem_nil)⟩)⟩)⟩)⟩)⟩)⟩)⟩)⟩)⟩)⟩)⟩)⟩)⟩)⟩)⟩)⟩)⟩)⟩)⟩
  refine ⟨?fd, T, sem_law, [], rfl, rfl, ?bd, no_tabs rfl, fun base _ _ sm _ => ?mn, rfl⟩
  rotate_left 2
  have E__law_pot : FnE P w mg base T "_law_pot" 1 1 sem__law_pot := fn_e F__law_pot sc__law_pot rfl (PySem.W.mg_of X G a__law_pot) B__law_pot rfl sm fun X1 W1 H1 e1 e2 e3 e4 a1 k1 f1 c1 => by
    subst e1 e2 e3 e4
    exact b__law_pot a1 k1 f1 c1 g
  have E__law_cell_at : FnE P w mg base T "_law_cell_at" 1 2 sem__law_cell_at := fn_e F__law_cell_at sc__law_cell_at rfl (PySem.W.mg_of X G a__law_cell_at) B__law_cell_at rfl sm fun X1 W1 H1 e1 e2 e3 e4 a1 k1 f1 c1 => by
    subst e1 e2 e3 e4
    exact b__law_cell_at a1 k1 f1 c1 g
  have E__law_take : FnE P w mg base T "_law_take" 1 2 sem__law_take := fn_e F__law_take sc__law_take rfl (PySem.W.mg_of X G a__law_take) B__law_take rfl sm fun X1 W1 H1 e1 e2 e3 e4 a1 k1 f1 c1 => by
    subst e1 e2 e3 e4
    exact b__law_take a1 k1 f1 c1 g
  have E__law_plain_ones : FnE P w mg base T "_law_plain_ones" 1 0 sem__law_plain_ones := fn_e F__law_plain_ones sc__law_plain_ones rfl (PySem.W.mg_of X G a__law_plain_ones) B__law_plain_ones rfl sm fun X1 W1 H1 e1 e2 e3 e4 a1 k1 f1 c1 => by
    subst e1 e2 e3 e4
    exact b__law_plain_ones a1 k1 f1 c1 g
  have E__law_refusal : FnX P w mg base T "_law_refusal" 1 1 sem__law_refusal := fn_x F__law_refusal sc__law_refusal rfl (PySem.W.mg_of X G a__law_refusal) B__law_refusal rfl sm fun X1 W1 H1 A1 c1 d1 e1 e2 e3 e4 a1 k1 f1 cc1 => by
    subst e1 e2 e3 e4
    exact b__law_refusal a1 k1 f1 cc1 g
  have z1 := fun zz => @fn_g T P w K mg base 2 1 "law" "law" st_law _ _ N_law ["_law_script"] pr_law m_law F_law sc_law rfl rfl rfl sm zz
  refine z1 fun X1 W1 H1 e1 e2 _ e4 e5 e6 e7 e8 e9 c1 => ?_
  · subst e1 e2 e4 e5
    exact b_law rfl ⟨e6, e7⟩ e8 (fun x => by rw [e9]) c1 g E__law_refusal E__law_pot E__law_cell_at E__law_take E__law_plain_ones
  exact fun s u => .of_eq rfl
end Lw
set_option maxHeartbeats 0 in
theorem PySem.Challenge.cw_outlasts_k04_errors_of_one_family_holds : PySem.Challenge.rw_outlasts_k04_errors_of_one_family.Holds := by
  w_on; o_law; k_head; (case hw => w_witness2)
  k_fill
  refine DL.walk_g [] (l := PySem.Challenge.rw_outlasts_k04_errors_of_one_family) (n := 63) (k := 3) (x := "_law_script") rfl (by decide) rfl ⟨rfl, by decide, by decide⟩ (by decide +kernel) (fun w h Y => PySem.W.kIn_of Y) (fun _ _ _ _ hp => absurd hp List.not_mem_nil) ?F
  case F =>
    intro w mg fa h KX G hmg
    refine' DL.fin_g Lw.law_true (Lw.all_mk (P := PySem.Challenge.rw_outlasts_k04_errors_of_one_family.prog) (w := w) KX G hmg ?a__law_pot ?l__law_pot ?c__law_pot ?k__law_pot ?a__law_cell_at ?l__law_cell_at ?c__law_cell_at ?k__law_cell_at ?a__law_take ?l__law_take ?c__law_take ?k__law_take ?a__law_plain_ones ?l__law_plain_ones ?c__law_plain_ones ?k__law_plain_ones ?a__law_refusal ?l__law_refusal ?c__law_refusal ?k__law_refusal ?a_law ?l_law ?c_law ?k_law ?z_LookupError ?z_TypeError ?z_ValueError ?z_all ?z_isinstance ?z_len ?z_max ?z_min ?z_range ?g_SpanError ?g_NoBook ?q_NoBook ?x_NoBook ?b_NoBook ?t_NoBook ?g_NoTime ?q_NoTime ?x_NoTime ?b_NoTime ?t_NoTime ?g_NoShare ?q_NoShare ?x_NoShare ?b_NoShare ?t_NoShare ?g_NoParts ?q_NoParts ?x_NoParts ?b_NoParts ?t_NoParts ?g_NoPlain ?q_NoPlain ?x_NoPlain ?b_NoPlain ?t_NoPlain ?g_NoKind ?q_NoKind ?x_NoKind ?b_NoKind ?t_NoKind ?g_NoMarks ?q_NoMarks ?x_NoMarks ?b_NoMarks ?t_NoMarks ?g_NoWord ?q_NoWord ?x_NoWord ?b_NoWord ?t_NoWord ?g_NoFull ?q_NoFull ?x_NoFull ?b_NoFull ?t_NoFull ?g_NoNumber ?q_NoNumber ?x_NoNumber ?b_NoNumber ?t_NoNumber ?g_NoBand ?q_NoBand ?x_NoBand ?b_NoBand ?t_NoBand ?g_NoName ?q_NoName ?x_NoName ?b_NoName ?t_NoName ?g_NoDay ?q_NoDay ?x_NoDay ?b_NoDay ?t_NoDay ?g_NoDeed ?q_NoDeed ?x_NoDeed ?b_NoDeed ?t_NoDeed ?g_NoFraction ?q_NoFraction ?x_NoFraction ?b_NoFraction ?t_NoFraction ?g_NoText ?q_NoText ?x_NoText ?b_NoText ?t_NoText ?g_NoLine ?q_NoLine ?x_NoLine ?b_NoLine ?t_NoLine ?g_TooMany ?q_TooMany ?y_TooMany ?rv_TooMany ?sa_TooMany ?v1_TooMany ?v2_TooMany ?wi_TooMany ?ti_TooMany ?li_TooMany ?ci_TooMany ?xf_TooMany ?b_TooMany ?t_TooMany ?xq_NoBook ?xi_NoBook_NoBook ?xi_NoBook_NoTime ?xi_NoBook_NoShare ?xi_NoBook_NoParts ?xi_NoBook_NoPlain ?xi_NoBook_NoKind ?xi_NoBook_NoMarks ?xi_NoBook_NoWord ?xi_NoBook_NoFull ?xi_NoBook_NoNumber ?xi_NoBook_NoBand ?xi_NoBook_NoName ?xi_NoBook_NoDay ?xi_NoBook_NoDeed ?xi_NoBook_NoFraction ?xi_NoBook_NoText ?xi_NoBook_NoLine ?xi_NoBook_TooMany ?xi_NoBook_ValueError ?xi_NoBook_SpanError ?xj_NoBook_0 ?xq_NoTime ?xi_NoTime_NoBook ?xi_NoTime_NoTime ?xi_NoTime_NoShare ?xi_NoTime_NoParts ?xi_NoTime_NoPlain ?xi_NoTime_NoKind ?xi_NoTime_NoMarks ?xi_NoTime_NoWord ?xi_NoTime_NoFull ?xi_NoTime_NoNumber ?xi_NoTime_NoBand ?xi_NoTime_NoName ?xi_NoTime_NoDay ?xi_NoTime_NoDeed ?xi_NoTime_NoFraction ?xi_NoTime_NoText ?xi_NoTime_NoLine ?xi_NoTime_TooMany ?xi_NoTime_ValueError ?xi_NoTime_SpanError ?xj_NoTime_0 ?xq_NoShare ?xi_NoShare_NoBook ?xi_NoShare_NoTime ?xi_NoShare_NoShare ?xi_NoShare_NoParts ?xi_NoShare_NoPlain ?xi_NoShare_NoKind ?xi_NoShare_NoMarks ?xi_NoShare_NoWord ?xi_NoShare_NoFull ?xi_NoShare_NoNumber ?xi_NoShare_NoBand ?xi_NoShare_NoName ?xi_NoShare_NoDay ?xi_NoShare_NoDeed ?xi_NoShare_NoFraction ?xi_NoShare_NoText ?xi_NoShare_NoLine ?xi_NoShare_TooMany ?xi_NoShare_ValueError ?xi_NoShare_SpanError ?xj_NoShare_0 ?xq_NoParts ?xi_NoParts_NoBook ?xi_NoParts_NoTime ?xi_NoParts_NoShare ?xi_NoParts_NoParts ?xi_NoParts_NoPlain ?xi_NoParts_NoKind ?xi_NoParts_NoMarks ?xi_NoParts_NoWord ?xi_NoParts_NoFull ?xi_NoParts_NoNumber ?xi_NoParts_NoBand ?xi_NoParts_NoName ?xi_NoParts_NoDay ?xi_NoParts_NoDeed ?xi_NoParts_NoFraction ?xi_NoParts_NoText ?xi_NoParts_NoLine ?xi_NoParts_TooMany ?xi_NoParts_ValueError ?xi_NoParts_SpanError ?xj_NoParts_0 ?xq_NoPlain ?xi_NoPlain_NoBook ?xi_NoPlain_NoTime ?xi_NoPlain_NoShare ?xi_NoPlain_NoParts ?xi_NoPlain_NoPlain ?xi_NoPlain_NoKind ?xi_NoPlain_NoMarks ?xi_NoPlain_NoWord ?xi_NoPlain_NoFull ?xi_NoPlain_NoNumber ?xi_NoPlain_NoBand ?xi_NoPlain_NoName ?xi_NoPlain_NoDay ?xi_NoPlain_NoDeed ?xi_NoPlain_NoFraction ?xi_NoPlain_NoText ?xi_NoPlain_NoLine ?xi_NoPlain_TooMany ?xi_NoPlain_ValueError ?xi_NoPlain_SpanError ?xj_NoPlain_0 ?xq_NoKind ?xi_NoKind_NoBook ?xi_NoKind_NoTime ?xi_NoKind_NoShare ?xi_NoKind_NoParts ?xi_NoKind_NoPlain ?xi_NoKind_NoKind ?xi_NoKind_NoMarks ?xi_NoKind_NoWord ?xi_NoKind_NoFull ?xi_NoKind_NoNumber ?xi_NoKind_NoBand ?xi_NoKind_NoName ?xi_NoKind_NoDay ?xi_NoKind_NoDeed ?xi_NoKind_NoFraction ?xi_NoKind_NoText ?xi_NoKind_NoLine ?xi_NoKind_TooMany ?xi_NoKind_ValueError ?xi_NoKind_SpanError ?xj_NoKind_0 ?xq_NoMarks ?xi_NoMarks_NoBook ?xi_NoMarks_NoTime ?xi_NoMarks_NoShare ?xi_NoMarks_NoParts ?xi_NoMarks_NoPlain ?xi_NoMarks_NoKind ?xi_NoMarks_NoMarks ?xi_NoMarks_NoWord ?xi_NoMarks_NoFull ?xi_NoMarks_NoNumber ?xi_NoMarks_NoBand ?xi_NoMarks_NoName ?xi_NoMarks_NoDay ?xi_NoMarks_NoDeed ?xi_NoMarks_NoFraction ?xi_NoMarks_NoText ?xi_NoMarks_NoLine ?xi_NoMarks_TooMany ?xi_NoMarks_ValueError ?xi_NoMarks_SpanError ?xj_NoMarks_0 ?xq_NoWord ?xi_NoWord_NoBook ?xi_NoWord_NoTime ?xi_NoWord_NoShare ?xi_NoWord_NoParts ?xi_NoWord_NoPlain ?xi_NoWord_NoKind ?xi_NoWord_NoMarks ?xi_NoWord_NoWord ?xi_NoWord_NoFull ?xi_NoWord_NoNumber ?xi_NoWord_NoBand ?xi_NoWord_NoName ?xi_NoWord_NoDay ?xi_NoWord_NoDeed ?xi_NoWord_NoFraction ?xi_NoWord_NoText ?xi_NoWord_NoLine ?xi_NoWord_TooMany ?xi_NoWord_ValueError ?xi_NoWord_SpanError ?xj_NoWord_0 ?xq_NoFull ?xi_NoFull_NoBook ?xi_NoFull_NoTime ?xi_NoFull_NoShare ?xi_NoFull_NoParts ?xi_NoFull_NoPlain ?xi_NoFull_NoKind ?xi_NoFull_NoMarks ?xi_NoFull_NoWord ?xi_NoFull_NoFull ?xi_NoFull_NoNumber ?xi_NoFull_NoBand ?xi_NoFull_NoName ?xi_NoFull_NoDay ?xi_NoFull_NoDeed ?xi_NoFull_NoFraction ?xi_NoFull_NoText ?xi_NoFull_NoLine ?xi_NoFull_TooMany ?xi_NoFull_ValueError ?xi_NoFull_SpanError ?xj_NoFull_0 ?xq_NoNumber ?xi_NoNumber_NoBook ?xi_NoNumber_NoTime ?xi_NoNumber_NoShare ?xi_NoNumber_NoParts ?xi_NoNumber_NoPlain ?xi_NoNumber_NoKind ?xi_NoNumber_NoMarks ?xi_NoNumber_NoWord ?xi_NoNumber_NoFull ?xi_NoNumber_NoNumber ?xi_NoNumber_NoBand ?xi_NoNumber_NoName ?xi_NoNumber_NoDay ?xi_NoNumber_NoDeed ?xi_NoNumber_NoFraction ?xi_NoNumber_NoText ?xi_NoNumber_NoLine ?xi_NoNumber_TooMany ?xi_NoNumber_ValueError ?xi_NoNumber_SpanError ?xj_NoNumber_0 ?xq_NoBand ?xi_NoBand_NoBook ?xi_NoBand_NoTime ?xi_NoBand_NoShare ?xi_NoBand_NoParts ?xi_NoBand_NoPlain ?xi_NoBand_NoKind ?xi_NoBand_NoMarks ?xi_NoBand_NoWord ?xi_NoBand_NoFull ?xi_NoBand_NoNumber ?xi_NoBand_NoBand ?xi_NoBand_NoName ?xi_NoBand_NoDay ?xi_NoBand_NoDeed ?xi_NoBand_NoFraction ?xi_NoBand_NoText ?xi_NoBand_NoLine ?xi_NoBand_TooMany ?xi_NoBand_ValueError ?xi_NoBand_SpanError ?xj_NoBand_0 ?xq_NoName ?xi_NoName_NoBook ?xi_NoName_NoTime ?xi_NoName_NoShare ?xi_NoName_NoParts ?xi_NoName_NoPlain ?xi_NoName_NoKind ?xi_NoName_NoMarks ?xi_NoName_NoWord ?xi_NoName_NoFull ?xi_NoName_NoNumber ?xi_NoName_NoBand ?xi_NoName_NoName ?xi_NoName_NoDay ?xi_NoName_NoDeed ?xi_NoName_NoFraction ?xi_NoName_NoText ?xi_NoName_NoLine ?xi_NoName_TooMany ?xi_NoName_ValueError ?xi_NoName_SpanError ?xj_NoName_0 ?xq_NoDay ?xi_NoDay_NoBook ?xi_NoDay_NoTime ?xi_NoDay_NoShare ?xi_NoDay_NoParts ?xi_NoDay_NoPlain ?xi_NoDay_NoKind ?xi_NoDay_NoMarks ?xi_NoDay_NoWord ?xi_NoDay_NoFull ?xi_NoDay_NoNumber ?xi_NoDay_NoBand ?xi_NoDay_NoName ?xi_NoDay_NoDay ?xi_NoDay_NoDeed ?xi_NoDay_NoFraction ?xi_NoDay_NoText ?xi_NoDay_NoLine ?xi_NoDay_TooMany ?xi_NoDay_ValueError ?xi_NoDay_SpanError ?xj_NoDay_0 ?xq_NoDeed ?xi_NoDeed_NoBook ?xi_NoDeed_NoTime ?xi_NoDeed_NoShare ?xi_NoDeed_NoParts ?xi_NoDeed_NoPlain ?xi_NoDeed_NoKind ?xi_NoDeed_NoMarks ?xi_NoDeed_NoWord ?xi_NoDeed_NoFull ?xi_NoDeed_NoNumber ?xi_NoDeed_NoBand ?xi_NoDeed_NoName ?xi_NoDeed_NoDay ?xi_NoDeed_NoDeed ?xi_NoDeed_NoFraction ?xi_NoDeed_NoText ?xi_NoDeed_NoLine ?xi_NoDeed_TooMany ?xi_NoDeed_ValueError ?xi_NoDeed_SpanError ?xj_NoDeed_0 ?xq_NoFraction ?xi_NoFraction_NoBook ?xi_NoFraction_NoTime ?xi_NoFraction_NoShare ?xi_NoFraction_NoParts ?xi_NoFraction_NoPlain ?xi_NoFraction_NoKind ?xi_NoFraction_NoMarks ?xi_NoFraction_NoWord ?xi_NoFraction_NoFull ?xi_NoFraction_NoNumber ?xi_NoFraction_NoBand ?xi_NoFraction_NoName ?xi_NoFraction_NoDay ?xi_NoFraction_NoDeed ?xi_NoFraction_NoFraction ?xi_NoFraction_NoText ?xi_NoFraction_NoLine ?xi_NoFraction_TooMany ?xi_NoFraction_ValueError ?xi_NoFraction_SpanError ?xj_NoFraction_0 ?xq_NoText ?xi_NoText_NoBook ?xi_NoText_NoTime ?xi_NoText_NoShare ?xi_NoText_NoParts ?xi_NoText_NoPlain ?xi_NoText_NoKind ?xi_NoText_NoMarks ?xi_NoText_NoWord ?xi_NoText_NoFull ?xi_NoText_NoNumber ?xi_NoText_NoBand ?xi_NoText_NoName ?xi_NoText_NoDay ?xi_NoText_NoDeed ?xi_NoText_NoFraction ?xi_NoText_NoText ?xi_NoText_NoLine ?xi_NoText_TooMany ?xi_NoText_ValueError ?xi_NoText_SpanError ?xj_NoText_0 ?xq_NoLine ?xi_NoLine_NoBook ?xi_NoLine_NoTime ?xi_NoLine_NoShare ?xi_NoLine_NoParts ?xi_NoLine_NoPlain ?xi_NoLine_NoKind ?xi_NoLine_NoMarks ?xi_NoLine_NoWord ?xi_NoLine_NoFull ?xi_NoLine_NoNumber ?xi_NoLine_NoBand ?xi_NoLine_NoName ?xi_NoLine_NoDay ?xi_NoLine_NoDeed ?xi_NoLine_NoFraction ?xi_NoLine_NoText ?xi_NoLine_NoLine ?xi_NoLine_TooMany ?xi_NoLine_ValueError ?xi_NoLine_SpanError ?xj_NoLine_0 ?xq_TooMany ?xi_TooMany_NoBook ?xi_TooMany_NoTime ?xi_TooMany_NoShare ?xi_TooMany_NoParts ?xi_TooMany_NoPlain ?xi_TooMany_NoKind ?xi_TooMany_NoMarks ?xi_TooMany_NoWord ?xi_TooMany_NoFull ?xi_TooMany_NoNumber ?xi_TooMany_NoBand ?xi_TooMany_NoName ?xi_TooMany_NoDay ?xi_TooMany_NoDeed ?xi_TooMany_NoFraction ?xi_TooMany_NoText ?xi_TooMany_NoLine ?xi_TooMany_TooMany ?xi_TooMany_ValueError ?xi_TooMany_SpanError ?xj_TooMany_0)
    (case a__law_pot => k_is)
    (case l__law_pot => k_is)
    (case c__law_pot => k_is)
    (case k__law_pot => k_is)
    (case a__law_cell_at => k_is)
    (case l__law_cell_at => k_is)
    (case c__law_cell_at => k_is)
    (case k__law_cell_at => k_is)
    (case a__law_take => k_is)
    (case l__law_take => k_is)
    (case c__law_take => k_is)
    (case k__law_take => k_is)
    (case a__law_plain_ones => k_is)
    (case l__law_plain_ones => k_is)
    (case c__law_plain_ones => k_is)
    (case k__law_plain_ones => k_is)
    (case a__law_refusal => k_is)
    (case l__law_refusal => k_is)
    (case c__law_refusal => k_is)
    (case k__law_refusal => k_is)
    (case a_law => k_is)
    (case l_law => k_is)
    (case c_law => k_is)
    (case k_law => k_is)
    (case z_LookupError => k_is)
    (case z_TypeError => k_is)
    (case z_ValueError => k_is)
    (case z_all => k_is)
    (case z_isinstance => k_is)
    (case z_len => k_is)
    (case z_max => k_is)
    (case z_min => k_is)
    (case z_range => k_is)
    (case g_SpanError => k_is)
    (case g_NoBook => k_is)
    (case q_NoBook => k_is)
    (case x_NoBook => k_exc)
    (case b_NoBook => k_is)
    (case t_NoBook => k_is)
    (case g_NoTime => k_is)
    (case q_NoTime => k_is)
    (case x_NoTime => k_exc)
    (case b_NoTime => k_is)
    (case t_NoTime => k_is)
    (case g_NoShare => k_is)
    (case q_NoShare => k_is)
    (case x_NoShare => k_exc)
    (case b_NoShare => k_is)
    (case t_NoShare => k_is)
    (case g_NoParts => k_is)
    (case q_NoParts => k_is)
    (case x_NoParts => k_exc)
    (case b_NoParts => k_is)
    (case t_NoParts => k_is)
    (case g_NoPlain => k_is)
    (case q_NoPlain => k_is)
    (case x_NoPlain => k_exc)
    (case b_NoPlain => k_is)
    (case t_NoPlain => k_is)
    (case g_NoKind => k_is)
    (case q_NoKind => k_is)
    (case x_NoKind => k_exc)
    (case b_NoKind => k_is)
    (case t_NoKind => k_is)
    (case g_NoMarks => k_is)
    (case q_NoMarks => k_is)
    (case x_NoMarks => k_exc)
    (case b_NoMarks => k_is)
    (case t_NoMarks => k_is)
    (case g_NoWord => k_is)
    (case q_NoWord => k_is)
    (case x_NoWord => k_exc)
    (case b_NoWord => k_is)
    (case t_NoWord => k_is)
    (case g_NoFull => k_is)
    (case q_NoFull => k_is)
    (case x_NoFull => k_exc)
    (case b_NoFull => k_is)
    (case t_NoFull => k_is)
    (case g_NoNumber => k_is)
    (case q_NoNumber => k_is)
    (case x_NoNumber => k_exc)
    (case b_NoNumber => k_is)
    (case t_NoNumber => k_is)
    (case g_NoBand => k_is)
    (case q_NoBand => k_is)
    (case x_NoBand => k_exc)
    (case b_NoBand => k_is)
    (case t_NoBand => k_is)
    (case g_NoName => k_is)
    (case q_NoName => k_is)
    (case x_NoName => k_exc)
    (case b_NoName => k_is)
    (case t_NoName => k_is)
    (case g_NoDay => k_is)
    (case q_NoDay => k_is)
    (case x_NoDay => k_exc)
    (case b_NoDay => k_is)
    (case t_NoDay => k_is)
    (case g_NoDeed => k_is)
    (case q_NoDeed => k_is)
    (case x_NoDeed => k_exc)
    (case b_NoDeed => k_is)
    (case t_NoDeed => k_is)
    (case g_NoFraction => k_is)
    (case q_NoFraction => k_is)
    (case x_NoFraction => k_exc)
    (case b_NoFraction => k_is)
    (case t_NoFraction => k_is)
    (case g_NoText => k_is)
    (case q_NoText => k_is)
    (case x_NoText => k_exc)
    (case b_NoText => k_is)
    (case t_NoText => k_is)
    (case g_NoLine => k_is)
    (case q_NoLine => k_is)
    (case x_NoLine => k_exc)
    (case b_NoLine => k_is)
    (case t_NoLine => k_is)
    (case g_TooMany => k_is)
    (case q_TooMany => k_is)
    (case y_TooMany => k_is)
    (case rv_TooMany => kernel_rfl)
    (case sa_TooMany => k_is)
    (case v1_TooMany => k_is)
    (case v2_TooMany => k_is)
    (case wi_TooMany => k_is)
    (case ti_TooMany => k_is)
    (case li_TooMany => k_is)
    (case ci_TooMany => k_is)
    (case xf_TooMany => kernel_rfl)
    (case b_TooMany => k_is)
    (case t_TooMany => k_is)
    (case xq_NoBook => kernel_rfl)
    (case xi_NoBook_NoBook => kernel_rfl)
    (case xi_NoBook_NoTime => kernel_rfl)
    (case xi_NoBook_NoShare => kernel_rfl)
    (case xi_NoBook_NoParts => kernel_rfl)
    (case xi_NoBook_NoPlain => kernel_rfl)
    (case xi_NoBook_NoKind => kernel_rfl)
    (case xi_NoBook_NoMarks => kernel_rfl)
    (case xi_NoBook_NoWord => kernel_rfl)
    (case xi_NoBook_NoFull => kernel_rfl)
    (case xi_NoBook_NoNumber => kernel_rfl)
    (case xi_NoBook_NoBand => kernel_rfl)
    (case xi_NoBook_NoName => kernel_rfl)
    (case xi_NoBook_NoDay => kernel_rfl)
    (case xi_NoBook_NoDeed => kernel_rfl)
    (case xi_NoBook_NoFraction => kernel_rfl)
    (case xi_NoBook_NoText => kernel_rfl)
    (case xi_NoBook_NoLine => kernel_rfl)
    (case xi_NoBook_TooMany => kernel_rfl)
    (case xi_NoBook_ValueError => kernel_rfl)
    (case xi_NoBook_SpanError => kernel_rfl)
    (case xj_NoBook_0 => kernel_rfl)
    (case xq_NoTime => kernel_rfl)
    (case xi_NoTime_NoBook => kernel_rfl)
    (case xi_NoTime_NoTime => kernel_rfl)
    (case xi_NoTime_NoShare => kernel_rfl)
    (case xi_NoTime_NoParts => kernel_rfl)
    (case xi_NoTime_NoPlain => kernel_rfl)
    (case xi_NoTime_NoKind => kernel_rfl)
    (case xi_NoTime_NoMarks => kernel_rfl)
    (case xi_NoTime_NoWord => kernel_rfl)
    (case xi_NoTime_NoFull => kernel_rfl)
    (case xi_NoTime_NoNumber => kernel_rfl)
    (case xi_NoTime_NoBand => kernel_rfl)
    (case xi_NoTime_NoName => kernel_rfl)
    (case xi_NoTime_NoDay => kernel_rfl)
    (case xi_NoTime_NoDeed => kernel_rfl)
    (case xi_NoTime_NoFraction => kernel_rfl)
    (case xi_NoTime_NoText => kernel_rfl)
    (case xi_NoTime_NoLine => kernel_rfl)
    (case xi_NoTime_TooMany => kernel_rfl)
    (case xi_NoTime_ValueError => kernel_rfl)
    (case xi_NoTime_SpanError => kernel_rfl)
    (case xj_NoTime_0 => kernel_rfl)
    (case xq_NoShare => kernel_rfl)
    (case xi_NoShare_NoBook => kernel_rfl)
    (case xi_NoShare_NoTime => kernel_rfl)
    (case xi_NoShare_NoShare => kernel_rfl)
    (case xi_NoShare_NoParts => kernel_rfl)
    (case xi_NoShare_NoPlain => kernel_rfl)
    (case xi_NoShare_NoKind => kernel_rfl)
    (case xi_NoShare_NoMarks => kernel_rfl)
    (case xi_NoShare_NoWord => kernel_rfl)
    (case xi_NoShare_NoFull => kernel_rfl)
    (case xi_NoShare_NoNumber => kernel_rfl)
    (case xi_NoShare_NoBand => kernel_rfl)
    (case xi_NoShare_NoName => kernel_rfl)
    (case xi_NoShare_NoDay => kernel_rfl)
    (case xi_NoShare_NoDeed => kernel_rfl)
    (case xi_NoShare_NoFraction => kernel_rfl)
    (case xi_NoShare_NoText => kernel_rfl)
    (case xi_NoShare_NoLine => kernel_rfl)
    (case xi_NoShare_TooMany => kernel_rfl)
    (case xi_NoShare_ValueError => kernel_rfl)
    (case xi_NoShare_SpanError => kernel_rfl)
    (case xj_NoShare_0 => kernel_rfl)
    (case xq_NoParts => kernel_rfl)
    (case xi_NoParts_NoBook => kernel_rfl)
    (case xi_NoParts_NoTime => kernel_rfl)
    (case xi_NoParts_NoShare => kernel_rfl)
    (case xi_NoParts_NoParts => kernel_rfl)
    (case xi_NoParts_NoPlain => kernel_rfl)
    (case xi_NoParts_NoKind => kernel_rfl)
    (case xi_NoParts_NoMarks => kernel_rfl)
    (case xi_NoParts_NoWord => kernel_rfl)
    (case xi_NoParts_NoFull => kernel_rfl)
    (case xi_NoParts_NoNumber => kernel_rfl)
    (case xi_NoParts_NoBand => kernel_rfl)
    (case xi_NoParts_NoName => kernel_rfl)
    (case xi_NoParts_NoDay => kernel_rfl)
    (case xi_NoParts_NoDeed => kernel_rfl)
    (case xi_NoParts_NoFraction => kernel_rfl)
    (case xi_NoParts_NoText => kernel_rfl)
    (case xi_NoParts_NoLine => kernel_rfl)
    (case xi_NoParts_TooMany => kernel_rfl)
    (case xi_NoParts_ValueError => kernel_rfl)
    (case xi_NoParts_SpanError => kernel_rfl)
    (case xj_NoParts_0 => kernel_rfl)
    (case xq_NoPlain => kernel_rfl)
    (case xi_NoPlain_NoBook => kernel_rfl)
    (case xi_NoPlain_NoTime => kernel_rfl)
    (case xi_NoPlain_NoShare => kernel_rfl)
    (case xi_NoPlain_NoParts => kernel_rfl)
    (case xi_NoPlain_NoPlain => kernel_rfl)
    (case xi_NoPlain_NoKind => kernel_rfl)
    (case xi_NoPlain_NoMarks => kernel_rfl)
    (case xi_NoPlain_NoWord => kernel_rfl)
    (case xi_NoPlain_NoFull => kernel_rfl)
    (case xi_NoPlain_NoNumber => kernel_rfl)
    (case xi_NoPlain_NoBand => kernel_rfl)
    (case xi_NoPlain_NoName => kernel_rfl)
    (case xi_NoPlain_NoDay => kernel_rfl)
    (case xi_NoPlain_NoDeed => kernel_rfl)
    (case xi_NoPlain_NoFraction => kernel_rfl)
    (case xi_NoPlain_NoText => kernel_rfl)
    (case xi_NoPlain_NoLine => kernel_rfl)
    (case xi_NoPlain_TooMany => kernel_rfl)
    (case xi_NoPlain_ValueError => kernel_rfl)
    (case xi_NoPlain_SpanError => kernel_rfl)
    (case xj_NoPlain_0 => kernel_rfl)
    (case xq_NoKind => kernel_rfl)
    (case xi_NoKind_NoBook => kernel_rfl)
    (case xi_NoKind_NoTime => kernel_rfl)
    (case xi_NoKind_NoShare => kernel_rfl)
    (case xi_NoKind_NoParts => kernel_rfl)
    (case xi_NoKind_NoPlain => kernel_rfl)
    (case xi_NoKind_NoKind => kernel_rfl)
    (case xi_NoKind_NoMarks => kernel_rfl)
    (case xi_NoKind_NoWord => kernel_rfl)
    (case xi_NoKind_NoFull => kernel_rfl)
    (case xi_NoKind_NoNumber => kernel_rfl)
    (case xi_NoKind_NoBand => kernel_rfl)
    (case xi_NoKind_NoName => kernel_rfl)
    (case xi_NoKind_NoDay => kernel_rfl)
    (case xi_NoKind_NoDeed => kernel_rfl)
    (case xi_NoKind_NoFraction => kernel_rfl)
    (case xi_NoKind_NoText => kernel_rfl)
    (case xi_NoKind_NoLine => kernel_rfl)
    (case xi_NoKind_TooMany => kernel_rfl)
    (case xi_NoKind_ValueError => kernel_rfl)
    (case xi_NoKind_SpanError => kernel_rfl)
    (case xj_NoKind_0 => kernel_rfl)
    (case xq_NoMarks => kernel_rfl)
    (case xi_NoMarks_NoBook => kernel_rfl)
    (case xi_NoMarks_NoTime => kernel_rfl)
    (case xi_NoMarks_NoShare => kernel_rfl)
    (case xi_NoMarks_NoParts => kernel_rfl)
    (case xi_NoMarks_NoPlain => kernel_rfl)
    (case xi_NoMarks_NoKind => kernel_rfl)
    (case xi_NoMarks_NoMarks => kernel_rfl)
    (case xi_NoMarks_NoWord => kernel_rfl)
    (case xi_NoMarks_NoFull => kernel_rfl)
    (case xi_NoMarks_NoNumber => kernel_rfl)
    (case xi_NoMarks_NoBand => kernel_rfl)
    (case xi_NoMarks_NoName => kernel_rfl)
    (case xi_NoMarks_NoDay => kernel_rfl)
    (case xi_NoMarks_NoDeed => kernel_rfl)
    (case xi_NoMarks_NoFraction => kernel_rfl)
    (case xi_NoMarks_NoText => kernel_rfl)
    (case xi_NoMarks_NoLine => kernel_rfl)
    (case xi_NoMarks_TooMany => kernel_rfl)
    (case xi_NoMarks_ValueError => kernel_rfl)
    (case xi_NoMarks_SpanError => kernel_rfl)
    (case xj_NoMarks_0 => kernel_rfl)
    (case xq_NoWord => kernel_rfl)
    (case xi_NoWord_NoBook => kernel_rfl)
    (case xi_NoWord_NoTime => kernel_rfl)
    (case xi_NoWord_NoShare => kernel_rfl)
    (case xi_NoWord_NoParts => kernel_rfl)
    (case xi_NoWord_NoPlain => kernel_rfl)
    (case xi_NoWord_NoKind => kernel_rfl)
    (case xi_NoWord_NoMarks => kernel_rfl)
    (case xi_NoWord_NoWord => kernel_rfl)
    (case xi_NoWord_NoFull => kernel_rfl)
    (case xi_NoWord_NoNumber => kernel_rfl)
    (case xi_NoWord_NoBand => kernel_rfl)
    (case xi_NoWord_NoName => kernel_rfl)
    (case xi_NoWord_NoDay => kernel_rfl)
    (case xi_NoWord_NoDeed => kernel_rfl)
    (case xi_NoWord_NoFraction => kernel_rfl)
    (case xi_NoWord_NoText => kernel_rfl)
    (case xi_NoWord_NoLine => kernel_rfl)
    (case xi_NoWord_TooMany => kernel_rfl)
    (case xi_NoWord_ValueError => kernel_rfl)
    (case xi_NoWord_SpanError => kernel_rfl)
    (case xj_NoWord_0 => kernel_rfl)
    (case xq_NoFull => kernel_rfl)
    (case xi_NoFull_NoBook => kernel_rfl)
    (case xi_NoFull_NoTime => kernel_rfl)
    (case xi_NoFull_NoShare => kernel_rfl)
    (case xi_NoFull_NoParts => kernel_rfl)
    (case xi_NoFull_NoPlain => kernel_rfl)
    (case xi_NoFull_NoKind => kernel_rfl)
    (case xi_NoFull_NoMarks => kernel_rfl)
    (case xi_NoFull_NoWord => kernel_rfl)
    (case xi_NoFull_NoFull => kernel_rfl)
    (case xi_NoFull_NoNumber => kernel_rfl)
    (case xi_NoFull_NoBand => kernel_rfl)
    (case xi_NoFull_NoName => kernel_rfl)
    (case xi_NoFull_NoDay => kernel_rfl)
    (case xi_NoFull_NoDeed => kernel_rfl)
    (case xi_NoFull_NoFraction => kernel_rfl)
    (case xi_NoFull_NoText => kernel_rfl)
    (case xi_NoFull_NoLine => kernel_rfl)
    (case xi_NoFull_TooMany => kernel_rfl)
    (case xi_NoFull_ValueError => kernel_rfl)
    (case xi_NoFull_SpanError => kernel_rfl)
    (case xj_NoFull_0 => kernel_rfl)
    (case xq_NoNumber => kernel_rfl)
    (case xi_NoNumber_NoBook => kernel_rfl)
    (case xi_NoNumber_NoTime => kernel_rfl)
    (case xi_NoNumber_NoShare => kernel_rfl)
    (case xi_NoNumber_NoParts => kernel_rfl)
    (case xi_NoNumber_NoPlain => kernel_rfl)
    (case xi_NoNumber_NoKind => kernel_rfl)
    (case xi_NoNumber_NoMarks => kernel_rfl)
    (case xi_NoNumber_NoWord => kernel_rfl)
    (case xi_NoNumber_NoFull => kernel_rfl)
    (case xi_NoNumber_NoNumber => kernel_rfl)
    (case xi_NoNumber_NoBand => kernel_rfl)
    (case xi_NoNumber_NoName => kernel_rfl)
    (case xi_NoNumber_NoDay => kernel_rfl)
    (case xi_NoNumber_NoDeed => kernel_rfl)
    (case xi_NoNumber_NoFraction => kernel_rfl)
    (case xi_NoNumber_NoText => kernel_rfl)
    (case xi_NoNumber_NoLine => kernel_rfl)
    (case xi_NoNumber_TooMany => kernel_rfl)
    (case xi_NoNumber_ValueError => kernel_rfl)
    (case xi_NoNumber_SpanError => kernel_rfl)
    (case xj_NoNumber_0 => kernel_rfl)
    (case xq_NoBand => kernel_rfl)
    (case xi_NoBand_NoBook => kernel_rfl)
    (case xi_NoBand_NoTime => kernel_rfl)
    (case xi_NoBand_NoShare => kernel_rfl)
    (case xi_NoBand_NoParts => kernel_rfl)
    (case xi_NoBand_NoPlain => kernel_rfl)
    (case xi_NoBand_NoKind => kernel_rfl)
    (case xi_NoBand_NoMarks => kernel_rfl)
    (case xi_NoBand_NoWord => kernel_rfl)
    (case xi_NoBand_NoFull => kernel_rfl)
    (case xi_NoBand_NoNumber => kernel_rfl)
    (case xi_NoBand_NoBand => kernel_rfl)
    (case xi_NoBand_NoName => kernel_rfl)
    (case xi_NoBand_NoDay => kernel_rfl)
    (case xi_NoBand_NoDeed => kernel_rfl)
    (case xi_NoBand_NoFraction => kernel_rfl)
    (case xi_NoBand_NoText => kernel_rfl)
    (case xi_NoBand_NoLine => kernel_rfl)
    (case xi_NoBand_TooMany => kernel_rfl)
    (case xi_NoBand_ValueError => kernel_rfl)
    (case xi_NoBand_SpanError => kernel_rfl)
    (case xj_NoBand_0 => kernel_rfl)
    (case xq_NoName => kernel_rfl)
    (case xi_NoName_NoBook => kernel_rfl)
    (case xi_NoName_NoTime => kernel_rfl)
    (case xi_NoName_NoShare => kernel_rfl)
    (case xi_NoName_NoParts => kernel_rfl)
    (case xi_NoName_NoPlain => kernel_rfl)
    (case xi_NoName_NoKind => kernel_rfl)
    (case xi_NoName_NoMarks => kernel_rfl)
    (case xi_NoName_NoWord => kernel_rfl)
    (case xi_NoName_NoFull => kernel_rfl)
    (case xi_NoName_NoNumber => kernel_rfl)
    (case xi_NoName_NoBand => kernel_rfl)
    (case xi_NoName_NoName => kernel_rfl)
    (case xi_NoName_NoDay => kernel_rfl)
    (case xi_NoName_NoDeed => kernel_rfl)
    (case xi_NoName_NoFraction => kernel_rfl)
    (case xi_NoName_NoText => kernel_rfl)
    (case xi_NoName_NoLine => kernel_rfl)
    (case xi_NoName_TooMany => kernel_rfl)
    (case xi_NoName_ValueError => kernel_rfl)
    (case xi_NoName_SpanError => kernel_rfl)
    (case xj_NoName_0 => kernel_rfl)
    (case xq_NoDay => kernel_rfl)
    (case xi_NoDay_NoBook => kernel_rfl)
    (case xi_NoDay_NoTime => kernel_rfl)
    (case xi_NoDay_NoShare => kernel_rfl)
    (case xi_NoDay_NoParts => kernel_rfl)
    (case xi_NoDay_NoPlain => kernel_rfl)
    (case xi_NoDay_NoKind => kernel_rfl)
    (case xi_NoDay_NoMarks => kernel_rfl)
    (case xi_NoDay_NoWord => kernel_rfl)
    (case xi_NoDay_NoFull => kernel_rfl)
    (case xi_NoDay_NoNumber => kernel_rfl)
    (case xi_NoDay_NoBand => kernel_rfl)
    (case xi_NoDay_NoName => kernel_rfl)
    (case xi_NoDay_NoDay => kernel_rfl)
    (case xi_NoDay_NoDeed => kernel_rfl)
    (case xi_NoDay_NoFraction => kernel_rfl)
    (case xi_NoDay_NoText => kernel_rfl)
    (case xi_NoDay_NoLine => kernel_rfl)
    (case xi_NoDay_TooMany => kernel_rfl)
    (case xi_NoDay_ValueError => kernel_rfl)
    (case xi_NoDay_SpanError => kernel_rfl)
    (case xj_NoDay_0 => kernel_rfl)
    (case xq_NoDeed => kernel_rfl)
    (case xi_NoDeed_NoBook => kernel_rfl)
    (case xi_NoDeed_NoTime => kernel_rfl)
    (case xi_NoDeed_NoShare => kernel_rfl)
    (case xi_NoDeed_NoParts => kernel_rfl)
    (case xi_NoDeed_NoPlain => kernel_rfl)
    (case xi_NoDeed_NoKind => kernel_rfl)
    (case xi_NoDeed_NoMarks => kernel_rfl)
    (case xi_NoDeed_NoWord => kernel_rfl)
    (case xi_NoDeed_NoFull => kernel_rfl)
    (case xi_NoDeed_NoNumber => kernel_rfl)
    (case xi_NoDeed_NoBand => kernel_rfl)
    (case xi_NoDeed_NoName => kernel_rfl)
    (case xi_NoDeed_NoDay => kernel_rfl)
    (case xi_NoDeed_NoDeed => kernel_rfl)
    (case xi_NoDeed_NoFraction => kernel_rfl)
    (case xi_NoDeed_NoText => kernel_rfl)
    (case xi_NoDeed_NoLine => kernel_rfl)
    (case xi_NoDeed_TooMany => kernel_rfl)
    (case xi_NoDeed_ValueError => kernel_rfl)
    (case xi_NoDeed_SpanError => kernel_rfl)
    (case xj_NoDeed_0 => kernel_rfl)
    (case xq_NoFraction => kernel_rfl)
    (case xi_NoFraction_NoBook => kernel_rfl)
    (case xi_NoFraction_NoTime => kernel_rfl)
    (case xi_NoFraction_NoShare => kernel_rfl)
    (case xi_NoFraction_NoParts => kernel_rfl)
    (case xi_NoFraction_NoPlain => kernel_rfl)
    (case xi_NoFraction_NoKind => kernel_rfl)
    (case xi_NoFraction_NoMarks => kernel_rfl)
    (case xi_NoFraction_NoWord => kernel_rfl)
    (case xi_NoFraction_NoFull => kernel_rfl)
    (case xi_NoFraction_NoNumber => kernel_rfl)
    (case xi_NoFraction_NoBand => kernel_rfl)
    (case xi_NoFraction_NoName => kernel_rfl)
    (case xi_NoFraction_NoDay => kernel_rfl)
    (case xi_NoFraction_NoDeed => kernel_rfl)
    (case xi_NoFraction_NoFraction => kernel_rfl)
    (case xi_NoFraction_NoText => kernel_rfl)
    (case xi_NoFraction_NoLine => kernel_rfl)
    (case xi_NoFraction_TooMany => kernel_rfl)
    (case xi_NoFraction_ValueError => kernel_rfl)
    (case xi_NoFraction_SpanError => kernel_rfl)
    (case xj_NoFraction_0 => kernel_rfl)
    (case xq_NoText => kernel_rfl)
    (case xi_NoText_NoBook => kernel_rfl)
    (case xi_NoText_NoTime => kernel_rfl)
    (case xi_NoText_NoShare => kernel_rfl)
    (case xi_NoText_NoParts => kernel_rfl)
    (case xi_NoText_NoPlain => kernel_rfl)
    (case xi_NoText_NoKind => kernel_rfl)
    (case xi_NoText_NoMarks => kernel_rfl)
    (case xi_NoText_NoWord => kernel_rfl)
    (case xi_NoText_NoFull => kernel_rfl)
    (case xi_NoText_NoNumber => kernel_rfl)
    (case xi_NoText_NoBand => kernel_rfl)
    (case xi_NoText_NoName => kernel_rfl)
    (case xi_NoText_NoDay => kernel_rfl)
    (case xi_NoText_NoDeed => kernel_rfl)
    (case xi_NoText_NoFraction => kernel_rfl)
    (case xi_NoText_NoText => kernel_rfl)
    (case xi_NoText_NoLine => kernel_rfl)
    (case xi_NoText_TooMany => kernel_rfl)
    (case xi_NoText_ValueError => kernel_rfl)
    (case xi_NoText_SpanError => kernel_rfl)
    (case xj_NoText_0 => kernel_rfl)
    (case xq_NoLine => kernel_rfl)
    (case xi_NoLine_NoBook => kernel_rfl)
    (case xi_NoLine_NoTime => kernel_rfl)
    (case xi_NoLine_NoShare => kernel_rfl)
    (case xi_NoLine_NoParts => kernel_rfl)
    (case xi_NoLine_NoPlain => kernel_rfl)
    (case xi_NoLine_NoKind => kernel_rfl)
    (case xi_NoLine_NoMarks => kernel_rfl)
    (case xi_NoLine_NoWord => kernel_rfl)
    (case xi_NoLine_NoFull => kernel_rfl)
    (case xi_NoLine_NoNumber => kernel_rfl)
    (case xi_NoLine_NoBand => kernel_rfl)
    (case xi_NoLine_NoName => kernel_rfl)
    (case xi_NoLine_NoDay => kernel_rfl)
    (case xi_NoLine_NoDeed => kernel_rfl)
    (case xi_NoLine_NoFraction => kernel_rfl)
    (case xi_NoLine_NoText => kernel_rfl)
    (case xi_NoLine_NoLine => kernel_rfl)
    (case xi_NoLine_TooMany => kernel_rfl)
    (case xi_NoLine_ValueError => kernel_rfl)
    (case xi_NoLine_SpanError => kernel_rfl)
    (case xj_NoLine_0 => kernel_rfl)
    (case xq_TooMany => kernel_rfl)
    (case xi_TooMany_NoBook => kernel_rfl)
    (case xi_TooMany_NoTime => kernel_rfl)
    (case xi_TooMany_NoShare => kernel_rfl)
    (case xi_TooMany_NoParts => kernel_rfl)
    (case xi_TooMany_NoPlain => kernel_rfl)
    (case xi_TooMany_NoKind => kernel_rfl)
    (case xi_TooMany_NoMarks => kernel_rfl)
    (case xi_TooMany_NoWord => kernel_rfl)
    (case xi_TooMany_NoFull => kernel_rfl)
    (case xi_TooMany_NoNumber => kernel_rfl)
    (case xi_TooMany_NoBand => kernel_rfl)
    (case xi_TooMany_NoName => kernel_rfl)
    (case xi_TooMany_NoDay => kernel_rfl)
    (case xi_TooMany_NoDeed => kernel_rfl)
    (case xi_TooMany_NoFraction => kernel_rfl)
    (case xi_TooMany_NoText => kernel_rfl)
    (case xi_TooMany_NoLine => kernel_rfl)
    (case xi_TooMany_TooMany => kernel_rfl)
    (case xi_TooMany_ValueError => kernel_rfl)
    (case xi_TooMany_SpanError => kernel_rfl)
    (case xj_TooMany_0 => kernel_rfl)
