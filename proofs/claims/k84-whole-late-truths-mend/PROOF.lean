import PyProof.Rows.All
import HandS.Head0
import HandS.Head1
import HandS.Head2
import HandS.HeadHook1
import HandS.HeadHook2
import PySem.Challenge.RW_outlasts_k84_whole_late_truths_mend
import Wide.All
import OpenK.AllK
import Wide.FinOn
import HandS.ForMost
import HandS.ForExc
import HandS.CallSlots
import HandS.Wide
import HandS.IsInst
import HandS.Strs
import HandS.Zip
import HandS.TupAny
import HandS.TupMul
import HandS.Conv
import HandS.Lambda
import HandS.Style
import HandS.RaiseMore
import KE.KNestM
import HandS.SetBool
import HandS.SetFor
import PyProof.ZipIter
import HandS.Zip0
import KE.GoesEnumKw
import PyProof.Draws
import PyProof.EnumMake
import HandS.Deep
import HandS.SortInts
import HandS.Defaults
import HandS.TupSets
import HandS.HotCalls
import HandS.ExcIs
import KE.DataMinMax
import KE.SortKeyed
import HandS.SortKw
import KE.KDictWalk
import HandS.TupLen
import HandS.More
import HandS.ExcInit
import HandS.ExcField
import KE.KExcIs
import HandS.Text
import HandS.FStr
import HandS.Iter
import HandS.StrMore
import HandS.CallRecv
import HandS.ListItems
import OpenK.KOps
import PyProof.FactsAll.object_2
import HandS.SlotsOwn
import KE.KTab
import KE.KUnpackStar
import HandS.Flow
set_option Elab.async false
set_option linter.all false
set_option maxRecDepth 100000
set_option maxHeartbeats 4000000
namespace DL
open PySem PySem.Spec PyProof.Rows L2 He
abbrev veM : List Value := [.type "ValueError", .type "Exception", .type "BaseException", .type "object"]
def refX (o : Obj) : List Addr := match o.data with
  | .seq its _ => its.toList.flatMap refV
  | .dict es _ => es.toList.flatMap fun e => refV e.val
  | .func fd => refV fd.code ++ refV fd.defaults
  | .cls cd => [cd.ns]
  | _ => []
def nextX (g : Addr → Option Obj) (as : List Addr) : List Addr := as.flatMap fun a => match g a with
  | some o => refX o
  | none => []
def goX (g : Addr → Option Obj) : Nat → List Addr → List Addr
  | 0, as => as
  | n + 1, as => as ++ goX g n (nextX g as)
def asX (g : Addr → Option Obj) (n : Nat) : List Addr := goX g n [mainGlobals]
abbrev FrX (g : Addr → Option Obj) (n : Nat) : PySem.W.Frag := frG g (asX g n)
def fdX (K : PySem.W.Frag) (f : Addr) : Option FuncData := match K.lookup f with
  | some ⟨_, _, .func fd, _⟩ => some fd
  | _ => none
def cdX (K : PySem.W.Frag) (f : Addr) : Value := match fdX K f with
  | some fd => fd.code
  | none => .none
def dvX (K : PySem.W.Frag) (f : Addr) : Value := match fdX K f with
  | some fd => fd.defaults
  | none => .none
def rfV : Value → Addr
  | .ref a => a
  | _ => 0
def tkV : Value → Tok
  | .str _ t => t
  | .int _ t => t
  | _ => default
def fldX (K : PySem.W.Frag) (c : Addr) : Array Value := match K.lookup c with
  | some ⟨_, _, .fields vs, _⟩ => vs
  | _ => #[]
def ptX (K : PySem.W.Frag) (c : Addr) : Addr := match (fldX K c)[11]? with
  | some v => rfV v
  | none => 0
def itX (K : PySem.W.Frag) (p : Addr) (i : Nat) : Value := match K.lookup p with
  | some ⟨_, _, .seq its _, _⟩ => its.toList.getD i .none
  | _ => .none
def nsX (K : PySem.W.Frag) (x : Str) : Value := match PySem.W.nsIn K mainGlobals x with
  | some (some v) => v
  | _ => .none
inductive Shp where
  | i (n : Int)
  | s (x : Str)
  | r (a : Addr)
  | b (b : Bool)
  | non
def Shp.ok : Shp → Value → Bool
  | .i n, .int m _ => decide (m = n)
  | .s x, .str y _ => decide (y = x)
  | .r a, .ref c => Nat.beq c a
  | .b z, .bool c => z == c
  | .non, .none => true
  | _, _ => false
def Shp.val : Shp → Value → Value
  | .i n, v => .int n (tkV v)
  | .s x, v => .str x (tkV v)
  | .r a, _ => .ref a
  | .b z, _ => .bool z
  | .non, _ => .none
theorem Shp.val_ok : ∀ {s : Shp} {v : Value}, s.ok v = true → v = s.val v
  | .i n, .int m _, h => by
    have := of_decide_eq_true h
    subst this
    rfl
  | .s x, .str y _, h => by
    have := of_decide_eq_true h
    subst this
    rfl
  | .r a, .ref c, h => by
    have := Nat.eq_of_beq_eq_true h
    subst this
    rfl
  | .b z, .bool c, h => by
    have : z = c := beq_iff_eq.mp h
    subst this
    rfl
  | .non, .none, _ => rfl
def allS : List Shp → List Value → Bool
  | [], [] => true
  | s :: r, v :: q => s.ok v && allS r q
  | _, _ => false
def valsS : List Shp → Nat → (Nat → Value) → List Value
  | [], _, _ => []
  | s :: r, i, f => s.val (f i) :: valsS r (i + 1) f
theorem allS_ok : ∀ {shs : List Shp} {vs : List Value} (f : Nat → Value) (i : Nat), allS shs vs = true → (∀ j, f (i + j) = vs.getD j .none) → vs = valsS shs i f
  | [], [], _, _, _, _ => rfl
  | [], _ :: _, _, _, h, _ => by cases h
  | _ :: _, [], _, _, h, _ => by cases h
  | s :: r, v :: q, f, i, h, hf => by
    obtain ⟨h1, h2⟩ := ba (show (s.ok v && allS r q) = true from h)
    have e0 : f i = v := hf 0
    rw [valsS, e0, ← Shp.val_ok h1]
    congr 1
    refine allS_ok f (i + 1) h2 fun j => ?_
    have := hf (j + 1)
    rw [show i + 1 + j = i + (j + 1) by omega, this]
    rfl
def seqX (K : PySem.W.Frag) (p : Addr) (shs : List Shp) : Bool := match K.lookup p with
  | some ⟨.type c, _, .seq i _, _⟩ => decide (c = "tuple") && allS shs i.toList
  | _ => false
theorem seqX_ok {K : PySem.W.Frag} {p : Addr} {shs : List Shp} (h : seqX K p shs = true) : ∃ dd nn ss, K.lookup p = some ⟨.type "tuple", dd, .seq (valsS shs 0 (itX K p)).toArray nn, ss⟩ := by
  unfold seqX at h
  split at h
  · rename_i c dd i nn ss e
    rw [Bool.and_eq_true, decide_eq_true_eq] at h
    obtain ⟨rfl, h2⟩ := h
    refine ⟨dd, nn, ss, ?_⟩
    have := allS_ok (itX K p) 0 h2 fun j => by
      unfold itX
      rw [e, Nat.zero_add]
    rw [← this, e]
  · cases h
def nsB (K : PySem.W.Frag) (x : Str) (s : Shp) : Bool := match PySem.W.nsIn K mainGlobals x with
  | some (some v) => s.ok v
  | _ => false
theorem nsB_ok {K : PySem.W.Frag} {x : Str} {s : Shp} (h : nsB K x s = true) : PySem.W.nsIn K mainGlobals x = some (some (s.val (nsX K x))) := by
  unfold nsB at h
  split at h
  · rename_i v e
    have en : nsX K x = v := by unfold nsX; rw [e]
    rw [en, e, ← Shp.val_ok h]
  · cases h
structure DfX where
  at_ : Str × Option Str
  name : Str
  qual : Str
  params : Arguments
  body : List Stmt
  scope : Scope
def DfX.val (d : DfX) : FnW := some (d.name, d.qual, d.params, .stmts d.body, d.scope, mainGlobals, [], builtinsNs)
def DfX.ok (K : PySem.W.Frag) (d : DfX) : Bool := PySem.W.keepIn K (.ref (fAd K d.at_)) && PySem.W.codeIn K (cdX K (fAd K d.at_)) d.qual
theorem DfX.fn {K : PySem.W.Frag} {d : DfX} (e : fnW K d.at_ = d.val) :
    ∃ oc od osl kV doc pm an ct, K.lookup (fAd K d.at_) = some ⟨oc, od, .func (PySem.W.fnOf d.name d.qual d.params d.body d.scope (dvX K (fAd K d.at_)) kV doc pm an (cdX K (fAd K d.at_)) ct), osl⟩ := by
  unfold fnW at e
  cases q : K.lookup (fAd K d.at_) with
  | none =>
    rw [q] at e
    cases e
  | some o =>
    obtain ⟨oc, od, dt, osl⟩ := o
    rw [q] at e
    cases dt with
    | func fd =>
      have ec : cdX K (fAd K d.at_) = fd.code := by unfold cdX fdX; rw [q]
      have ed : dvX K (fAd K d.at_) = fd.defaults := by unfold dvX fdX; rw [q]
      rw [ec, ed]
      obtain ⟨n1, n2, n3, n4, n5, n6, n7, n8, n9, n10, n11, n12, n13, n14, n15⟩ := fd
      have e2 : (some (n1, n2, n3, n4, n5, n6, n7, n15) : FnW) = some (d.name, d.qual, d.params, .stmts d.body, d.scope, mainGlobals, [], builtinsNs) := e
      simp only [Option.some.injEq, Prod.mk.injEq] at e2
      obtain ⟨h1, h2, h3, h4, h5, h6, h7, h8⟩ := e2
      subst h1 h2 h3 h4 h5 h6 h7 h8
      exact ⟨oc, od, osl, n9, n10, n11, n12, n14, rfl⟩
    | _ => cases e
abbrev ChX : Type := List (List (PySem.W.Frag → Bool))
def tbX (K : PySem.W.Frag) (tf : List (Str × Option Str)) : List Addr := tf.map fun p => ptX K (rfV (cdX K (fAd K p)))
def obX (fa : ChX) (fn : List DfX) (K : PySem.W.Frag) : Bool × List FnW := ((fa.all fun l => l.all fun f => f K) && fn.all fun d => d.ok K, fn.map fun d => fnW K d.at_)
structure SaysX (fa : ChX) (fn : List DfX) (K : PySem.W.Frag) : Prop where
  e : obX fa fn K = (true, fn.map DfX.val)
def obsX (n : Nat) (fa : ChX) (fn : List DfX) (tf : List (Str × Option Str)) (g : Addr → Option Obj) : (Bool × List FnW) × List (Option Obj) := (obX fa fn (FrX g n), (tbX (FrX g n) tf).map g)
def hookX (n : Nat) (fa : ChX) (fn : List DfX) (tf : List (Str × Option Str)) : PySem.W.Hook where
  α := (Bool × List FnW) × List (Option Obj)
  obs := fun s => obsX n fa fn tf s.heap.get?
  val := fun _ => ((true, fn.map DfX.val), tf.map fun _ => some (PySem.W.tabObj #[]))
  says := fun _ h => ∃ K : PySem.W.Frag, K.In h ∧ SaysX fa fn K ∧ ∀ P ∈ tbX K tf, h.get? P = some (PySem.W.tabObj #[])
  of := fun _ s e => ⟨FrX s.heap.get? n, frG_in, ⟨congrArg (fun z => z.1) e⟩, fun P hP => by
    have e2 : (tbX (FrX s.heap.get? n) tf).map s.heap.get? = tf.map fun _ => some (PySem.W.tabObj #[]) := congrArg (fun z => z.2) e
    have m : s.heap.get? P ∈ (tbX (FrX s.heap.get? n) tf).map s.heap.get? := List.mem_map_of_mem hP
    rw [e2] at m
    obtain ⟨_, _, z⟩ := List.mem_map.mp m
    exact z.symm⟩
  keeps := fun _ _ _ ⟨K, hK, c, t⟩ k => ⟨K, PySem.W.Frag.In.keeps hK k, c, fun P hP => k _ _ (t P hP)⟩
theorem obsX_eq {n : Nat} {fa : ChX} {fn : List DfX} {tf : List (Str × Option Str)} {g : Addr → Option Obj} {s : Shared} (h : ∀ a, g a = s.heap.get? a) : obsX n fa fn tf g = (hookX n fa fn tf).obs s := by
  have e : g = s.heap.get? := funext h
  rw [e] <;> rfl
end DL
namespace Lw
open PySem L2 DL
def topS (i : Nat) : Stmt := PySem.Challenge.pw_outlasts_k84_whole_late_truths_mend.main.body.getD i (.Pass ⟨0, 0, 0, 0⟩)
abbrev st__law_pot : Stmt := topS 25
abbrev st__law_take : Stmt := topS 26
abbrev st__law_truths : Stmt := topS 28
abbrev st_is_whole : Stmt := topS 9
abbrev st_is_from_to : Stmt := topS 10
abbrev st_need_day : Stmt := topS 19
abbrev st_is_name : Stmt := topS 18
abbrev st_Ledger_become : Stmt := L2.inClass (topS 22) 1
abbrev st_Ledger_begin : Stmt := L2.inClass (topS 22) 3
abbrev st_Ledger_thing_of : Stmt := L2.inClass (topS 22) 2
abbrev st_Ledger_known_with : Stmt := L2.inClass (topS 22) 4
abbrev st_Ledger_seen : Stmt := L2.inClass (topS 22) 5
abbrev st_need_end : Stmt := topS 20
abbrev st_Ledger_ended : Stmt := L2.inClass (topS 22) 6
abbrev st_Ledger_mend : Stmt := L2.inClass (topS 22) 7
abbrev st_Ledger_drop : Stmt := L2.inClass (topS 22) 8
abbrev st_Ledger_undo : Stmt := L2.inClass (topS 22) 9
abbrev st__law_tell : Stmt := topS 27
abbrev st__law_ledger_of : Stmt := topS 32
abbrev st__law_woven : Stmt := topS 31
abbrev st__law_cell_at : Stmt := topS 24
abbrev st__law_rightly : Stmt := topS 29
abbrev st__law_by_turns : Stmt := topS 30
abbrev st_book_by : Stmt := topS 21
abbrev st_Ledger_book : Stmt := L2.inClass (topS 22) 10
abbrev st_Ledger_eq : Stmt := L2.inClass (topS 22) 16
abbrev st_Ledger_names : Stmt := L2.inClass (topS 22) 12
abbrev st_Ledger_len : Stmt := L2.inClass (topS 22) 15
abbrev st_law : Stmt := topS 33
abbrev st_Linit : Stmt := L2.inClass (topS 22) 0
abbrev st_twin : Stmt := L2.inClass (topS 22) 14
end Lw
namespace Lw
open PySem PySem.Spec PyProof.Rows L2 He DL
def fa0 : List (PySem.W.Frag → Bool) := [fun K => decide (PySem.W.nsIn K mainGlobals "Ledger" = some (some (.ref (ga K "Ledger")))),
  fun K => decide (PySem.W.plainGet K (ga K "Ledger") Str.empty = true),
  fun K => decide (PySem.W.hasDictIn K (ga K "Ledger") = true),
  fun K => decide (PySem.W.plainOver K (ga K "Ledger") = true),
  fun K => decide (PySem.W.findIn K (.ref (ga K "Ledger")) "__setattr__" = some (some (.builtin "object.__setattr__"))),
  fun K => decide (PySem.W.findIn K (.ref (ga K "Ledger")) "tellings" = some none),
  fun K => decide (PySem.W.findIn K (.ref (ga K "Ledger")) "stood" = some none),
  fun K => decide (PySem.W.makesIn K (ga K "Ledger") = true),
  fun K => decide (PySem.W.findIn K (.ref (ga K "Ledger")) "__init__" = some (some (.ref (ma K (ga K "Ledger") "__init__")))),
  fun K => decide (dvX K (ma K (ga K "Ledger") "__init__") = .none),
  fun K => decide (PySem.W.isFn K (.ref (ma K (ga K "Ledger") "__init__")) = true),
  fun K => decide (PySem.W.keepIn K (.ref (ga K "Ledger")) = true),
  fun K => decide (PySem.W.findIn K (.ref (ga K "Ledger")) "twin" = some (some (.ref (ma K (ga K "Ledger") "twin")))),
  fun K => decide (dvX K (ma K (ga K "Ledger") "twin") = .none),
  fun K => decide (PySem.W.isFn K (.ref (ma K (ga K "Ledger") "twin")) = true),
  fun K => decide (PySem.W.notFirst K (ga K "Ledger") (.ref (ga K "Ledger")) = true),
  fun K => decide (PySem.W.mroIn K (ga K "Ledger") (.type "object") = some true),
  fun K => decide (PySem.W.findIn K (.ref (ga K "Ledger")) "__ne__" = some (some (.builtin "object.__ne__"))),
  fun K => decide (PySem.W.findIn K (.ref (ga K "Ledger")) "__class__" = some (some (.builtin "object.__class__"))),
  fun K => decide (PySem.W.specialIn K (.builtin "object.__class__") "__get__" = some (some (.builtin "getset_descriptor.__get__"))),
  fun K => decide (PySem.W.takesIn K (.builtin "object.__class__") = some true),
  fun K => decide (PySem.W.nsIn K mainGlobals "_law_pot" = some (some (.ref (ga K "_law_pot")))),
  fun K => decide (dvX K (ga K "_law_pot") = .none),
  fun K => decide (PySem.W.nsIn K mainGlobals "_law_take" = some (some (.ref (ga K "_law_take")))),
  fun K => decide (dvX K (ga K "_law_take") = .none),
  fun K => decide (PySem.W.nsIn K mainGlobals "_law_truths" = some (some (.ref (ga K "_law_truths")))),
  fun K => decide (dvX K (ga K "_law_truths") = .none),
  fun K => decide (PySem.W.nsIn K mainGlobals "is_whole" = some (some (.ref (ga K "is_whole")))),
  fun K => decide (dvX K (ga K "is_whole") = .none),
  fun K => decide (PySem.W.nsIn K mainGlobals "is_from_to" = some (some (.ref (ga K "is_from_to"))))]
def fa1 : List (PySem.W.Frag → Bool) := [fun K => decide (dvX K (ga K "is_from_to") = .none),
  fun K => decide (PySem.W.nsIn K mainGlobals "need_day" = some (some (.ref (ga K "need_day")))),
  fun K => decide (dvX K (ga K "need_day") = .none),
  fun K => decide (PySem.W.nsIn K mainGlobals "is_name" = some (some (.ref (ga K "is_name")))),
  fun K => decide (dvX K (ga K "is_name") = .none),
  fun K => decide (PySem.W.findIn K (.ref (ga K "Ledger")) "become" = some (some (.ref (ma K (ga K "Ledger") "become")))),
  fun K => decide (PySem.W.isFn K (.ref (ma K (ga K "Ledger") "become")) = true),
  fun K => decide (dvX K (ma K (ga K "Ledger") "become") = .none),
  fun K => decide (PySem.W.findIn K (.ref (ga K "Ledger")) "begin" = some (some (.ref (ma K (ga K "Ledger") "begin")))),
  fun K => decide (PySem.W.isFn K (.ref (ma K (ga K "Ledger") "begin")) = true),
  fun K => decide (dvX K (ma K (ga K "Ledger") "begin") = (.ref (rfV (dvX K (ma K (ga K "Ledger") "begin"))))),
  fun K => seqX K (rfV (dvX K (ma K (ga K "Ledger") "begin"))) [.non],
  fun K => decide (PySem.W.findIn K (.ref (ga K "Ledger")) "thing_of" = some (some (.ref (ma K (ga K "Ledger") "thing_of")))),
  fun K => decide (PySem.W.isFn K (.ref (ma K (ga K "Ledger") "thing_of")) = true),
  fun K => decide (dvX K (ma K (ga K "Ledger") "thing_of") = .none),
  fun K => decide (PySem.W.findIn K (.ref (ga K "Ledger")) "known_with" = some (some (.ref (ma K (ga K "Ledger") "known_with")))),
  fun K => decide (PySem.W.isFn K (.ref (ma K (ga K "Ledger") "known_with")) = true),
  fun K => decide (dvX K (ma K (ga K "Ledger") "known_with") = .none),
  fun K => decide (PySem.W.findIn K (.ref (ga K "Ledger")) "seen" = some (some (.ref (ma K (ga K "Ledger") "seen")))),
  fun K => decide (PySem.W.isFn K (.ref (ma K (ga K "Ledger") "seen")) = true),
  fun K => decide (dvX K (ma K (ga K "Ledger") "seen") = .none),
  fun K => decide (PySem.W.nsIn K mainGlobals "need_end" = some (some (.ref (ga K "need_end")))),
  fun K => decide (dvX K (ga K "need_end") = .none),
  fun K => decide (PySem.W.findIn K (.ref (ga K "Ledger")) "ended" = some (some (.ref (ma K (ga K "Ledger") "ended")))),
  fun K => decide (PySem.W.isFn K (.ref (ma K (ga K "Ledger") "ended")) = true),
  fun K => decide (dvX K (ma K (ga K "Ledger") "ended") = .none),
  fun K => decide (PySem.W.findIn K (.ref (ga K "Ledger")) "mend" = some (some (.ref (ma K (ga K "Ledger") "mend")))),
  fun K => decide (PySem.W.isFn K (.ref (ma K (ga K "Ledger") "mend")) = true),
  fun K => decide (dvX K (ma K (ga K "Ledger") "mend") = .none),
  fun K => decide (PySem.W.findIn K (.ref (ga K "Ledger")) "drop" = some (some (.ref (ma K (ga K "Ledger") "drop"))))]
def fa2 : List (PySem.W.Frag → Bool) := [fun K => decide (PySem.W.isFn K (.ref (ma K (ga K "Ledger") "drop")) = true),
  fun K => decide (dvX K (ma K (ga K "Ledger") "drop") = .none),
  fun K => decide (PySem.W.findIn K (.ref (ga K "Ledger")) "undo" = some (some (.ref (ma K (ga K "Ledger") "undo")))),
  fun K => decide (PySem.W.isFn K (.ref (ma K (ga K "Ledger") "undo")) = true),
  fun K => decide (dvX K (ma K (ga K "Ledger") "undo") = .none),
  fun K => decide (PySem.W.nsIn K mainGlobals "_law_tell" = some (some (.ref (ga K "_law_tell")))),
  fun K => decide (dvX K (ga K "_law_tell") = .none),
  fun K => decide (PySem.W.nsIn K mainGlobals "_law_ledger_of" = some (some (.ref (ga K "_law_ledger_of")))),
  fun K => decide (dvX K (ga K "_law_ledger_of") = .none),
  fun K => decide (PySem.W.nsIn K mainGlobals "_law_woven" = some (some (.ref (ga K "_law_woven")))),
  fun K => decide (dvX K (ga K "_law_woven") = .none),
  fun K => decide (PySem.W.nsIn K mainGlobals "_law_cell_at" = some (some (.ref (ga K "_law_cell_at")))),
  fun K => decide (dvX K (ga K "_law_cell_at") = .none),
  fun K => decide (PySem.W.nsIn K mainGlobals "_law_rightly" = some (some (.ref (ga K "_law_rightly")))),
  fun K => decide (dvX K (ga K "_law_rightly") = .none),
  fun K => decide (PySem.W.nsIn K mainGlobals "_law_by_turns" = some (some (.ref (ga K "_law_by_turns")))),
  fun K => decide (dvX K (ga K "_law_by_turns") = .none),
  fun K => decide (PySem.W.nsIn K mainGlobals "book_by" = some (some (.ref (ga K "book_by")))),
  fun K => decide (dvX K (ga K "book_by") = .none),
  fun K => decide (PySem.W.findIn K (.ref (ga K "Ledger")) "book" = some (some (.ref (ma K (ga K "Ledger") "book")))),
  fun K => decide (PySem.W.isFn K (.ref (ma K (ga K "Ledger") "book")) = true),
  fun K => decide (dvX K (ma K (ga K "Ledger") "book") = (.ref (rfV (dvX K (ma K (ga K "Ledger") "book"))))),
  fun K => seqX K (rfV (dvX K (ma K (ga K "Ledger") "book"))) [.non],
  fun K => decide (PySem.W.findIn K (.ref (ga K "Ledger")) "__eq__" = some (some (.ref (ma K (ga K "Ledger") "__eq__")))),
  fun K => decide (PySem.W.isFn K (.ref (ma K (ga K "Ledger") "__eq__")) = true),
  fun K => decide (dvX K (ma K (ga K "Ledger") "__eq__") = .none),
  fun K => decide (PySem.W.findIn K (.ref (ga K "Ledger")) "names" = some (some (.ref (ma K (ga K "Ledger") "names")))),
  fun K => decide (PySem.W.isFn K (.ref (ma K (ga K "Ledger") "names")) = true),
  fun K => decide (dvX K (ma K (ga K "Ledger") "names") = .none),
  fun K => decide (PySem.W.findIn K (.ref (ga K "Ledger")) "__len__" = some (some (.ref (ma K (ga K "Ledger") "__len__"))))]
def fa3 : List (PySem.W.Frag → Bool) := [fun K => decide (PySem.W.isFn K (.ref (ma K (ga K "Ledger") "__len__")) = true),
  fun K => decide (dvX K (ma K (ga K "Ledger") "__len__") = .none),
  fun K => decide (PySem.W.nsIn K mainGlobals "law" = some (some (.ref (ga K "law")))),
  fun K => decide (dvX K (ga K "law") = .none),
  fun K => decide (PySem.W.nsIn K mainGlobals "all" = some none),
  fun K => decide (PySem.W.nsIn K mainGlobals "bool" = some none),
  fun K => decide (PySem.W.nsIn K mainGlobals "dict" = some none),
  fun K => decide (PySem.W.nsIn K mainGlobals "int" = some none),
  fun K => decide (PySem.W.nsIn K mainGlobals "isinstance" = some none),
  fun K => decide (PySem.W.nsIn K mainGlobals "len" = some none),
  fun K => decide (PySem.W.nsIn K mainGlobals "list" = some none),
  fun K => decide (PySem.W.nsIn K mainGlobals "max" = some none),
  fun K => decide (PySem.W.nsIn K mainGlobals "min" = some none),
  fun K => decide (PySem.W.nsIn K mainGlobals "range" = some none),
  fun K => decide (PySem.W.nsIn K mainGlobals "sorted" = some none),
  fun K => decide (PySem.W.nsIn K mainGlobals "str" = some none),
  fun K => decide (PySem.W.nsIn K mainGlobals "tuple" = some none),
  fun K => decide (PySem.W.nsIn K mainGlobals "KINDS" = some (some (.ref (ga K "KINDS")))),
  fun K => seqX K (ga K "KINDS") [.i 1, .i 2, .i 3, .i 4],
  fun K => nsB K "LETTERS" (.s "abcdefghijklmnopqrstuvwxyz"),
  fun K => nsB K "MOST_AGE" (.i 999),
  fun K => nsB K "MOST_DAY" (.i 9999),
  fun K => nsB K "MOST_SIGNS" (.i 6),
  fun K => nsB K "MOST_SPANS" (.i 40),
  fun K => decide (PySem.W.nsIn K mainGlobals "NoKind" = some (some (.ref (ga K "NoKind")))),
  fun K => decide (PySem.W.keepIn K (.ref (ga K "NoKind")) = true),
  fun K => decide (PySem.W.excIn K (ga K "NoKind") veM "ValueError.__new__" = true),
  fun K => decide (PySem.W.subIn K (.ref (ga K "NoKind")) (.type "BaseException") = some true),
  fun K => decide (PySem.W.typeIn K (.ref (ga K "NoKind")) = some (.type "type")),
  fun K => decide (PySem.W.nsIn K mainGlobals "NoNumber" = some (some (.ref (ga K "NoNumber"))))]
def fa4 : List (PySem.W.Frag → Bool) := [fun K => decide (PySem.W.keepIn K (.ref (ga K "NoNumber")) = true),
  fun K => decide (PySem.W.excIn K (ga K "NoNumber") veM "ValueError.__new__" = true),
  fun K => decide (PySem.W.subIn K (.ref (ga K "NoNumber")) (.type "BaseException") = some true),
  fun K => decide (PySem.W.typeIn K (.ref (ga K "NoNumber")) = some (.type "type")),
  fun K => decide (PySem.W.nsIn K mainGlobals "NoName" = some (some (.ref (ga K "NoName")))),
  fun K => decide (PySem.W.keepIn K (.ref (ga K "NoName")) = true),
  fun K => decide (PySem.W.excIn K (ga K "NoName") veM "ValueError.__new__" = true),
  fun K => decide (PySem.W.subIn K (.ref (ga K "NoName")) (.type "BaseException") = some true),
  fun K => decide (PySem.W.typeIn K (.ref (ga K "NoName")) = some (.type "type")),
  fun K => decide (PySem.W.nsIn K mainGlobals "NoDay" = some (some (.ref (ga K "NoDay")))),
  fun K => decide (PySem.W.keepIn K (.ref (ga K "NoDay")) = true),
  fun K => decide (PySem.W.excIn K (ga K "NoDay") veM "ValueError.__new__" = true),
  fun K => decide (PySem.W.subIn K (.ref (ga K "NoDay")) (.type "BaseException") = some true),
  fun K => decide (PySem.W.typeIn K (.ref (ga K "NoDay")) = some (.type "type")),
  fun K => decide (PySem.W.nsIn K mainGlobals "NoDeed" = some (some (.ref (ga K "NoDeed")))),
  fun K => decide (PySem.W.keepIn K (.ref (ga K "NoDeed")) = true),
  fun K => decide (PySem.W.excIn K (ga K "NoDeed") veM "ValueError.__new__" = true),
  fun K => decide (PySem.W.subIn K (.ref (ga K "NoDeed")) (.type "BaseException") = some true),
  fun K => decide (PySem.W.typeIn K (.ref (ga K "NoDeed")) = some (.type "type"))]
def faS : DL.ChX := [fa0, fa1, fa2, fa3, fa4]
def fn0 : List DL.DfX := [⟨("Ledger", some "__init__"), "__init__", "Ledger.__init__", defArgs st_Linit, defBody st_Linit, defScope st_Linit⟩,
  ⟨("Ledger", some "twin"), "twin", "Ledger.twin", defArgs st_twin, defBody st_twin, defScope st_twin⟩,
  ⟨("_law_pot", none), "_law_pot", "_law_pot", defArgs st__law_pot, defBody st__law_pot, defScope st__law_pot⟩,
  ⟨("_law_take", none), "_law_take", "_law_take", defArgs st__law_take, defBody st__law_take, defScope st__law_take⟩,
  ⟨("_law_truths", none), "_law_truths", "_law_truths", defArgs st__law_truths, defBody st__law_truths, defScope st__law_truths⟩,
  ⟨("is_whole", none), "is_whole", "is_whole", defArgs st_is_whole, defBody st_is_whole, defScope st_is_whole⟩,
  ⟨("is_from_to", none), "is_from_to", "is_from_to", defArgs st_is_from_to, defBody st_is_from_to, defScope st_is_from_to⟩,
  ⟨("need_day", none), "need_day", "need_day", defArgs st_need_day, defBody st_need_day, defScope st_need_day⟩,
  ⟨("is_name", none), "is_name", "is_name", defArgs st_is_name, defBody st_is_name, defScope st_is_name⟩,
  ⟨("Ledger", some "become"), "become", "Ledger.become", defArgs st_Ledger_become, defBody st_Ledger_become, defScope st_Ledger_become⟩,
  ⟨("Ledger", some "begin"), "begin", "Ledger.begin", defArgs st_Ledger_begin, defBody st_Ledger_begin, defScope st_Ledger_begin⟩,
  ⟨("Ledger", some "thing_of"), "thing_of", "Ledger.thing_of", defArgs st_Ledger_thing_of, defBody st_Ledger_thing_of, defScope st_Ledger_thing_of⟩,
  ⟨("Ledger", some "known_with"), "known_with", "Ledger.known_with", defArgs st_Ledger_known_with, defBody st_Ledger_known_with, defScope st_Ledger_known_with⟩,
  ⟨("Ledger", some "seen"), "seen", "Ledger.seen", defArgs st_Ledger_seen, defBody st_Ledger_seen, defScope st_Ledger_seen⟩,
  ⟨("need_end", none), "need_end", "need_end", defArgs st_need_end, defBody st_need_end, defScope st_need_end⟩,
  ⟨("Ledger", some "ended"), "ended", "Ledger.ended", defArgs st_Ledger_ended, defBody st_Ledger_ended, defScope st_Ledger_ended⟩,
  ⟨("Ledger", some "mend"), "mend", "Ledger.mend", defArgs st_Ledger_mend, defBody st_Ledger_mend, defScope st_Ledger_mend⟩,
  ⟨("Ledger", some "drop"), "drop", "Ledger.drop", defArgs st_Ledger_drop, defBody st_Ledger_drop, defScope st_Ledger_drop⟩,
  ⟨("Ledger", some "undo"), "undo", "Ledger.undo", defArgs st_Ledger_undo, defBody st_Ledger_undo, defScope st_Ledger_undo⟩,
  ⟨("_law_tell", none), "_law_tell", "_law_tell", defArgs st__law_tell, defBody st__law_tell, defScope st__law_tell⟩,
  ⟨("_law_ledger_of", none), "_law_ledger_of", "_law_ledger_of", defArgs st__law_ledger_of, defBody st__law_ledger_of, defScope st__law_ledger_of⟩,
  ⟨("_law_woven", none), "_law_woven", "_law_woven", defArgs st__law_woven, defBody st__law_woven, defScope st__law_woven⟩,
  ⟨("_law_cell_at", none), "_law_cell_at", "_law_cell_at", defArgs st__law_cell_at, defBody st__law_cell_at, defScope st__law_cell_at⟩,
  ⟨("_law_rightly", none), "_law_rightly", "_law_rightly", defArgs st__law_rightly, defBody st__law_rightly, defScope st__law_rightly⟩,
  ⟨("_law_by_turns", none), "_law_by_turns", "_law_by_turns", defArgs st__law_by_turns, defBody st__law_by_turns, defScope st__law_by_turns⟩,
  ⟨("book_by", none), "book_by", "book_by", defArgs st_book_by, defBody st_book_by, defScope st_book_by⟩,
  ⟨("Ledger", some "book"), "book", "Ledger.book", defArgs st_Ledger_book, defBody st_Ledger_book, defScope st_Ledger_book⟩,
  ⟨("Ledger", some "__eq__"), "__eq__", "Ledger.__eq__", defArgs st_Ledger_eq, defBody st_Ledger_eq, defScope st_Ledger_eq⟩,
  ⟨("Ledger", some "names"), "names", "Ledger.names", defArgs st_Ledger_names, defBody st_Ledger_names, defScope st_Ledger_names⟩,
  ⟨("Ledger", some "__len__"), "__len__", "Ledger.__len__", defArgs st_Ledger_len, defBody st_Ledger_len, defScope st_Ledger_len⟩]
def fn1 : List DL.DfX := [⟨("law", none), "law", "law", defArgs st_law, defBody st_law, defScope st_law⟩]
def fnS : List DL.DfX := fn0 ++ fn1
def tfS : List (Str × Option Str) := []
def nm0 : List Str := ["_wall", "SpanError", "NoKind", "NoNumber", "NoName", "NoDay", "NoDeed", "is_whole", "is_from_to", "MOST_AGE", "MOST_SPANS", "KINDS", "LETTERS", "MOST_SIGNS", "MOST_DAY", "is_name", "need_day", "need_end", "book_by", "Ledger", "_law_cell_at", "_law_pot", "_law_take", "_law_tell", "_law_truths", "_law_rightly", "_law_by_turns", "_law_woven", "_law_ledger_of"]
def nmS : List Str := nm0
abbrev RS : PySem.W.OpenRow := PySem.W.OpenLaw.row PySem.Challenge.rw_outlasts_k84_whole_late_truths_mend
abbrev qS : Program := PySem.W.view RS.prog [33]
abbrev hkS : PySem.W.Hook := DL.hookX 4 faS fnS tfS
def obS (s : PySem.W.SharedT) : hkS.α := DL.obsX 4 faS fnS tfS (HandSHeadRun.getT s)
theorem obS_eq (s : PySem.W.SharedT) : obS s = hkS.obs s.abs := DL.obsX_eq (HandSHeadRun.getT_eq s)
theorem runF (w : World) : HandSHeadRun.RunEq RS qS hkS obS 12000 nmS (w.withFollow "special-get-raises" false) := by
  intro os
  kernel_rfl
theorem runT (w : World) : HandSHeadRun.RunEq RS qS hkS obS 12000 nmS (w.withFollow "special-get-raises" true) := by
  intro os
  kernel_rfl
theorem runS (w : World) : HandSHeadRun.RunEq RS qS hkS obS 12000 nmS w := PySem.W.byRow2 "special-get-raises" (P := fun w => HandSHeadRun.RunEq RS qS hkS obS 12000 nmS w) runF runT w
end Lw
namespace DL
open PySem L2
/-- the key of a dict as data -/
def kD : Key → PyData
  | .inl i => .int i
  | .inr x => .str x
/-- the key of a dict by tuples of whole numbers -/
def kT (k : List Int) : PyData := .tuple (k.map PyData.int)
/-- a dict known to the object -/
def DTo (a : Addr) (o : Obj) : HO := .ext fun h => h.get? a = some o
/-- its entries: key, the key's tuple, value -/
abbrev Ent := List Key × Addr × Value
structure EsOk (a : Addr) (o : Obj) (xs : List Ent) : Prop where
  sm : (a == sysModules) = false
  ex : o.ExactDict
  es : ∃ es ep, o.data = .dict es ep ∧ ∀ (P : Program) (w : World), es.toList = xs.map (entryOfKey (tupleKind (mixKind P w)))
  nd : (xs.map (·.1)).Nodup
  sz : xs.length ≤ sizeLine
  ne : xs ≠ []
/-- a list of the written part -/
def WrL (K : PySem.W.Frag) (a : Addr) (xs : List V) : Prop := ∃ its n, K.lookup a = some { cls := Value.type "list", data := Data.seq its n } ∧ its.size ≤ sizeLine ∧ Vals xs its.toList ∧ a ≠ sysModules
/-- a list to be read -/
def LsR (K : PySem.W.Frag) (H : Hp) (a : Addr) (xs : List V) : Prop := Rd H a (.lst xs) ∨ WrL K a xs
theorem LsR.sq {K : PySem.W.Frag} {H : Hp} {a : Addr} {xs : List V} (h : LsR K H a xs) : SqL K H a xs := by
  rcases h with h | ⟨its, n, h1, h2, h3, _⟩
  · exact .inl h
  · exact .inr ⟨_, its, n, h1, rfl, rfl, rfl, h2, h3⟩
mutual
/-- v reads as d; its lists and dicts stand in the region F of what is never changed -/
inductive DF (K : PySem.W.Frag) (H : Hp) (F : Addr → Prop) : V → PyData → Prop where
  | non : DF K H F .non .none
  | bl (b : Bool) : DF K H F (.bl b) (.bool b)
  | int (i : Int) : DF K H F (.int i) (.int i)
  | str (x : Str) : DF K H F (.str x) (.str x)
  | lst {a : Addr} {xs : List V} {ds : List PyData} : F a → Rd H a (.lst xs) → DFs K H F xs ds → DF K H F (.ref a) (.list ds)
  | lstK {a : Addr} {xs : List V} {ds : List PyData} : WrL K a xs → DFs K H F xs ds → DF K H F (.ref a) (.list ds)
  | tup {a : Addr} {xs : List V} {ds : List PyData} : SqT K H a xs → DFs K H F xs ds → DF K H F (.ref a) (.tuple ds)
  | dct {a : Addr} {ks : List (Key × V)} {ds : List (PyData × PyData)} : F a → Rd H a (.dK ks) → DFk K H F ks ds → DF K H F (.ref a) (.dict ds)
  | dcT {a : Addr} {o : Obj} {xs : List Ent} {ds : List (PyData × PyData)} : F a → H a = some (DTo a o) → EsOk a o xs → DFt K H F xs ds → DF K H F (.ref a) (.dict ds)
inductive DFs (K : PySem.W.Frag) (H : Hp) (F : Addr → Prop) : List V → List PyData → Prop where
  | nil : DFs K H F [] []
  | cons {v : V} {d : PyData} {vs : List V} {ds : List PyData} : DF K H F v d → DFs K H F vs ds → DFs K H F (v :: vs) (d :: ds)
inductive DFk (K : PySem.W.Frag) (H : Hp) (F : Addr → Prop) : List (Key × V) → List (PyData × PyData) → Prop where
  | nil : DFk K H F [] []
  | cons {k : Key} {v : V} {d : PyData} {vs : List (Key × V)} {ds : List (PyData × PyData)} : DF K H F v d → DFk K H F vs ds → DFk K H F ((k, v) :: vs) ((kD k, d) :: ds)
inductive DFt (K : PySem.W.Frag) (H : Hp) (F : Addr → Prop) : List Ent → List (PyData × PyData) → Prop where
  | nil : DFt K H F [] []
  | cons {k : List Int} {q : Addr} {v : V} {u : Value} {d : PyData} {vs : List Ent} {ds : List (PyData × PyData)} : SqT K H q (k.map V.int) → L2.RelV v u → DF K H F v d → DFt K H F vs ds → DFt K H F ((k.map Sum.inl, q, u) :: vs) ((kT k, d) :: ds)
end
/-- an object that never changes by itself -/
def Still : HO → Prop
  | .tup _ => True
  | .frz _ _ => True
  | .xd _ => True
  | .ins _ _ _ => True
  | _ => False
/-- no table of code objects -/
def NT : HO → Prop
  | .tbl _ => False
  | _ => True
theorem NT.ne {o : HO} (h : NT o) (ps : Array Value) : o ≠ .tbl ps := fun e => by subst e; exact h
/-- neither a table nor a code object -/
def NC (o : HO) : Prop := NT o ∧ ∀ c q, o ≠ LamX.CodeO c q
/-- what the region and the still things hold stays -/
def Kept (F : Addr → Prop) (H H' : Hp) : Prop := ∀ b o, H b = some o → ((F b ∧ NT o) ∨ Still o) → H' b = some o
theorem Kept.refl {F : Addr → Prop} {H : Hp} : Kept F H H := fun _ _ h _ => h
theorem Kept.rdF {F : Addr → Prop} {H H' : Hp} {a : Addr} {u : HO} (k : Kept F H H') (hF : F a) (r : Rd H a u) (nt : NT u := by trivial) : Rd H' a u := by
  rcases r with r | ⟨o, r⟩
  · exact .inl (k _ _ r (.inl ⟨hF, nt⟩))
  · exact .inr ⟨o, k _ _ r (.inl ⟨hF, trivial⟩)⟩
theorem Kept.sqT {K : PySem.W.Frag} {F : Addr → Prop} {H H' : Hp} {a : Addr} {xs : List V} (k : Kept F H H') (r : SqT K H a xs) : SqT K H' a xs := by
  rcases r with (r | ⟨o, r⟩) | r
  · exact .inl (.inl (k _ _ r (.inr trivial)))
  · exact .inl (.inr ⟨o, k _ _ r (.inr trivial)⟩)
  · exact .inr r
section
variable {K : PySem.W.Frag} {H H' : Hp} {F F' : Addr → Prop}
mutual
theorem DF.mono (k : Kept F H H') (g : ∀ b, F b → F' b) : ∀ {v : V} {d : PyData}, DF K H F v d → DF K H' F' v d
  | _, _, .non => .non
  | _, _, .bl b => .bl b
  | _, _, .int i => .int i
  | _, _, .str x => .str x
  | _, _, .lst f r s => .lst (g _ f) (k.rdF f r) (DFs.mono k g s)
  | _, _, .lstK r s => .lstK r (DFs.mono k g s)
  | _, _, .tup r s => .tup (k.sqT r) (DFs.mono k g s)
  | _, _, .dct f r s => .dct (g _ f) (k.rdF f r) (DFk.mono k g s)
  | _, _, .dcT f r e s => .dcT (g _ f) (k _ _ r (.inl ⟨f, trivial⟩)) e (DFt.mono k g s)
theorem DFs.mono (k : Kept F H H') (g : ∀ b, F b → F' b) : ∀ {vs : List V} {ds : List PyData}, DFs K H F vs ds → DFs K H' F' vs ds
  | _, _, .nil => .nil
  | _, _, .cons a b => .cons (DF.mono k g a) (DFs.mono k g b)
theorem DFk.mono (k : Kept F H H') (g : ∀ b, F b → F' b) : ∀ {vs : List (Key × V)} {ds : List (PyData × PyData)}, DFk K H F vs ds → DFk K H' F' vs ds
  | _, _, .nil => .nil
  | _, _, .cons a b => .cons (DF.mono k g a) (DFk.mono k g b)
theorem DFt.mono (k : Kept F H H') (g : ∀ b, F b → F' b) : ∀ {vs : List Ent} {ds : List (PyData × PyData)}, DFt K H F vs ds → DFt K H' F' vs ds
  | _, _, .nil => .nil
  | _, _, .cons q r a b => .cons (k.sqT q) r (DF.mono k g a) (DFt.mono k g b)
end
theorem DFs.length : ∀ {vs : List V} {ds : List PyData}, DFs K H F vs ds → vs.length = ds.length
  | _, _, .nil => rfl
  | _, _, .cons _ b => by rw [List.length_cons, List.length_cons, DFs.length b]
theorem DFs.append : ∀ {vs us : List V} {ds es : List PyData}, DFs K H F vs ds → DFs K H F us es → DFs K H F (vs ++ us) (ds ++ es)
  | _, _, _, _, .nil, h => h
  | _, _, _, _, .cons a b, h => .cons a (DFs.append b h)
theorem DFs.get : ∀ {vs : List V} {ds : List PyData} {i : Nat} {d : PyData}, DFs K H F vs ds → ds[i]? = some d → ∃ v, vs[i]? = some v ∧ DF K H F v d
  | _, _, _, _, .nil, e => by simp at e
  | _, _, 0, _, .cons a _, e => by simp at e; subst e; exact ⟨_, rfl, a⟩
  | _, _, i + 1, d, .cons _ b, e => by
    obtain ⟨v, h1, h2⟩ := DFs.get (i := i) (d := d) b (by simpa using e)
    exact ⟨v, by simpa using h1, h2⟩
theorem DFs.set {v : V} {d : PyData} (h : DF K H F v d) : ∀ {vs : List V} {ds : List PyData} (i : Nat), DFs K H F vs ds → DFs K H F (vs.set i v) (ds.set i d)
  | _, _, _, .nil => .nil
  | _, _, 0, .cons _ b => .cons h b
  | _, _, i + 1, .cons a b => .cons a (DFs.set h i b)
theorem DFs.take : ∀ {vs : List V} {ds : List PyData} (n : Nat), DFs K H F vs ds → DFs K H F (vs.take n) (ds.take n)
  | _, _, 0, _ => .nil
  | _, _, _ + 1, .nil => .nil
  | _, _, n + 1, .cons a b => .cons a (DFs.take n b)
theorem DFs.drop : ∀ {vs : List V} {ds : List PyData} (n : Nat), DFs K H F vs ds → DFs K H F (vs.drop n) (ds.drop n)
  | _, _, 0, h => h
  | _, _, _ + 1, .nil => .nil
  | _, _, n + 1, .cons _ b => DFs.drop n b
theorem DFs.reverse : ∀ {vs : List V} {ds : List PyData}, DFs K H F vs ds → DFs K H F vs.reverse ds.reverse
  | _, _, .nil => .nil
  | _, _, .cons a b => by
    rw [List.reverse_cons, List.reverse_cons]
    exact DFs.append (DFs.reverse b) (.cons a .nil)
theorem DFs.dropLast {vs : List V} {ds : List PyData} (h : DFs K H F vs ds) : DFs K H F vs.dropLast ds.dropLast := by
  rw [List.dropLast_eq_take, List.dropLast_eq_take, h.length]
  exact h.take _
theorem DFs.ints : ∀ {vs : List V} {ns : List Int}, DFs K H F vs (ns.map PyData.int) → vs = ns.map V.int
  | _, [], .nil => rfl
  | _, n :: r, .cons a b => by
    cases a
    rw [List.map_cons, DFs.ints b]
theorem DFs.of_ints : ∀ (ns : List Int), DFs K H F (ns.map V.int) (ns.map PyData.int)
  | [] => .nil
  | n :: r => .cons (.int n) (DFs.of_ints r)
theorem DFs.bools : ∀ {vs : List V} {ns : List Bool}, DFs K H F vs (ns.map PyData.bool) → vs = ns.map V.bl
  | _, [], .nil => rfl
  | _, n :: r, .cons a b => by
    cases a
    rw [List.map_cons, DFs.bools b]
end
/-- an object of an own class: what its lists hold -/
inductive OD where
  /-- a ledger -/
  | led (ts ss : List PyData)
  /-- a desk: its ledger -/
  | dsk (ts ss : List PyData)
  /-- a pair of a ledger and a list -/
  | pr (ts ss ds : List PyData)
  /-- a list of ledgers (b) or desks; none: the one is elsewhere just now -/
  | many (b : Bool) (xs : List (Option (List PyData × List PyData)))
inductive R where
  | dat (d : PyData)
  /-- a list or dict that one slot alone holds -/
  | own (d : PyData)
  /-- what slot i holds -/
  | slt (i : Nat)
  | fn (k : Nat)
  /-- a set of ints -/
  | st (xs : List Int)
  /-- an exception that was caught -/
  | ex (c : Nat) (fs : List PyData)
  /-- a new pair of two new lists -/
  | two (d e : PyData)
  /-- an object that one slot alone holds -/
  | obj (o : OD)
  /-- a list that an object in slot i holds: which one -/
  | prt (i k : Nat)
abbrev Rho := List (Option R)
/-- the text's own things: the written part, the defs' places, the classes' places -/
structure Tb where
  K : PySem.W.Frag
  w : World
  fa : Nat → Addr
  ca : Nat → Addr
  /-- the tables of the defs that make lambdas -/
  tb : List (Addr × Str) := []
  /-- the exception that a suite holds: its place, its class, its dict -/
  hot : Option (Addr × Nat × Option Addr) := none
  /-- the classes of ledgers and desks -/
  lc : Addr := 0
  dc : Addr := 0
/-- a list or a dict at a, held by one alone -/
def OwnAt (K : PySem.W.Frag) (H : Hp) (F : Addr → Prop) (a : Addr) : PyData → Prop
  | .list ds => ∃ vs, H a = some (.lst vs) ∧ DFs K H F vs ds
  | .dict ds => (∃ ks, H a = some (.dK ks) ∧ DFk K H F ks ds) ∨ ∃ o xs, H a = some (DTo a o) ∧ EsOk a o xs ∧ DFt K H F xs ds
  | _ => False
def SetAt (w : World) (H : Hp) (a : Addr) (xs : List Int) : Prop := ∃ S, H a = some (SetO w a S xs.length) ∧ xs.Nodup ∧ ∀ k, S k = true ↔ k ∈ xs
/-- an exception object's fields -/
def ExcR (T : Tb) (H : Hp) (cls : Value) (d : Option Addr) (c : Nat) (fs : List PyData) : Prop :=
  cls = .ref (T.ca c) ∧ match fs with
    | [] => d = none
    | [.int m, .int n] => ∃ x, d = some x ∧ H x = some (.xd [("most", .int n), ("many", .int m)])
    | _ => False
/-- the fields of a ledger -/
def ledF (t s : Addr) : List (Str × V) := [("tellings", .ref t), ("stood", .ref s)]
/-- a ledger; L: the places of its lists -/
def LedAt (T : Tb) (H : Hp) (F : Addr → Prop) (L : List Addr) (v : V) (ts ss : List PyData) : Prop :=
  ∃ a dx t s, v = .ref a ∧ L = [t, s] ∧ t ≠ s ∧ H a = some (.ins T.lc dx (ledF t s)) ∧ OwnAt T.K H F t (.list ts) ∧ OwnAt T.K H F s (.list ss)
def DskAt (T : Tb) (H : Hp) (F : Addr → Prop) (L : List Addr) (v : V) (ts ss : List PyData) : Prop :=
  ∃ b dx a, v = .ref b ∧ H b = some (.ins T.dc dx [("kept", .ref a)]) ∧ LedAt T H F L (.ref a) ts ss
def OneAt (T : Tb) (H : Hp) (F : Addr → Prop) (b : Bool) (L : List Addr) (v : V) (ts ss : List PyData) : Prop := if b = true then LedAt T H F L v ts ss else DskAt T H F L v ts ss
inductive ManyAt (T : Tb) (H : Hp) (F : Addr → Prop) (b : Bool) : List (List Addr) → List V → List (Option (List PyData × List PyData)) → Prop where
  | nil : ManyAt T H F b [] [] []
  | hole {v : V} {Ls : List (List Addr)} {vs : List V} {xs : List (Option (List PyData × List PyData))} : ManyAt T H F b Ls vs xs → ManyAt T H F b ([] :: Ls) (v :: vs) (none :: xs)
  | cons {L : List Addr} {v : V} {ts ss : List PyData} {Ls : List (List Addr)} {vs : List V} {xs : List (Option (List PyData × List PyData))} : OneAt T H F b L v ts ss → ManyAt T H F b Ls vs xs → ManyAt T H F b (L :: Ls) (v :: vs) (some (ts, ss) :: xs)
def ObjAt (T : Tb) (H : Hp) (F : Addr → Prop) (L : List Addr) (v : V) : OD → Prop
  | .led ts ss => LedAt T H F L v ts ss
  | .dsk ts ss => DskAt T H F L v ts ss
  | .pr ts ss ds => ∃ p a l L0, v = .ref p ∧ H p = some (.tup [.ref a, .ref l]) ∧ LedAt T H F L0 (.ref a) ts ss ∧ L = l :: L0 ∧ l ∉ L0 ∧ OwnAt T.K H F l (.list ds)
  | .many b xs => ∃ p vs Ls, v = .ref p ∧ F p ∧ H p = some (.lst vs) ∧ L = Ls.flatten ∧ Ls.flatten.Nodup ∧ ManyAt T H F b Ls vs xs
def SlotR (T : Tb) (H : Hp) (F : Addr → Prop) (oa : List Addr) (v : V) : R → Prop
  | .dat d => oa = [] ∧ DF T.K H F v d
  | .own d => ∃ a, oa = [a] ∧ v = .ref a ∧ OwnAt T.K H F a d
  | .slt _ => False
  | .fn k => oa = [] ∧ v = .ref (T.fa k)
  | .st xs => ∃ a, oa = [a] ∧ v = .ref a ∧ SetAt T.w H a xs
  | .ex c fs => oa = [] ∧ ∃ a d, v = .ref a ∧ T.hot = some (a, c, d) ∧ ExcR T H (.ref (T.ca c)) d c fs
  | .two _ _ => False
  | .obj o => ObjAt T H F oa v o
  | .prt _ _ => False
structure EnvR (T : Tb) (H : Hp) (F : Addr → Prop) (O : Nat → List Addr) (σ : L2.St) (ρ : Rho) : Prop where
  len : ρ.length = σ.length
  at_ : ∀ i r, ρ[i]? = some (some r) → ∃ v, σ[i]? = some (some v) ∧ SlotR T H F (O i) v r
  own : ∀ i a, a ∈ O i → ∃ r, ρ[i]? = some (some r)
  inj : ∀ i j a, a ∈ O i → a ∈ O j → i = j
  nf : ∀ i a, a ∈ O i → ¬ F a
  lv : ∀ b, F b → H b ≠ none
  tb : LamX.Tabs T.tb H
/-- what a stretch of the run leaves; s: whether slots may be stored in it -/
structure Ext (s : Bool) (H : Hp) (F : Addr → Prop) (O : Nat → List Addr) (H' : Hp) (F' : Addr → Prop) (O' : Nat → List Addr) : Prop where
  keep : ∀ b o, H b = some o → (∀ i, b ∉ O i) → NT o → H' b = some o
  live : ∀ b, H' b = none → H b = none
  grow : ∀ b, F b → F' b
  new : ∀ b, F' b → F b ∨ (∃ i, b ∈ O i) ∨ H b = none
  own : ∀ i b, b ∈ O' i → b ∈ O i ∨ (s = true ∧ ((∃ j, b ∈ O j) ∨ H b = none))
theorem Ext.refl {s : Bool} {H : Hp} {F : Addr → Prop} {O : Nat → List Addr} : Ext s H F O H F O :=
  ⟨fun _ _ h _ _ => h, fun _ h => h, fun _ h => h, fun _ h => .inl h, fun _ _ h => .inl h⟩
theorem Ext.ow {s : Bool} {H H' : Hp} {F F' : Addr → Prop} {O O' : Nat → List Addr} (x : Ext s H F O H' F' O') {i : Nat} {b : Addr} (h : b ∈ O' i) : (∃ j, b ∈ O j) ∨ H b = none :=
  (x.own i b h).elim (fun z => .inl ⟨i, z⟩) fun z => z.2
theorem Ext.up {s : Bool} {H H' : Hp} {F F' : Addr → Prop} {O O' : Nat → List Addr} (x : Ext false H F O H' F' O') : Ext s H F O H' F' O' :=
  ⟨x.keep, x.live, x.grow, x.new, fun i b h => (x.own i b h).elim .inl fun z => nomatch z.1⟩
theorem Ext.trans {s : Bool} {H H1 H2 : Hp} {F F1 F2 : Addr → Prop} {O O1 O2 : Nat → List Addr} (a : Ext s H F O H1 F1 O1) (b : Ext s H1 F1 O1 H2 F2 O2) : Ext s H F O H2 F2 O2 := by
  refine ⟨fun c o h n z => b.keep c o (a.keep c o h n z) (fun i e => ?_) z, fun c h => a.live c (b.live c h), fun c h => b.grow c (a.grow c h), fun c h => ?_, fun i c h => ?_⟩
  · rcases a.ow e with ⟨j, q⟩ | q
    · exact n j q
    · rw [h] at q; cases q
  · rcases b.new c h with q | ⟨i, q⟩ | q
    · exact a.new c q
    · rcases a.ow q with z | z
      · exact .inr (.inl z)
      · exact .inr (.inr z)
    · exact .inr (.inr (a.live c q))
  · rcases b.own i c h with q | ⟨hs, ⟨j, q⟩ | q⟩
    · exact a.own i c q
    · exact .inr ⟨hs, a.ow q⟩
    · exact .inr ⟨hs, .inr (a.live c q)⟩
section
variable {T : Tb} {H H' : Hp} {F F' : Addr → Prop} {O O' : Nat → List Addr} {σ : L2.St} {ρ : Rho}
theorem OwnAt.there {K : PySem.W.Frag} {a : Addr} : ∀ {d : PyData}, OwnAt K H F a d → ∃ o, H a = some o ∧ ¬ Still o
  | .list _, ⟨_, h, _⟩ => ⟨_, h, fun z => z⟩
  | .dict _, .inl ⟨_, h, _⟩ => ⟨_, h, fun z => z⟩
  | .dict _, .inr ⟨_, _, h, _⟩ => ⟨_, h, fun z => z⟩
theorem LedAt.there {L : List Addr} {v : V} {ts ss : List PyData} (h : LedAt T H F L v ts ss) {b : Addr} (hb : b ∈ L) : ∃ o, H b = some o ∧ ¬ Still o := by
  obtain ⟨a, dx, t, s, rfl, rfl, ne, h1, h2, h3⟩ := h
  simp only [List.mem_cons, List.not_mem_nil, or_false] at hb
  rcases hb with rfl | rfl
  · exact h2.there
  · exact h3.there
theorem OneAt.there {b : Bool} {L : List Addr} {v : V} {ts ss : List PyData} (h : OneAt T H F b L v ts ss) {c : Addr} (hc : c ∈ L) : ∃ o, H c = some o ∧ ¬ Still o := by
  unfold OneAt at h
  split at h
  · exact h.there hc
  · obtain ⟨_, _, _, _, _, h⟩ := h; exact h.there hc
theorem ManyAt.there {b : Bool} {Ls : List (List Addr)} {vs : List V} {xs : List (Option (List PyData × List PyData))} (h : ManyAt T H F b Ls vs xs) {c : Addr} (hc : c ∈ Ls.flatten) : ∃ o, H c = some o ∧ ¬ Still o := by
  induction h with
  | nil => cases hc
  | hole _ ih => exact ih (by simpa using hc)
  | cons q _ ih =>
    rw [List.flatten_cons, List.mem_append] at hc
    rcases hc with hc | hc
    · exact q.there hc
    · exact ih hc
theorem ObjAt.there {L : List Addr} {v : V} : ∀ {o : OD}, ObjAt T H F L v o → ∀ {b : Addr}, b ∈ L → ∃ o, H b = some o ∧ ¬ Still o
  | .led _ _, h, _, hb => LedAt.there h hb
  | .dsk _ _, ⟨_, _, _, _, _, h⟩, _, hb => h.there hb
  | .pr _ _ _, ⟨p, a, l, L0, _, _, h, e, _, q⟩, _, hb => by
    rw [e] at hb
    rcases List.mem_cons.mp hb with rfl | hb
    · exact q.there
    · exact h.there hb
  | .many _ _, ⟨p, vs, Ls, _, _, _, e, _, h⟩, _, hb => by
    rw [e] at hb
    exact h.there hb
theorem SetAt.there {w : World} {a : Addr} {xs : List Int} (h : SetAt w H a xs) : ∃ o, H a = some o ∧ ¬ Still o := by
  obtain ⟨S, h, _⟩ := h
  exact ⟨_, h, fun z => z⟩
/-- what a slot alone holds stands in the heap and may change -/
theorem SlotR.there {oa : List Addr} {v : V} {a : Addr} (h : a ∈ oa) : ∀ {r : R}, SlotR T H F oa v r → ∃ o, H a = some o ∧ ¬ Still o
  | .dat _, ⟨z, _⟩ => by rw [z] at h; cases h
  | .own _, ⟨b, z, _, q⟩ => by rw [z] at h; cases List.mem_singleton.mp h; exact q.there
  | .fn _, ⟨z, _⟩ => by rw [z] at h; cases h
  | .st _, ⟨b, z, _, q⟩ => by rw [z] at h; cases List.mem_singleton.mp h; exact q.there
  | .ex _ _, ⟨z, _⟩ => by rw [z] at h; cases h
  | .obj _, q => ObjAt.there q h
theorem EnvR.there (E : EnvR T H F O σ ρ) {i : Nat} {a : Addr} (h : a ∈ O i) : ∃ o, H a = some o ∧ ¬ Still o := by
  obtain ⟨r, e⟩ := E.own i a h
  obtain ⟨v, _, s⟩ := E.at_ i r e
  exact s.there h
theorem still_nt : ∀ {o : HO}, Still o → NT o
  | .tup _, _ => trivial
  | .frz _ _, _ => trivial
  | .xd _, _ => trivial
  | .ins _ _ _, _ => trivial
/-- a stretch keeps the region and the still things -/
theorem EnvR.kept {s : Bool} (E : EnvR T H F O σ ρ) (x : Ext s H F O H' F' O') : Kept F H H' := fun b o h q => x.keep b o h (fun i e => by
  rcases q with q | q
  · exact E.nf i b e q.1
  · obtain ⟨o', h', n⟩ := E.there e
    rw [h] at h'; cases h'
    exact n q) (q.elim (fun z => z.2) still_nt)
/-- a set's object is no code object -/
theorem set_nc {w : World} {a : Addr} {S : Int → Bool} {n : Nat} : NC (SetO w a S n) := by
  refine ⟨trivial, fun c q e => ?_⟩
  have e1 : (HO.ext fun h => SetR w h a S n) = HO.ext fun h => ∃ (oc : Obj) (vs : Array Value) (t : Tok), h.get? c = some oc ∧ oc.data = .fields vs ∧ vs[1]? = some (.str q t) := e
  injection e1 with e2
  by_cases hac : a = c
  · subst hac
    have g : Heap.get? ⟨Array.replicate (a + 1) ⟨.none, none, .fields #[.none, .str q default], #[]⟩, {}⟩ a = some ⟨.none, none, .fields #[.none, .str q default], #[]⟩ := by
      unfold Heap.get?
      simp
    have z := (congrFun e2 ⟨Array.replicate (a + 1) ⟨.none, none, .fields #[.none, .str q default], #[]⟩, {}⟩).mpr ⟨_, _, default, g, rfl, rfl⟩
    obtain ⟨o, es, ep, t, h1, _, h2, _⟩ := z
    rw [g] at h1
    cases h1
    cases h2
  · have g : Heap.get? ⟨((Array.replicate (a + c + 1) ⟨.none, none, .freed, #[]⟩).set! c ⟨.none, none, .fields #[.none, .str q default], #[]⟩), {}⟩ c = some ⟨.none, none, .fields #[.none, .str q default], #[]⟩ := by
      unfold Heap.get?
      simp [Array.getElem?_setIfInBounds]
      omega
    have g' : Heap.get? ⟨((Array.replicate (a + c + 1) ⟨.none, none, .freed, #[]⟩).set! c ⟨.none, none, .fields #[.none, .str q default], #[]⟩), {}⟩ a = none := by
      unfold Heap.get?
      simp [Array.getElem?_setIfInBounds, Ne.symm hac]
      rw [Array.getElem?_replicate, if_pos (by omega)]
    have z := (congrFun e2 _).mpr ⟨_, _, default, g, rfl, rfl⟩
    obtain ⟨o, es, ep, t, h1, _⟩ := z
    rw [g'] at h1
    cases h1
theorem lst_nc {vs : List V} : NC (.lst vs) := ⟨trivial, fun _ _ e => by unfold LamX.CodeO at e; cases e⟩
theorem dK_nc {vs : List (Key × V)} : NC (.dK vs) := ⟨trivial, fun _ _ e => by unfold LamX.CodeO at e; cases e⟩
theorem dTo_nc {a : Addr} {o : Obj} (x : o.ExactDict) (hd : ∃ es ep, o.data = .dict es ep) : NC (DTo a o) := by
  refine ⟨trivial, fun c q e => ?_⟩
  have e1 : (HO.ext fun h => h.get? a = some o) = HO.ext fun h => ∃ (oc : Obj) (vs : Array Value) (t : Tok), h.get? c = some oc ∧ oc.data = .fields vs ∧ vs[1]? = some (.str q t) := e
  injection e1 with e2
  obtain ⟨es, ep, hd⟩ := hd
  have g : Heap.get? ⟨((Array.replicate (a + 1) ⟨.none, none, .freed, #[]⟩).set! a o), {}⟩ a = some o := by
    unfold Heap.get?
    simp
    obtain ⟨oc, od, dt, sl⟩ := o
    simp only at hd
    subst hd
    rfl
  obtain ⟨oc, vs, t, h1, h2, _⟩ := (congrFun e2 _).mp g
  by_cases hac : c = a
  · subst hac
    rw [g] at h1
    cases h1
    rw [hd] at h2
    cases h2
  · have g' : Heap.get? ⟨((Array.replicate (a + 1) ⟨.none, none, .freed, #[]⟩).set! a o), {}⟩ c = none := by
      unfold Heap.get?
      simp [Array.getElem?_setIfInBounds, Ne.symm hac]
      by_cases hl : c < a + 1
      · rw [Array.getElem?_replicate, if_pos hl]
      · rw [Array.getElem?_replicate, if_neg hl]
    rw [g'] at h1
    cases h1
/-- what one alone holds is no table -/
theorem OwnAt.nc {K : PySem.W.Frag} {a : Addr} {o : HO} (ho : H a = some o) : ∀ {d : PyData}, OwnAt K H F a d → NC o
  | .list _, ⟨_, h, _⟩ => by rw [ho] at h; cases h; exact lst_nc
  | .dict _, .inl ⟨_, h, _⟩ => by rw [ho] at h; cases h; exact dK_nc
  | .dict _, .inr ⟨_, _, h, e, _⟩ => by
    rw [ho] at h
    cases h
    obtain ⟨es, ep, hd, _⟩ := e.es
    exact dTo_nc e.ex ⟨es, ep, hd⟩
theorem SetAt.nc {w : World} {a : Addr} {o : HO} {xs : List Int} (ho : H a = some o) (h : SetAt w H a xs) : NC o := by
  obtain ⟨S, h, _⟩ := h
  rw [ho] at h; cases h; exact set_nc
theorem LedAt.nc {L : List Addr} {v : V} {ts ss : List PyData} {o : HO} (h : LedAt T H F L v ts ss) {b : Addr} (hb : b ∈ L) (ho : H b = some o) : NC o := by
  obtain ⟨a, dx, t, s, rfl, rfl, ne, h1, h2, h3⟩ := h
  simp only [List.mem_cons, List.not_mem_nil, or_false] at hb
  rcases hb with rfl | rfl
  · exact h2.nc ho
  · exact h3.nc ho
theorem OneAt.nc {b : Bool} {L : List Addr} {v : V} {ts ss : List PyData} (h : OneAt T H F b L v ts ss) {c : Addr} {o : HO} (hc : c ∈ L) (ho : H c = some o) : NC o := by
  unfold OneAt at h
  split at h
  · exact h.nc hc ho
  · obtain ⟨_, _, _, _, _, h⟩ := h; exact h.nc hc ho
theorem ManyAt.nc {b : Bool} {Ls : List (List Addr)} {vs : List V} {xs : List (Option (List PyData × List PyData))} (h : ManyAt T H F b Ls vs xs) {c : Addr} {o : HO} (hc : c ∈ Ls.flatten) (ho : H c = some o) : NC o := by
  induction h with
  | nil => cases hc
  | hole _ ih => exact ih (by simpa using hc)
  | cons q _ ih =>
    rw [List.flatten_cons, List.mem_append] at hc
    rcases hc with hc | hc
    · exact q.nc hc ho
    · exact ih hc
theorem ObjAt.nc {L : List Addr} {v : V} {b : Addr} {u : HO} (hb : b ∈ L) (ho : H b = some u) : ∀ {o : OD}, ObjAt T H F L v o → NC u
  | .led _ _, h => LedAt.nc h hb ho
  | .dsk _ _, ⟨_, _, _, _, _, h⟩ => h.nc hb ho
  | .pr _ _ _, ⟨p, a, l, L0, _, _, h, e, _, q⟩ => by
    rw [e] at hb
    rcases List.mem_cons.mp hb with rfl | hb
    · exact q.nc ho
    · exact h.nc hb ho
  | .many _ _, ⟨p, vs, Ls, _, _, _, e, _, h⟩ => by
    rw [e] at hb
    exact h.nc hb ho
theorem SlotR.nc {oa : List Addr} {v : V} {a : Addr} {o : HO} (h : a ∈ oa) (ho : H a = some o) : ∀ {r : R}, SlotR T H F oa v r → NC o
  | .dat _, ⟨z, _⟩ => by rw [z] at h; cases h
  | .own _, ⟨b, z, _, q⟩ => by rw [z] at h; cases List.mem_singleton.mp h; exact q.nc ho
  | .fn _, ⟨z, _⟩ => by rw [z] at h; cases h
  | .st _, ⟨b, z, _, q⟩ => by rw [z] at h; cases List.mem_singleton.mp h; exact q.nc ho
  | .ex _ _, ⟨z, _⟩ => by rw [z] at h; cases h
  | .obj _, q => ObjAt.nc h ho q
theorem EnvR.nc (E : EnvR T H F O σ ρ) {i : Nat} {a : Addr} {o : HO} (h : a ∈ O i) (ho : H a = some o) : NC o := by
  obtain ⟨r, e⟩ := E.own i a h
  obtain ⟨v, _, s⟩ := E.at_ i r e
  exact s.nc h ho
/-- another object in the place of one that is no table -/
theorem tabs_put {L : List (Addr × Str)} {a : Addr} {o o' : HO} (t : LamX.Tabs L H) (ho : H a = some o) (n : NC o) : LamX.Tabs L (upd H a o') := fun p hp => by
  obtain ⟨ps, h1, h2, h3⟩ := t p hp
  have ne : p.1 ≠ a := fun z => by
    rw [z, ho] at h1
    cases h1
    exact n.1
  refine ⟨ps, by rw [upd_ne ne]; exact h1, h2, fun pos cv hc => ?_⟩
  obtain ⟨c, e1, e2⟩ := h3 pos cv hc
  refine ⟨c, e1, ?_⟩
  have nc : c ≠ a := fun z => by
    rw [z, ho] at e2
    cases e2
    exact n.2 _ _ rfl
  rw [upd_ne nc]
  exact e2
theorem ExcR.mono {cls : Value} {dx : Option Addr} {c : Nat} (k : Kept F H H') : ∀ {fs : List PyData}, ExcR T H cls dx c fs → ExcR T H' cls dx c fs
  | [], h => h
  | [.int _, .int _], ⟨h1, x, h2, h3⟩ => ⟨h1, x, h2, k _ _ h3 (.inr trivial)⟩
theorem OwnAt.mono {K : PySem.W.Frag} {a : Addr} (k : Kept F H H') (g : ∀ b, F b → F' b) (ha : ∀ o, H a = some o → H' a = some o) : ∀ {d : PyData}, OwnAt K H F a d → OwnAt K H' F' a d
  | .list _, ⟨vs, h, s⟩ => ⟨vs, ha _ h, s.mono k g⟩
  | .dict _, .inl ⟨vs, h, s⟩ => .inl ⟨vs, ha _ h, s.mono k g⟩
  | .dict _, .inr ⟨o, xs, h, e, s⟩ => .inr ⟨o, xs, ha _ h, e, s.mono k g⟩
theorem SetAt.mono {w : World} {a : Addr} {xs : List Int} (ha : ∀ o, H a = some o → H' a = some o) (h : SetAt w H a xs) : SetAt w H' a xs := by
  obtain ⟨S, h, q⟩ := h
  exact ⟨S, ha _ h, q⟩
theorem LedAt.mono {L : List Addr} {v : V} {ts ss : List PyData} (k : Kept F H H') (g : ∀ b, F b → F' b) (ha : ∀ a o, a ∈ L → H a = some o → H' a = some o) (h : LedAt T H F L v ts ss) : LedAt T H' F' L v ts ss := by
  obtain ⟨a, dx, t, s, rfl, rfl, ne, h1, h2, h3⟩ := h
  exact ⟨a, dx, t, s, rfl, rfl, ne, k _ _ h1 (.inr trivial), h2.mono k g (fun o => ha t o (by simp)), h3.mono k g fun o => ha s o (by simp)⟩
theorem OneAt.mono {b : Bool} {L : List Addr} {v : V} {ts ss : List PyData} (k : Kept F H H') (g : ∀ b, F b → F' b) (ha : ∀ a o, a ∈ L → H a = some o → H' a = some o) (h : OneAt T H F b L v ts ss) : OneAt T H' F' b L v ts ss := by
  unfold OneAt at h ⊢
  split at h
  · rename_i hb; rw [if_pos hb]; exact h.mono k g ha
  · rename_i hb
    rw [if_neg hb]
    obtain ⟨b, dx, a, h1, h2, h⟩ := h
    exact ⟨b, dx, a, h1, k _ _ h2 (.inr trivial), h.mono k g ha⟩
theorem ManyAt.mono {b : Bool} {Ls : List (List Addr)} {vs : List V} {xs : List (Option (List PyData × List PyData))} (k : Kept F H H') (g : ∀ b, F b → F' b) (h : ManyAt T H F b Ls vs xs) (ha : ∀ a o, a ∈ Ls.flatten → H a = some o → H' a = some o) : ManyAt T H' F' b Ls vs xs := by
  induction h with
  | nil => exact .nil
  | hole _ ih => exact .hole (ih fun a o h => ha a o (by simpa using h))
  | cons q _ ih => exact .cons (q.mono k g fun a o h => ha a o (by rw [List.flatten_cons, List.mem_append]; exact .inl h)) (ih fun a o h => ha a o (by rw [List.flatten_cons, List.mem_append]; exact .inr h))
theorem ObjAt.mono {L : List Addr} {v : V} (k : Kept F H H') (g : ∀ b, F b → F' b) (ha : ∀ a o, a ∈ L → H a = some o → H' a = some o) : ∀ {o : OD}, ObjAt T H F L v o → ObjAt T H' F' L v o
  | .led _ _, h => LedAt.mono k g ha h
  | .dsk _ _, ⟨b, dx, a, h1, h2, h⟩ => ⟨b, dx, a, h1, k _ _ h2 (.inr trivial), h.mono k g ha⟩
  | .pr _ _ _, ⟨p, a, l, L0, h1, h2, h, e, n, q⟩ => ⟨p, a, l, L0, h1, k _ _ h2 (.inr trivial), h.mono k g (fun b o hb => ha b o (by rw [e]; exact List.mem_cons_of_mem _ hb)), e, n, q.mono k g fun o => ha l o (by rw [e]; exact List.mem_cons_self)⟩
  | .many _ _, ⟨p, vs, Ls, h1, h2, h3, e, n, h⟩ => ⟨p, vs, Ls, h1, g _ h2, k _ _ h3 (.inl ⟨h2, trivial⟩), e, n, h.mono k g fun b o hb => ha b o (by rw [e]; exact hb)⟩
theorem SlotR.mono {oa : List Addr} {v : V} (k : Kept F H H') (g : ∀ b, F b → F' b) (ha : ∀ a o, a ∈ oa → H a = some o → H' a = some o) : ∀ {r : R}, SlotR T H F oa v r → SlotR T H' F' oa v r
  | .dat _, ⟨h1, h2⟩ => ⟨h1, h2.mono k g⟩
  | .own _, ⟨a, h1, h2, h3⟩ => ⟨a, h1, h2, h3.mono k g fun o => ha a o (by rw [h1]; exact List.mem_singleton.mpr rfl)⟩
  | .fn _, h => h
  | .st _, ⟨a, h1, h2, h3⟩ => ⟨a, h1, h2, h3.mono fun o => ha a o (by rw [h1]; exact List.mem_singleton.mpr rfl)⟩
  | .ex _ _, ⟨h1, a, d, h2, h3, h4⟩ => ⟨h1, a, d, h2, h3, h4.mono k⟩
  | .obj _, h => ObjAt.mono k g ha h
/-- the slots stand over a heap that has grown -/
theorem EnvR.grown (E : EnvR T H F O σ ρ) (k : ∀ b o, H b = some o → H' b = some o) (g : ∀ b, F b → F' b) (n : ∀ i a, a ∈ O i → ¬ F' a) (l : ∀ b, F' b → H' b ≠ none) : EnvR T H' F' O σ ρ :=
  ⟨E.len, fun i r e => let ⟨v, h1, h2⟩ := E.at_ i r e; ⟨v, h1, h2.mono (fun b o h _ => k b o h) g fun a o _ h => k a o h⟩, E.own, E.inj, n, l, E.tb.ext k⟩
end
/-- a new object -/
theorem kept_new {H : Hp} {p : Addr} {o : HO} (hp : H p = none) : ∀ b u, H b = some u → upd H p o b = some u := fun b u e => by
  rw [upd_ne (ne_of_none e hp)]; exact e
section
variable {T : Tb} {H : Hp} {F : Addr → Prop} {O : Nat → List Addr} {σ : L2.St} {ρ : Rho} {p : Addr} {o : HO}
theorem EnvR.ne_new (E : EnvR T H F O σ ρ) (hp : H p = none) : ∀ i, p ∉ O i := fun i e => by
  obtain ⟨u, h, _⟩ := E.there e
  rw [hp] at h; cases h
/-- a new object that is nobody's, or goes into the region -/
theorem live_new (hp : H p = none) : ∀ b, H b ≠ none → upd H p o b ≠ none := fun b h => by
  cases q : H b with
  | none => exact absurd q h
  | some u => rw [kept_new hp b u q]; simp
theorem EnvR.laid (E : EnvR T H F O σ ρ) (hp : H p = none) : EnvR T (upd H p o) F O σ ρ := E.grown (kept_new hp) (fun _ h => h) E.nf fun b h => live_new hp b (E.lv b h)
theorem Ext.laid {s : Bool} (hp : H p = none) : Ext s H F O (upd H p o) F O :=
  ⟨fun b u h _ _ => kept_new hp b u h, fun b h => by
    by_cases e : b = p
    · subst e; exact hp
    · rw [upd_ne e] at h; exact h, fun _ h => h, fun _ h => .inl h, fun _ _ h => .inl h⟩
end
end DL
namespace DL
open PySem L2
/-- an end of a piece: a thing and the slots, or an exception -/
inductive Oe (α : Type) where
  | ok (a : α) (ρ : Rho)
  | er (c : Nat) (fs : List PyData) (ρ : Rho)
abbrev EM := Rho → Option (Oe R)
abbrev AM := Rho → Option (Oe (List R))
def bindO {α β : Type} (o : Option (Oe α)) (g : α → Rho → Option (Oe β)) : Option (Oe β) :=
  match o with
  | some (.ok a ρ) => g a ρ
  | some (.er c fs ρ) => some (.er c fs ρ)
  | none => none
@[simp] theorem bindO_ok {α β : Type} (a : α) (ρ : Rho) (g : α → Rho → Option (Oe β)) : bindO (some (.ok a ρ)) g = g a ρ := rfl
@[simp] theorem bindO_er {α β : Type} (c : Nat) (fs : List PyData) (ρ : Rho) (g : α → Rho → Option (Oe β)) : bindO (some (.er c fs ρ)) g = some (.er c fs ρ) := rfl
@[simp] theorem bindO_none {α β : Type} (g : α → Rho → Option (Oe β)) : bindO none g = none := rfl
/-- what a slot holds, as data -/
def slotD : Option (Option R) → Option PyData
  | some (some (.dat d)) => some d
  | some (some (.own d)) => some d
  | _ => none
/-- what a part of a ledger in a slot holds -/
def partD (k : Nat) : Option (Option R) → Option PyData
  | some (some (.obj (.led ts ss))) => some (.list (if k = 0 then ts else ss))
  | _ => none
/-- a result as data, as it stands now -/
def val (ρ : Rho) : R → Option PyData
  | .dat d => some d
  | .own d => some d
  | .slt i => slotD ρ[i]?
  | .prt i k => partD k ρ[i]?
  | _ => none
/-- a result as data that stays: what one slot held alone is so no more -/
def frz (ρ : Rho) : R → Option (PyData × Rho)
  | .dat d => some (d, ρ)
  | .own d => some (d, ρ)
  | .slt i => (slotD ρ[i]?).map fun d => (d, ρ.set i (some (.dat d)))
  | _ => none
/-- v is the result r; what is new in it is new since H0 -/
def ResR (T : Tb) (H0 H : Hp) (F : Addr → Prop) (O : Nat → List Addr) (σ : L2.St) (v : V) : R → Prop
  | .dat d => DF T.K H F v d
  | .own d => ∃ a, v = .ref a ∧ H0 a = none ∧ ¬ F a ∧ (∀ i, a ∉ O i) ∧ OwnAt T.K H F a d
  | .slt i => σ[i]? = some (some v)
  | .fn k => v = .ref (T.fa k)
  | .st xs => ∃ a, v = .ref a ∧ H0 a = none ∧ ¬ F a ∧ (∀ i, a ∉ O i) ∧ SetAt T.w H a xs
  | .ex c fs => ∃ a dx, v = .ref a ∧ T.hot = some (a, c, dx) ∧ ExcR T H (.ref (T.ca c)) dx c fs
  | .two d e => ∃ p a b, v = .ref p ∧ H p = some (.tup [.ref a, .ref b]) ∧ a ≠ b ∧ (H0 a = none ∧ ¬ F a ∧ (∀ i, a ∉ O i) ∧ OwnAt T.K H F a d) ∧ (H0 b = none ∧ ¬ F b ∧ (∀ i, b ∉ O i) ∧ OwnAt T.K H F b e)
  | .obj o => ∃ L, (∀ b, b ∈ L → H0 b = none ∧ ¬ F b ∧ ∀ i, b ∉ O i) ∧ ObjAt T H F L v o
  | .prt i k => ∃ a dx t s, σ[i]? = some (some (.ref a)) ∧ H a = some (.ins T.lc dx (ledF t s)) ∧ v = .ref (if k = 0 then t else s)
/-- v reads as d just now -/
def Vw (T : Tb) (H : Hp) (F : Addr → Prop) (v : V) (d : PyData) : Prop := DF T.K H F v d ∨ ∃ a, v = .ref a ∧ OwnAt T.K H F a d
section
variable {T : Tb} {H0 H H' : Hp} {F F' : Addr → Prop} {O O' : Nat → List Addr} {σ : L2.St} {ρ : Rho} {v : V} {d : PyData}
theorem own_ext {s : Bool} (E : EnvR T H F O σ ρ) (x : Ext s H F O H' F' O') {a : Addr} {d : PyData} (h3 : ¬ F a) (h4 : ∀ i, a ∉ O i) (h5 : OwnAt T.K H F a d) : ¬ F' a ∧ (∀ i, a ∉ O' i) ∧ OwnAt T.K H' F' a d := by
  obtain ⟨o, ho, _⟩ := h5.there
  refine ⟨fun q => ?_, fun i q => ?_, h5.mono (E.kept x) x.grow fun o h => x.keep a o h h4 (h5.nc h).1⟩
  · rcases x.new a q with z | ⟨i, z⟩ | z
    · exact h3 z
    · exact h4 i z
    · rw [ho] at z; cases z
  · rcases x.ow q with ⟨j, z⟩ | z
    · exact h4 j z
    · rw [ho] at z; cases z
theorem obj_ext {s : Bool} (E : EnvR T H F O σ ρ) (x : Ext s H F O H' F' O') {L : List Addr} {o : OD} (h : ∀ b, b ∈ L → H0 b = none ∧ ¬ F b ∧ ∀ i, b ∉ O i) (q : ObjAt T H F L v o) : (∀ b, b ∈ L → H0 b = none ∧ ¬ F' b ∧ ∀ i, b ∉ O' i) ∧ ObjAt T H' F' L v o := by
  refine ⟨fun b hb => ?_, q.mono (E.kept x) x.grow fun b o' hb ho => x.keep b o' ho (h b hb).2.2 (ObjAt.nc hb ho q).1⟩
  obtain ⟨o', ho, _⟩ := q.there hb
  obtain ⟨h1, h2, h3⟩ := h b hb
  refine ⟨h1, fun z => ?_, fun i z => ?_⟩
  · rcases x.new b z with y | ⟨i, y⟩ | y
    · exact h2 y
    · exact h3 i y
    · rw [ho] at y; cases y
  · rcases x.ow z with ⟨j, y⟩ | y
    · exact h3 j y
    · rw [ho] at y; cases y
theorem ResR.mono {s : Bool} (E : EnvR T H F O σ ρ) (x : Ext s H F O H' F' O') : ∀ {r : R}, ResR T H0 H F O σ v r → ResR T H0 H' F' O' σ v r
  | .dat _, h => DF.mono (E.kept x) x.grow h
  | .own _, ⟨a, h1, h2, h3, h4, h5⟩ => by
    obtain ⟨o, ho, _⟩ := h5.there
    refine ⟨a, h1, h2, fun q => ?_, fun i q => ?_, h5.mono (E.kept x) x.grow fun o h => x.keep a o h h4 (h5.nc h).1⟩
    · rcases x.new a q with z | ⟨i, z⟩ | z
      · exact h3 z
      · exact h4 i z
      · rw [ho] at z; cases z
    · rcases x.ow q with ⟨j, z⟩ | z
      · exact h4 j z
      · rw [ho] at z; cases z
  | .slt _, h => h
  | .fn _, h => h
  | .st _, ⟨a, h1, h2, h3, h4, h5⟩ => by
    obtain ⟨o, ho, _⟩ := h5.there
    refine ⟨a, h1, h2, fun q => ?_, fun i q => ?_, h5.mono fun o h => x.keep a o h h4 (h5.nc h).1⟩
    · rcases x.new a q with z | ⟨i, z⟩ | z
      · exact h3 z
      · exact h4 i z
      · rw [ho] at z; cases z
    · rcases x.ow q with ⟨j, z⟩ | z
      · exact h4 j z
      · rw [ho] at z; cases z
  | .ex _ _, ⟨a, dx, h1, h2, h3⟩ => ⟨a, dx, h1, h2, h3.mono (E.kept x)⟩
  | .two _ _, ⟨p, a, b, h1, h2, h3, ⟨a1, a2, a3, a4⟩, b1, b2, b3, b4⟩ => ⟨p, a, b, h1, E.kept x _ _ h2 (.inr trivial), h3, ⟨a1, own_ext E x a2 a3 a4⟩, b1, own_ext E x b2 b3 b4⟩
  | .obj _, ⟨L, h1, h2⟩ => ⟨L, obj_ext E x h1 h2⟩
  | .prt _ _, ⟨a, dx, t, s, h1, h2, h3⟩ => ⟨a, dx, t, s, h1, E.kept x _ _ h2 (.inr trivial), h3⟩
/-- new since later is new since earlier -/
theorem ResR.back {H1 : Hp} (l : ∀ b, H1 b = none → H0 b = none) : ∀ {r : R}, ResR T H1 H F O σ v r → ResR T H0 H F O σ v r
  | .dat _, h => h
  | .own _, ⟨a, h1, h2, h3⟩ => ⟨a, h1, l a h2, h3⟩
  | .slt _, h => h
  | .fn _, h => h
  | .st _, ⟨a, h1, h2, h3⟩ => ⟨a, h1, l a h2, h3⟩
  | .ex _ _, h => h
  | .two _ _, ⟨p, a, b, h1, h2, h3, ⟨a1, a2⟩, b1, b2⟩ => ⟨p, a, b, h1, h2, h3, ⟨l a a1, a2⟩, l b b1, b2⟩
  | .obj _, ⟨L, h1, h2⟩ => ⟨L, fun b hb => ⟨l b (h1 b hb).1, (h1 b hb).2⟩, h2⟩
  | .prt _ _, h => h
theorem slot_vw (E : EnvR T H F O σ ρ) {i : Nat} (hv : σ[i]? = some (some v)) (h : slotD ρ[i]? = some d) : Vw T H F v d := by
  cases q : ρ[i]? with
  | none => rw [q] at h; cases h
  | some o =>
    cases o with
    | none => rw [q] at h; cases h
    | some r =>
      obtain ⟨u, hu, s⟩ := E.at_ i r q
      rw [hv] at hu; cases hu
      rw [q] at h
      cases r with
      | dat e => cases h; exact .inl s.2
      | own e => cases h; obtain ⟨a, _, h2, h3⟩ := s; exact .inr ⟨a, h2, h3⟩
      | slt j => cases h
      | fn k => cases h
      | st xs => cases h
      | ex c fs => cases h
      | two d e => cases h
      | obj o => cases h
      | prt i k => cases h
theorem part_vw (E : EnvR T H F O σ ρ) {i k : Nat} (hv : ResR T H0 H F O σ v (.prt i k)) (h : partD k ρ[i]? = some d) : Vw T H F v d := by
  unfold partD at h
  split at h
  · rename_i ts ss q
    cases h
    obtain ⟨u, hu, a, dx, t, s, e1, e2, e3, e4, e5, e6⟩ := E.at_ i _ q
    obtain ⟨a', dx', t', s', g1, g2, g3⟩ := hv
    rw [g1] at hu
    cases hu
    cases e1
    rw [e4] at g2
    cases g2
    rw [g3]
    by_cases hk : k = 0
    · rw [if_pos hk, if_pos hk]; exact .inr ⟨_, rfl, e5⟩
    · rw [if_neg hk, if_neg hk]; exact .inr ⟨_, rfl, e6⟩
  · cases h
theorem val_vw (E : EnvR T H F O σ ρ) : ∀ {r : R}, ResR T H0 H F O σ v r → val ρ r = some d → Vw T H F v d
  | .dat _, h, e => by cases e; exact .inl h
  | .own _, ⟨a, h1, _, _, _, h5⟩, e => by cases e; exact .inr ⟨a, h1, h5⟩
  | .slt _, h, e => slot_vw E h e
  | .prt _ _, h, e => part_vw E h e
theorem Vw.non (h : Vw T H F v .none) : v = .non := by
  rcases h with h | ⟨_, _, h⟩
  · cases h; rfl
  · exact h.elim
theorem Vw.bl {b : Bool} (h : Vw T H F v (.bool b)) : v = .bl b := by
  rcases h with h | ⟨_, _, h⟩
  · cases h; rfl
  · exact h.elim
theorem Vw.int {i : Int} (h : Vw T H F v (.int i)) : v = .int i := by
  rcases h with h | ⟨_, _, h⟩
  · cases h; rfl
  · exact h.elim
theorem Vw.str {x : Str} (h : Vw T H F v (.str x)) : v = .str x := by
  rcases h with h | ⟨_, _, h⟩
  · cases h; rfl
  · exact h.elim
theorem Vw.tup {ds : List PyData} (h : Vw T H F v (.tuple ds)) : ∃ a xs, v = .ref a ∧ SqT T.K H a xs ∧ DFs T.K H F xs ds := by
  rcases h with h | ⟨_, _, h⟩
  · cases h with
    | tup r s => exact ⟨_, _, rfl, r, s⟩
  · exact h.elim
theorem Vw.lst {ds : List PyData} (h : Vw T H F v (.list ds)) : ∃ a xs, v = .ref a ∧ LsR T.K H a xs ∧ DFs T.K H F xs ds := by
  rcases h with h | ⟨a, e, xs, h, s⟩
  · cases h with
    | lst f r s => exact ⟨_, _, rfl, .inl r, s⟩
    | lstK r s => exact ⟨_, _, rfl, .inr r, s⟩
  · exact ⟨a, xs, e, .inl (.inl h), s⟩
theorem Vw.dctA {ds : List (PyData × PyData)} (h : Vw T H F v (.dict ds)) : ∃ a, v = .ref a ∧ ((∃ xs, Rd H a (.dK xs) ∧ DFk T.K H F xs ds) ∨ ∃ o xs, H a = some (DTo a o) ∧ EsOk a o xs ∧ DFt T.K H F xs ds) := by
  rcases h with h | ⟨a, e, ⟨xs, h, s⟩ | ⟨o, xs, h, q, s⟩⟩
  · cases h with
    | dct f r s => exact ⟨_, rfl, .inl ⟨_, r, s⟩⟩
    | dcT f r e s => exact ⟨_, rfl, .inr ⟨_, _, r, e, s⟩⟩
  · exact ⟨a, e, .inl ⟨xs, .inl h, s⟩⟩
  · exact ⟨a, e, .inr ⟨o, xs, h, q, s⟩⟩
theorem vw_fz {i : Nat} {a : Addr} (E : EnvR T H F O σ ρ) (h : O i = [a]) (hv : σ[i]? = some (some (.ref a))) {F' : Addr → Prop} (hF : ∀ b, F' b ↔ F b ∨ b = a) (hd : DF T.K H F' (.ref a) d) :
    EnvR T H F' (fun j => if j = i then [] else O j) σ (ρ.set i (some (.dat d))) := by
  have ha : a ∈ O i := by rw [h]; exact List.mem_singleton.mpr rfl
  obtain ⟨r, er⟩ := E.own i a ha
  have hi : i < ρ.length := by
    have := List.getElem?_eq_some_iff.mp er
    exact this.1
  refine ⟨by rw [List.length_set]; exact E.len, fun j r' e => ?_, fun j b e => ?_, fun j k b e1 e2 => ?_, fun j b e q => ?_, fun b q => ?_, E.tb⟩
  · by_cases hj : j = i
    · subst hj
      rw [List.getElem?_set_self hi] at e
      cases e
      exact ⟨_, hv, if_pos rfl, hd⟩
    · rw [List.getElem?_set_ne (Ne.symm hj)] at e
      obtain ⟨v, hv, s⟩ := E.at_ j r' e
      refine ⟨v, hv, ?_⟩
      rw [if_neg hj]
      exact s.mono (fun _ _ h _ => h) (fun b z => (hF b).mpr (.inl z)) fun _ _ _ h => h
  · by_cases hj : j = i
    · rw [if_pos hj] at e; cases e
    · rw [if_neg hj] at e
      obtain ⟨r', q⟩ := E.own j b e
      exact ⟨r', by rw [List.getElem?_set_ne (Ne.symm hj)]; exact q⟩
  · by_cases hj : j = i
    · rw [if_pos hj] at e1; cases e1
    · by_cases hk : k = i
      · rw [if_pos hk] at e2; cases e2
      · rw [if_neg hj] at e1
        rw [if_neg hk] at e2
        exact E.inj j k b e1 e2
  · by_cases hj : j = i
    · rw [if_pos hj] at e; cases e
    · rw [if_neg hj] at e
      rcases (hF b).mp q with z | z
      · exact E.nf j b e z
      · subst z; exact hj (E.inj j i b e ha)
  · rcases (hF b).mp q with z | z
    · exact E.lv b z
    · subst z
      obtain ⟨o, ho, _⟩ := E.there ha
      rw [ho]; simp
theorem OwnAt.df {a : Addr} (f : F a) : ∀ {d : PyData}, OwnAt T.K H F a d → DF T.K H F (.ref a) d
  | .list _, ⟨_, h, s⟩ => .lst f (.inl h) s
  | .dict _, .inl ⟨_, h, s⟩ => .dct f (.inl h) s
  | .dict _, .inr ⟨_, _, h, e, s⟩ => .dcT f h e s
theorem Vw.dK {ds : List (PyData × PyData)} (h : Vw T H F v (.dict ds)) : ∃ a, v = .ref a ∧ ((∃ xs, Rd H a (.dK xs) ∧ DFk T.K H F xs ds) ∨ ∃ o xs, H a = some (DTo a o) ∧ EsOk a o xs ∧ DFt T.K H F xs ds) := h.dctA
/-- a slot that holds data may be set to them -/
theorem EnvR.setD {i : Nat} (E : EnvR T H F O σ ρ) (h : ρ[i]? = some (some (.dat d))) : EnvR T H F O σ (ρ.set i (some (.dat d))) := by
  have e : ρ.set i (some (.dat d)) = ρ := by
    refine List.ext_getElem? fun j => ?_
    by_cases hj : j = i
    · subst hj
      rw [List.getElem?_set_self (List.getElem?_eq_some_iff.mp h).1, h]
    · rw [List.getElem?_set_ne (Ne.symm hj)]
  rw [e]
  exact E
/-- a result is made data that stays -/
theorem fz {t : Bool} {B : Hp} {FB : Addr → Prop} {OB : Nat → List Addr} (x : Ext t B FB OB H F O) (l : ∀ b, H0 b = none → B b = none) (E : EnvR T H F O σ ρ) {ρ' : Rho} : ∀ {r : R}, ResR T H0 H F O σ v r → frz ρ r = some (d, ρ') →
    ∃ F' O', Ext t B FB OB H F' O' ∧ EnvR T H F' O' σ ρ' ∧ DF T.K H F' v d ∧ (∀ b, F b → F' b) ∧ (∀ i a, a ∈ O' i → a ∈ O i) ∧ ∀ b, F' b → F b ∨ (∃ i, b ∈ O i) ∨ H0 b = none
  | .dat _, h, e => by cases e; exact ⟨F, O, x, E, h, fun _ h => h, fun _ _ h => h, fun _ h => .inl h⟩
  | .own _, ⟨a, h1, h2, h3, h4, h5⟩, e => by
    cases e
    have nf : ∀ i b, b ∈ O i → ¬ (F b ∨ b = a) := fun i b q z => z.elim (E.nf i b q) fun y => h4 i (y ▸ q)
    obtain ⟨o, ho, _⟩ := h5.there
    have lv : ∀ b, (F b ∨ b = a) → H b ≠ none := fun b h => h.elim (E.lv b) fun z => by rw [z, ho]; simp
    refine ⟨fun b => F b ∨ b = a, O, ⟨x.keep, x.live, fun b h => .inl (x.grow b h), fun b h => ?_, x.own⟩, E.grown (fun _ _ h => h) (fun _ h => .inl h) nf lv, ?_, fun _ h => .inl h, fun _ _ h => h, fun b h => h.elim .inl fun z => .inr (.inr (z ▸ h2))⟩
    · rcases h with h | rfl
      · exact x.new b h
      · exact .inr (.inr (l b h2))
    · rw [h1]
      exact OwnAt.df (F := fun b => F b ∨ b = a) (.inr rfl) (h5.mono (fun _ _ h _ => h) (fun _ h => .inl h) fun _ h => h)
  | .slt i, h, e => by
    have e' : (slotD ρ[i]?).map (fun d => (d, ρ.set i (some (.dat d)))) = some (d, ρ') := e
    cases q : ρ[i]? with
    | none => rw [q] at e'; cases e'
    | some o =>
      cases o with
      | none => rw [q] at e'; cases e'
      | some r =>
        obtain ⟨u, hu, s⟩ := E.at_ i r q
        have h' : σ[i]? = some (some v) := h
        rw [h'] at hu
        cases hu
        rw [q] at e'
        cases r with
        | dat e =>
          cases e'
          exact ⟨F, O, x, E.setD q, s.2, fun _ h => h, fun _ _ h => h, fun _ h => .inl h⟩
        | own e =>
          cases e'
          obtain ⟨a, z1, z2, z3⟩ := s
          have zm : a ∈ O i := by rw [z1]; exact List.mem_singleton.mpr rfl
          subst z2
          have hd : DF T.K H (fun b => F b ∨ b = a) (.ref a) d := OwnAt.df (F := fun b => F b ∨ b = a) (.inr rfl) (z3.mono (fun _ _ h _ => h) (fun _ h => .inl h) fun _ h => h)
          refine ⟨fun b => F b ∨ b = a, fun j => if j = i then [] else O j, ⟨x.keep, x.live, fun b h => .inl (x.grow b h), fun b h => ?_, fun j b e => ?_⟩, vw_fz E z1 h' (fun _ => Iff.rfl) hd, hd, fun _ h => .inl h, fun j b q => ?_, fun b h => h.elim .inl fun z => .inr (.inl ⟨i, z ▸ zm⟩)⟩
          · rcases h with h | rfl
            · exact x.new b h
            · exact .inr (x.ow zm)
          · by_cases hj : j = i
            · rw [if_pos hj] at e; cases e
            · rw [if_neg hj] at e
              exact x.own j b e
          · have q' : b ∈ (if j = i then [] else O j) := q
            by_cases hj : j = i
            · rw [if_pos hj] at q'; cases q'
            · rw [if_neg hj] at q'; exact q'
        | slt j => cases e'
        | fn k => cases e'
        | st xs => cases e'
        | ex c fs => cases e'
        | two d e => cases e'
        | obj o => cases e'
        | prt i k => cases e'
end
abbrev Reg := Addr → Prop
abbrev Ows := Nat → List Addr
/-- how a thing β of the run tells a thing α of ours: since the heap, at the heap, the region, the owners -/
abbrev Tell (α β : Type) := L2.St → Hp → Hp → Reg → Ows → β → α → Prop
/-- the wish of what stands behind a piece -/
def Post {α β : Type} (T : Tb) (W : WX) (Rl : Tell α β) (σ : L2.St) (H : Hp) (F : Reg) (O : Ows) (Q : β → Hp → Prop) : Option (Oe α) → Prop
  | some (.ok a ρ) => ∀ v H' F' O', Ext false H F O H' F' O' → EnvR T H' F' O' σ ρ → Rl σ H H' F' O' v a → Q v H'
  | some (.er c fs ρ) => ∀ cls d H' F' O', Ext false H F O H' F' O' → EnvR T H' F' O' σ ρ → ExcR T H' cls d c fs → W cls d σ H'
  | none => False
/-- a piece's reading -/
def Tof {α β : Type} (T : Tb) (W : WX) (Rl : Tell α β) (f : Rho → Option (Oe α)) : L2.St → Hp → (β → Hp → Prop) → Prop := fun σ H Q =>
  ∃ ρ F O, EnvR T H F O σ ρ ∧ Post T W Rl σ H F O Q (f ρ)
def tlE (T : Tb) : Tell R V := fun σ H0 H F O v r => ResR T H0 H F O σ v r
def tlB : Tell Bool Bool := fun _ _ _ _ _ b c => b = c
inductive ResRs (T : Tb) (H0 H : Hp) (F : Reg) (O : Ows) (σ : L2.St) : List V → List R → Prop where
  | nil : ResRs T H0 H F O σ [] []
  | cons {v : V} {r : R} {vs : List V} {rs : List R} : ResR T H0 H F O σ v r → ResRs T H0 H F O σ vs rs → ResRs T H0 H F O σ (v :: vs) (r :: rs)
def tlA (T : Tb) : Tell (List R) (List V) := fun σ H0 H F O v r => ResRs T H0 H F O σ v r
section
variable {T : Tb} {W : WX} {α β γ δ : Type} {Ra : Tell α β} {Rb : Tell γ δ} {σ : L2.St} {ρ : Rho} {B H : Hp} {FB F : Reg} {OB O : Ows}
/-- one piece, then the rest -/
theorem stp {f : Rho → Option (Oe α)} {g : α → Rho → Option (Oe γ)} {Q : δ → Hp → Prop} {Q' : β → Hp → Prop} (x : Ext false B FB OB H F O) (E : EnvR T H F O σ ρ) (P : Post T W Rb σ B FB OB Q (bindO (f ρ) g))
    (k : ∀ v H1 a ρ1 F1 O1, Ext false H F O H1 F1 O1 → Ext false B FB OB H1 F1 O1 → EnvR T H1 F1 O1 σ ρ1 → Ra σ H H1 F1 O1 v a → Post T W Rb σ B FB OB Q (g a ρ1) → Q' v H1) : Tof T W Ra f σ H Q' := by
  refine ⟨ρ, F, O, E, ?_⟩
  cases q : f ρ with
  | none => rw [q] at P; exact P
  | some o =>
    rw [q] at P
    cases o with
    | ok a ρ1 => exact fun v H1 F1 O1 x1 E1 r1 => k v H1 a ρ1 F1 O1 x1 (x.trans x1) E1 r1 P
    | er c fs ρ1 => exact fun cls d H1 F1 O1 x1 E1 r1 => P cls d H1 F1 O1 (x.trans x1) E1 r1
end
def SE (X : Cx) (T : Tb) (W : WX) (e : Expr) (f : EM) : Prop := PE X e (Tof T W (tlE T) f)
def ST (X : Cx) (T : Tb) (W : WX) (e : Expr) (f : Rho → Option (Oe Bool)) : Prop := PT X e (Tof T W tlB f)
def SA (X : Cx) (T : Tb) (W : WX) (es : List Expr) (f : AM) : Prop := PA X es (Tof T W (tlA T) f)
theorem pe_imp {X : Cx} {e : Expr} {t t' : TE} (h : PE X e t) (i : ∀ σ H Q, t' σ H Q → t σ H Q) : PE X e t' := ⟨fun pins s σ H Q I q => h.run pins s σ H Q I (i σ H Q q)⟩
theorem pt_imp {X : Cx} {e : Expr} {t t' : TT} (h : PT X e t) (i : ∀ σ H Q, t' σ H Q → t σ H Q) : PT X e t' := ⟨fun pins s σ H Q I q => h.run pins s σ H Q I (i σ H Q q)⟩
theorem pa_imp {X : Cx} {e : List Expr} {t t' : TA} (h : PA X e t) (i : ∀ σ H Q, t' σ H Q → t σ H Q) : PA X e t' := ⟨fun pos pins s σ H Q I q => h.run pos pins s σ H Q I (i σ H Q q)⟩
/-- the facts of the place where a piece runs -/
structure Cxt (X : Cx) (T : Tb) (W : WX) (n : Nat) : Prop where
  hK : X.K = T.K
  hw : X.w = T.w
  calm : X.calm = true
  room : Room n X.A
  gd : X.A.guards = some []
  tk : Takes X W
  po : PassesOwn (model X.prog X.w) X.A X.env X.xe
  nd : X.N.Nodup
  sm : X.base.get? sysModules ≠ none
theorem Cxt.mono {X : Cx} {T : Tb} {W : WX} {m n : Nat} (c : Cxt X T W n) (h : m ≤ n) : Cxt X T W m := ⟨c.hK, c.hw, c.calm, c.room.mono h, c.gd, c.tk, c.po, c.nd, c.sm⟩
structure Gr (H : Hp) (F : Reg) (H' : Hp) (F' : Reg) : Prop where
  keep : ∀ b o, H b = some o → H' b = some o
  grow : ∀ b, F b → F' b
  new : ∀ b, F' b → F b ∨ (H b = none ∧ H' b ≠ none)
theorem Gr.refl {H : Hp} {F : Reg} : Gr H F H F := ⟨fun _ _ h => h, fun _ h => h, fun _ h => .inl h⟩
theorem Gr.laid {H : Hp} {F : Reg} {p : Addr} {o : HO} (hp : H p = none) : Gr H F (upd H p o) F := ⟨kept_new hp, fun _ h => h, fun _ h => .inl h⟩
theorem Gr.live {H H' : Hp} {F F' : Reg} (g : Gr H F H' F') : ∀ b, H' b = none → H b = none := fun b h => by
  cases q : H b with
  | none => rfl
  | some o => rw [g.keep b o q] at h; cases h
theorem Gr.trans {H H1 H2 : Hp} {F F1 F2 : Reg} (a : Gr H F H1 F1) (b : Gr H1 F1 H2 F2) : Gr H F H2 F2 :=
  ⟨fun c o h => b.keep c o (a.keep c o h), fun c h => b.grow c (a.grow c h), fun c h => (b.new c h).elim (fun z => (a.new c z).elim .inl fun y => .inr ⟨y.1, fun q => y.2 (b.live c q)⟩) fun z => .inr ⟨a.live c z.1, z.2⟩⟩
theorem Gr.ext {s : Bool} {H H' : Hp} {F F' : Reg} {O : Ows} (g : Gr H F H' F') : Ext s H F O H' F' O :=
  ⟨fun b o h _ _ => g.keep b o h, g.live, g.grow, fun b h => (g.new b h).elim .inl fun z => .inr (.inr z.1), fun _ _ h => .inl h⟩
theorem EnvR.gr {T : Tb} {H H' : Hp} {F F' : Reg} {O : Ows} {σ : L2.St} {ρ : Rho} (E : EnvR T H F O σ ρ) (g : Gr H F H' F') : EnvR T H' F' O σ ρ :=
  E.grown g.keep g.grow (fun i a e q => (g.new a q).elim (E.nf i a e) fun z => E.ne_new z.1 i e) fun b h => (g.new b h).elim (fun z q => E.lv b z (g.live b q)) fun z => z.2
/-- a result that an operation made -/
def ResN (T : Tb) (H H' : Hp) (F' : Reg) (v : V) : R → Prop
  | .dat d => DF T.K H' F' v d
  | .own d => ∃ a, v = .ref a ∧ H a = none ∧ ¬ F' a ∧ OwnAt T.K H' F' a d
  | .st xs => ∃ a, v = .ref a ∧ H a = none ∧ ¬ F' a ∧ SetAt T.w H' a xs
  | _ => False
theorem ResN.r {T : Tb} {H H' : Hp} {F F' : Reg} {O : Ows} {σ : L2.St} {ρ : Rho} {v : V} (E : EnvR T H F O σ ρ) : ∀ {r : R}, ResN T H H' F' v r → ResR T H H' F' O σ v r
  | .dat _, h => h
  | .own _, ⟨a, h1, h2, h3, h4⟩ => ⟨a, h1, h2, h3, E.ne_new h2, h4⟩
  | .st _, ⟨a, h1, h2, h3, h4⟩ => ⟨a, h1, h2, h3, E.ne_new h2, h4⟩
/-- the end of an operation -/
theorem fin_op {T : Tb} {W : WX} {σ : L2.St} {ρ : Rho} {B H H' : Hp} {FB F F' : Reg} {OB O : Ows} {Q : VK} {v : V} {r : R} (x : Ext false B FB OB H F O) (E : EnvR T H F O σ ρ) (P : Post T W (tlE T) σ B FB OB Q (some (.ok r ρ))) (g : Gr H F H' F') (h : ResN T H H' F' v r) : Q v H' :=
  P v H' F' O (x.trans g.ext) (E.gr g) ((h.r E).back x.live)
/-- a new list of the asker's own; a new tuple -/
theorem resN_lst {T : Tb} {H : Hp} {F : Reg} {p : Addr} {vs : List V} {ds : List PyData} (hp : H p = none) (nf : ¬ F p) (s : DFs T.K H F vs ds) : ResN T H (upd H p (.lst vs)) F (.ref p) (.own (.list ds)) :=
  ⟨p, rfl, hp, nf, vs, upd_same, s.mono (fun b o h _ => kept_new hp b o h) fun _ h => h⟩
theorem resN_tup {T : Tb} {H : Hp} {F : Reg} {p : Addr} {vs : List V} {ds : List PyData} (hp : H p = none) (s : DFs T.K H F vs ds) : ResN T H (upd H p (.tup vs)) F (.ref p) (.dat (.tuple ds)) :=
  .tup (.inl (.inl upd_same)) (s.mono (fun b o h _ => kept_new hp b o h) fun _ h => h)
end DL
namespace DL
open PySem L2
def nmM (i : Nat) : EM := fun ρ => match ρ[i]? with
  | some (some (.dat d)) => some (.ok (.dat d) ρ)
  | some (some (.own _)) => some (.ok (.slt i) ρ)
  | some (some (.st _)) => some (.ok (.slt i) ρ)
  | some (some (.obj _)) => some (.ok (.slt i) ρ)
  | some (some (.fn k)) => some (.ok (.fn k) ρ)
  | some (some (.ex c fs)) => some (.ok (.ex c fs) ρ)
  | _ => none
def cM (d : PyData) : EM := fun ρ => some (.ok (.dat d) ρ)
/-- an operation on two things as data -/
def op2M (g : PyData → PyData → Option R) (fa fb : EM) : EM := fun ρ => bindO (fa ρ) fun r ρ1 => bindO (fb ρ1) fun s ρ2 =>
  match val ρ2 r, val ρ2 s with
  | some d, some e => (g d e).map fun z => .ok z ρ2
  | _, _ => none
def op1M (g : PyData → Option R) (fa : EM) : EM := fun ρ => bindO (fa ρ) fun r ρ1 =>
  match val ρ1 r with
  | some d => (g d).map fun z => .ok z ρ1
  | _ => none
/-- arguments of a call: a list that is nobody's becomes still -/
def tmp : R → R
  | .own d => .dat d
  | r => r
def nilA : AM := fun ρ => some (.ok [] ρ)
def consA (fe : EM) (fr : AM) : AM := fun ρ => bindO (fe ρ) fun r ρ1 => bindO (fr ρ1) fun rs ρ2 => some (.ok (tmp r :: rs) ρ2)
/-- parts of a display: all become still -/
def consD (fe : EM) (fr : AM) : AM := fun ρ => bindO (fe ρ) fun r ρ1 => match frz ρ1 r with
  | some (d, ρ2) => bindO (fr ρ2) fun rs ρ3 => some (.ok (.dat d :: rs) ρ3)
  | none => none
def vals (ρ : Rho) : List R → Option (List PyData)
  | [] => some []
  | r :: rs => match val ρ r, vals ρ rs with
    | some d, some ds => some (d :: ds)
    | _, _ => none
def opnM (g : List PyData → Option R) (fa : AM) : EM := fun ρ => bindO (fa ρ) fun rs ρ1 =>
  match vals ρ1 rs with
  | some ds => (g ds).map fun z => .ok z ρ1
  | none => none
/-- tests -/
def tsM (f : EM) : Rho → Option (Oe Bool) := fun ρ => bindO (f ρ) fun r ρ1 => match r with
  | .dat (.bool b) => some (.ok b ρ1)
  | _ => none
def andT (f g : Rho → Option (Oe Bool)) : Rho → Option (Oe Bool) := fun ρ => bindO (f ρ) fun b ρ1 => if b = true then g ρ1 else some (.ok false ρ1)
def orT (f g : Rho → Option (Oe Bool)) : Rho → Option (Oe Bool) := fun ρ => bindO (f ρ) fun b ρ1 => if b = true then some (.ok true ρ1) else g ρ1
def notT (f : Rho → Option (Oe Bool)) : Rho → Option (Oe Bool) := fun ρ => bindO (f ρ) fun b ρ1 => some (.ok (!b) ρ1)
/-- as values -/
def andM (f g : EM) : EM := fun ρ => bindO (f ρ) fun r ρ1 => match r with
  | .dat (.bool true) => g ρ1
  | .dat (.bool false) => some (.ok (.dat (.bool false)) ρ1)
  | _ => none
def orM (f g : EM) : EM := fun ρ => bindO (f ρ) fun r ρ1 => match r with
  | .dat (.bool true) => some (.ok (.dat (.bool true)) ρ1)
  | .dat (.bool false) => g ρ1
  | _ => none
def notM (f : EM) : EM := fun ρ => bindO (f ρ) fun r ρ1 => match r with
  | .dat (.bool b) => some (.ok (.dat (.bool (!b))) ρ1)
  | _ => none
def iteM (c : Rho → Option (Oe Bool)) (f g : EM) : EM := fun ρ => bindO (c ρ) fun b ρ1 => if b = true then f ρ1 else g ρ1
/-- all still -/
def dats : List R → Option (List PyData)
  | [] => some []
  | .dat d :: rs => (dats rs).map (d :: ·)
  | _ => none
def tupM (fa : AM) : EM := fun ρ => bindO (fa ρ) fun rs ρ1 => match dats rs with
  | some ds => if ds.length ≤ 100000 then some (.ok (.dat (.tuple ds)) ρ1) else none
  | none => none
def lstM (fa : AM) : EM := fun ρ => bindO (fa ρ) fun rs ρ1 => match dats rs with
  | some ds => if ds.length ≤ 100000 then some (.ok (.own (.list ds)) ρ1) else none
  | none => none
/-- two comparisons in a row -/
def chM (g g' : PyData → PyData → Option R) (fa fb fc : EM) : EM := fun ρ => bindO (fa ρ) fun r ρ1 => bindO (fb ρ1) fun s ρ2 =>
  match val ρ2 r, val ρ2 s with
  | some d, some e => match g d e with
    | some (.dat (.bool true)) => bindO (fc ρ2) fun t ρ3 => match val ρ3 s, val ρ3 t with
      | some e', some z => (g' e' z).map fun y => .ok y ρ3
      | _, _ => none
    | some (.dat (.bool false)) => some (.ok (.dat (.bool false)) ρ2)
    | _ => none
  | _, _ => none
section
variable {X : Cx} {T : Tb} {W : WX} {a b c : Expr} {fa fb fc : EM} {pos : Pos}
theorem se_nm (i : Nat) {x : Str} (hN : X.N[i]? = some x) (hv : Vis X.env.scope x) (hd : (x == ("__debug__" : Str)) = false := by decide) (hcd : (x == ("__classdict__" : Str)) = false := by decide) : SE X T W (.Name x pos) (nmM i) := by
  refine pe_imp (pe_var hN hv hd hcd) fun σ H Q ⟨ρ, F, O, E, P⟩ => ?_
  unfold nmM at P
  cases q : ρ[i]? with
  | none => rw [q] at P; exact P.elim
  | some o =>
    cases o with
    | none => rw [q] at P; exact P.elim
    | some r =>
      rw [q] at P
      obtain ⟨v, hv, s⟩ := E.at_ i r q
      refine ⟨v, hv, ?_⟩
      cases r with
      | dat d => exact P v H F O .refl E s.2
      | own d => exact P v H F O .refl E hv
      | slt j => exact P.elim
      | fn k => exact P v H F O .refl E s.2
      | st xs => exact P v H F O .refl E hv
      | ex c fs => exact P v H F O .refl E s.2
      | two d e => exact P.elim
      | obj o => exact P v H F O .refl E hv
      | prt i k => exact P.elim
theorem se_const {e : Expr} {v : V} {d : PyData} (h : PE X e (tC v)) (hd : ∀ H F, DF T.K H F v d) : SE X T W e (cM d) :=
  pe_imp h fun σ H Q ⟨ρ, F, O, E, P⟩ => P v H F O .refl E (hd H F)
theorem se_int {i j pos} : SE X T W (.Constant (.int i) j pos) (cM (.int i)) := se_const pe_int fun _ _ => .int i
theorem se_bl {i j pos} : SE X T W (.Constant (.bool i) j pos) (cM (.bool i)) := se_const pe_bl fun _ _ => .bl i
theorem se_non {j pos} : SE X T W (.Constant .none j pos) (cM .none) := se_const pe_non fun _ _ => .non
theorem se_str {i j pos} : SE X T W (.Constant (.str i) j pos) (cM (.str i)) := se_const pe_str fun _ _ => .str i
theorem se_glob {x : Str} {v : V} {u : Value} {d : PyData} (hg : L2.Gl X x) (hm : X.mg x = some u) (r : RelV v u) (hd : ∀ H F, DF T.K H F v d) (hdb : (x == ("__debug__" : Str)) = false := by decide) : SE X T W (.Name x pos) (cM d) :=
  se_const (pe_glob hg hm r hdb) hd
/-- what an operation's rule r does with data -/
def Does2 (T : Tb) (r : R2) (g : PyData → PyData → Option R) : Prop :=
  ∀ (x y : V) (d e : PyData) (z : R) (H : Hp) (F : Reg) (Q : VK), (∀ p, F p → H p ≠ none) → Vw T H F x d → Vw T H F y e → g d e = some z → (∀ v H' F', Gr H F H' F' → ResN T H H' F' v z → Q v H') → r x y H Q
theorem op2 {r : R2} {g : PyData → PyData → Option R} (dr : Does2 T r g) {σ : L2.St} {H : Hp} {Q : VK} (h : Tof T W (tlE T) (op2M g fa fb) σ H Q) : tOp r (Tof T W (tlE T) fa) (Tof T W (tlE T) fb) σ H Q := by
  obtain ⟨ρ, F, O, E, P⟩ := h
  refine stp .refl E P fun v H1 ra ρ1 F1 O1 x1 _ E1 r1 P1 => ?_
  refine stp x1 E1 P1 fun u H2 rb ρ2 F2 O2 x2 y2 E2 r2 P2 => ?_
  have r1' : ResR T H H2 F2 O2 σ v ra := ResR.mono E1 x2 r1
  cases q1 : val ρ2 ra with
  | none => rw [q1] at P2; exact P2.elim
  | some d =>
    cases q2 : val ρ2 rb with
    | none => rw [q1, q2] at P2; exact P2.elim
    | some e =>
      rw [q1, q2] at P2
      dsimp only at P2
      cases q3 : g d e with
      | none => rw [q3] at P2; exact P2.elim
      | some z =>
        rw [q3] at P2
        exact dr v u d e z H2 F2 Q E2.lv (val_vw E2 r1' q1) (val_vw E2 r2 q2) q3 fun w H3 F3 g3 n3 => fin_op y2 E2 P2 g3 n3
theorem se_op {op : Operator} {r : R2} {g : PyData → PyData → Option R} (ho : OpR X (binaryOp op) r) (dr : Does2 T r g) (ha : SE X T W a fa) (hb : SE X T W b fb) : SE X T W (.BinOp a op b pos) (op2M g fa fb) :=
  pe_imp (pe_op ho ha hb) fun _ _ _ h => op2 dr h
theorem se_cmp {op : CmpOp} {r : R2} {g : PyData → PyData → Option R} (ho : OpR X (compareOp op) r) (dr : Does2 T r g) (ha : SE X T W a fa) (hb : SE X T W b fb) (hm : behindInMarks op b = false) : SE X T W (.Compare a [op] [b] pos) (op2M g fa fb) :=
  pe_imp (pe_cmpR ho ha hb hm) fun _ _ _ h => op2 dr h
theorem se_ix {r : R2} {g : PyData → PyData → Option R} (ho : IxR X r) (dr : Does2 T r g) (hs : PlainIx b) (ha : SE X T W a fa) (hb : SE X T W b fb) : SE X T W (.Subscript a b pos) (op2M g fa fb) :=
  pe_imp (pe_ix ho ha hb hs) fun _ _ _ h => op2 dr h
def Does1 (T : Tb) (r : V → Hp → VK → Prop) (g : PyData → Option R) : Prop :=
  ∀ (x : V) (d : PyData) (z : R) (H : Hp) (F : Reg) (Q : VK), (∀ p, F p → H p ≠ none) → Vw T H F x d → g d = some z → (∀ v H' F', Gr H F H' F' → ResN T H H' F' v z → Q v H') → r x H Q
theorem op1 {r : V → Hp → VK → Prop} {g : PyData → Option R} (dr : Does1 T r g) {σ : L2.St} {H : Hp} {Q : VK} (h : Tof T W (tlE T) (op1M g fa) σ H Q) : Tof T W (tlE T) fa σ H fun x H1 => r x H1 Q := by
  obtain ⟨ρ, F, O, E, P⟩ := h
  refine stp .refl E P fun v H1 ra ρ1 F1 O1 x1 y1 E1 r1 P1 => ?_
  cases q1 : val ρ1 ra with
  | none => rw [q1] at P1; exact P1.elim
  | some d =>
    rw [q1] at P1
    dsimp only at P1
    cases q3 : g d with
    | none => rw [q3] at P1; exact P1.elim
    | some z =>
      rw [q3] at P1
      exact dr v d z H1 F1 Q E1.lv (val_vw E1 r1 q1) q3 fun w H3 F3 g3 n3 => fin_op y1 E1 P1 g3 n3
theorem se_un {op : UnaryOp} {r : V → Hp → VK → Prop} {g : PyData → Option R} (ho : UnR X (unaryOp op) r) (dr : Does1 T r g) (ha : SE X T W a fa) : SE X T W (.UnaryOp op a pos) (op1M g fa) :=
  pe_imp (pe_un ho ha) fun _ _ _ h => op1 dr h
theorem sa_nil : SA X T W [] nilA := pa_imp pa_nil fun σ H Q ⟨ρ, F, O, E, P⟩ => P [] H F O .refl E .nil
theorem ResRs.mono {H0 H H' : Hp} {F F' : Reg} {O O' : Ows} {σ : L2.St} {ρ : Rho} (E : EnvR T H F O σ ρ) (x : Ext false H F O H' F' O') : ∀ {vs : List V} {rs : List R}, ResRs T H0 H F O σ vs rs → ResRs T H0 H' F' O' σ vs rs
  | _, _, .nil => .nil
  | _, _, .cons a b => .cons (ResR.mono E x a) (ResRs.mono E x b)
theorem ResRs.back {H0 H1 H : Hp} {F : Reg} {O : Ows} {σ : L2.St} (l : ∀ b, H1 b = none → H0 b = none) : ∀ {vs : List V} {rs : List R}, ResRs T H1 H F O σ vs rs → ResRs T H0 H F O σ vs rs
  | _, _, .nil => .nil
  | _, _, .cons a b => .cons (ResR.back l a) (ResRs.back l b)
/-- a temporary becomes still -/
theorem tmp_ok {B H0 H : Hp} {FB F : Reg} {OB O : Ows} {σ : L2.St} {ρ : Rho} {v : V} (x : Ext false B FB OB H F O) (l : ∀ b, H0 b = none → B b = none) (E : EnvR T H F O σ ρ) {r : R} (h : ResR T H0 H F O σ v r) :
    ∃ F', Ext false B FB OB H F' O ∧ EnvR T H F' O σ ρ ∧ ResR T H0 H F' O σ v (tmp r) := by
  cases r with
  | own d =>
    obtain ⟨a, h1, h2, h3, h4, h5⟩ := h
    have nf : ∀ i b, b ∈ O i → ¬ (F b ∨ b = a) := fun i b q z => z.elim (E.nf i b q) fun y => h4 i (y ▸ q)
    obtain ⟨o, ho, _⟩ := h5.there
    have lv : ∀ b, (F b ∨ b = a) → H b ≠ none := fun b h => h.elim (E.lv b) fun z => by rw [z, ho]; simp
    refine ⟨fun b => F b ∨ b = a, ⟨x.keep, x.live, fun b h => .inl (x.grow b h), fun b h => ?_, x.own⟩, E.grown (fun _ _ h => h) (fun _ h => .inl h) nf lv, ?_⟩
    · rcases h with h | rfl
      · exact x.new b h
      · exact .inr (.inr (l b h2))
    · rw [h1]
      exact OwnAt.df (F := fun b => F b ∨ b = a) (.inr rfl) (h5.mono (fun _ _ h _ => h) (fun _ h => .inl h) fun _ h => h)
  | dat d => exact ⟨F, x, E, h⟩
  | slt i => exact ⟨F, x, E, h⟩
  | fn k => exact ⟨F, x, E, h⟩
  | st xs => exact ⟨F, x, E, h⟩
  | ex c fs => exact ⟨F, x, E, h⟩
  | two d e => exact ⟨F, x, E, h⟩
  | obj o => exact ⟨F, x, E, h⟩
  | prt i k => exact ⟨F, x, E, h⟩
variable {e : Expr} {es : List Expr} {fe : EM} {fr : AM}
theorem sa_cons (he : SE X T W e fe) (hr : SA X T W es fr) (hs : starEach (e :: es) X.env = (false, eval e X.env) :: starEach es X.env := by rfl) : SA X T W (e :: es) (consA fe fr) := by
  refine pa_imp (pa_cons he hr hs) fun σ H Q ⟨ρ, F, O, E, P⟩ => ?_
  refine stp .refl E P fun v H1 ra ρ1 F1 O1 _ y1 E1 r1 P1 => ?_
  obtain ⟨F1', y1', E1', r1'⟩ := tmp_ok y1 (fun _ h => h) E1 r1
  refine stp y1' E1' P1 fun vs H2 rs ρ2 F2 O2 x2 y2 E2 r2 P2 => ?_
  exact P2 _ _ _ _ y2 E2 (.cons (ResR.mono E1' x2 r1') (ResRs.back y1'.live r2))
theorem sd_cons (he : SE X T W e fe) (hr : SA X T W es fr) (hs : starEach (e :: es) X.env = (false, eval e X.env) :: starEach es X.env := by rfl) : SA X T W (e :: es) (consD fe fr) := by
  refine pa_imp (pa_cons he hr hs) fun σ H Q ⟨ρ, F, O, E, P⟩ => ?_
  refine stp .refl E P fun v H1 ra ρ1 F1 O1 _ y1 E1 r1 P1 => ?_
  cases q : frz ρ1 ra with
  | none => rw [q] at P1; exact P1.elim
  | some z =>
    obtain ⟨d, ρ1'⟩ := z
    rw [q] at P1
    obtain ⟨F1', O1', y1', E1', d1, _, _, _⟩ := fz y1 (fun _ h => h) E1 r1 q
    refine stp y1' E1' P1 fun vs H2 rs ρ2 F2 O2 x2 y2 E2 r2 P2 => ?_
    exact P2 _ _ _ _ y2 E2 (.cons (show ResR T H H2 F2 O2 σ v (.dat d) from DF.mono (E1'.kept x2) x2.grow d1) (ResRs.back y1'.live r2))
inductive Vws (T : Tb) (H : Hp) (F : Reg) : List V → List PyData → Prop where
  | nil : Vws T H F [] []
  | cons {v : V} {d : PyData} {vs : List V} {ds : List PyData} : Vw T H F v d → Vws T H F vs ds → Vws T H F (v :: vs) (d :: ds)
theorem vals_vws {H0 H : Hp} {F : Reg} {O : Ows} {σ : L2.St} {ρ : Rho} (E : EnvR T H F O σ ρ) : ∀ {vs : List V} {rs : List R} {ds : List PyData}, ResRs T H0 H F O σ vs rs → vals ρ rs = some ds → Vws T H F vs ds
  | _, _, _, .nil, h => by cases h; exact .nil
  | _, r :: rs, ds, .cons a b, h => by
    unfold vals at h
    cases q1 : val ρ r with
    | none => rw [q1] at h; cases h
    | some d =>
      cases q2 : vals ρ rs with
      | none => rw [q1, q2] at h; cases h
      | some es =>
        rw [q1, q2] at h
        cases h
        exact .cons (val_vw E a q1) (vals_vws E b q2)
def DoesN (T : Tb) (r : List V → Hp → VK → Prop) (g : List PyData → Option R) : Prop :=
  ∀ (xs : List V) (ds : List PyData) (z : R) (H : Hp) (F : Reg) (Q : VK), (∀ p, F p → H p ≠ none) → Vws T H F xs ds → g ds = some z → (∀ v H' F', Gr H F H' F' → ResN T H H' F' v z → Q v H') → r xs H Q
theorem opn {r : List V → Hp → VK → Prop} {g : List PyData → Option R} (dr : DoesN T r g) {f : AM} {σ : L2.St} {H : Hp} {Q : VK} (h : Tof T W (tlE T) (opnM g f) σ H Q) : Tof T W (tlA T) f σ H fun vs H1 => r vs H1 Q := by
  obtain ⟨ρ, F, O, E, P⟩ := h
  refine stp .refl E P fun vs H1 rs ρ1 F1 O1 x1 y1 E1 r1 P1 => ?_
  cases q1 : vals ρ1 rs with
  | none => rw [q1] at P1; exact P1.elim
  | some ds =>
    rw [q1] at P1
    dsimp only at P1
    cases q3 : g ds with
    | none => rw [q3] at P1; exact P1.elim
    | some z =>
      rw [q3] at P1
      exact dr vs ds z H1 F1 Q E1.lv (vals_vws E1 r1 q1) q3 fun w H3 F3 g3 n3 => fin_op y1 E1 P1 g3 n3
/-- a built-in by its name, a built-in class -/
theorem se_callB {x : Str} {id : String} {r : List V → Hp → VK → Prop} {g : List PyData → Option R} {f : AM} {p : Pos} (hc : CallR X (.builtin id) r) (dr : DoesN T r g) (hg : L2.Gl X x) (hm : X.mg x = none) (hv : bootBuiltins x = some (.builtin id)) (ha : SA X T W (e :: es) f)
    (hn : x ≠ "__name__" := by decide) (hdb : (x == ("__debug__" : Str)) = false := by decide) (he : starEach (e :: es) X.env = (false, eval e X.env) :: starEach es X.env := by rfl) (hpl : (backTo pos (starEach es X.env)).any (·.1) = false := by rfl) :
    SE X T W (.Call (.Name x p) (e :: es) [] pos) (opnM g f) := pe_imp (pe_callB hc hg hm hv ha hn hdb he hpl) fun _ _ _ h => opn dr h
theorem se_callTy {x : Str} {id : String} {r : List V → Hp → VK → Prop} {g : List PyData → Option R} {f : AM} {p : Pos} (hc : CallR X (.type id) r) (dr : DoesN T r g) (hg : L2.Gl X x) (hm : X.mg x = none) (hv : bootBuiltins x = some (.type id)) (ha : SA X T W (e :: es) f)
    (hn : x ≠ "__name__" := by decide) (hdb : (x == ("__debug__" : Str)) = false := by decide) (he : starEach (e :: es) X.env = (false, eval e X.env) :: starEach es X.env := by rfl) (hpl : (backTo pos (starEach es X.env)).any (·.1) = false := by rfl) :
    SE X T W (.Call (.Name x p) (e :: es) [] pos) (opnM g f) := pe_imp (pe_callTy hc hg hm hv ha hn hdb he hpl) fun _ _ _ h => opn dr h
theorem dats_dfs {H0 H : Hp} {F : Reg} {O : Ows} {σ : L2.St} : ∀ {vs : List V} {rs : List R} {ds : List PyData}, ResRs T H0 H F O σ vs rs → dats rs = some ds → DFs T.K H F vs ds
  | _, _, _, .nil, h => by cases h; exact .nil
  | _, .dat d :: rs, ds, .cons a b, h => by
    have h' : (dats rs).map (d :: ·) = some ds := h
    cases q : dats rs with
    | none => rw [q] at h'; cases h'
    | some es => rw [q] at h'; cases h'; exact .cons a (dats_dfs b q)
theorem sz5 {n : Nat} (h : n ≤ 100000) : n ≤ sizeLine := Nat.le_trans h (by decide)
theorem se_tup {f : AM} {k : Nat} (h : SA X T W es f) : SE X T W (.Tuple es k pos) (tupM f) := by
  refine pe_imp (pe_tup h) fun σ H Q ⟨ρ, F, O, E, P⟩ => ?_
  refine stp .refl E P fun vs H1 rs ρ1 F1 O1 x1 y1 E1 r1 P1 => ?_
  cases q1 : dats rs with
  | none => rw [q1] at P1; exact P1.elim
  | some ds =>
    rw [q1] at P1
    dsimp only at P1
    have s := dats_dfs r1 q1
    split at P1
    · rename_i hz
      refine ⟨by rw [s.length]; exact sz5 hz, fun p hp => ?_⟩
      exact fin_op y1 E1 P1 (.laid hp) (resN_tup hp s)
    · exact P1.elim
theorem se_lst {f : AM} (h : SA X T W es f) : SE X T W (.List es pos) (lstM f) := by
  refine pe_imp (pe_lst h) fun σ H Q ⟨ρ, F, O, E, P⟩ => ?_
  refine stp .refl E P fun vs H1 rs ρ1 F1 O1 x1 y1 E1 r1 P1 => ?_
  cases q1 : dats rs with
  | none => rw [q1] at P1; exact P1.elim
  | some ds =>
    rw [q1] at P1
    dsimp only at P1
    have s := dats_dfs r1 q1
    split at P1
    · rename_i hz
      refine ⟨by rw [s.length]; exact sz5 hz, fun p hp => ?_⟩
      exact fin_op y1 E1 P1 (.laid hp) (resN_lst hp (fun q => E1.lv p q hp) s)
    · exact P1.elim
theorem ts_of {f : EM} {σ : L2.St} {H : Hp} {Q : Bool → Hp → Prop} (h : Tof T W tlB (tsM f) σ H Q) : Tof T W (tlE T) f σ H fun x H1 => ∃ k, x = .bl k ∧ Q k H1 := by
  obtain ⟨ρ, F, O, E, P⟩ := h
  refine stp .refl E P fun v H1 ra ρ1 F1 O1 x1 y1 E1 r1 P1 => ?_
  cases ra with
  | dat d =>
    cases d with
    | bool b =>
      have e : v = .bl b := by cases (show DF T.K H1 F1 v (.bool b) from r1); rfl
      exact ⟨b, e, P1 b H1 F1 O1 y1 E1 rfl⟩
    | none => exact P1.elim
    | int i => exact P1.elim
    | str x => exact P1.elim
    | list xs => exact P1.elim
    | tuple xs => exact P1.elim
    | dict xs => exact P1.elim
  | own d => exact P1.elim
  | slt i => exact P1.elim
  | fn k => exact P1.elim
  | st xs => exact P1.elim
  | ex c fs => exact P1.elim
  | two d e => exact P1.elim
  | obj o => exact P1.elim
  | prt i k => exact P1.elim
variable {ta tb : Rho → Option (Oe Bool)}
theorem st_val {f : EM} (h : SE X T W e f) (he : ∀ whole, isTrue e X.env whole = (do let v ← whole; standAt e.pos; holding [v] (truthy v)) := by intro _; rfl) : ST X T W e (tsM f) :=
  pt_imp (pt_val h he) fun _ _ _ h => ts_of h
theorem st_cmp {op : CmpOp} {r : R2} {g : PyData → PyData → Option R} (ho : OpR X (compareOp op) r) (dr : Does2 T r g) (ha : SE X T W a fa) (hb : SE X T W b fb) (hm : behindInMarks op b = false) : ST X T W (.Compare a [op] [b] pos) (tsM (op2M g fa fb)) :=
  pt_imp (pt_cmpR ho ha hb hm) fun _ _ _ h => op2 dr (ts_of h)
def SW (X : Cx) (T : Tb) (W : WX) (e : Expr) (f : Rho → Option (Oe Bool)) : Prop := PW X e (Tof T W tlB f)
theorem pw_imp {X : Cx} {e : Expr} {t t' : TT} (h : PW X e t) (i : ∀ σ H Q, t' σ H Q → t σ H Q) : PW X e t' := ⟨fun whole pins s σ H Q I q => h.run whole pins s σ H Q I (i σ H Q q)⟩
theorem st_w {f : Rho → Option (Oe Bool)} (h : SW X T W e f) : ST X T W e f := PW.pt h
theorem sw_and1 (h : ST X T W a ta) : SW X T W (.BoolOp .And [a] pos) ta := pw_and1 h
theorem sw_or1 (h : ST X T W a ta) : SW X T W (.BoolOp .Or [a] pos) ta := pw_or1 h
theorem and_of {f g : Rho → Option (Oe Bool)} {σ : L2.St} {H : Hp} {Q : Bool → Hp → Prop} (h : Tof T W tlB (andT f g) σ H Q) : tAnd (Tof T W tlB f) (Tof T W tlB g) σ H Q := by
  obtain ⟨ρ, F, O, E, P⟩ := h
  refine stp .refl E P fun v H1 b ρ1 F1 O1 x1 y1 E1 r1 P1 => ?_
  have r1' : v = b := r1
  subst r1'
  cases v with
  | true =>
    rw [if_pos rfl] at P1 ⊢
    refine ⟨ρ1, F1, O1, E1, ?_⟩
    cases q : g ρ1 with
    | none => rw [q] at P1; exact P1
    | some o =>
      rw [q] at P1
      cases o with
      | ok c ρ2 => exact fun w H2 F2 O2 x2 E2 r2 => P1 w H2 F2 O2 (y1.trans x2) E2 r2
      | er c fs ρ2 => exact fun w d H2 F2 O2 x2 E2 r2 => P1 w d H2 F2 O2 (y1.trans x2) E2 r2
  | false =>
    rw [if_neg Bool.false_ne_true] at P1 ⊢
    exact P1 false H1 F1 O1 y1 E1 rfl
theorem or_of {f g : Rho → Option (Oe Bool)} {σ : L2.St} {H : Hp} {Q : Bool → Hp → Prop} (h : Tof T W tlB (orT f g) σ H Q) : tOr (Tof T W tlB f) (Tof T W tlB g) σ H Q := by
  obtain ⟨ρ, F, O, E, P⟩ := h
  refine stp .refl E P fun v H1 b ρ1 F1 O1 x1 y1 E1 r1 P1 => ?_
  have r1' : v = b := r1
  subst r1'
  cases v with
  | false =>
    rw [if_neg Bool.false_ne_true] at P1 ⊢
    refine ⟨ρ1, F1, O1, E1, ?_⟩
    cases q : g ρ1 with
    | none => rw [q] at P1; exact P1
    | some o =>
      rw [q] at P1
      cases o with
      | ok c ρ2 => exact fun w H2 F2 O2 x2 E2 r2 => P1 w H2 F2 O2 (y1.trans x2) E2 r2
      | er c fs ρ2 => exact fun w d H2 F2 O2 x2 E2 r2 => P1 w d H2 F2 O2 (y1.trans x2) E2 r2
  | true =>
    rw [if_pos rfl] at P1 ⊢
    exact P1 true H1 F1 O1 y1 E1 rfl
variable {rest : List Expr}
theorem sw_and (ha : ST X T W a ta) (hb : SW X T W (.BoolOp .And (b :: rest) pos) tb) : SW X T W (.BoolOp .And (a :: b :: rest) pos) (andT ta tb) := pw_imp (pw_and ha hb) fun _ _ _ h => and_of h
theorem sw_or (ha : ST X T W a ta) (hb : SW X T W (.BoolOp .Or (b :: rest) pos) tb) : SW X T W (.BoolOp .Or (a :: b :: rest) pos) (orT ta tb) := pw_imp (pw_or ha hb) fun _ _ _ h => or_of h
theorem st_not (ha : ST X T W a ta) : ST X T W (.UnaryOp .Not a pos) (notT ta) := by
  refine pt_imp (pt_not ha) fun σ H Q ⟨ρ, F, O, E, P⟩ => ?_
  refine stp .refl E P fun v H1 b ρ1 F1 O1 x1 y1 E1 r1 P1 => ?_
  have r1' : v = b := r1
  subst r1'
  exact P1 _ H1 F1 O1 y1 E1 rfl
/-- the rest of a piece from the state where it stands -/
theorem rst {α β : Type} {Ra : Tell α β} {B H : Hp} {FB F : Reg} {OB O : Ows} {σ : L2.St} {ρ : Rho} {f : Rho → Option (Oe α)} {Q : β → Hp → Prop}
    (bk : ∀ H' F' O' v a, Ra σ H H' F' O' v a → Ra σ B H' F' O' v a) (x : Ext false B FB OB H F O) (E : EnvR T H F O σ ρ) (P : Post T W Ra σ B FB OB Q (f ρ)) : Tof T W Ra f σ H Q := by
  refine ⟨ρ, F, O, E, ?_⟩
  cases q : f ρ with
  | none => rw [q] at P; exact P
  | some o =>
    rw [q] at P
    cases o with
    | ok c ρ2 => exact fun w H2 F2 O2 x2 E2 r2 => P w H2 F2 O2 (x.trans x2) E2 (bk _ _ _ _ _ r2)
    | er c fs ρ2 => exact fun w d H2 F2 O2 x2 E2 r2 => P w d H2 F2 O2 (x.trans x2) E2 r2
theorem rstE {B H : Hp} {FB F : Reg} {OB O : Ows} {σ : L2.St} {ρ : Rho} {f : EM} {Q : VK} (x : Ext false B FB OB H F O) (E : EnvR T H F O σ ρ) (P : Post T W (tlE T) σ B FB OB Q (f ρ)) : Tof T W (tlE T) f σ H Q :=
  rst (fun _ _ _ _ _ h => ResR.back x.live h) x E P
theorem bl_of {H : Hp} {F : Reg} {v : V} {b : Bool} (h : DF T.K H F v (.bool b)) : v = .bl b := by cases h; rfl
theorem se_one {op : BoolOp} (h : SE X T W a fa) : SE X T W (.BoolOp op [a] pos) fa := pe_one h
theorem se_and (ha : SE X T W a fa) (hb : SE X T W (.BoolOp .And (b :: rest) pos) fb) : SE X T W (.BoolOp .And (a :: b :: rest) pos) (andM fa fb) := by
  refine pe_imp (pe_and ha hb) fun σ H Q ⟨ρ, F, O, E, P⟩ => ?_
  refine stp .refl E P fun v H1 r ρ1 F1 O1 x1 y1 E1 r1 P1 => ?_
  split at P1
  · refine ⟨true, bl_of r1, ?_⟩
    rw [if_pos rfl]
    exact rstE y1 E1 P1
  · refine ⟨false, bl_of r1, ?_⟩
    rw [if_neg Bool.false_ne_true]
    exact P1 _ H1 F1 O1 y1 E1 (.bl _)
  · exact P1.elim
theorem se_not (ha : SE X T W a fa) : SE X T W (.UnaryOp .Not a pos) (notM fa) := by
  refine pe_imp (pe_not ha) fun σ H Q ⟨ρ, F, O, E, P⟩ => ?_
  refine stp .refl E P fun v H1 r ρ1 F1 O1 x1 y1 E1 r1 P1 => ?_
  split at P1
  · exact ⟨_, bl_of r1, P1 _ H1 F1 O1 y1 E1 (.bl _)⟩
  · exact P1.elim
theorem ch_of {r r' : R2} {g g' : PyData → PyData → Option R} (dr : Does2 T r g) (dr' : Does2 T r' g') {σ : L2.St} {H : Hp} {Q : VK} (h : Tof T W (tlE T) (chM g g' fa fb fc) σ H Q) :
    tChain r r' (Tof T W (tlE T) fa) (Tof T W (tlE T) fb) (Tof T W (tlE T) fc) σ H Q := by
  obtain ⟨ρ, F, O, E, P⟩ := h
  refine stp .refl E P fun v H1 ra ρ1 F1 O1 x1 _ E1 r1 P1 => ?_
  refine stp x1 E1 P1 fun u H2 rb ρ2 F2 O2 x2 y2 E2 r2 P2 => ?_
  have r1' : ResR T H H2 F2 O2 σ v ra := ResR.mono E1 x2 r1
  cases q1 : val ρ2 ra with
  | none => rw [q1] at P2; exact P2.elim
  | some d =>
    cases q2 : val ρ2 rb with
    | none => rw [q1, q2] at P2; exact P2.elim
    | some e =>
      rw [q1, q2] at P2
      dsimp only at P2
      split at P2
      · rename_i q3
        refine dr v u d e _ H2 F2 _ E2.lv (val_vw E2 r1' q1) (val_vw E2 r2 q2) q3 fun w H3 F3 g3 n3 => ⟨true, bl_of n3, ?_⟩
        rw [if_pos rfl]
        have y3 := y2.trans (g3.ext (s := false) (O := O2))
        have E3 := E2.gr g3
        have r3 : ResR T H1 H3 F3 O2 σ u rb := ResR.mono E2 (g3.ext (s := false)) r2
        refine stp y3 E3 P2 fun w4 H4 rc ρ4 F4 O4 x4 y4 E4 r4 P4 => ?_
        have r5 : ResR T H1 H4 F4 O4 σ u rb := ResR.mono E3 x4 r3
        cases q4 : val ρ4 rb with
        | none => rw [q4] at P4; exact P4.elim
        | some e' =>
          cases q5 : val ρ4 rc with
          | none => rw [q4, q5] at P4; exact P4.elim
          | some z =>
            rw [q4, q5] at P4
            dsimp only at P4
            cases q6 : g' e' z with
            | none => rw [q6] at P4; exact P4.elim
            | some y =>
              rw [q6] at P4
              exact dr' u w4 e' z y H4 F4 Q E4.lv (val_vw E4 r5 q4) (val_vw E4 r4 q5) q6 fun w H5 F5 g5 n5 => fin_op y4 E4 P4 g5 n5
      · rename_i q3
        refine dr v u d e _ H2 F2 _ E2.lv (val_vw E2 r1' q1) (val_vw E2 r2 q2) q3 fun w H3 F3 g3 n3 => ⟨false, bl_of n3, ?_⟩
        rw [if_neg Bool.false_ne_true]
        exact P2 _ H3 F3 O2 (y2.trans g3.ext) (E2.gr g3) (.bl _)
      · exact P2.elim
theorem se_ch {op op' : CmpOp} {r r' : R2} {g g' : PyData → PyData → Option R} (ho : OpR X (compareOp op) r) (ho' : OpR X (compareOp op') r') (dr : Does2 T r g) (dr' : Does2 T r' g') (ha : SE X T W a fa) (hb : SE X T W b fb) (hc : SE X T W c fc)
    (hm : lastMarks [op, op'] [b, c] = false := by with_unfolding_all rfl) : SE X T W (.Compare a [op, op'] [b, c] pos) (chM g g' fa fb fc) := pe_imp (pe_chain ho ho' ha hb hc hm) fun _ _ _ h => ch_of dr dr' h
theorem st_ch {op op' : CmpOp} {r r' : R2} {g g' : PyData → PyData → Option R} (ho : OpR X (compareOp op) r) (ho' : OpR X (compareOp op') r') (dr : Does2 T r g) (dr' : Does2 T r' g') (ha : SE X T W a fa) (hb : SE X T W b fb) (hc : SE X T W c fc)
    (hm : lastMarks [op, op'] [b, c] = false := by with_unfolding_all rfl) : ST X T W (.Compare a [op, op'] [b, c] pos) (tsM (chM g g' fa fb fc)) := pt_imp (pt_chain ho ho' ha hb hc hm) fun _ _ _ h => ch_of dr dr' (ts_of h)
theorem se_ite (hc : ST X T W c ta) (ha : SE X T W a fa) (hb : SE X T W b fb) : SE X T W (.IfExp c a b pos) (iteM ta fa fb) := by
  refine pe_imp (pe_ifExp hc ha hb) fun σ H Q ⟨ρ, F, O, E, P⟩ => ?_
  refine stp .refl E P fun v H1 b ρ1 F1 O1 x1 y1 E1 r1 P1 => ?_
  have r1' : v = b := r1
  subst r1'
  cases v with
  | true => rw [if_pos rfl] at P1 ⊢; exact rstE y1 E1 P1
  | false => rw [if_neg Bool.false_ne_true] at P1 ⊢; exact rstE y1 E1 P1
end
end DL
namespace DL
open PySem L2
section
variable {X : Cx} {pins : List (Addr × Obj)} {σ : L2.St} {H : Hp} {s : Shared} {a : Addr} {xs : List V}
theorem isL_of (I : L2.Inv X pins σ H s) (h : LsR X.K H a xs) : ∃ its n, Vals xs its ∧ IsL s.heap a its.toArray n ∧ xs.length ≤ sizeLine := by
  rcases h with (h | ⟨o, h⟩) | ⟨its, n, h1, h2, h3, _⟩
  · obtain ⟨z, its, n, r, e⟩ := I.hok a _ h
    exact ⟨its, n, r, e, z⟩
  · obtain ⟨_, z, its, n, r, e⟩ := I.hok a _ h
    exact ⟨its, n, r, e, z⟩
  · refine ⟨its.toList, n, h3, ?_, ?_⟩
    · have q := I.kIn a _ h1
      simpa using q
    · rw [h3.length]
      simpa using h2
end
/-- + -/
def rPlus (K : PySem.W.Frag) : R2 := fun x y H Q => (∃ i j, x = .int i ∧ y = .int j ∧ Q (.int (i + j)) H) ∨
  (∃ i j, x = .str i ∧ y = .str j ∧ i.length + j.length ≤ sizeLine ∧ Q (.str (i ++ j)) H) ∨
  (∃ l b xs zs, x = .ref l ∧ y = .ref b ∧ LsR K H l xs ∧ LsR K H b zs ∧ xs.length + zs.length ≤ sizeLine ∧ ∀ p, H p = none → Q (.ref p) (upd H p (.lst (xs ++ zs)))) ∨ rCatA K x y H Q
theorem op_plusL {X : Cx} : OpR X (binaryOp .Add) (fun x y H Q => ∃ l b xs zs, x = .ref l ∧ y = .ref b ∧ LsR X.K H l xs ∧ LsR X.K H b zs ∧ xs.length + zs.length ≤ sizeLine ∧ ∀ p, H p = none → Q (.ref p) (upd H p (.lst (xs ++ zs)))) := by
  intro pins s σ H x y v u Q I rx ry h
  obtain ⟨l, b, xs, zs, rfl, rfl, h1, h2, hz, q⟩ := h
  cases rx
  cases ry
  obtain ⟨i1, n1, r1, e1, _⟩ := isL_of I h1
  obtain ⟨i2, n2, r2, e2, _⟩ := isL_of I h2
  have l1 := r1.length
  have l2 := r2.length
  refine PySem.P.add_list e1 e2 ?_ (by simp only [List.size_toArray]; omega)
  rw [show i1.toArray ++ i2.toArray = (i1 ++ i2).toArray by simp]
  exact ⟨.ref _, _, I.lnew (t' := s.toks) (r1.append r2) (by rw [List.length_append]; exact hz), rfl, q _ I.fresh⟩
theorem op_plus {X : Cx} : OpR X (binaryOp .Add) (rPlus X.K) := op_add.or (op_add_str.or (op_plusL.or op_catA))
def CFd (_ j : Int) : Prop := j ≠ 0 ∧ j.natAbs.log2 < 9000
theorem op_fd {X : Cx} : OpR X (binaryOp .FloorDiv) (rI CFd fun i j => .int (i.fdiv j)) := opI fun _ _ _ _ _ _ _ hc q => PyProof.Rows.floordiv_int hc.1 q (.inl (PyProof.noPylong_of_log2 hc.2))
/-- lengths are kept within a bound that every heap bears -/
abbrev lim : Nat := 100000
def dPlus : PyData → PyData → Option R
  | .int i, .int j => some (.dat (.int (i + j)))
  | .str i, .str j => if i.length + j.length ≤ lim then some (.dat (.str (i ++ j))) else none
  | .list xs, .list ys => if xs.length + ys.length ≤ lim then some (.own (.list (xs ++ ys))) else none
  | .tuple xs, .tuple ys => if xs.length + ys.length ≤ lim then some (.dat (.tuple (xs ++ ys))) else none
  | _, _ => none
def dMinus : PyData → PyData → Option R
  | .int i, .int j => some (.dat (.int (i - j)))
  | _, _ => none
def dMul : PyData → PyData → Option R
  | .int i, .int j => if i.natAbs.log2 + j.natAbs.log2 < 1000000 then some (.dat (.int (i * j))) else none
  | .tuple xs, .int k => if xs ≠ [] ∧ 2 ≤ k ∧ k ≤ 1000 ∧ xs.length ≤ 1000 then some (.dat (.tuple (List.replicate k.toNat xs).flatten)) else none
  | _, _ => none
def dFd : PyData → PyData → Option R
  | .int i, .int j => if j ≠ 0 ∧ j.natAbs.log2 < 9000 then some (.dat (.int (i.fdiv j))) else none
  | _, _ => none
def dMod : PyData → PyData → Option R
  | .int i, .int j => if j ≠ 0 then some (.dat (.int (i.fmod j))) else none
  | _, _ => none
def dPow : PyData → PyData → Option R
  | .int i, .int j => if 0 ≤ j ∧ j ≤ 1000000 ∧ i.natAbs < 2 ^ 64 then some (.dat (.int (i ^ j.toNat))) else none
  | _, _ => none
def dNeg : PyData → Option R
  | .int i => some (.dat (.int (-i)))
  | _ => none
def dLt : PyData → PyData → Option R
  | .int i, .int j => some (.dat (.bool (decide (i < j))))
  | _, _ => none
def dLe : PyData → PyData → Option R
  | .int i, .int j => some (.dat (.bool (decide (i ≤ j))))
  | _, _ => none
def dGt : PyData → PyData → Option R
  | .int i, .int j => some (.dat (.bool (decide (j < i))))
  | _, _ => none
def dGe : PyData → PyData → Option R
  | .int i, .int j => some (.dat (.bool (decide (j ≤ i))))
  | _, _ => none
def dEq : PyData → PyData → Option R
  | .str i, .str j => some (.dat (.bool (decide (i = j))))
  | d, e => if SeqAt.shaped d = true ∧ SeqAt.shaped e = true then some (.dat (.bool (PyData.eqv d e))) else none
def dNe : PyData → PyData → Option R
  | .str i, .str j => some (.dat (.bool (!decide (i = j))))
  | d, e => if SeqAt.shaped d = true ∧ SeqAt.shaped e = true then some (.dat (.bool (!PyData.eqv d e))) else none
/-- x is None -/
def isNone : PyData → Bool
  | .none => true
  | _ => false
def dIsN (d e : PyData) : Option R := match e with
  | .none => some (.dat (.bool (isNone d)))
  | _ => none
def dNotN (d e : PyData) : Option R := match e with
  | .none => some (.dat (.bool (!isNone d)))
  | _ => none
def dIx : PyData → PyData → Option R
  | .list xs, .int i => (atI xs i).map R.dat
  | .tuple xs, .int i => (atI xs i).map R.dat
  | .str x, .int i => if x.length ≤ lim then (atI x.cps.toList i).map fun c => R.dat (.str ⟨#[c]⟩) else none
  | _, _ => none
section
variable {T : Tb} {H : Hp} {F : Reg}
theorem lm {n : Nat} (h : n ≤ lim) : n ≤ sizeLine := Nat.le_trans h (by decide)
theorem does_plus : Does2 T (rPlus T.K) dPlus := by
  intro x y d e z H F Q lv hx hy hg hq
  unfold dPlus at hg
  split at hg
  · cases hg
    exact .inl ⟨_, _, hx.int, hy.int, hq _ H F .refl (.int _)⟩
  · split at hg
    · rename_i hz
      cases hg
      exact .inr (.inl ⟨_, _, hx.str, hy.str, lm hz, hq _ H F .refl (.str _)⟩)
    · cases hg
  · split at hg
    · rename_i hz
      cases hg
      obtain ⟨a, vs, rfl, h1, s1⟩ := hx.lst
      obtain ⟨b, us, rfl, h2, s2⟩ := hy.lst
      refine .inr (.inr (.inl ⟨a, b, vs, us, rfl, rfl, h1, h2, by rw [s1.length, s2.length]; exact lm hz, fun p hp => hq _ _ F (.laid hp) (resN_lst hp (fun q => lv p q hp) (s1.append s2))⟩))
    · cases hg
  · split at hg
    · rename_i hz
      cases hg
      obtain ⟨a, vs, rfl, h1, s1⟩ := hx.tup
      obtain ⟨b, us, rfl, h2, s2⟩ := hy.tup
      refine .inr (.inr (.inr ⟨a, b, vs, us, rfl, rfl, h1, h2, by rw [s1.length, s2.length]; exact lm hz, fun e => ?_, fun _ e => ?_, fun _ _ p hp => hq _ _ F (.laid hp) (resN_tup hp (s1.append s2))⟩))
      · subst e
        cases s1
        exact hq _ H F .refl (.tup h2 s2)
      · subst e
        cases s2
        rw [List.append_nil] at hq
        exact hq _ H F .refl (.tup h1 s1)
    · cases hg
  · cases hg
theorem does_minus : Does2 T (rI0 fun i j => .int (i - j)) dMinus := by
  intro x y d e z H F Q lv hx hy hg hq
  unfold dMinus at hg
  split at hg
  · cases hg
    exact ⟨_, _, hx.int, hy.int, hq _ H F .refl (.int _)⟩
  · cases hg
def rMulX (K : PySem.W.Frag) : R2 := fun x y H Q => rI CMulW (fun i j => .int (i * j)) x y H Q ∨ rRepT K x y H Q
theorem op_mulX {X : Cx} : OpR X (binaryOp .Mult) (rMulX X.K) := op_mulW.or op_repT
theorem DFs.rep {vs : List V} {ds : List PyData} (h : DFs T.K H F vs ds) : ∀ n : Nat, DFs T.K H F (List.replicate n vs).flatten (List.replicate n ds).flatten
  | 0 => .nil
  | n + 1 => by
    rw [List.replicate_succ, List.replicate_succ, List.flatten_cons, List.flatten_cons]
    exact h.append (DFs.rep h n)
theorem does_mul : Does2 T (rMulX T.K) dMul := by
  intro x y d e z H F Q lv hx hy hg hq
  unfold dMul at hg
  split at hg
  · split at hg
    · rename_i hz
      cases hg
      exact .inl ⟨_, _, hx.int, hy.int, hz, hq _ H F .refl (.int _)⟩
    · cases hg
  · split at hg
    · rename_i hz
      cases hg
      obtain ⟨a, vs, rfl, h1, s1⟩ := hx.tup
      refine .inr ⟨a, _, vs, rfl, hy.int, h1, fun e => ?_, hz.2.1, hz.2.2.1, by rw [s1.length]; exact hz.2.2.2, fun p hp => hq _ _ F (.laid hp) (resN_tup hp (s1.rep _))⟩
      subst e
      cases s1
      exact hz.1 rfl
    · cases hg
  · cases hg
theorem does_fd : Does2 T (rI CFd fun i j => .int (i.fdiv j)) dFd := by
  intro x y d e z H F Q lv hx hy hg hq
  unfold dFd at hg
  split at hg
  · split at hg
    · rename_i hz
      cases hg
      exact ⟨_, _, hx.int, hy.int, hz, hq _ H F .refl (.int _)⟩
    · cases hg
  · cases hg
theorem does_mod : Does2 T (rI (fun _ j => j ≠ 0) fun i j => .int (i.fmod j)) dMod := by
  intro x y d e z H F Q lv hx hy hg hq
  unfold dMod at hg
  split at hg
  · split at hg
    · rename_i hz
      cases hg
      exact ⟨_, _, hx.int, hy.int, hz, hq _ H F .refl (.int _)⟩
    · cases hg
  · cases hg
theorem does_pow : Does2 T (rI CPow fun i j => .int (i ^ j.toNat)) dPow := by
  intro x y d e z H F Q lv hx hy hg hq
  unfold dPow at hg
  split at hg
  · split at hg
    · rename_i hz
      cases hg
      exact ⟨_, _, hx.int, hy.int, hz, hq _ H F .refl (.int _)⟩
    · cases hg
  · cases hg
theorem does_neg : Does1 T (rU fun i => .int (-i)) dNeg := by
  intro x d z H F Q lv hx hg hq
  unfold dNeg at hg
  split at hg
  · cases hg
    exact ⟨_, hx.int, hq _ H F .refl (.int _)⟩
  · cases hg
theorem does_lt : Does2 T (rI0 fun i j => .bl (decide (i < j))) dLt := by
  intro x y d e z H F Q lv hx hy hg hq
  unfold dLt at hg
  split at hg
  · cases hg
    exact ⟨_, _, hx.int, hy.int, hq _ H F .refl (.bl _)⟩
  · cases hg
theorem does_le : Does2 T (rI0 fun i j => .bl (decide (i ≤ j))) dLe := by
  intro x y d e z H F Q lv hx hy hg hq
  unfold dLe at hg
  split at hg
  · cases hg
    exact ⟨_, _, hx.int, hy.int, hq _ H F .refl (.bl _)⟩
  · cases hg
theorem does_gt : Does2 T (rI0 fun i j => .bl (decide (j < i))) dGt := by
  intro x y d e z H F Q lv hx hy hg hq
  unfold dGt at hg
  split at hg
  · cases hg
    exact ⟨_, _, hx.int, hy.int, hq _ H F .refl (.bl _)⟩
  · cases hg
theorem does_ge : Does2 T (rI0 fun i j => .bl (decide (j ≤ i))) dGe := by
  intro x y d e z H F Q lv hx hy hg hq
  unfold dGe at hg
  split at hg
  · cases hg
    exact ⟨_, _, hx.int, hy.int, hq _ H F .refl (.bl _)⟩
  · cases hg
mutual
theorem DF.dp : ∀ {v : V} {d : PyData}, DF T.K H F v d → d.canLay0 = true → L2.Dp T.K H v d
  | _, _, .non, _ => .non
  | _, _, .bl b, _ => .bl b
  | _, _, .int i, _ => .int i
  | _, _, .str x, _ => .str x
  | _, _, .lst f r s, h => .lst (.inl r) (DFs.dp s (by simpa [PyData.canLay0] using h))
  | _, _, .lstK r s, h => .lst (LsR.sq (.inr r)) (DFs.dp s (by simpa [PyData.canLay0] using h))
  | _, _, .tup r s, h => .tup r (DFs.dp s (by simpa [PyData.canLay0] using h))
  | _, _, .dct f r s, h => by simp [PyData.canLay0] at h
  | _, _, .dcT f r e s, h => by simp [PyData.canLay0] at h
theorem DFs.dp : ∀ {vs : List V} {ds : List PyData}, DFs T.K H F vs ds → PyData.canLayAll0 ds = true → L2.DpAll T.K H vs ds
  | _, _, .nil, _ => .nil
  | _, _, .cons a b, h => by
    have h' := h
    simp only [PyData.canLayAll0, Bool.and_eq_true] at h'
    exact .cons (DF.dp a h'.1) (DFs.dp b h'.2)
end
theorem Vw.dp {v : V} {d : PyData} (h : Vw T H F v d) (hs : SeqAt.shaped d = true) : L2.Dp T.K H v d := by
  have hc : d.canLay0 = true := by
    unfold SeqAt.shaped at hs
    simp only [Bool.and_eq_true] at hs
    exact hs.1
  rcases h with h | ⟨a, rfl, h⟩
  · exact h.dp hc
  · cases d with
    | list ds =>
      obtain ⟨vs, e, s⟩ := h
      exact .lst (.inl (.inl e)) (s.dp (by simpa [PyData.canLay0] using hc))
    | dict ds => simp [PyData.canLay0] at hc
    | none => exact h.elim
    | bool b => exact h.elim
    | int i => exact h.elim
    | str x => exact h.elim
    | tuple xs => exact h.elim
theorem does_eq : Does2 T (fun x y H Q => rEq x y H Q ∨ rEqD T.K x y H Q) dEq := by
  intro x y d e z H F Q lv hx hy hg hq
  unfold dEq at hg
  split at hg
  · cases hg
    have ex := hx.str
    have ey := hy.str
    subst ex ey
    refine .inl ⟨rfl, ?_⟩
    have := hq _ H F .refl (.bl _)
    simpa using this
  · split at hg
    · rename_i hz
      cases hg
      exact .inr ⟨_, _, hx.dp hz.1, hy.dp hz.2, hz.1, hz.2, hq _ H F .refl (.bl _)⟩
    · cases hg
theorem does_ne : Does2 T (fun x y H Q => rNe x y H Q ∨ rNeD T.K x y H Q) dNe := by
  intro x y d e z H F Q lv hx hy hg hq
  unfold dNe at hg
  split at hg
  · cases hg
    have ex := hx.str
    have ey := hy.str
    subst ex ey
    refine .inl ⟨rfl, ?_⟩
    have := hq _ H F .refl (.bl _)
    simpa using this
  · split at hg
    · rename_i hz
      cases hg
      exact .inr ⟨_, _, hx.dp hz.1, hy.dp hz.2, hz.1, hz.2, hq _ H F .refl (.bl _)⟩
    · cases hg
theorem Vw.isNone {v : V} {d : PyData} (h : Vw T H F v d) : decide (v = .non) = DL.isNone d := by
  rcases h with h | ⟨a, rfl, h⟩
  · cases h <;> simp [DL.isNone]
  · cases d with
    | list ds => simp [DL.isNone]
    | dict ds => simp [DL.isNone]
    | none => exact h.elim
    | bool b => exact h.elim
    | int i => exact h.elim
    | str x => exact h.elim
    | tuple xs => exact h.elim
theorem does_isN : Does2 T (fun x y H Q => y = .non ∧ Q (.bl (decide (x = .non))) H) dIsN := by
  intro x y d e z H F Q lv hx hy hg hq
  unfold dIsN at hg
  split at hg
  · cases hg
    refine ⟨hy.non, ?_⟩
    rw [hx.isNone]
    exact hq _ H F .refl (.bl _)
  · cases hg
theorem does_notN : Does2 T (fun x y H Q => y = .non ∧ Q (.bl (!decide (x = .non))) H) dNotN := by
  intro x y d e z H F Q lv hx hy hg hq
  unfold dNotN at hg
  split at hg
  · cases hg
    refine ⟨hy.non, ?_⟩
    rw [hx.isNone]
    exact hq _ H F .refl (.bl _)
  · cases hg
theorem atI_dfs {vs : List V} {ds : List PyData} {i : Int} {d : PyData} (s : DFs T.K H F vs ds) (h : atI ds i = some d) : ∃ v, atI vs i = some v ∧ DF T.K H F v d := by
  unfold atI at h ⊢
  rw [s.length]
  cases q : ixN ds.length i with
  | none => rw [q] at h; cases h
  | some j =>
    rw [q] at h
    exact s.get (show ds[j]? = some d from h)
theorem does_ix : Does2 T (rIx T.K) dIx := by
  intro x y d e z H F Q lv hx hy hg hq
  unfold dIx at hg
  split at hg
  · obtain ⟨a, vs, rfl, h1, s1⟩ := hx.lst
    obtain ⟨d', e1, e2⟩ := Option.map_eq_some_iff.mp hg
    subst e2
    obtain ⟨v, e3, h3⟩ := atI_dfs s1 e1
    exact .inl ⟨a, vs, _, v, rfl, hy.int, h1.sq, e3, hq _ H F .refl h3⟩
  · obtain ⟨a, vs, rfl, h1, s1⟩ := hx.tup
    obtain ⟨d', e1, e2⟩ := Option.map_eq_some_iff.mp hg
    subst e2
    obtain ⟨v, e3, h3⟩ := atI_dfs s1 e1
    exact .inr (.inl ⟨a, vs, _, v, rfl, hy.int, h1, e3, hq _ H F .refl h3⟩)
  · split at hg
    · rename_i hz
      obtain ⟨c, e1, e2⟩ := Option.map_eq_some_iff.mp hg
      subst e2
      exact .inr (.inr ⟨_, _, c, hx.str, hy.int, lm hz, e1, hq _ H F .refl (.str _)⟩)
    · cases hg
  · cases hg
end
end DL
namespace DL
open PySem L2
inductive Ot where
  | nx (ρ : Rho)
  | rt (r : R) (ρ : Rho)
  | bk (ρ : Rho)
  | ct (ρ : Rho)
  | er (c : Nat) (fs : List PyData) (ρ : Rho)
abbrev SM := Rho → Option Ot
/-- the slots that a def never stores stay -/
def Keeps (pr : Nat → Bool) (σ σ' : L2.St) : Prop := σ'.length = σ.length ∧ ∀ i, pr i = true → σ'[i]? = σ[i]?
theorem Keeps.refl {pr : Nat → Bool} {σ : L2.St} : Keeps pr σ σ := ⟨rfl, fun _ _ => rfl⟩
theorem Keeps.trans {pr : Nat → Bool} {σ σ1 σ2 : L2.St} (a : Keeps pr σ σ1) (b : Keeps pr σ1 σ2) : Keeps pr σ σ2 := ⟨b.1.trans a.1, fun i h => (b.2 i h).trans (a.2 i h)⟩
theorem Keeps.set {pr : Nat → Bool} {σ : L2.St} {i : Nat} {x : Option V} (h : pr i = false) : Keeps pr σ (σ.set i x) := ⟨List.length_set, fun j hj => by
  by_cases e : j = i
  · subst e; rw [h] at hj; cases hj
  · rw [List.getElem?_set_ne (Ne.symm e)]⟩
/-- a def's frame: the heap at its entry, how many parameters, the slots that it never stores -/
structure Fm where
  HB : Hp
  n : Nat
  pr : Nat → Bool
/-- the state between two statements -/
structure StR (T : Tb) (φ : Fm) (H : Hp) (F : Reg) (O : Ows) (σ : L2.St) (ρ : Rho) : Prop where
  E : EnvR T H F O σ ρ
  lb : ∀ b, H b = none → φ.HB b = none
  lf : ∀ i a, φ.n ≤ i → a ∈ O i → φ.HB a = none
theorem StR.step {T : Tb} {φ : Fm} {H H1 : Hp} {F F1 : Reg} {O O1 : Ows} {σ : L2.St} {ρ ρ1 : Rho} (S : StR T φ H F O σ ρ) (x : Ext false H F O H1 F1 O1) (E1 : EnvR T H1 F1 O1 σ ρ1) : StR T φ H1 F1 O1 σ ρ1 :=
  ⟨E1, fun b h => S.lb b (x.live b h), fun i a hi h => (x.own i a h).elim (S.lf i a hi) fun z => nomatch z.1⟩
def PostS (T : Tb) (W : WX) (φ : Fm) (σ : L2.St) (H : Hp) (F : Reg) (O : Ows) (D : Ends) : Option Ot → Prop
  | some (.nx ρ) => ∀ σ' H' F' O', Ext true H F O H' F' O' → StR T φ H' F' O' σ' ρ → Keeps φ.pr σ σ' → D.nx σ' H'
  | some (.rt r ρ) => ∀ v σ' H' F' O', Ext true H F O H' F' O' → StR T φ H' F' O' σ' ρ → Keeps φ.pr σ σ' → ResR T φ.HB H' F' O' [] v r → D.rt v H'
  | some (.bk ρ) => ∀ σ' H' F' O', Ext true H F O H' F' O' → StR T φ H' F' O' σ' ρ → Keeps φ.pr σ σ' → D.bk σ' H'
  | some (.ct ρ) => ∀ σ' H' F' O', Ext true H F O H' F' O' → StR T φ H' F' O' σ' ρ → Keeps φ.pr σ σ' → D.ct σ' H'
  | some (.er c fs ρ) => ∀ cls d σ' H' F' O', Ext true H F O H' F' O' → StR T φ H' F' O' σ' ρ → Keeps φ.pr σ σ' → ExcR T H' cls d c fs → W cls d σ' H'
  | none => False
def TSof (T : Tb) (W : WX) (φ : Fm) (f : SM) : TS := fun D σ H => ∃ ρ F O, StR T φ H F O σ ρ ∧ PostS T W φ σ H F O D (f ρ)
def SS (X : Cx) (T : Tb) (W : WX) (φ : Fm) (st : Stmt) (f : SM) : Prop := PS X st (TSof T W φ f)
def SB (X : Cx) (T : Tb) (W : WX) (φ : Fm) (st : List Stmt) (f : SM) : Prop := PSs X st (TSof T W φ f)
theorem ps_imp {X : Cx} {e : Stmt} {t t' : TS} (h : PS X e t) (i : ∀ D σ H, t' D σ H → t D σ H) : PS X e t' := ⟨fun pins s σ H D I q => h.run pins s σ H D I (i D σ H q)⟩
theorem pss_imp {X : Cx} {e : List Stmt} {t t' : TS} (h : PSs X e t) (i : ∀ D σ H, t' D σ H → t D σ H) : PSs X e t' := ⟨fun pins s σ H D I q => h.run pins s σ H D I (i D σ H q)⟩
theorem ps_impL {X : Cx} {e : Stmt} {t t' : TS} (h : PS X e t) (i : ∀ D σ H, σ.length = X.N.length → t' D σ H → t D σ H) : PS X e t' := ⟨fun pins s σ H D I q => h.run pins s σ H D I (i D σ H I.len q)⟩
def seqM (f g : SM) : SM := fun ρ => match f ρ with
  | some (.nx ρ1) => g ρ1
  | o => o
def skipM : SM := fun ρ => some (.nx ρ)
/-- an expression's end as a statement's -/
def bindS {α : Type} (o : Option (Oe α)) (g : α → Rho → Option Ot) : Option Ot := match o with
  | some (.ok a ρ) => g a ρ
  | some (.er c fs ρ) => some (.er c fs ρ)
  | none => none
@[simp] theorem bindS_ok {α : Type} (a : α) (ρ : Rho) (g : α → Rho → Option Ot) : bindS (some (.ok a ρ)) g = g a ρ := rfl
@[simp] theorem bindS_er {α : Type} (c : Nat) (fs : List PyData) (ρ : Rho) (g : α → Rho → Option Ot) : bindS (some (.er c fs ρ)) g = some (.er c fs ρ) := rfl
@[simp] theorem bindS_none {α : Type} (g : α → Rho → Option Ot) : bindS none g = none := rfl
def dropM (f : EM) : SM := fun ρ => bindS (f ρ) fun _ ρ1 => some (.nx ρ1)
def ifM (c : Rho → Option (Oe Bool)) (f g : SM) : SM := fun ρ => bindS (c ρ) fun b ρ1 => if b = true then f ρ1 else g ρ1
/-- what is stored in a slot -/
def asR (ρ : Rho) (i : Nat) : R → Option Rho
  | .dat d => some (ρ.set i (some (.dat d)))
  | .own d => some (ρ.set i (some (.own d)))
  | .st xs => some (ρ.set i (some (.st xs)))
  | .fn k => some (ρ.set i (some (.fn k)))
  | .slt j => (frz ρ (.slt j)).map fun p => p.2.set i (some (.dat p.1))
  | .ex _ _ => none
  | .two _ _ => none
  | .obj o => some (ρ.set i (some (.obj o)))
  | .prt _ _ => none
def asgM (i : Nat) (f : EM) : SM := fun ρ => bindS (f ρ) fun r ρ1 => (asR ρ1 i r).map .nx
/-- n: how many parameters; what they hold is shared with the caller -/
def retR (n : Nat) (ρ : Rho) : R → Option (R × Rho)
  | .slt i => if i < n then (frz ρ (.slt i)).map fun p => (.dat p.1, p.2) else match ρ[i]? with
    | some (some (.own d)) => some (.own d, ρ.set i none)
    | some (some (.dat d)) => some (.dat d, ρ)
    | some (some (.obj o)) => some (.obj o, ρ.set i none)
    | _ => none
  | .ex _ _ => none
  | .prt _ _ => none
  | r => some (r, ρ)
def retM (n : Nat) (f : EM) : SM := fun ρ => bindS (f ρ) fun r ρ1 => (retR n ρ1 r).map fun p => .rt p.1 p.2
def retN : SM := fun ρ => some (.rt (.dat .none) ρ)
section
variable {X : Cx} {T : Tb} {W : WX} {φ : Fm} {α β : Type} {Ra : Tell α β} {σ : L2.St} {ρ : Rho} {B H : Hp} {FB F : Reg} {OB O : Ows} {D : Ends} {σB : L2.St}
/-- an expression within a statement -/
theorem sps {f : Rho → Option (Oe α)} {g : α → Rho → Option Ot} {Q' : β → Hp → Prop} (x : Ext true B FB OB H F O) (ks : Keeps φ.pr σB σ) (S : StR T φ H F O σ ρ) (P : PostS T W φ σB B FB OB D (bindS (f ρ) g))
    (k : ∀ v H1 a ρ1 F1 O1, Ext false H F O H1 F1 O1 → Ext true B FB OB H1 F1 O1 → StR T φ H1 F1 O1 σ ρ1 → Ra σ H H1 F1 O1 v a → PostS T W φ σB B FB OB D (g a ρ1) → Q' v H1) : Tof T W Ra f σ H Q' := by
  refine ⟨ρ, F, O, S.E, ?_⟩
  cases q : f ρ with
  | none => rw [q] at P; exact P
  | some o =>
    rw [q] at P
    cases o with
    | ok a ρ1 => exact fun v H1 F1 O1 x1 E1 r1 => k v H1 a ρ1 F1 O1 x1 (x.trans x1.up) (S.step x1 E1) r1 P
    | er c fs ρ1 => exact fun cls d H1 F1 O1 x1 E1 r1 => P cls d σ H1 F1 O1 (x.trans x1.up) (S.step x1 E1) ks r1
/-- the rest of a statement from where it stands -/
theorem rsts {f : SM} (x : Ext true B FB OB H F O) (ks : Keeps φ.pr σB σ) (S : StR T φ H F O σ ρ) (P : PostS T W φ σB B FB OB D (f ρ)) : TSof T W φ f D σ H := by
  refine ⟨ρ, F, O, S, ?_⟩
  cases q : f ρ with
  | none => rw [q] at P; exact P
  | some o =>
    rw [q] at P
    cases o with
    | nx ρ1 => exact fun σ' H1 F1 O1 x1 E1 k1 => P σ' H1 F1 O1 (x.trans x1) E1 (ks.trans k1)
    | rt r ρ1 => exact fun v σ' H1 F1 O1 x1 E1 k1 r1 => P v σ' H1 F1 O1 (x.trans x1) E1 (ks.trans k1) r1
    | bk ρ1 => exact fun σ' H1 F1 O1 x1 E1 k1 => P σ' H1 F1 O1 (x.trans x1) E1 (ks.trans k1)
    | ct ρ1 => exact fun σ' H1 F1 O1 x1 E1 k1 => P σ' H1 F1 O1 (x.trans x1) E1 (ks.trans k1)
    | er c fs ρ1 => exact fun cls d σ' H1 F1 O1 x1 E1 k1 r1 => P cls d σ' H1 F1 O1 (x.trans x1) E1 (ks.trans k1) r1
end
section
variable {X : Cx} {T : Tb} {W : WX} {φ : Fm} {st : Stmt} {rest : List Stmt} {f g : SM} {e c : Expr} {fe : EM} {tc : Rho → Option (Oe Bool)} {pos : Pos}
theorem ss_nil : SB X T W φ [] skipM := pss_imp pss_nil fun D σ H ⟨ρ, F, O, S, P⟩ => P σ H F O .refl S .refl
theorem seq_of {D : Ends} {σ : L2.St} {H : Hp} (h : TSof T W φ (seqM f g) D σ H) : tSeq (TSof T W φ f) (TSof T W φ g) D σ H := by
  obtain ⟨ρ, F, O, S, P⟩ := h
  refine ⟨ρ, F, O, S, ?_⟩
  unfold seqM at P
  cases q : f ρ with
  | none => rw [q] at P; exact P
  | some o =>
    rw [q] at P
    cases o with
    | nx ρ1 => exact fun σ' H1 F1 O1 x1 E1 k1 => rsts x1 k1 E1 P
    | rt r ρ1 => exact P
    | bk ρ1 => exact P
    | ct ρ1 => exact P
    | er c fs ρ1 => exact P
theorem ss_cons (h1 : SS X T W φ st f) (h2 : SB X T W φ rest g) : SB X T W φ (st :: rest) (seqM f g) := pss_imp (pss_cons h1 h2) fun _ _ _ h => seq_of h
theorem ss_one (h : SS X T W φ st f) : SB X T W φ [st] f := pss_one h
theorem ss_expr (he : SE X T W e fe) (hs : swapsWith e none pos.line X.env = pure false := by rfl) : SS X T W φ (.Expr e pos) (dropM fe) := by
  refine ps_imp (ps_expr he hs) fun D σ H ⟨ρ, F, O, S, P⟩ => ?_
  exact sps .refl .refl S P fun v H1 a ρ1 F1 O1 x1 y1 S1 r1 P1 => P1 σ H1 F1 O1 y1 S1 .refl
theorem ss_if {a b : List Stmt} (hc : ST X T W c tc) (ha : SB X T W φ a f) (hb : SB X T W φ b g) : SS X T W φ (.If c a b pos) (ifM tc f g) := by
  refine ps_imp (ps_if hc ha hb) fun D σ H ⟨ρ, F, O, S, P⟩ => ?_
  refine sps .refl .refl S P fun v H1 b ρ1 F1 O1 x1 y1 S1 r1 P1 => ?_
  have r1' : v = b := r1
  subst r1'
  cases v with
  | true => rw [if_pos rfl] at P1 ⊢; exact rsts y1 .refl S1 P1
  | false => rw [if_neg Bool.false_ne_true] at P1 ⊢; exact rsts y1 .refl S1 P1
/-- a slot forgets what it alone held -/
theorem EnvR.put {H : Hp} {F : Reg} {O : Ows} {σ : L2.St} {ρ : Rho} {i : Nat} {v : V} {r : R} {oa : List Addr} (E : EnvR T H F O σ ρ) (hi : i < σ.length) (s : SlotR T H F oa v r) (h1 : ∀ a, a ∈ oa → ¬ F a) (h2 : ∀ a, a ∈ oa → ∀ j, a ∉ O j) :
    EnvR T H F (fun j => if j = i then oa else O j) (σ.set i (some v)) (ρ.set i (some r)) := by
  have hl : i < ρ.length := by rw [E.len]; exact hi
  refine ⟨by rw [List.length_set, List.length_set]; exact E.len, fun j r' e => ?_, fun j b e => ?_, fun j k b e1 e2 => ?_, fun j b e q => ?_, E.lv, E.tb⟩
  · by_cases hj : j = i
    · subst hj
      rw [List.getElem?_set_self hl] at e
      cases e
      exact ⟨v, by rw [List.getElem?_set_self hi], by rw [if_pos rfl]; exact s⟩
    · rw [List.getElem?_set_ne (Ne.symm hj)] at e ⊢
      rw [if_neg hj]
      exact E.at_ j r' e
  · by_cases hj : j = i
    · subst hj
      exact ⟨r, by rw [List.getElem?_set_self hl]⟩
    · rw [if_neg hj] at e
      rw [List.getElem?_set_ne (Ne.symm hj)]
      exact E.own j b e
  · by_cases hj : j = i
    · rw [if_pos hj] at e1
      by_cases hk : k = i
      · rw [hj, hk]
      · rw [if_neg hk] at e2
        exact absurd e2 (h2 b e1 k)
    · rw [if_neg hj] at e1
      by_cases hk : k = i
      · rw [if_pos hk] at e2
        exact absurd e1 (h2 b e2 j)
      · rw [if_neg hk] at e2
        exact E.inj j k b e1 e2
  · by_cases hj : j = i
    · rw [if_pos hj] at e
      exact h1 b e q
    · rw [if_neg hj] at e
      exact E.nf j b e q
/-- a result is stored in a slot -/
theorem as_ok {B H0 H : Hp} {FB F : Reg} {OB O : Ows} {σ : L2.St} {ρ ρ' : Rho} {i : Nat} {v : V} (x : Ext true B FB OB H F O) (l : ∀ b, H0 b = none → B b = none) (E : EnvR T H F O σ ρ) (hi : i < σ.length) {r : R} (h : ResR T H0 H F O σ v r) (e : asR ρ i r = some ρ') :
    ∃ F' O', Ext true B FB OB H F' O' ∧ EnvR T H F' O' (σ.set i (some v)) ρ' ∧ ∀ j a, a ∈ O' j → a ∈ O j ∨ (j = i ∧ H0 a = none) := by
  have drop : ∀ {oa : List Addr}, (∀ a, a ∈ oa → B a = none) → Ext true B FB OB H F (fun j => if j = i then oa else O j) := fun ho => ⟨x.keep, x.live, x.grow, x.new, fun j b q => by
    by_cases hj : j = i
    · rw [if_pos hj] at q
      exact .inr ⟨rfl, .inr (ho b q)⟩
    · rw [if_neg hj] at q
      exact x.own j b q⟩
  have sub : ∀ {oa : List Addr}, (∀ a, a ∈ oa → H0 a = none) → ∀ j a, a ∈ (if j = i then oa else O j) → a ∈ O j ∨ (j = i ∧ H0 a = none) := fun ho j a q => by
    by_cases hj : j = i
    · rw [if_pos hj] at q
      exact .inr ⟨hj, ho a q⟩
    · rw [if_neg hj] at q
      exact .inl q
  cases r with
  | dat d =>
    cases e
    exact ⟨F, _, drop (oa := []) (fun _ q => absurd q List.not_mem_nil), E.put hi (oa := []) ⟨rfl, h⟩ (fun _ q => absurd q List.not_mem_nil) (fun _ q => absurd q List.not_mem_nil), sub fun _ q => absurd q List.not_mem_nil⟩
  | own d =>
    cases e
    obtain ⟨a, h1, h2, h3, h4, h5⟩ := h
    exact ⟨F, _, drop (oa := [a]) (fun _ q => by cases List.mem_singleton.mp q; exact l a h2), E.put hi (oa := [a]) ⟨a, rfl, h1, h5⟩ (fun _ q => by cases List.mem_singleton.mp q; exact h3) (fun _ q => by cases List.mem_singleton.mp q; exact h4), sub fun _ q => by cases List.mem_singleton.mp q; exact h2⟩
  | st xs =>
    cases e
    obtain ⟨a, h1, h2, h3, h4, h5⟩ := h
    exact ⟨F, _, drop (oa := [a]) (fun _ q => by cases List.mem_singleton.mp q; exact l a h2), E.put hi (oa := [a]) ⟨a, rfl, h1, h5⟩ (fun _ q => by cases List.mem_singleton.mp q; exact h3) (fun _ q => by cases List.mem_singleton.mp q; exact h4), sub fun _ q => by cases List.mem_singleton.mp q; exact h2⟩
  | fn k =>
    cases e
    exact ⟨F, _, drop (oa := []) (fun _ q => absurd q List.not_mem_nil), E.put hi (oa := []) ⟨rfl, h⟩ (fun _ q => absurd q List.not_mem_nil) (fun _ q => absurd q List.not_mem_nil), sub fun _ q => absurd q List.not_mem_nil⟩
  | ex c fs => cases e
  | two d d' => cases e
  | prt i k => cases e
  | obj o =>
    cases e
    obtain ⟨L, h1, h2⟩ := h
    exact ⟨F, _, drop (oa := L) (fun b q => l b (h1 b q).1), E.put hi (oa := L) h2 (fun b q => (h1 b q).2.1) (fun b q => (h1 b q).2.2), sub fun b q => (h1 b q).1⟩
  | slt j =>
    have e' : (frz ρ (.slt j)).map (fun p => p.2.set i (some (.dat p.1))) = some ρ' := e
    obtain ⟨⟨d, ρ1⟩, e1, e2⟩ := Option.map_eq_some_iff.mp e'
    subst e2
    obtain ⟨F1, O1, x1, E1, d1, _, sb, _⟩ := fz x l E h e1
    refine ⟨F1, fun j => if j = i then [] else O1 j, ⟨x1.keep, x1.live, x1.grow, x1.new, fun j b q => ?_⟩, E1.put hi (oa := []) ⟨rfl, d1⟩ (fun _ q => absurd q List.not_mem_nil) (fun _ q => absurd q List.not_mem_nil), fun j a q => ?_⟩
    · by_cases hj : j = i
      · rw [if_pos hj] at q; cases q
      · rw [if_neg hj] at q
        exact x1.own j b q
    · have q' : a ∈ (if j = i then [] else O1 j) := q
      by_cases hj : j = i
      · rw [if_pos hj] at q'; cases q'
      · rw [if_neg hj] at q'
        exact .inl (sb j a q')
variable {i : Nat} {x : Str}
theorem asg_of {D : Ends} {σ : L2.St} {H : Hp} (hp : φ.pr i = false) (hN : i < σ.length) (h : TSof T W φ (asgM i fe) D σ H) : tAsg (Tof T W (tlE T) fe) (gName i) D σ H := by
  obtain ⟨ρ, F, O, S, P⟩ := h
  refine sps .refl .refl S P fun v H1 r ρ1 F1 O1 x1 y1 S1 r1 P1 => ?_
  cases q : asR ρ1 i r with
  | none => rw [q] at P1; exact P1.elim
  | some ρ2 =>
    rw [q] at P1
    obtain ⟨F2, O2, y2, E2, sb⟩ := as_ok y1 (fun _ h => h) S1.E hN r1 q
    exact P1 _ H1 F2 O2 y2 ⟨E2, S1.lb, fun j a hj e => (sb j a e).elim (S1.lf j a hj) fun z => S.lb a z.2⟩ (.set hp)
theorem lt_of_at {α : Type} {l : List α} {i : Nat} {x : α} (h : l[i]? = some x) : i < l.length := (List.getElem?_eq_some_iff.mp h).1
theorem ss_asg {pos' : Pos} (hp : φ.pr i = false) (hN : X.N.Nodup) (hi : X.N[i]? = some x) (hx : Loc X.env.scope x) (he : SE X T W e fe) (hs : swapsWith e (some (.Name x pos')) pos.line X.env = pure false := by rfl)
    (hf : X.fn x = true ∨ X.env.scope.names.lookup x = some .local := by first | exact .inl rfl | exact .inr rfl | assumption) : SS X T W φ (.Assign [.Name x pos'] e pos) (asgM i fe) :=
  ps_impL (ps_set hN hi hx he hs hf) fun D σ H hl h => asg_of hp (by rw [hl]; exact lt_of_at hi) h
/-- what a return hands back -/
theorem ret_ok {B H0 H : Hp} {FB F : Reg} {OB O : Ows} {σ : L2.St} {ρ ρ' : Rho} {v : V} (x : Ext true B FB OB H F O) (l : ∀ b, H0 b = none → B b = none) (l2 : ∀ b, H0 b = none → φ.HB b = none) (S : StR T φ H F O σ ρ) {r r' : R} (h : ResR T H0 H F O σ v r) (e : retR φ.n ρ r = some (r', ρ')) :
    ∃ F' O', Ext true B FB OB H F' O' ∧ StR T φ H F' O' σ ρ' ∧ ResR T φ.HB H F' O' [] v r' := by
  have E := S.E
  cases r with
  | dat d => cases e; exact ⟨F, O, x, S, h⟩
  | own d =>
    cases e
    obtain ⟨a, h1, h2, h3⟩ := h
    exact ⟨F, O, x, S, a, h1, l2 a h2, h3⟩
  | st xs =>
    cases e
    obtain ⟨a, h1, h2, h3⟩ := h
    exact ⟨F, O, x, S, a, h1, l2 a h2, h3⟩
  | fn k => cases e; exact ⟨F, O, x, S, h⟩
  | ex c fs => cases e
  | prt i k => cases e
  | obj o =>
    cases e
    obtain ⟨L, h1, h2⟩ := h
    exact ⟨F, O, x, S, L, fun b hb => ⟨l2 b (h1 b hb).1, (h1 b hb).2⟩, h2⟩
  | two d d' =>
    cases e
    obtain ⟨p, a, b, h1, h2, h3, ⟨a1, a2⟩, b1, b2⟩ := h
    exact ⟨F, O, x, S, p, a, b, h1, h2, h3, ⟨l2 a a1, a2⟩, l2 b b1, b2⟩
  | slt i =>
    unfold retR at e
    dsimp only at e
    split at e
    · obtain ⟨⟨d, ρ1⟩, e1, e2⟩ := Option.map_eq_some_iff.mp e
      cases e2
      obtain ⟨F1, O1, x1, E1, d1, _, sb, _⟩ := fz x l E h e1
      exact ⟨F1, O1, x1, ⟨E1, S.lb, fun j a hj q => S.lf j a hj (sb j a q)⟩, d1⟩
    · rename_i hi
      have h' : σ[i]? = some (some v) := h
      split at e
      · rename_i d q
        cases e
        obtain ⟨u, hu, a, z1, z2, z3⟩ := E.at_ i _ q
        rw [h'] at hu
        cases hu
        have zm : a ∈ O i := by rw [z1]; exact List.mem_singleton.mpr rfl
        have hl : i < ρ.length := lt_of_at q
        have sb : ∀ j b, b ∈ (if j = i then [] else O j) → b ∈ O j ∧ j ≠ i := fun j b q => by
          by_cases hj : j = i
          · rw [if_pos hj] at q; cases q
          · rw [if_neg hj] at q; exact ⟨q, hj⟩
        refine ⟨F, fun j => if j = i then [] else O j, ⟨x.keep, x.live, x.grow, x.new, fun j b q => x.own j b (sb j b q).1⟩, ⟨⟨by rw [List.length_set]; exact E.len, fun j r e => ?_, fun j b e => ?_, fun j k b e1 e2 => E.inj j k b (sb j b e1).1 (sb k b e2).1, fun j b e => E.nf j b (sb j b e).1, E.lv, E.tb⟩, S.lb, fun j b hj q => S.lf j b hj (sb j b q).1⟩, a, z2, S.lf i a (Nat.le_of_not_lt hi) zm, E.nf i a zm, fun j q => (sb j a q).2 (E.inj j i a (sb j a q).1 zm), z3⟩
        · by_cases hj : j = i
          · subst hj; rw [List.getElem?_set_self hl] at e; cases e
          · rw [List.getElem?_set_ne (Ne.symm hj)] at e
            rw [if_neg hj]
            exact E.at_ j r e
        · rw [List.getElem?_set_ne (Ne.symm (sb j b e).2)]
          exact E.own j b (sb j b e).1
      · rename_i d q
        cases e
        obtain ⟨u, hu, z1, z2⟩ := E.at_ i _ q
        rw [h'] at hu
        cases hu
        exact ⟨F, O, x, S, z2⟩
      · rename_i o q
        cases e
        obtain ⟨u, hu, z⟩ := E.at_ i _ q
        rw [h'] at hu
        cases hu
        have hl : i < ρ.length := lt_of_at q
        have sb : ∀ j b, b ∈ (if j = i then [] else O j) → b ∈ O j ∧ j ≠ i := fun j b q => by
          by_cases hj : j = i
          · rw [if_pos hj] at q; cases q
          · rw [if_neg hj] at q; exact ⟨q, hj⟩
        refine ⟨F, fun j => if j = i then [] else O j, ⟨x.keep, x.live, x.grow, x.new, fun j b q => x.own j b (sb j b q).1⟩, ⟨⟨by rw [List.length_set]; exact E.len, fun j r e => ?_, fun j b e => ?_, fun j k b e1 e2 => E.inj j k b (sb j b e1).1 (sb k b e2).1, fun j b e => E.nf j b (sb j b e).1, E.lv, E.tb⟩, S.lb, fun j b hj q => S.lf j b hj (sb j b q).1⟩, O i, fun b hb => ⟨S.lf i b (Nat.le_of_not_lt hi) hb, E.nf i b hb, fun j q => (sb j b q).2 (E.inj j i b (sb j b q).1 hb)⟩, z⟩
        · by_cases hj : j = i
          · subst hj; rw [List.getElem?_set_self hl] at e; cases e
          · rw [List.getElem?_set_ne (Ne.symm hj)] at e
            rw [if_neg hj]
            exact E.at_ j r e
        · rw [List.getElem?_set_ne (Ne.symm (sb j b e).2)]
          exact E.own j b (sb j b e).1
      · cases e
theorem ss_ret (he : SE X T W e fe) : SS X T W φ (.Return (some e) pos) (retM φ.n fe) := by
  refine ps_imp (ps_ret he) fun D σ H ⟨ρ, F, O, S, P⟩ => ?_
  refine sps .refl .refl S P fun v H1 r ρ1 F1 O1 x1 y1 S1 r1 P1 => ?_
  cases q : retR φ.n ρ1 r with
  | none => rw [q] at P1; exact P1.elim
  | some p =>
    obtain ⟨r', ρ2⟩ := p
    rw [q] at P1
    obtain ⟨F2, O2, y2, S2, r2⟩ := ret_ok y1 (fun _ h => h) S.lb S1 r1 q
    exact P1 v σ H1 F2 O2 y2 S2 .refl r2
end
end DL
namespace DL
open PySem L2
abbrev GM := PyData → Rho → Option Rho
abbrev GsM := List PyData → Rho → Option Rho
def gnM (i : Nat) : GM := fun d ρ => some (ρ.set i (some (.dat d)))
def gs0 : GsM := fun ds ρ => match ds with
  | [] => some ρ
  | _ => none
def gsC (g : GM) (gs : GsM) : GsM := fun ds ρ => match ds with
  | d :: r => (g d ρ).bind (gs r)
  | [] => none
def gtM (gs : GsM) : GM := fun d ρ => match d with
  | .tuple ds => gs ds ρ
  | _ => none
def Sub (O' O : Ows) : Prop := ∀ i a, a ∈ O' i → a ∈ O i
def TGof (T : Tb) (pr : Nat → Bool) (g : GM) : TG := fun v σ H Q => ∃ d ρ F O, EnvR T H F O σ ρ ∧ DF T.K H F v d ∧ match g d ρ with
  | none => False
  | some ρ' => ∀ σ' O', EnvR T H F O' σ' ρ' → Keeps pr σ σ' → Sub O' O → Q σ' H
def TGsof (T : Tb) (pr : Nat → Bool) (g : GsM) : TGs := fun vs σ H Q => ∃ ds ρ F O, EnvR T H F O σ ρ ∧ DFs T.K H F vs ds ∧ match g ds ρ with
  | none => False
  | some ρ' => ∀ σ' O', EnvR T H F O' σ' ρ' → Keeps pr σ σ' → Sub O' O → Q σ' H
def SG (X : Cx) (T : Tb) (pr : Nat → Bool) (e : Expr) (g : GM) : Prop := PG X e (TGof T pr g)
def SGs (X : Cx) (T : Tb) (pr : Nat → Bool) (es : List Expr) (g : GsM) : Prop := PGs X es (TGsof T pr g)
theorem pg_imp {X : Cx} {e : Expr} {t t' : TG} (h : PG X e t) (i : ∀ v σ H Q, σ.length = X.N.length → t' v σ H Q → t v σ H Q) : PG X e t' := ⟨fun pins s σ H x v Q I r q => h.run pins s σ H x v Q I r (i x σ H Q I.len q)⟩
theorem pgs_imp {X : Cx} {e : List Expr} {t t' : TGs} (h : PGs X e t) (i : ∀ v σ H Q, t' v σ H Q → t v σ H Q) : PGs X e t' := ⟨fun pins s σ H x v Q I r q => h.run pins s σ H x v Q I r (i x σ H Q q)⟩
section
variable {X : Cx} {T : Tb} {pr : Nat → Bool} {i : Nat} {x : Str} {pos : Pos} {e : Expr} {es : List Expr} {g : GM} {gs : GsM}
theorem sg_nm (hp : pr i = false) (hN : X.N.Nodup) (hi : X.N[i]? = some x) (hx : Loc X.env.scope x) (hf : X.fn x = true ∨ X.env.scope.names.lookup x = some .local := by first | exact .inl rfl | exact .inr rfl | assumption) : SG X T pr (.Name x pos) (gnM i) := by
  refine pg_imp (pg_name hN hi hx hf) fun v σ H Q hl ⟨d, ρ, F, O, E, dv, P⟩ => ?_
  have hlt : i < σ.length := by rw [hl]; exact lt_of_at hi
  refine P _ _ (E.put hlt (oa := []) ⟨rfl, dv⟩ (fun _ q => absurd q List.not_mem_nil) fun _ q => absurd q List.not_mem_nil) (.set hp) fun j a q => ?_
  by_cases hj : j = i
  · rw [if_pos hj] at q; cases q
  · rw [if_neg hj] at q; exact q
theorem sgs_nil : SGs X T pr [] gs0 := by
  refine pgs_imp pgs_nil fun vs σ H Q ⟨ds, ρ, F, O, E, dv, P⟩ => ?_
  cases dv with
  | nil => exact ⟨rfl, P σ O E .refl fun _ _ h => h⟩
  | cons a b => exact P.elim
theorem sgs_cons (h1 : SG X T pr e g) (h2 : SGs X T pr es gs) (hs : (assignEach (e :: es) X.env).map (·.2) = assign e X.env :: (assignEach es X.env).map (·.2) := by rfl) : SGs X T pr (e :: es) (gsC g gs) := by
  refine pgs_imp (pgs_cons h1 h2 hs) fun vs σ H Q ⟨ds, ρ, F, O, E, dv, P⟩ => ?_
  cases dv with
  | nil => exact P.elim
  | @cons v d vs ds a b =>
    refine ⟨v, vs, rfl, d, ρ, F, O, E, a, ?_⟩
    have P' : match (g d ρ).bind (gs ds) with
      | none => False
      | some ρ' => ∀ σ' O', EnvR T H F O' σ' ρ' → Keeps pr σ σ' → Sub O' O → Q σ' H := P
    cases q : g d ρ with
    | none => rw [q] at P'; exact P'.elim
    | some ρ1 =>
      rw [q] at P'
      refine fun σ1 O1 E1 k1 s1 => ⟨ds, ρ1, F, O1, E1, b, ?_⟩
      have P2 : match gs ds ρ1 with
        | none => False
        | some ρ' => ∀ σ' O', EnvR T H F O' σ' ρ' → Keeps pr σ σ' → Sub O' O → Q σ' H := P'
      cases q2 : gs ds ρ1 with
      | none => rw [q2] at P2; exact P2.elim
      | some ρ2 =>
        rw [q2] at P2
        exact fun σ2 O2 E2 k2 s2 => P2 σ2 O2 E2 (k1.trans k2) fun j a h => s1 j a (s2 j a h)
theorem sg_tup {k : Nat} (hK : X.K = T.K) (hc : X.calm = true) (h : SGs X T pr es gs) {n : Nat} (hg : ∀ ds ρ ρ', gs ds ρ = some ρ' → ds.length = n) (hn : (assignEach es X.env).length = n := by rfl) (hst : (assignEach es X.env).findIdx? (·.1) = none := by rfl) : SG X T pr (.Tuple es k pos) (gtM gs) := by
  refine pg_imp (pg_tup hc h hn hst) fun v σ H Q _ ⟨d, ρ, F, O, E, dv, P⟩ => ?_
  rw [hK]
  cases dv with
  | @tup a xs ds r s =>
    have P' : match gs ds ρ with
      | none => False
      | some ρ' => ∀ σ' O', EnvR T H F O' σ' ρ' → Keeps pr σ σ' → Sub O' O → Q σ' H := P
    refine ⟨a, xs, rfl, r, ?_, ds, ρ, F, O, E, s, P'⟩
    cases q : gs ds ρ with
    | none => rw [q] at P'; exact P'.elim
    | some ρ' => rw [s.length]; exact hg ds ρ ρ' q
  | non => exact P.elim
  | bl b => exact P.elim
  | int i => exact P.elim
  | str y => exact P.elim
  | lst a b c => exact P.elim
  | lstK a b => exact P.elim
  | dct a b c => exact P.elim
  | dcT a b c d => exact P.elim
theorem gs0_len : ∀ ds ρ ρ', gs0 ds ρ = some ρ' → ds.length = 0 := fun ds ρ ρ' h => by
  cases ds with
  | nil => rfl
  | cons a b => cases h
theorem gsC_len {n : Nat} (h : ∀ ds ρ ρ', gs ds ρ = some ρ' → ds.length = n) : ∀ ds ρ ρ', gsC g gs ds ρ = some ρ' → ds.length = n + 1 := fun ds ρ ρ' q => by
  cases ds with
  | nil => cases q
  | cons a b =>
    have q' : (g a ρ).bind (gs b) = some ρ' := q
    cases z : g a ρ with
    | none => rw [z] at q'; cases q'
    | some ρ1 =>
      rw [z] at q'
      rw [List.length_cons, h b ρ1 ρ' q']
end
abbrev IM := Rho → Option (Oe (List PyData))
/-- the iterator yields just these -/
structure ItOk (T : Tb) (J : It) (F : Reg) (H : Hp) (ds : List PyData) : Prop where
  go : ∀ H', Kept F H H' → ∀ i d, ds[i]? = some d → J.go i H' ∧ ∀ x H'', J.yld i H' x H'' → (∀ b o, H' b = some o → H'' b = some o) ∧ DF T.K H'' F x d
  stop : ∀ H', Kept F H H' → ∀ i, ds.length ≤ i → i ≤ ds.length → J.stop i H'
def tlI (T : Tb) : Tell (List PyData) It := fun _ _ H F _ J ds => ItOk T J F H ds
def SI (X : Cx) (T : Tb) (W : WX) (tg iter : Expr) (f : IM) : Prop := PI X tg iter (Tof T W (tlI T) f)
theorem pi_imp {X : Cx} {tg e : Expr} {t t' : TI} (h : PI X tg e t) (i : ∀ σ H Q, t' σ H Q → t σ H Q) : PI X tg e t' := ⟨fun pins s σ H Q I q => h.run pins s σ H Q I (i σ H Q q)⟩
def forL (g : GM) (body : SM) : List PyData → SM
  | [], ρ => some (.nx ρ)
  | x :: xs, ρ => match g x ρ with
    | none => none
    | some ρ1 => match body ρ1 with
      | some (.nx ρ2) => forL g body xs ρ2
      | some (.ct ρ2) => forL g body xs ρ2
      | some (.bk ρ2) => some (.nx ρ2)
      | o => o
def forM (it : IM) (g : GM) (body : SM) : SM := fun ρ => bindS (it ρ) fun ds ρ1 => forL g body ds ρ1
theorem Kept.trans {F F1 : Reg} {H H1 H2 : Hp} (a : Kept F H H1) (g : ∀ b, F b → F1 b) (b : Kept F1 H1 H2) : Kept F H H2 := fun c o h q => b c o (a c o h q) (q.elim (fun z => .inl ⟨g c z.1, z.2⟩) .inr)
theorem kept_all {F : Reg} {H H' : Hp} (k : ∀ b o, H b = some o → H' b = some o) : Kept F H H' := fun b o h _ => k b o h
section
variable {X : Cx} {T : Tb} {W : WX} {φ : Fm} {tg iter : Expr} {body : List Stmt} {it : IM} {g : GM} {fb : SM} {pos : Pos}
theorem for_of {D : Ends} {σ : L2.St} {H : Hp} (h : TSof T W φ (forM it g fb) D σ H) : tFor (Tof T W (tlI T) it) (TGof T φ.pr g) (TSof T W φ fb) D σ H := by
  obtain ⟨ρ, F, O, S, P⟩ := h
  refine sps .refl .refl S P fun J H1 ds ρ1 F1 O1 x1 y1 S1 r1 P1 => ?_
  refine ⟨fun i m σ' H' => ∃ ρ' F' O', m = ds.length - i ∧ i ≤ ds.length ∧ Ext true H F O H' F' O' ∧ Keeps φ.pr σ σ' ∧ StR T φ H' F' O' σ' ρ' ∧ Kept F1 H1 H' ∧ (∀ b, F1 b → F' b) ∧ PostS T W φ σ H F O D (forL g fb (ds.drop i) ρ'),
    ⟨ds.length, ρ1, F1, O1, by simp, Nat.zero_le _, y1, .refl, S1, .refl, fun _ h => h, P1⟩, ?_⟩
  rintro i m σ' H' ⟨ρ', F', O', rfl, hi, x', k', S', kp, gF, P'⟩
  by_cases hlt : i < ds.length
  · have hd : ds[i]? = some ds[i] := by simp [hlt]
    rw [List.drop_eq_getElem_cons hlt] at P'
    obtain ⟨go, yl⟩ := r1.go H' kp i _ hd
    refine .inr ⟨go, fun σ2 H2 => ∃ ρ' F' O', i + 1 ≤ ds.length ∧ Ext true H F O H2 F' O' ∧ Keeps φ.pr σ σ2 ∧ StR T φ H2 F' O' σ2 ρ' ∧ Kept F1 H1 H2 ∧ (∀ b, F1 b → F' b) ∧ PostS T W φ σ H F O D (forL g fb (ds.drop (i + 1)) ρ'), fun σ2 H2 ⟨ρ2, F2, O2, a, b⟩ => ⟨ds.length - (i + 1), by omega, ρ2, F2, O2, rfl, a, b⟩, fun x H'' y => ?_⟩
    obtain ⟨kH, dx⟩ := yl x H'' y
    have gr : Gr H' F' H'' F' := ⟨kH, fun _ h => h, fun _ h => .inl h⟩
    refine ⟨ds[i], ρ', F', O', S'.E.gr gr, dx.mono .refl gF, ?_⟩
    have P2 : PostS T W φ σ H F O D (match g ds[i] ρ' with
      | none => none
      | some ρ1 => match fb ρ1 with
        | some (.nx ρ2) => forL g fb (ds.drop (i + 1)) ρ2
        | some (.ct ρ2) => forL g fb (ds.drop (i + 1)) ρ2
        | some (.bk ρ2) => some (.nx ρ2)
        | o => o) := P'
    cases q : g ds[i] ρ' with
    | none => rw [q] at P2; exact P2.elim
    | some ρ2 =>
      rw [q] at P2
      dsimp only at P2
      refine fun σ3 O3 E3 k3 s3 => ?_
      have x3 : Ext true H F O H'' F' O3 := ⟨fun b o h n z => (x'.trans gr.ext).keep b o h n z, (x'.trans (gr.ext (O := O'))).live, x'.grow, x'.new, fun j b e => x'.own j b (s3 j b e)⟩
      have S3 : StR T φ H'' F' O3 σ3 ρ2 := ⟨E3, fun b h => S'.lb b (gr.live b h), fun j a hj e => S'.lf j a hj (s3 j a e)⟩
      have kp3 : Kept F1 H1 H'' := kp.trans gF (kept_all kH)
      refine ⟨ρ2, F', O3, S3, ?_⟩
      cases q2 : fb ρ2 with
      | none => rw [q2] at P2; exact P2
      | some o =>
        rw [q2] at P2
        cases o with
        | nx ρ4 => exact fun σ4 H4 F4 O4 x4 S4 k4 => ⟨ρ4, F4, O4, hlt, x3.trans x4, (k'.trans k3).trans k4, S4, kp3.trans gF (S3.E.kept x4), fun b h => x4.grow b (gF b h), P2⟩
        | ct ρ4 => exact fun σ4 H4 F4 O4 x4 S4 k4 => ⟨ρ4, F4, O4, hlt, x3.trans x4, (k'.trans k3).trans k4, S4, kp3.trans gF (S3.E.kept x4), fun b h => x4.grow b (gF b h), P2⟩
        | bk ρ4 => exact fun σ4 H4 F4 O4 x4 S4 k4 => P2 σ4 H4 F4 O4 (x3.trans x4) S4 ((k'.trans k3).trans k4)
        | rt r ρ4 => exact fun v σ4 H4 F4 O4 x4 S4 k4 r4 => P2 v σ4 H4 F4 O4 (x3.trans x4) S4 ((k'.trans k3).trans k4) r4
        | er c fs ρ4 => exact fun cls d σ4 H4 F4 O4 x4 S4 k4 r4 => P2 cls d σ4 H4 F4 O4 (x3.trans x4) S4 ((k'.trans k3).trans k4) r4
  · have e : i = ds.length := by omega
    subst e
    rw [List.drop_length] at P'
    exact .inl ⟨r1.stop H' kp _ (Nat.le_refl _) (Nat.le_refl _), P' σ' H' F' O' x' S' k'⟩
theorem ss_for (hp : PassesOwn (model X.prog X.w) X.A X.env X.xe) (hc : X.calm = true) (hi : SI X T W tg iter it) (hg : SG X T φ.pr tg g) (hb : SB X T W φ body fb) (hs : ∀ x, foldedSetIterable iter X.env x = pure x := by intro _; rfl) : SS X T W φ (.For tg iter body [] pos) (forM it g fb) :=
  ps_imp (ps_for hp hc hi hg hb hs) fun _ _ _ h => for_of h
end
def wipeR (ρ : Rho) : List Nat → Rho
  | [] => ρ
  | v :: vs => (wipeR ρ vs).set v none
def bindN {α β : Type} (o : Option (Oe α)) (g : α → Rho → Option β) : Option β := match o with
  | some (.ok a ρ) => g a ρ
  | _ => none
@[simp] theorem bindN_ok {α β : Type} (a : α) (ρ : Rho) (g : α → Rho → Option β) : bindN (some (.ok a ρ)) g = g a ρ := rfl
@[simp] theorem bindN_er {α β : Type} (c : Nat) (fs : List PyData) (ρ : Rho) (g : α → Rho → Option β) : bindN (some (.er c fs ρ)) g = none := rfl
@[simp] theorem bindN_none {α β : Type} (g : α → Rho → Option β) : bindN none g = none := rfl
def lcL (g : GM) (vs : List Nat) (c : Rho → Option (Oe Bool)) (f : EM) : List PyData → Rho → List PyData → Option (Oe R)
  | [], ρ, acc => some (.ok (.own (.list acc)) ρ)
  | x :: xs, ρ, acc => match g x ρ with
    | none => none
    | some ρ1 => bindN (c ρ1) fun b ρ2 => if b = true then bindN (f ρ2) fun r ρ3 => match frz ρ3 r with
        | some (d, ρ4) => if acc.length < lim then lcL g vs c f xs (wipeR ρ4 vs) (acc ++ [d]) else none
        | none => none
      else lcL g vs c f xs (wipeR ρ2 vs) acc
def lcM (it : IM) (g : GM) (vs : List Nat) (c : Rho → Option (Oe Bool)) (f : EM) : EM := fun ρ => bindO (it ρ) fun ds ρ1 => lcL g vs c f ds (wipeR ρ1 vs) []
def yesT : Rho → Option (Oe Bool) := fun ρ => some (.ok true ρ)
/-- within a comprehension no exception may leave -/
abbrev W0 : WX := fun _ _ _ _ => False
theorem wipeR_length (ρ : Rho) : ∀ vs : List Nat, (wipeR ρ vs).length = ρ.length
  | [] => rfl
  | v :: vs => by unfold wipeR; rw [List.length_set, wipeR_length ρ vs]
theorem wipeR_some {ρ : Rho} {i : Nat} {x : R} : ∀ {vs : List Nat}, (wipeR ρ vs)[i]? = some (some x) → ρ[i]? = some (some x) ∧ i ∉ vs
  | [], h => ⟨h, by simp⟩
  | v :: vs, h => by
    unfold wipeR at h
    by_cases hi : v = i
    · subst hi
      by_cases hv : v < (wipeR ρ vs).length
      · rw [List.getElem?_set_self hv] at h; cases h
      · rw [List.getElem?_eq_none (by simpa using hv)] at h; cases h
    · rw [List.getElem?_set_ne hi] at h
      obtain ⟨h1, h2⟩ := wipeR_some h
      exact ⟨h1, by simp only [List.mem_cons, not_or]; exact ⟨fun e => hi e.symm, h2⟩⟩
theorem wipe_other {σ : L2.St} {i : Nat} : ∀ {vs : List Nat}, i ∉ vs → (wipe σ vs)[i]? = σ[i]?
  | [], _ => rfl
  | v :: vs, h => by
    unfold wipe
    rw [List.getElem?_set_ne (fun e => h (by simp [e])), wipe_other (fun z => h (List.mem_cons_of_mem _ z))]
theorem wipeR_other {ρ : Rho} {i : Nat} : ∀ {vs : List Nat}, i ∉ vs → (wipeR ρ vs)[i]? = ρ[i]?
  | [], _ => rfl
  | v :: vs, h => by
    unfold wipeR
    rw [List.getElem?_set_ne (fun e => h (by simp [e])), wipeR_other (fun z => h (List.mem_cons_of_mem _ z))]
theorem wipe_in {σ : L2.St} {i : Nat} : ∀ {vs : List Nat}, i ∈ vs → i < σ.length → (wipe σ vs)[i]? = some none
  | v :: vs, h, hl => by
    unfold wipe
    by_cases e : v = i
    · subst e
      rw [List.getElem?_set_self (by rw [wipe_length]; exact hl)]
    · rw [List.getElem?_set_ne e]
      exact wipe_in ((List.mem_cons.mp h).elim (fun z => absurd z.symm e) id) hl
theorem wipe_eq {σ σ2 : L2.St} {vs : List Nat} (hl : σ2.length = σ.length) (h : ∀ i, i ∉ vs → σ2[i]? = σ[i]?) : wipe σ2 vs = wipe σ vs := by
  refine List.ext_getElem? fun i => ?_
  by_cases hi : i ∈ vs
  · by_cases hlt : i < σ.length
    · rw [wipe_in hi hlt, wipe_in hi (by rw [hl]; exact hlt)]
    · rw [List.getElem?_eq_none (by rw [wipe_length, hl]; omega), List.getElem?_eq_none (by rw [wipe_length]; omega)]
  · rw [wipe_other hi, wipe_other hi, h i hi]
section
variable {T : Tb} {H : Hp} {F : Reg} {O : Ows} {σ : L2.St} {ρ : Rho} {vs : List Nat}
theorem EnvR.unwipe (E : EnvR T H F O (wipe σ vs) ρ) : EnvR T H F O σ ρ :=
  ⟨by rw [E.len, wipe_length], fun i r e => let ⟨v, h1, h2⟩ := E.at_ i r e; ⟨v, (wipe_some h1).1, h2⟩, E.own, E.inj, E.nf, E.lv, E.tb⟩
theorem EnvR.wiped (E : EnvR T H F O σ ρ) : ∃ O', EnvR T H F O' (wipe σ vs) (wipeR ρ vs) ∧ Sub O' O := by
  have sb : Sub (fun j => if j ∈ vs then [] else O j) O := fun j a q => by
    have q' : a ∈ (if j ∈ vs then [] else O j) := q
    by_cases hj : j ∈ vs
    · rw [if_pos hj] at q'; cases q'
    · rw [if_neg hj] at q'; exact q'
  have ni : ∀ j a, a ∈ (if j ∈ vs then [] else O j) → j ∉ vs := fun j a q hj => by rw [if_pos hj] at q; cases q
  refine ⟨fun j => if j ∈ vs then [] else O j, ⟨by rw [wipe_length, wipeR_length]; exact E.len, fun i r e => ?_, fun i a e => ?_, fun i j a e1 e2 => E.inj i j a (sb i a e1) (sb j a e2), fun i a e => E.nf i a (sb i a e), E.lv, E.tb⟩, sb⟩
  · obtain ⟨h1, h2⟩ := wipeR_some e
    obtain ⟨v, h3, h4⟩ := E.at_ i r h1
    exact ⟨v, by rw [wipe_other h2]; exact h3, by rw [if_neg h2]; exact h4⟩
  · obtain ⟨r, h⟩ := E.own i a (sb i a e)
    exact ⟨r, by rw [wipeR_other (ni i a e)]; exact h⟩
/-- a list that is nobody's slot's changes -/
theorem EnvR.other {p : Addr} {o o' : HO} (E : EnvR T H F O σ ρ) (hp : H p = some o) (ns : ¬ Still o) (nf : ¬ F p) (no : ∀ i, p ∉ O i) (nc : NC o := by first | exact lst_nc | exact dK_nc | exact set_nc) : EnvR T (upd H p o') F O σ ρ ∧ Kept F H (upd H p o') := by
  have k : Kept F H (upd H p o') := fun b u h q => by
    by_cases e : b = p
    · subst e
      rw [hp] at h; cases h
      exact (q.elim (fun z => nf z.1) ns).elim
    · rw [upd_ne e]; exact h
  refine ⟨⟨E.len, fun i r e => ?_, E.own, E.inj, E.nf, fun b h => ?_, tabs_put E.tb hp nc⟩, k⟩
  · obtain ⟨v, h1, h2⟩ := E.at_ i r e
    exact ⟨v, h1, h2.mono k (fun _ h => h) fun a u ha hu => by have n : a ≠ p := fun z => no i (z ▸ ha); rw [upd_ne n]; exact hu⟩
  · by_cases e : b = p
    · subst e; exact (nf h).elim
    · rw [upd_ne e]; exact E.lv b h
end
section
variable {X : Cx} {T : Tb} {W : WX} {pr : Nat → Bool} {it : IM} {g : GM} {vs : List Nat} {c : Rho → Option (Oe Bool)} {f : EM}
theorem tof_N {α β γ : Type} {Ra : Tell α β} {σ : L2.St} {ρ : Rho} {H : Hp} {F : Reg} {O : Ows} {h : Rho → Option (Oe α)} {k : α → Rho → Option γ} {Q' : β → Hp → Prop} {Pp : Option γ → Prop} (hn : ¬ Pp none) (E : EnvR T H F O σ ρ) (P : Pp (bindN (h ρ) k))
    (kk : ∀ v H1 a ρ1 F1 O1, Ext false H F O H1 F1 O1 → EnvR T H1 F1 O1 σ ρ1 → Ra σ H H1 F1 O1 v a → Pp (k a ρ1) → Q' v H1) : Tof T W0 Ra h σ H Q' := by
  refine ⟨ρ, F, O, E, ?_⟩
  cases q : h ρ with
  | none => rw [q] at P; exact hn P
  | some o =>
    rw [q] at P
    cases o with
    | ok a ρ1 => exact fun v H1 F1 O1 x1 E1 r1 => kk v H1 a ρ1 F1 O1 x1 E1 r1 P
    | er c fs ρ1 => exact fun _ _ _ _ _ _ _ _ => hn P
theorem lc_of {σ : L2.St} {H : Hp} {Q : VK} (hpr : ∀ i, i ∉ vs → pr i = true) (h : Tof T W (tlE T) (lcM it g vs c f) σ H Q) : tLc (Tof T W (tlI T) it) (TGof T pr g) (Tof T W0 tlB c) (Tof T W0 (tlE T) f) vs σ H Q := by
  obtain ⟨ρ, F, O, E, P⟩ := h
  refine stp .refl E P fun J H1 ds ρ1 F1 O1 x1 y1 E1 r1 P1 => ?_
  intro D hD
  have hDB : H D = none := y1.live D hD
  obtain ⟨Ow, Ew, sw⟩ := E1.wiped (vs := vs)
  refine ⟨fun i m H' => ∃ ρ' F' O' acc va, m = ds.length - i ∧ i ≤ ds.length ∧ Ext false H F O H' F' O' ∧ EnvR T H' F' O' (wipe σ vs) ρ' ∧ H' D = some (.lst va) ∧ DFs T.K H' F' va acc ∧ ¬ F' D ∧ (∀ j, D ∉ O' j) ∧ Kept F1 H1 H' ∧ (∀ b, F1 b → F' b) ∧ Post T W (tlE T) σ H F O Q (lcL g vs c f (ds.drop i) ρ' acc),
    ⟨ds.length, wipeR ρ1 vs, F1, Ow, [], [], by simp, Nat.zero_le _, ?_, Ew.laid hD, upd_same, .nil, fun q => E1.lv D q hD, fun j q => E1.ne_new hD j (sw j D q), kept_all (kept_new hD), fun _ h => h, P1⟩, ?_⟩
  · have y2 : Ext false H F O (upd H1 D (.lst [])) F1 O1 := y1.trans (.laid hD)
    exact ⟨y2.keep, y2.live, y2.grow, y2.new, fun j b e => y2.own j b (sw j b e)⟩
  rintro i m H' ⟨ρ', F', O', acc, va, rfl, hi, x', E', hDl, sa, nD, oD, kp, gF, P'⟩
  by_cases hlt : i < ds.length
  · have hd : ds[i]? = some ds[i] := by simp [hlt]
    rw [List.drop_eq_getElem_cons hlt] at P'
    obtain ⟨go, yl⟩ := r1.go H' kp i _ hd
    refine .inr ⟨go, fun H2 => ∃ ρ' F' O' acc va, i + 1 ≤ ds.length ∧ Ext false H F O H2 F' O' ∧ EnvR T H2 F' O' (wipe σ vs) ρ' ∧ H2 D = some (.lst va) ∧ DFs T.K H2 F' va acc ∧ ¬ F' D ∧ (∀ j, D ∉ O' j) ∧ Kept F1 H1 H2 ∧ (∀ b, F1 b → F' b) ∧ Post T W (tlE T) σ H F O Q (lcL g vs c f (ds.drop (i + 1)) ρ' acc), fun H2 ⟨ρ2, F2, O2, ac, va, a, b⟩ => ⟨ds.length - (i + 1), by omega, ρ2, F2, O2, ac, va, rfl, a, b⟩, fun x H'' y => ?_⟩
    obtain ⟨kH, dx⟩ := yl x H'' y
    have gr : Gr H' F' H'' F' := ⟨kH, fun _ h => h, fun _ h => .inl h⟩
    refine ⟨ds[i], ρ', F', O', E'.gr gr, dx.mono .refl gF, ?_⟩
    have P2 : Post T W (tlE T) σ H F O Q (match g ds[i] ρ' with
      | none => none
      | some ρ1 => bindN (c ρ1) fun b ρ2 => if b = true then bindN (f ρ2) fun r ρ3 => match frz ρ3 r with
          | some (d, ρ4) => if acc.length < lim then lcL g vs c f (ds.drop (i + 1)) (wipeR ρ4 vs) (acc ++ [d]) else none
          | none => none
        else lcL g vs c f (ds.drop (i + 1)) (wipeR ρ2 vs) acc) := P'
    cases q : g ds[i] ρ' with
    | none => rw [q] at P2; exact P2.elim
    | some ρ2 =>
      rw [q] at P2
      dsimp only at P2
      refine fun σ3 O3 E3 k3 s3 => ?_
      have hw : wipe σ3 vs = wipe σ vs := by
        have e0 : wipe σ3 vs = wipe (wipe σ vs) vs := wipe_eq k3.1 fun j hj => k3.2 j (hpr j hj)
        rw [e0]
        exact wipe_eq (wipe_length σ vs) fun j hj => wipe_other hj
      have oD' : ∀ j, D ∉ O3 j := fun j z => oD j (s3 j D z)
      have x3 : Ext false H F O H'' F' O3 := ⟨fun b o h n z => kH b o (x'.keep b o h n z), fun b h => x'.live b (gr.live b h), x'.grow, x'.new, fun j b e => x'.own j b (s3 j b e)⟩
      have kp3 : Kept F1 H1 H'' := kp.trans gF (kept_all kH)
      have hD3 := kH D _ hDl
      have sa3 : DFs T.K H'' F' va acc := sa.mono (kept_all kH) fun _ h => h
      refine ⟨hw, ?_⟩
      refine tof_N (Pp := Post T W (tlE T) σ H F O Q) (fun z => z) E3 P2 fun b H4 b' ρ4 F4 O4 x4 E4 r4 P4 => ?_
      have r4' : b = b' := r4
      subst r4'
      have hD4 : H4 D = some (.lst va) := x4.keep D _ hD3 oD' trivial
      have nD4 : ¬ F4 D := fun z => by
        rcases x4.new D z with z | ⟨j, z⟩ | z
        · exact nD z
        · exact oD' j z
        · rw [hD3] at z; cases z
      have oD4 : ∀ j, D ∉ O4 j := fun j z => (x4.ow z).elim (fun ⟨k, y⟩ => oD' k y) fun y => by rw [hD3] at y; cases y
      have kp4 := kp3.trans gF (E3.kept x4)
      have sa4 : DFs T.K H4 F4 va acc := sa3.mono (E3.kept x4) x4.grow
      cases b with
      | false =>
        rw [if_neg Bool.false_ne_true] at P4 ⊢
        obtain ⟨O5, E5, s5⟩ := E4.wiped (vs := vs)
        rw [hw] at E5
        have y4 := x3.trans x4
        exact ⟨_, F4, O5, acc, va, hlt, ⟨y4.keep, y4.live, y4.grow, y4.new, fun j b e => y4.own j b (s5 j b e)⟩, E5, hD4, sa4, nD4, fun j z => oD4 j (s5 j D z), kp4, fun b h => x4.grow b (gF b h), P4⟩
      | true =>
        rw [if_pos rfl] at P4 ⊢
        refine tof_N (Pp := Post T W (tlE T) σ H F O Q) (fun z => z) E4 P4 fun v H5 r ρ5 F5 O5 x5 E5 r5 P5 => ?_
        have hD5 : H5 D = some (.lst va) := x5.keep D _ hD4 oD4 trivial
        have nD5 : ¬ F5 D := fun z => by
          rcases x5.new D z with z | ⟨j, z⟩ | z
          · exact nD4 z
          · exact oD4 j z
          · rw [hD4] at z; cases z
        have oD5 : ∀ j, D ∉ O5 j := fun j z => (x5.ow z).elim (fun ⟨k, y⟩ => oD4 k y) fun y => by rw [hD4] at y; cases y
        have kp5 := kp4.trans (fun b h => x4.grow b (gF b h)) (E4.kept x5)
        have sa5 : DFs T.K H5 F5 va acc := sa4.mono (E4.kept x5) x5.grow
        cases q6 : frz ρ5 r with
        | none => rw [q6] at P5; exact P5.elim
        | some p =>
          obtain ⟨d, ρ6⟩ := p
          rw [q6] at P5
          dsimp only at P5
          split at P5
          · rename_i hz
            have y5 := (x3.trans x4).trans x5
            obtain ⟨F6, O6, y6, E6, d6, g6, s6, n6⟩ := fz y5 (fun b h => (x3.trans x4).live b h) E5 r5 q6
            have nD6 : ¬ F6 D := fun z => by
              rcases n6 D z with z | ⟨j, z⟩ | z
              · exact nD5 z
              · exact oD5 j z
              · rw [hD4] at z; cases z
            have oD6 : ∀ j, D ∉ O6 j := fun j z => oD5 j (s6 j D z)
            have sa6 : DFs T.K H5 F6 (va ++ [v]) (acc ++ [d]) := (sa5.mono .refl g6).append (.cons d6 .nil)
            refine ⟨va, hD5, by rw [sa5.length]; exact Nat.lt_of_lt_of_le hz (by decide), ?_⟩
            obtain ⟨O7, E7, s7⟩ := E6.wiped (vs := vs)
            rw [hw] at E7
            obtain ⟨E8, k8⟩ := E7.other (o' := .lst (va ++ [v])) hD5 (fun z => z) nD6 fun j z => oD6 j (s7 j D z)
            refine ⟨_, F6, O7, acc ++ [d], va ++ [v], hlt, ⟨fun b o h n z => ?_, fun b h => ?_, y6.grow, y6.new, fun j b e => y6.own j b (s7 j b e)⟩, E8, upd_same, sa6.mono k8 fun _ h => h, nD6, fun j z => oD6 j (s7 j D z), ?_, fun b h => g6 b (x5.grow b (x4.grow b (gF b h))), P5⟩
            · rw [upd_ne (ne_of_none h hDB)]
              exact y6.keep b o h n z
            · by_cases e : b = D
              · subst e; exact hDB
              · rw [upd_ne e] at h
                exact y6.live b h
            · exact kp5.trans (fun b h => g6 b (x5.grow b (x4.grow b (gF b h)))) k8
          · exact P5.elim
  · have e : i = ds.length := by omega
    subst e
    rw [List.drop_length] at P'
    exact .inl ⟨r1.stop H' kp _ (Nat.le_refl _) (Nat.le_refl _), P' (.ref D) H' F' O' x' E'.unwipe ⟨D, rfl, hDB, nD, oD, va, hDl, sa⟩⟩
end
end DL
namespace DL
open PySem L2 PyProof.Rows
def iSeq (K : PySem.W.Frag) (tl : TE) : TI := fun σ H R => tl σ H fun x H1 => ∃ a, x = .ref a ∧ ((∃ xs, SqL K H1 a xs ∧ R (Itl K a) H1) ∨ (∃ xs, SqT K H1 a xs ∧ R (Itt K a) H1))
theorem pi_seq {X : Cx} {tg l : Expr} {tl : TE} (hl : PE X l tl) : PI X tg l (iSeq X.K tl) := by
  constructor
  intro pins s σ H R I h
  refine thn (hl.run pins s σ H _ I h) ?_
  rintro v s1 ⟨x, H1, I1, r1, a, rfl, z⟩
  have fr : ∀ b ∈ [s1.heap.objs.size], FpOk X pins H1 b := by
    intro b hb
    obtain rfl : b = s1.heap.objs.size := by simpa using hb
    exact I1.fpOk (Nat.le_refl _) (I1.hok.fresh (Nat.le_refl _))
  have J1 : ∀ o : Obj, L2.Inv X pins σ H1 { s1 with heap := s1.heap.push o } := fun o => I1.kept (t' := s1.toks) fun b u e => Heap.get?_push_of_some _ e
  cases r1
  rcases z with ⟨xs, hq, q⟩ | ⟨xs, hq, q⟩
  · obtain ⟨its, rv, p, _⟩ := I1.list hq
    refine wpAny_pyIter_list p.isList ?_
    exact ⟨_, [s1.heap.objs.size], _, _, H1, rfl, J1 _, turn_list a _, ⟨_, Heap.get?_push_size _ rfl, rfl, rfl⟩, fr, q⟩
  · obtain ⟨its, rv, p, _⟩ := I1.tuple hq
    refine wpAny_pyIter_tuple (show s1.heap.IsTuple a its.toArray from p) ?_
    exact ⟨_, [s1.heap.objs.size], _, _, H1, rfl, J1 _, turn_tuple a _, ⟨_, Heap.get?_push_size _ rfl, rfl, rfl⟩, fr, q⟩
/-- the items of a list or tuple -/
def itemsOf : PyData → Option (List PyData)
  | .list ds => some ds
  | .tuple ds => some ds
  | _ => none
def iM (f : EM) : IM := fun ρ => bindO (f ρ) fun r ρ1 => match frz ρ1 r with
  | some (d, ρ2) => (itemsOf d).map fun ds => .ok ds ρ2
  | none => none
def rngL (lo : Int) (n : Nat) : List PyData := (List.range n).map fun (k : Nat) => .int (lo + (k : Int))
/-- within the machine's bounds, asked so that nothing is counted down -/
def inW (j : Int) : Bool := Nat.ble j.toNat 4611686018427387903 && Nat.ble (-j).toNat 4611686018427387904
theorem inW_of {j : Int} (h : inW j = true) : -(2 ^ 62) ≤ j ∧ j < 2 ^ 62 := by
  unfold inW at h
  rw [Bool.and_eq_true] at h
  have a := Nat.le_of_ble_eq_true h.1
  have b := Nat.le_of_ble_eq_true h.2
  omega
theorem inW_is {j : Int} (h1 : -4611686018427387904 ≤ j) (h2 : j < 4611686018427387904) : inW j = true := by
  unfold inW
  rw [Bool.and_eq_true]
  exact ⟨Nat.ble_eq_true_of_le (by omega), Nat.ble_eq_true_of_le (by omega)⟩
def irM1 (fa : EM) : IM := fun ρ => bindO (fa ρ) fun r ρ1 => match r with
  | .dat (.int j) => if inW j = true then some (.ok (rngL 0 j.toNat) ρ1) else none
  | _ => none
def irM2 (fa fb : EM) : IM := fun ρ => bindO (fa ρ) fun r ρ1 => bindO (fb ρ1) fun s ρ2 => match r, s with
  | .dat (.int i), .dat (.int j) => if inW i = true ∧ inW j = true then some (.ok (rngL i (j - i).toNat) ρ2) else none
  | _, _ => none
section
variable {T : Tb} {K : PySem.W.Frag}
theorem LsR.kept {F : Reg} {H H' : Hp} {a : Addr} {xs : List V} (f : F a) (k : Kept F H H') (h : LsR K H a xs) : LsR K H' a xs := h.imp (k.rdF f) id
end
section
variable {T : Tb} {F : Reg} {H : Hp}
theorem it_list {a : Addr} {xs : List V} {ds : List PyData} (r : ∀ H', Kept F H H' → SqL T.K H' a xs) (s : DFs T.K H F xs ds) : ItOk T (Itl T.K a) F H ds :=
  ⟨fun H' k i d h => by
    obtain ⟨v, hv, dv⟩ := s.get h
    refine ⟨⟨xs, v, r H' k, hv⟩, fun x H'' y => ?_⟩
    obtain ⟨rfl, y⟩ := y
    have e := y xs (r _ k)
    rw [hv] at e
    cases e
    exact ⟨fun _ _ h => h, dv.mono k fun _ h => h⟩, fun H' k i h _ => ⟨xs, r H' k, by rw [s.length]; exact h⟩⟩
theorem it_tup {a : Addr} {xs : List V} {ds : List PyData} (r : ∀ H', Kept F H H' → SqT T.K H' a xs) (s : DFs T.K H F xs ds) : ItOk T (Itt T.K a) F H ds :=
  ⟨fun H' k i d h => by
    obtain ⟨v, hv, dv⟩ := s.get h
    refine ⟨⟨xs, v, r H' k, hv⟩, fun x H'' y => ?_⟩
    obtain ⟨rfl, y⟩ := y
    have e := y xs (r _ k)
    rw [hv] at e
    cases e
    exact ⟨fun _ _ h => h, dv.mono k fun _ h => h⟩, fun H' k i h _ => ⟨xs, r H' k, by rw [s.length]; exact h⟩⟩
theorem rngL_get {lo : Int} {n i : Nat} {d : PyData} (h : (rngL lo n)[i]? = some d) : i < n ∧ d = .int (lo + i) := by
  unfold rngL at h
  rw [List.getElem?_map] at h
  by_cases hi : i < n
  · rw [List.getElem?_range hi] at h
    cases h
    exact ⟨hi, rfl⟩
  · rw [List.getElem?_eq_none (by simpa using hi)] at h
    cases h
theorem rngL_len (lo : Int) (n : Nat) : (rngL lo n).length = n := by unfold rngL; simp
theorem it_rng {lo : Int} {n : Nat} : ItOk T (Itr lo n) F H (rngL lo n) :=
  ⟨fun H' k i d h => by
    obtain ⟨hi, rfl⟩ := rngL_get h
    refine ⟨hi, fun x H'' y => ?_⟩
    obtain ⟨rfl, rfl⟩ := y
    exact ⟨fun _ _ h => h, .int _⟩, fun H' k i h _ => by rw [rngL_len] at h; exact h⟩
end
section
variable {X : Cx} {T : Tb} {W : WX} {tg e a b : Expr} {f fa fb : EM} {pos p : Pos}
theorem si_seq (hK : X.K = T.K) (he : SE X T W e f) : SI X T W tg e (iM f) := by
  refine pi_imp (pi_seq he) fun σ H Q ⟨ρ, F, O, E, P⟩ => ?_
  rw [hK]
  refine stp .refl E P fun v H1 r ρ1 F1 O1 x1 y1 E1 r1 P1 => ?_
  cases q : frz ρ1 r with
  | none => rw [q] at P1; exact P1.elim
  | some z =>
    obtain ⟨d, ρ2⟩ := z
    rw [q] at P1
    dsimp only at P1
    obtain ⟨F2, O2, y2, E2, d2, _, _, _⟩ := fz y1 (fun _ h => h) E1 r1 q
    cases d2 with
    | @lst a xs ds f r s => exact ⟨a, rfl, .inl ⟨xs, .inl r, P1 _ _ _ _ y2 E2 (it_list (fun H' k => .inl (k.rdF f r)) s)⟩⟩
    | @lstK a xs ds r s => exact ⟨a, rfl, .inl ⟨xs, LsR.sq (.inr r), P1 _ _ _ _ y2 E2 (it_list (fun H' k => LsR.sq (.inr r)) s)⟩⟩
    | @tup a xs ds r s => exact ⟨a, rfl, .inr ⟨xs, r, P1 _ _ _ _ y2 E2 (it_tup (fun H' k => k.sqT r) s)⟩⟩
    | non => exact P1.elim
    | bl b => exact P1.elim
    | int i => exact P1.elim
    | str x => exact P1.elim
    | dct a b c => exact P1.elim
    | dcT a b c d => exact P1.elim
theorem int_of {H : Hp} {F : Reg} {v : V} {i : Int} (h : DF T.K H F v (.int i)) : v = .int i := by cases h; rfl
theorem si_rng1 (hg : L2.Gl X "range") (hm : X.mg "range" = none) (ha : SE X T W a fa) (hs : starEach [a] X.env = [(false, eval a X.env)] := by rfl) : SI X T W tg (.Call (.Name "range" p) [a] [] pos) (irM1 fa) := by
  refine pi_imp (pi_range1 hg hm (pa_cons ha pa_nil hs) hs) fun σ H Q ⟨ρ, F, O, E, P⟩ => ?_
  refine stp .refl E P fun v H1 r ρ1 F1 O1 x1 y1 E1 r1 P1 => ?_
  split at P1
  · rename_i j
    split at P1
    · rename_i hz
      exact ⟨j, by rw [int_of r1], (inW_of hz).1, (inW_of hz).2, P1 _ _ _ _ y1 E1 it_rng⟩
    · exact P1.elim
  · exact P1.elim
end
theorem Cxt.blk {X : Cx} {T : Tb} {W : WX} {n : Nat} (c : Cxt X T W n) (s : Shared) (H : Hp) (scope : Scope) (env : Env) (fp : List Addr) : Cxt (X.blk s H scope env fp) T W0 n :=
  ⟨c.hK, c.hw, c.calm, c.room, c.gd, takes0, PassesOwn.never, c.nd, c.sm⟩
def STs (X : Cx) (T : Tb) (ifs : List Expr) (c : Rho → Option (Oe Bool)) : Prop := PTs X ifs (Tof T W0 tlB c)
section
variable {X : Cx} {T : Tb} {W : WX} {elt tg iter : Expr} {ifs : List Expr} {scope : Scope} {own : List (Str × Nat)} {pos : Pos} {it : IM} {g : GM} {c : Rho → Option (Oe Bool)} {f : EM} {pr : Nat → Bool}
theorem sts_nil : STs X T [] yesT := ⟨fun pins s σ H Q I ⟨ρ, F, O, E, P⟩ => pts_nil.run pins s σ H Q I (P true H F O .refl E rfl)⟩
/-- pr: all slots but the block's own -/
def prB (vs : List Nat) (i : Nat) : Bool := !vs.contains i
theorem prB_ok {vs : List Nat} : ∀ i, i ∉ vs → prB vs i = true := fun i h => by simp [prB, h]
theorem se_lc (hc : X.calm = true) (hN : X.N.Nodup) (hi : SI X T W tg iter it) (ok : BlkOk X.N X.env.scope scope own)
    (hg : ∀ (s : Shared) (H : Hp) (C : Addr) (cl : List (Str × Addr)) (fp : List Addr), SG (X.blk s H scope (compEnvC scope cl C X.env) fp) T (prB (own.map (·.2))) tg g)
    (ht : ∀ (s : Shared) (H : Hp) (C : Addr) (cl : List (Str × Addr)) (fp : List Addr), STs (X.blk s H scope (compEnvC scope cl C X.env) fp) T ifs c)
    (he : ∀ (s : Shared) (H : Hp) (C : Addr) (cl : List (Str × Addr)) (fp : List Addr), SE (X.blk s H scope (compEnvC scope cl C X.env) fp) T W0 elt f) (hs : ∀ x, foldedSetIterable iter X.env x = pure x := by intro _; rfl) :
    SE X T W (.ListComp elt [⟨tg, iter, ifs, 0⟩] scope pos) (lcM it g (own.map (·.2)) c f) :=
  pe_imp (pe_lc hc hN hi ok hg ht he hs) fun _ _ _ h => lc_of prB_ok h
end
end DL
namespace DL
open PySem L2 PyProof.Rows
abbrev Sem := List R → Option (Oe R)
def PostF (T : Tb) (vs : List V) (H : Hp) (F : Reg) (O : Ows) (Q : VK) (E : XK) : Option (Oe R) → Prop
  | some (.ok r ρ) => ∀ v H' F' O', Ext true H F O H' F' O' → EnvR T H' F' O' (vs.map some) ρ → ResR T H H' F' O' [] v r → Q v H'
  | some (.er c fs ρ) => ∀ cls d H' F' O', Ext true H F O H' F' O' → EnvR T H' F' O' (vs.map some) ρ → ExcR T H' cls d c fs → E cls d H'
  | none => False
/-- a def's promise, by what it comes to -/
def spOf (T : Tb) (n : Nat) (sem : Sem) : Sp := fun vs H Q E => ∃ args F O, vs.length = n ∧ EnvR T H F O (vs.map some) (args.map some) ∧ PostF T vs H F O Q E (sem args)
/-- what the caller's slots hold behind a call: pr: the parameters that the def never stores -/
def outs (n : Nat) (pr : Nat → Bool) (ρ : Rho) : Rho := (List.range n).map fun i => if pr i = true then ρ[i]?.join else none
def runD (n m : Nat) (pr : Nat → Bool) (f : SM) : Sem := fun args => if args.length = n then match f (args.map some ++ List.replicate (m - n) none) with
    | some (.nx ρ) => some (.ok (.dat .none) (outs n pr ρ))
    | some (.rt r ρ) => some (.ok r (outs n pr ρ))
    | some (.er c fs ρ) => some (.er c fs (outs n pr ρ))
    | _ => none
  else none
/-- a def's promise where the walk knows that no repr runs around it -/
structure FnG (P : Program) (w : World) (K : PySem.W.Frag) (mg : Str → Option Value) (base : Heap) (k : Nat) (f : Addr) (fd : FuncData) (ps : List Str) (sp : Sp) : Prop where
  len : ∀ vs H Q E, sp vs H Q E → vs.length = ps.length
  run : ∀ (A : Around) (outer : List Env) (s : Shared) (H : Hp) (args : Args) (us : List Value) (vs : List V) (Q : VK) (E : XK), A.guards = some [] → Room k A → Env0 P w K mg base A outer s H → BindsTo s fd args (ps.zip us) →
    Vals vs us → sp vs H Q E → codeAny (model P w) A (.call (.ref f) args) (CR (L2.CX P w) outer P w H s Q E) s
section
variable {T : Tb}
theorem outs_get {n : Nat} {pr : Nat → Bool} {ρ : Rho} {i : Nat} {r : R} (h : (outs n pr ρ)[i]? = some (some r)) : i < n ∧ pr i = true ∧ ρ[i]? = some (some r) := by
  unfold outs at h
  rw [List.getElem?_map] at h
  by_cases hi : i < n
  · rw [List.getElem?_range hi] at h
    have h' : (if pr i = true then ρ[i]?.join else none) = some r := Option.some.inj h
    by_cases hp : pr i = true
    · rw [if_pos hp] at h'
      cases q : ρ[i]? with
      | none => rw [q] at h'; cases h'
      | some x => rw [q] at h'; exact ⟨hi, hp, by rw [show x = some r from h']⟩
    · rw [if_neg hp] at h'; cases h'
  · rw [List.getElem?_eq_none (by simpa using hi)] at h
    cases h
theorem outs_put {n : Nat} {pr : Nat → Bool} {ρ : Rho} {i : Nat} {r : R} (hi : i < n) (hp : pr i = true) (h : ρ[i]? = some (some r)) : (outs n pr ρ)[i]? = some (some r) := by
  unfold outs
  rw [List.getElem?_map, List.getElem?_range hi]
  show some (if pr i = true then ρ[i]?.join else none) = _
  rw [if_pos hp, h]
  rfl
theorem start_get {N : List Str} {vs : List V} {i : Nat} {v : V} (h : (L2.start N vs)[i]? = some (some v)) : vs[i]? = some v := by
  unfold L2.start at h
  by_cases hi : i < vs.length
  · rw [List.getElem?_append_left (by simpa using hi), List.getElem?_map] at h
    cases q : vs[i]? with
    | none => rw [q] at h; cases h
    | some u => rw [q] at h; cases h; rfl
  · rw [List.getElem?_append_right (by simpa using hi), List.getElem?_replicate] at h
    split at h <;> cases h
theorem start_put {N : List Str} {vs : List V} {i : Nat} {v : V} (h : vs[i]? = some v) : (L2.start N vs)[i]? = some (some v) := by
  have hi : i < vs.length := lt_of_at h
  unfold L2.start
  rw [List.getElem?_append_left (by simpa using hi), List.getElem?_map, h]
  rfl
/-- the slots at a def's entry -/
theorem env_start {N : List Str} {H : Hp} {F : Reg} {O : Ows} {vs : List V} {args : List R} (hN : vs.length ≤ N.length) (E : EnvR T H F O (vs.map some) (args.map some)) : EnvR T H F O (L2.start N vs) (args.map some ++ List.replicate (N.length - args.length) none) := by
  have hl : args.length = vs.length := by have := E.len; simpa using this
  have get : ∀ i r, (args.map some ++ List.replicate (N.length - args.length) none)[i]? = some (some r) → (args.map some)[i]? = some (some r) := fun i r e => by
    by_cases hi : i < args.length
    · rw [List.getElem?_append_left (by simpa using hi)] at e; exact e
    · rw [List.getElem?_append_right (by simpa using hi), List.getElem?_replicate] at e
      split at e <;> cases e
  refine ⟨?_, fun i r e => ?_, fun i a e => ?_, E.inj, E.nf, E.lv, E.tb⟩
  · unfold L2.start
    simp only [List.length_append, List.length_map, List.length_replicate]
    omega
  · obtain ⟨v, h1, h2⟩ := E.at_ i r (get i r e)
    refine ⟨v, ?_, h2⟩
    rw [List.getElem?_map] at h1
    cases q : vs[i]? with
    | none => rw [q] at h1; cases h1
    | some u => rw [q] at h1; cases h1; exact start_put q
  · obtain ⟨r, e1⟩ := E.own i a e
    have hi : i < args.length := by have := lt_of_at e1; simpa using this
    exact ⟨r, by rw [List.getElem?_append_left (by simpa using hi)]; exact e1⟩
/-- the parameters behind a def's end -/
theorem env_out {N : List Str} {φ : Fm} {H' : Hp} {F' : Reg} {O' : Ows} {σ' : L2.St} {ρ : Rho} {vs : List V} (hn : vs.length = φ.n) (S : StR T φ H' F' O' σ' ρ) (k : Keeps φ.pr (L2.start N vs) σ') :
    ∃ O2, EnvR T H' F' O2 (vs.map some) (outs φ.n φ.pr ρ) ∧ Sub O2 O' := by
  have E := S.E
  have sb : Sub (fun i => if i < φ.n ∧ φ.pr i = true then O' i else []) O' := fun i a e => by
    have e' : a ∈ (if i < φ.n ∧ φ.pr i = true then O' i else []) := e
    split at e'
    · exact e'
    · cases e'
  refine ⟨fun i => if i < φ.n ∧ φ.pr i = true then O' i else [], ⟨?_, fun i r e => ?_, fun i a e => ?_, fun i j a e1 e2 => E.inj i j a (sb i a e1) (sb j a e2), fun i a e => E.nf i a (sb i a e), E.lv, E.tb⟩, sb⟩
  · unfold outs
    simp [hn]
  · obtain ⟨h1, h2, h3⟩ := outs_get e
    obtain ⟨v, h4, h5⟩ := E.at_ i r h3
    refine ⟨v, ?_, by rw [if_pos ⟨h1, h2⟩]; exact h5⟩
    rw [k.2 i h2] at h4
    rw [List.getElem?_map, start_get h4]
    rfl
  · have e' : a ∈ (if i < φ.n ∧ φ.pr i = true then O' i else []) := e
    split at e'
    · rename_i h
      obtain ⟨r, e1⟩ := E.own i a e'
      exact ⟨r, outs_put h.1 h.2 e1⟩
    · cases e'
theorem Ext.sub {H H' : Hp} {F F' : Reg} {O O' O2 : Ows} {s : Bool} (x : Ext s H F O H' F' O') (sb : Sub O2 O') : Ext s H F O H' F' O2 := ⟨x.keep, x.live, x.grow, x.new, fun i b e => x.own i b (sb i b e)⟩
theorem ResR.sub {H0 H : Hp} {F : Reg} {O O2 : Ows} {σ : L2.St} {v : V} (sb : Sub O2 O) : ∀ {r : R}, ResR T H0 H F O σ v r → ResR T H0 H F O2 σ v r
  | .dat _, h => h
  | .own _, ⟨a, h1, h2, h3, h4, h5⟩ => ⟨a, h1, h2, h3, fun i e => h4 i (sb i a e), h5⟩
  | .slt _, h => h
  | .fn _, h => h
  | .st _, ⟨a, h1, h2, h3, h4, h5⟩ => ⟨a, h1, h2, h3, fun i e => h4 i (sb i a e), h5⟩
  | .ex _ _, h => h
  | .two _ _, ⟨p, a, b, h1, h2, h3, ⟨a1, a2, a3, a4⟩, b1, b2, b3, b4⟩ => ⟨p, a, b, h1, h2, h3, ⟨a1, a2, fun i e => a3 i (sb i a e), a4⟩, b1, b2, fun i e => b3 i (sb i b e), b4⟩
  | .obj _, ⟨L, h1, h2⟩ => ⟨L, fun b hb => ⟨(h1 b hb).1, (h1 b hb).2.1, fun i e => (h1 b hb).2.2 i (sb i b e)⟩, h2⟩
  | .prt _ _, h => h
/-- from a def's promise to its body's reading -/
theorem body_of {N : List Str} {n : Nat} {pr : Nat → Bool} {m : SM} {vs : List V} {H : Hp} {Q : VK} {E : XK} (hN : n ≤ N.length) (h : spOf T n (runD n N.length pr m) vs H Q E) :
    TSof T (fun cls d _ H' => E cls d H') ⟨H, n, pr⟩ m { nx := fun _ H' => Q .non H', rt := Q } (L2.start N vs) H := by
  obtain ⟨args, F, O, hl, En, P⟩ := h
  have hla : args.length = n := by have := En.len; simp at this; omega
  unfold runD at P
  rw [if_pos hla] at P
  have E0 := env_start (N := N) (by omega) En
  rw [hla] at E0
  refine ⟨_, F, O, ⟨E0, fun b h => h, fun i a hi e => ?_⟩, ?_⟩
  · obtain ⟨r, e1⟩ := En.own i a e
    have h1 := lt_of_at e1
    simp at h1
    have hi' : n ≤ i := hi
    omega
  cases q : m (args.map some ++ List.replicate (N.length - n) none) with
  | none => rw [q] at P; exact P
  | some o =>
    rw [q] at P
    cases o with
    | nx ρ =>
      intro σ' H' F' O' x S k
      obtain ⟨O2, E2, sb⟩ := env_out hl S k
      exact P .non H' F' O2 (x.sub sb) E2 .non
    | rt r ρ =>
      intro v σ' H' F' O' x S k rr
      obtain ⟨O2, E2, sb⟩ := env_out hl S k
      exact P v H' F' O2 (x.sub sb) E2 (rr.sub sb)
    | er c fs ρ =>
      intro cls d σ' H' F' O' x S k rr
      obtain ⟨O2, E2, sb⟩ := env_out hl S k
      exact P cls d H' F' O2 (x.sub sb) E2 rr
    | bk ρ => exact P.elim
    | ct ρ => exact P.elim
end
/-- a def by its body: m is what the body comes to -/
theorem fn_g {T : Tb} {P : Program} {w : World} {K : PySem.W.Frag} {mg : Str → Option Value} {base : Heap} {k n : Nat} {x qual : Str} {st : Stmt} {f : Addr} {fd : FuncData} {N ps : List Str} {pr : Nat → Bool} {m : SM} (G : Fun K x qual st f fd) (S : FnScope N ps (defScope st)) (hn : ps.length = n)
    (hK : K = T.K) (hw : w = T.w) (hsm : base.get? sysModules ≠ none)
    (body : ∀ (X : Cx) (W : WX) (H : Hp), X.prog = P → X.w = w → X.K = K → X.mg = mg → X.base = base → X.N = N → X.env.scope = defScope st → X.env.scope.kind = .function → X.fn = (fun _ => true) → Cxt X T W k → SB X T W ⟨H, n, pr⟩ (defBody st) m) :
    FnG P w K mg base (k + 1) f fd ps (spOf T n (runD n N.length pr m)) := by
  have hN : n ≤ N.length := by
    have h := congrArg List.length S.pre
    rw [List.length_take] at h
    omega
  obtain ⟨oc, od, kV, doc, pm, an, cdv, ct, osl, rfl, lk, hcd⟩ := G.ex
  refine ⟨fun vs H Q E ⟨_, _, _, hl, _⟩ => hl.trans hn.symm, ?_⟩
  intro A outer s H args us vs Q E hg hr e0 hb r hsp
  have hl : vs.length = ps.length := by obtain ⟨_, _, _, q, _⟩ := hsp; exact q.trans hn.symm
  have kin : K.In s.heap := e0.mod.kin.keeps fun b o e => (e0.bs b o e).1
  have lim : s.heap.NoLimit := e0.mod.nolimit.keeps fun b o e => (e0.bs b o e).1
  have kinds : ∀ y ∈ ps.zip us, (defScope st).names.lookup y.1 = some .local ∨ ((defScope st).names.lookup y.1 = some .cell ∧ ((cellsFrom (s.heap.objs.size + 1) (defScope st).names []).lookup y.1).isSome = true) := by
    rintro ⟨y, v⟩ hy
    exact (S.par y (List.of_mem_zip hy).1).imp id fun q => ⟨q, PySem.W.cellsFrom_some _ _ _ (.inl q)⟩
  refine codeAny_call_function hr.depth (kin _ _ lk) rfl S.co S.gen rfl (PySem.W.codeRec_of kin hcd) (hb _ _ _ _ ?_)
  refine wpAny_newFunctionEnv_cells S.kind kinds ?_
  rintro env rfl s1 ic
  refine ⟨lim.keeps ic.toInCall.keep, codeAny_func ?_⟩
  let X := cxOf (L2.CX P w) P w K mg base N qual (defScope st) f cdv A outer s H E
  have I : L2.Inv X [] (L2.start N vs) H s1 := inv_start S hr.hd e0 hl r ic
  have cx : Cxt X T (fun cls d _ H' => E cls d H') k := ⟨hK, hw, rfl, hr.deeper _, hg, takes_of rfl rfl rfl rfl, passes_of rfl, S.nd, hsm⟩
  have B := body X _ H rfl rfl rfl rfl rfl rfl rfl S.kind rfl cx
  refine wpAny_mono (B.run [] s1 (L2.start N vs) H _ I (body_of hN hsp)) ?_ fun _ _ z => z
  intro fl s' hs
  cases fl with
  | ret u =>
    obtain ⟨v, σ', H', J, rv, q⟩ := hs
    exact ⟨v, H', J.os, J.bare, J.base, J.hok, rv, q⟩
  | next =>
    obtain ⟨σ', H', J, q⟩ := hs
    exact ⟨.non, H', J.os, J.bare, J.base, J.hok, rfl, q⟩
  | brk =>
    obtain ⟨_, _, _, q⟩ := hs
    exact q.elim
  | cont =>
    obtain ⟨_, _, _, q⟩ := hs
    exact q.elim
/-- an object that may be handed on -/
def okO : OD → Bool
  | .pr _ _ _ => false
  | .many _ xs => xs.all Option.isSome
  | _ => true
def pass1 (ρ : Rho) : R → Option R
  | .dat d => some (.dat d)
  | .fn k => some (.fn k)
  | .ex c fs => some (.ex c fs)
  | .obj o => if okO o = true then some (.obj o) else none
  | .slt i => match ρ[i]? with
    | some (some (.own d)) => some (.own d)
    | some (some (.dat d)) => some (.dat d)
    | some (some (.st xs)) => some (.st xs)
    | some (some (.obj o)) => if okO o = true then some (.obj o) else none
    | _ => none
  | _ => none
def passA (ρ : Rho) : List R → Option (List R)
  | [] => some []
  | r :: rs => match pass1 ρ r, passA ρ rs with
    | some a, some as => some (a :: as)
    | _, _ => none
def isSlt (j : Nat) : R → Bool
  | .slt i => i == j
  | _ => false
def posOf (j : Nat) : List R → Option Nat
  | [] => none
  | r :: rs => if isSlt j r = true then some 0 else (posOf j rs).map (· + 1)
/-- no new object among them -/
def noOb : List R → Bool
  | [] => true
  | .obj _ :: _ => false
  | _ :: rs => noOb rs
def dist : List R → Bool
  | [] => true
  | .slt i :: rs => (posOf i rs).isNone && dist rs
  | .obj _ :: rs => noOb rs && dist rs
  | _ :: rs => dist rs
def isOwn : Option R → Bool
  | some (.own _) => true
  | some (.st _) => true
  | some (.obj _) => true
  | _ => false
/-- an object is an object's alone -/
def mend (x : Option R) : Option R → Option R
  | some (.obj o) => match x with
    | some (.obj _) => some (.obj o)
    | _ => none
  | y => y
/-- what the slots hold behind the call -/
def backA (ρ : Rho) (rs : List R) (os : Rho) : Rho := ρ.mapIdx fun j x => if isOwn x = true then match posOf j rs with
    | some k => mend x os[k]?.join
    | none => x
  else x
def callM (sem : Sem) (fa : AM) : EM := fun ρ => bindO (fa ρ) fun rs ρ1 => if dist rs = true then match passA ρ1 rs with
    | some args => match sem args with
      | some (.ok r os) => some (.ok r (backA ρ1 rs os))
      | some (.er c fs os) => some (.er c fs (backA ρ1 rs os))
      | none => none
    | none => none
  else none
end DL
namespace DL
open PySem L2 PyProof.Rows
theorem posOf_some {j : Nat} : ∀ {rs : List R} {k : Nat}, posOf j rs = some k → rs[k]? = some (.slt j)
  | r :: rs, k, h => by
    unfold posOf at h
    split at h
    · rename_i q
      cases h
      cases r with
      | slt i => have e : i = j := by simpa [isSlt] using q
                 subst e; rfl
      | dat d => simp [isSlt] at q
      | own d => simp [isSlt] at q
      | fn d => simp [isSlt] at q
      | st d => simp [isSlt] at q
      | ex c d => simp [isSlt] at q
      | two c d => simp [isSlt] at q
      | obj o => simp [isSlt] at q
      | prt c d => simp [isSlt] at q
    · obtain ⟨k', h1, rfl⟩ := Option.map_eq_some_iff.mp h
      simpa using posOf_some h1
theorem posOf_none {j : Nat} : ∀ {rs : List R} {k : Nat}, posOf j rs = none → rs[k]? ≠ some (.slt j)
  | [], _, _ => by simp
  | r :: rs, 0, h => fun e => by
    have e' : r = .slt j := by simpa using e
    subst e'
    simp [posOf, isSlt] at h
  | r :: rs, k + 1, h => fun e => by
    unfold posOf at h
    split at h
    · cases h
    · have h1 : posOf j rs = none := by simpa using h
      exact posOf_none (k := k) h1 (by simpa using e)
theorem dist_ok : ∀ {rs : List R} {j k k' : Nat}, dist rs = true → rs[k]? = some (.slt j) → rs[k']? = some (.slt j) → k = k'
  | r :: rs, j, 0, 0, _, _, _ => rfl
  | r :: rs, j, 0, k' + 1, h, e, e' => by
    have e1 : r = .slt j := by simpa using e
    subst e1
    simp only [dist, Bool.and_eq_true, Option.isNone_iff_eq_none] at h
    exact absurd (by simpa using e') (posOf_none (k := k') h.1)
  | r :: rs, j, k + 1, 0, h, e, e' => by
    have e1 : r = .slt j := by simpa using e'
    subst e1
    simp only [dist, Bool.and_eq_true, Option.isNone_iff_eq_none] at h
    exact absurd (by simpa using e) (posOf_none (k := k) h.1)
  | r :: rs, j, k + 1, k' + 1, h, e, e' => by
    have h' : dist rs = true := by
      cases r <;> simp only [dist, Bool.and_eq_true] at h <;> first | exact h.2 | exact h
    have a1 : rs[k]? = some (.slt j) := by simpa using e
    have a2 : rs[k']? = some (.slt j) := by simpa using e'
    rw [dist_ok h' a1 a2]
theorem noOb_ok : ∀ {rs : List R} {k : Nat} {o : OD}, noOb rs = true → rs[k]? ≠ some (.obj o)
  | [], k, o, _ => by simp
  | r :: rs, 0, o, h => fun e => by
    have e1 : r = .obj o := by simpa using e
    subst e1
    cases h
  | r :: rs, k + 1, o, h => fun e => by
    have h' : noOb rs = true := by cases r <;> first | exact h | cases h
    exact noOb_ok (k := k) (o := o) h' (by simpa using e)
theorem dist_ob : ∀ {rs : List R} {k k' : Nat} {o o' : OD}, dist rs = true → rs[k]? = some (.obj o) → rs[k']? = some (.obj o') → k = k'
  | [], _, _, _, _, _, e, _ => by simp at e
  | r :: rs, 0, 0, _, _, _, _, _ => rfl
  | r :: rs, 0, k' + 1, o, o', h, e, e' => by
    have e1 : r = .obj o := by simpa using e
    subst e1
    simp only [dist, Bool.and_eq_true] at h
    exact absurd (by simpa using e') (noOb_ok (k := k') (o := o') h.1)
  | r :: rs, k + 1, 0, o, o', h, e, e' => by
    have e1 : r = .obj o' := by simpa using e'
    subst e1
    simp only [dist, Bool.and_eq_true] at h
    exact absurd (by simpa using e) (noOb_ok (k := k) (o := o) h.1)
  | r :: rs, k + 1, k' + 1, o, o', h, e, e' => by
    have h' : dist rs = true := by
      cases r <;> simp only [dist, Bool.and_eq_true] at h <;> first | exact h.2 | exact h
    have a1 : rs[k]? = some (.obj o) := by simpa using e
    have a2 : rs[k']? = some (.obj o') := by simpa using e'
    rw [dist_ob h' a1 a2]
section
variable {T : Tb} {B H : Hp} {FB F : Reg} {OB O : Ows} {σ : L2.St} {ρ : Rho} {L : Nat → List Addr}
/-- the owners among the arguments -/
def Oa (L : Nat → List Addr) (O : Ows) (rs : List R) : Ows := fun k => match rs[k]? with
  | some (.slt i) => O i
  | some (.obj _) => L k
  | _ => []
theorem Oa_some {rs : List R} {k : Nat} {a : Addr} (h : a ∈ Oa L O rs k) : (∃ i, rs[k]? = some (.slt i) ∧ a ∈ O i) ∨ ∃ o, rs[k]? = some (.obj o) ∧ a ∈ L k := by
  unfold Oa at h
  split at h
  · rename_i i q; exact .inl ⟨i, q, h⟩
  · rename_i o q; exact .inr ⟨o, q, h⟩
  · cases h
/-- L: the places of the new objects among the arguments -/
def TmpOk (T : Tb) (B H : Hp) (F : Reg) (O : Ows) (L : Nat → List Addr) (vs : List V) (rs : List R) : Prop :=
  ∀ k v o, vs[k]? = some v → rs[k]? = some (.obj o) → (∀ b, b ∈ L k → B b = none ∧ ¬ F b ∧ ∀ i, b ∉ O i) ∧ ObjAt T H F (L k) v o
theorem resRs_get : ∀ {vs : List V} {rs : List R} {k : Nat} {r : R}, ResRs T B H F O σ vs rs → rs[k]? = some r → ∃ v, vs[k]? = some v ∧ ResR T B H F O σ v r
  | _, _, _, _, .nil, e => by simp at e
  | _, _, 0, _, .cons a _, e => by simp at e; subst e; exact ⟨_, rfl, a⟩
  | _, _, k + 1, r, .cons _ b, e => by
    obtain ⟨v, h1, h2⟩ := resRs_get (k := k) (r := r) b (by simpa using e)
    exact ⟨v, by simpa using h1, h2⟩
theorem resRs_len : ∀ {vs : List V} {rs : List R}, ResRs T B H F O σ vs rs → vs.length = rs.length
  | _, _, .nil => rfl
  | _, _, .cons _ b => by rw [List.length_cons, List.length_cons, resRs_len b]
theorem tmps {vs : List V} {rs : List R} (r : ResRs T B H F O σ vs rs) : ∃ L, TmpOk T B H F O L vs rs := by
  have key : ∀ k : Nat, ∃ Lk : List Addr, ∀ (v : V) (o : OD), vs[k]? = some v → rs[k]? = some (R.obj o) → (∀ b, b ∈ Lk → B b = none ∧ ¬ F b ∧ ∀ i, b ∉ O i) ∧ ObjAt T H F Lk v o := fun k => by
    cases hk : rs[k]? with
    | none => exact ⟨[], fun _ _ _ e => by cases e⟩
    | some r0 =>
      cases r0 with
      | obj o =>
        obtain ⟨v, hv, Lk, h1, h2⟩ := resRs_get r hk
        exact ⟨Lk, fun v' o' e1 e2 => by rw [hv] at e1; cases e1; cases e2; exact ⟨h1, h2⟩⟩
      | _ => exact ⟨[], fun _ _ _ e => by cases e⟩
  exact ⟨fun k => Classical.choose (key k), fun k => Classical.choose_spec (key k)⟩
theorem passA_get : ∀ {rs args : List R} {k : Nat} {a : R}, passA ρ rs = some args → args[k]? = some a → ∃ r, rs[k]? = some r ∧ pass1 ρ r = some a
  | [], args, k, a, h, e => by cases h; simp at e
  | r :: rs, args, k, a, h, e => by
    unfold passA at h
    cases q1 : pass1 ρ r with
    | none => rw [q1] at h; cases h
    | some b =>
      cases q2 : passA ρ rs with
      | none => rw [q1, q2] at h; cases h
      | some bs =>
        rw [q1, q2] at h
        cases h
        cases k with
        | zero => simp at e; subst e; exact ⟨r, rfl, q1⟩
        | succ k =>
          obtain ⟨r', h1, h2⟩ := passA_get (k := k) (a := a) q2 (by simpa using e)
          exact ⟨r', by simpa using h1, h2⟩
theorem passA_len : ∀ {rs args : List R}, passA ρ rs = some args → args.length = rs.length
  | [], args, h => by cases h; rfl
  | r :: rs, args, h => by
    unfold passA at h
    cases q1 : pass1 ρ r with
    | none => rw [q1] at h; cases h
    | some b =>
      cases q2 : passA ρ rs with
      | none => rw [q1, q2] at h; cases h
      | some bs =>
        rw [q1, q2] at h
        cases h
        rw [List.length_cons, List.length_cons, passA_len q2]
theorem passA_there : ∀ {rs args : List R} {k : Nat} {r : R}, passA ρ rs = some args → rs[k]? = some r → ∃ a, args[k]? = some a := fun {rs args k r} h e => by
  have hk := lt_of_at e
  rw [← passA_len h] at hk
  exact ⟨args[k], by simp [hk]⟩
/-- the arguments, as a def takes them -/
theorem env_args (E : EnvR T H F O σ ρ) {vs : List V} {rs args : List R} (hd : dist rs = true) (r : ResRs T B H F O σ vs rs) (tm : TmpOk T B H F O L vs rs) (p : passA ρ rs = some args) : EnvR T H F (Oa L O rs) (vs.map some) (args.map some) := by
  have thr : ∀ (k : Nat) (o : OD), rs[k]? = some (R.obj o) → ∃ v, vs[k]? = some v := fun k o h => let ⟨v, hv, _⟩ := resRs_get r h; ⟨v, hv⟩
  refine ⟨by rw [List.length_map, List.length_map, passA_len p, resRs_len r], fun k a e => ?_, fun k a e => ?_, fun k k' a e1 e2 => ?_, fun k a e => ?_, E.lv, E.tb⟩
  · have e' : args[k]? = some a := by
      rw [List.getElem?_map] at e
      cases q : args[k]? with
      | none => rw [q] at e; cases e
      | some b => rw [q] at e; cases e; rfl
    obtain ⟨s, h1, h2⟩ := passA_get p e'
    obtain ⟨v, h3, h4⟩ := resRs_get r h1
    refine ⟨v, by rw [List.getElem?_map, h3]; rfl, ?_⟩
    cases s with
    | dat d =>
      cases h2
      exact ⟨by unfold Oa; rw [h1], h4⟩
    | fn d =>
      cases h2
      exact ⟨by unfold Oa; rw [h1], h4⟩
    | own d => cases h2
    | st d => cases h2
    | ex c d =>
      cases h2
      exact ⟨by unfold Oa; rw [h1], h4⟩
    | two c d => cases h2
    | obj o =>
      have h2' : (if okO o = true then some (R.obj o) else none) = some a := h2
      split at h2'
      all_goals cases h2'
      have := (tm k v o h3 h1).2
      show ObjAt T H F (Oa L O rs k) v o
      rw [show Oa L O rs k = L k by unfold Oa; rw [h1]]
      exact this
    | prt c d => cases h2
    | slt i =>
      have hO : Oa L O rs k = O i := by unfold Oa; rw [h1]
      rw [hO]
      have h2' := h2
      unfold pass1 at h2'
      dsimp only at h2'
      split at h2'
      all_goals first
        | (rename_i q
           cases h2'
           obtain ⟨u, hu, su⟩ := E.at_ i _ q
           have h4' : σ[i]? = some (some v) := h4
           rw [h4'] at hu
           cases hu
           exact su)
        | (rename_i q
           split at h2' <;> cases h2'
           obtain ⟨u, hu, su⟩ := E.at_ i _ q
           have h4' : σ[i]? = some (some v) := h4
           rw [h4'] at hu
           cases hu
           exact su)
        | cases h2'
  · rcases Oa_some e with ⟨i, h1, h2⟩ | ⟨o, h1, h2⟩
    · obtain ⟨b, h3⟩ := passA_there p h1
      exact ⟨b, by rw [List.getElem?_map, h3]; rfl⟩
    · obtain ⟨b, h3⟩ := passA_there p h1
      exact ⟨b, by rw [List.getElem?_map, h3]; rfl⟩
  · rcases Oa_some e1 with ⟨i, h1, h2⟩ | ⟨o, h1, h2⟩
    · rcases Oa_some e2 with ⟨j, h3, h4⟩ | ⟨o, h3, h4⟩
      · have := E.inj i j a h2 h4
        subst this
        exact dist_ok hd h1 h3
      · obtain ⟨v, hv⟩ := thr k' o h3
        exact absurd h2 (((tm k' v o hv h3).1 a h4).2.2 i)
    · rcases Oa_some e2 with ⟨j, h3, h4⟩ | ⟨o', h3, h4⟩
      · obtain ⟨v, hv⟩ := thr k o h1
        exact absurd h4 (((tm k v o hv h1).1 a h2).2.2 j)
      · exact dist_ob hd h1 h3
  · rcases Oa_some e with ⟨i, h1, h2⟩ | ⟨o, h1, h2⟩
    · exact E.nf i a h2
    · obtain ⟨v, hv⟩ := thr k o h1
      exact ((tm k v o hv h1).1 a h2).2.1
/-- what a slot alone holds: its place -/
theorem own_is (E : EnvR T H F O σ ρ) {j : Nat} {a : Addr} (h : a ∈ O j) : ∃ x, ρ[j]? = some x ∧ isOwn x = true := by
  obtain ⟨r, e⟩ := E.own j a h
  obtain ⟨v, h1, s⟩ := E.at_ j r e
  refine ⟨some r, e, ?_⟩
  cases r with
  | own d => rfl
  | st d => rfl
  | obj d => rfl
  | dat d => obtain ⟨z, _⟩ := s; rw [z] at h; cases h
  | slt i => exact s.elim
  | fn d => obtain ⟨z, _⟩ := s; rw [z] at h; cases h
  | ex c d => obtain ⟨z, _⟩ := s; rw [z] at h; cases h
  | two c d => exact s.elim
  | prt c d => exact s.elim
/-- the places of what one slot alone holds are told by its value -/
theorem LedAt.same {L L' : List Addr} {H' : Hp} {F' : Reg} {v : V} {ts ss ts' ss' : List PyData} (k : Kept F H H') (h : LedAt T H F L v ts ss) (h' : LedAt T H' F' L' v ts' ss') : L' = L := by
  obtain ⟨a, dx, t, s, rfl, rfl, _, e1, _⟩ := h
  obtain ⟨a', dx', t', s', z, rfl, _, e1', _⟩ := h'
  cases z
  have e2 := k _ _ e1 (.inr trivial)
  rw [e2] at e1'
  unfold ledF at e1'
  cases e1'
  rfl
theorem DskAt.same {L L' : List Addr} {H' : Hp} {F' : Reg} {v : V} {ts ss ts' ss' : List PyData} (k : Kept F H H') (h : DskAt T H F L v ts ss) (h' : DskAt T H' F' L' v ts' ss') : L' = L := by
  obtain ⟨b, dx, a, h1, h2, h3⟩ := h
  obtain ⟨b', dx', a', g1, g2, g3⟩ := h'
  rw [h1] at g1
  cases g1
  have e2 := k _ _ h2 (.inr trivial)
  rw [e2] at g2
  cases g2
  exact h3.same k g3
theorem no_both {L L' : List Addr} {H' : Hp} {F' : Reg} {v : V} {ts ss ts' ss' : List PyData} (k : Kept F H H') (h : LedAt T H F L v ts ss) (h' : DskAt T H' F' L' v ts' ss') : False := by
  obtain ⟨a, dx, t, s, rfl, _, _, e1, _⟩ := h
  obtain ⟨b', dx', a', g1, g2, g3⟩ := h'
  cases g1
  have e2 := k _ _ e1 (.inr trivial)
  rw [e2] at g2
  have z := congrArg List.length (HO.ins.inj (Option.some.inj g2)).2.2
  simp [ledF] at z
theorem no_both' {L L' : List Addr} {H' : Hp} {F' : Reg} {v : V} {ts ss ts' ss' : List PyData} (k : Kept F H H') (h : DskAt T H F L v ts ss) (h' : LedAt T H' F' L' v ts' ss') : False := by
  obtain ⟨b', dx', a', g1, g2, g3⟩ := h
  obtain ⟨a, dx, t, s, e0, _, _, e1, _⟩ := h'
  rw [g1] at e0
  cases e0
  have e2 := k _ _ g2 (.inr trivial)
  rw [e2] at e1
  have z := congrArg List.length (HO.ins.inj (Option.some.inj e1)).2.2
  simp [ledF] at z
theorem OneAt.same {b b' : Bool} {L L' : List Addr} {H' : Hp} {F' : Reg} {v : V} {ts ss ts' ss' : List PyData} (k : Kept F H H') (h : OneAt T H F b L v ts ss) (h' : OneAt T H' F' b' L' v ts' ss') : L' = L := by
  unfold OneAt at h h'
  split at h <;> split at h'
  · exact h.same k h'
  · exact (no_both k h h').elim
  · exact (no_both' k h h').elim
  · exact DskAt.same k h h'
theorem ManyAt.same {b b' : Bool} {H' : Hp} {F' : Reg} (k : Kept F H H') : ∀ {Ls Ls' : List (List Addr)} {vs : List V} {xs xs' : List (Option (List PyData × List PyData))}, ManyAt T H F b Ls vs xs → xs.all Option.isSome = true → ManyAt T H' F' b' Ls' vs xs' → ∀ a, a ∈ Ls'.flatten → a ∈ Ls.flatten
  | _, _, _, _, _, .nil, _, .nil, a, ha => ha
  | _, _, _, _, _, .hole q, h, _, a, ha => by simp at h
  | _, _, _, _, _, .cons q r, h, .hole r', a, ha => by
    rw [List.flatten_cons, List.mem_append]
    exact .inr (ManyAt.same k r (by simpa using h) r' a (by simpa using ha))
  | _, _, _, _, _, .cons q r, h, .cons q' r', a, ha => by
    rw [List.flatten_cons, List.mem_append] at ha ⊢
    rcases ha with ha | ha
    · rw [q.same k q'] at ha; exact .inl ha
    · exact .inr (ManyAt.same k r (by simpa using h) r' a ha)
/-- what stands at an object's place -/
theorem obj_ho {L : List Addr} {v : V} : ∀ {o : OD}, ObjAt T H F L v o → ∃ p u, v = .ref p ∧ H p = some u ∧ ((∃ C dx fs, u = .ins C dx fs) ∨ (∃ xs, u = .tup xs) ∨ F p)
  | .led _ _, ⟨a, dx, t, s, h1, _, _, h2, _⟩ => ⟨a, _, h1, h2, .inl ⟨_, _, _, rfl⟩⟩
  | .dsk _ _, ⟨b, dx, a, h1, h2, _⟩ => ⟨b, _, h1, h2, .inl ⟨_, _, _, rfl⟩⟩
  | .pr _ _ _, ⟨p, a, l, L0, h1, h2, _⟩ => ⟨p, _, h1, h2, .inr (.inl ⟨_, rfl⟩)⟩
  | .many _ _, ⟨p, vs, Ls, h1, h2, h3, _⟩ => ⟨p, _, h1, h3, .inr (.inr h2)⟩
theorem obj_same {L L' : List Addr} {H' : Hp} {F' : Reg} {v : V} (k : Kept F H H') : ∀ {o o' : OD}, okO o = true → ObjAt T H F L v o → ObjAt T H' F' L' v o' → ∀ a, a ∈ L' → a ∈ L
  | .led _ _, .led _ _, _, h, h', a, ha => by rw [LedAt.same k h h'] at ha; exact ha
  | .dsk _ _, .dsk _ _, _, h, h', a, ha => by rw [DskAt.same k h h'] at ha; exact ha
  | .led _ _, .dsk _ _, _, h, h', _, _ => (no_both k h h').elim
  | .dsk _ _, .led _ _, _, h, h', _, _ => (no_both' k h h').elim
  | .many _ _, .many _ _, ok, ⟨p, vs, Ls, h1, h2, h3, h4, _, h5⟩, ⟨p', vs', Ls', g1, g2, g3, g4, _, g5⟩, a, ha => by
    rw [h1] at g1
    cases g1
    have e2 := k _ _ h3 (.inl ⟨h2, trivial⟩)
    rw [e2] at g3
    cases g3
    rw [g4] at ha
    rw [h4]
    exact ManyAt.same k h5 ok g5 a ha
  | .led _ _, .pr _ _ _, _, ⟨a, dx, t, s, h1, _, _, h2, _⟩, ⟨p', a', l', L0', g1, g2, _⟩, _, _ => by
    rw [h1] at g1
    cases g1
    rw [k _ _ h2 (.inr trivial)] at g2; cases g2
  | .dsk _ _, .pr _ _ _, _, ⟨b, dx, a, h1, h2, _⟩, ⟨p', a', l', L0', g1, g2, _⟩, _, _ => by
    rw [h1] at g1
    cases g1
    rw [k _ _ h2 (.inr trivial)] at g2; cases g2
  | .many _ _, .pr _ _ _, _, ⟨p, vs, Ls, h1, h2, h3, _⟩, ⟨p', a', l', L0', g1, g2, _⟩, _, _ => by
    rw [h1] at g1
    cases g1
    rw [k _ _ h3 (.inl ⟨h2, trivial⟩)] at g2; cases g2
  | .led _ _, .many _ _, _, ⟨a, dx, t, s, h1, _, _, h2, _⟩, ⟨p', vs', Ls', g1, _, g2, _⟩, _, _ => by
    rw [h1] at g1
    cases g1
    rw [k _ _ h2 (.inr trivial)] at g2; cases g2
  | .dsk _ _, .many _ _, _, ⟨b, dx, a, h1, h2, _⟩, ⟨p', vs', Ls', g1, _, g2, _⟩, _, _ => by
    rw [h1] at g1
    cases g1
    rw [k _ _ h2 (.inr trivial)] at g2; cases g2
  | .many _ _, .led _ _, _, ⟨p, vs, Ls, h1, h2, h3, _⟩, ⟨a, dx, t, s, g1, _, _, g2, _⟩, _, _ => by
    rw [h1] at g1
    cases g1
    rw [k _ _ h3 (.inl ⟨h2, trivial⟩)] at g2; cases g2
  | .many _ _, .dsk _ _, _, ⟨p, vs, Ls, h1, h2, h3, _⟩, ⟨b, dx, a, g1, g2, _⟩, _, _ => by
    rw [h1] at g1
    cases g1
    rw [k _ _ h3 (.inl ⟨h2, trivial⟩)] at g2; cases g2
theorem slot_same {L L' : List Addr} {H' : Hp} {F' : Reg} {v : V} (k : Kept F H H') (nf : ∀ b, b ∈ L' → ¬ F b) : ∀ {r r' : R}, isOwn (some r) = true → (∀ o, r = .obj o → okO o = true) → mend (some r) (some r') = some r' → SlotR T H F L v r → SlotR T H' F' L' v r' → ∀ a, a ∈ L' → a ∈ L
  | .own _, .own _, _, _, _, ⟨b, z, w, _⟩, ⟨c, y, u, _⟩, _, ha => by rw [y] at ha; rw [z]; rw [w] at u; cases u; exact ha
  | .own _, .st _, _, _, _, ⟨b, z, w, _⟩, ⟨c, y, u, _⟩, _, ha => by rw [y] at ha; rw [z]; rw [w] at u; cases u; exact ha
  | .st _, .own _, _, _, _, ⟨b, z, w, _⟩, ⟨c, y, u, _⟩, _, ha => by rw [y] at ha; rw [z]; rw [w] at u; cases u; exact ha
  | .st _, .st _, _, _, _, ⟨b, z, w, _⟩, ⟨c, y, u, _⟩, _, ha => by rw [y] at ha; rw [z]; rw [w] at u; cases u; exact ha
  | .obj o, .obj o', _, ok, _, h, h', a, ha => obj_same k (ok o rfl) h h' a ha
  | .obj o, .own d, _, _, _, h, ⟨c, y, u, q⟩, _, ha => by
    exfalso
    obtain ⟨p, w, h1, h2, h3⟩ := obj_ho h
    rw [h1] at u
    cases u
    obtain ⟨o', ho, n⟩ := q.there
    rcases h3 with ⟨C, dx, fs, rfl⟩ | ⟨xs, rfl⟩ | h3
    · rw [k _ _ h2 (.inr trivial)] at ho; cases ho; exact n trivial
    · rw [k _ _ h2 (.inr trivial)] at ho; cases ho; exact n trivial
    · exact nf _ (by rw [y]; exact List.mem_singleton.mpr rfl) h3
  | .obj o, .st d, _, _, _, h, ⟨c, y, u, q⟩, _, ha => by
    exfalso
    obtain ⟨p, w, h1, h2, h3⟩ := obj_ho h
    rw [h1] at u
    cases u
    obtain ⟨o', ho, n⟩ := q.there
    rcases h3 with ⟨C, dx, fs, rfl⟩ | ⟨xs, rfl⟩ | h3
    · rw [k _ _ h2 (.inr trivial)] at ho; cases ho; exact n trivial
    · rw [k _ _ h2 (.inr trivial)] at ho; cases ho; exact n trivial
    · exact nf _ (by rw [y]; exact List.mem_singleton.mpr rfl) h3
  | _, .dat _, _, _, _, _, ⟨z, _⟩, a, ha => by rw [z] at ha; cases ha
  | _, .fn _, _, _, _, _, ⟨z, _⟩, a, ha => by rw [z] at ha; cases ha
  | _, .ex _ _, _, _, _, _, ⟨z, _⟩, a, ha => by rw [z] at ha; cases ha
/-- behind the call -/
theorem env_back (E : EnvR T H F O σ ρ) {vs : List V} {rs : List R} {args : List R} (hd : dist rs = true) (r : ResRs T B H F O σ vs rs) (tm : TmpOk T B H F O L vs rs) (p : passA ρ rs = some args) {H' : Hp} {F' : Reg} {O' : Ows} {os : Rho} (yB : Ext false B FB OB H F O) (x : Ext true H F (Oa L O rs) H' F' O') (E' : EnvR T H' F' O' (vs.map some) os) :
    ∃ O2, Ext false B FB OB H' F' O2 ∧ EnvR T H' F' O2 σ (backA ρ rs os) ∧ ∀ i a, a ∈ O2 i → a ∈ O i := by
  have Ea := env_args E hd r tm p
  have thr : ∀ (k : Nat) (o : OD), rs[k]? = some (R.obj o) → ∃ v, vs[k]? = some v := fun k o h => let ⟨v, hv, _⟩ := resRs_get r h; ⟨v, hv⟩
  have tmB : ∀ (k : Nat) (o : OD) (a : Addr), rs[k]? = some (R.obj o) → a ∈ L k → B a = none ∧ ∀ i, a ∉ O i := fun k o a h h2 => by
    obtain ⟨v, hv⟩ := thr k o h
    have := (tm k v o hv h).1 a h2
    exact ⟨this.1, this.2.2⟩
  -- an owner behind the call is the same as ahead of it
  have kp : Kept F H H' := Ea.kept x
  have same : ∀ k j a, rs[k]? = some (.slt j) → a ∈ O' k → ∀ y, ρ[j]? = some y → isOwn y = true → (mend y os[k]?.join).isSome = true → a ∈ O j := fun k j a h1 h2 y hy ho hm => by
    obtain ⟨q, e3⟩ := E'.own k a h2
    obtain ⟨v, e4, s⟩ := E'.at_ k q e3
    obtain ⟨u, e5, e6⟩ := resRs_get r h1
    have e6' : σ[j]? = some (some u) := e6
    rw [List.getElem?_map, e5] at e4
    cases e4
    cases y with
    | none => cases ho
    | some p =>
      obtain ⟨w, g1, g2⟩ := E.at_ j p hy
      rw [e6'] at g1
      cases g1
      refine slot_same kp (fun b hb z => E'.nf k b hb (x.grow b z)) ho (fun o e => ?_) ?_ g2 s a h2
      · subst e
        obtain ⟨ar, har⟩ := passA_there p h1
        obtain ⟨r1, q1, q2⟩ := passA_get p har
        rw [h1] at q1
        cases q1
        have q3 : (match ρ[j]? with
          | some (some (.own d)) => some (R.own d)
          | some (some (.dat d)) => some (.dat d)
          | some (some (.st xs)) => some (.st xs)
          | some (some (.obj o)) => if okO o = true then some (.obj o) else none
          | _ => none) = some ar := q2
        rw [hy] at q3
        dsimp only at q3
        split at q3
        · assumption
        · cases q3
      · rw [e3] at hm
        cases q with
        | obj o =>
          cases p with
          | obj o' => rfl
          | _ => cases hm
        | _ => rfl
  let O2 : Ows := fun j => match ρ[j]? with
    | some y => if isOwn y = true then match posOf j rs with
        | some k => if (mend y os[k]?.join).isSome = true then O' k else []
        | none => O j
      else []
    | none => []
  have cases2 : ∀ j a, a ∈ O2 j → (∃ y, ρ[j]? = some y ∧ isOwn y = true ∧ ((∃ k, posOf j rs = some k ∧ (mend y os[k]?.join).isSome = true ∧ a ∈ O' k) ∨ (posOf j rs = none ∧ a ∈ O j))) := fun j a h => by
    have h' : a ∈ (match ρ[j]? with
      | some y => if isOwn y = true then match posOf j rs with
          | some k => if (mend y os[k]?.join).isSome = true then O' k else []
          | none => O j
        else []
      | none => []) := h
    cases q : ρ[j]? with
    | none => rw [q] at h'; cases h'
    | some y =>
      rw [q] at h'
      dsimp only at h'
      split at h'
      · rename_i ho
        refine ⟨y, rfl, ho, ?_⟩
        cases q2 : posOf j rs with
        | none => rw [q2] at h'; exact .inr ⟨rfl, h'⟩
        | some k =>
          rw [q2] at h'
          dsimp only at h'
          split at h'
          · rename_i hm; exact .inl ⟨k, rfl, hm, h'⟩
          · cases h'
      · cases h'
  have sub : ∀ j a, a ∈ O2 j → a ∈ O j := fun j a h => by
    obtain ⟨y, hy, ho, ⟨k, h1, hm, h2⟩ | ⟨_, h2⟩⟩ := cases2 j a h
    · exact same k j a (posOf_some h1) h2 y hy ho hm
    · exact h2
  have keepO : ∀ j a o, posOf j rs = none → a ∈ O j → H a = some o → H' a = some o := fun j a o h1 h2 h3 => x.keep a o h3 (fun k e => by
    rcases Oa_some e with ⟨i, e1, e2⟩ | ⟨o', e1, e2⟩
    · have := E.inj i j a e2 h2
      subst this
      exact posOf_none h1 e1
    · exact (tmB k o' a e1 e2).2 j h2) (E.nc h2 h3).1
  refine ⟨O2, ⟨fun b o h n z => x.keep b o (yB.keep b o h n z) (fun k e => ?_) z, fun b h => yB.live b (x.live b h), fun b h => x.grow b (yB.grow b h), fun b h => ?_, fun j b h => yB.own j b (sub j b h)⟩, ⟨?_, fun j q e => ?_, fun j a h => ?_, fun i j a e1 e2 => E.inj i j a (sub i a e1) (sub j a e2), fun j a h => ?_, E'.lv, E'.tb⟩, sub⟩
  · rcases Oa_some e with ⟨i, _, e2⟩ | ⟨o', e1, e2⟩
    · exact (yB.own i b e2).elim (n i) fun z => absurd z.1 Bool.false_ne_true
    · rw [(tmB k o' b e1 e2).1] at h; cases h
  · rcases x.new b h with z | ⟨k, z⟩ | z
    · exact yB.new b z
    · rcases Oa_some z with ⟨i, _, e2⟩ | ⟨o', e1, e2⟩
      · exact (yB.ow e2).elim (fun q => .inr (.inl q)) fun q => .inr (.inr q)
      · exact .inr (.inr (tmB k o' b e1 e2).1)
    · exact .inr (.inr (yB.live b z))
  · unfold backA
    rw [List.length_mapIdx]
    exact E.len
  · unfold backA at e
    rw [List.getElem?_mapIdx] at e
    cases qj : ρ[j]? with
    | none => rw [qj] at e; cases e
    | some y =>
      rw [qj] at e
      have e' : (if isOwn y = true then match posOf j rs with
          | some k => mend y os[k]?.join
          | none => y
        else y) = some q := Option.some.inj e
      have O2j : O2 j = if isOwn y = true then match posOf j rs with
          | some k => if (mend y os[k]?.join).isSome = true then O' k else []
          | none => O j
        else [] := by show (match ρ[j]? with
          | some y => if isOwn y = true then match posOf j rs with
              | some k => if (mend y os[k]?.join).isSome = true then O' k else []
              | none => O j
            else []
          | none => []) = _
                      rw [qj]
      rw [O2j]
      by_cases ho : isOwn y = true
      · rw [if_pos ho] at e' ⊢
        cases qp : posOf j rs with
        | none =>
          rw [qp] at e'
          dsimp only at e' ⊢
          subst e'
          obtain ⟨v, h1, s⟩ := E.at_ j q qj
          exact ⟨v, h1, s.mono kp x.grow fun a o ha hh => keepO j a o qp ha hh⟩
        | some k =>
          rw [qp] at e'
          dsimp only at e' ⊢
          rw [e', if_pos (show (some q).isSome = true from rfl)]
          have e2 : os[k]? = some (some q) := by
            cases z : os[k]? with
            | none => rw [z] at e'; cases e'
            | some w =>
              rw [z] at e'
              cases w with
              | none => cases e'
              | some w =>
                cases w with
                | obj o =>
                  cases y with
                  | none => cases e'
                  | some y =>
                    cases y with
                    | obj o' => cases e'; rfl
                    | _ => cases e'
                | _ => cases e'; rfl
          obtain ⟨v, h1, s⟩ := E'.at_ k q e2
          obtain ⟨u, e5, e6⟩ := resRs_get r (posOf_some qp)
          rw [List.getElem?_map, e5] at h1
          obtain rfl : u = v := by simpa using h1
          exact ⟨u, e6, s⟩
      · rw [if_neg ho] at e' ⊢
        subst e'
        obtain ⟨v, h1, s⟩ := E.at_ j q qj
        have hn : O j = [] := by
          cases z : O j with
          | nil => rfl
          | cons a l =>
            obtain ⟨y, hy, ho'⟩ := own_is E (j := j) (a := a) (by rw [z]; exact List.mem_cons_self)
            rw [qj] at hy
            cases hy
            exact absurd ho' ho
        rw [hn] at s
        exact ⟨v, h1, s.mono kp x.grow fun a o ha _ => by cases ha⟩
  · obtain ⟨y, hy, ho, z⟩ := cases2 j a h
    unfold backA
    rw [List.getElem?_mapIdx, hy]
    show ∃ q, some (if isOwn y = true then match posOf j rs with
          | some k => mend y os[k]?.join
          | none => y
        else y) = some (some q)
    rw [if_pos ho]
    rcases z with ⟨k, h1, hm, h2⟩ | ⟨h1, h2⟩
    · rw [h1]
      dsimp only
      cases z : mend y os[k]?.join with
      | none => rw [z] at hm; cases hm
      | some w => exact ⟨w, rfl⟩
    · rw [h1]
      obtain ⟨q, e⟩ := E.own j a h2
      rw [hy] at e
      cases e
      exact ⟨q, rfl⟩
  · obtain ⟨y, hy, ho, ⟨k, h1, hm, h2⟩ | ⟨h1, h2⟩⟩ := cases2 j a h
    · exact E'.nf k a h2
    · intro z
      rcases x.new a z with z | ⟨k, z⟩ | z
      · exact E.nf j a h2 z
      · rcases Oa_some z with ⟨i, e1, e2⟩ | ⟨o', e1, e2⟩
        · have := E.inj i j a e2 h2
          subst this
          exact posOf_none h1 e1
        · exact (tmB k o' a e1 e2).2 j h2
      · obtain ⟨o, ho, _⟩ := E.there h2
        rw [ho] at z; cases z
/-- a callee's result is ours -/
theorem res_back (E : EnvR T H F O σ ρ) {H' : Hp} {F' : Reg} {O' O2 : Ows} {v : V} (sb : ∀ i a, a ∈ O2 i → a ∈ O i) : ∀ {r : R}, ResR T H H' F' O' [] v r → ResR T H H' F' O2 σ v r
  | .dat _, h => h
  | .own _, ⟨a, h1, h2, h3, _, h5⟩ => ⟨a, h1, h2, h3, fun i e => E.ne_new h2 i (sb i a e), h5⟩
  | .slt i, h => by
    have h' : ([] : L2.St)[i]? = some (some v) := h
    simp at h'
  | .fn _, h => h
  | .st _, ⟨a, h1, h2, h3, _, h5⟩ => ⟨a, h1, h2, h3, fun i e => E.ne_new h2 i (sb i a e), h5⟩
  | .ex _ _, h => h
  | .two _ _, ⟨p, a, b, h1, h2, h3, ⟨a1, a2, _, a4⟩, b1, b2, _, b4⟩ => ⟨p, a, b, h1, h2, h3, ⟨a1, a2, fun i e => E.ne_new a1 i (sb i a e), a4⟩, b1, b2, fun i e => E.ne_new b1 i (sb i b e), b4⟩
  | .obj _, ⟨L, h1, h2⟩ => ⟨L, fun b hb => ⟨(h1 b hb).1, (h1 b hb).2.1, fun i e => E.ne_new (h1 b hb).1 i (sb i b e)⟩, h2⟩
  | .prt _ _, ⟨_, _, _, _, h, _⟩ => by simp at h
end
/-- a def of the text: its name, its place, its promise -/
structure FnE (P : Program) (w : World) (mg : Str → Option Value) (base : Heap) (T : Tb) (x : Str) (k n : Nat) (sem : Sem) : Prop where
  ex : ∃ f fd ps, mg x = some (.ref f) ∧ PySem.W.keepIn T.K (.ref f) = true ∧ Binds T.K fd ps [] ∧ ps.length = n ∧ FnG P w T.K mg base k f fd ps (spOf T n sem)
section
variable {X : Cx} {T : Tb} {W : WX} {x : Str} {k n m : Nat} {sem : Sem} {e : Expr} {es : List Expr} {fa : AM} {p pos : Pos}
theorem call_of {σ : L2.St} {H : Hp} {Q : VK} (h : Tof T W (tlE T) (callM sem fa) σ H Q) (hl : ∀ vs rs H0 H1 F1 O1, ResRs T H0 H1 F1 O1 σ vs rs → ∀ args ρ, passA ρ rs = some args → ∀ o, sem args = some o → vs.length = n) :
    Tof T W (tlA T) fa σ H fun vs H1 => spOf T n sem vs H1 Q fun cls d H' => W cls d σ H' := by
  obtain ⟨ρ, F, O, E, P⟩ := h
  refine stp .refl E P fun vs H1 rs ρ1 F1 O1 x1 y1 E1 r1 P1 => ?_
  split at P1
  · rename_i hd
    cases q : passA ρ1 rs with
    | none => rw [q] at P1; exact P1.elim
    | some args =>
      rw [q] at P1
      dsimp only at P1
      cases q2 : sem args with
      | none => rw [q2] at P1; exact P1.elim
      | some o =>
        rw [q2] at P1
        obtain ⟨L, tm⟩ := tmps r1
        refine ⟨args, F1, Oa L O1 rs, hl vs rs _ _ _ _ r1 args ρ1 q o q2, env_args E1 hd r1 tm q, ?_⟩
        rw [q2]
        cases o with
        | ok r os =>
          intro v H2 F2 O2 x2 E2 r2
          obtain ⟨O3, x3, E3, sb⟩ := env_back E1 hd r1 tm q y1 x2 E2
          exact P1 v H2 F2 O3 x3 E3 ((res_back E1 sb r2).back x1.live)
        | er c fs os =>
          intro cls d H2 F2 O2 x2 E2 r2
          obtain ⟨O3, x3, E3, sb⟩ := env_back E1 hd r1 tm q y1 x2 E2
          exact P1 cls d H2 F2 O3 x3 E3 r2
  · exact P1.elim
/-- f(e, ..) -/
theorem se_call (h : FnE X.prog X.w X.mg X.base T x k n sem) (c : Cxt X T W m) (hk : k ≤ m) (hg : L2.Gl X x) (ha : SA X T W (e :: es) fa) (hl : ∀ args o, sem args = some o → args.length = n) (hdb : (x == ("__debug__" : Str)) = false := by decide)
    (he : starEach (e :: es) X.env = (false, eval e X.env) :: starEach es X.env := by rfl) (hpl : (backTo pos (starEach es X.env)).any (·.1) = false := by rfl) : SE X T W (.Call (.Name x p) (e :: es) [] pos) (callM sem fa) := by
  obtain ⟨f, fd, ps, hm, hkp, hb, hn, G⟩ := h.ex
  rw [← c.hK] at hkp hb G
  refine ⟨fun pins s σ H Q I h => ?_⟩
  have h2 := call_of (n := n) h fun vs rs H0 H1 F1 O1 rr args ρ pa o so => by rw [resRs_len rr, ← passA_len pa]; exact hl args o so
  have fin : ∀ us s1, AP X pins σ (fun vs H1 => spOf T n sem vs H1 Q fun cls d H' => W cls d σ H') us s1 → X.K.In s1.heap ∧ wpAny (model X.prog X.w) X.A (call (.ref f) us) (EP X pins σ Q) X.xe s1 := by
    rintro us s1 ⟨vs, H1, I1, r, q⟩
    refine ⟨I1.kIn, ?_⟩
    have lus : us.length = ps.length := by rw [← r.length]; exact G.len _ _ _ _ q
    have bb := hb s1 us I1.kIn (by rw [List.append_nil]; exact lus)
    rw [List.append_nil] at bb
    refine wpAny_call (codeAny_mono (G.run X.A X.stack s1 H1 ⟨us, []⟩ us vs Q _ c.gd (c.room.mono hk) I1.env0 bb r q) ?_)
    intro r' s' hq
    cases r' with
    | error e => exact c.tk e s' (XE.of_call I1 (fun _ _ _ z => z) hq)
    | ok fl =>
      cases fl with
      | ret u => exact I1.after hq
      | next => exact hq.elim
      | brk => exact hq.elim
      | cont => exact hq.elim
  exact wpAny_Call_Name_kw (ld_glob I hg hm (PySem.W.callWith_K (h₀ := X.base) I.ok.mod.kin hkp (thn (ha.run pos pins s σ H _ I h2) fin) he hpl) hdb)
end
theorem runD_len {n N : Nat} {pr : Nat → Bool} {m : SM} : ∀ args o, runD n N pr m args = some o → args.length = n := fun args o h => by
  unfold runD at h
  split at h
  · assumption
  · cases h
end DL
namespace DL
open PySem L2 PyProof.Rows
section
variable {T : Tb} {H : Hp} {F : Reg} {O : Ows} {σ : L2.St} {ρ : Rho}
/-- what a slot alone holds changes -/
theorem EnvR.mut {i : Nat} {a : Addr} {d d' : PyData} {o : HO} {s : Bool} (E : EnvR T H F O σ ρ) (h : ρ[i]? = some (some (.own d))) (hO : O i = [a]) (new : Kept F H (upd H a o) → OwnAt T.K (upd H a o) F a d') :
    EnvR T (upd H a o) F O σ (ρ.set i (some (.own d'))) ∧ Ext s H F O (upd H a o) F O ∧ Kept F H (upd H a o) := by
  have ho : a ∈ O i := by rw [hO]; exact List.mem_singleton.mpr rfl
  have x : Ext s H F O (upd H a o) F O := ⟨fun b u hb n _ => by rw [upd_ne (show b ≠ a from fun z => n i (by rw [z]; exact ho))]; exact hb, fun b hb => by
    by_cases e : b = a
    · subst e; rw [upd_same] at hb; cases hb
    · rw [upd_ne e] at hb; exact hb, fun _ h => h, fun _ h => .inl h, fun _ _ h => .inl h⟩
  have k := E.kept x
  have hl : i < ρ.length := lt_of_at h
  refine ⟨⟨by rw [List.length_set]; exact E.len, fun j r e => ?_, fun j b e => ?_, E.inj, E.nf, fun b hb z => ?_, by
    obtain ⟨u, hu, _⟩ := E.there ho
    exact tabs_put E.tb hu (E.nc ho hu)⟩, x, k⟩
  · by_cases hj : j = i
    · subst hj
      rw [List.getElem?_set_self hl] at e
      cases e
      obtain ⟨v, h1, b, h2, h3, _⟩ := E.at_ j _ h
      rw [hO] at h2
      cases h2
      exact ⟨v, h1, a, hO, h3, new k⟩
    · rw [List.getElem?_set_ne (Ne.symm hj)] at e
      obtain ⟨v, h1, h2⟩ := E.at_ j r e
      exact ⟨v, h1, h2.mono k (fun _ h => h) fun b u hb hu => by
        have n : b ≠ a := fun z => hj (E.inj j i a (z ▸ hb) ho)
        rw [upd_ne n]; exact hu⟩
  · by_cases hj : j = i
    · subst hj
      exact ⟨_, by rw [List.getElem?_set_self hl]⟩
    · rw [List.getElem?_set_ne (Ne.symm hj)]
      exact E.own j b e
  · by_cases e : b = a
    · subst e; exact E.nf i b ho hb
    · rw [upd_ne e] at z; exact E.lv b hb z
theorem own_lst (E : EnvR T H F O σ ρ) {i : Nat} {ds : List PyData} (h : ρ[i]? = some (some (.own (.list ds)))) : ∃ a vs, σ[i]? = some (some (.ref a)) ∧ O i = [a] ∧ H a = some (.lst vs) ∧ DFs T.K H F vs ds := by
  obtain ⟨v, h1, a, h2, rfl, vs, h3, h4⟩ := E.at_ i _ h
  exact ⟨a, vs, h1, h2, h3, h4⟩
end
def isList : Option (Option R) → Bool
  | some (some (.own (.list _))) => true
  | _ => false
theorem isList_ex {x : Option (Option R)} (h : isList x = true) : ∃ ds, x = some (some (.own (.list ds))) := by
  unfold isList at h
  split at h
  · exact ⟨_, rfl⟩
  · cases h
/-- x.append(e) -/
def appM (i : Nat) (fe : EM) : SM := fun ρ => if isList ρ[i]? = true then bindS (fe ρ) fun r ρ1 => match frz ρ1 r with
    | some (d, ρ2) => match ρ2[i]? with
      | some (some (.own (.list ds))) => if ds.length < lim then some (.nx (ρ2.set i (some (.own (.list (ds ++ [d])))))) else none
      | _ => none
    | none => none
  else none
/-- x[i] = e -/
def setM (s : Nat) (fi fe : EM) : SM := fun ρ => bindS (fe ρ) fun r ρ1 => match frz ρ1 r with
  | some (d, ρ2) => if isList ρ2[s]? = true then bindS (fi ρ2) fun ri ρ3 => match ri, ρ3[s]? with
      | .dat (.int k), some (some (.own (.list ds))) => (ixN ds.length k).map fun j => .nx (ρ3.set s (some (.own (.list (ds.set j d)))))
      | _, _ => none
    else none
  | none => none
/-- a result that may be stored in a slot: what another slot holds is shared, so it stays -/
def sv (ρ : Rho) : R → Option (R × Rho)
  | .slt i => (frz ρ (.slt i)).map fun p => (.dat p.1, p.2)
  | .ex _ _ => none
  | .two _ _ => none
  | .prt _ _ => none
  | r => some (r, ρ)
/-- what a slot may hold -/
def Sto : R → Prop
  | .slt _ => False
  | .two _ _ => False
  | .prt _ _ => False
  | _ => True
def parM (i j : Nat) (fa fb : EM) : SM := fun ρ => bindS (fa ρ) fun r ρ1 => match sv ρ1 r with
  | some (r', ρ2) => bindS (fb ρ2) fun s ρ3 => match sv ρ3 s with
    | some (s', ρ4) => some (.nx ((ρ4.set i (some r')).set j (some s')))
    | none => none
  | none => none
def parM3 (i j l : Nat) (fa fb fc : EM) : SM := fun ρ => bindS (fa ρ) fun r ρ1 => match sv ρ1 r with
  | some (r', ρ2) => bindS (fb ρ2) fun s ρ3 => match sv ρ3 s with
    | some (s', ρ4) => bindS (fc ρ4) fun t ρ5 => match sv ρ5 t with
      | some (t', ρ6) => some (.nx (((ρ6.set i (some r')).set j (some s')).set l (some t')))
      | none => none
    | none => none
  | none => none
/-- a, b = e, e a tuple -/
def asgTM (g : GM) (fe : EM) : SM := fun ρ => bindS (fe ρ) fun r ρ1 => match frz ρ1 r with
  | some (d, ρ2) => (g d ρ2).map .nx
  | none => none
section
variable {X : Cx} {T : Tb} {W : WX} {φ : Fm} {e ei : Expr} {fe fi : EM} {pos p apos : Pos} {i : Nat} {x : Str}
theorem ss_app {ex : Expr} (h : PE X ex (tBM X.K "list" rAppend (tVar i) (tCons (Tof T W (tlE T) fe) tNil))) (hs : swapsWith ex none pos.line X.env = pure false := by rfl) : SS X T W φ (.Expr ex pos) (appM i fe) := by
  refine ps_imp (ps_expr h hs) fun D σ H ⟨ρ, F, O, S, P⟩ => ?_
  unfold appM at P
  split at P
  · rename_i hi
    obtain ⟨ds0, q0⟩ := isList_ex hi
    obtain ⟨a, vs0, h1, h2, h3, h4⟩ := own_lst S.E q0
    refine ⟨.ref a, h1, .inl ⟨rfl, vs0, .inl (.inl h3)⟩, ?_⟩
    refine sps .refl .refl S P fun v H1 r ρ1 F1 O1 x1 y1 S1 r1 P1 => ?_
    cases q : frz ρ1 r with
    | none => rw [q] at P1; exact P1.elim
    | some z =>
      obtain ⟨d, ρ2⟩ := z
      rw [q] at P1
      dsimp only at P1
      obtain ⟨F2, O2, y2, E2, d2, _, sb, _⟩ := fz y1 (fun _ h => h) S1.E r1 q
      split at P1
      · rename_i ds q2
        split at P1
        · rename_i hz
          obtain ⟨b, vs, g1, g2, g3, g4⟩ := own_lst E2 q2
          rw [h1] at g1
          cases g1
          refine ⟨a, vs, v, rfl, rfl, g3, by rw [g4.length]; exact Nat.lt_of_lt_of_le hz (by decide), ?_⟩
          obtain ⟨E3, x3, k3⟩ := E2.mut (o := .lst (vs ++ [v])) (d' := .list (ds ++ [d])) (s := true) q2 g2 fun k => ⟨_, upd_same, (g4.append (.cons d2 .nil)).mono k fun _ h => h⟩
          exact P1 σ _ F2 O2 (y2.trans x3) ⟨E3, fun b h => S1.lb b (x3.live b h), fun j b hj q => S1.lf j b hj (sb j b q)⟩ .refl
        · exact P1.elim
      · exact P1.elim
  · exact P.elim
theorem ss_set {s : Nat} {tg : Expr} (he : SE X T W e fe) (hpg : PG X tg (gSub (tVar s) (Tof T W (tlE T) fi) rSetL)) (hs : swapsWithSole [tg] e pos.line X.env = pure false := by rfl) (hw : swappedStores [tg] e X.env = pure none := by rfl) (h1 : (assignEach [tg] X.env).map (·.2) = [assign tg X.env] := by rfl) :
    SS X T W φ (.Assign [tg] e pos) (setM s fi fe) := by
  refine ps_imp (ps_asg he hpg hs hw h1) fun D σ H ⟨ρ, F, O, S, P⟩ => ?_
  refine sps .refl .refl S P fun v H1 r ρ1 F1 O1 x1 y1 S1 r1 P1 => ?_
  cases q : frz ρ1 r with
  | none => rw [q] at P1; exact P1.elim
  | some z =>
    obtain ⟨d, ρ2⟩ := z
    rw [q] at P1
    dsimp only at P1
    obtain ⟨F2, O2, y2, E2, d2, _, sb, _⟩ := fz y1 (fun _ h => h) S1.E r1 q
    have S2 : StR T φ H1 F2 O2 σ ρ2 := ⟨E2, S1.lb, fun j b hj q => S1.lf j b hj (sb j b q)⟩
    split at P1
    · rename_i hi
      obtain ⟨ds0, q0⟩ := isList_ex hi
      obtain ⟨a, vs0, h1, h2, h3, h4⟩ := own_lst E2 q0
      refine ⟨.ref a, h1, ?_⟩
      refine sps y2 .refl S2 P1 fun u H3 ri ρ3 F3 O3 x3 y3 S3 r3 P3 => ?_
      split at P3
      · rename_i k ds q3
        obtain ⟨j, e1, e2⟩ : ∃ j, ixN ds.length k = some j ∧ True := by
          cases z : ixN ds.length k with
          | none => rw [z] at P3; exact P3.elim
          | some j => exact ⟨j, rfl, trivial⟩
        rw [e1] at P3
        obtain ⟨b, vs, g1, g2, g3, g4⟩ := own_lst S3.E q3
        rw [h1] at g1
        cases g1
        refine ⟨a, vs, k, j, rfl, int_of r3, g3, by rw [g4.length]; exact e1, ?_⟩
        have d3 : DF T.K H3 F3 v d := d2.mono (E2.kept x3) x3.grow
        obtain ⟨E4, x4, k4⟩ := S3.E.mut (o := .lst (vs.set j v)) (d' := .list (ds.set j d)) (s := true) q3 g2 fun k => ⟨_, upd_same, (g4.set d3 j).mono k fun _ h => h⟩
        exact P3 σ _ F3 O3 (y3.trans x4) ⟨E4, fun b h => S3.lb b (x4.live b h), S3.lf⟩ .refl
      · exact P3.elim
    · exact P1.elim
theorem sv_ok {t : Bool} {B H0 H : Hp} {FB F : Reg} {OB O : Ows} {σ : L2.St} {ρ ρ' : Rho} {v : V} (x : Ext t B FB OB H F O) (l : ∀ b, H0 b = none → B b = none) (E : EnvR T H F O σ ρ) {r r' : R} (h : ResR T H0 H F O σ v r) (e : sv ρ r = some (r', ρ')) :
    ∃ F' O', Ext t B FB OB H F' O' ∧ EnvR T H F' O' σ ρ' ∧ ResR T H0 H F' O' σ v r' ∧ (∀ b, F b → F' b) ∧ Sub O' O ∧ (∀ b, F' b → F b ∨ ∃ i, b ∈ O i) ∧ Sto r' := by
  cases r with
  | dat d => cases e; exact ⟨F, O, x, E, h, fun _ h => h, fun _ _ h => h, fun _ h => .inl h, trivial⟩
  | own d => cases e; exact ⟨F, O, x, E, h, fun _ h => h, fun _ _ h => h, fun _ h => .inl h, trivial⟩
  | fn d => cases e; exact ⟨F, O, x, E, h, fun _ h => h, fun _ _ h => h, fun _ h => .inl h, trivial⟩
  | st d => cases e; exact ⟨F, O, x, E, h, fun _ h => h, fun _ _ h => h, fun _ h => .inl h, trivial⟩
  | ex c d => cases e
  | two c d => cases e
  | prt c d => cases e
  | obj d => cases e; exact ⟨F, O, x, E, h, fun _ h => h, fun _ _ h => h, fun _ h => .inl h, trivial⟩
  | slt i =>
    obtain ⟨⟨d, ρ1⟩, e1, e2⟩ := Option.map_eq_some_iff.mp (show (frz ρ (.slt i)).map (fun p => (R.dat p.1, p.2)) = some (r', ρ') from e)
    cases e2
    -- here what is new in the region is the slot's own
    have h' : σ[i]? = some (some v) := h
    have key : ∀ (d1 : PyData), ρ[i]? = some (some (.dat d1)) ∨ ρ[i]? = some (some (.own d1)) → slotD ρ[i]? = some d1 := fun d1 z => z.elim (fun z => by rw [z]; rfl) fun z => by rw [z]; rfl
    cases q : ρ[i]? with
    | none => exact absurd e1 (by simp [frz, q, slotD])
    | some o =>
      cases o with
      | none => exact absurd e1 (by simp [frz, q, slotD])
      | some r =>
        obtain ⟨u, hu, s⟩ := E.at_ i r q
        rw [h'] at hu
        cases hu
        cases r with
        | dat d1 =>
          have e3 : some (d1, ρ.set i (some (.dat d1))) = some (d, ρ1) := by simpa [frz, q, slotD] using e1
          cases e3
          exact ⟨F, O, x, E.setD q, s.2, fun _ h => h, fun _ _ h => h, fun _ h => .inl h, trivial⟩
        | own d1 =>
          have e3 : some (d1, ρ.set i (some (.dat d1))) = some (d, ρ1) := by simpa [frz, q, slotD] using e1
          cases e3
          obtain ⟨a, z1, z2, z3⟩ := s
          have zm : a ∈ O i := by rw [z1]; exact List.mem_singleton.mpr rfl
          subst z2
          have hd : DF T.K H (fun b => F b ∨ b = a) (.ref a) d := OwnAt.df (F := fun b => F b ∨ b = a) (.inr rfl) (z3.mono (fun _ _ h _ => h) (fun _ h => .inl h) fun _ h => h)
          have sb : Sub (fun j => if j = i then [] else O j) O := fun j b q => by
            have q' : b ∈ (if j = i then [] else O j) := q
            by_cases hj : j = i
            · rw [if_pos hj] at q'; cases q'
            · rw [if_neg hj] at q'; exact q'
          refine ⟨fun b => F b ∨ b = a, fun j => if j = i then [] else O j, ⟨x.keep, x.live, fun b h => .inl (x.grow b h), fun b h => ?_, fun j b e => x.own j b (sb j b e)⟩, vw_fz E z1 h' (fun _ => Iff.rfl) hd, hd, fun _ h => .inl h, sb, fun b h => h.elim .inl fun z => .inr ⟨i, z ▸ zm⟩, trivial⟩
          rcases h with h | rfl
          · exact x.new b h
          · exact .inr (x.ow zm)
        | slt j => exact absurd e1 (by simp [frz, q, slotD])
        | fn k => exact absurd e1 (by simp [frz, q, slotD])
        | st xs => exact absurd e1 (by simp [frz, q, slotD])
        | ex c fs => exact absurd e1 (by simp [frz, q, slotD])
        | two c fs => exact absurd e1 (by simp [frz, q, slotD])
        | prt c fs => exact absurd e1 (by simp [frz, q, slotD])
        | obj c => exact absurd e1 (by simp [frz, q, slotD])
/-- where a result's own things stand -/
def Own1 (T : Tb) (H0 H : Hp) (F : Reg) (O : Ows) (v : V) (r : R) (L : List Addr) : Prop := SlotR T H F L v r ∧ ∀ a, a ∈ L → ¬ F a ∧ (∀ i, a ∉ O i) ∧ H0 a = none ∧ ∃ o, H a = some o
theorem res_slot {H0 H : Hp} {F : Reg} {O : Ows} {σ : L2.St} {v : V} {r : R} (h : ResR T H0 H F O σ v r) (n : Sto r) : ∃ L, Own1 T H0 H F O v r L := by
  cases r with
  | dat d => exact ⟨[], ⟨rfl, h⟩, fun _ q => absurd q List.not_mem_nil⟩
  | fn d => exact ⟨[], ⟨rfl, h⟩, fun _ q => absurd q List.not_mem_nil⟩
  | slt i => exact n.elim
  | two c d => exact n.elim
  | prt c d => exact n.elim
  | ex c d => exact ⟨[], ⟨rfl, h⟩, fun _ q => absurd q List.not_mem_nil⟩
  | own d =>
    obtain ⟨a, rfl, h2, h3, h4, h5⟩ := h
    exact ⟨[a], ⟨a, rfl, rfl, h5⟩, fun b q => by
      cases List.mem_singleton.mp q
      obtain ⟨o, ho, _⟩ := h5.there
      exact ⟨h3, h4, h2, o, ho⟩⟩
  | st d =>
    obtain ⟨a, rfl, h2, h3, h4, h5⟩ := h
    exact ⟨[a], ⟨a, rfl, rfl, h5⟩, fun b q => by
      cases List.mem_singleton.mp q
      obtain ⟨o, ho, _⟩ := h5.there
      exact ⟨h3, h4, h2, o, ho⟩⟩
  | obj d =>
    obtain ⟨L, h1, h2⟩ := h
    refine ⟨L, h2, fun b q => ?_⟩
    obtain ⟨o, ho, _⟩ := h2.there q
    exact ⟨(h1 b q).2.1, (h1 b q).2.2, (h1 b q).1, o, ho⟩
theorem Own1.mono {H0 H H' : Hp} {F F' : Reg} {O O' : Ows} {σ : L2.St} {ρ : Rho} {v : V} {r : R} {L : List Addr} {s : Bool} (E : EnvR T H F O σ ρ) (x : Ext s H F O H' F' O') (w : Own1 T H0 H F O v r L) : Own1 T H0 H' F' O' v r L := by
  obtain ⟨h, w⟩ := w
  refine ⟨h.mono (E.kept x) x.grow fun a o ha ho => x.keep a o ho (w a ha).2.1 (h.nc ha ho).1, fun a ha => ?_⟩
  obtain ⟨w1, w2, w3, o, ho⟩ := w a ha
  refine ⟨fun z => ?_, fun i z => ?_, w3, o, x.keep a o ho w2 (h.nc ha ho).1⟩
  · rcases x.new a z with y | ⟨i, y⟩ | y
    · exact w1 y
    · exact w2 i y
    · rw [ho] at y; cases y
  · rcases x.ow z with ⟨j, y⟩ | y
    · exact w2 j y
    · rw [ho] at y; cases y
theorem Own1.up {H0 H : Hp} {F F' : Reg} {O O' : Ows} {v : V} {r : R} {L : List Addr} (g : ∀ b, F b → F' b) (sb : Sub O' O) (n : ∀ b, F' b → F b ∨ ∃ i, b ∈ O i) (w : Own1 T H0 H F O v r L) : Own1 T H0 H F' O' v r L :=
  ⟨w.1.mono (fun _ _ h _ => h) g (fun _ _ _ h => h), fun a ha => by
    obtain ⟨w1, w2, w3, w4⟩ := w.2 a ha
    exact ⟨fun z => (n a z).elim w1 fun ⟨i, y⟩ => w2 i y, fun i z => w2 i (sb i a z), w3, w4⟩⟩
theorem put_ok {B H : Hp} {FB F : Reg} {OB O : Ows} {σ : L2.St} {ρ : Rho} {v : V} {r : R} {i : Nat} {L : List Addr} (x : Ext true B FB OB H F O) (S : StR T φ H F O σ ρ) (hi : i < σ.length) (s : SlotR T H F L v r) (c : ∀ a, a ∈ L → ¬ F a ∧ (∀ k, a ∉ O k) ∧ B a = none ∧ φ.HB a = none) :
    ∃ O', Ext true B FB OB H F O' ∧ StR T φ H F O' (σ.set i (some v)) (ρ.set i (some r)) ∧ ∀ k a, a ∈ O' k → a ∈ O k ∨ a ∈ L := by
  have cs : ∀ k a, a ∈ (if k = i then L else O k) → a ∈ O k ∨ a ∈ L := fun k a q => by
    by_cases hk : k = i
    · rw [if_pos hk] at q; exact .inr q
    · rw [if_neg hk] at q; exact .inl q
  refine ⟨fun k => if k = i then L else O k, ⟨x.keep, x.live, x.grow, x.new, fun k b q => ?_⟩, ⟨S.E.put hi s (fun a q => (c a q).1) fun a q => (c a q).2.1, S.lb, fun k b hk q => ?_⟩, cs⟩
  · rcases cs k b q with z | z
    · exact x.own k b z
    · exact .inr ⟨rfl, .inr (c b z).2.2.1⟩
  · rcases cs k b q with z | z
    · exact S.lf k b hk z
    · exact (c b z).2.2.2
theorem par_of {i j : Nat} {fa fb : EM} {D : Ends} {σ : L2.St} {H : Hp} (hp : φ.pr i = false) (hq : φ.pr j = false) (hi : i < σ.length) (hj : j < σ.length) (h : TSof T W φ (parM i j fa fb) D σ H) : tPar i j (tCons (Tof T W (tlE T) fa) (tCons (Tof T W (tlE T) fb) tNil)) D σ H := by
  obtain ⟨ρ, F, O, S, P⟩ := h
  refine sps .refl .refl S P fun v H1 r ρ1 F1 O1 x1 y1 S1 r1 P1 => ?_
  cases q1 : sv ρ1 r with
  | none => rw [q1] at P1; exact P1.elim
  | some z =>
    obtain ⟨r', ρ2⟩ := z
    rw [q1] at P1
    dsimp only at P1
    obtain ⟨F2, O2, y2, E2, r2, g2, sb2, _, n2⟩ := sv_ok y1 (fun _ h => h) S1.E r1 q1
    have S2 : StR T φ H1 F2 O2 σ ρ2 := ⟨E2, S1.lb, fun k b hk q => S1.lf k b hk (sb2 k b q)⟩
    refine sps y2 .refl S2 P1 fun u H3 s ρ3 F3 O3 x3 y3 S3 r3 P3 => ?_
    cases q3 : sv ρ3 s with
    | none => rw [q3] at P3; exact P3.elim
    | some z =>
      obtain ⟨s', ρ4⟩ := z
      rw [q3] at P3
      obtain ⟨F4, O4, y4, E4, r4, g4, sb4, nw4, n4⟩ := sv_ok y3 (fun b h => y1.live b h) S3.E r3 q3
      have S4 : StR T φ H3 F4 O4 σ ρ4 := ⟨E4, S3.lb, fun k b hk q => S3.lf k b hk (sb4 k b q)⟩
      obtain ⟨L2, w2⟩ := res_slot r2 n2
      obtain ⟨L4, w4⟩ := res_slot r4 n4
      have c2 := w2.2
      obtain ⟨s5, c5⟩ := Own1.up g4 sb4 nw4 (Own1.mono E2 x3 w2)
      obtain ⟨s6, c6⟩ := w4
      obtain ⟨O5, y5, S5, w5⟩ := put_ok y4 S4 hi s5 fun a e => ⟨(c5 a e).1, (c5 a e).2.1, (c5 a e).2.2.1, S.lb a (c5 a e).2.2.1⟩
      have ne : ∀ a, a ∈ L4 → ∀ k, a ∉ O5 k := fun a e k z => by
        rcases w5 k a z with z | z
        · exact (c6 a e).2.1 k z
        · obtain ⟨o, ho⟩ := (c2 a z).2.2.2
          have := (c6 a e).2.2.1
          rw [ho] at this; cases this
      obtain ⟨O6, y6, S6, _⟩ := put_ok y5 S5 (by rw [List.length_set]; exact hj) s6 fun a e => ⟨(c6 a e).1, ne a e, y1.live a (c6 a e).2.2.1, S1.lb a (c6 a e).2.2.1⟩
      exact ⟨v, u, rfl, P3 _ H3 F4 O6 y6 S6 (.trans (.set hp) (.set hq))⟩
theorem ss_par {st : Stmt} {i j : Nat} {x y : Str} {fa fb : EM} (hp : φ.pr i = false) (hq : φ.pr j = false) (hi : X.N[i]? = some x) (hj : X.N[j]? = some y) (h : PS X st (tPar i j (tCons (Tof T W (tlE T) fa) (tCons (Tof T W (tlE T) fb) tNil)))) : SS X T W φ st (parM i j fa fb) :=
  ps_impL h fun D σ H hl q => par_of hp hq (by rw [hl]; exact lt_of_at hi) (by rw [hl]; exact lt_of_at hj) q
/-- a, b = e -/
theorem ss_asgT {tg : Expr} {g : GM} (he : SE X T W e fe) (hg : SG X T φ.pr tg g) (hs : swapsWithSole [tg] e pos.line X.env = pure false := by rfl) (hw : swappedStores [tg] e X.env = pure none := by rfl) (h1 : (assignEach [tg] X.env).map (·.2) = [assign tg X.env] := by rfl) :
    SS X T W φ (.Assign [tg] e pos) (asgTM g fe) := by
  refine ps_imp (ps_asg he hg hs hw h1) fun D σ H ⟨ρ, F, O, S, P⟩ => ?_
  refine sps .refl .refl S P fun v H1 r ρ1 F1 O1 x1 y1 S1 r1 P1 => ?_
  cases q : frz ρ1 r with
  | none => rw [q] at P1; exact P1.elim
  | some z =>
    obtain ⟨d, ρ2⟩ := z
    rw [q] at P1
    dsimp only at P1
    obtain ⟨F2, O2, y2, E2, d2, _, sb, _⟩ := fz y1 (fun _ h => h) S1.E r1 q
    refine ⟨d, ρ2, F2, O2, E2, d2, ?_⟩
    cases q2 : g d ρ2 with
    | none => rw [q2] at P1; exact P1.elim
    | some ρ3 =>
      rw [q2] at P1
      exact fun σ3 O3 E3 k3 s3 => P1 σ3 H1 F2 O3 (y2.sub s3) ⟨E3, S1.lb, fun j b hj e => S1.lf j b hj (sb j b (s3 j b e))⟩ k3
end
end DL
namespace DL
open PySem L2 PyProof.Rows
def lenD : PyData → Option R
  | .list ds => some (.dat (.int ds.length))
  | .tuple ds => some (.dat (.int ds.length))
  | .str x => if x.length ≤ lim then some (.dat (.int x.length)) else none
  | _ => none
def absD : PyData → Option R
  | .int i => some (.dat (.int (if i < 0 then -i else i)))
  | _ => none
def tupD : PyData → Option R
  | .list ds => some (.dat (.tuple ds))
  | .tuple ds => some (.dat (.tuple ds))
  | _ => none
def lstD : PyData → Option R
  | .list ds => some (.own (.list ds))
  | .tuple ds => some (.own (.list ds))
  | _ => none
def intD : PyData → Option R
  | .int i => some (.dat (.int i))
  | .bool b => some (.dat (.int (if b then 1 else 0)))
  | _ => none
def strD : PyData → Option R
  | .int i => if i.natAbs.log2 < 1920 then some (.dat (.str (toString i))) else none
  | _ => none
def max2D : PyData → PyData → Option R
  | .int i, .int j => some (.dat (.int (if j > i then j else i)))
  | _, _ => none
def min2D : PyData → PyData → Option R
  | .int i, .int j => some (.dat (.int (if j < i then j else i)))
  | _, _ => none
def intsOf : List PyData → Option (List Int)
  | [] => some []
  | .int i :: r => (intsOf r).map (i :: ·)
  | _ => none
def boolsOf : List PyData → Option (List Bool)
  | [] => some []
  | .bool i :: r => (boolsOf r).map (i :: ·)
  | _ => none
theorem intsOf_eq : ∀ {ds : List PyData} {ns : List Int}, intsOf ds = some ns → ds = ns.map PyData.int
  | [], _, h => by cases h; rfl
  | .int i :: r, _, h => by
    obtain ⟨ns, h1, rfl⟩ := Option.map_eq_some_iff.mp (show (intsOf r).map (i :: ·) = _ from h)
    rw [List.map_cons, ← intsOf_eq h1]
@[simp] theorem intsOf_map : ∀ ns : List Int, intsOf (ns.map PyData.int) = some ns
  | [] => rfl
  | i :: r => by show (intsOf (r.map PyData.int)).map (i :: ·) = _; rw [intsOf_map r]; rfl
theorem boolsOf_eq : ∀ {ds : List PyData} {ns : List Bool}, boolsOf ds = some ns → ds = ns.map PyData.bool
  | [], _, h => by cases h; rfl
  | .bool i :: r, _, h => by
    obtain ⟨ns, h1, rfl⟩ := Option.map_eq_some_iff.mp (show (boolsOf r).map (i :: ·) = _ from h)
    rw [List.map_cons, ← boolsOf_eq h1]
@[simp] theorem boolsOf_map : ∀ ns : List Bool, boolsOf (ns.map PyData.bool) = some ns
  | [] => rfl
  | i :: r => by show (boolsOf (r.map PyData.bool)).map (i :: ·) = _; rw [boolsOf_map r]; rfl
def sumD (d : PyData) : Option R := (itemsOf d).bind fun ds => (intsOf ds).map fun ns => .dat (.int ns.sum)
def allD : PyData → Option R
  | .list ds => (boolsOf ds).map fun bs => .dat (.bool (bs.all id))
  | _ => none
def anyD : PyData → Option R
  | .list ds => (boolsOf ds).map fun bs => .dat (.bool (bs.any id))
  | _ => none
/-- as functions of a list of arguments -/
def on1 (g : PyData → Option R) : List PyData → Option R
  | [d] => g d
  | _ => none
def on2 (g : PyData → PyData → Option R) : List PyData → Option R
  | [d, e] => g d e
  | _ => none
section
variable {T : Tb}
theorem does1_on {r : List V → Hp → VK → Prop} {g : PyData → Option R} (h : Does1 T (fun x => r [x]) g) : DoesN T r (on1 g) := by
  intro xs ds z H F Q lv hx hg hq
  unfold on1 at hg
  split at hg
  · cases hx with
    | cons a b => cases b; exact h _ _ z H F Q lv a hg hq
  · cases hg
theorem does2_on {r : List V → Hp → VK → Prop} {g : PyData → PyData → Option R} (h : Does2 T (fun x y => r [x, y]) g) : DoesN T r (on2 g) := by
  intro xs ds z H F Q lv hx hg hq
  unfold on2 at hg
  split at hg
  · cases hx with
    | cons a b => cases b with
      | cons a' b' => cases b'; exact h _ _ _ _ z H F Q lv a a' hg hq
  · cases hg
def rLen (K : PySem.W.Frag) : List V → Hp → VK → Prop := fun xs H Q => (∃ p ys, xs = [.ref p] ∧ (SqL K H p ys ∨ SqT K H p ys) ∧ Q (.int ys.length) H) ∨ ∃ z, xs = [.str z] ∧ z.length ≤ sizeLine ∧ Q (.int z.length) H
theorem call_lenX {X : Cx} : CallR X (.builtin "len") (rLen X.K) := call_len_seq.or call_len_str
theorem does_len : DoesN T (rLen T.K) (on1 lenD) := does1_on fun x d z H F Q lv hx hg hq => by
  unfold lenD at hg
  split at hg
  · cases hg
    obtain ⟨a, vs, rfl, h1, s1⟩ := hx.lst
    exact .inl ⟨a, vs, rfl, .inl h1.sq, hq _ H F .refl (by rw [s1.length]; exact .int _)⟩
  · cases hg
    obtain ⟨a, vs, rfl, h1, s1⟩ := hx.tup
    exact .inl ⟨a, vs, rfl, .inr h1, hq _ H F .refl (by rw [s1.length]; exact .int _)⟩
  · split at hg
    · rename_i hz
      cases hg
      exact .inr ⟨_, by rw [hx.str], lm hz, hq _ H F .refl (.int _)⟩
    · cases hg
  · cases hg
theorem does_tuple : DoesN T (fun xs H Q => ∃ p ys, xs = [.ref p] ∧ ((SqL T.K H p ys ∧ ∀ l, H l = none → Q (.ref l) (upd H l (.tup ys))) ∨ (SqT T.K H p ys ∧ Q (.ref p) H))) (on1 tupD) := does1_on fun x d z H F Q lv hx hg hq => by
  unfold tupD at hg
  split at hg
  · cases hg
    obtain ⟨a, vs, rfl, h1, s1⟩ := hx.lst
    exact ⟨a, vs, rfl, .inl ⟨h1.sq, fun l hl => hq _ _ F (.laid hl) (resN_tup hl s1)⟩⟩
  · cases hg
    obtain ⟨a, vs, rfl, h1, s1⟩ := hx.tup
    exact ⟨a, vs, rfl, .inr ⟨h1, hq _ H F .refl (.tup h1 s1)⟩⟩
  · cases hg
theorem does_list : DoesN T (fun xs H Q => ∃ p ys, xs = [.ref p] ∧ (SqL T.K H p ys ∨ SqT T.K H p ys) ∧ ∀ l, H l = none → Q (.ref l) (upd H l (.lst ys))) (on1 lstD) := does1_on fun x d z H F Q lv hx hg hq => by
  unfold lstD at hg
  split at hg
  · cases hg
    obtain ⟨a, vs, rfl, h1, s1⟩ := hx.lst
    exact ⟨a, vs, rfl, .inl h1.sq, fun l hl => hq _ _ F (.laid hl) (resN_lst hl (fun q => lv l q hl) s1)⟩
  · cases hg
    obtain ⟨a, vs, rfl, h1, s1⟩ := hx.tup
    exact ⟨a, vs, rfl, .inr h1, fun l hl => hq _ _ F (.laid hl) (resN_lst hl (fun q => lv l q hl) s1)⟩
  · cases hg
theorem does_max2 : DoesN T (fun xs H Q => ∃ i j, xs = [.int i, .int j] ∧ Q (.int (if j > i then j else i)) H) (on2 max2D) := does2_on fun x y d e z H F Q lv hx hy hg hq => by
  unfold max2D at hg
  split at hg
  · cases hg
    exact ⟨_, _, by rw [hx.int, hy.int], hq _ H F .refl (.int _)⟩
  · cases hg
theorem does_min2 : DoesN T (fun xs H Q => ∃ i j, xs = [.int i, .int j] ∧ Q (.int (if j < i then j else i)) H) (on2 min2D) := does2_on fun x y d e z H F Q lv hx hy hg hq => by
  unfold min2D at hg
  split at hg
  · cases hg
    exact ⟨_, _, by rw [hx.int, hy.int], hq _ H F .refl (.int _)⟩
  · cases hg
theorem does_all : DoesN T (rAll T.K) (on1 allD) := does1_on fun x d z H F Q lv hx hg hq => by
  unfold allD at hg
  split at hg
  · obtain ⟨bs, h1, rfl⟩ := Option.map_eq_some_iff.mp hg
    obtain ⟨a, vs, rfl, h2, s1⟩ := hx.lst
    rw [boolsOf_eq h1] at s1
    exact ⟨a, bs, rfl, by rw [← s1.bools]; exact h2.sq, hq _ H F .refl (.bl _)⟩
  · cases hg
end
def tyN : PyData → String
  | .none => "NoneType"
  | .bool _ => "bool"
  | .int _ => "int"
  | .str _ => "str"
  | .list _ => "list"
  | .tuple _ => "tuple"
  | .dict _ => "dict"
def isiD (c : String) (d : PyData) : Option R := (kitB (tyN d) c).map fun b => .dat (.bool b)
section
variable {T : Tb} {H : Hp} {F : Reg}
/-- a value's type, dicts known to the object too -/
def TyY (K : PySem.W.Frag) (H : Hp) (x : V) (t : Value) : Prop := TyX K H x t ∨ ∃ a o, x = .ref a ∧ H a = some (DTo a o) ∧ o.cls = .type "dict" ∧ t = .type "dict"
theorem kit_ofY {X : Cx} {pins : List (Addr × Obj)} {σ : L2.St} {s : Shared} {x : V} {u t : Value} (I : L2.Inv X pins σ H s) (rx : RelV x u) (ty : TyY X.K H x t) : ∃ P : Heap → Prop, PySem.W.KitX X.K u t P ∧ P s.heap ∧ u ≠ .builtin "__main__.__loader__#opaque" := by
  rcases ty with ty | ⟨a, o, rfl, ea, ec, rfl⟩
  · exact kit_of I rx ty
  · cases (show u = Value.ref a from rx)
    have h1 : s.heap.get? a = some o := (I.hok a _ ea).1
    exact ⟨_, PySem.W.kitx_dict, ⟨o, h1, ec⟩, fun z => nomatch z⟩
def rIsiY (K : PySem.W.Frag) : List V → Hp → VK → Prop := fun xs H Q => ∃ (x c : V) (t u : Value) (b : Bool), xs = [x, c] ∧ ClsV c u ∧ TyY K H x t ∧ PySem.W.kitOne K t u = some b ∧ Q (.bl b) H
theorem call_isiY {X : Cx} : CallR X (.builtin "isinstance") (rIsiY X.K) := by
  intro pins s σ H xs us Q I r h
  obtain ⟨x, c, t, u, b, rfl, k, ty, e, q⟩ := h
  obtain ⟨u1, u2, rfl, r1, r2⟩ := vals2 r
  have e2 := k.eq r2
  subst e2
  obtain ⟨P, Z, p, hx⟩ := kit_ofY I r1 ty
  exact PySem.W.kia_one Z I.kIn p e hx fun tk => ⟨.bl b, H, I.tok tk, rfl, q⟩
theorem Vw.tyX {v : V} {d : PyData} (h : Vw T H F v d) : TyY T.K H v (.type (tyN d)) := by
  rcases h with h | ⟨a, rfl, h⟩
  · cases h with
    | non => exact .inl <| .base .non
    | bl b => exact .inl <| .base (.bl b)
    | int i => exact .inl <| .base (.int i)
    | str x => exact .inl <| .base (.str x)
    | lst f r s =>
      rcases r with r | ⟨o, r⟩
      · exact .inl <| .base (.lst r)
      · exact .inl <| .base (.frz r)
    | lstK r s =>
      obtain ⟨its, n, h1, _⟩ := r
      exact .inl <| .kList h1 rfl
    | tup r s =>
      rcases r with (r | ⟨o, r⟩) | ⟨o, its, n, r1, r2, _⟩
      · exact .inl <| .base (.tup r)
      · exact .inl <| .fTuple r
      · exact .inl <| .kTuple r1 r2
    | dct f r s =>
      rcases r with r | ⟨o, r⟩
      · exact .inl <| .base (.dK r)
      · exact .inl <| .fDict r
    | dcT f r e s => exact .inr ⟨_, _, rfl, r, e.ex.1, rfl⟩
  · cases d with
    | list ds => obtain ⟨vs, e, _⟩ := h; exact .inl <| .base (.lst e)
    | dict ds =>
      rcases h with ⟨vs, e, _⟩ | ⟨o, vs, e, q, _⟩
      · exact .inl <| .base (.dK e)
      · exact .inr ⟨_, _, rfl, e, q.ex.1, rfl⟩
    | none => exact h.elim
    | bool b => exact h.elim
    | int i => exact h.elim
    | str x => exact h.elim
    | tuple xs => exact h.elim
end
section
variable {X : Cx} {T : Tb} {W : WX} {e : Expr} {fe : EM} {p p2 pos : Pos}
/-- isinstance(e, c), c a built-in class -/
theorem se_isi {c : String} {cx : Str} (hK : X.K = T.K) (hg : L2.Gl X "isinstance") (hm : X.mg "isinstance" = none) (hgc : L2.Gl X cx) (hmc : X.mg cx = none) (hvc : bootBuiltins cx = some (.type c)) (he : SE X T W e fe) (hn : cx ≠ "__name__" := by decide) (hdb : (cx == ("__debug__" : Str)) = false := by decide)
    (hs : starEach [e, .Name cx p2] X.env = (false, eval e X.env) :: starEach [.Name cx p2] X.env := by rfl) (hpl : (backTo pos (starEach [.Name cx p2] X.env)).any (·.1) = false := by rfl) :
    SE X T W (.Call (.Name "isinstance" p) [e, .Name cx p2] [] pos) (op1M (isiD c) fe) := by
  have ha : PA X [e, .Name cx p2] (tCons (Tof T W (tlE T) fe) (tCons (tC (.ty c)) tNil)) := pa_cons he (pa_cons (pe_bltn (v := .ty c) hgc hmc hvc rfl hn hdb) pa_nil) hs
  refine pe_imp (pe_callB call_isiY hg hm (by decide +kernel) ha (by decide) (by decide) hs hpl) fun σ H Q h => ?_
  have h2 := op1 (r := fun x H Q => rIsiY T.K [x, .ty c] H Q) (g := isiD c) (fun x d z H F Q lv hx hg hq => by
    obtain ⟨b, h1, rfl⟩ := Option.map_eq_some_iff.mp (show (kitB (tyN d) c).map _ = some z from hg)
    exact ⟨x, .ty c, .type (tyN d), .type c, b, rfl, .ty c, hx.tyX, kit_ty h1, hq _ H F .refl (.bl _)⟩) h
  rw [hK]
  exact h2
end
end DL
namespace DL
open PySem L2 PyProof.Rows
def cutD (xs : List PyData) (lo hi : Option Int) : List PyData := (xs.drop (HT.sIx xs.length 0 lo)).take (HT.sIx xs.length xs.length hi - HT.sIx xs.length 0 lo)
def slD (d : PyData) (lo hi : Option Int) : Option R := match d with
  | .list ds => some (.own (.list (cutD ds lo hi)))
  | .tuple ds => some (.dat (.tuple (cutD ds lo hi)))
  | .str x => if x.length ≤ lim then some (.dat (.str (cutS x lo hi))) else none
  | _ => none
/-- a part of a slice -/
def ptM (o : Option EM) : Rho → Option (Oe (Option Int)) := fun ρ => match o with
  | none => some (.ok none ρ)
  | some f => bindO (f ρ) fun r ρ1 => match r with
    | .dat (.int i) => some (.ok (some i) ρ1)
    | _ => none
def slM (fe : EM) (lo hi : Option EM) : EM := fun ρ => bindO (fe ρ) fun r ρ1 => bindO (ptM lo ρ1) fun a ρ2 => bindO (ptM hi ρ2) fun b ρ3 => match val ρ3 r with
  | some d => (slD d a b).map fun z => .ok z ρ3
  | none => none
def tlO : Tell (Option Int) (Option Int) := fun _ _ _ _ _ b c => b = c
def SO (X : Cx) (T : Tb) (W : WX) (e : Option Expr) (f : Option EM) : Prop := PO X e (Tof T W tlO (ptM f))
section
variable {X : Cx} {T : Tb} {W : WX} {e : Expr} {f fe : EM} {lo hi : Option Expr} {flo fhi : Option EM} {p2 pos : Pos}
theorem po_imp {e : Option Expr} {t t' : TO} (h : PO X e t) (i : ∀ σ H Q, t' σ H Q → t σ H Q) : PO X e t' := ⟨fun pins s σ H Q I q => h.run pins s σ H Q I (i σ H Q q)⟩
theorem so_none : SO X T W none none := po_imp po_none fun σ H Q ⟨ρ, F, O, E, P⟩ => P none H F O .refl E rfl
theorem so_some (h : SE X T W e f) : SO X T W (some e) (some f) := po_imp (po_some h) fun σ H Q ⟨ρ, F, O, E, P⟩ => by
  refine stp .refl E P fun v H1 r ρ1 F1 O1 x1 y1 E1 r1 P1 => ?_
  split at P1
  · exact ⟨_, int_of r1, P1 _ H1 F1 O1 y1 E1 rfl⟩
  · exact P1.elim
def rSlX (K : PySem.W.Frag) : V → Option Int → Option Int → Hp → VK → Prop := fun x lo hi H Q => rSlL K x lo hi H Q ∨ (rSlA K x lo hi H Q ∨ rSlS x lo hi H Q)
theorem sl_X : SlR X (rSlX X.K) := sl_list.or (sl_tupA.or sl_str)
theorem cut_dfs {K : PySem.W.Frag} {H : Hp} {F : Reg} {vs : List V} {ds : List PyData} (s : DFs K H F vs ds) (lo hi : Option Int) : DFs K H F (cutV vs lo hi) (cutD ds lo hi) := by
  unfold cutV cutD
  rw [s.length]
  exact (s.drop _).take _
theorem cut_all {xs : List PyData} {lo hi : Option Int} (h : HT.sIx xs.length 0 lo = 0 ∧ HT.sIx xs.length xs.length hi = xs.length) : cutD xs lo hi = xs := by
  unfold cutD
  rw [h.1, h.2]
  simp
theorem se_slice (hK : X.K = T.K) (he : SE X T W e fe) (hl : SO X T W lo flo) (hh : SO X T W hi fhi) : SE X T W (.Subscript e (.Slice lo hi none p2) pos) (slM fe flo fhi) := by
  refine pe_imp (pe_slice sl_X he hl hh) fun σ H Q ⟨ρ, F, O, E, P⟩ => ?_
  rw [hK]
  refine stp .refl E P fun v H1 r ρ1 F1 O1 x1 y1 E1 r1 P1 => ?_
  refine stp y1 E1 P1 fun a H2 a' ρ2 F2 O2 x2 y2 E2 r2 P2 => ?_
  refine stp y2 E2 P2 fun b H3 b' ρ3 F3 O3 x3 y3 E3 r3 P3 => ?_
  have e2 : a = a' := r2
  have e3 : b = b' := r3
  subst e2 e3
  have r1' : ResR T H H3 F3 O3 σ v r := ResR.mono E2 x3 (ResR.mono E1 x2 r1)
  cases q : val ρ3 r with
  | none => rw [q] at P3; exact P3.elim
  | some d =>
    rw [q] at P3
    dsimp only at P3
    have hv := val_vw E3 r1' q
    cases d with
    | list ds =>
      obtain ⟨l, vs, rfl, h1, s1⟩ := hv.lst
      exact .inl ⟨l, vs, rfl, h1.sq, fun p hp => fin_op y3 E3 P3 (.laid hp) (resN_lst hp (fun q => E3.lv p q hp) (cut_dfs s1 a b))⟩
    | tuple ds =>
      obtain ⟨l, vs, rfl, h1, s1⟩ := hv.tup
      refine .inr (.inl ⟨l, vs, rfl, h1, fun z => ?_, fun _ p hp => fin_op y3 E3 P3 (.laid hp) (resN_tup hp (cut_dfs s1 a b))⟩)
      rw [s1.length] at z
      exact fin_op y3 E3 P3 .refl (show DF T.K H3 F3 (.ref l) (.tuple (cutD ds a b)) from by rw [cut_all z]; exact .tup h1 s1)
    | str x =>
      have P4 : Post T W (tlE T) σ H F O Q ((if x.length ≤ lim then some (R.dat (.str (cutS x a b))) else none).map fun z => Oe.ok z ρ3) := P3
      split at P4
      · rename_i hz
        exact .inr (.inr ⟨x, hv.str, lm hz, fin_op y3 E3 P4 .refl (.str _)⟩)
      · exact P4.elim
    | none => exact P3.elim
    | bool b => exact P3.elim
    | int i => exact P3.elim
    | dict xs => exact P3.elim
end
end DL
namespace DL
open PySem L2 PyProof.Rows
/-- the defs that make lambdas: their code objects and tables, as the top has left them -/
structure TabsAt (K : PySem.W.Frag) (h : Heap) (mg : Str → Option Value) (cs : List (Addr × Addr)) : Prop where
  tab : ∀ p ∈ cs, h.get? p.2 = some { cls := .none, data := .fields #[] }
  out : ∀ p ∈ cs, K.lookup p.2 = none
  code : ∀ p ∈ cs, PySem.W.CodeHd h p.1 p.2
  bm : ∃ (bm : Addr) (ob : Obj), mg "__builtins__" = some (.ref bm) ∧ bm ≠ builtinsNs ∧ h.get? bm = some ob ∧ ob.cls = .type "module" ∧ ob.dict = some builtinsNs ∧ ob.data = .plain
def isTab (cs : List (Addr × Addr)) (b : Addr) : Prop := ∃ p ∈ cs, p.2 = b
instance (cs : List (Addr × Addr)) (b : Addr) : Decidable (isTab cs b) := by unfold isTab; infer_instance
section
variable {K : PySem.W.Frag} {h : Heap} {mg : Str → Option Value} {cs : List (Addr × Addr)}
theorem TabsAt.at (t : TabsAt K h mg cs) {b : Addr} (e : isTab cs b) : h.get? b = some { cls := .none, data := .fields #[] } := by
  obtain ⟨p, hp, rfl⟩ := e
  exact t.tab p hp
theorem TabsAt.not (t : TabsAt K h mg cs) {b : Addr} {o : Obj} (e : h.get? b = some o) (n : o.data ≠ .fields #[]) : ¬ isTab cs b := fun z => by
  rw [t.at z] at e
  cases e
  exact n rfl
/-- the tables over the base that hides what is tracked -/
theorem TabsAt.base (t : TabsAt K h mg cs) (ns : h.Ns mainGlobals mg) {g : Heap} (gt : ∀ b o, h.get? b = some o → ¬ isTab cs b → (∀ us n, o.data ≠ .seq us n) → g.get? b = some o) : ∀ p ∈ cs, LamX.TabB g mg p.1 p.2 := fun p hp => by
  have hp2 := t.tab p hp
  refine ⟨?_, ?_, fun z => ?_⟩
  · obtain ⟨o, us, file, tf, flags, tg, inF, text, tt, e1, r1, r2, r⟩ := t.code p hp
    refine ⟨o, us, file, tf, flags, tg, inF, text, tt, gt _ _ e1 (t.not e1 fun z => ?_) (fun vs n z => ?_), r1, r2, r⟩
    · rw [r2] at z
      cases z
      simp at r
    · rw [r2] at z
      cases z
  · obtain ⟨b, ob, b1, b2, b3, b4, b5, b6⟩ := t.bm
    refine ⟨b, ob, b1, b2, fun q => ?_, fun q => ?_, gt _ _ b3 (t.not b3 fun z => by rw [b6] at z; cases z) (fun vs n z => by rw [b6] at z; cases z), b4, b5, b6⟩
    · obtain ⟨o, es, ep, e, hd, _⟩ := ns
      rw [q, e] at b3
      cases b3
      rw [hd] at b6
      cases b6
    · rw [q, hp2] at b3
      cases b3
      cases b6
  · obtain ⟨o, es, ep, e, hd, _⟩ := ns
    rw [z, hp2] at e
    cases e
    cases hd
end
/-- the law's call at the heap that the top has left: from the law's promise at every base -/
theorem law_g {P : Program} {w : World} {T : Tb} {mg mb : Str → Option Value} {k : Nat} {fa a : Addr} {fd : FuncData} {x : Str} {sem : Sem} {s1 : Shared} {vs : List Value} {ns : List Int} {cs : List (Addr × Addr)} (KX : T.K.In s1.heap) (gl : s1.heap.Ns mainGlobals mg) (bl : s1.heap.Ns builtinsNs mb)
    (bb : ∀ x : Str, x ≠ "__name__" → mb x = bootBuiltins x) (nl : s1.heap.NoLimit) (sy : ∃ mm, s1.heap.Ns sysModules mm) (gn : s1.gens = #[]) (ha : s1.heap.get? a = some { cls := .type "list", data := .seq vs.toArray }) (hi : IntsAre vs ns) (hl : ns.length ≤ lim) (hr : Room k callerA)
    (tc : TabsAt T.K s1.heap mg cs) (htb : ∀ q ∈ T.tb, isTab cs q.1)
    (G : ∀ base : Heap, T.K.In base → base.Ns mainGlobals mg → base.get? sysModules ≠ none → (∀ p ∈ cs, LamX.TabB base mg p.1 p.2) → FnG P w T.K mg base k fa fd [x] (spOf T 1 sem)) (hb : ∀ (s : Shared) (u : Value), BindsTo s fd ⟨[u], []⟩ [(x, u)])
    (hs : ∃ os, sem [.dat (.list (ns.map .int))] = some (.ok (.dat (.bool true)) os)) :
    codeAny (model P w) callerA (.call (.ref fa) ⟨[.ref a], []⟩) (fun r s' => r = .ok (.ret (.bool true)) ∧ OldK s1.heap s'.heap ∧ s'.os = s1.os ∧ AllBare s'.gens) s1 := by
  have rv := vals_ints hi
  have aT : ¬ isTab cs a := tc.not ha fun z => by cases z
  have nds : ∀ {b : Addr} {m : Str → Option Value}, s1.heap.Ns b m → b ≠ a := fun {b m} ⟨o, es, ep, e, dd, _⟩ z => by
    subst z
    rw [ha] at e
    cases e
    exact absurd dd (by intro q; cases q)
  have ndt : ∀ {b : Addr} {m : Str → Option Value}, s1.heap.Ns b m → ¬ isTab cs b := fun {b m} ⟨o, es, ep, e, dd, _⟩ => tc.not e fun z => by rw [dd] at z; cases z
  obtain ⟨mm, sy⟩ := sy
  -- over any abstract heap that tracks the tables and at most the script
  have core : ∀ (H : Hp) (F : Reg), (∀ b, H b ≠ none → ¬ isTab cs b → b = a ∧ T.K.lookup a = none ∧ ∃ o xs, H b = some (.frz o (.lst xs))) → (∀ b, isTab cs b → H b = some (.tbl #[])) → HOk P w H s1.heap → (∀ b, F b → H b ≠ none) → DF T.K H F (.ref a) (.list (ns.map .int)) →
      codeAny (model P w) callerA (.call (.ref fa) ⟨[.ref a], []⟩) (fun r s' => r = .ok (.ret (.bool true)) ∧ OldK s1.heap s'.heap ∧ s'.os = s1.os ∧ AllBare s'.gens) s1 := by
    intro H F hH hT hok hF dd
    have free : ∀ {b : Addr}, b ≠ a → ¬ isTab cs b → H b = none := fun {b} n nt => by
      cases q : H b with
      | none => rfl
      | some o => exact absurd (hH b (by rw [q]; simp) nt).1 n
    have ns' : ∀ {b : Addr} {m : Str → Option Value}, s1.heap.Ns b m → (hidT s1.heap H).Ns b m := fun {b m} z => by
      have n := nds z
      have n2 := ndt z
      obtain ⟨o, es, ep, e, r⟩ := z
      exact ⟨o, es, ep, hidT_get e (free n n2), r⟩
    have kb : T.K.In (hidT s1.heap H) := fun b o e => hidT_get (KX b o e) (by
      cases q : H b with
      | none => rfl
      | some u =>
        by_cases ht : isTab cs b
        · obtain ⟨p, hp, rfl⟩ := ht
          rw [tc.out p hp] at e; cases e
        · obtain ⟨rfl, z, _⟩ := hH b (by rw [q]; simp) ht
          rw [z] at e; cases e)
    have md : Mod T.K mg (hidT s1.heap H) := ⟨kb, ns' gl, ⟨mb, ns' bl, bb⟩, by
      obtain ⟨mc, h1, h2⟩ := nl
      exact ⟨mc, ns' h1, h2⟩⟩
    have sm : (hidT s1.heap H).get? sysModules ≠ none := by
      obtain ⟨o, es, ep, e, _⟩ := ns' sy
      rw [e]; simp
    have tB : ∀ p ∈ cs, LamX.TabB (hidT s1.heap H) mg p.1 p.2 := tc.base gl fun b o e nt nsq => hidT_get e (free (fun z => by rw [z, ha] at e; cases e; exact nsq _ _ rfl) nt)
    have e0 : Env0 P w T.K mg (hidT s1.heap H) callerA [] s1 H := ⟨rfl, md, fun b o e => of_hidT e, Nat.le_of_eq (hidT_size _ _), trivial, fun b z => absurd (show b ∈ ([] : List Addr) from z) (by simp), hok, .of_eq gn⟩
    obtain ⟨os, hs⟩ := hs
    have sp : spOf T 1 sem [.ref a] H (fun v _ => v = .bl true) (fun _ _ _ => False) := by
      refine ⟨[.dat (.list (ns.map .int))], F, fun _ => [], rfl, ⟨rfl, fun i r e => ?_, (fun _ _ q => absurd q List.not_mem_nil), (fun _ _ _ q => absurd q List.not_mem_nil), (fun _ _ q => absurd q List.not_mem_nil), hF, fun q hq => .nil (hT _ (htb q hq))⟩, ?_⟩
      · cases i with
        | zero => simp at e; subst e; exact ⟨.ref a, rfl, rfl, dd⟩
        | succ i => simp at e
      · rw [hs]
        exact fun v H' F' O' _ _ r => bl_of r
    refine codeAny_mono ((G _ kb (ns' gl) sm tB).run callerA [] s1 H ⟨[.ref a], []⟩ [.ref a] [.ref a] _ _ rfl hr e0 (hb s1 (.ref a)) (.cons rfl .nil) sp) ?_
    intro r s' h
    cases r with
    | error e =>
      obtain ⟨_, _, _, _, _, _, _, _, _, _, _, _, z⟩ := h
      exact z.elim
    | ok fl =>
      cases fl with
      | next => exact h.elim
      | brk => exact h.elim
      | cont => exact h.elim
      | ret u =>
        obtain ⟨v, H', os', bare, un, hok', rr, qv⟩ := h
        subst qv
        obtain rfl : u = Value.bool true := rr
        have kp : ∀ b o, ¬ isTab cs b → s1.heap.get? b = some o → s'.heap.get? b = some o := fun b o nt e => by
          by_cases n : H b = none
          · exact un.keep b o e n (by intro z; exact absurd (show b ∈ ([] : List Addr) from z) (by simp)) (by simp)
          · obtain ⟨_, _, ob, xs, z⟩ := hH b n nt
            obtain ⟨e1, _⟩ := hok b _ z
            obtain ⟨e2, _⟩ := hok' b _ (un.frzs b ob _ z)
            rw [e] at e1
            cases e1
            exact e2
        have gw : ∀ b, isTab cs b → ∃ us : Array Value, s'.heap.get? b = some { cls := .none, data := .fields us } := fun b ht => by
          obtain ⟨us, z⟩ := un.tbls b #[] (hT b ht)
          exact ⟨_, hok' b _ z⟩
        refine ⟨rfl, ⟨fun b o e => ?_, fun b o e => ?_⟩, os', bare⟩
        · by_cases ht : isTab cs b
          · obtain ⟨us, hu⟩ := gw b ht
            have e' := e
            rw [tc.at ht] at e'
            cases e'
            obtain ⟨p, hp, rfl⟩ := ht
            exact .inr (.inl ⟨((tc.code p hp).tab (tc.tab p hp)).isCodeTable, rfl, #[], us, rfl, by simpa using hu⟩)
          · exact .inl (kp b o ht e)
        · by_cases ht : isTab cs b
          · obtain ⟨us, hu⟩ := gw b ht
            exact ⟨_, hu⟩
          · exact ⟨o, kp b o ht e⟩
  have lv := hi.length
  cases hk : T.K.lookup a with
  | some o =>
    have e := KX a o hk
    rw [ha] at e
    cases e
    refine core (fun b => if isTab cs b then some (.tbl #[]) else none) (fun _ => False) (fun b z nt => absurd (if_neg nt) z) (fun b ht => if_pos ht) (fun b u z => ?_) (fun _ z => z.elim) (.lstK ⟨vs.toArray, _, hk, ?_, by simpa using rv, ?_⟩ (DFs.of_ints ns))
    · by_cases ht : isTab cs b
      · have z' := (if_pos ht).symm.trans z
        cases z'
        exact tc.at ht
      · have z' := (if_neg ht).symm.trans z
        cases z'
    · rw [List.size_toArray, lv]
      exact lm hl
    · exact Ne.symm (nds sy)
  | none =>
    have h1 : (fun b => if b = a then some (HO.frz { cls := .type "list", data := .seq vs.toArray } (.lst (ns.map V.int))) else if isTab cs b then some (.tbl #[]) else none : Hp) a = some (.frz { cls := .type "list", data := .seq vs.toArray } (.lst (ns.map V.int))) := if_pos rfl
    refine core (fun b => if b = a then some (.frz { cls := .type "list", data := .seq vs.toArray } (.lst (ns.map V.int))) else if isTab cs b then some (.tbl #[]) else none) (fun b => b = a) (fun b z nt => ?_) (fun b ht => ?_) (fun b u z => ?_) (fun b z => ?_) (.lst rfl (.inr ⟨_, h1⟩) (DFs.of_ints ns))
    · by_cases e : b = a
      · subst e
        exact ⟨rfl, hk, _, _, h1⟩
      · exact absurd ((if_neg e).trans (if_neg nt)) z
    · exact (if_neg (show ¬ b = a from fun z => aT (z ▸ ht))).trans (if_pos ht)
    · by_cases e : b = a
      · subst e
        have z' := h1.symm.trans z
        cases z'
        exact ⟨ha, by rw [List.length_map]; exact lm hl, vs, _, rv, ha⟩
      · by_cases ht : isTab cs b
        · have z' := ((if_neg e).trans (if_pos ht)).symm.trans z
          cases z'
          exact tc.at ht
        · have z' := ((if_neg e).trans (if_neg ht)).symm.trans z
          cases z'
    · rw [z, if_pos rfl]
      simp
end DL
namespace DL
open PySem L2 PyProof.Rows
/-- the names by slot and the scope -/
structure At (X : Cx) (N : List Str) (sc : Scope) : Prop where
  hN : X.N = N
  hs : X.env.scope = sc
def visB (sc : Scope) (x : Str) : Bool := match sc.names.lookup x with
  | some .local => true
  | some .cell => true
  | some .free => true
  | _ => false
def locB (sc : Scope) (x : Str) : Bool := match sc.names.lookup x with
  | some .local => true
  | some .cell => true
  | _ => false
def lclB (sc : Scope) (x : Str) : Bool := match sc.names.lookup x with
  | some .local => true
  | _ => false
def glB (sc : Scope) (x : Str) : Bool := match sc.names.lookup x with
  | some .globalImplicit => true
  | _ => false
theorem visB_ok {sc : Scope} {x : Str} (h : visB sc x = true) : Vis sc x := by
  unfold visB at h
  split at h
  · exact .inl (by assumption)
  · exact .inr (.inl (by assumption))
  · exact .inr (.inr (by assumption))
  · cases h
theorem locB_ok {sc : Scope} {x : Str} (h : locB sc x = true) : Loc sc x := by
  unfold locB at h
  split at h
  · exact .inl (by assumption)
  · exact .inr (by assumption)
  · cases h
theorem lclB_ok {sc : Scope} {x : Str} (h : lclB sc x = true) : sc.names.lookup x = some .local := by
  unfold lclB at h
  split at h
  · assumption
  · cases h
theorem glB_ok {sc : Scope} {x : Str} (h : glB sc x = true) : sc.names.lookup x = some .globalImplicit := by
  unfold glB at h
  split at h
  · assumption
  · cases h
/-- a slot's name is seen -/
def nmB (N : List Str) (sc : Scope) (i : Nat) (x : Str) : Bool := decide (N[i]? = some x) && visB sc x && !(x == ("__debug__" : Str)) && !(x == ("__classdict__" : Str))
def tgB (N : List Str) (sc : Scope) (i : Nat) (x : Str) : Bool := decide (N[i]? = some x) && locB sc x
def gnB (sc : Scope) (x : Str) : Bool := glB sc x && !(x == ("__debug__" : Str)) && !decide (x = "__name__")
section
variable {X : Cx} {T : Tb} {W : WX} {N : List Str} {sc : Scope} {φ : Fm} {pos p : Pos} {x : Str} {i : Nat}
theorem At.gl (a : At X N sc) (h : gnB sc x = true) : L2.Gl X x ∧ (x == ("__debug__" : Str)) = false ∧ x ≠ "__name__" := by
  unfold gnB at h
  simp only [Bool.and_eq_true, Bool.not_eq_true', decide_eq_false_iff_not] at h
  refine ⟨?_, h.1.2, h.2⟩
  show X.env.scope.names.lookup x = _
  rw [a.hs]
  exact glB_ok h.1.1
theorem se_n (a : At X N sc) (i : Nat) (h : nmB N sc i x = true) : SE X T W (.Name x pos) (nmM i) := by
  unfold nmB at h
  simp only [Bool.and_eq_true, decide_eq_true_eq, Bool.not_eq_true'] at h
  exact se_nm i (by rw [a.hN]; exact h.1.1.1) (by rw [a.hs]; exact visB_ok h.1.1.2) h.1.2 h.2
theorem pe_n (a : At X N sc) (i : Nat) (h : nmB N sc i x = true) : PE X (.Name x pos) (tVar i) := by
  unfold nmB at h
  simp only [Bool.and_eq_true, decide_eq_true_eq, Bool.not_eq_true'] at h
  exact pe_var (by rw [a.hN]; exact h.1.1.1) (by rw [a.hs]; exact visB_ok h.1.1.2) h.1.2 h.2
theorem sg_n {pr : Nat → Bool} (a : At X N sc) (nd : X.N.Nodup) (fn : X.fn x = true ∨ sc.names.lookup x = some .local) (i : Nat) (h : tgB N sc i x = true) (hp : pr i = false) : SG X T pr (.Name x pos) (gnM i) := by
  unfold tgB at h
  simp only [Bool.and_eq_true, decide_eq_true_eq] at h
  exact sg_nm hp nd (by rw [a.hN]; exact h.1) (by rw [a.hs]; exact locB_ok h.2) (by rw [a.hs]; exact fn)
theorem ss_a {e : Expr} {fe : EM} {pos' : Pos} (a : At X N sc) (nd : X.N.Nodup) (fn : ∀ x, X.fn x = true) (i : Nat) (h : tgB N sc i x = true) (hp : φ.pr i = false) (he : SE X T W e fe) (hs : swapsWith e (some (.Name x pos')) pos.line X.env = pure false := by rfl) : SS X T W φ (.Assign [.Name x pos'] e pos) (asgM i fe) := by
  unfold tgB at h
  simp only [Bool.and_eq_true, decide_eq_true_eq] at h
  exact ss_asg hp nd (by rw [a.hN]; exact h.1) (by rw [a.hs]; exact locB_ok h.2) he hs (.inl (fn x))
/-- the block of a comprehension -/
theorem At.blk (a : At X N sc) (s : Shared) (H : Hp) (scope : Scope) (cl : List (Str × Addr)) (C : Addr) (fp : List Addr) : At (X.blk s H scope (compEnvC scope cl C X.env) fp) N (relS scope sc) := by
  refine ⟨a.hN, ?_⟩
  show relabel scope X.env = _
  rw [← a.hs]
  rfl
theorem At.blkOk {scope : Scope} {own : List (Str × Nat)} (a : At X N sc) (h : blkC N sc scope own = true) : BlkOk X.N X.env.scope scope own := by
  rw [a.hN, a.hs]
  exact blkOk_by h
/-- y = [..]: a local's name -/
theorem At.sw {elt : Expr} {gs : List Comprehension} {scope : Scope} {py : Pos} {y : Str} {l : Nat} (a : At X N sc) (hk : X.env.scope.kind = .function) (h : (lclB sc y && (py.line == pos.line) && !(scope.names.any fun (n, k) => n == y && (k == .local || k == .cell))) = true) :
    swapsWith (.ListComp elt gs scope pos) (some (.Name y py)) l X.env = pure true := by
  simp only [Bool.and_eq_true, Bool.not_eq_true'] at h
  exact sw_true hk (by rw [a.hs]; exact lclB_ok h.1.1) h.1.2 h.2
/-- a built-in by its name -/
theorem se_b {id : String} {r : List V → Hp → VK → Prop} {g : List PyData → Option R} {f : AM} {e : Expr} {es : List Expr} (a : At X N sc) (hx : gnB sc x = true) (hc : CallR X (.builtin id) r) (dr : DoesN T r g) (hm : X.mg x = none) (hv : bootBuiltins x = some (.builtin id)) (ha : SA X T W (e :: es) f)
    (he : starEach (e :: es) X.env = (false, eval e X.env) :: starEach es X.env := by rfl) (hpl : (backTo pos (starEach es X.env)).any (·.1) = false := by rfl) :
    SE X T W (.Call (.Name x p) (e :: es) [] pos) (opnM g f) := se_callB hc dr (a.gl hx).1 hm hv ha (a.gl hx).2.2 (a.gl hx).2.1 he hpl
theorem se_t {id : String} {r : List V → Hp → VK → Prop} {g : List PyData → Option R} {f : AM} {e : Expr} {es : List Expr} (a : At X N sc) (hx : gnB sc x = true) (hc : CallR X (.type id) r) (dr : DoesN T r g) (hm : X.mg x = none) (hv : bootBuiltins x = some (.type id)) (ha : SA X T W (e :: es) f)
    (he : starEach (e :: es) X.env = (false, eval e X.env) :: starEach es X.env := by rfl) (hpl : (backTo pos (starEach es X.env)).any (·.1) = false := by rfl) :
    SE X T W (.Call (.Name x p) (e :: es) [] pos) (opnM g f) := se_callTy hc dr (a.gl hx).1 hm hv ha (a.gl hx).2.2 (a.gl hx).2.1 he hpl
theorem se_f {k n m : Nat} {sem : Sem} {f : AM} {e : Expr} {es : List Expr} (a : At X N sc) (hx : gnB sc x = true) (c : Cxt X T W m) (h : FnE X.prog X.w X.mg X.base T x k n sem) (hl : ∀ args o, sem args = some o → args.length = n) (hk : k ≤ m) (ha : SA X T W (e :: es) f)
    (he : starEach (e :: es) X.env = (false, eval e X.env) :: starEach es X.env := by rfl) (hpl : (backTo pos (starEach es X.env)).any (·.1) = false := by rfl) : SE X T W (.Call (.Name x p) (e :: es) [] pos) (callM sem f) :=
  se_call h c hk (a.gl hx).1 ha hl (a.gl hx).2.1 he hpl
theorem se_g {v : V} {d : PyData} (a : At X N sc) (hx : gnB sc x = true) (h : ∃ u v, X.mg x = some u ∧ L2.RelV v u ∧ ∀ H F, DF T.K H F v d) : SE X T W (.Name x pos) (cM d) := by
  obtain ⟨u, v, h1, h2, h3⟩ := h
  exact se_glob (a.gl hx).1 h1 h2 h3 (a.gl hx).2.1
theorem se_is {c : String} {cx : Str} {e : Expr} {fe : EM} {p2 : Pos} (a : At X N sc) (hK : X.K = T.K) (h1 : gnB sc "isinstance" = true) (hm : X.mg "isinstance" = none) (h2 : gnB sc cx = true) (hmc : X.mg cx = none) (hvc : bootBuiltins cx = some (.type c)) (he : SE X T W e fe)
    (hs : starEach [e, .Name cx p2] X.env = (false, eval e X.env) :: starEach [.Name cx p2] X.env := by rfl) (hpl : (backTo pos (starEach [.Name cx p2] X.env)).any (·.1) = false := by rfl) :
    SE X T W (.Call (.Name "isinstance" p) [e, .Name cx p2] [] pos) (op1M (isiD c) fe) := se_isi hK (a.gl h1).1 hm (a.gl h2).1 hmc hvc he (a.gl h2).2.2 (a.gl h2).2.1 hs hpl
/-- a, b = e, f: two local names -/
theorem swap2 {ea eb : Expr} {y : Str} {px py pt : Pos} {kt k2 : Nat} {pt2 : Pos} (a : At X N sc) (hk : X.env.scope.kind = .function) (h : (lclB sc x && lclB sc y && !(x == y) && (py.line == px.line)) = true)
    (h1 : ([ea, eb].any fun | .Starred .. => true | _ => false) = false := by rfl) (h2 : [ea, eb].all (foldedForSure 8) = false := by rfl) (h3 : [ea, eb].all (constantsAlone 8) = false := by rfl) :
    swappedStores [.Tuple [.Name x px, .Name y py] kt pt] (.Tuple [ea, eb] k2 pt2) X.env = pure (some [x, y]) := by
  simp only [Bool.and_eq_true, Bool.not_eq_true', beq_iff_eq] at h
  obtain ⟨⟨⟨hx, hy⟩, hxy⟩, hl⟩ := h
  have kx : X.env.kindOf x = some .local := by show X.env.scope.names.lookup x = _; rw [a.hs]; exact lclB_ok hx
  have ky : X.env.kindOf y = some .local := by show X.env.scope.names.lookup y = _; rw [a.hs]; exact lclB_ok hy
  have bk : X.env.blockKind = .function := by unfold Env.blockKind; rw [hk]; rfl
  have hne : (y == x) = false := by
    have : x ≠ y := by simpa using hxy
    simpa using Ne.symm this
  unfold swappedStores
  simp [kx, ky, bk, hl, h1, h2, h3, Expr.pos, List.eraseDups_cons, hne, hxy]
  intro h
  simp only [List.any_cons, List.any_nil, Bool.or_false, Bool.or_eq_false_iff] at h1
  rcases h with h | h
  · cases ea <;> first | exact absurd h Bool.false_ne_true | exact absurd h1.1.symm Bool.false_ne_true
  · cases eb <;> first | exact absurd h Bool.false_ne_true | exact absurd h1.2.symm Bool.false_ne_true
theorem ss_p2 {ea eb : Expr} {fa fb : EM} {y : Str} {px py pt : Pos} {kt k2 : Nat} {pt2 : Pos} (a : At X N sc) (hk : X.env.scope.kind = .function) (nd : X.N.Nodup) (hc : X.calm = true) (i j : Nat) (hi : decide (N[i]? = some x) = true) (hj : decide (N[j]? = some y) = true) (hij : i ≠ j) (hp : φ.pr i = false) (hq : φ.pr j = false)
    (h : (lclB sc x && lclB sc y && !(x == y) && (py.line == px.line)) = true) (ha : SE X T W ea fa) (hb : SE X T W eb fb) (hs : starEach [ea, eb] X.env = (false, eval ea X.env) :: starEach [eb] X.env := by rfl) (hs2 : starEach [eb] X.env = (false, eval eb X.env) :: starEach [] X.env := by rfl)
    (h1 : ([ea, eb].any fun | .Starred .. => true | _ => false) = false := by rfl) (h2 : [ea, eb].all (foldedForSure 8) = false := by rfl) (h3 : [ea, eb].all (constantsAlone 8) = false := by rfl)
    (hw : swapsWithSole [.Tuple [.Name x px, .Name y py] kt pt] (.Tuple [ea, eb] k2 pt2) pos.line X.env = pure false := by rfl) :
    SS X T W φ (.Assign [.Tuple [.Name x px, .Name y py] kt pt] (.Tuple [ea, eb] k2 pt2) pos) (parM i j fa fb) := by
  have h' := h
  simp only [Bool.and_eq_true, Bool.not_eq_true', beq_iff_eq] at h'
  have gi : X.N[i]? = some x := by rw [a.hN]; exact of_decide_eq_true hi
  have gj : X.N[j]? = some y := by rw [a.hN]; exact of_decide_eq_true hj
  exact ss_par hp hq gi gj (ps_par hc nd gi gj hij (by rw [a.hs]; exact lclB_ok h'.1.1.1) (by rw [a.hs]; exact lclB_ok h'.1.1.2) (pa_cons ha (pa_cons hb pa_nil hs2) hs) (swap2 a hk h h1 h2 h3) hw)
end
/-- a def of the text, with its promise -/
theorem fn_e {T : Tb} {P : Program} {w : World} {mg : Str → Option Value} {base : Heap} {k n : Nat} {x qual : Str} {st : Stmt} {f : Addr} {fd : FuncData} {N ps : List Str} {pr : Nat → Bool} {m : SM} (G : Fun T.K x qual st f fd) (S : FnScope N ps (defScope st)) (hn : ps.length = n) (hmg : mg x = some (.ref f)) (hb : Binds T.K fd ps [])
    (hw : w = T.w) (hsm : base.get? sysModules ≠ none)
    (body : ∀ (X : Cx) (W : WX) (H : Hp), X.prog = P → X.w = w → X.mg = mg → X.base = base → At X N (defScope st) → X.env.scope.kind = .function → (∀ x, X.fn x = true) → Cxt X T W k → SB X T W ⟨H, n, pr⟩ (defBody st) m) :
    FnE P w mg base T x (k + 1) n (runD n N.length pr m) :=
  ⟨f, fd, ps, hmg, G.kp, hb, hn, fn_g G S hn rfl hw hsm fun X W H h1 h2 _ h4 h5 h6 h7 h8 h9 c => body X W H h1 h2 h4 h5 ⟨h6, h7⟩ h8 (fun x => by rw [h9]) c⟩
end DL
namespace DL
open PySem L2 PyProof.Rows
section
variable {X : Cx} {T : Tb} {W : WX} {n : Nat} {N : List Str} {sc : Scope} {a b d e : Expr} {fa fb fd fe : EM} {pos p : Pos}
theorem e_add (c : Cxt X T W n) (ha : SE X T W a fa) (hb : SE X T W b fb) : SE X T W (.BinOp a .Add b pos) (op2M dPlus fa fb) := se_op (c.hK ▸ op_plus) does_plus ha hb
theorem e_sub (c : Cxt X T W n) (ha : SE X T W a fa) (hb : SE X T W b fb) : SE X T W (.BinOp a .Sub b pos) (op2M dMinus fa fb) := se_op op_sub does_minus ha hb
theorem e_mul (c : Cxt X T W n) (ha : SE X T W a fa) (hb : SE X T W b fb) : SE X T W (.BinOp a .Mult b pos) (op2M dMul fa fb) := se_op (c.hK ▸ op_mulX) does_mul ha hb
theorem e_fd (c : Cxt X T W n) (ha : SE X T W a fa) (hb : SE X T W b fb) : SE X T W (.BinOp a .FloorDiv b pos) (op2M dFd fa fb) := se_op op_fd does_fd ha hb
theorem e_mod (c : Cxt X T W n) (ha : SE X T W a fa) (hb : SE X T W b fb) : SE X T W (.BinOp a .Mod b pos) (op2M dMod fa fb) := se_op op_modN does_mod ha hb
theorem e_pow (c : Cxt X T W n) (ha : SE X T W a fa) (hb : SE X T W b fb) : SE X T W (.BinOp a .Pow b pos) (op2M dPow fa fb) := se_op op_pow does_pow ha hb
theorem e_neg (c : Cxt X T W n) (ha : SE X T W a fa) : SE X T W (.UnaryOp .USub a pos) (op1M dNeg fa) := se_un un_neg does_neg ha
theorem e_eq (c : Cxt X T W n) (ha : SE X T W a fa) (hb : SE X T W b fb) : SE X T W (.Compare a [.Eq] [b] pos) (op2M dEq fa fb) := se_cmp (op_eq.or (c.hK ▸ op_eqD c.room.units)) does_eq ha hb (nomark _)
theorem t_lt (c : Cxt X T W n) (ha : SE X T W a fa) (hb : SE X T W b fb) : ST X T W (.Compare a [.Lt] [b] pos) (tsM (op2M dLt fa fb)) := st_cmp op_lt does_lt ha hb (nomark _)
theorem t_gt (c : Cxt X T W n) (ha : SE X T W a fa) (hb : SE X T W b fb) : ST X T W (.Compare a [.Gt] [b] pos) (tsM (op2M dGt fa fb)) := st_cmp op_gt does_gt ha hb (nomark _)
theorem t_ge (c : Cxt X T W n) (ha : SE X T W a fa) (hb : SE X T W b fb) : ST X T W (.Compare a [.GtE] [b] pos) (tsM (op2M dGe fa fb)) := st_cmp op_ge does_ge ha hb (nomark _)
theorem t_eq (c : Cxt X T W n) (ha : SE X T W a fa) (hb : SE X T W b fb) : ST X T W (.Compare a [.Eq] [b] pos) (tsM (op2M dEq fa fb)) := st_cmp (op_eq.or (c.hK ▸ op_eqD c.room.units)) does_eq ha hb (nomark _)
theorem t_ne (c : Cxt X T W n) (ha : SE X T W a fa) (hb : SE X T W b fb) : ST X T W (.Compare a [.NotEq] [b] pos) (tsM (op2M dNe fa fb)) := st_cmp (op_ne.or (c.hK ▸ op_neD c.room.units)) does_ne ha hb (nomark _)
theorem t_isN (c : Cxt X T W n) (ha : SE X T W a fa) (hb : SE X T W b fb) : ST X T W (.Compare a [.Is] [b] pos) (tsM (op2M dIsN fa fb)) := st_cmp op_isN does_isN ha hb (nomark _)
theorem t_notN (c : Cxt X T W n) (ha : SE X T W a fa) (hb : SE X T W b fb) : ST X T W (.Compare a [.IsNot] [b] pos) (tsM (op2M dNotN fa fb)) := st_cmp op_notN does_notN ha hb (nomark _)
/-- the four orders, for chains -/
inductive Ord : CmpOp → (PyData → PyData → Option R) → Prop where
  | lt : Ord .Lt dLt
  | le : Ord .LtE dLe
  | gt : Ord .Gt dGt
  | ge : Ord .GtE dGe
theorem Ord.ok {op : CmpOp} {g : PyData → PyData → Option R} (o : Ord op g) : ∃ r, OpR X (compareOp op) r ∧ Does2 T r g := by
  cases o with
  | lt => exact ⟨_, op_lt, does_lt⟩
  | le => exact ⟨_, op_le, does_le⟩
  | gt => exact ⟨_, op_gt, does_gt⟩
  | ge => exact ⟨_, op_ge, does_ge⟩
theorem e_ch {op op' : CmpOp} {g g' : PyData → PyData → Option R} (o : Ord op g) (o' : Ord op' g') (ha : SE X T W a fa) (hb : SE X T W b fb) (hd : SE X T W d fd) (hm : lastMarks [op, op'] [b, d] = false := by with_unfolding_all rfl) : SE X T W (.Compare a [op, op'] [b, d] pos) (chM g g' fa fb fd) := by
  obtain ⟨r, h1, h2⟩ := o.ok (X := X) (T := T)
  obtain ⟨r', h3, h4⟩ := o'.ok (X := X) (T := T)
  exact se_ch h1 h3 h2 h4 ha hb hd hm
theorem t_ch {op op' : CmpOp} {g g' : PyData → PyData → Option R} (o : Ord op g) (o' : Ord op' g') (ha : SE X T W a fa) (hb : SE X T W b fb) (hd : SE X T W d fd) (hm : lastMarks [op, op'] [b, d] = false := by with_unfolding_all rfl) : ST X T W (.Compare a [op, op'] [b, d] pos) (tsM (chM g g' fa fb fd)) := by
  obtain ⟨r, h1, h2⟩ := o.ok (X := X) (T := T)
  obtain ⟨r', h3, h4⟩ := o'.ok (X := X) (T := T)
  exact st_ch h1 h3 h2 h4 ha hb hd hm
variable {es : List Expr} {f : AM}
theorem e_len (l : At X N sc) (c : Cxt X T W n) (hx : gnB sc "len" = true) (hm : X.mg "len" = none) (ha : SA X T W [e] f) (he : starEach [e] X.env = (false, eval e X.env) :: starEach [] X.env := by rfl) : SE X T W (.Call (.Name "len" p) [e] [] pos) (opnM (on1 lenD) f) :=
  se_b l hx (c.hK ▸ call_lenX) does_len hm PySem.boot_len ha he rfl
theorem e_all (l : At X N sc) (c : Cxt X T W n) (hx : gnB sc "all" = true) (hm : X.mg "all" = none) (ha : SA X T W [e] f) (he : starEach [e] X.env = (false, eval e X.env) :: starEach [] X.env := by rfl) : SE X T W (.Call (.Name "all" p) [e] [] pos) (opnM (on1 allD) f) :=
  se_b l hx (c.hK ▸ cr_all c.calm) does_all hm (by decide +kernel) ha he rfl
theorem e_max2 (l : At X N sc) (c : Cxt X T W n) (hx : gnB sc "max" = true) (hm : X.mg "max" = none) (ha : SA X T W [e, d] f) (he : starEach [e, d] X.env = (false, eval e X.env) :: starEach [d] X.env := by rfl) (hpl : (backTo pos (starEach [d] X.env)).any (·.1) = false := by rfl) : SE X T W (.Call (.Name "max" p) [e, d] [] pos) (opnM (on2 max2D) f) :=
  se_b l hx (call_max2 c.calm) does_max2 hm (by decide +kernel) ha he hpl
theorem e_min2 (l : At X N sc) (c : Cxt X T W n) (hx : gnB sc "min" = true) (hm : X.mg "min" = none) (ha : SA X T W [e, d] f) (he : starEach [e, d] X.env = (false, eval e X.env) :: starEach [d] X.env := by rfl) (hpl : (backTo pos (starEach [d] X.env)).any (·.1) = false := by rfl) : SE X T W (.Call (.Name "min" p) [e, d] [] pos) (opnM (on2 min2D) f) :=
  se_b l hx (call_min2 c.calm) does_min2 hm (by decide +kernel) ha he hpl
theorem e_tuple (l : At X N sc) (c : Cxt X T W n) (hx : gnB sc "tuple" = true) (hm : X.mg "tuple" = none) (ha : SA X T W [e] f) (he : starEach [e] X.env = (false, eval e X.env) :: starEach [] X.env := by rfl) : SE X T W (.Call (.Name "tuple" p) [e] [] pos) (opnM (on1 tupD) f) :=
  se_t l hx (c.hK ▸ call_tuple_of) does_tuple hm (by decide +kernel) ha he rfl
theorem e_list (l : At X N sc) (c : Cxt X T W n) (hx : gnB sc "list" = true) (hm : X.mg "list" = none) (ha : SA X T W [e] f) (he : starEach [e] X.env = (false, eval e X.env) :: starEach [] X.env := by rfl) : SE X T W (.Call (.Name "list" p) [e] [] pos) (opnM (on1 lstD) f) :=
  se_t l hx (c.hK ▸ call_list_of) does_list hm (by decide +kernel) ha he rfl
theorem e_rng1 {tg : Expr} (l : At X N sc) (hx : gnB sc "range" = true) (hm : X.mg "range" = none) (ha : SE X T W a fa) (hs : starEach [a] X.env = [(false, eval a X.env)] := by rfl) : SI X T W tg (.Call (.Name "range" p) [a] [] pos) (irM1 fa) := si_rng1 (l.gl hx).1 hm ha hs
end
end DL
namespace DL
open PySem L2 PyProof.Rows
/-- a class of errors of the text, made without anything -/
structure ExE (mg : Str → Option Value) (T : Tb) (x : Str) (c : Nat) : Prop where
  g : mg x = some (.ref (T.ca c))
  k : PySem.W.keepIn T.K (.ref (T.ca c)) = true
  x : PySem.W.excIn T.K (T.ca c) veM "ValueError.__new__" = true
  b : PySem.W.subIn T.K (.ref (T.ca c)) (.type "BaseException") = some true
  t : PySem.W.typeIn T.K (.ref (T.ca c)) = some (.type "type")
def raiseM (c : Nat) : SM := fun ρ => some (.er c [] ρ)
theorem pmk0 {X : Cx} {C : Addr} {x : Str} {p pos : Pos} (q : PySem.W.excIn X.K C veM "ValueError.__new__" = true) (gC : X.mg x = some (.ref C)) (kC : PySem.W.keepIn X.K (.ref C) = true) (r : Raises X (.ref C)) (hg : L2.Gl X x) (hdb : (x == ("__debug__" : Str)) = false) :
    PMk X (.Call (.Name x p) [] [] pos) (fun _ H Q => Q (.ref C) none H) := by
  intro pins s σ H Q I h
  have go : wpAny (model X.prog X.w) X.A (call (.ref C) []) (MkP X pins σ Q) X.xe s := by
    obtain ⟨bm, N, nm, qn, bs, hdct, sn, sub, ab, col, dd, k0, k1, k2, k3, k5, mN, hC, hN, hni, T⟩ := exc_obj I.kIn q
    refine wpAny_call_exc_subT PySem.F.excBase_ValueError T hC hN hni ?_ (by show 0 ≤ sizeLine; exact Nat.zero_le _)
    intro h' e hm
    exact mk_of I hm r h (I.hok.gone hm.new)
  exact wpAny_Call_Name_kw (ld_glob I hg gC (PySem.W.callWith_K0 I.kIn kC go) hdb)
section
variable {X : Cx} {T : Tb} {W : WX} {n k : Nat} {N : List Str} {sc : Scope} {φ : Fm} {pos p p2 : Pos} {x : Str}
theorem s_raise (l : At X N sc) (c : Cxt X T W n) (h : ExE X.mg T x k) (hx : gnB sc x = true) : SS X T W φ (.Raise (some (.Call (.Name x p) [] [] p2)) none pos) (raiseM k) := by
  have hK := c.hK
  have r : Raises X (.ref (T.ca k)) := raises_own (by rw [hK]; exact h.b) (by rw [hK]; exact h.t)
  refine ps_imp (ps_raise c.calm c.tk (pmk0 (by rw [hK]; exact h.x) h.g (by rw [hK]; exact h.k) r (l.gl hx).1 (l.gl hx).2.1)) fun D σ H ⟨ρ, F, O, S, P⟩ => ?_
  exact P _ none σ H F O .refl S .refl ⟨rfl, rfl⟩
end
end DL
namespace DL
open PySem L2 PyProof.Rows
/-- what a walk has to give -/
def Walked (ts : List Addr) (P : Program) (w : World) (K : PySem.W.Frag) (mg : Str → Option Value) (fa : Addr) (x : Str) (k : Nat) (pr : Sem → Prop) : Prop :=
  ∃ (fd : FuncData) (T : Tb) (sem : Sem) (tn : List (Addr × Addr)), T.K = K ∧ T.w = w ∧ (∀ (s : Shared) (u : Value), BindsTo s fd ⟨[u], []⟩ [(x, u)]) ∧
      ((∀ t ∈ tn, PySem.W.codeHdIn T.K t.1 t.2 = true ∧ t.2 ∈ ts ∧ T.K.lookup t.2 = none) ∧ ∀ q ∈ T.tb, isTab tn q.1) ∧
      (∀ base : Heap, T.K.In base → base.Ns mainGlobals mg → base.get? sysModules ≠ none → (∀ t ∈ tn, LamX.TabB base mg t.1 t.2) → FnG P w T.K mg base k fa fd [x] (spOf T 1 sem)) ∧ pr sem
theorem fin_g {ts : List Addr} {P : Program} {w : World} {K : PySem.W.Frag} {mg : Str → Option Value} {fa : Addr} {x : Str} {k n : Nat} {sl : Sem}
    (tr : ∀ ns : List Int, ns.length ≤ n → ∃ os, sl [.dat (.list (ns.map .int))] = some (.ok (.dat (.bool true)) os))
    (h : Walked ts P w K mg fa x k fun sem => sem = sl) : Walked ts P w K mg fa x k fun sem => ∀ ns : List Int, ns.length ≤ n → ∃ os, sem [.dat (.list (ns.map .int))] = some (.ok (.dat (.bool true)) os) := by
  obtain ⟨fd, T, sem, tn, a, b, c, d, e, f⟩ := h
  exact ⟨fd, T, sem, tn, a, b, c, d, e, f ▸ tr⟩
theorem no_tabs {ts : List Addr} {T : Tb} (h : T.tb = []) : (∀ t ∈ ([] : List (Addr × Addr)), PySem.W.codeHdIn T.K t.1 t.2 = true ∧ t.2 ∈ ts ∧ T.K.lookup t.2 = none) ∧ ∀ q ∈ T.tb, isTab [] q.1 :=
  ⟨fun _ h => absurd h List.not_mem_nil, fun q hq => by rw [h] at hq; cases hq⟩
end DL
namespace DL
open PySem L2
end DL
namespace DL
open PySem L2
/-- a proof whose steps a reader of terms need not take again -/
theorem eqI {α : Sort _} {a b : α} (h : a = b) : a = b := h
/-- what follows a statement -/
def thenS (o : Option Ot) (g : SM) : Option Ot := match o with
  | some (.nx ρ1) => g ρ1
  | o => o
@[simp] theorem thenS_nx (ρ : Rho) (g : SM) : thenS (some (.nx ρ)) g = g ρ := eqI rfl
@[simp] theorem thenS_rt (r : R) (ρ : Rho) (g : SM) : thenS (some (.rt r ρ)) g = some (.rt r ρ) := eqI rfl
@[simp] theorem thenS_bk (ρ : Rho) (g : SM) : thenS (some (.bk ρ)) g = some (.bk ρ) := eqI rfl
@[simp] theorem thenS_ct (ρ : Rho) (g : SM) : thenS (some (.ct ρ)) g = some (.ct ρ) := eqI rfl
@[simp] theorem thenS_er (c : Nat) (fs : List PyData) (ρ : Rho) (g : SM) : thenS (some (.er c fs ρ)) g = some (.er c fs ρ) := eqI rfl
@[simp] theorem seqM_e (f g : SM) (ρ : Rho) : seqM f g ρ = thenS (f ρ) g := eqI rfl
@[simp] theorem skipM_e (ρ : Rho) : skipM ρ = some (.nx ρ) := eqI rfl
@[simp] theorem dropM_e (f : EM) (ρ : Rho) : dropM f ρ = bindS (f ρ) fun _ ρ1 => some (.nx ρ1) := eqI rfl
/-- one of two -/
def pick {α : Type} (b : Bool) (f g : Rho → Option α) (ρ : Rho) : Option α := if b = true then f ρ else g ρ
@[simp] theorem pick_t {α : Type} (f g : Rho → Option α) (ρ : Rho) : pick true f g ρ = f ρ := eqI rfl
@[simp] theorem pick_f {α : Type} (f g : Rho → Option α) (ρ : Rho) : pick false f g ρ = g ρ := eqI rfl
@[simp] theorem ifM_e (c : Rho → Option (Oe Bool)) (f g : SM) (ρ : Rho) : ifM c f g ρ = bindS (c ρ) fun b ρ1 => pick b f g ρ1 := eqI rfl
@[simp] theorem iteM_e (c : Rho → Option (Oe Bool)) (f g : EM) (ρ : Rho) : iteM c f g ρ = bindO (c ρ) fun b ρ1 => pick b f g ρ1 := eqI rfl
@[simp] theorem andT_e (f g : Rho → Option (Oe Bool)) (ρ : Rho) : andT f g ρ = bindO (f ρ) fun b ρ1 => pick b g (fun ρ => some (.ok false ρ)) ρ1 := eqI rfl
@[simp] theorem orT_e (f g : Rho → Option (Oe Bool)) (ρ : Rho) : orT f g ρ = bindO (f ρ) fun b ρ1 => pick b (fun ρ => some (.ok true ρ)) g ρ1 := eqI rfl
@[simp] theorem notT_e (f : Rho → Option (Oe Bool)) (ρ : Rho) : notT f ρ = bindO (f ρ) fun b ρ1 => some (.ok (!b) ρ1) := eqI rfl
@[simp] theorem yesT_e (ρ : Rho) : yesT ρ = some (.ok true ρ) := eqI rfl
def tsR (r : R) (ρ1 : Rho) : Option (Oe Bool) := match r with
  | .dat (.bool b) => some (.ok b ρ1)
  | _ => none
@[simp] theorem tsR_e (b : Bool) (ρ : Rho) : tsR (.dat (.bool b)) ρ = some (.ok b ρ) := eqI rfl
@[simp] theorem tsM_e (f : EM) (ρ : Rho) : tsM f ρ = bindO (f ρ) tsR := eqI rfl
/-- a truth, then -/
def bR (r : R) (f g : EM) (ρ : Rho) : Option (Oe R) := match r with
  | .dat (.bool true) => f ρ
  | .dat (.bool false) => g ρ
  | _ => none
@[simp] theorem bR_e (b : Bool) (f g : EM) (ρ : Rho) : bR (.dat (.bool b)) f g ρ = pick b f g ρ := by cases b <;> rfl
@[simp] theorem andM_e (f g : EM) (ρ : Rho) : andM f g ρ = bindO (f ρ) fun r ρ1 => bR r g (cM (.bool false)) ρ1 := by
  unfold andM bR; cases f ρ with
  | none => rfl
  | some o => cases o with
    | er _ _ _ => rfl
    | ok r ρ1 => cases r with
      | dat d => cases d with
        | bool b => cases b <;> rfl
        | _ => rfl
      | _ => rfl
@[simp] theorem orM_e (f g : EM) (ρ : Rho) : orM f g ρ = bindO (f ρ) fun r ρ1 => bR r (cM (.bool true)) g ρ1 := by
  unfold orM bR; cases f ρ with
  | none => rfl
  | some o => cases o with
    | er _ _ _ => rfl
    | ok r ρ1 => cases r with
      | dat d => cases d with
        | bool b => cases b <;> rfl
        | _ => rfl
      | _ => rfl
def ntR (r : R) (ρ1 : Rho) : Option (Oe R) := match r with
  | .dat (.bool b) => some (.ok (.dat (.bool (!b))) ρ1)
  | _ => none
@[simp] theorem ntR_e (b : Bool) (ρ : Rho) : ntR (.dat (.bool b)) ρ = some (.ok (.dat (.bool (!b))) ρ) := eqI rfl
@[simp] theorem notM_e (f : EM) (ρ : Rho) : notM f ρ = bindO (f ρ) ntR := eqI rfl
/-- a slot read -/
def nmR (i : Nat) (o : Option (Option R)) (ρ : Rho) : Option (Oe R) := match o with
  | some (some (.dat d)) => some (.ok (.dat d) ρ)
  | some (some (.own _)) => some (.ok (.slt i) ρ)
  | some (some (.st _)) => some (.ok (.slt i) ρ)
  | some (some (.obj _)) => some (.ok (.slt i) ρ)
  | some (some (.fn k)) => some (.ok (.fn k) ρ)
  | some (some (.ex c fs)) => some (.ok (.ex c fs) ρ)
  | _ => none
@[simp] theorem nmR_x (i c : Nat) (fs : List PyData) (ρ : Rho) : nmR i (some (some (.ex c fs))) ρ = some (.ok (.ex c fs) ρ) := eqI rfl
@[simp] theorem nmR_d (i : Nat) (d : PyData) (ρ : Rho) : nmR i (some (some (.dat d))) ρ = some (.ok (.dat d) ρ) := eqI rfl
@[simp] theorem nmR_o (i : Nat) (d : PyData) (ρ : Rho) : nmR i (some (some (.own d))) ρ = some (.ok (.slt i) ρ) := eqI rfl
@[simp] theorem nmR_s (i : Nat) (d : List Int) (ρ : Rho) : nmR i (some (some (.st d))) ρ = some (.ok (.slt i) ρ) := eqI rfl
@[simp] theorem nmR_ob (i : Nat) (d : OD) (ρ : Rho) : nmR i (some (some (.obj d))) ρ = some (.ok (.slt i) ρ) := eqI rfl
@[simp] theorem nmM_e (i : Nat) (ρ : Rho) : nmM i ρ = nmR i ρ[i]? ρ := eqI rfl
@[simp] theorem cM_e (d : PyData) (ρ : Rho) : cM d ρ = some (.ok (.dat d) ρ) := eqI rfl
@[simp] theorem val_d (ρ : Rho) (d : PyData) : val ρ (.dat d) = some d := eqI rfl
@[simp] theorem val_o (ρ : Rho) (d : PyData) : val ρ (.own d) = some d := eqI rfl
@[simp] theorem val_pt (ρ : Rho) (i k : Nat) : val ρ (.prt i k) = partD k ρ[i]? := eqI rfl
@[simp] theorem partD_0 (ts ss : List PyData) : partD 0 (some (some (.obj (.led ts ss)))) = some (.list ts) := eqI rfl
@[simp] theorem partD_1 (ts ss : List PyData) : partD 1 (some (some (.obj (.led ts ss)))) = some (.list ss) := eqI rfl
@[simp] theorem val_s (ρ : Rho) (i : Nat) : val ρ (.slt i) = slotD ρ[i]? := eqI rfl
@[simp] theorem slotD_d (d : PyData) : slotD (some (some (.dat d))) = some d := eqI rfl
@[simp] theorem slotD_o (d : PyData) : slotD (some (some (.own d))) = some d := eqI rfl
@[simp] theorem frz_d (ρ : Rho) (d : PyData) : frz ρ (.dat d) = some (d, ρ) := eqI rfl
@[simp] theorem frz_o (ρ : Rho) (d : PyData) : frz ρ (.own d) = some (d, ρ) := eqI rfl
@[simp] theorem frz_s (ρ : Rho) (i : Nat) : frz ρ (.slt i) = (slotD ρ[i]?).map fun d => (d, ρ.set i (some (.dat d))) := eqI rfl
/-- an answer in its place -/
def retO (o : Option R) (ρ : Rho) : Option (Oe R) := match o with
  | some z => some (.ok z ρ)
  | none => none
@[simp] theorem retO_e (z : R) (ρ : Rho) : retO (some z) ρ = some (.ok z ρ) := eqI rfl
def op2R (g : PyData → PyData → Option R) (ρ : Rho) (a b : Option PyData) : Option (Oe R) := match a, b with
  | some d, some e => retO (g d e) ρ
  | _, _ => none
@[simp] theorem op2R_e (g : PyData → PyData → Option R) (ρ : Rho) (d e : PyData) : op2R g ρ (some d) (some e) = retO (g d e) ρ := eqI rfl
theorem map_retO (o : Option R) (ρ : Rho) : (o.map fun z => Oe.ok z ρ) = retO o ρ := by cases o <;> rfl
@[simp] theorem op2M_e (g : PyData → PyData → Option R) (fa fb : EM) (ρ : Rho) : op2M g fa fb ρ = bindO (fa ρ) fun r ρ1 => bindO (fb ρ1) fun s ρ2 => op2R g ρ2 (val ρ2 r) (val ρ2 s) := by
  unfold op2M op2R; simp only [map_retO] <;> rfl
def op1R (g : PyData → Option R) (ρ : Rho) (a : Option PyData) : Option (Oe R) := match a with
  | some d => retO (g d) ρ
  | _ => none
@[simp] theorem op1R_e (g : PyData → Option R) (ρ : Rho) (d : PyData) : op1R g ρ (some d) = retO (g d) ρ := eqI rfl
@[simp] theorem op1M_e (g : PyData → Option R) (fa : EM) (ρ : Rho) : op1M g fa ρ = bindO (fa ρ) fun r ρ1 => op1R g ρ1 (val ρ1 r) := by
  unfold op1M op1R; simp only [map_retO] <;> rfl
@[simp] theorem tmp_d (d : PyData) : tmp (.dat d) = .dat d := eqI rfl
@[simp] theorem tmp_x (c : Nat) (fs : List PyData) : tmp (.ex c fs) = .ex c fs := eqI rfl
@[simp] theorem tmp_o (d : PyData) : tmp (.own d) = .dat d := eqI rfl
@[simp] theorem tmp_s (d : Nat) : tmp (.slt d) = .slt d := eqI rfl
@[simp] theorem nilA_e (ρ : Rho) : nilA ρ = some (.ok [] ρ) := eqI rfl
@[simp] theorem consA_e (fe : EM) (fr : AM) (ρ : Rho) : consA fe fr ρ = bindO (fe ρ) fun r ρ1 => bindO (fr ρ1) fun rs ρ2 => some (.ok (tmp r :: rs) ρ2) := eqI rfl
/-- stilled, then -/
def bindF {β : Type} (o : Option (PyData × Rho)) (g : PyData → Rho → Option β) : Option β := match o with
  | some (d, ρ) => g d ρ
  | none => none
@[simp] theorem bindF_e {β : Type} (d : PyData) (ρ : Rho) (g : PyData → Rho → Option β) : bindF (some (d, ρ)) g = g d ρ := eqI rfl
@[simp] theorem consD_e (fe : EM) (fr : AM) (ρ : Rho) : consD fe fr ρ = bindO (fe ρ) fun r ρ1 => bindF (frz ρ1 r) fun d ρ2 => bindO (fr ρ2) fun rs ρ3 => some (.ok (.dat d :: rs) ρ3) := eqI rfl
def consV (a : Option PyData) (b : Option (List PyData)) : Option (List PyData) := match a, b with
  | some d, some ds => some (d :: ds)
  | _, _ => none
@[simp] theorem consV_e (d : PyData) (ds : List PyData) : consV (some d) (some ds) = some (d :: ds) := eqI rfl
@[simp] theorem vals_0 (ρ : Rho) : vals ρ [] = some [] := eqI rfl
@[simp] theorem vals_c (ρ : Rho) (r : R) (rs : List R) : vals ρ (r :: rs) = consV (val ρ r) (vals ρ rs) := eqI rfl
def opnR (g : List PyData → Option R) (ρ : Rho) (a : Option (List PyData)) : Option (Oe R) := match a with
  | some d => retO (g d) ρ
  | _ => none
@[simp] theorem opnR_e (g : List PyData → Option R) (ρ : Rho) (d : List PyData) : opnR g ρ (some d) = retO (g d) ρ := eqI rfl
@[simp] theorem opnM_e (g : List PyData → Option R) (fa : AM) (ρ : Rho) : opnM g fa ρ = bindO (fa ρ) fun rs ρ1 => opnR g ρ1 (vals ρ1 rs) := by
  unfold opnM opnR; simp only [map_retO]
  congr; funext rs ρ1; cases vals ρ1 rs <;> rfl
@[simp] theorem on1_e (g : PyData → Option R) (d : PyData) : on1 g [d] = g d := eqI rfl
@[simp] theorem on2_e (g : PyData → PyData → Option R) (d e : PyData) : on2 g [d, e] = g d e := eqI rfl
@[simp] theorem dats_0 : dats [] = some [] := eqI rfl
@[simp] theorem dats_c (d : PyData) (rs : List R) : dats (.dat d :: rs) = (dats rs).map (d :: ·) := eqI rfl
def tupR (o : Option (List PyData)) (ρ : Rho) : Option (Oe R) := match o with
  | some ds => if ds.length ≤ 100000 then some (.ok (.dat (.tuple ds)) ρ) else none
  | none => none
@[simp] theorem tupR_e (ds : List PyData) (ρ : Rho) : tupR (some ds) ρ = if ds.length ≤ 100000 then some (.ok (.dat (.tuple ds)) ρ) else none := eqI rfl
@[simp] theorem tupM_e (fa : AM) (ρ : Rho) : tupM fa ρ = bindO (fa ρ) fun rs ρ1 => tupR (dats rs) ρ1 := eqI rfl
def lstR (o : Option (List PyData)) (ρ : Rho) : Option (Oe R) := match o with
  | some ds => if ds.length ≤ 100000 then some (.ok (.own (.list ds)) ρ) else none
  | none => none
@[simp] theorem lstR_e (ds : List PyData) (ρ : Rho) : lstR (some ds) ρ = if ds.length ≤ 100000 then some (.ok (.own (.list ds)) ρ) else none := eqI rfl
@[simp] theorem lstM_e (fa : AM) (ρ : Rho) : lstM fa ρ = bindO (fa ρ) fun rs ρ1 => lstR (dats rs) ρ1 := eqI rfl
/-- the second comparison -/
def chR (o : Option R) (k : EM) (ρ : Rho) : Option (Oe R) := match o with
  | some (.dat (.bool true)) => k ρ
  | some (.dat (.bool false)) => some (.ok (.dat (.bool false)) ρ)
  | _ => none
@[simp] theorem chR_e (b : Bool) (k : EM) (ρ : Rho) : chR (some (.dat (.bool b))) k ρ = pick b k (cM (.bool false)) ρ := by cases b <;> rfl
def chR2 (g : PyData → PyData → Option R) (a b : Option PyData) (k : EM) (ρ : Rho) : Option (Oe R) := match a, b with
  | some d, some e => chR (g d e) k ρ
  | _, _ => none
@[simp] theorem chR2_e (g : PyData → PyData → Option R) (d e : PyData) (k : EM) (ρ : Rho) : chR2 g (some d) (some e) k ρ = chR (g d e) k ρ := eqI rfl
@[simp] theorem chM_e (g g' : PyData → PyData → Option R) (fa fb fc : EM) (ρ : Rho) : chM g g' fa fb fc ρ = bindO (fa ρ) fun r ρ1 => bindO (fb ρ1) fun s ρ2 => chR2 g (val ρ2 r) (val ρ2 s) (fun ρ => bindO (fc ρ) fun t ρ3 => op2R g' ρ3 (val ρ3 s) (val ρ3 t)) ρ2 := by
  unfold chM chR2 chR op2R; simp only [map_retO] <;> rfl
def nxO (o : Option Rho) : Option Ot := match o with
  | some ρ => some (.nx ρ)
  | none => none
@[simp] theorem nxO_e (ρ : Rho) : nxO (some ρ) = some (.nx ρ) := eqI rfl
theorem map_nxO (o : Option Rho) : o.map Ot.nx = nxO o := by cases o <;> rfl
@[simp] theorem asR_d (ρ : Rho) (i : Nat) (d : PyData) : asR ρ i (.dat d) = some (ρ.set i (some (.dat d))) := eqI rfl
@[simp] theorem asR_o (ρ : Rho) (i : Nat) (d : PyData) : asR ρ i (.own d) = some (ρ.set i (some (.own d))) := eqI rfl
@[simp] theorem asR_ob (ρ : Rho) (i : Nat) (d : OD) : asR ρ i (.obj d) = some (ρ.set i (some (.obj d))) := eqI rfl
@[simp] theorem asR_s (ρ : Rho) (i j : Nat) : asR ρ i (.slt j) = (slotD ρ[j]?).map fun d => (ρ.set j (some (.dat d))).set i (some (.dat d)) := by
  show ((slotD ρ[j]?).map _).map _ = _
  rw [Option.map_map]; rfl
@[simp] theorem asgM_e (i : Nat) (f : EM) (ρ : Rho) : asgM i f ρ = bindS (f ρ) fun r ρ1 => nxO (asR ρ1 i r) := by
  unfold asgM; simp only [map_nxO]
def rtO (o : Option (R × Rho)) : Option Ot := match o with
  | some p => some (.rt p.1 p.2)
  | none => none
@[simp] theorem rtO_e (r : R) (ρ : Rho) : rtO (some (r, ρ)) = some (.rt r ρ) := eqI rfl
@[simp] theorem retR_d (n : Nat) (ρ : Rho) (d : PyData) : retR n ρ (.dat d) = some (.dat d, ρ) := eqI rfl
@[simp] theorem retR_o (n : Nat) (ρ : Rho) (d : PyData) : retR n ρ (.own d) = some (.own d, ρ) := eqI rfl
def rtR (n i : Nat) (ρ : Rho) (o : Option (Option R)) : Option (R × Rho) := if i < n then (slotD o).map fun d => (.dat d, ρ.set i (some (.dat d))) else match o with
    | some (some (.own d)) => some (.own d, ρ.set i none)
    | some (some (.dat d)) => some (.dat d, ρ)
    | some (some (.obj d)) => some (.obj d, ρ.set i none)
    | _ => none
@[simp] theorem rtR_ob {n i : Nat} (h : ¬ i < n) (ρ : Rho) (d : OD) : rtR n i ρ (some (some (.obj d))) = some (.obj d, ρ.set i none) := by unfold rtR; rw [if_neg h]
@[simp] theorem rtR_o (n i : Nat) (ρ : Rho) (d : PyData) : rtR n i ρ (some (some (.own d))) = if i < n then some (.dat d, ρ.set i (some (.dat d))) else some (.own d, ρ.set i none) := by unfold rtR; split <;> rfl
@[simp] theorem rtR_d (n i : Nat) (ρ : Rho) (d : PyData) : rtR n i ρ (some (some (.dat d))) = if i < n then some (.dat d, ρ.set i (some (.dat d))) else some (.dat d, ρ) := by unfold rtR; split <;> rfl
@[simp] theorem retR_ob (n : Nat) (ρ : Rho) (d : OD) : retR n ρ (.obj d) = some (.obj d, ρ) := eqI rfl
@[simp] theorem retR_t (n : Nat) (ρ : Rho) (d e : PyData) : retR n ρ (.two d e) = some (.two d e, ρ) := eqI rfl
@[simp] theorem retR_s (n : Nat) (ρ : Rho) (i : Nat) : retR n ρ (.slt i) = rtR n i ρ ρ[i]? := by
  unfold retR rtR; simp only [frz_s, Option.map_map]; rfl
@[simp] theorem retM_e (n : Nat) (f : EM) (ρ : Rho) : retM n f ρ = bindS (f ρ) fun r ρ1 => rtO (retR n ρ1 r) := by
  unfold retM; congr; funext r ρ1; cases retR n ρ1 r <;> rfl
@[simp] theorem retN_e (ρ : Rho) : retN ρ = some (.rt (.dat .none) ρ) := eqI rfl
@[simp] theorem raiseM_e (c : Nat) (ρ : Rho) : raiseM c ρ = some (.er c [] ρ) := eqI rfl
@[simp] theorem isList_e (ds : List PyData) : isList (some (some (.own (.list ds)))) = true := eqI rfl
def appR (i : Nat) (d : PyData) (ρ : Rho) (o : Option (Option R)) : Option Ot := match o with
  | some (some (.own (.list ds))) => if ds.length < lim then some (.nx (ρ.set i (some (.own (.list (ds ++ [d])))))) else none
  | _ => none
@[simp] theorem appR_e (i : Nat) (d : PyData) (ρ : Rho) (ds : List PyData) : appR i d ρ (some (some (.own (.list ds)))) = if ds.length < lim then some (.nx (ρ.set i (some (.own (.list (ds ++ [d])))))) else none := eqI rfl
@[simp] theorem appM_e (i : Nat) (fe : EM) (ρ : Rho) : appM i fe ρ = pick (isList ρ[i]?) (fun ρ => bindS (fe ρ) fun r ρ1 => bindF (frz ρ1 r) fun d ρ2 => appR i d ρ2 ρ2[i]?) (fun _ => none) ρ := eqI rfl
def setR (s : Nat) (d : PyData) (ri : R) (ρ : Rho) (o : Option (Option R)) : Option Ot := match ri, o with
  | .dat (.int k), some (some (.own (.list ds))) => nxO ((ixN ds.length k).map fun j => ρ.set s (some (.own (.list (ds.set j d)))))
  | _, _ => none
@[simp] theorem setR_e (s : Nat) (d : PyData) (k : Int) (ρ : Rho) (ds : List PyData) : setR s d (.dat (.int k)) ρ (some (some (.own (.list ds)))) = nxO ((ixN ds.length k).map fun j => ρ.set s (some (.own (.list (ds.set j d))))) := eqI rfl
@[simp] theorem setM_e (s : Nat) (fi fe : EM) (ρ : Rho) : setM s fi fe ρ = bindS (fe ρ) fun r ρ1 => bindF (frz ρ1 r) fun d ρ2 => pick (isList ρ2[s]?) (fun ρ => bindS (fi ρ) fun ri ρ3 => setR s d ri ρ3 ρ3[s]?) (fun _ => none) ρ2 := by
  unfold setM setR pick bindF
  congr; funext r ρ1; cases frz ρ1 r with
  | none => rfl
  | some p =>
    obtain ⟨d, ρ2⟩ := p
    simp only
    congr; funext ri ρ3
    simp only [← map_nxO, Option.map_map]
    rfl
/-- kept in a slot, then -/
def bindV (o : Option (R × Rho)) (g : R → Rho → Option Ot) : Option Ot := match o with
  | some (d, ρ) => g d ρ
  | none => none
@[simp] theorem bindV_e (d : R) (ρ : Rho) (g : R → Rho → Option Ot) : bindV (some (d, ρ)) g = g d ρ := eqI rfl
@[simp] theorem sv_d (ρ : Rho) (d : PyData) : sv ρ (.dat d) = some (.dat d, ρ) := eqI rfl
@[simp] theorem sv_o (ρ : Rho) (d : PyData) : sv ρ (.own d) = some (.own d, ρ) := eqI rfl
@[simp] theorem sv_s (ρ : Rho) (i : Nat) : sv ρ (.slt i) = (slotD ρ[i]?).map fun d => (.dat d, ρ.set i (some (.dat d))) := by
  show ((slotD ρ[i]?).map _).map _ = _
  rw [Option.map_map]; rfl
@[simp] theorem parM_e (i j : Nat) (fa fb : EM) (ρ : Rho) : parM i j fa fb ρ = bindS (fa ρ) fun r ρ1 => bindV (sv ρ1 r) fun r' ρ2 => bindS (fb ρ2) fun s ρ3 => bindV (sv ρ3 s) fun s' ρ4 => some (.nx ((ρ4.set i (some r')).set j (some s'))) := eqI rfl
@[simp] theorem parM3_e (i j l : Nat) (fa fb fc : EM) (ρ : Rho) : parM3 i j l fa fb fc ρ = bindS (fa ρ) fun r ρ1 => bindV (sv ρ1 r) fun r' ρ2 => bindS (fb ρ2) fun s ρ3 => bindV (sv ρ3 s) fun s' ρ4 => bindS (fc ρ4) fun t ρ5 => bindV (sv ρ5 t) fun t' ρ6 => some (.nx (((ρ6.set i (some r')).set j (some s')).set l (some t'))) := eqI rfl
@[simp] theorem asgTM_e (g : GM) (fe : EM) (ρ : Rho) : asgTM g fe ρ = bindS (fe ρ) fun r ρ1 => bindF (frz ρ1 r) fun d ρ2 => nxO (g d ρ2) := by
  unfold asgTM bindF; simp only [map_nxO] <;> rfl
@[simp] theorem gnM_e (i : Nat) (d : PyData) (ρ : Rho) : gnM i d ρ = some (ρ.set i (some (.dat d))) := eqI rfl
@[simp] theorem gs0_e (ρ : Rho) : gs0 [] ρ = some ρ := eqI rfl
def bindG (o : Option Rho) (g : Rho → Option Rho) : Option Rho := match o with
  | some ρ => g ρ
  | none => none
@[simp] theorem bindG_e (ρ : Rho) (g : Rho → Option Rho) : bindG (some ρ) g = g ρ := eqI rfl
@[simp] theorem gtM_e (gs : GsM) (ds : List PyData) (ρ : Rho) : gtM gs (.tuple ds) ρ = gs ds ρ := eqI rfl
@[simp] theorem itemsOf_l (ds : List PyData) : itemsOf (.list ds) = some ds := eqI rfl
@[simp] theorem itemsOf_t (ds : List PyData) : itemsOf (.tuple ds) = some ds := eqI rfl
def okI (o : Option (List PyData)) (ρ : Rho) : Option (Oe (List PyData)) := match o with
  | some ds => some (.ok ds ρ)
  | none => none
@[simp] theorem okI_e (ds : List PyData) (ρ : Rho) : okI (some ds) ρ = some (.ok ds ρ) := eqI rfl
@[simp] theorem iM_e (f : EM) (ρ : Rho) : iM f ρ = bindO (f ρ) fun r ρ1 => bindF (frz ρ1 r) fun d ρ2 => okI (itemsOf d) ρ2 := by
  unfold iM bindF; congr; funext r ρ1; cases frz ρ1 r with
  | none => rfl
  | some p =>
    obtain ⟨d, ρ2⟩ := p
    show (itemsOf d).map _ = okI (itemsOf d) ρ2
    cases itemsOf d <;> rfl
def rg1 (r : R) (ρ : Rho) : Option (Oe (List PyData)) := match r with
  | .dat (.int j) => if inW j = true then some (.ok (rngL 0 j.toNat) ρ) else none
  | _ => none
theorem rg1_is {j : Int} (ρ : Rho) (h1 : -4611686018427387904 ≤ j) (h2 : j < 4611686018427387904) : rg1 (.dat (.int j)) ρ = some (.ok (rngL 0 j.toNat) ρ) := if_pos (inW_is h1 h2)
@[simp] theorem irM1_e (f : EM) (ρ : Rho) : irM1 f ρ = bindO (f ρ) rg1 := eqI rfl
def rg2 (r s : R) (ρ : Rho) : Option (Oe (List PyData)) := match r, s with
  | .dat (.int i), .dat (.int j) => if inW i = true ∧ inW j = true then some (.ok (rngL i (j - i).toNat) ρ) else none
  | _, _ => none
@[simp] theorem irM2_e (f g : EM) (ρ : Rho) : irM2 f g ρ = bindO (f ρ) fun r ρ1 => bindO (g ρ1) fun s ρ2 => rg2 r s ρ2 := eqI rfl
@[simp] theorem wipeR_0 (ρ : Rho) : wipeR ρ [] = ρ := eqI rfl
@[simp] theorem wipeR_c (ρ : Rho) (v : Nat) (vs : List Nat) : wipeR ρ (v :: vs) = (wipeR ρ vs).set v none := eqI rfl
@[simp] theorem gsC_e (g : GM) (gs : GsM) (d : PyData) (ds : List PyData) (ρ : Rho) : gsC g gs (d :: ds) ρ = bindG (g d ρ) (gs ds) := by
  show (g d ρ).bind (gs ds) = bindG (g d ρ) (gs ds)
  unfold bindG
  cases g d ρ <;> rfl
def bindP (o : Option (List R)) (g : List R → Option (Oe R)) : Option (Oe R) := match o with
  | some a => g a
  | none => none
@[simp] theorem bindP_e (a : List R) (g : List R → Option (Oe R)) : bindP (some a) g = g a := eqI rfl
/-- behind a call -/
def bkO (o : Option (Oe R)) (ρ : Rho) (rs : List R) : Option (Oe R) := match o with
  | some (.ok r os) => some (.ok r (backA ρ rs os))
  | some (.er c fs os) => some (.er c fs (backA ρ rs os))
  | none => none
@[simp] theorem bkO_ok (r : R) (os ρ : Rho) (rs : List R) : bkO (some (.ok r os)) ρ rs = some (.ok r (backA ρ rs os)) := eqI rfl
@[simp] theorem bkO_er (c : Nat) (fs : List PyData) (os ρ : Rho) (rs : List R) : bkO (some (.er c fs os)) ρ rs = some (.er c fs (backA ρ rs os)) := eqI rfl
@[simp] theorem callM_e (sem : Sem) (fa : AM) (ρ : Rho) : callM sem fa ρ = bindO (fa ρ) fun rs ρ1 => pick (dist rs) (fun ρ => bindP (passA ρ rs) fun as => bkO (sem as) ρ rs) (fun _ => none) ρ1 := by
  unfold callM pick bindP bkO
  rfl
@[simp] theorem dist_0 : dist [] = true := eqI rfl
@[simp] theorem dist_d (d : PyData) (rs : List R) : dist (.dat d :: rs) = dist rs := eqI rfl
@[simp] theorem dist_o (d : PyData) (rs : List R) : dist (.own d :: rs) = dist rs := eqI rfl
@[simp] theorem dist_ob' (o : OD) (rs : List R) : dist (.obj o :: rs) = (noOb rs && dist rs) := eqI rfl
@[simp] theorem noOb_0 : noOb [] = true := eqI rfl
@[simp] theorem noOb_d (d : PyData) (rs : List R) : noOb (.dat d :: rs) = noOb rs := eqI rfl
@[simp] theorem noOb_s (i : Nat) (rs : List R) : noOb (.slt i :: rs) = noOb rs := eqI rfl
@[simp] theorem posOf_ob (j : Nat) (o : OD) (rs : List R) : posOf j (.obj o :: rs) = (posOf j rs).map (· + 1) := eqI rfl
@[simp] theorem pass1_led (ρ : Rho) (ts ss : List PyData) : pass1 ρ (.obj (.led ts ss)) = some (.obj (.led ts ss)) := eqI rfl
@[simp] theorem pass1_dsk (ρ : Rho) (ts ss : List PyData) : pass1 ρ (.obj (.dsk ts ss)) = some (.obj (.dsk ts ss)) := eqI rfl
@[simp] theorem pass1_many (ρ : Rho) (b : Bool) (xs : List (Option (List PyData × List PyData))) : pass1 ρ (.obj (.many b xs)) = if xs.all Option.isSome = true then some (.obj (.many b xs)) else none := eqI rfl
@[simp] theorem dist_s (i : Nat) (rs : List R) : dist (.slt i :: rs) = ((posOf i rs).isNone && dist rs) := eqI rfl
@[simp] theorem posOf_0 (j : Nat) : posOf j [] = none := eqI rfl
@[simp] theorem posOf_d (j : Nat) (d : PyData) (rs : List R) : posOf j (.dat d :: rs) = (posOf j rs).map (· + 1) := eqI rfl
@[simp] theorem posOf_s (j i : Nat) (rs : List R) : posOf j (.slt i :: rs) = if (i == j) = true then some 0 else (posOf j rs).map (· + 1) := eqI rfl
@[simp] theorem passA_0 (ρ : Rho) : passA ρ [] = some [] := eqI rfl
def consP (a : Option R) (b : Option (List R)) : Option (List R) := match a, b with
  | some d, some ds => some (d :: ds)
  | _, _ => none
@[simp] theorem consP_e (d : R) (ds : List R) : consP (some d) (some ds) = some (d :: ds) := eqI rfl
@[simp] theorem passA_c (ρ : Rho) (r : R) (rs : List R) : passA ρ (r :: rs) = consP (pass1 ρ r) (passA ρ rs) := eqI rfl
@[simp] theorem pass1_d (ρ : Rho) (d : PyData) : pass1 ρ (.dat d) = some (.dat d) := eqI rfl
def p1 (o : Option (Option R)) : Option R := match o with
    | some (some (.own d)) => some (.own d)
    | some (some (.dat d)) => some (.dat d)
    | some (some (.st xs)) => some (.st xs)
    | some (some (.obj o)) => if okO o = true then some (.obj o) else none
    | _ => none
@[simp] theorem p1_led (ts ss : List PyData) : p1 (some (some (.obj (.led ts ss)))) = some (.obj (.led ts ss)) := eqI rfl
@[simp] theorem p1_dsk (ts ss : List PyData) : p1 (some (some (.obj (.dsk ts ss)))) = some (.obj (.dsk ts ss)) := eqI rfl
@[simp] theorem p1_many (b : Bool) (xs : List (Option (List PyData × List PyData))) : p1 (some (some (.obj (.many b xs)))) = if xs.all Option.isSome = true then some (.obj (.many b xs)) else none := eqI rfl
@[simp] theorem p1_o (d : PyData) : p1 (some (some (.own d))) = some (.own d) := eqI rfl
@[simp] theorem p1_d (d : PyData) : p1 (some (some (.dat d))) = some (.dat d) := eqI rfl
@[simp] theorem p1_s (d : List Int) : p1 (some (some (.st d))) = some (.st d) := eqI rfl
@[simp] theorem pass1_x (ρ : Rho) (c : Nat) (fs : List PyData) : pass1 ρ (.ex c fs) = some (.ex c fs) := eqI rfl
@[simp] theorem pass1_s (ρ : Rho) (i : Nat) : pass1 ρ (.slt i) = p1 ρ[i]? := eqI rfl
/-- a slot behind a call -/
def bk1 (x : Option R) (o : Option Nat) (os : Rho) : Option R := if isOwn x = true then match o with
    | some k => mend x os[k]?.join
    | none => x
  else x
@[simp] theorem mend_n (x : Option R) : mend x none = none := eqI rfl
@[simp] theorem mend_d (x : Option R) (d : PyData) : mend x (some (.dat d)) = some (.dat d) := eqI rfl
@[simp] theorem mend_o (x : Option R) (d : PyData) : mend x (some (.own d)) = some (.own d) := eqI rfl
@[simp] theorem mend_s (x : Option R) (d : List Int) : mend x (some (.st d)) = some (.st d) := eqI rfl
@[simp] theorem mend_ob (o d : OD) : mend (some (.obj o)) (some (.obj d)) = some (.obj d) := eqI rfl
@[simp] theorem bk1_obo (d : OD) (os : Rho) : bk1 (some (.obj d)) none os = some (.obj d) := eqI rfl
@[simp] theorem bk1_obp (d : OD) (k : Nat) (os : Rho) : bk1 (some (.obj d)) (some k) os = mend (some (.obj d)) os[k]?.join := eqI rfl
@[simp] theorem bk1_x (x : Option R) (os : Rho) : bk1 x none os = x := by unfold bk1; split <;> rfl
@[simp] theorem bk1_n (o : Option Nat) (os : Rho) : bk1 none o os = none := eqI rfl
@[simp] theorem bk1_d (d : PyData) (o : Option Nat) (os : Rho) : bk1 (some (.dat d)) o os = some (.dat d) := eqI rfl
@[simp] theorem bk1_o (d : PyData) (os : Rho) : bk1 (some (.own d)) none os = some (.own d) := eqI rfl
@[simp] theorem bk1_p (d : PyData) (k : Nat) (os : Rho) : bk1 (some (.own d)) (some k) os = mend (some (.own d)) os[k]?.join := eqI rfl
@[simp] theorem bk1_so (d : List Int) (os : Rho) : bk1 (some (.st d)) none os = some (.st d) := eqI rfl
@[simp] theorem bk1_sp (d : List Int) (k : Nat) (os : Rho) : bk1 (some (.st d)) (some k) os = mend (some (.st d)) os[k]?.join := eqI rfl
def bkL (rs : List R) (os : Rho) : Nat → Rho → Rho
  | _, [] => []
  | j, x :: xs => bk1 x (posOf j rs) os :: bkL rs os (j + 1) xs
@[simp] theorem bkL_0 (rs : List R) (os : Rho) (j : Nat) : bkL rs os j [] = [] := eqI rfl
@[simp] theorem bkL_c (rs : List R) (os : Rho) (j : Nat) (x : Option R) (xs : Rho) : bkL rs os j (x :: xs) = bk1 x (posOf j rs) os :: bkL rs os (j + 1) xs := eqI rfl
theorem bkL_is (rs : List R) (os : Rho) : ∀ (ρ : Rho) (j : Nat), bkL rs os j ρ = ρ.mapIdx fun i x => bk1 x (posOf (i + j) rs) os
  | [], _ => rfl
  | x :: xs, j => by
    rw [List.mapIdx_cons, bkL_c, bkL_is rs os xs (j + 1), Nat.zero_add]
    congr 1
    congr 1
    funext i y
    rw [Nat.add_assoc, Nat.add_comm 1 j]
@[simp] theorem backA_e (ρ : Rho) (rs : List R) (os : Rho) : backA ρ rs os = bkL rs os 0 ρ := by rw [bkL_is]; rfl
/-- the end of a def's run -/
def fnR (n : Nat) (pr : Nat → Bool) (o : Option Ot) : Option (Oe R) := match o with
    | some (.nx ρ) => some (.ok (.dat .none) (outs n pr ρ))
    | some (.rt r ρ) => some (.ok r (outs n pr ρ))
    | some (.er c fs ρ) => some (.er c fs (outs n pr ρ))
    | _ => none
@[simp] theorem fnR_nx (n : Nat) (pr : Nat → Bool) (ρ : Rho) : fnR n pr (some (.nx ρ)) = some (.ok (.dat .none) (outs n pr ρ)) := eqI rfl
@[simp] theorem fnR_rt (n : Nat) (pr : Nat → Bool) (r : R) (ρ : Rho) : fnR n pr (some (.rt r ρ)) = some (.ok r (outs n pr ρ)) := eqI rfl
@[simp] theorem fnR_er (n : Nat) (pr : Nat → Bool) (c : Nat) (fs : List PyData) (ρ : Rho) : fnR n pr (some (.er c fs ρ)) = some (.er c fs (outs n pr ρ)) := eqI rfl
theorem outs_1 (pr : Nat → Bool) (ρ : Rho) : outs 1 pr ρ = [if pr 0 = true then ρ[0]?.join else none] := rfl
theorem outs_2 (pr : Nat → Bool) (ρ : Rho) : outs 2 pr ρ = [if pr 0 = true then ρ[0]?.join else none, if pr 1 = true then ρ[1]?.join else none] := rfl
theorem outs_3 (pr : Nat → Bool) (ρ : Rho) : outs 3 pr ρ = [if pr 0 = true then ρ[0]?.join else none, if pr 1 = true then ρ[1]?.join else none, if pr 2 = true then ρ[2]?.join else none] := rfl
theorem outs_4 (pr : Nat → Bool) (ρ : Rho) : outs 4 pr ρ = [if pr 0 = true then ρ[0]?.join else none, if pr 1 = true then ρ[1]?.join else none, if pr 2 = true then ρ[2]?.join else none, if pr 3 = true then ρ[3]?.join else none] := rfl
@[simp] theorem dPlus_i (i j : Int) : dPlus (.int i) (.int j) = some (.dat (.int (i + j))) := eqI rfl
@[simp] theorem dPlus_l (i j : List PyData) : dPlus (.list i) (.list j) = if i.length + j.length ≤ lim then some (.own (.list (i ++ j))) else none := eqI rfl
@[simp] theorem dPlus_t (i j : List PyData) : dPlus (.tuple i) (.tuple j) = if i.length + j.length ≤ lim then some (.dat (.tuple (i ++ j))) else none := eqI rfl
@[simp] theorem dMinus_i (i j : Int) : dMinus (.int i) (.int j) = some (.dat (.int (i - j))) := eqI rfl
@[simp] theorem dMul_i (i j : Int) : dMul (.int i) (.int j) = if i.natAbs.log2 + j.natAbs.log2 < 1000000 then some (.dat (.int (i * j))) else none := eqI rfl
@[simp] theorem dFd_i (i j : Int) : dFd (.int i) (.int j) = if j ≠ 0 ∧ j.natAbs.log2 < 9000 then some (.dat (.int (i.fdiv j))) else none := eqI rfl
@[simp] theorem dMod_i (i j : Int) : dMod (.int i) (.int j) = if j ≠ 0 then some (.dat (.int (i.fmod j))) else none := eqI rfl
@[simp] theorem dNeg_i (i : Int) : dNeg (.int i) = some (.dat (.int (-i))) := eqI rfl
@[simp] theorem dLt_i (i j : Int) : dLt (.int i) (.int j) = some (.dat (.bool (decide (i < j)))) := eqI rfl
@[simp] theorem dLe_i (i j : Int) : dLe (.int i) (.int j) = some (.dat (.bool (decide (i ≤ j)))) := eqI rfl
@[simp] theorem dGt_i (i j : Int) : dGt (.int i) (.int j) = some (.dat (.bool (decide (j < i)))) := eqI rfl
@[simp] theorem dGe_i (i j : Int) : dGe (.int i) (.int j) = some (.dat (.bool (decide (j ≤ i)))) := eqI rfl
@[simp] theorem dIx_l (xs : List PyData) (i : Int) : dIx (.list xs) (.int i) = (atI xs i).map R.dat := eqI rfl
@[simp] theorem dIx_t (xs : List PyData) (i : Int) : dIx (.tuple xs) (.int i) = (atI xs i).map R.dat := eqI rfl
@[simp] theorem dEq_i (i j : Int) : dEq (.int i) (.int j) = some (.dat (.bool (decide (i = j)))) := by
  show (if SeqAt.shaped (.int i) = true ∧ SeqAt.shaped (.int j) = true then some (R.dat (.bool (PyData.eqv (.int i) (.int j)))) else none) = _
  rw [if_pos ⟨rfl, rfl⟩]; rfl
@[simp] theorem dNe_i (i j : Int) : dNe (.int i) (.int j) = some (.dat (.bool (!decide (i = j)))) := by
  show (if SeqAt.shaped (.int i) = true ∧ SeqAt.shaped (.int j) = true then some (R.dat (.bool (!PyData.eqv (.int i) (.int j)))) else none) = _
  rw [if_pos ⟨rfl, rfl⟩]; rfl
@[simp] theorem dEq_s (i j : Str) : dEq (.str i) (.str j) = some (.dat (.bool (decide (i = j)))) := eqI rfl
@[simp] theorem dNe_s (i j : Str) : dNe (.str i) (.str j) = some (.dat (.bool (!decide (i = j)))) := eqI rfl
@[simp] theorem lenD_l (ds : List PyData) : lenD (.list ds) = some (.dat (.int ds.length)) := eqI rfl
@[simp] theorem lenD_t (ds : List PyData) : lenD (.tuple ds) = some (.dat (.int ds.length)) := eqI rfl
@[simp] theorem tupD_l (ds : List PyData) : tupD (.list ds) = some (.dat (.tuple ds)) := eqI rfl
@[simp] theorem tupD_t (ds : List PyData) : tupD (.tuple ds) = some (.dat (.tuple ds)) := eqI rfl
@[simp] theorem lstD_l (ds : List PyData) : lstD (.list ds) = some (.own (.list ds)) := eqI rfl
@[simp] theorem lstD_t (ds : List PyData) : lstD (.tuple ds) = some (.own (.list ds)) := eqI rfl
@[simp] theorem intD_i (i : Int) : intD (.int i) = some (.dat (.int i)) := eqI rfl
@[simp] theorem intD_b (i : Bool) : intD (.bool i) = some (.dat (.int (if i then 1 else 0))) := eqI rfl
@[simp] theorem absD_i (i : Int) : absD (.int i) = some (.dat (.int (if i < 0 then -i else i))) := eqI rfl
@[simp] theorem max2D_i (i j : Int) : max2D (.int i) (.int j) = some (.dat (.int (if j > i then j else i))) := eqI rfl
@[simp] theorem min2D_i (i j : Int) : min2D (.int i) (.int j) = some (.dat (.int (if j < i then j else i))) := eqI rfl
@[simp] theorem sumD_l (ns : List Int) : sumD (.list (ns.map PyData.int)) = some (.dat (.int ns.sum)) := by simp [sumD]
@[simp] theorem sumD_t (ns : List Int) : sumD (.tuple (ns.map PyData.int)) = some (.dat (.int ns.sum)) := by simp [sumD]
@[simp] theorem allD_l (bs : List Bool) : allD (.list (bs.map PyData.bool)) = some (.dat (.bool (bs.all id))) := by simp [allD]
@[simp] theorem anyD_l (bs : List Bool) : anyD (.list (bs.map PyData.bool)) = some (.dat (.bool (bs.any id))) := by simp [anyD]
theorem atI_nn {α : Type} (xs : List α) (i : Int) (h : 0 ≤ i) : atI xs i = xs[i.toNat]? := by
  unfold atI ixN
  rw [if_pos h]
  split
  · rfl
  · rename_i g
    show none = _
    rw [List.getElem?_eq_none]
    omega
theorem atI_neg {α : Type} (xs : List α) (i : Int) (h : i < 0) (h2 : -(xs.length : Int) ≤ i) : atI xs i = xs[(i + xs.length).toNat]? := by
  unfold atI ixN
  rw [if_neg (by omega), if_pos h2]
  rfl
@[simp] theorem forM_e (it : IM) (g : GM) (body : SM) (ρ : Rho) : forM it g body ρ = bindS (it ρ) fun ds ρ1 => forL g body ds ρ1 := eqI rfl
@[simp] theorem lcM_e (it : IM) (g : GM) (vs : List Nat) (c : Rho → Option (Oe Bool)) (f : EM) (ρ : Rho) : lcM it g vs c f ρ = bindO (it ρ) fun ds ρ1 => lcL g vs c f ds (wipeR ρ1 vs) [] := eqI rfl
/-- a loop whose every turn goes on: I holds ahead of each -/
theorem forL_inv {g : GM} {body : SM} (I : List PyData → Rho → Prop) : ∀ (xs : List PyData) (ρ : Rho), I xs ρ →
    (∀ x r ρ, I (x :: r) ρ → ∃ ρ1 ρ2, g x ρ = some ρ1 ∧ (body ρ1 = some (.nx ρ2) ∨ body ρ1 = some (.ct ρ2)) ∧ I r ρ2) → ∃ ρ', forL g body xs ρ = some (.nx ρ') ∧ I [] ρ'
  | [], ρ, h, _ => ⟨ρ, rfl, h⟩
  | x :: r, ρ, h, st => by
    obtain ⟨ρ1, ρ2, e1, e2, h2⟩ := st x r ρ h
    obtain ⟨ρ', e3, h3⟩ := forL_inv I r ρ2 h2 st
    refine ⟨ρ', ?_, h3⟩
    show (match g x ρ with | none => none | some ρ1 => match body ρ1 with | some (.nx ρ2) => forL g body r ρ2 | some (.ct ρ2) => forL g body r ρ2 | some (.bk ρ2) => some (.nx ρ2) | o => o) = _
    rw [e1]
    rcases e2 with e2 | e2 <;> (simp only [e2]; exact e3)
end DL
namespace DL
open PySem L2
theorem canLayAll_of : ∀ {ds : List PyData}, (∀ d ∈ ds, d.canLay0 = true) → PyData.canLayAll0 ds = true
  | [], _ => by simp [PyData.canLayAll0]
  | d :: r, h => by
    simp only [PyData.canLayAll0, Bool.and_eq_true]
    exact ⟨h d (List.mem_cons_self ..), canLayAll_of fun x hx => h x (List.mem_cons_of_mem _ hx)⟩
theorem depthAll_of {n : Nat} : ∀ {ds : List PyData}, (∀ d ∈ ds, d.depth ≤ n) → PyData.depthAll ds ≤ n
  | [], _ => by simp [PyData.depthAll]
  | d :: r, h => by
    simp only [PyData.depthAll]
    exact Nat.max_le.mpr ⟨h d (List.mem_cons_self ..), depthAll_of fun x hx => h x (List.mem_cons_of_mem _ hx)⟩
theorem showableAll_of : ∀ {ds : List PyData}, (∀ d ∈ ds, d.showable = true) → PyData.showableAll ds = true
  | [], _ => by simp [PyData.showableAll]
  | d :: r, h => by
    simp only [PyData.showableAll, Bool.and_eq_true]
    exact ⟨h d (List.mem_cons_self ..), showableAll_of fun x hx => h x (List.mem_cons_of_mem _ hx)⟩
theorem shownAll_len {n : Nat} : ∀ {ds : List PyData}, (∀ d ∈ ds, d.shown.length ≤ n) → ((PyData.shownAll ds).map (·.length)).sum ≤ n * ds.length ∧ (PyData.shownAll ds).length = ds.length
  | [], _ => by simp [PyData.shownAll]
  | d :: r, h => by
    obtain ⟨a, b⟩ := shownAll_len (ds := r) fun x hx => h x (List.mem_cons_of_mem _ hx)
    have c := h d (List.mem_cons_self ..)
    simp only [PyData.shownAll, List.map_cons, List.sum_cons, List.length_cons, b, Nat.mul_add, Nat.mul_one]
    exact ⟨by omega, trivial⟩
/-- may be compared -/
structure Eqb (m : Nat) (d : PyData) : Prop where
  l : d.canLay0 = true
  p : d.depth ≤ m
theorem Eqb.int (i : Int) : Eqb 0 (.int i) := ⟨rfl, Nat.le_refl 0⟩
theorem Eqb.bool (i : Bool) : Eqb 0 (.bool i) := ⟨rfl, Nat.le_refl 0⟩
theorem Eqb.none : Eqb 0 .none := ⟨rfl, Nat.le_refl 0⟩
theorem Eqb.mono {m n : Nat} {d : PyData} (h : Eqb m d) (l : m ≤ n) : Eqb n d := ⟨h.l, Nat.le_trans h.p l⟩
theorem Eqb.list {m : Nat} {ds : List PyData} (h : ∀ d ∈ ds, Eqb m d) : Eqb (m + 1) (.list ds) :=
  ⟨by simp only [PyData.canLay0]; exact canLayAll_of fun d hd => (h d hd).l, by simp only [PyData.depth]; exact Nat.succ_le_succ (depthAll_of fun d hd => (h d hd).p)⟩
theorem Eqb.tuple {m : Nat} {ds : List PyData} (h : ∀ d ∈ ds, Eqb m d) : Eqb (m + 1) (.tuple ds) :=
  ⟨by simp only [PyData.canLay0]; exact canLayAll_of fun d hd => (h d hd).l, by simp only [PyData.depth]; exact Nat.succ_le_succ (depthAll_of fun d hd => (h d hd).p)⟩
theorem Eqb.shaped {m : Nat} {d : PyData} (h : Eqb m d) (l : m ≤ 64) : SeqAt.shaped d = true := by
  unfold SeqAt.shaped
  rw [h.l, Bool.true_and, decide_eq_true_eq]
  exact Nat.le_trans h.p l
theorem dNe_of {d e : PyData} {m n : Nat} (h : Eqb m d) (h2 : Eqb n e) (l : m ≤ 64) (l2 : n ≤ 64) (ns : ∀ i j, d = .str i → e = .str j → False) : dNe d e = some (.dat (.bool (!PyData.eqv d e))) := by
  unfold dNe
  split
  · exact (ns _ _ rfl rfl).elim
  · rw [if_pos ⟨h.shaped l, h2.shaped l2⟩]
theorem dEq_of {d e : PyData} {m n : Nat} (h : Eqb m d) (h2 : Eqb n e) (l : m ≤ 64) (l2 : n ≤ 64) (ns : ∀ i j, d = .str i → e = .str j → False) : dEq d e = some (.dat (.bool (PyData.eqv d e))) := by
  unfold dEq
  split
  · exact (ns _ _ rfl rfl).elim
  · rw [if_pos ⟨h.shaped l, h2.shaped l2⟩]
/-- may be shown, in at most n signs -/
structure Rp (n m : Nat) (d : PyData) : Prop where
  s : d.showable = true
  l : d.shown.length ≤ n
  p : d.depth ≤ m
theorem Rp.int {i : Int} (h : i.natAbs < 10 ^ 12) : Rp 13 0 (.int i) := by
  refine ⟨?_, PyData.shown_int_le h, Nat.le_refl 0⟩
  simp only [PyData.showable, decide_eq_true_eq]
  by_cases z : i.natAbs = 0
  · rw [z]; decide
  · exact Nat.lt_trans ((Nat.log2_lt z).mpr (Nat.lt_trans h (show 10 ^ 12 < 2 ^ 40 by decide))) (by decide)
theorem Rp.mono {n m n' m' : Nat} {d : PyData} (h : Rp n m d) (l : n ≤ n') (l2 : m ≤ m') : Rp n' m' d := ⟨h.s, Nat.le_trans h.l l, Nat.le_trans h.p l2⟩
theorem Rp.tuple {n m k : Nat} {ds : List PyData} (h : ∀ d ∈ ds, Rp n m d) (hl : ds.length ≤ k) : Rp ((n + 2) * k + 3) (m + 1) (.tuple ds) := by
  refine ⟨?_, ?_, ?_⟩
  · simp only [PyData.showable]; exact showableAll_of fun d hd => (h d hd).s
  · simp only [PyData.shown]
    obtain ⟨a, b⟩ := shownAll_len (n := n) (ds := ds) fun d hd => (h d hd).l
    have c := tupleText_len_le (PyData.shownAll ds)
    rw [b] at c
    have e : (n + 2) * ds.length ≤ (n + 2) * k := Nat.mul_le_mul_left _ hl
    have e' : (n + 2) * ds.length = n * ds.length + 2 * ds.length := Nat.add_mul ..
    omega
  · simp only [PyData.depth]; exact Nat.succ_le_succ (depthAll_of fun d hd => (h d hd).p)
theorem Rp.list {n m k : Nat} {ds : List PyData} (h : ∀ d ∈ ds, Rp n m d) (hl : ds.length ≤ k) : Rp ((n + 2) * k + 3) (m + 1) (.list ds) := by
  refine ⟨?_, ?_, ?_⟩
  · simp only [PyData.showable]; exact showableAll_of fun d hd => (h d hd).s
  · simp only [PyData.shown]
    obtain ⟨a, b⟩ := shownAll_len (n := n) (ds := ds) fun d hd => (h d hd).l
    have c := listText_len_le (PyData.shownAll ds)
    rw [b] at c
    have e : (n + 2) * ds.length ≤ (n + 2) * k := Nat.mul_le_mul_left _ hl
    have e' : (n + 2) * ds.length = n * ds.length + 2 * ds.length := Nat.add_mul ..
    omega
  · simp only [PyData.depth]; exact Nat.succ_le_succ (depthAll_of fun d hd => (h d hd).p)
theorem log2_lt {i : Int} {n : Nat} (h1 : 0 ≤ i) (h2 : i < 2 ^ n) (hn : 0 < n): i.natAbs.log2 < n := by
  obtain ⟨m, rfl⟩ := Int.eq_ofNat_of_zero_le h1
  rw [Int.natAbs_natCast]
  by_cases h : m = 0
  · subst h; simpa using hn
  · rw [Nat.log2_lt h]
    exact_mod_cast h2
theorem mul_ok {i j : Int} (h1 : 0 ≤ i) (h2 : i < 2 ^ 62) (h3 : 0 ≤ j) (h4 : j < 2 ^ 62) : i.natAbs.log2 + j.natAbs.log2 < 1000000 := by
  have a := log2_lt (n := 62) h1 h2 (by decide)
  have b := log2_lt (n := 62) h3 h4 (by decide)
  omega
theorem mul_is {i j : Int} (h1 : 0 ≤ i) (h2 : i < 2 ^ 62) (h3 : 0 ≤ j) (h4 : j < 2 ^ 62) : dMul (.int i) (.int j) = some (.dat (.int (i * j))) := by
  rw [dMul_i, if_pos (mul_ok h1 h2 h3 h4)]
theorem rngL_mem {lo : Int} {n : Nat} {d : PyData} (h : d ∈ rngL lo n) : ∃ k : Nat, k < n ∧ d = .int (lo + k) := by
  simp only [rngL, List.mem_map, List.mem_range] at h
  obtain ⟨k, hk, rfl⟩ := h
  exact ⟨k, hk, rfl⟩
theorem rngL_zero (lo : Int) : rngL lo 0 = [] := rfl
theorem rngL_succ (lo : Int) (n : Nat) : rngL lo (n + 1) = .int lo :: rngL (lo + 1) n := by
  simp only [rngL, List.range_succ_eq_map, List.map_cons, List.map_map]
  congr 1
  · simp
  · apply List.map_congr_left
    intro k _
    simp only [Function.comp]
    congr 1
    simp only [Nat.succ_eq_add_one, Int.natCast_add]
    omega
@[simp] theorem isi_int_none : isiD "int" .none = some (.dat (.bool false)) := by
  show (kitB "NoneType" "int").map (fun b => R.dat (.bool b)) = _
  rw [show kitB "NoneType" "int" = some false by decide +kernel]
  rfl
@[simp] theorem isi_int_bool (b : Bool) : isiD "int" (.bool b) = some (.dat (.bool true)) := by
  show (kitB "bool" "int").map (fun b => R.dat (.bool b)) = _
  rw [show kitB "bool" "int" = some true by decide +kernel]
  rfl
@[simp] theorem isi_int_int (i : Int) : isiD "int" (.int i) = some (.dat (.bool true)) := by
  show (kitB "int" "int").map (fun b => R.dat (.bool b)) = _
  rw [show kitB "int" "int" = some true by decide +kernel]
  rfl
@[simp] theorem isi_int_str (x : Str) : isiD "int" (.str x) = some (.dat (.bool false)) := by
  show (kitB "str" "int").map (fun b => R.dat (.bool b)) = _
  rw [show kitB "str" "int" = some false by decide +kernel]
  rfl
@[simp] theorem isi_int_list (xs : List PyData) : isiD "int" (.list xs) = some (.dat (.bool false)) := by
  show (kitB "list" "int").map (fun b => R.dat (.bool b)) = _
  rw [show kitB "list" "int" = some false by decide +kernel]
  rfl
@[simp] theorem isi_int_tuple (xs : List PyData) : isiD "int" (.tuple xs) = some (.dat (.bool false)) := by
  show (kitB "tuple" "int").map (fun b => R.dat (.bool b)) = _
  rw [show kitB "tuple" "int" = some false by decide +kernel]
  rfl
@[simp] theorem isi_int_dict (xs : List (PyData × PyData)) : isiD "int" (.dict xs) = some (.dat (.bool false)) := by
  show (kitB "dict" "int").map (fun b => R.dat (.bool b)) = _
  rw [show kitB "dict" "int" = some false by decide +kernel]
  rfl
@[simp] theorem isi_bool_none : isiD "bool" .none = some (.dat (.bool false)) := by
  show (kitB "NoneType" "bool").map (fun b => R.dat (.bool b)) = _
  rw [show kitB "NoneType" "bool" = some false by decide +kernel]
  rfl
@[simp] theorem isi_bool_bool (b : Bool) : isiD "bool" (.bool b) = some (.dat (.bool true)) := by
  show (kitB "bool" "bool").map (fun b => R.dat (.bool b)) = _
  rw [show kitB "bool" "bool" = some true by decide +kernel]
  rfl
@[simp] theorem isi_bool_int (i : Int) : isiD "bool" (.int i) = some (.dat (.bool false)) := by
  show (kitB "int" "bool").map (fun b => R.dat (.bool b)) = _
  rw [show kitB "int" "bool" = some false by decide +kernel]
  rfl
@[simp] theorem isi_bool_str (x : Str) : isiD "bool" (.str x) = some (.dat (.bool false)) := by
  show (kitB "str" "bool").map (fun b => R.dat (.bool b)) = _
  rw [show kitB "str" "bool" = some false by decide +kernel]
  rfl
@[simp] theorem isi_bool_list (xs : List PyData) : isiD "bool" (.list xs) = some (.dat (.bool false)) := by
  show (kitB "list" "bool").map (fun b => R.dat (.bool b)) = _
  rw [show kitB "list" "bool" = some false by decide +kernel]
  rfl
@[simp] theorem isi_bool_tuple (xs : List PyData) : isiD "bool" (.tuple xs) = some (.dat (.bool false)) := by
  show (kitB "tuple" "bool").map (fun b => R.dat (.bool b)) = _
  rw [show kitB "tuple" "bool" = some false by decide +kernel]
  rfl
@[simp] theorem isi_bool_dict (xs : List (PyData × PyData)) : isiD "bool" (.dict xs) = some (.dat (.bool false)) := by
  show (kitB "dict" "bool").map (fun b => R.dat (.bool b)) = _
  rw [show kitB "dict" "bool" = some false by decide +kernel]
  rfl
@[simp] theorem isi_tuple_none : isiD "tuple" .none = some (.dat (.bool false)) := by
  show (kitB "NoneType" "tuple").map (fun b => R.dat (.bool b)) = _
  rw [show kitB "NoneType" "tuple" = some false by decide +kernel]
  rfl
@[simp] theorem isi_tuple_bool (b : Bool) : isiD "tuple" (.bool b) = some (.dat (.bool false)) := by
  show (kitB "bool" "tuple").map (fun b => R.dat (.bool b)) = _
  rw [show kitB "bool" "tuple" = some false by decide +kernel]
  rfl
@[simp] theorem isi_tuple_int (i : Int) : isiD "tuple" (.int i) = some (.dat (.bool false)) := by
  show (kitB "int" "tuple").map (fun b => R.dat (.bool b)) = _
  rw [show kitB "int" "tuple" = some false by decide +kernel]
  rfl
@[simp] theorem isi_tuple_str (x : Str) : isiD "tuple" (.str x) = some (.dat (.bool false)) := by
  show (kitB "str" "tuple").map (fun b => R.dat (.bool b)) = _
  rw [show kitB "str" "tuple" = some false by decide +kernel]
  rfl
@[simp] theorem isi_tuple_list (xs : List PyData) : isiD "tuple" (.list xs) = some (.dat (.bool false)) := by
  show (kitB "list" "tuple").map (fun b => R.dat (.bool b)) = _
  rw [show kitB "list" "tuple" = some false by decide +kernel]
  rfl
@[simp] theorem isi_tuple_tuple (xs : List PyData) : isiD "tuple" (.tuple xs) = some (.dat (.bool true)) := by
  show (kitB "tuple" "tuple").map (fun b => R.dat (.bool b)) = _
  rw [show kitB "tuple" "tuple" = some true by decide +kernel]
  rfl
@[simp] theorem isi_tuple_dict (xs : List (PyData × PyData)) : isiD "tuple" (.dict xs) = some (.dat (.bool false)) := by
  show (kitB "dict" "tuple").map (fun b => R.dat (.bool b)) = _
  rw [show kitB "dict" "tuple" = some false by decide +kernel]
  rfl
@[simp] theorem isi_str_none : isiD "str" .none = some (.dat (.bool false)) := by
  show (kitB "NoneType" "str").map (fun b => R.dat (.bool b)) = _
  rw [show kitB "NoneType" "str" = some false by decide +kernel]
  rfl
@[simp] theorem isi_str_bool (b : Bool) : isiD "str" (.bool b) = some (.dat (.bool false)) := by
  show (kitB "bool" "str").map (fun b => R.dat (.bool b)) = _
  rw [show kitB "bool" "str" = some false by decide +kernel]
  rfl
@[simp] theorem isi_str_int (i : Int) : isiD "str" (.int i) = some (.dat (.bool false)) := by
  show (kitB "int" "str").map (fun b => R.dat (.bool b)) = _
  rw [show kitB "int" "str" = some false by decide +kernel]
  rfl
@[simp] theorem isi_str_str (x : Str) : isiD "str" (.str x) = some (.dat (.bool true)) := by
  show (kitB "str" "str").map (fun b => R.dat (.bool b)) = _
  rw [show kitB "str" "str" = some true by decide +kernel]
  rfl
@[simp] theorem isi_str_list (xs : List PyData) : isiD "str" (.list xs) = some (.dat (.bool false)) := by
  show (kitB "list" "str").map (fun b => R.dat (.bool b)) = _
  rw [show kitB "list" "str" = some false by decide +kernel]
  rfl
@[simp] theorem isi_str_tuple (xs : List PyData) : isiD "str" (.tuple xs) = some (.dat (.bool false)) := by
  show (kitB "tuple" "str").map (fun b => R.dat (.bool b)) = _
  rw [show kitB "tuple" "str" = some false by decide +kernel]
  rfl
@[simp] theorem isi_str_dict (xs : List (PyData × PyData)) : isiD "str" (.dict xs) = some (.dat (.bool false)) := by
  show (kitB "dict" "str").map (fun b => R.dat (.bool b)) = _
  rw [show kitB "dict" "str" = some false by decide +kernel]
  rfl
@[simp] theorem isi_list_none : isiD "list" .none = some (.dat (.bool false)) := by
  show (kitB "NoneType" "list").map (fun b => R.dat (.bool b)) = _
  rw [show kitB "NoneType" "list" = some false by decide +kernel]
  rfl
@[simp] theorem isi_list_bool (b : Bool) : isiD "list" (.bool b) = some (.dat (.bool false)) := by
  show (kitB "bool" "list").map (fun b => R.dat (.bool b)) = _
  rw [show kitB "bool" "list" = some false by decide +kernel]
  rfl
@[simp] theorem isi_list_int (i : Int) : isiD "list" (.int i) = some (.dat (.bool false)) := by
  show (kitB "int" "list").map (fun b => R.dat (.bool b)) = _
  rw [show kitB "int" "list" = some false by decide +kernel]
  rfl
@[simp] theorem isi_list_str (x : Str) : isiD "list" (.str x) = some (.dat (.bool false)) := by
  show (kitB "str" "list").map (fun b => R.dat (.bool b)) = _
  rw [show kitB "str" "list" = some false by decide +kernel]
  rfl
@[simp] theorem isi_list_list (xs : List PyData) : isiD "list" (.list xs) = some (.dat (.bool true)) := by
  show (kitB "list" "list").map (fun b => R.dat (.bool b)) = _
  rw [show kitB "list" "list" = some true by decide +kernel]
  rfl
@[simp] theorem isi_list_tuple (xs : List PyData) : isiD "list" (.tuple xs) = some (.dat (.bool false)) := by
  show (kitB "tuple" "list").map (fun b => R.dat (.bool b)) = _
  rw [show kitB "tuple" "list" = some false by decide +kernel]
  rfl
@[simp] theorem isi_list_dict (xs : List (PyData × PyData)) : isiD "list" (.dict xs) = some (.dat (.bool false)) := by
  show (kitB "dict" "list").map (fun b => R.dat (.bool b)) = _
  rw [show kitB "dict" "list" = some false by decide +kernel]
  rfl
@[simp] theorem isi_dict_none : isiD "dict" .none = some (.dat (.bool false)) := by
  show (kitB "NoneType" "dict").map (fun b => R.dat (.bool b)) = _
  rw [show kitB "NoneType" "dict" = some false by decide +kernel]
  rfl
@[simp] theorem isi_dict_bool (b : Bool) : isiD "dict" (.bool b) = some (.dat (.bool false)) := by
  show (kitB "bool" "dict").map (fun b => R.dat (.bool b)) = _
  rw [show kitB "bool" "dict" = some false by decide +kernel]
  rfl
@[simp] theorem isi_dict_int (i : Int) : isiD "dict" (.int i) = some (.dat (.bool false)) := by
  show (kitB "int" "dict").map (fun b => R.dat (.bool b)) = _
  rw [show kitB "int" "dict" = some false by decide +kernel]
  rfl
@[simp] theorem isi_dict_str (x : Str) : isiD "dict" (.str x) = some (.dat (.bool false)) := by
  show (kitB "str" "dict").map (fun b => R.dat (.bool b)) = _
  rw [show kitB "str" "dict" = some false by decide +kernel]
  rfl
@[simp] theorem isi_dict_list (xs : List PyData) : isiD "dict" (.list xs) = some (.dat (.bool false)) := by
  show (kitB "list" "dict").map (fun b => R.dat (.bool b)) = _
  rw [show kitB "list" "dict" = some false by decide +kernel]
  rfl
@[simp] theorem isi_dict_tuple (xs : List PyData) : isiD "dict" (.tuple xs) = some (.dat (.bool false)) := by
  show (kitB "tuple" "dict").map (fun b => R.dat (.bool b)) = _
  rw [show kitB "tuple" "dict" = some false by decide +kernel]
  rfl
@[simp] theorem isi_dict_dict (xs : List (PyData × PyData)) : isiD "dict" (.dict xs) = some (.dat (.bool true)) := by
  show (kitB "dict" "dict").map (fun b => R.dat (.bool b)) = _
  rw [show kitB "dict" "dict" = some true by decide +kernel]
  rfl
def bindR {β : Type} (o : Option Rho) (g : Rho → Option β) : Option β := match o with
  | some ρ => g ρ
  | none => none
@[simp] theorem bindR_e {β : Type} (ρ : Rho) (g : Rho → Option β) : bindR (some ρ) g = g ρ := eqI rfl
/-- what a turn gives, and the slots behind it -/
def ev (g : GM) (vs : List Nat) (c : Rho → Option (Oe Bool)) (f : EM) (x : PyData) (ρ : Rho) : Option (Option PyData × Rho) :=
  bindR (g x ρ) fun ρ1 => bindN (c ρ1) fun b ρ2 => pick b (fun ρ2 => bindN (f ρ2) fun q ρ3 => bindF (frz ρ3 q) fun d ρ4 => some (some d, wipeR ρ4 vs)) (fun ρ2 => some (none, wipeR ρ2 vs)) ρ2
theorem lcL_ev {g : GM} {vs : List Nat} {c : Rho → Option (Oe Bool)} {f : EM} (x : PyData) (xs : List PyData) (ρ : Rho) (acc : List PyData) {o : Option PyData} {ρ' : Rho} (h : ev g vs c f x ρ = some (o, ρ')) (hl : acc.length < lim) :
    lcL g vs c f (x :: xs) ρ acc = lcL g vs c f xs ρ' (acc ++ o.toList) := by
  unfold ev at h
  rw [lcL]
  cases e1 : g x ρ with
  | none => rw [e1] at h; cases h
  | some ρ1 =>
    rw [e1, bindR_e] at h
    simp only
    cases e2 : c ρ1 with
    | none => rw [e2] at h; cases h
    | some oc =>
      cases oc with
      | er _ _ _ => rw [e2] at h; cases h
      | ok b ρ2 =>
        rw [e2, bindN_ok] at h
        rw [bindN_ok]
        cases b with
        | false =>
          rw [pick_f] at h
          cases h
          simp
        | true =>
          rw [pick_t] at h
          rw [if_pos rfl]
          cases e3 : f ρ2 with
          | none => rw [e3] at h; cases h
          | some oq =>
            cases oq with
            | er _ _ _ => rw [e3] at h; cases h
            | ok q ρ3 =>
              rw [e3, bindN_ok] at h
              rw [bindN_ok]
              cases e4 : frz ρ3 q with
              | none => rw [e4] at h; cases h
              | some pr =>
                obtain ⟨d, ρ4⟩ := pr
                rw [e4, bindF_e] at h
                cases h
                simp only
                rw [if_pos hl]
                rfl
/-- a comprehension whose turns leave the slots as they were -/
theorem lcL_fm {α : Type} {g : GM} {vs : List Nat} {c : Rho → Option (Oe Bool)} {f : EM} {ρ : Rho} (inD : α → PyData) (out : α → Option PyData) (xs : List α) (hl : xs.length ≤ lim)
    (st : ∀ x ∈ xs, ev g vs c f (inD x) ρ = some (out x, ρ)) : lcL g vs c f (xs.map inD) ρ [] = some (.ok (.own (.list (xs.filterMap out))) ρ) := by
  have key : ∀ (xs : List α) (acc : List PyData), acc.length + xs.length ≤ lim → (∀ x ∈ xs, ev g vs c f (inD x) ρ = some (out x, ρ)) →
      lcL g vs c f (xs.map inD) ρ acc = some (.ok (.own (.list (acc ++ xs.filterMap out))) ρ) := by
    intro xs
    induction xs with
    | nil => intro acc _ _; rw [List.map_nil, List.filterMap_nil, List.append_nil]; rfl
    | cons x r ih =>
      intro acc hl st
      rw [List.length_cons] at hl
      rw [List.map_cons, lcL_ev _ _ _ _ (st x (List.mem_cons_self ..)) (by omega)]
      have : (out x).toList.length ≤ 1 := by cases out x <;> simp
      rw [ih _ (by rw [List.length_append]; omega) fun y hy => st y (List.mem_cons_of_mem _ hy), List.append_assoc]
      cases h : out x <;> simp [h]
  have := key xs [] (by simpa using hl) st
  simpa using this
theorem lcL_mp {α : Type} {g : GM} {vs : List Nat} {c : Rho → Option (Oe Bool)} {f : EM} {ρ : Rho} (inD out : α → PyData) (xs : List α) (hl : xs.length ≤ lim)
    (st : ∀ x ∈ xs, ev g vs c f (inD x) ρ = some (some (out x), ρ)) : lcL g vs c f (xs.map inD) ρ [] = some (.ok (.own (.list (xs.map out))) ρ) := by
  rw [lcL_fm inD (fun x => some (out x)) xs hl st, List.filterMap_eq_map']
end DL
namespace DL
open PySem L2 PyProof.Rows PpSet
end DL
namespace DL
open PySem L2 PyProof.Rows
def addK (acc : List Int) (k : Int) : List Int := if k ∈ acc then acc else acc ++ [k]
/-- in rising order, each once -/
def insU (k : Int) : List Int → List Int
  | [] => [k]
  | x :: r => if k < x then k :: x :: r else if k = x then x :: r else x :: insU k r
def sortU : List Int → List Int
  | [] => []
  | k :: r => insU k (sortU r)
def scL (g : GM) (vs : List Nat) (c : Rho → Option (Oe Bool)) (f : EM) : List PyData → Rho → List Int → Option (Oe R)
  | [], ρ, acc => some (.ok (.st acc) ρ)
  | x :: xs, ρ, acc => match g x ρ with
    | none => none
    | some ρ1 => bindN (c ρ1) fun b ρ2 => if b = true then bindN (f ρ2) fun r ρ3 => match r with
        | .dat (.int k) => if acc.length < 100 then scL g vs c f xs (wipeR ρ3 vs) (addK acc k) else none
        | _ => none
      else scL g vs c f xs (wipeR ρ2 vs) acc
def scM (it : IM) (g : GM) (vs : List Nat) (c : Rho → Option (Oe Bool)) (f : EM) : EM := fun ρ => bindO (it ρ) fun ds ρ1 => scL g vs c f ds (wipeR ρ1 vs) []
/-- sorted(a set) -/
def srtR (r : R) (ρ : Rho) : Option (Oe R) := match r with
  | .st xs => if xs.length < 64 then some (.ok (.own (.list ((sortU xs).map .int))) ρ) else none
  | _ => none
def sortSM (f : EM) : EM := fun ρ => bindO (f ρ) srtR
end DL
namespace DL
open PySem L2 PyProof.Rows
theorem vals_ints : ∀ {ns : List Int} {us : List Value}, Vals (ns.map V.int) us → IntsAre us ns
  | [], _, .nil => .nil
  | n :: r, _, .cons h t => by
    obtain ⟨tk, rfl⟩ := h
    exact .cons _ _ (vals_ints t)
/-- the ints in a list, each once -/
def onceL : List Int → List Int → List Int
  | [], acc => acc
  | k :: r, acc => onceL r (addK acc k)
def setD : PyData → Option R
  | .list ds => (intsOf ds).bind fun ns => if ns.length < 4000 then some (.st (onceL ns [])) else none
  | _ => none
def rSetL (K : PySem.W.Frag) (w : World) : List V → Hp → VK → Prop := fun xs H Q => ∃ (a : Addr) (ns : List Int), xs = [V.ref a] ∧ SqL K H a (ns.map V.int) ∧ ns.length < 4000 ∧ ∀ p, H p = none → ∀ H', (∀ b o, H b = some o → H' b = some o) → (∀ b, H b = none → b ≠ p → H' b = none) → SetAt w H' p (onceL ns []) → Q (.ref p) H'
end DL
namespace DL
open PySem L2 PyProof.Rows
@[simp] theorem scM_e (it : IM) (g : GM) (vs : List Nat) (c : Rho → Option (Oe Bool)) (f : EM) (ρ : Rho) : scM it g vs c f ρ = bindO (it ρ) fun ds ρ1 => scL g vs c f ds (wipeR ρ1 vs) [] := eqI rfl
@[simp] theorem sortSM_e (f : EM) (ρ : Rho) : sortSM f ρ = bindO (f ρ) srtR := eqI rfl
@[simp] theorem srtR_e (xs : List Int) (ρ : Rho) : srtR (.st xs) ρ = if xs.length < 64 then some (.ok (.own (.list ((sortU xs).map .int))) ρ) else none := eqI rfl
@[simp] theorem setD_l (ns : List Int) : setD (.list (ns.map .int)) = if ns.length < 4000 then some (.st (onceL ns [])) else none := by
  show (intsOf _).bind _ = _
  rw [intsOf_map]
  rfl
end DL
namespace DL
open PySem L2 PyProof.Rows
def repR (r s : R) (ρ : Rho) : Option (Oe R) := match r, s with
  | .own (.list ds), .dat (.int k) => if (-9223372036854775808 ≤ k ∧ k < 9223372036854775808) ∧ ds.length * k.toNat ≤ lim then some (.ok (.own (.list (List.replicate k.toNat ds).flatten)) ρ) else none
  | _, _ => none
def repM (fa fb : EM) : EM := fun ρ => bindO (fa ρ) fun r ρ1 => bindO (fb ρ1) fun s ρ2 => repR r s ρ2
@[simp] theorem repM_e (fa fb : EM) (ρ : Rho) : repM fa fb ρ = bindO (fa ρ) fun r ρ1 => bindO (fb ρ1) fun s ρ2 => repR r s ρ2 := rfl
@[simp] theorem repR_e (ds : List PyData) (k : Int) (ρ : Rho) : repR (.own (.list ds)) (.dat (.int k)) ρ = if (-9223372036854775808 ≤ k ∧ k < 9223372036854775808) ∧ ds.length * k.toNat ≤ lim then some (.ok (.own (.list (List.replicate k.toNat ds).flatten)) ρ) else none := rfl
end DL
namespace DL
open PySem L2 PyProof.Rows
open Builtin.SmallTypes (nextOf nextOrEnd)
end DL
namespace DL
open PySem L2 PyProof.Rows
end DL
namespace DL
open PySem L2 PyProof.Rows
/-- lists or tuples, and their iterators -/
structure Kd where
  It : Heap → Addr → Addr → Nat → Prop
  Ct : Heap → Addr → Array Value → Prop
  Sq : PySem.W.Frag → Hp → Addr → List V → Prop
def Itk (k1 k2 : Kd) (K : PySem.W.Frag) (a b : Addr) : It :=
  ⟨fun i H => ∃ (xs ys : List V) (x y : V), k1.Sq K H a xs ∧ k2.Sq K H b ys ∧ xs[i]? = some x ∧ ys[i]? = some y,
    fun i H v H' => ∃ T x y, v = .ref T ∧ H T = none ∧ H' = upd H T (.tup [x, y]) ∧ (∀ xs, k1.Sq K H a xs → xs[i]? = some x) ∧ ∀ ys, k2.Sq K H b ys → ys[i]? = some y,
    fun i H => ∃ xs ys : List V, k1.Sq K H a xs ∧ k2.Sq K H b ys ∧ xs.length ≤ i ∧ ys.length ≤ i⟩
end DL
namespace DL
open PySem L2 PyProof.Rows
def pairD (x y : PyData) : PyData := .tuple [x, y]
def izR (o : Option (List PyData)) (ρ : Rho) : Option (Oe (List PyData)) := match o with
  | some [d, e] => match itemsOf d, itemsOf e with
    | some xs, some ys => if xs.length = ys.length then some (.ok (List.zipWith pairD xs ys) ρ) else none
    | _, _ => none
  | _ => none
def izM (f : AM) : IM := fun ρ => bindO (f ρ) fun rs ρ1 => izR (dats rs) ρ1
@[simp] theorem izM_e (f : AM) (ρ : Rho) : izM f ρ = bindO (f ρ) fun rs ρ1 => izR (dats rs) ρ1 := eqI rfl
@[simp] theorem izR_ll (xs ys : List PyData) (ρ : Rho) : izR (some [.list xs, .list ys]) ρ = if xs.length = ys.length then some (.ok (List.zipWith pairD xs ys) ρ) else none := eqI rfl
@[simp] theorem izR_lt (xs ys : List PyData) (ρ : Rho) : izR (some [.list xs, .tuple ys]) ρ = if xs.length = ys.length then some (.ok (List.zipWith pairD xs ys) ρ) else none := eqI rfl
@[simp] theorem izR_tl (xs ys : List PyData) (ρ : Rho) : izR (some [.tuple xs, .list ys]) ρ = if xs.length = ys.length then some (.ok (List.zipWith pairD xs ys) ρ) else none := eqI rfl
@[simp] theorem izR_tt (xs ys : List PyData) (ρ : Rho) : izR (some [.tuple xs, .tuple ys]) ρ = if xs.length = ys.length then some (.ok (List.zipWith pairD xs ys) ρ) else none := eqI rfl
end DL
namespace DL
open PySem L2
end DL
namespace DL
open PySem L2
/-- a number that fits into so many bits -/
structure Sz (k : Nat) (q : Rat) : Prop where
  n : q.num.natAbs < 2 ^ k
  d : q.den < 2 ^ k
theorem Sz.mono {k m : Nat} {q : Rat} (h : Sz k q) (l : k ≤ m) : Sz m q :=
  ⟨Nat.lt_of_lt_of_le h.n (Nat.pow_le_pow_right (by decide) l), Nat.lt_of_lt_of_le h.d (Nat.pow_le_pow_right (by decide) l)⟩
theorem Sz.int {k : Nat} {i : Int} (h : i.natAbs < 2 ^ k) (hk : 0 < k) : Sz k (i : Rat) := ⟨by rw [Rat.num_intCast]; exact h, by rw [Rat.den_intCast]; exact Nat.one_lt_two_pow (by omega)⟩
theorem q_pos (p : Rat) : 0 < (p.den : Int) := by have := p.den_pos; omega
end DL
namespace DL
open PySem L2
/-- a span: begin, until, kind -/
structure Sp where
  b : Int
  u : Int
  k : Int
def Sp.d (s : Sp) : PyData := .tuple [.int s.b, .int s.u, .int s.k]
structure Sp.Ok (s : Sp) : Prop where
  b0 : 0 ≤ s.b
  bu : s.b < s.u
  u9 : s.u ≤ 999
  k0 : 0 ≤ s.k
  k4 : s.k ≤ 4
/-- a fraction in lowest terms -/
def low (t b : Int) : PyData := .tuple [.int (t.fdiv (Int.gcd t b : Int)), .int (b.fdiv (Int.gcd t b : Int))]
def wat (L : List Sp) (t : Int) : Nat := L.countP fun s => decide (s.b < t ∧ t ≤ s.u)
def cnt (L : List Sp) (t k : Int) : Nat := L.countP fun s => decide (s.u = t ∧ s.k = k)
def endsD (L : List Sp) (t : Int) : PyData := .tuple [.int (cnt L t 1), .int (cnt L t 2), .int (cnt L t 3), .int (cnt L t 4)]
def rowD (L : List Sp) (t : Int) : PyData := .tuple [.int t, .int (wat L t), endsD L t]
theorem atI_last {α : Type} (xs : List α) (h : xs ≠ []) : atI xs (-1) = xs.getLast? := by
  have hp : 0 < xs.length := List.length_pos_iff.mpr h
  rw [atI_neg _ _ (by omega) (by omega), List.getLast?_eq_getElem?]
  congr 1
  omega
/-- a loop whose every turn goes on, with a state that is reckoned -/
theorem forL_st {α S : Type} {g : GM} {body : SM} (inD : α → PyData) (I : S → Rho → Prop) (step : S → α → S) (s0 : S) (L : List α) (ρ : Rho) (h0 : I s0 ρ)
    (ht : ∀ pre x post ρ, L = pre ++ x :: post → I (pre.foldl step s0) ρ → ∃ ρ2, bindR (g (inD x) ρ) body = some (.nx ρ2) ∧ I (step (pre.foldl step s0) x) ρ2) :
    ∃ ρ', forL g body (L.map inD) ρ = some (.nx ρ') ∧ I (L.foldl step s0) ρ' := by
  have key : ∀ (B A : List α) (ρ : Rho), L = A ++ B → I (A.foldl step s0) ρ → ∃ ρ', forL g body (B.map inD) ρ = some (.nx ρ') ∧ I (L.foldl step s0) ρ' := by
    intro B
    induction B with
    | nil => intro A ρ e h; rw [List.append_nil] at e; subst e; exact ⟨ρ, rfl, h⟩
    | cons x r ih =>
      intro A ρ e h
      obtain ⟨ρ2, e1, h1⟩ := ht A x r ρ e h
      obtain ⟨ρ', e2, h2⟩ := ih (A ++ [x]) ρ2 (by rw [e, List.append_assoc]; rfl) (by rw [List.foldl_append]; exact h1)
      refine ⟨ρ', ?_, h2⟩
      cases q : g (inD x) ρ with
      | none => rw [q] at e1; cases e1
      | some ρ1 =>
        rw [q, bindR_e] at e1
        show (match g (inD x) ρ with | none => none | some ρ1 => match body ρ1 with | some (.nx ρ2) => forL g body (r.map inD) ρ2 | some (.ct ρ2) => forL g body (r.map inD) ρ2 | some (.bk ρ2) => some (.nx ρ2) | o => o) = _
        rw [q]
        simp only [e1]
        exact e2
  exact key L [] ρ rfl h0
theorem natAbs_lt {i : Int} {n : Nat} (h1 : 0 ≤ i) (h2 : i < 2 ^ n) : i.natAbs < 2 ^ n := by
  obtain ⟨m, rfl⟩ := Int.eq_ofNat_of_zero_le h1
  rw [Int.natAbs_natCast]
  exact_mod_cast h2
def slR (o : Option PyData) (a b : Option Int) (ρ : Rho) : Option (Oe R) := match o with
  | some d => retO (slD d a b) ρ
  | none => none
def ptR (r : R) (ρ : Rho) : Option (Oe (Option Int)) := match r with
  | .dat (.int i) => some (.ok (some i) ρ)
  | _ => none
@[simp] theorem slR_e (d : PyData) (a b : Option Int) (ρ : Rho) : slR (some d) a b ρ = retO (slD d a b) ρ := eqI rfl
@[simp] theorem ptR_e (i : Int) (ρ : Rho) : ptR (.dat (.int i)) ρ = some (.ok (some i) ρ) := eqI rfl
@[simp] theorem ptM_0 (ρ : Rho) : ptM none ρ = some (.ok none ρ) := eqI rfl
@[simp] theorem ptM_1 (f : EM) (ρ : Rho) : ptM (some f) ρ = bindO (f ρ) ptR := eqI rfl
@[simp] theorem slM_e (fe : EM) (lo hi : Option EM) (ρ : Rho) : slM fe lo hi ρ = bindO (fe ρ) fun r ρ1 => bindO (ptM lo ρ1) fun a ρ2 => bindO (ptM hi ρ2) fun b ρ3 => slR (val ρ3 r) a b ρ3 := by
  unfold slM
  congr 1
  funext r ρ1
  congr 1
  funext a ρ2
  congr 1
  funext b ρ3
  cases val ρ3 r with
  | none => rfl
  | some d => exact map_retO _ _
@[simp] theorem slD_l (ds : List PyData) (a b : Option Int) : slD (.list ds) a b = some (.own (.list (cutD ds a b))) := eqI rfl
@[simp] theorem slD_t (ds : List PyData) (a b : Option Int) : slD (.tuple ds) a b = some (.dat (.tuple (cutD ds a b))) := eqI rfl
theorem cut_to (xs : List PyData) {i : Int} (h : 0 ≤ i) : cutD xs none (some i) = xs.take i.toNat := by
  unfold cutD HT.sIx
  simp only [List.drop_zero, Nat.sub_zero]
  rw [if_neg (by omega)]
  by_cases c : i.toNat ≤ xs.length
  · rw [Nat.min_eq_left c]
  · rw [Nat.min_eq_right (by omega), List.take_length, List.take_of_length_le (by omega)]
theorem cut_from (xs : List PyData) {i : Int} (h : 0 ≤ i) : cutD xs (some i) none = xs.drop i.toNat := by
  unfold cutD HT.sIx
  simp only
  rw [if_neg (by omega)]
  by_cases c : i.toNat ≤ xs.length
  · rw [Nat.min_eq_left c, List.take_of_length_le (by rw [List.length_drop]; omega)]
  · rw [Nat.min_eq_right (by omega), List.drop_eq_nil_of_le (by omega : xs.length ≤ i.toNat), List.drop_length, List.take_nil]
@[simp] theorem cut_1 (x : PyData) (xs : List PyData) : cutD (x :: xs) (some 1) none = xs := by rw [cut_from _ (by decide)]; rfl
theorem foldl_snoc {α : Type} : ∀ (l acc : List α), l.foldl (fun A t => A ++ [t]) acc = acc ++ l
  | [], acc => by simp
  | x :: r, acc => by rw [List.foldl_cons, foldl_snoc r, List.append_assoc]; rfl
theorem foldl_snoc0 {α : Type} (l : List α) : l.foldl (fun A t => A ++ [t]) [] = l := by rw [foldl_snoc]; rfl
/-- a top and a bottom that fit into so many bits -/
structure Sp2 (k : Nat) (a b : Int) : Prop where
  n : a.natAbs < 2 ^ k
  p : 0 < b
  d : b.natAbs < 2 ^ k
theorem Sz.r {k : Nat} {q : Rat} (h : Sz k q) : Sp2 k q.num (q.den : Int) := ⟨h.n, q_pos q, by rw [Int.natAbs_natCast]; exact h.d⟩
theorem Sp2.of {k : Nat} {a b : Int} (h1 : 0 ≤ a) (h2 : a < 2 ^ k) (h3 : 0 < b) (h4 : b < 2 ^ k) : Sp2 k a b := ⟨natAbs_lt h1 h2, h3, natAbs_lt (by omega) h4⟩
theorem Sp2.lt {j k : Nat} {a b c d : Int} (h1 : Sp2 j a b) (h2 : Sp2 k c d) (l : j + k ≤ 8000) : b * d < 2 ^ 8000 := by
  obtain ⟨m, rfl⟩ := Int.eq_ofNat_of_zero_le (Int.le_of_lt h1.p)
  obtain ⟨n, rfl⟩ := Int.eq_ofNat_of_zero_le (Int.le_of_lt h2.p)
  have hm := h1.d
  have hn := h2.d
  rw [Int.natAbs_natCast] at hm hn
  have a := Nat.mul_lt_mul'' hm hn
  rw [← Nat.pow_add] at a
  have a := Nat.lt_of_lt_of_le a (Nat.pow_le_pow_right (show 0 < 2 by decide) l)
  have b : ((m * n : Nat) : Int) < ((2 ^ 8000 : Nat) : Int) := Int.ofNat_lt.mpr a
  rw [Int.natCast_mul, Int.natCast_pow] at b
  exact b
/-- the law's loop over its cells -/
theorem loopK {body : SM} {ns : List Int} (P : Rho → Prop) (hb : ∀ (k : Nat) (es : Rho), P es → ∃ e1 es', body (some (.dat (.list (ns.map .int))) :: some (.dat (.int k)) :: es) = some (.nx (some (.dat (.list (ns.map .int))) :: e1 :: es')) ∧ P es') (n : Nat) (e1 : Option R) (es : Rho) (h : P es) :
    ∃ e1' es', forL (gnM 1) body (rngL 0 n) (some (.dat (.list (ns.map .int))) :: e1 :: es) = some (.nx (some (.dat (.list (ns.map .int))) :: e1' :: es')) ∧ P es' := by
  obtain ⟨ρ', e, _, e1', es', rfl, h'⟩ := forL_inv (g := gnM 1) (body := body) (fun xs ρ => (∀ y ∈ xs, ∃ k : Nat, y = .int k) ∧ ∃ e1 es, ρ = some (.dat (.list (ns.map .int))) :: e1 :: es ∧ P es) (rngL 0 n) (some (.dat (.list (ns.map .int))) :: e1 :: es)
    ⟨fun x hx => by obtain ⟨k, _, rfl⟩ := rngL_mem hx; exact ⟨k, by rw [Int.zero_add]⟩, _, _, rfl, h⟩ (by
      rintro x r ρ ⟨hx, e1, es, rfl, h⟩
      obtain ⟨k, rfl⟩ := hx x (List.mem_cons_self ..)
      obtain ⟨e1', es', e, h'⟩ := hb k es h
      exact ⟨_, _, rfl, .inl e, fun y hy => hx y (List.mem_cons_of_mem _ hy), _, _, rfl, h'⟩)
  exact ⟨e1', es', e, h'⟩
/-- how often it turns -/
theorem turns_is {ns : List Int} {c : Int} (hc : 0 ≤ c ∧ c ≤ 100) : ∃ m : Nat, ∀ ρ, rg1 (.dat (.int (if (if c < ns.length then c else (ns.length : Int)) > 1 then (if c < ns.length then c else (ns.length : Int)) else 1))) ρ = some (.ok (rngL 0 m) ρ) :=
  ⟨_, fun ρ => rg1_is ρ (by split <;> split <;> omega) (by split <;> split <;> omega)⟩
end DL
namespace DL
open PySem PyProof.Rows
open L2 hiding Sp
open Builtin.SmallTypes (nextOf nextOrEnd)
def ipR (o : Option (List PyData)) (ρ : Rho) : Option (Oe (List PyData)) := match o with
  | some [d, e] => match itemsOf d, itemsOf e with
    | some xs, some ys => some (.ok (List.zipWith pairD xs ys) ρ)
    | _, _ => none
  | _ => none
def ipM (f : AM) : IM := fun ρ => bindO (f ρ) fun rs ρ1 => ipR (dats rs) ρ1
@[simp] theorem ipM_e (f : AM) (ρ : Rho) : ipM f ρ = bindO (f ρ) fun rs ρ1 => ipR (dats rs) ρ1 := eqI rfl
@[simp] theorem ipR_ll (xs ys : List PyData) (ρ : Rho) : ipR (some [.list xs, .list ys]) ρ = some (.ok (List.zipWith pairD xs ys) ρ) := eqI rfl
@[simp] theorem ipR_lt (xs ys : List PyData) (ρ : Rho) : ipR (some [.list xs, .tuple ys]) ρ = some (.ok (List.zipWith pairD xs ys) ρ) := eqI rfl
@[simp] theorem ipR_tl (xs ys : List PyData) (ρ : Rho) : ipR (some [.tuple xs, .list ys]) ρ = some (.ok (List.zipWith pairD xs ys) ρ) := eqI rfl
@[simp] theorem ipR_tt (xs ys : List PyData) (ρ : Rho) : ipR (some [.tuple xs, .tuple ys]) ρ = some (.ok (List.zipWith pairD xs ys) ρ) := eqI rfl
end DL
namespace DL
open PySem PyProof.Rows
open L2 hiding Sp
open AutoSeq1 (wpAny_loadPart')
def enumL (ds : List PyData) : List PyData := ds.mapIdx fun i d => .tuple [.int (i : Int), d]
def enR (o : Option PyData) (ρ : Rho) : Option (Oe (List PyData)) := match o with
  | some d => match itemsOf d with
    | some xs => some (.ok (enumL xs) ρ)
    | none => none
  | none => none
def enM (f : EM) : IM := fun ρ => bindO (f ρ) fun r ρ1 => bindF (frz ρ1 r) fun d ρ2 => enR (some d) ρ2
@[simp] theorem enM_e (f : EM) (ρ : Rho) : enM f ρ = bindO (f ρ) fun r ρ1 => bindF (frz ρ1 r) fun d ρ2 => enR (some d) ρ2 := eqI rfl
@[simp] theorem enR_l (xs : List PyData) (ρ : Rho) : enR (some (.list xs)) ρ = some (.ok (enumL xs) ρ) := eqI rfl
@[simp] theorem enR_t (xs : List PyData) (ρ : Rho) : enR (some (.tuple xs)) ρ = some (.ok (enumL xs) ρ) := eqI rfl
end DL
namespace DL
open PySem PyProof.Rows
open L2 hiding Sp
def popR (i : Nat) (r : R) (ρ : Rho) (o : Option (Option R)) : Option (Oe R) := match r, o with
  | .dat (.int k), some (some (.own (.list ds))) => if ds.length ≤ lim then match ixN ds.length k with
    | some j => match ds[j]? with
      | some d => some (.ok (.dat d) (ρ.set i (some (.own (.list (ds.eraseIdx j))))))
      | none => none
    | none => none
    else none
  | _, _ => none
def popM (i : Nat) (fe : EM) : EM := fun ρ => if isList ρ[i]? = true then bindO (fe ρ) fun r ρ1 => popR i r ρ1 ρ1[i]? else none
@[simp] theorem popM_e (i : Nat) (fe : EM) (ρ : Rho) : popM i fe ρ = pick (isList ρ[i]?) (fun ρ => bindO (fe ρ) fun r ρ1 => popR i r ρ1 ρ1[i]?) (fun _ => none) ρ := eqI rfl
theorem DFs.eraseIdx {K : PySem.W.Frag} {H : Hp} {F : Addr → Prop} : ∀ {vs : List V} {ds : List PyData} (i : Nat), DFs K H F vs ds → DFs K H F (vs.eraseIdx i) (ds.eraseIdx i)
  | _, _, _, .nil => .nil
  | _, _, 0, .cons _ b => b
  | _, _, i + 1, .cons a b => .cons a (DFs.eraseIdx i b)
def clrM (i : Nat) : SM := fun ρ => if isList ρ[i]? = true then some (.nx (ρ.set i (some (.own (.list []))))) else none
@[simp] theorem clrM_e (i : Nat) (ρ : Rho) : clrM i ρ = pick (isList ρ[i]?) (fun ρ => some (.nx (ρ.set i (some (.own (.list [])))))) (fun _ => none) ρ := eqI rfl
/-- whether a thing is this key -/
def keq : PyData → PyData → Bool
  | .int i, .int j => decide (i = j)
  | .str x, .str y => decide (x = y)
  | _, _ => false
def isKey : PyData → Bool
  | .int _ => true
  | .str _ => true
  | _ => false
/-- what stands at a key -/
def atK : List (PyData × PyData) → PyData → Option PyData
  | [], _ => none
  | (k, d) :: r, y => if keq k y = true then some d else atK r y
theorem keq_kD (k j : Key) : keq (kD k) (kD j) = decide (k = j) := by
  cases k <;> cases j <;> simp [keq, kD]
theorem isKey_ex {d : PyData} (h : isKey d = true) : ∃ k, d = kD k := by
  cases d with
  | int i => exact ⟨.inl i, rfl⟩
  | str x => exact ⟨.inr x, rfl⟩
  | _ => cases h
theorem kD_vw {T : Tb} {H : Hp} {F : Reg} {v : V} {k : Key} (h : Vw T H F v (kD k)) : v = kV k := by
  cases k with
  | inl i => exact h.int
  | inr x => exact h.str
theorem atK_dfk {K : PySem.W.Frag} {H : Hp} {F : Reg} (k : Key) : ∀ {ks : List (Key × V)} {ds : List (PyData × PyData)} {d : PyData}, DFk K H F ks ds → atK ds (kD k) = some d → ∃ v, valV ks k = some v ∧ DF K H F v d
  | _, _, _, .nil, h => by cases h
  | _, _, d, .cons (k := k') (v := v) a b, h => by
    unfold atK at h
    rw [keq_kD] at h
    by_cases e : k' = k
    · rw [if_pos (by simpa using e)] at h
      cases h
      exact ⟨v, valV_pos (p := (k', v)) e, a⟩
    · rw [if_neg (by simpa using e)] at h
      obtain ⟨u, h1, h2⟩ := atK_dfk k b h
      exact ⟨u, by rw [valV_neg (p := (k', v)) e]; exact h1, h2⟩
theorem atK_dft {K : PySem.W.Frag} {H : Hp} {F : Reg} (k : Key) : ∀ {ks : List Ent} {ds : List (PyData × PyData)}, DFt K H F ks ds → atK ds (kD k) = none
  | _, _, .nil => rfl
  | _, _, .cons _ _ a b => by
    unfold atK
    rw [if_neg (by cases k <;> simp [keq, kT, kD])]
    exact atK_dft k b
def rIxK : R2 := fun x y H Q => ∃ a kvs k v, x = .ref a ∧ Rd H a (.dK kvs) ∧ y = kV k ∧ valV kvs k = some v ∧ Q v H
theorem ix_dK {X : Cx} : IxR X rIxK := by
  intro value slice pins s σ H x y v u Q I rx ry h hs
  obtain ⟨a, kvs, k, r, rfl, e, rfl, l, q⟩ := h
  obtain rfl : v = Value.ref a := rx
  obtain ⟨z, hd, vs, rel, dd⟩ := dk_rd I.hok e
  obtain ⟨w', hw, rw'⟩ := RelO.some_of (v := r) (o := valueAt vs k) (by have h := rel.val k; rw [l] at h; exact h)
  exact tail_any dd.typeIs slot_dict_getitem.lookup (wpAny_getItem_of (kV_is ry) dd.mapOf hw ⟨r, H, I.tok _, rw', q⟩) hs
/-- an item of a list, tuple, text or dict -/
def dIxA : PyData → PyData → Option R
  | .dict ds, y => if isKey y = true then (atK ds y).map R.dat else none
  | d, e => dIx d e
@[simp] theorem dIxA_l (xs : List PyData) (i : Int) : dIxA (.list xs) (.int i) = (atI xs i).map R.dat := eqI rfl
@[simp] theorem dIxA_t (xs : List PyData) (i : Int) : dIxA (.tuple xs) (.int i) = (atI xs i).map R.dat := eqI rfl
@[simp] theorem dIxA_s (x : Str) (i : Int) : dIxA (.str x) (.int i) = dIx (.str x) (.int i) := eqI rfl
@[simp] theorem dIxA_ds (ds : List (PyData × PyData)) (x : Str) : dIxA (.dict ds) (.str x) = (atK ds (.str x)).map R.dat := eqI rfl
@[simp] theorem dIxA_di (ds : List (PyData × PyData)) (x : Int) : dIxA (.dict ds) (.int x) = (atK ds (.int x)).map R.dat := eqI rfl
theorem does_ixA {T : Tb} : Does2 T (fun x y H Q => rIx T.K x y H Q ∨ rIxK x y H Q) dIxA := by
  intro x y d e z H F Q lv hx hy hg hq
  unfold dIxA at hg
  split at hg
  · split at hg
    · rename_i ds hk
      obtain ⟨k, rfl⟩ := isKey_ex hk
      obtain ⟨d', e1, e2⟩ := Option.map_eq_some_iff.mp hg
      subst e2
      obtain ⟨a, rfl, ⟨ks, h1, s1⟩ | ⟨o, ks, h1, _, s1⟩⟩ := hx.dctA
      · obtain ⟨v, e3, h3⟩ := atK_dfk k s1 e1
        exact .inr ⟨a, ks, k, v, rfl, h1, kD_vw hy, e3, hq _ H F .refl h3⟩
      · rw [atK_dft k s1] at e1
        cases e1
    · cases hg
  · exact .inl (does_ix x y d e z H F Q lv hx hy hg hq)
section
variable {X : Cx} {T : Tb} {W : WX} {n : Nat} {a b : Expr} {fa fb : EM} {pos : Pos}
theorem e_ixA (c : Cxt X T W n) (ha : SE X T W a fa) (hb : SE X T W b fb) (hs : PlainIx b := by exact fun _ _ => rfl) : SE X T W (.Subscript a b pos) (op2M dIxA fa fb) :=
  se_ix ((c.hK ▸ ix_seq (X := X)).or ix_dK) does_ixA hs ha hb
end
/-- all keys apart -/
def apartK : List (PyData × PyData) → Bool
  | [] => true
  | (k, _) :: r => isKey k && (r.all fun p => !keq k p.1) && apartK r
def prR (rk : R) (o : Option (PyData × Rho)) (k : PyData → PyData → Rho → Option (Oe (List (PyData × PyData)))) : Option (Oe (List (PyData × PyData))) := match rk, o with
  | .dat kd, some (d, ρ) => if isKey kd = true then k kd d ρ else none
  | _, _ => none
@[simp] theorem prR_s (x : Str) (d : PyData) (ρ : Rho) (k : PyData → PyData → Rho → Option (Oe (List (PyData × PyData)))) : prR (.dat (.str x)) (some (d, ρ)) k = k (.str x) d ρ := eqI rfl
@[simp] theorem prR_i (x : Int) (d : PyData) (ρ : Rho) (k : PyData → PyData → Rho → Option (Oe (List (PyData × PyData)))) : prR (.dat (.int x)) (some (d, ρ)) k = k (.int x) d ρ := eqI rfl
def prsM : List (EM × EM) → Rho → Option (Oe (List (PyData × PyData)))
  | [], ρ => some (.ok [] ρ)
  | (fk, fv) :: r, ρ => bindO (fk ρ) fun rk ρ1 => bindO (fv ρ1) fun rv ρ2 => prR rk (frz ρ2 rv) fun kd d ρ3 => bindO (prsM r ρ3) fun ps ρ4 => some (.ok ((kd, d) :: ps) ρ4)
@[simp] theorem prsM_0 (ρ : Rho) : prsM [] ρ = some (.ok [] ρ) := eqI rfl
@[simp] theorem prsM_c (fk fv : EM) (r : List (EM × EM)) (ρ : Rho) : prsM ((fk, fv) :: r) ρ = bindO (fk ρ) fun rk ρ1 => bindO (fv ρ1) fun rv ρ2 => prR rk (frz ρ2 rv) fun kd d ρ3 => bindO (prsM r ρ3) fun ps ρ4 => some (.ok ((kd, d) :: ps) ρ4) := eqI rfl
def dctR (ps : List (PyData × PyData)) (ρ : Rho) : Option (Oe R) := if apartK ps = true ∧ ps.length ≤ 15 then some (.ok (.own (.dict ps)) ρ) else none
def dctM (l : List (EM × EM)) : EM := fun ρ => bindO (prsM l ρ) dctR
@[simp] theorem dctM_e (l : List (EM × EM)) (ρ : Rho) : dctM l ρ = bindO (prsM l ρ) dctR := eqI rfl
/-- the pairs in the run -/
inductive Prs (T : Tb) (H : Hp) (F : Reg) : List (Key × V) → List (PyData × PyData) → Prop where
  | nil : Prs T H F [] []
  | cons {k : Key} {v : V} {d : PyData} {vs : List (Key × V)} {ds : List (PyData × PyData)} : DF T.K H F v d → Prs T H F vs ds → Prs T H F ((k, v) :: vs) ((kD k, d) :: ds)
section
variable {X : Cx} {T : Tb} {W : WX} {n : Nat}
/-- pieces and readings of the pairs -/
inductive Rdg (X : Cx) (T : Tb) (W : WX) (pos : Pos) : List (Option Expr) → List Expr → List (EM × EM) → List (TE × TE) → Prop where
  | nil : Rdg X T W pos [] [] [] []
  | cons {k v : Expr} {ks : List (Option Expr)} {vs : List Expr} {fk fv : EM} {l : List (EM × EM)} {ts : List (TE × TE)} : SE X T W k fk → SE X T W v fv → Rdg X T W pos ks vs l ts → Rdg X T W pos (some k :: ks) (v :: vs) ((fk, fv) :: l) ((Tof T W (tlE T) fk, Tof T W (tlE T) fv) :: ts)
theorem Rdg.all {pos : Pos} : ∀ {ks : List (Option Expr)} {vs : List Expr} {l : List (EM × EM)} {ts : List (TE × TE)}, Rdg X T W pos ks vs l ts → ks.all (·.isSome) = true ∧ ks.length = vs.length ∧ ks.length = l.length
  | _, _, _, _, .nil => ⟨rfl, rfl, rfl⟩
  | _, _, _, _, .cons a b c => by obtain ⟨h1, h2, h3⟩ := c.all; simp [h1, h2, h3]; omega
theorem DFk.of {H : Hp} {F : Reg} : ∀ {kvs : List (Key × V)} {ds : List (PyData × PyData)}, Prs T H F kvs ds → DFk T.K H F kvs ds
  | _, _, .nil => .nil
  | _, _, .cons a b => .cons a (DFk.of b)
theorem Prs.mono {H H' : Hp} {F F' : Reg} (k : Kept F H H') (g : ∀ b, F b → F' b) : ∀ {kvs : List (Key × V)} {ds : List (PyData × PyData)}, Prs T H F kvs ds → Prs T H' F' kvs ds
  | _, _, .nil => .nil
  | _, _, .cons a b => .cons (a.mono k g) (Prs.mono k g b)
theorem Prs.len {H : Hp} {F : Reg} : ∀ {kvs : List (Key × V)} {ds : List (PyData × PyData)}, Prs T H F kvs ds → kvs.length = ds.length
  | _, _, .nil => rfl
  | _, _, .cons _ b => by rw [List.length_cons, List.length_cons, Prs.len b]
end
end DL
namespace DL
open PySem PyProof.Rows
open L2 hiding Sp
def minL : List Int → Int
  | [] => 0
  | [x] => x
  | x :: r => if x ≤ minL r then x else minL r
def insI (x : Int) : List Int → List Int
  | [] => [x]
  | y :: r => if x ≤ y then x :: y :: r else y :: insI x r
def sortI : List Int → List Int
  | [] => []
  | x :: r => insI x (sortI r)
def sortD : PyData → Option R
  | .list ds => (intsOf ds).map fun ns => .own (.list ((sortI ns).map PyData.int))
  | _ => none
@[simp] theorem sortD_l (ns : List Int) : sortD (.list (ns.map PyData.int)) = some (.own (.list ((sortI ns).map PyData.int))) := by
  show (intsOf _).map _ = _
  rw [intsOf_map]
  rfl
section
variable {X : Cx} {T : Tb} {W : WX} {n : Nat} {N : List Str} {sc : Scope} {e d : Expr} {f : AM} {pos p : Pos}
def dict0M : EM := fun ρ => some (.ok (.own (.dict [])) ρ)
@[simp] theorem dict0M_e (ρ : Rho) : dict0M ρ = some (.ok (.own (.dict [])) ρ) := eqI rfl
theorem e_dict0 (c : Cxt X T W n) : SE X T W (.Dict [] [] pos) dict0M :=
  pe_imp pe_dnewK fun σ H Q ⟨ρ, F, O, E, P⟩ => fun p hp => P (.ref p) _ F O (.laid hp) (E.laid hp) ⟨p, rfl, hp, fun q => E.lv p q hp, E.ne_new hp, .inl ⟨[], upd_same, .nil⟩⟩
end
end DL
namespace DL
open PySem PyProof.Rows
open L2 hiding Sp
open AutoSeq1 (wpAny_loadPart')
end DL
namespace DL
open PySem PyProof.Rows
open L2 hiding Sp
theorem fn_gD {T : Tb} {P : Program} {w : World} {K : PySem.W.Frag} {mg : Str → Option Value} {base : Heap} {k n : Nat} {x qual : Str} {st : Stmt} {f : Addr} {fd : FuncData} {N ps : List Str} {pr : Nat → Bool} {m : SM} {dvs : List V} {kws : List (Str × V)} (G : FunD K x qual (defArgs st) (defBody st) (defScope st) dvs kws f fd) (S : FnScope N ps (defScope st)) (hn : ps.length = n)
    (hK : K = T.K) (hw : w = T.w) (hsm : base.get? sysModules ≠ none)
    (body : ∀ (X : Cx) (W : WX) (H : Hp), X.prog = P → X.w = w → X.K = K → X.mg = mg → X.base = base → X.N = N → X.env.scope = defScope st → X.env.scope.kind = .function → X.fn = (fun _ => true) → Cxt X T W k → SB X T W ⟨H, n, pr⟩ (defBody st) m) :
    FnG P w K mg base (k + 1) f fd ps (spOf T n (runD n N.length pr m)) := by
  have hN : n ≤ N.length := by
    have h := congrArg List.length S.pre
    rw [List.length_take] at h
    omega
  obtain ⟨oc, od, dV, kV, doc, pm, an, cdv, ct, osl, rfl, lk, hcd, _, _⟩ := G.ex
  refine ⟨fun vs H Q E ⟨_, _, _, hl, _⟩ => hl.trans hn.symm, ?_⟩
  intro A outer s H args us vs Q E hg hr e0 hb r hsp
  have hl : vs.length = ps.length := by obtain ⟨_, _, _, q, _⟩ := hsp; exact q.trans hn.symm
  have kin : K.In s.heap := e0.mod.kin.keeps fun b o e => (e0.bs b o e).1
  have lim : s.heap.NoLimit := e0.mod.nolimit.keeps fun b o e => (e0.bs b o e).1
  have kinds : ∀ y ∈ ps.zip us, (defScope st).names.lookup y.1 = some .local ∨ ((defScope st).names.lookup y.1 = some .cell ∧ ((cellsFrom (s.heap.objs.size + 1) (defScope st).names []).lookup y.1).isSome = true) := by
    rintro ⟨y, v⟩ hy
    exact (S.par y (List.of_mem_zip hy).1).imp id fun q => ⟨q, PySem.W.cellsFrom_some _ _ _ (.inl q)⟩
  refine codeAny_call_function hr.depth (kin _ _ lk) rfl S.co S.gen rfl (PySem.W.codeRec_of kin hcd) (hb _ _ _ _ ?_)
  refine wpAny_newFunctionEnv_cells S.kind kinds ?_
  rintro env rfl s1 ic
  refine ⟨lim.keeps ic.toInCall.keep, codeAny_func ?_⟩
  let X := cxOf (L2.CX P w) P w K mg base N qual (defScope st) f cdv A outer s H E
  have I : L2.Inv X [] (L2.start N vs) H s1 := inv_start S hr.hd e0 hl r ic
  have cx : Cxt X T (fun cls d _ H' => E cls d H') k := ⟨hK, hw, rfl, hr.deeper _, hg, takes_of rfl rfl rfl rfl, passes_of rfl, S.nd, hsm⟩
  have B := body X _ H rfl rfl rfl rfl rfl rfl rfl S.kind rfl cx
  refine wpAny_mono (B.run [] s1 (L2.start N vs) H _ I (body_of hN hsp)) ?_ fun _ _ z => z
  intro fl s' hs
  cases fl with
  | ret u =>
    obtain ⟨v, σ', H', J, rv, q⟩ := hs
    exact ⟨v, H', J.os, J.bare, J.base, J.hok, rv, q⟩
  | next =>
    obtain ⟨σ', H', J, q⟩ := hs
    exact ⟨.non, H', J.os, J.bare, J.base, J.hok, rfl, q⟩
  | brk =>
    obtain ⟨_, _, _, q⟩ := hs
    exact q.elim
  | cont =>
    obtain ⟨_, _, _, q⟩ := hs
    exact q.elim
/-- arguments, with the defaults behind them -/
def appA (fa : AM) (dds : List PyData) : AM := fun ρ => bindO (fa ρ) fun rs ρ1 => some (.ok (rs ++ dds.map R.dat) ρ1)
@[simp] theorem appA_e (fa : AM) (dds : List PyData) (ρ : Rho) : appA fa dds ρ = bindO (fa ρ) fun rs ρ1 => some (.ok (rs ++ dds.map R.dat) ρ1) := eqI rfl
section
variable {X : Cx} {T : Tb} {W : WX} {x : Str} {k n m : Nat} {sem : Sem} {e : Expr} {es : List Expr} {fa : AM} {p pos : Pos} {dds : List PyData} {N : List Str} {sc : Scope}
theorem resRs_app {H0 H : Hp} {F : Reg} {O : Ows} {σ : L2.St} {dvs : List V} (hd : DFs T.K H F dvs dds) : ∀ {vs : List V} {rs : List R}, ResRs T H0 H F O σ vs rs → ResRs T H0 H F O σ (vs ++ dvs) (rs ++ dds.map R.dat)
  | _, _, .nil => by
    have key : ∀ {dvs : List V} {dds : List PyData}, DFs T.K H F dvs dds → ResRs T H0 H F O σ dvs (dds.map R.dat) := by
      intro dvs dds hd
      induction dvs generalizing dds with
      | nil => cases hd; exact .nil
      | cons v r ih => cases hd with
        | cons a b => exact .cons a (ih b)
    exact key hd
  | _, _, .cons a b => .cons a (resRs_app hd b)
end
theorem funD_mk {K : PySem.W.Frag} {x qual : Str} {st : Stmt} {f tD : Addr} {oc : Value} {od an : Option Addr} {osl : Array (Option Value)} {kV doc pm cdv ct : Value} {o : Obj} {its : List Value} {n : Nat} {dvs : List V} (l : K.lookup f = some ⟨oc, od, .func (PySem.W.fnOf x qual (defArgs st) (defBody st) (defScope st) (.ref tD) kV doc pm an cdv ct), osl⟩)
    (c : PySem.W.codeIn K cdv qual = true) (k : PySem.W.keepIn K (.ref f) = true) (lT : K.lookup tD = some o) (oT : o.data = .seq its.toArray n) (hv : Vals dvs its) (hne : dvs ≠ []) : FunD K x qual (defArgs st) (defBody st) (defScope st) dvs [] f (PySem.W.fnOf x qual (defArgs st) (defBody st) (defScope st) (.ref tD) kV doc pm an cdv ct) :=
  ⟨⟨oc, od, .ref tD, kV, doc, pm, an, cdv, ct, osl, rfl, l, c, .inr ⟨hne, tD, o, its, n, rfl, lT, oT, hv⟩, .inl rfl⟩, k⟩
theorem binds_nil {K : PySem.W.Frag} {fd : FuncData} {ps : List Str} {dvs : List V} (h : ∃ ds, Vals dvs ds ∧ Binds K fd ps ds) (e : dvs = []) : Binds K fd ps [] := by
  obtain ⟨ds, hv, hb⟩ := h
  subst e
  cases hv
  exact hb
end DL
namespace DL
open PySem PySem.Spec PyProof.Rows
open L2 hiding Sp
def celB (sc : Scope) (ts : List Expr) : Bool :=
  (ts.filterMap fun
    | .Name id pos => if sc.names.lookup id == some .local && pos.line == (ts.head?.map (·.pos.line)).getD 0 then some id else none
    | _ => none).length != ts.length
theorem swap_cel {X : Cx} {N : List Str} {sc : Scope} {ts vs : List Expr} {k k2 : Nat} {p p2 : Pos} (a : At X N sc) (h : celB sc ts = true) : swappedStores [.Tuple ts k p] (.Tuple vs k2 p2) X.env = pure none := by
  have h' : ((ts.filterMap fun
    | .Name id pos => if X.env.kindOf id == some .local && pos.line == (ts.head?.map (·.pos.line)).getD 0 then some id else none
    | _ => none).length != ts.length) = true := by
    have e : ∀ id, X.env.kindOf id = sc.names.lookup id := fun id => by show X.env.scope.names.lookup id = _; rw [a.hs]
    simp only [e]
    exact h
  unfold swappedStores
  simp only [Bool.true_or]
  repeat (first | rfl | exact absurd (Bool.or_eq_true_iff.mpr (.inl h')) (by assumption) | split)
def boolOf : PyData → Option Bool
  | .bool b => some b
  | _ => none
def dIsB (d e : PyData) : Option R := match e with
  | .bool b => some (.dat (.bool (boolOf d == some b)))
  | _ => dIsN d e
def dNotB (d e : PyData) : Option R := match e with
  | .bool b => some (.dat (.bool (!(boolOf d == some b))))
  | _ => dNotN d e
@[simp] theorem dIsB_b (b c : Bool) : dIsB (.bool b) (.bool c) = some (.dat (.bool (b == c))) := by
  show some (R.dat (.bool (some b == some c))) = _
  rw [show (some b == some c) = (b == c) from rfl]
@[simp] theorem dNotB_b (b c : Bool) : dNotB (.bool b) (.bool c) = some (.dat (.bool (!(b == c)))) := by
  show some (R.dat (.bool (!(some b == some c)))) = _
  rw [show (some b == some c) = (b == c) from rfl]
def revD : PyData → Option R
  | .list ds => some (.own (.list ds.reverse))
  | .tuple ds => some (.dat (.tuple ds.reverse))
  | _ => none
@[simp] theorem revD_l (ds : List PyData) : revD (.list ds) = some (.own (.list ds.reverse)) := eqI rfl
@[simp] theorem revD_t (ds : List PyData) : revD (.tuple ds) = some (.dat (.tuple ds.reverse)) := eqI rfl
def pairOf : PyData → Option (Int × Int)
  | .tuple [.int a, .int b] => some (a, b)
  | _ => none
def pairsOf : List PyData → Option (List (Int × Int))
  | [] => some []
  | d :: r => match pairOf d, pairsOf r with
    | some p, some q => some (p :: q)
    | _, _ => none
def prD (p : Int × Int) : PyData := .tuple [.int p.1, .int p.2]
/-- ahead of, or the same -/
def leP (p q : Int × Int) : Bool := decide (p.1 * 4096 + p.2 ≤ q.1 * 4096 + q.2)
def insP (x : Int × Int) : List (Int × Int) → List (Int × Int)
  | [] => [x]
  | y :: r => if leP x y = true then x :: y :: r else y :: insP x r
def sortP : List (Int × Int) → List (Int × Int)
  | [] => []
  | x :: r => insP x (sortP r)
def bdP (p : Int × Int) : Bool := decide (0 ≤ p.1 ∧ p.1 < 4096 ∧ 0 ≤ p.2 ∧ p.2 < 4096)
def sortAD : PyData → Option R
  | .list ds => match intsOf ds with
    | some ns => some (.own (.list ((sortI ns).map PyData.int)))
    | none => match pairsOf ds with
      | some ps => if ps.length < 64 ∧ ps.all bdP = true then some (.own (.list ((sortP ps).map prD))) else none
      | none => none
  | _ => none
@[simp] theorem sortAD_l (ns : List Int) : sortAD (.list (ns.map PyData.int)) = some (.own (.list ((sortI ns).map PyData.int))) := by
  unfold sortAD
  simp only [intsOf_map]
end DL
namespace DL
open PySem PySem.Spec PyProof.Rows
open L2 hiding Sp
end DL
namespace DL
open PySem PySem.Spec PyProof.Rows
open L2 hiding Sp
def ch3M (g g' g'' : PyData → PyData → Option R) (fa fb fc fd : EM) : EM := fun ρ => bindO (fa ρ) fun r ρ1 => bindO (fb ρ1) fun s ρ2 => chR2 g (val ρ2 r) (val ρ2 s) (fun ρ => bindO (fc ρ) fun t ρ3 => chR2 g' (val ρ3 s) (val ρ3 t) (fun ρ => bindO (fd ρ) fun u ρ4 => op2R g'' ρ4 (val ρ4 t) (val ρ4 u)) ρ3) ρ2
@[simp] theorem ch3M_e (g g' g'' : PyData → PyData → Option R) (fa fb fc fd : EM) (ρ : Rho) : ch3M g g' g'' fa fb fc fd ρ = bindO (fa ρ) fun r ρ1 => bindO (fb ρ1) fun s ρ2 => chR2 g (val ρ2 r) (val ρ2 s) (fun ρ => bindO (fc ρ) fun t ρ3 => chR2 g' (val ρ3 s) (val ρ3 t) (fun ρ => bindO (fd ρ) fun u ρ4 => op2R g'' ρ4 (val ρ4 t) (val ρ4 u)) ρ3) ρ2 := eqI rfl
end DL
namespace DL
open PySem PySem.Spec PyProof.Rows
open L2 hiding Sp
def rEqE (K : PySem.W.Frag) : R2 := fun x y H Q => (∃ a b xs, x = .ref a ∧ y = .ref b ∧ SqL K H a xs ∧ SqL K H b [] ∧ Q (.bl xs.isEmpty) H) ∨ ∃ a b xs, x = .ref a ∧ y = .ref b ∧ SqT K H a xs ∧ SqT K H b [] ∧ Q (.bl xs.isEmpty) H
theorem vals_nil {us : List Value} (h : Vals [] us) : us = [] := by cases h; rfl
theorem tup_of {h : Heap} {t : Addr} {items : Array Value} (x : IsTup h t items) : h.IsTuple t items := x
theorem op_eqE {X : Cx} (hu : X.A.units < cLine) : OpR X (compareOp .Eq) (rEqE X.K) := by
  intro pins s σ H x y v u Q I rx ry h
  rcases h with ⟨a, b, xs, rfl, rfl, h1, h2, q⟩ | ⟨a, b, xs, rfl, rfl, h1, h2, q⟩
  · cases rx
    cases ry
    obtain ⟨its, r1, p1, _⟩ := I.list h1
    obtain ⟨its2, r2, p2, _⟩ := I.list h2
    rw [vals_nil r2] at p2
    have e : xs.isEmpty = its.isEmpty := by cases r1 <;> rfl
    cases its with
    | nil => exact PySem.SeqAt.eq_listAt (e := fun _ => true) p1.isList p2.isList rfl hu (fun j h _ => absurd h (Nat.not_lt_zero _)) (fin_bl I q (by rw [e]; rfl))
    | cons z r => exact PySem.SeqAt.eq_list_lengthsAt p1.isList p2.isList (by simp) hu (fin_bl I q (by rw [e]; rfl))
  · cases rx
    cases ry
    obtain ⟨its, r1, p1, _⟩ := I.tuple h1
    obtain ⟨its2, r2, p2, _⟩ := I.tuple h2
    rw [vals_nil r2] at p2
    have e : xs.isEmpty = its.isEmpty := by cases r1 <;> rfl
    refine PySem.SeqAt.eq_tupleAt (e := fun _ => true) (items2 := #[]) (tup_of p1) (tup_of p2) hu (fun j _ h => absurd h (Nat.not_lt_zero _)) (fin_bl I q ?_)
    rw [e]
    cases its <;> simp
def dEqE : PyData → PyData → Option R
  | .list ds, .list [] => some (.dat (.bool ds.isEmpty))
  | .tuple ds, .tuple [] => some (.dat (.bool ds.isEmpty))
  | d, e => dEq d e
@[simp] theorem dEqE_l (ds : List PyData) : dEqE (.list ds) (.list []) = some (.dat (.bool ds.isEmpty)) := eqI rfl
@[simp] theorem dEqE_t (ds : List PyData) : dEqE (.tuple ds) (.tuple []) = some (.dat (.bool ds.isEmpty)) := eqI rfl
theorem dfs_emp {K : PySem.W.Frag} {H : Hp} {F : Reg} {vs : List V} {ds : List PyData} (h : DFs K H F vs ds) : vs.isEmpty = ds.isEmpty := by cases h <;> rfl
theorem dfs_nil {K : PySem.W.Frag} {H : Hp} {F : Reg} {vs : List V} (h : DFs K H F vs []) : vs = [] := by cases h; rfl
theorem does_eqE {X : Cx} {T : Tb} (hu : X.A.units + 64 < cLine) : Does2 T (fun x y H Q => rEqE T.K x y H Q ∨ (rEq x y H Q ∨ rEqD T.K x y H Q)) dEqE := by
  intro x y d e z H F Q lv hx hy hg hq
  unfold dEqE at hg
  split at hg
  · rename_i ds
    cases hg
    obtain ⟨a, vs, rfl, h1, s1⟩ := hx.lst
    obtain ⟨b, us, rfl, h2, s2⟩ := hy.lst
    rw [dfs_nil s2] at h2
    exact .inl (.inl ⟨a, b, vs, rfl, rfl, h1.sq, h2.sq, by rw [dfs_emp s1]; exact hq _ H F .refl (.bl _)⟩)
  · rename_i ds
    cases hg
    obtain ⟨a, vs, rfl, h1, s1⟩ := hx.tup
    obtain ⟨b, us, rfl, h2, s2⟩ := hy.tup
    rw [dfs_nil s2] at h2
    exact .inl (.inr ⟨a, b, vs, rfl, rfl, h1, h2, by rw [dfs_emp s1]; exact hq _ H F .refl (.bl _)⟩)
  · exact .inr (does_eq x y _ _ z H F Q lv hx hy hg hq)
section
variable {X : Cx} {T : Tb} {W : WX} {n : Nat} {a b : Expr} {fa fb : EM} {pos : Pos}
theorem ops_eqE (c : Cxt X T W n) : OpR X (compareOp .Eq) (fun x y H Q => rEqE T.K x y H Q ∨ (rEq x y H Q ∨ rEqD T.K x y H Q)) := (c.hK ▸ op_eqE (X := X) (by have := c.room.units; omega)).or (op_eq.or (c.hK ▸ op_eqD c.room.units))
theorem t_eqE (c : Cxt X T W n) (ha : SE X T W a fa) (hb : SE X T W b fb) : ST X T W (.Compare a [.Eq] [b] pos) (tsM (op2M dEqE fa fb)) := st_cmp (ops_eqE c) (does_eqE (X := X) c.room.units) ha hb (nomark _)
end
end DL
namespace DL
open PySem PySem.Spec PyProof.Rows
open L2 hiding Sp
def lrR (r : R) (ρ : Rho) : Option (Oe R) := match r with
  | .dat (.int n) => if 0 ≤ n ∧ n ≤ 1000 then some (.ok (.own (.list (rngL 0 n.toNat))) ρ) else none
  | _ => none
def lrM (f : EM) : EM := fun ρ => bindO (f ρ) lrR
@[simp] theorem lrM_e (f : EM) (ρ : Rho) : lrM f ρ = bindO (f ρ) lrR := eqI rfl
end DL
namespace DL
open PySem PyProof.Rows
open L2 hiding Sp
/-- the same text, while an exception is held -/
def Tb.at (T : Tb) (a : Addr) (c : Nat) (d : Option Addr) : Tb := { T with hot := some (a, c, d) }
/-- nothing is held any more -/
def coolR : Option R → Option R
  | some (.ex _ _) => none
  | x => x
def cool (i : Nat) (ρ : Rho) : Rho := (ρ.set i none).map coolR
def isEx : R → Bool
  | .ex _ _ => true
  | _ => false
@[simp] theorem coolR_d (d : PyData) : coolR (some (.dat d)) = some (.dat d) := eqI rfl
@[simp] theorem coolR_o (d : PyData) : coolR (some (.own d)) = some (.own d) := eqI rfl
@[simp] theorem coolR_x (c : Nat) (fs : List PyData) : coolR (some (.ex c fs)) = none := eqI rfl
@[simp] theorem coolR_ob (d : OD) : coolR (some (.obj d)) = some (.obj d) := eqI rfl
@[simp] theorem coolR_n : coolR none = none := eqI rfl
@[simp] theorem coolR_f (k : Nat) : coolR (some (.fn k)) = some (.fn k) := eqI rfl
@[simp] theorem coolR_t (xs : List Int) : coolR (some (.st xs)) = some (.st xs) := eqI rfl
/-- what a suite's end is behind it -/
def coolS (i : Nat) : Option Ot → Option Ot
  | some (.nx ρ) => some (.nx (cool i ρ))
  | some (.bk ρ) => some (.bk (cool i ρ))
  | some (.ct ρ) => some (.ct (cool i ρ))
  | some (.rt r ρ) => if isEx r = true then none else some (.rt r (cool i ρ))
  | _ => none
/-- try: fb, except X as slot i: fh; mt: which classes X takes -/
def tryR (mt : Nat → Option Bool) (i : Nat) (fh : SM) : Option Ot → Option Ot
  | some (.er c fs ρ1) => match mt c with
    | some true => coolS i (fh (ρ1.set i (some (.ex c fs))))
    | some false => some (.er c fs ρ1)
    | none => none
  | o => o
def tryM (mt : Nat → Option Bool) (i : Nat) (fb fh : SM) : SM := fun ρ => tryR mt i fh (fb ρ)
@[simp] theorem tryM_e (mt : Nat → Option Bool) (i : Nat) (fb fh : SM) (ρ : Rho) : tryM mt i fb fh ρ = tryR mt i fh (fb ρ) := eqI rfl
@[simp] theorem tryR_nx (mt : Nat → Option Bool) (i : Nat) (fh : SM) (ρ : Rho) : tryR mt i fh (some (.nx ρ)) = some (.nx ρ) := eqI rfl
@[simp] theorem tryR_rt (mt : Nat → Option Bool) (i : Nat) (fh : SM) (r : R) (ρ : Rho) : tryR mt i fh (some (.rt r ρ)) = some (.rt r ρ) := eqI rfl
@[simp] theorem coolS_nx (i : Nat) (ρ : Rho) : coolS i (some (.nx ρ)) = some (.nx (cool i ρ)) := eqI rfl
theorem coolS_rt {i : Nat} {r : R} (h : isEx r = false) (ρ : Rho) : coolS i (some (.rt r ρ)) = some (.rt r (cool i ρ)) := by
  show (if isEx r = true then _ else _) = _
  rw [h, if_neg Bool.false_ne_true]
@[simp] theorem coolS_rd (i : Nat) (d : PyData) (ρ : Rho) : coolS i (some (.rt (.dat d) ρ)) = some (.rt (.dat d) (cool i ρ)) := coolS_rt rfl ρ
/-- the frame's own facts -/
structure Fr (X : Cx) (qual : Str) (cd : Value) : Prop where
  stk : X.stack = X.env :: X.outer
  frm : X.env.frame = some X.env.locals
  ql : X.env.qual = qual ++ ".<locals>."
  cd : X.env.code = cd
end DL
namespace DL
open PySem PyProof.Rows
open L2 hiding Sp
/-- a call from which nothing is raised -/
def noEr : Option (Oe R) → Option (Oe R)
  | some (.er _ _ _) => none
  | o => o
@[simp] theorem noEr_ok (r : R) (ρ : Rho) : noEr (some (.ok r ρ)) = some (.ok r ρ) := eqI rfl
def semX (sem : Sem) : Sem := fun args => noEr (sem args)
@[simp] theorem semX_e (sem : Sem) (args : List R) : semX sem args = noEr (sem args) := eqI rfl
section
variable {X : Cx} {T : Tb} {W : WX} {x : Str} {k n m : Nat} {sem : Sem} {e : Expr} {es : List Expr} {fa : AM} {p pos : Pos} {a : Addr} {c : Nat} {d : Option Addr} {N : List Str} {sc : Scope}
def isER (tb : Nat → Option Bool) (r : R) (ρ : Rho) : Option (Oe R) := match r with
  | .ex c [] => match tb c with
    | some b => some (.ok (.dat (.bool b)) ρ)
    | none => none
  | _ => none
def isEM (tb : Nat → Option Bool) (fe : EM) : EM := fun ρ => bindO (fe ρ) fun r ρ1 => isER tb r ρ1
@[simp] theorem isEM_e (tb : Nat → Option Bool) (fe : EM) (ρ : Rho) : isEM tb fe ρ = bindO (fe ρ) fun r ρ1 => isER tb r ρ1 := eqI rfl
end
def isLs : Option PyData → Bool
  | some (.list _) => true
  | _ => false
def lmM (g : PyData → PyData → Option R) (fo fe : EM) : EM := fun ρ => bindO (fo ρ) fun r ρ1 => pick (isLs (val ρ1 r)) (fun ρ1 => bindO (fe ρ1) fun s ρ2 => op2R g ρ2 (val ρ2 r) (val ρ2 s)) (fun _ => none) ρ1
@[simp] theorem lmM_e (g : PyData → PyData → Option R) (fo fe : EM) (ρ : Rho) : lmM g fo fe ρ = bindO (fo ρ) fun r ρ1 => pick (isLs (val ρ1 r)) (fun ρ1 => bindO (fe ρ1) fun s ρ2 => op2R g ρ2 (val ρ2 r) (val ρ2 s)) (fun _ => none) ρ1 := eqI rfl
@[simp] theorem isLs_l (ds : List PyData) : isLs (some (.list ds)) = true := eqI rfl
end DL
namespace DL
open PySem PyProof.Rows
open L2 hiding Sp
/-- all but tables stays, nothing goes -/
structure Grew (H H1 : Hp) : Prop where
  keep : ∀ b o, H b = some o → NT o → H1 b = some o
  live : ∀ b, H1 b = none → H b = none
theorem Grew.refl {H : Hp} : Grew H H := ⟨fun _ _ h _ => h, fun _ h => h⟩
theorem Grew.ext {s : Bool} {H H1 : Hp} {F : Reg} {O : Ows} (g : Grew H H1) : Ext s H F O H1 F O := ⟨fun b o h _ n => g.keep b o h n, g.live, fun _ h => h, fun _ h => .inl h, fun _ _ h => .inl h⟩
/-- the place of a piece where a lambda is made -/
structure LamC (X : Cx) (T : Tb) (c P : Addr) (q : Str) : Prop where
  tb : LamX.TabB X.base X.mg c P
  cd : X.env.code = .ref c
  ql : X.env.qual ++ "<lambda>" = q
  mem : (P, q) ∈ T.tb
  uni : ∀ p ∈ T.tb, p.1 = P → p.2 = q
theorem LamC.blk {X : Cx} {T : Tb} {c P : Addr} {q : Str} (l : LamC X T c P q) (s : Shared) (H : Hp) (scope : Scope) (cl : List (Str × Addr)) (C : Addr) (fp : List Addr) : LamC (X.blk s H scope (compEnvC scope cl C X.env) fp) T c P q := ⟨l.tb, l.cd, l.ql, l.mem, l.uni⟩
theorem LamC.of {X : Cx} {T : Tb} {c P : Addr} {x : Str} (fr : Fr X x (.ref c)) (tb : LamX.TabB X.base X.mg c P) (mem : (P, x ++ ".<locals>." ++ "<lambda>") ∈ T.tb) (uni : ∀ p ∈ T.tb, p.1 = P → p.2 = x ++ ".<locals>." ++ "<lambda>") : LamC X T c P (x ++ ".<locals>." ++ "<lambda>") :=
  ⟨tb, fr.cd, by rw [fr.ql], mem, uni⟩
def saidR (mt : Nat → Option Bool) (wd : Nat → List PyData → Option PyData) : Option (Oe R) → Option (Oe R)
  | some (.ok r ρ1) => bindF (frz ρ1 r) fun d ρ2 => some (.ok (.dat (.tuple [.str "told", d])) ρ2)
  | some (.er c fs ρ1) => match mt c with
    | some true => match wd c fs with
      | some d => some (.ok (.dat d) ρ1)
      | none => none
    | _ => none
  | none => none
def saidM (mt : Nat → Option Bool) (wd : Nat → List PyData → Option PyData) (fE : EM) : EM := fun ρ => saidR mt wd (fE ρ)
@[simp] theorem saidM_e (mt : Nat → Option Bool) (wd : Nat → List PyData → Option PyData) (fE : EM) (ρ : Rho) : saidM mt wd fE ρ = saidR mt wd (fE ρ) := eqI rfl
@[simp] theorem saidR_ok (mt : Nat → Option Bool) (wd : Nat → List PyData → Option PyData) (r : R) (ρ : Rho) : saidR mt wd (some (.ok r ρ)) = bindF (frz ρ r) fun d ρ2 => some (.ok (.dat (.tuple [.str "told", d])) ρ2) := eqI rfl
end DL
namespace DL
open PySem PyProof.Rows
open L2 hiding Sp
def noM : EM := fun _ => none
@[simp] theorem noM_e (ρ : Rho) : noM ρ = none := eqI rfl
def noS : SM := fun _ => none
@[simp] theorem noS_e (ρ : Rho) : noS ρ = none := eqI rfl
def pickR (sems : List Sem) (fa : AM) (ρ : Rho) (i : Option PyData) : Option (Oe R) := match i with
  | some (.int j) => match atI sems j with
    | some sem => callM sem fa ρ
    | none => none
  | _ => none
def pickM (sems : List Sem) (fi : EM) (fa : AM) : EM := fun ρ => bindO (fi ρ) fun r ρ1 => pickR sems fa ρ1 (val ρ1 r)
@[simp] theorem pickM_e (sems : List Sem) (fi : EM) (fa : AM) (ρ : Rho) : pickM sems fi fa ρ = bindO (fi ρ) fun r ρ1 => pickR sems fa ρ1 (val ρ1 r) := eqI rfl
section
variable {X : Cx} {T : Tb} {W : WX} {n k m : Nat} {N : List Str} {sc : Scope} {e b : Expr} {es ns : List Expr} {fi : EM} {fa : AM} {sems : List Sem} {pos p p2 : Pos}
/-- the defs at their places -/
inductive Pl (P : Program) (w : World) (mg : Str → Option Value) (base : Heap) (T : Tb) (k n : Nat) : List V → List Sem → Prop where
  | nil : Pl P w mg base T k n [] []
  | cons {f : Addr} {fd : FuncData} {ps : List Str} {sem : Sem} {j : Nat} {vs : List V} {sems : List Sem} : PySem.W.keepIn T.K (.ref f) = true → Binds T.K fd ps [] → ps.length = n → FnG P w T.K mg base j f fd ps (spOf T n sem) → j ≤ k → (∀ args o, sem args = some o → args.length = n) → Pl P w mg base T k n vs sems → Pl P w mg base T k n (.ref f :: vs) (sem :: sems)
theorem Pl.len {P : Program} {w : World} {mg : Str → Option Value} {base : Heap} : ∀ {vs : List V} {sems : List Sem}, Pl P w mg base T k n vs sems → vs.length = sems.length
  | _, _, .nil => rfl
  | _, _, .cons _ _ _ _ _ _ r => by rw [List.length_cons, List.length_cons, r.len]
theorem Pl.get {P : Program} {w : World} {mg : Str → Option Value} {base : Heap} : ∀ {vs : List V} {sems : List Sem} {i : Nat} {sem : Sem}, Pl P w mg base T k n vs sems → sems[i]? = some sem →
    ∃ f fd ps j, vs[i]? = some (.ref f) ∧ PySem.W.keepIn T.K (.ref f) = true ∧ Binds T.K fd ps [] ∧ ps.length = n ∧ FnG P w T.K mg base j f fd ps (spOf T n sem) ∧ j ≤ k ∧ ∀ args o, sem args = some o → args.length = n
  | _, _, _, _, .nil, e => by simp at e
  | _, _, 0, _, .cons a b c d e' g _, e => by simp at e; subst e; exact ⟨_, _, _, _, rfl, a, b, c, d, e', g⟩
  | _, _, i + 1, sem, .cons _ _ _ _ _ _ r, e => by
    obtain ⟨f, fd, ps, j, h⟩ := Pl.get (i := i) (sem := sem) r (by simpa using e)
    exact ⟨f, fd, ps, j, by simpa using h⟩
end
end DL
namespace DL
open PySem PyProof.Rows
open L2 hiding Sp
end DL
namespace DL
open PySem PySem.Spec PyProof.Rows
open L2 hiding Sp
def rg3 (i k : Int) (m : Nat) : List PyData := (List.range m).map fun (t : Nat) => .int (i + (t : Int) * k)
def lr3M (i k : Int) (m : Nat) : EM := fun ρ => some (.ok (.own (.list (rg3 i k m))) ρ)
@[simp] theorem lr3M_e (i k : Int) (m : Nat) (ρ : Rho) : lr3M i k m ρ = some (.ok (.own (.list (rg3 i k m))) ρ) := eqI rfl
end DL
namespace DL
open PySem PySem.Spec PyProof.Rows
open L2 hiding Sp
open PySem.W (alike alikeAll dataLt keyToks AllAlike Sortable dataLe KeyedOut EachIs)
def minDf (ns : List Int) (d : Int) : Int := if ns = [] then d else minL ns
/-- min(a, default=b) -/
def mdM (f g : EM) : EM := fun ρ => bindO (f ρ) fun r ρ1 => bindO (g ρ1) fun s ρ2 => match val ρ2 r, s with
  | some (.list ds), .dat (.int d) => (intsOf ds).map fun ns => .ok (.dat (.int (minDf ns d))) ρ2
  | _, _ => none
@[simp] theorem mdM_e (f g : EM) (ρ : Rho) : mdM f g ρ = bindO (f ρ) fun r ρ1 => bindO (g ρ1) fun s ρ2 => match val ρ2 r, s with
  | some (.list ds), .dat (.int d) => (intsOf ds).map fun ns => .ok (.dat (.int (minDf ns d))) ρ2
  | _, _ => none := eqI rfl
end DL
namespace DL
open PySem PySem.Spec PyProof.Rows
open L2 hiding Sp
theorem map_inl (k : List Int) : (k.map (Sum.inl : Int → Key)).map kV = k.map V.int := by rw [List.map_map]; rfl
theorem hash_ints {P P' : Program} {w w' : World} (k : List Int) : (tupleKind (mixKind P w)).hash (k.map Sum.inl) = (tupleKind (mixKind P' w')).hash (k.map Sum.inl) := by
  show tupleKeyHash (mixKind P w) _ = tupleKeyHash (mixKind P' w') _
  unfold tupleKeyHash
  rw [List.map_map, List.map_map]
  rfl
section
variable {X : Cx} {pins : List (Addr × Obj)} {σ : L2.St} {H : Hp} {s : Shared} {F : Reg}
theorem key_ofS (I : L2.Inv X pins σ H s) {q : Addr} {k : List Int} (e : SqT X.K H q (k.map V.int)) : (tupleKind (mixKind X.prog X.w)).is s.heap (k.map Sum.inl) q := by
  obtain ⟨its, rv, ⟨o, h1, h2, n, h3⟩, _⟩ := I.tuple e
  refine ⟨o, its.toArray, n, h1, h2, h3, ?_⟩
  rw [← map_inl] at rv
  simpa using items_are rv
theorem dft_is (I : L2.Inv X pins σ H s) : ∀ {xs : List Ent} {ds : List (PyData × PyData)}, DFt X.K H F xs ds → ∀ x ∈ xs, (tupleKind (mixKind X.prog X.w)).is s.heap x.1 x.2.1
  | _, _, .nil, x, h => by cases h
  | _, _, .cons q _ _ b, x, h => by
    rcases List.mem_cons.mp h with rfl | h
    · exact key_ofS I q
    · exact dft_is I b x h
/-- the library's view -/
theorem to_dict (I : L2.Inv X pins σ H s) {a : Addr} {o : Obj} {xs : List Ent} {ds : List (PyData × PyData)} (h : H a = some (DTo a o)) (e : EsOk a o xs) (d : DFt X.K H F xs ds) : s.heap.DictOfH (tupleKind (mixKind X.prog X.w)) a xs := by
  obtain ⟨es, ep, hd, he⟩ := e.es
  exact ⟨o, es, ep, (I.hok a _ h).1, e.ex, hd, he _ _, dft_is I d, e.nd⟩
theorem dTo_ok {P : Program} {w : World} {H : Hp} {h : Heap} {a : Addr} {o : Obj} (e : h.get? a = some o) : ObjOk P w H h a (DTo a o) :=
  ⟨e, ⟨o, e⟩, fun h1 h2 e1 k => k o e1⟩
end
/-- a key by a tuple of whole numbers -/
def keyT : PyData → Option (List Int)
  | .tuple ds => intsOf ds
  | _ => none
@[simp] theorem keyT_k (k : List Int) : keyT (kT k) = some k := by show intsOf _ = _; rw [intsOf_map]
theorem keyT_ex {d : PyData} {k : List Int} (h : keyT d = some k) : d = kT k := by
  unfold keyT at h
  split at h
  · rw [intsOf_eq h]; rfl
  · cases h
def atT : List (PyData × PyData) → List Int → Option PyData
  | [], _ => none
  | (k, d) :: r, y => if keyT k = some y then some d else atT r y
theorem inl_inj {k j : List Int} (h : k.map (Sum.inl : Int → Key) = j.map Sum.inl) : k = j := by
  have := List.map_inj_right (f := (Sum.inl : Int → Key)) (fun a b h => Sum.inl.inj h) |>.mp h
  exact this
theorem atT_none {K : PySem.W.Frag} {H : Hp} {F : Reg} (k : List Int) : ∀ {xs : List Ent} {ds : List (PyData × PyData)}, DFt K H F xs ds → atT ds k = none → atKey xs (k.map Sum.inl) = none
  | _, _, .nil, _ => rfl
  | _, _, .cons (k := k') a r b c, h => by
    unfold atT at h
    rw [keyT_k] at h
    by_cases e : k' = k
    · subst e
      rw [if_pos rfl] at h
      cases h
    · rw [if_neg (by simpa using e)] at h
      have := atT_none k c h
      unfold atKey at this ⊢
      rw [List.find?_cons_of_neg (by simp only [decide_eq_true_eq]; exact fun z => e (inl_inj z))]
      exact this
end DL
namespace DL
open PySem PySem.Spec PyProof.Rows
open L2 hiding Sp
/-- empty, or by tuples, with these entries -/
def TSt (K : PySem.W.Frag) (H : Hp) (a : Addr) (xs : List Ent) : Prop := (xs = [] ∧ H a = some (.dK [])) ∨ ∃ o ds F, H a = some (DTo a o) ∧ EsOk a o xs ∧ DFt K H F xs ds
section
variable {X : Cx} {pins : List (Addr × Obj)} {σ : L2.St} {H : Hp} {s : Shared} {A : Around} {E : Value → Shared → Prop}
theorem tst_A (I : L2.Inv X pins σ H s) {a : Addr} (h : H a = some (.dK [])) : (a == sysModules) = false ∧ s.heap.DictOfH (tupleKind (mixKind X.prog X.w)) a [] := by
  obtain ⟨z, hd, vs, rel, o, es, ep, h1, h2, h3, _, h5, _⟩ := dk_of I.hok h
  cases rel
  have hes : es.toList = [] := by
    cases q : es.toList with
    | nil => rfl
    | cons a b => rw [q] at h5; cases h5
  exact ⟨hd, o, es, ep, h1, h2, h3, hes, fun x hx => absurd hx List.not_mem_nil, List.nodup_nil⟩
theorem tst_B {a : Addr} (h : H a = some (.dK [])) : Mut (H a) := by rw [h]; exact True.intro
theorem tst_C {a : Addr} {o : Obj} (h : H a = some (DTo a o)) : Mut (H a) := by rw [h]; exact True.intro
theorem tst_D {a : Addr} {o : Obj} {xs : List Ent} (e : EsOk a o xs) : ∀ P w, xs.map (entryOfKey (tupleKind (mixKind P w))) = xs.map (entryOfKey (tupleKind (mixKind X.prog X.w))) := by
  obtain ⟨es, ep, _, he⟩ := e.es
  intro P w
  rw [← he P w, ← he X.prog X.w]
theorem tst_dict (I : L2.Inv X pins σ H s) {a : Addr} {xs : List Ent} (t : TSt X.K H a xs) : (a == sysModules) = false ∧ s.heap.DictOfH (tupleKind (mixKind X.prog X.w)) a xs ∧ Mut (H a) ∧ ∀ P w, xs.map (entryOfKey (tupleKind (mixKind P w))) = xs.map (entryOfKey (tupleKind (mixKind X.prog X.w))) := by
  rcases t with ⟨rfl, h⟩ | ⟨o, ds, F, h, e, d⟩
  · have z := tst_A I h
    exact ⟨z.1, z.2, tst_B h, fun P w => by rw [List.map_nil, List.map_nil]⟩
  · exact ⟨e.sm, to_dict I h e d, tst_C h, tst_D e⟩
/-- d[y] = v, y not there -/
theorem d_setT {a q : Addr} {k : List Int} {xs : List Ent} {r : Value} {Q : Unit → Shared → Prop} (hu : A.units + 1 < cLine) (I : L2.Inv X pins σ H s) (sq : SqT X.K H q (k.map V.int)) (t : TSt X.K H a xs) (hn : atKey xs (k.map Sum.inl) = none) (hl : xs.length < sizeLine)
    (h : ∀ o' s', EsOk a o' (xs ++ [(k.map Sum.inl, q, r)]) → L2.Inv X pins σ (upd H a (DTo a o')) s' → Q () s') : wpAny (model X.prog X.w) A (setItem (.ref a) (.ref q) r) Q E s := by
  obtain ⟨sm, D, mu, hh⟩ := tst_dict I t
  refine wpAny_setItem_heap (hsz := Nat.le_of_lt hl) (tupleKind_room_in1 hu) (key_ofS I sq) D fun h' dd' hs => ?_
  rw [storedH_new hn] at dd'
  obtain ⟨o', es, ep, hq, h2, h3, h4, _, h5⟩ := dd'
  refine h o' _ ⟨sm, h2, ⟨es, ep, h3, fun P w => ?_⟩, h5, by rw [List.length_append, List.length_singleton]; omega, by simp⟩ (d_write I mu hs ⟨o', hq⟩ (dTo_ok hq))
  rw [h4, List.map_append, List.map_append, hh P w, List.map_singleton, List.map_singleton]
  congr 2
  unfold entryOfKey
  rw [hash_ints k]
end
def sTPut (K : PySem.W.Frag) (td ty tv : TE) : TS := fun D σ H => tv σ H fun v H1 => td σ H1 fun x H2 => ty σ H2 fun y H3 => ∃ a, x = .ref a ∧ ((∃ H4, DPut H3 a y v H4 ∧ D.nx σ H4) ∨
  ∃ (q : Addr) (k : List Int) (xs : List Ent), y = .ref q ∧ SqT K H3 q (k.map V.int) ∧ TSt K H3 a xs ∧ atKey xs (k.map Sum.inl) = none ∧ xs.length < sizeLine ∧ ∀ u o', L2.RelV v u → EsOk a o' (xs ++ [(k.map Sum.inl, q, u)]) → D.nx σ (upd H3 a (DTo a o')))
theorem ps_tput {X : Cx} {o i value : Expr} {pos pos' : Pos} {td ty tv : TE} (hu : X.A.units + 1 < cLine) (ho : PE X o td) (hi : PE X i ty) (hv : PE X value tv) (hs : swapsWith value (some (.Subscript o i pos')) pos.line X.env = pure false) :
    PS X (.Assign [.Subscript o i pos'] value pos) (sTPut X.K td ty tv) := by
  refine ⟨fun pins s σ H D I h => ?_⟩
  refine wpAny_Assign_Subscript (thn (hv.run pins s σ H _ I h) fun r s1 ⟨v, H1, I1, rv, q1⟩ => thn (ho.run pins s1 σ H1 _ I1 q1) fun u s2 ⟨x, H2, I2, rx, q2⟩ => thn (hi.run pins s2 σ H2 _ I2 q2) fun iv s3 ⟨y, H3, I3, ry, a, ex, g⟩ => ?_) hs
  subst ex
  obtain rfl : u = Value.ref a := rx
  rcases g with ⟨H4, g, q3⟩ | ⟨q, k, xs, rfl, sq, t, hn, hl, q3⟩
  · exact d_setItem hu I3 g ry rv fun s4 I4 => ⟨σ, H4, I4, q3⟩
  · obtain rfl : iv = Value.ref q := ry
    exact d_setT hu I3 sq t hn hl fun o' s4 e I4 => ⟨σ, _, I4, q3 r o' rv e⟩
def isDict : Option (Option R) → Bool
  | some (some (.own (.dict _))) => true
  | _ => false
theorem isDict_ex {x : Option (Option R)} (h : isDict x = true) : ∃ ds, x = some (some (.own (.dict ds))) := by
  unfold isDict at h
  split at h
  · exact ⟨_, rfl⟩
  · cases h
/-- by ints and texts (or empty) -/
def isKD : List (PyData × PyData) → Bool
  | [] => true
  | (k, _) :: _ => isKey k
/-- by tuples -/
def isTD : List (PyData × PyData) → Bool
  | [] => false
  | (k, _) :: _ => (keyT k).isSome
def putD (ds : List (PyData × PyData)) (k d : PyData) : List (PyData × PyData) := if (ds.any fun p => keq p.1 k) = true then ds.map (fun p => if keq p.1 k = true then (p.1, d) else p) else ds ++ [(k, d)]
def setKR (s : Nat) (d : PyData) (y : Option PyData) (ρ : Rho) : Option (Option R) → Option Ot
  | some (some (.own (.dict ds))) => match y with
    | some y => if ds.length < lim then (if isKey y = true then (if isKD ds = true then some (.nx (ρ.set s (some (.own (.dict (putD ds y d)))))) else none) else match keyT y with
        | some k => if (ds.isEmpty || isTD ds) = true ∧ atT ds k = none then some (.nx (ρ.set s (some (.own (.dict (ds ++ [(y, d)])))))) else none
        | none => none) else none
    | none => none
  | _ => none
def setKM (s : Nat) (fi fe : EM) : SM := fun ρ => bindS (fe ρ) fun r ρ1 => match frz ρ1 r with
  | some (d, ρ2) => if isDict ρ2[s]? = true then bindS (fi ρ2) fun ri ρ3 => setKR s d (val ρ3 ri) ρ3 ρ3[s]? else none
  | none => none
@[simp] theorem isDict_e (ds : List (PyData × PyData)) : isDict (some (some (.own (.dict ds)))) = true := eqI rfl
@[simp] theorem setKM_e (s : Nat) (fi fe : EM) (ρ : Rho) : setKM s fi fe ρ = bindS (fe ρ) fun r ρ1 => bindF (frz ρ1 r) fun d ρ2 => pick (isDict ρ2[s]?) (fun ρ => bindS (fi ρ) fun ri ρ3 => setKR s d (val ρ3 ri) ρ3 ρ3[s]?) (fun _ => none) ρ2 := eqI rfl
theorem any_dfk {K : PySem.W.Frag} {H : Hp} {F : Reg} (k : Key) : ∀ {ks : List (Key × V)} {ds : List (PyData × PyData)}, DFk K H F ks ds → (ks.any fun kv => decide (kv.1 = k)) = ds.any fun p => keq p.1 (kD k)
  | _, _, .nil => rfl
  | _, _, .cons a b => by rw [List.any_cons, List.any_cons, any_dfk k b, keq_kD]
theorem DFk.repl {K : PySem.W.Frag} {H : Hp} {F : Reg} {k : Key} {v : V} {d : PyData} (hd : DF K H F v d) : ∀ {ks : List (Key × V)} {ds : List (PyData × PyData)}, DFk K H F ks ds → DFk K H F (ks.map fun kv => if kv.1 = k then (kv.1, v) else kv) (ds.map fun p => if keq p.1 (kD k) = true then (p.1, d) else p)
  | _, _, .nil => .nil
  | _, _, .cons (k := j) a b => by
    rw [List.map_cons, List.map_cons]
    simp only [keq_kD]
    by_cases e : j = k
    · rw [if_pos e, if_pos (by simpa using e)]
      exact .cons hd (DFk.repl hd b)
    · rw [if_neg e, if_neg (by simpa using e)]
      exact .cons a (DFk.repl hd b)
theorem DFk.append {K : PySem.W.Frag} {H : Hp} {F : Reg} : ∀ {ks js : List (Key × V)} {ds es : List (PyData × PyData)}, DFk K H F ks ds → DFk K H F js es → DFk K H F (ks ++ js) (ds ++ es)
  | _, _, _, _, .nil, h => h
  | _, _, _, _, .cons a b, h => .cons a (DFk.append b h)
theorem DFk.put {K : PySem.W.Frag} {H : Hp} {F : Reg} {k : Key} {v : V} {d : PyData} {ks : List (Key × V)} {ds : List (PyData × PyData)} (h : DFk K H F ks ds) (hd : DF K H F v d) : DFk K H F (putK ks k v) (putD ds (kD k) d) := by
  unfold putK putD
  rw [any_dfk k h]
  split
  · exact DFk.repl hd h
  · exact h.append (.cons hd .nil)
theorem DFt.append {K : PySem.W.Frag} {H : Hp} {F : Reg} : ∀ {ks js : List Ent} {ds es : List (PyData × PyData)}, DFt K H F ks ds → DFt K H F js es → DFt K H F (ks ++ js) (ds ++ es)
  | _, _, _, _, .nil, h => h
  | _, _, _, _, .cons q r a b, h => .cons q r a (DFt.append b h)
theorem DFk.length {K : PySem.W.Frag} {H : Hp} {F : Reg} : ∀ {ks : List (Key × V)} {ds : List (PyData × PyData)}, DFk K H F ks ds → ks.length = ds.length
  | _, _, .nil => rfl
  | _, _, .cons _ b => by rw [List.length_cons, List.length_cons, DFk.length b]
theorem DFt.length {K : PySem.W.Frag} {H : Hp} {F : Reg} : ∀ {ks : List Ent} {ds : List (PyData × PyData)}, DFt K H F ks ds → ks.length = ds.length
  | _, _, .nil => rfl
  | _, _, .cons _ _ _ b => by rw [List.length_cons, List.length_cons, DFt.length b]
theorem kd_dft {K : PySem.W.Frag} {H : Hp} {F : Reg} {xs : List Ent} {ds : List (PyData × PyData)} (h : DFt K H F xs ds) (hn : xs ≠ []) : isKD ds = false := by
  cases h with
  | nil => exact absurd rfl hn
  | cons => rfl
theorem td_dfk {K : PySem.W.Frag} {H : Hp} {F : Reg} {xs : List (Key × V)} {ds : List (PyData × PyData)} (h : DFk K H F xs ds) (hd : isTD ds = true) : False := by
  cases h with
  | nil => cases hd
  | @cons k v d vs ds a b => cases k <;> cases hd
theorem own_dct {T : Tb} {H : Hp} {F : Reg} {O : Ows} {σ : L2.St} {ρ : Rho} (E : EnvR T H F O σ ρ) {i : Nat} {ds : List (PyData × PyData)} (h : ρ[i]? = some (some (.own (.dict ds)))) : ∃ a, σ[i]? = some (some (.ref a)) ∧ O i = [a] ∧ OwnAt T.K H F a (.dict ds) := by
  obtain ⟨v, h1, a, h2, rfl, h3⟩ := E.at_ i _ h
  exact ⟨a, h1, h2, h3⟩
section
variable {X : Cx} {T : Tb} {W : WX} {φ : Fm} {e ei : Expr} {fe fi : EM} {pos p p' : Pos} {s : Nat} {x : Str}
theorem ss_setK (hK : X.K = T.K) (hu : X.A.units + 1 < cLine) (he : SE X T W e fe) (ho : PE X (.Name x p) (tVar s)) (hi : SE X T W ei fi) (hs : swapsWith e (some (.Subscript (.Name x p) ei p')) pos.line X.env = pure false := by rfl) :
    SS X T W φ (.Assign [.Subscript (.Name x p) ei p'] e pos) (setKM s fi fe) := by
  refine ps_imp (ps_tput hu ho hi he hs) fun D σ H ⟨ρ, F, O, S, P⟩ => ?_
  refine sps .refl .refl S P fun v H1 r ρ1 F1 O1 x1 y1 S1 r1 P1 => ?_
  cases q : frz ρ1 r with
  | none => rw [q] at P1; exact P1.elim
  | some z =>
    obtain ⟨d, ρ2⟩ := z
    rw [q] at P1
    dsimp only at P1
    obtain ⟨F2, O2, y2, E2, d2, _, sb, _⟩ := fz y1 (fun _ h => h) S1.E r1 q
    have S2 : StR T φ H1 F2 O2 σ ρ2 := ⟨E2, S1.lb, fun j b hj q => S1.lf j b hj (sb j b q)⟩
    split at P1
    · rename_i hi
      obtain ⟨ds0, q0⟩ := isDict_ex hi
      obtain ⟨a, h1, h2, h3⟩ := own_dct E2 q0
      refine ⟨.ref a, h1, ?_⟩
      refine sps y2 .refl S2 P1 fun u H3 ri ρ3 F3 O3 x3 y3 S3 r3 P3 => ?_
      have d3 : DF T.K H3 F3 v d := d2.mono (E2.kept x3) x3.grow
      cases qv : val ρ3 ri with
      | none =>
        rw [qv] at P3
        unfold setKR at P3
        split at P3
        · exact P3.elim
        · exact P3.elim
      | some y =>
        have vy := val_vw S3.E r3 qv
        rw [qv] at P3
        unfold setKR at P3
        split at P3
        · rename_i ds q3
          dsimp only at P3
          split at P3
          · rename_i hl
            obtain ⟨b, g1, g2, g3⟩ := own_dct S3.E q3
            rw [h1] at g1
            cases g1
            refine ⟨a, rfl, ?_⟩
            split at P3
            · rename_i hk
              split at P3
              · rename_i hkd
                obtain ⟨k, rfl⟩ := isKey_ex hk
                obtain rfl : u = kV k := kD_vw vy
                rcases g3 with ⟨ks, e1, e2⟩ | ⟨o, xs, e1, ee, e2⟩
                · refine .inl ⟨_, .k e1 (by rw [e2.length]; exact Nat.lt_of_lt_of_le hl (by decide)), ?_⟩
                  obtain ⟨E4, x4, k4⟩ := S3.E.mut (o := .dK (putK ks k v)) (d' := .dict (putD ds (kD k) d)) (s := true) q3 g2 fun k => .inl ⟨_, upd_same, (e2.put d3).mono k fun _ h => h⟩
                  exact P3 σ _ F3 O3 (y3.trans x4) ⟨E4, fun b h => S3.lb b (x4.live b h), S3.lf⟩ .refl
                · rw [kd_dft e2 ee.ne] at hkd
                  cases hkd
              · exact P3.elim
            · split at P3
              · rename_i k hk
                split at P3
                · rename_i hz
                  rw [keyT_ex hk] at vy
                  obtain ⟨qa, us, rfl, sq, su⟩ := vy.tup
                  rw [su.ints] at sq
                  rw [keyT_ex hk] at P3
                  have fin : ∀ xs, DFt T.K H3 F3 xs ds → TSt T.K H3 a xs → ∃ (q : Addr) (k : List Int) (xs : List Ent), V.ref qa = .ref q ∧ SqT X.K H3 q (k.map V.int) ∧ TSt X.K H3 a xs ∧ atKey xs (k.map Sum.inl) = none ∧ xs.length < sizeLine ∧ ∀ u o', L2.RelV v u → EsOk a o' (xs ++ [(k.map Sum.inl, q, u)]) → D.nx σ (upd H3 a (DTo a o')) := by
                    intro xs dx tx
                    rw [hK]
                    refine ⟨qa, k, xs, rfl, sq, tx, atT_none k dx hz.2, by rw [dx.length]; exact Nat.lt_of_lt_of_le hl (by decide), fun u o' ru eo => ?_⟩
                    obtain ⟨E4, x4, k4⟩ := S3.E.mut (o := DTo a o') (d' := .dict (ds ++ [(kT k, d)])) (s := true) q3 g2 fun kk => .inr ⟨_, _, upd_same, eo, (dx.append (.cons sq ru d3 .nil)).mono kk fun _ h => h⟩
                    exact P3 σ _ F3 O3 (y3.trans x4) ⟨E4, fun b h => S3.lb b (x4.live b h), S3.lf⟩ .refl
                  rcases g3 with ⟨ks, e1, e2⟩ | ⟨o, xs, e1, ee, e2⟩
                  · have hds : ds = [] := by
                      have h1 := hz.1
                      rw [Bool.or_eq_true] at h1
                      rcases h1 with h1 | h1
                      · simpa using h1
                      · exact (td_dfk e2 h1).elim
                    subst hds
                    cases e2
                    exact .inr (fin [] .nil (.inl ⟨rfl, e1⟩))
                  · exact .inr (fin xs e2 (.inr ⟨o, ds, F3, e1, ee, e2⟩))
                · exact P3.elim
              · exact P3.elim
          · exact P3.elim
        · exact P3.elim
    · exact P1.elim
end
end DL
namespace DL
open PySem PySem.Spec PyProof.Rows
open L2 hiding Sp
def iwM (g : PyData → Option (List PyData)) (f : EM) : IM := fun ρ => bindO (f ρ) fun r ρ1 => match frz ρ1 r with
  | some (d, ρ2) => okI (g d) ρ2
  | none => none
@[simp] theorem iwM_e (g : PyData → Option (List PyData)) (f : EM) (ρ : Rho) : iwM g f ρ = bindO (f ρ) fun r ρ1 => bindF (frz ρ1 r) fun d ρ2 => okI (g d) ρ2 := eqI rfl
end DL
namespace DL
open PySem PySem.Spec PyProof.Rows
open L2 hiding Sp
/-- what stays as the heap goes on -/
def Clo (G : Hp → Reg → Prop) : Prop := ∀ H F H' F', G H F → Kept F H H' → (∀ b, F b → F' b) → G H' F'
/-- amid a comprehension: the new list at D holds acc -/
def LcS (T : Tb) (H : Hp) (F : Reg) (O : Ows) (G : Hp → Reg → Prop) (D : Addr) (σ : L2.St) (ρ : Rho) (acc : List PyData) (H' : Hp) : Prop :=
  ∃ F' O' va, Ext false H F O H' F' O' ∧ EnvR T H' F' O' σ ρ ∧ H' D = some (.lst va) ∧ DFs T.K H' F' va acc ∧ ¬ F' D ∧ (∀ j, D ∉ O' j) ∧ G H' F'
section
variable {T : Tb} {H : Hp} {F : Reg} {O : Ows} {G : Hp → Reg → Prop} {D : Addr} {σ σ' : L2.St} {ρ ρ' : Rho} {acc : List PyData} {H' H'' : Hp}
theorem LcS.imp {G' : Hp → Reg → Prop} (s : LcS T H F O G D σ ρ acc H') (g : ∀ F', G H' F' → G' H' F') : LcS T H F O G' D σ ρ acc H' := by
  obtain ⟨F', O', va, x, E, hD, sa, nD, oD, gg⟩ := s
  exact ⟨F', O', va, x, E, hD, sa, nD, oD, g _ gg⟩
theorem LcS.grow (cl : Clo G) (s : LcS T H F O G D σ ρ acc H') (k : ∀ b o, H' b = some o → H'' b = some o) : LcS T H F O G D σ ρ acc H'' := by
  obtain ⟨F', O', va, x, E, hD, sa, nD, oD, gg⟩ := s
  have gr : Gr H' F' H'' F' := ⟨k, fun _ h => h, fun _ h => .inl h⟩
  exact ⟨F', O', va, x.trans gr.ext, E.gr gr, k _ _ hD, sa.mono (kept_all k) fun _ h => h, nD, oD, cl _ _ _ _ gg (kept_all k) fun _ h => h⟩
/-- slots are stored: some owners are forgotten -/
theorem LcS.sub (s : LcS T H F O G D σ ρ acc H') (k : ∀ F' O', EnvR T H' F' O' σ ρ → G H' F' → ∃ O2, EnvR T H' F' O2 σ' ρ' ∧ Sub O2 O') : LcS T H F O G D σ' ρ' acc H' := by
  obtain ⟨F', O', va, x, E, hD, sa, nD, oD, gg⟩ := s
  obtain ⟨O2, E2, s2⟩ := k _ _ E gg
  exact ⟨F', O2, va, ⟨x.keep, x.live, x.grow, x.new, fun j b e => x.own j b (s2 j b e)⟩, E2, hD, sa, nD, fun j z => oD j (s2 j D z), gg⟩
theorem LcS.wipe {vs : List Nat} (s : LcS T H F O G D σ ρ acc H') : LcS T H F O G D (wipe σ vs) (wipeR ρ vs) acc H' := s.sub fun F' O' E _ => let ⟨O2, E2, s2⟩ := E.wiped (vs := vs); ⟨O2, E2, s2⟩
theorem LcS.unwipe {vs : List Nat} (s : LcS T H F O G D (L2.wipe σ vs) ρ acc H') : LcS T H F O G D σ ρ acc H' := s.sub fun F' O' E _ => ⟨O', E.unwipe, fun _ _ h => h⟩
end
/-- the inner clause -/
def lcI (g : GM) (vs : List Nat) (c : Rho → Option (Oe Bool)) (f : EM) : List PyData → Rho → List PyData → Option (List PyData × Rho)
  | [], ρ, acc => some (acc, ρ)
  | x :: xs, ρ, acc => match g x ρ with
    | none => none
    | some ρ1 => bindN (c ρ1) fun b ρ2 => if b = true then bindN (f ρ2) fun r ρ3 => match frz ρ3 r with
        | some (d, ρ4) => if acc.length < lim then lcI g vs c f xs (wipeR ρ4 vs) (acc ++ [d]) else none
        | none => none
      else lcI g vs c f xs (wipeR ρ2 vs) acc
def lc2L (g : GM) (vs : List Nat) (c : Rho → Option (Oe Bool)) (it1 : IM) (g1 : GM) (vs1 : List Nat) (c1 : Rho → Option (Oe Bool)) (f : EM) : List PyData → Rho → List PyData → Option (Oe R)
  | [], ρ, acc => some (.ok (.own (.list acc)) ρ)
  | x :: xs, ρ, acc => match g x ρ with
    | none => none
    | some ρ1 => bindN (c ρ1) fun b ρ2 => if b = true then bindN (it1 ρ2) fun ds ρ3 => match lcI g1 vs1 c1 f ds (wipeR ρ3 vs1) acc with
        | some (acc', ρ4) => lc2L g vs c it1 g1 vs1 c1 f xs (wipeR ρ4 vs) acc'
        | none => none
      else lc2L g vs c it1 g1 vs1 c1 f xs (wipeR ρ2 vs) acc
def lc2M (it : IM) (g : GM) (vs : List Nat) (c : Rho → Option (Oe Bool)) (it1 : IM) (g1 : GM) (vs1 : List Nat) (c1 : Rho → Option (Oe Bool)) (f : EM) : EM := fun ρ => bindO (it ρ) fun ds ρ1 => lc2L g vs c it1 g1 vs1 c1 f ds (wipeR ρ1 vs) []
@[simp] theorem lc2M_e (it : IM) (g : GM) (vs : List Nat) (c : Rho → Option (Oe Bool)) (it1 : IM) (g1 : GM) (vs1 : List Nat) (c1 : Rho → Option (Oe Bool)) (f : EM) (ρ : Rho) : lc2M it g vs c it1 g1 vs1 c1 f ρ = bindO (it ρ) fun ds ρ1 => lc2L g vs c it1 g1 vs1 c1 f ds (wipeR ρ1 vs) [] := eqI rfl
end DL
namespace DL
open PySem PySem.Spec PyProof.Rows
open L2 hiding Sp
def isKDo : Option PyData → Bool
  | some (.dict ds) => isKD ds
  | _ => false
def getR (y z : R) (ρ : Rho) : Option PyData → Option (Oe R)
  | some (.dict ds) => match y, z with
    | .dat y, .dat z => if isKey y = true ∧ isKD ds = true then some (.ok (.dat ((atK ds y).getD z)) ρ) else none
    | _, _ => none
  | _ => none
def getM (f fk fd : EM) : EM := fun ρ => bindO (f ρ) fun r ρ1 => if isKDo (val ρ1 r) = true then bindO (fk ρ1) fun y ρ2 => bindO (fd ρ2) fun z ρ3 => getR y z ρ3 (val ρ3 r) else none
@[simp] theorem isKDo_e (ds : List (PyData × PyData)) : isKDo (some (.dict ds)) = isKD ds := eqI rfl
@[simp] theorem getM_e (f fk fd : EM) (ρ : Rho) : getM f fk fd ρ = bindO (f ρ) fun r ρ1 => pick (isKDo (val ρ1 r)) (fun ρ => bindO (fk ρ) fun y ρ2 => bindO (fd ρ2) fun z ρ3 => getR y z ρ3 (val ρ3 r)) (fun _ => none) ρ1 := eqI rfl
def lenKD : PyData → Option R
  | .dict ds => some (.dat (.int ds.length))
  | _ => none
@[simp] theorem lenKD_e (ds : List (PyData × PyData)) : lenKD (.dict ds) = some (.dat (.int ds.length)) := eqI rfl
end DL
namespace DL
open PySem PySem.Spec PyProof.Rows
open L2 hiding Sp
section
variable {X : Cx} {T : Tb} {W : WX} {N : List Str} {sc : Scope} {φ : Fm} {n : Nat} {pos : Pos}
theorem s_setK {e ei : Expr} {fe fi : EM} {p p' : Pos} {x : Str} (a : At X N sc) (c : Cxt X T W n) (s : Nat) (h : nmB N sc s x = true) (he : SE X T W e fe) (hi : SE X T W ei fi) (hs : swapsWith e (some (.Subscript (.Name x p) ei p')) pos.line X.env = pure false := by rfl) :
    SS X T W φ (.Assign [.Subscript (.Name x p) ei p'] e pos) (setKM s fi fe) :=
   ss_setK c.hK (by have := c.room.units; omega) he (pe_n a s h) hi hs
end
end DL
namespace DL
open PySem PySem.Spec PyProof.Rows
open L2 hiding Sp
end DL
namespace DL
open PySem PySem.Spec PyProof.Rows
open L2 hiding Sp
/-- sorted of a list or a tuple of ints -/
def sortTD : PyData → Option R
  | .tuple ds => (intsOf ds).map fun ns => .own (.list ((sortI ns).map PyData.int))
  | _ => none
@[simp] theorem sortTD_t (ns : List Int) : sortTD (.tuple (ns.map PyData.int)) = some (.own (.list ((sortI ns).map PyData.int))) := by
  show (intsOf _).map _ = _
  rw [intsOf_map]
  rfl
end DL
namespace DL
open PySem L2
/-- one of a new pair of two -/
def ix2M (k : Int) (f : EM) : EM := fun ρ => bindO (f ρ) fun r ρ1 => match r with
  | .two d e => if k = 0 then some (.ok (.own d) ρ1) else if k = 1 then some (.ok (.own e) ρ1) else none
  | _ => none
@[simp] theorem ix2M_e (k : Int) (f : EM) (ρ : Rho) : ix2M k f ρ = bindO (f ρ) fun r ρ1 => match r with
  | .two d e => if k = 0 then some (.ok (.own d) ρ1) else if k = 1 then some (.ok (.own e) ρ1) else none
  | _ => none := eqI rfl
end DL
namespace DL
open PySem PySem.Spec PyProof.Rows
open L2 hiding Sp
open PySem.W (alike alikeAll dataLt keyToks AllAlike Sortable dataLe KeyedOut EachIs)
end DL
namespace DL
open PySem PyProof.Rows
open L2 hiding Sp
end DL
namespace DL
open PySem PyProof.Rows
open L2 hiding Sp
/-- arguments in the order of the parameters, the defaults of those left out behind them -/
def prmA (pm : List Nat) (dds : List PyData) (fa : AM) : AM := fun ρ => bindO (fa ρ) fun rs ρ1 => if rs.length = pm.length then some (.ok (pm.filterMap (rs[·]?) ++ dds.map R.dat) ρ1) else none
@[simp] theorem prmA_e (pm : List Nat) (dds : List PyData) (fa : AM) (ρ : Rho) : prmA pm dds fa ρ = bindO (fa ρ) fun rs ρ1 => if rs.length = pm.length then some (.ok (pm.filterMap (rs[·]?) ++ dds.map R.dat) ρ1) else none := eqI rfl
section
variable {X : Cx} {T : Tb} {W : WX} {x : Str} {k n m i : Nat} {sem : Sem} {e : Expr} {es : List Expr} {kws : List Keyword} {fa : AM} {fe : EM} {p pos kpos : Pos} {ks : List Str} {pm : List Nat} {dds : List PyData} {N : List Str} {sc : Scope} {f : Addr}
/-- slot i holds one of these defs -/
def vfM (i : Nat) (sems : Nat → Option Sem) (fa : AM) : EM := fun ρ => match ρ[i]? with
  | some (some (.fn j)) => match sems j with
    | some sem => callM sem fa ρ
    | none => none
  | _ => none
end
@[simp] theorem vfM_e (i : Nat) (sems : Nat → Option Sem) (fa : AM) (ρ : Rho) : vfM i sems fa ρ = match ρ[i]? with
  | some (some (.fn j)) => (match sems j with | some sem => callM sem fa ρ | none => none)
  | _ => none := eqI rfl
def forF (i : Nat) (body : SM) : List Nat → SM
  | [], ρ => some (.nx ρ)
  | k :: ks, ρ => match body (ρ.set i (some (.fn k))) with
    | some (.nx ρ2) => forF i body ks ρ2
    | some (.ct ρ2) => forF i body ks ρ2
    | some (.bk ρ2) => some (.nx ρ2)
    | o => o
@[simp] theorem forF_nil (i : Nat) (body : SM) (ρ : Rho) : forF i body [] ρ = some (.nx ρ) := eqI rfl
end DL
namespace DL
open PySem L2
def insE (i : Nat) (k : Int) : Option (PyData × Rho) → Option Ot
  | some (d, ρ) => match ρ[i]? with
    | some (some (.own (.list ds))) => if ds.length < lim ∧ 0 ≤ k ∧ k < 4611686018427387904 then some (.nx (ρ.set i (some (.own (.list (ds.take k.toNat ++ [d] ++ ds.drop k.toNat)))))) else none
    | _ => none
  | none => none
def insR (i : Nat) (fb : EM) (r : R) (ρ : Rho) : Option Ot := match r with
  | .dat (.int k) => bindS (fb ρ) fun s ρ2 => insE i k (frz ρ2 s)
  | _ => none
/-- x.insert(k, e) -/
def insM (i : Nat) (fa fb : EM) : SM := fun ρ => if isList ρ[i]? = true then bindS (fa ρ) (insR i fb) else none
@[simp] theorem insM_e (i : Nat) (fa fb : EM) (ρ : Rho) : insM i fa fb ρ = pick (isList ρ[i]?) (fun ρ => bindS (fa ρ) (insR i fb)) (fun _ => none) ρ := by
  unfold insM pick
  cases isList ρ[i]? <;> rfl
@[simp] theorem insR_e (i : Nat) (fb : EM) (k : Int) (ρ : Rho) : insR i fb (.dat (.int k)) ρ = bindS (fb ρ) fun s ρ2 => insE i k (frz ρ2 s) := eqI rfl
end DL
namespace DL
open PySem PyProof.Rows
open L2 hiding Sp
/-- raise C(e1, e2) -/
def raise2R (c : Nat) (rs : List R) (ρ : Rho) : Option Ot := match rs with
  | [.dat (.int m), .dat (.int n)] => some (.er c [.int m, .int n] ρ)
  | _ => none
def raise2M (c : Nat) (fa : AM) : SM := fun ρ => bindS (fa ρ) (raise2R c)
@[simp] theorem raise2M_e (c : Nat) (fa : AM) (ρ : Rho) : raise2M c fa ρ = bindS (fa ρ) (raise2R c) := eqI rfl
@[simp] theorem raise2R_e (c : Nat) (m n : Int) (ρ : Rho) : raise2R c [.dat (.int m), .dat (.int n)] ρ = some (.er c [.int m, .int n] ρ) := eqI rfl
theorem ResRs.ints {T : Tb} {H0 H : Hp} {F : Reg} {O : Ows} {σ : L2.St} {vs : List V} {m n : Int} (h : ResRs T H0 H F O σ vs [.dat (.int m), .dat (.int n)]) : vs = [.int m, .int n] := by
  cases h with
  | cons a b =>
    cases b with
    | cons c d =>
      cases d
      have a' : DF T.K H F _ (.int m) := a
      have c' : DF T.K H F _ (.int n) := c
      cases a'
      cases c'
      rfl
def isXR (tb : Nat → Option Bool) (r : R) (ρ : Rho) : Option (Oe R) := match r with
  | .ex c _ => match tb c with
    | some b => some (.ok (.dat (.bool b)) ρ)
    | none => none
  | _ => none
/-- isinstance(e, C) -/
def isXM (tb : Nat → Option Bool) (fe : EM) : EM := fun ρ => bindO (fe ρ) fun r ρ1 => isXR tb r ρ1
@[simp] theorem isXM_e (tb : Nat → Option Bool) (fe : EM) (ρ : Rho) : isXM tb fe ρ = bindO (fe ρ) fun r ρ1 => isXR tb r ρ1 := eqI rfl
section
variable {X : Cx} {T : Tb} {W : WX} {m : Nat} {N : List Str} {sc : Scope} {pos p : Pos} {e : Expr}
/-- e.many (true), e.most (false) -/
def fldR (tb : Nat → Bool) (f : Bool) (r : R) (ρ : Rho) : Option (Oe R) := match r with
  | .ex c [.int m, .int n] => if tb c = true then some (.ok (.dat (.int (if f = true then m else n))) ρ) else none
  | _ => none
def fldM (tb : Nat → Bool) (f : Bool) (fe : EM) : EM := fun ρ => bindO (fe ρ) fun r ρ1 => fldR tb f r ρ1
@[simp] theorem fldM_e (tb : Nat → Bool) (f : Bool) (fe : EM) (ρ : Rho) : fldM tb f fe ρ = bindO (fe ρ) fun r ρ1 => fldR tb f r ρ1 := eqI rfl
end
end DL
namespace DL
open PySem PyProof.Rows
open L2 hiding Sp
def signsD (x : Str) : List PyData := x.cps.toList.map fun c => .str ⟨#[c]⟩
def isM (f : EM) : IM := fun ρ => bindO (f ρ) fun r ρ1 => match r with
  | .dat (.str x) => some (.ok (signsD x) ρ1)
  | _ => none
def isR (r : R) (ρ : Rho) : Option (Oe (List PyData)) := match r with
  | .dat (.str x) => some (.ok (signsD x) ρ)
  | _ => none
@[simp] theorem isM_e (f : EM) (ρ : Rho) : isM f ρ = bindO (f ρ) isR := eqI rfl
@[simp] theorem isR_e (x : Str) (ρ : Rho) : isR (.dat (.str x)) ρ = some (.ok (signsD x) ρ) := eqI rfl
theorem it_str {T : Tb} {F : Reg} {H : Hp} (x : Str) : ItOk T (Its x) F H (signsD x) :=
  ⟨fun H' k i d h => by
    unfold signsD at h
    rw [List.getElem?_map] at h
    cases q : x.cps.toList[i]? with
    | none => rw [q] at h; cases h
    | some c =>
      rw [q] at h
      cases h
      have q' : x.cps[i]? = some c := by rw [← Array.getElem?_toList]; exact q
      refine ⟨?_, fun v H'' y => ?_⟩
      · show i < x.cps.size
        have := (Array.getElem?_eq_some_iff.mp q').1
        exact this
      · obtain ⟨rfl, c', hc', rfl⟩ := y
        rw [q'] at hc'
        cases hc'
        exact ⟨fun _ _ h => h, .str _⟩, fun H' k i h _ => by
    show x.cps.size ≤ i
    unfold signsD at h
    rw [List.length_map, Array.length_toList] at h
    exact h⟩
section
variable {X : Cx} {T : Tb} {W : WX} {tg e o : Expr} {f fo fe : EM} {pos p : Pos} {N : List Str} {sc : Scope} {n : Nat}
theorem si_str (he : SE X T W e f) : SI X T W tg e (isM f) := by
  refine pi_imp (pi_str he) fun σ H Q ⟨ρ, F, O, E, P⟩ => ?_
  refine stp .refl E P fun v H1 r ρ1 F1 O1 x1 y1 E1 r1 P1 => ?_
  split at P1
  · rename_i x
    have r1' : DF T.K H1 F1 v (.str x) := r1
    cases r1'
    exact ⟨x, rfl, P1 _ _ _ _ y1 E1 (it_str x)⟩
  · exact P1.elim
def dIc : PyData → PyData → Option R
  | .str x, .str z => match x.cps.toList with
    | [c] => some (.dat (.bool (decide (c ∈ z.cps.toList))))
    | _ => none
  | _, _ => none
@[simp] theorem dIc_e (c : Nat) (z : Str) : dIc (.str ⟨#[c]⟩) (.str z) = some (.dat (.bool (decide (c ∈ z.cps.toList)))) := eqI rfl
theorem does_ic {T : Tb} : Does2 T (fun x y H Q => ∃ (c : Nat) (z : Str), x = .str ⟨#[c]⟩ ∧ y = .str z ∧ Q (.bl (decide (c ∈ z.cps.toList))) H) dIc := by
  intro x y d e z H F Q lv hx hy hg hq
  unfold dIc at hg
  split at hg
  · rename_i a b
    obtain rfl := hx.str
    obtain rfl := hy.str
    split at hg
    · rename_i c hc
      cases hg
      have ea : a = ⟨#[c]⟩ := by
        cases a with
        | mk cps =>
          have : cps = #[c] := by rw [← Array.toArray_toList (xs := cps)]; exact congrArg List.toArray hc
          rw [this]
      exact ⟨c, b, by rw [ea], rfl, hq _ H F .refl (.bl _)⟩
    · cases hg
  · cases hg
def dNic : PyData → PyData → Option R
  | .str x, .str z => match x.cps.toList with
    | [c] => some (.dat (.bool (!decide (c ∈ z.cps.toList))))
    | _ => none
  | _, _ => none
@[simp] theorem dNic_e (c : Nat) (z : Str) : dNic (.str ⟨#[c]⟩) (.str z) = some (.dat (.bool (!decide (c ∈ z.cps.toList)))) := eqI rfl
theorem e_inC {a b : Expr} {fa fb : EM} (ha : SE X T W a fa) (hb : SE X T W b fb) (hm : behindInMarks .In b = false := by rfl) : SE X T W (.Compare a [.In] [b] pos) (op2M dIc fa fb) := se_cmp op_in_sign does_ic ha hb hm
def intSD : PyData → Option R
  | .str a => if a.length ≤ 640 then (PySem.intText? a).map fun n => .dat (.int n) else none
  | _ => none
@[simp] theorem intSD_e (a : Str) : intSD (.str a) = if a.length ≤ 640 then (PySem.intText? a).map fun n => R.dat (.int n) else none := eqI rfl
def isSt : Option PyData → Bool
  | some (.str _) => true
  | _ => false
@[simp] theorem isSt_s (x : Str) : isSt (some (.str x)) = true := eqI rfl
def smM (g : PyData → PyData → Option R) (fo fe : EM) : EM := fun ρ => bindO (fo ρ) fun r ρ1 => pick (isSt (val ρ1 r)) (fun ρ1 => bindO (fe ρ1) fun s ρ2 => op2R g ρ2 (val ρ2 r) (val ρ2 s)) (fun _ => none) ρ1
@[simp] theorem smM_e (g : PyData → PyData → Option R) (fo fe : EM) (ρ : Rho) : smM g fo fe ρ = bindO (fo ρ) fun r ρ1 => pick (isSt (val ρ1 r)) (fun ρ1 => bindO (fe ρ1) fun s ρ2 => op2R g ρ2 (val ρ2 r) (val ρ2 s)) (fun _ => none) ρ1 := eqI rfl
/-- x.split(sep) -/
def splD : PyData → PyData → Option R
  | .str a, .str b => if (b.length == 0) = false ∧ a.length ≤ lim then some (.own (.list ((Txt.split a b).map .str))) else none
  | _, _ => none
@[simp] theorem splD_e (a b : Str) : splD (.str a) (.str b) = if (b.length == 0) = false ∧ a.length ≤ lim then some (R.own (.list ((Txt.split a b).map .str))) else none := eqI rfl
theorem dfs_strs {K : PySem.W.Frag} {H : Hp} {F : Reg} : ∀ ys : List Str, DFs K H F (ys.map V.str) (ys.map PyData.str)
  | [] => .nil
  | _ :: r => .cons (.str _) (dfs_strs r)
/-- x.partition(sep) -/
def prtD : PyData → PyData → Option R
  | .str a, .str b => if (b.length == 0) = false ∧ a.length ≤ lim then some (.dat (.tuple [.str (Txt.partition a b).1, .str (Txt.partition a b).2.1, .str (Txt.partition a b).2.2])) else none
  | _, _ => none
@[simp] theorem prtD_e (a b : Str) : prtD (.str a) (.str b) = if (b.length == 0) = false ∧ a.length ≤ lim then some (R.dat (.tuple [.str (Txt.partition a b).1, .str (Txt.partition a b).2.1, .str (Txt.partition a b).2.2])) else none := eqI rfl
/-- sep.join(texts) -/
def strsOf : List PyData → Option (List Str)
  | [] => some []
  | .str x :: r => (strsOf r).map (x :: ·)
  | _ :: _ => none
theorem strsOf_map (ys : List Str) : strsOf (ys.map .str) = some ys := by
  induction ys with
  | nil => rfl
  | cons x r ih => show (strsOf (r.map .str)).map (x :: ·) = _; rw [ih]; rfl
end
/-- a number's text -/
def nS (i : Int) : Str := Str.ofString (toString i)
def fmtD : Option PyData → Option Str
  | some (.str y) => if y.length ≤ lim then some y else none
  | some (.int i) => if i.natAbs.log2 < 1920 then some (toString i) else none
  | _ => none
@[simp] theorem fmtD_s (y : Str) : fmtD (some (.str y)) = if y.length ≤ lim then some y else none := eqI rfl
@[simp] theorem fmtD_i (i : Int) : fmtD (some (.int i)) = if i.natAbs.log2 < 1920 then some (nS i) else none := eqI rfl
def fsA (acc : Str) (o : Option Str) (g : Str → Option (Oe R)) : Option (Oe R) := match o with
  | some y => if (acc ++ y).length ≤ lim then g (acc ++ y) else none
  | none => none
@[simp] theorem fsA_s (acc y : Str) (g : Str → Option (Oe R)) : fsA acc (some y) g = if (acc ++ y).length ≤ lim then g (acc ++ y) else none := eqI rfl
def fsL : List EM → Str → EM
  | [], acc, ρ => some (.ok (.dat (.str acc)) ρ)
  | f :: fs, acc, ρ => bindO (f ρ) fun r ρ1 => fsA acc (fmtD (val ρ1 r)) fun a => fsL fs a ρ1
@[simp] theorem fsL_nil (acc : Str) (ρ : Rho) : fsL [] acc ρ = some (.ok (.dat (.str acc)) ρ) := eqI rfl
@[simp] theorem fsL_cons (f : EM) (fs : List EM) (acc : Str) (ρ : Rho) : fsL (f :: fs) acc ρ = bindO (f ρ) fun r ρ1 => fsA acc (fmtD (val ρ1 r)) fun a => fsL fs a ρ1 := eqI rfl
def fsM (fs : List EM) : EM := fsL fs Str.empty
@[simp] theorem fsM_e (fs : List EM) (ρ : Rho) : fsM fs ρ = fsL fs Str.empty ρ := eqI rfl
section
variable {X : Cx} {T : Tb} {W : WX}
/-- the parts of an f-string: a written text, or {e} -/
inductive JS (X : Cx) (T : Tb) (W : WX) : List Expr → List EM → List TE → Prop where
  | nil : JS X T W [] [] []
  | wr {x : Str} {j : Nat} {p : Pos} {es : List Expr} {fs : List EM} {ts : List TE} : JS X T W es fs ts → JS X T W (.Constant (.str x) j p :: es) (cM (.str x) :: fs) (tC (.str x) :: ts)
  | fm {e : Expr} {f : EM} {p : Pos} {es : List Expr} {fs : List EM} {ts : List TE} : SE X T W e f → JS X T W es fs ts → JS X T W (.FormattedValue e (-1) none p :: es) (f :: fs) (tFmt (Tof T W (tlE T) f) :: ts)
theorem JS.of {es : List Expr} {fs : List EM} {ts : List TE} (h : JS X T W es fs ts) : ∀ {acc : Str} {σ : L2.St} {ρ : Rho} {B H : Hp} {FB F : Reg} {OB O : Ows} {Q : VK}, Ext false B FB OB H F O → EnvR T H F O σ ρ → Post T W (tlE T) σ B FB OB Q (fsL fs acc ρ) → tJs ts acc σ H fun out H1 => Q (.str out) H1 := by
  induction h with
  | nil =>
    intro acc σ ρ B H FB F OB O Q x E P
    exact P (.str acc) H F O x E (.str _)
  | @wr y j p es fs ts _ ih =>
    intro acc σ ρ B H FB F OB O Q x E P
    have P1 : Post T W (tlE T) σ B FB OB Q (fsA acc (if y.length ≤ lim then some y else none) fun a => fsL fs a ρ) := P
    by_cases hy : y.length ≤ lim
    · rw [if_pos hy] at P1
      have P2 : Post T W (tlE T) σ B FB OB Q (if (acc ++ y).length ≤ lim then fsL fs (acc ++ y) ρ else none) := P1
      split at P2
      · rename_i ha
        exact ⟨y, rfl, lm ha, ih x E P2⟩
      · exact P2.elim
    · rw [if_neg hy] at P1
      exact P1.elim
  | @fm e f p es fs ts he _ ih =>
    intro acc σ ρ B H FB F OB O Q x E P
    refine stp x E P fun v H1 r ρ1 F1 O1 x1 y1 E1 r1 P1 => ?_
    cases q1 : val ρ1 r with
    | none => rw [q1] at P1; exact P1.elim
    | some d =>
      rw [q1] at P1
      have vw := val_vw E1 r1 q1
      cases d with
      | str y =>
        obtain rfl := vw.str
        have P2 : Post T W (tlE T) σ B FB OB Q (fsA acc (if y.length ≤ lim then some y else none) fun a => fsL fs a ρ1) := P1
        by_cases hy : y.length ≤ lim
        · rw [if_pos hy] at P2
          have P3 : Post T W (tlE T) σ B FB OB Q (if (acc ++ y).length ≤ lim then fsL fs (acc ++ y) ρ1 else none) := P2
          split at P3
          · rename_i ha
            exact .inl ⟨y, rfl, lm hy, y, rfl, lm ha, ih y1 E1 P3⟩
          · exact P3.elim
        · rw [if_neg hy] at P2
          exact P2.elim
      | int i =>
        obtain rfl := vw.int
        have P2 : Post T W (tlE T) σ B FB OB Q (fsA acc (if i.natAbs.log2 < 1920 then some (toString i : Str) else none) fun a => fsL fs a ρ1) := P1
        by_cases hy : i.natAbs.log2 < 1920
        · rw [if_pos hy] at P2
          have P3 : Post T W (tlE T) σ B FB OB Q (if (acc ++ (toString i : Str)).length ≤ lim then fsL fs (acc ++ (toString i : Str)) ρ1 else none) := P2
          split at P3
          · rename_i ha
            exact .inr ⟨i, rfl, hy, _, rfl, lm ha, ih y1 E1 P3⟩
          · exact P3.elim
        · rw [if_neg hy] at P2
          exact P2.elim
      | _ => exact P1.elim
end
section
variable {X : Cx} {T : Tb} {W : WX} {N : List Str} {sc : Scope} {n : Nat} {e : Expr} {f : AM} {p pos : Pos}
@[simp] theorem strD_e (i : Int) : strD (.int i) = if i.natAbs.log2 < 1920 then some (R.dat (.str (nS i))) else none := eqI rfl
end
end DL
namespace DL
open PySem PyProof.Rows
open L2 hiding Sp
/-- a text turned about -/
def revS (x : Str) : Str := ⟨((Builtin.Str.strSliceIndices none none (-1) x.length).filterMap (x.cps[·]?)).toArray⟩
def revSD : PyData → Option R
  | .str x => if (revS x).length ≤ lim then some (.dat (.str (revS x))) else none
  | _ => none
@[simp] theorem revSD_e (x : Str) : revSD (.str x) = if (revS x).length ≤ lim then some (R.dat (.str (revS x))) else none := eqI rfl
section
variable {X : Cx} {T : Tb} {W : WX} {e o : Expr} {f fo fe : EM} {pos apos : Pos}
/-- x.count(y) -/
def cntSD : PyData → PyData → Option R
  | .str a, .str b => some (.dat (.int (Txt.count a b)))
  | _, _ => none
@[simp] theorem cntSD_e (a b : Str) : cntSD (.str a) (.str b) = some (R.dat (.int (Txt.count a b))) := eqI rfl
/-- x.strip(y) -/
def stripSD : PyData → PyData → Option R
  | .str a, .str b => if a.length ≤ lim then some (.dat (.str (Txt.stripChars a b))) else none
  | _, _ => none
@[simp] theorem stripSD_e (a b : Str) : stripSD (.str a) (.str b) = if a.length ≤ lim then some (R.dat (.str (Txt.stripChars a b))) else none := eqI rfl
end
def gtLM (gs : GsM) : GM := fun d ρ => match d with
  | .tuple ds => gs ds ρ
  | .list ds => gs ds ρ
  | _ => none
@[simp] theorem gtLM_t (gs : GsM) (ds : List PyData) (ρ : Rho) : gtLM gs (.tuple ds) ρ = gs ds ρ := eqI rfl
@[simp] theorem gtLM_l (gs : GsM) (ds : List PyData) (ρ : Rho) : gtLM gs (.list ds) ρ = gs ds ρ := eqI rfl
end DL
namespace DL
open PySem PyProof.Rows
open L2 hiding Sp
def leS (x y : Str) : Prop := x.cps.toList ≤ y.cps.toList
instance (x y : Str) : Decidable (leS x y) := inferInstanceAs (Decidable (x.cps.toList ≤ y.cps.toList))
theorem leS_trans {x y z : Str} (h : leS x y) (k : leS y z) : leS x z := List.le_trans h k
theorem leS_total (x y : Str) : leS x y ∨ leS y x := List.le_total _ _
theorem leS_anti {x y : Str} (h : leS x y) (k : leS y x) : x = y := Str.ext' (Array.toList_inj.mp (List.le_antisymm h k))
theorem lt_false {x y : Str} (h : Spec.ltCps y.cps.toList x.cps.toList = false) : leS x y := by
  rw [ltCps_eq] at h
  exact List.not_lt.mp (by simpa using h)
def sortSt (l : List Str) : List Str := l.mergeSort fun a b => decide (leS a b)
theorem sortSt_perm (l : List Str) : (sortSt l).Perm l := List.mergeSort_perm l _
theorem sortSt_pw (l : List Str) : (sortSt l).Pairwise leS := by
  have := List.pairwise_mergeSort (le := fun a b : Str => decide (leS a b)) (fun a b c h k => decide_eq_true (leS_trans (of_decide_eq_true h) (of_decide_eq_true k))) (fun a b => by
    rcases leS_total a b with h | h
    · simp [h]
    · simp [h]) l
  exact this.imp fun h => of_decide_eq_true h
theorem rising_pw : ∀ (l : List Str) (p : Str), risingS p l = true → (p :: l).Pairwise leS
  | [], p, _ => by simp
  | x :: r, p, h => by
    have h' : (!Spec.ltCps x.cps.toList p.cps.toList && risingS x r) = true := h
    rw [Bool.and_eq_true, Bool.not_eq_true'] at h'
    have ih := rising_pw r x h'.2
    have l := lt_false h'.1
    rw [List.pairwise_cons]
    refine ⟨fun y hy => ?_, ih⟩
    rcases List.mem_cons.mp hy with rfl | hy
    · exact l
    · exact leS_trans l ((List.pairwise_cons.mp ih).1 y hy)
theorem sorted_pw : ∀ {l : List Str}, sortedS l = true → l.Pairwise leS
  | [], _ => .nil
  | x :: r, h => rising_pw r x h
theorem sortSt_uniq : ∀ {l m : List Str}, l.Perm m → l.Pairwise leS → m.Pairwise leS → l = m
  | [], m, p, _, _ => by rw [p.symm.eq_nil]
  | x :: l, [], p, _, _ => absurd p.eq_nil (by simp)
  | x :: l, y :: m, p, h1, h2 => by
    rw [List.pairwise_cons] at h1 h2
    have e : x = y := by
      rcases List.mem_cons.mp (p.subset (List.mem_cons_self ..)) with z | z
      · exact z
      · rcases List.mem_cons.mp (p.symm.subset (List.mem_cons_self ..)) with w | w
        · exact w.symm
        · exact leS_anti (h1.1 y w) (h2.1 x z)
    subst e
    rw [sortSt_uniq (List.perm_cons _ |>.mp p) h1.2 h2.2]
end DL
namespace DL
open PySem PyProof.Rows
open L2 hiding Sp
def PostR (T : Tb) (B : Hp) (FB : Reg) (OB : Ows) (σ : L2.St) (Q : VK) (E : XK) (bk : Rho → Rho) : Option (Oe R) → Prop
  | some (.ok r os) => ∀ v H2 F2 O2, Ext false B FB OB H2 F2 O2 → EnvR T H2 F2 O2 σ (bk os) → (∀ σ2, ResR T B H2 F2 O2 σ2 v r) → Q v H2
  | some (.er c fs os) => ∀ cls d H2 F2 O2, Ext false B FB OB H2 F2 O2 → EnvR T H2 F2 O2 σ (bk os) → ExcR T H2 cls d c fs → E cls d H2
  | none => False
theorem slt_no {T : Tb} {H0 H H1 : Hp} {F F1 : Reg} {O O1 : Ows} {v : V} {σ : L2.St} : ∀ {r : R}, ResR T H0 H F O [] v r → ResR T H1 H F1 O1 σ v r → ∀ σ2, ResR T H1 H F1 O1 σ2 v r
  | .dat _, _, h, _ => h
  | .own _, _, h, _ => h
  | .slt _, h, _, _ => by
    have h' : ([] : L2.St)[_]? = some (some v) := h
    simp at h'
  | .fn _, _, h, _ => h
  | .st _, _, h, _ => h
  | .ex _ _, _, h, _ => h
  | .two _ _, _, h, _ => h
  | .obj _, _, h, _ => h
  | .prt _ _, ⟨_, _, _, _, h, _⟩, _, _ => by simp at h
theorem call_core {T : Tb} {B H : Hp} {FB F : Reg} {OB O : Ows} {σ : L2.St} {ρ : Rho} {vs : List V} {rs args : List R} {n : Nat} {sem : Sem} {Q : VK} {E : XK} (En : EnvR T H F O σ ρ) (yB : Ext false B FB OB H F O) (hd : dist rs = true) (r : ResRs T B H F O σ vs rs) (q : passA ρ rs = some args) (hl : vs.length = n)
    (P : PostR T B FB OB σ Q E (backA ρ rs) (sem args)) : spOf T n sem vs H Q E := by
  obtain ⟨L, tm⟩ := tmps r
  refine ⟨args, F, Oa L O rs, hl, env_args En hd r tm q, ?_⟩
  cases q2 : sem args with
  | none => rw [q2] at P; exact P.elim
  | some o =>
    rw [q2] at P
    cases o with
    | ok r' os =>
      intro v H2 F2 O2 x2 E2 r2
      obtain ⟨O3, x3, E3, sb⟩ := env_back En hd r tm q yB x2 E2
      exact P v H2 F2 O3 x3 E3 (slt_no r2 ((res_back En sb r2).back yB.live))
    | er c fs os =>
      intro cls d H2 F2 O2 x2 E2 r2
      obtain ⟨O3, x3, E3, sb⟩ := env_back En hd r tm q yB x2 E2
      exact P cls d H2 F2 O3 x3 E3 r2
def isLed : Option (Option R) → Bool
  | some (some (.obj (.led _ _))) => true
  | _ => false
def isDsk : Option (Option R) → Bool
  | some (some (.obj (.dsk _ _))) => true
  | _ => false
theorem isLed_ex {x : Option (Option R)} (h : isLed x = true) : ∃ ts ss, x = some (some (.obj (.led ts ss))) := by
  unfold isLed at h
  split at h
  · exact ⟨_, _, rfl⟩
  · cases h
theorem isDsk_ex {x : Option (Option R)} (h : isDsk x = true) : ∃ ts ss, x = some (some (.obj (.dsk ts ss))) := by
  unfold isDsk at h
  split at h
  · exact ⟨_, _, rfl⟩
  · cases h
/-- the class of ledgers (b) or of desks -/
def Tb.cl (T : Tb) (b : Bool) : Addr := if b = true then T.lc else T.dc
/-- a method of an own class: its name, its place, its promise; dds: the defaults that are left out -/
structure FnM (P : Program) (w : World) (mg : Str → Option Value) (base : Heap) (T : Tb) (b : Bool) (x : Str) (k n : Nat) (sem : Sem) (dds : List PyData) : Prop where
  cl : Cls T.K (T.cl b)
  ex : ∃ f fd ps dus dvs, Meth T.K (T.cl b) x f ∧ Binds T.K fd ps dus ∧ ps.length = n ∧ FnG P w T.K mg base k f fd ps (spOf T n sem) ∧ Vals dvs dus ∧ ∀ H F, DFs T.K H F dvs dds
def isOb (b : Bool) (x : Option (Option R)) : Bool := if b = true then isLed x else isDsk x
/-- o.m(e, ..): o's method m where o is a slot's object -/
def metM (b : Bool) (i : Nat) (sem : Sem) (dds : List PyData) (fa : AM) : EM := fun ρ => if isOb b ρ[i]? = true then callM sem (appA (consA (nmM i) fa) dds) ρ else none
def metName (m : Str) : Bool := !(m == "tellings") && !(m == "stood") && !(m == "kept")
theorem met_led {m : Str} {t s : Addr} (h : metName m = true) : (ledF t s).lookup m = none := by
  unfold metName at h
  simp only [Bool.and_eq_true, Bool.not_eq_true'] at h
  unfold ledF
  rw [List.lookup_cons, h.1.1, List.lookup_cons, h.1.2]
  rfl
theorem met_dsk {m : Str} {a : Addr} (h : metName m = true) : ([("kept", V.ref a)] : List (Str × V)).lookup m = none := by
  unfold metName at h
  simp only [Bool.and_eq_true, Bool.not_eq_true'] at h
  rw [List.lookup_cons, h.2]
  rfl
theorem ob_at {T : Tb} {H : Hp} {F : Reg} {O : Ows} {σ : L2.St} {ρ : Rho} {b : Bool} {i : Nat} (E : EnvR T H F O σ ρ) (h : isOb b ρ[i]? = true) : ∃ a dx fs, σ[i]? = some (some (.ref a)) ∧ H a = some (.ins (T.cl b) dx fs) ∧ ∀ m, metName m = true → fs.lookup m = none := by
  unfold isOb at h
  cases b with
  | true =>
    rw [if_pos rfl] at h
    obtain ⟨ts, ss, e⟩ := isLed_ex h
    obtain ⟨v, hv, a, dx, t, s, rfl, _, _, h2, _⟩ := E.at_ i _ e
    exact ⟨a, dx, _, hv, h2, fun m hm => met_led hm⟩
  | false =>
    rw [if_neg Bool.false_ne_true] at h
    obtain ⟨ts, ss, e⟩ := isDsk_ex h
    obtain ⟨v, hv, a, dx, c, rfl, h2, _⟩ := E.at_ i _ e
    exact ⟨a, dx, _, hv, h2, fun m hm => met_dsk hm⟩
section
variable {X : Cx} {T : Tb} {W : WX} {o e : Expr} {es : List Expr} {fa : AM} {x m : Str} {k n nn : Nat} {f C : Addr} {fd : FuncData} {ps : List Str} {p pos apos np : Pos} {ta : TE} {t : TA} {sem : Sem}
theorem run_g {pins : List (Addr × Obj)} {σ : L2.St} {H : Hp} {s : Shared} {sp : L2.Sp} {Q : VK} {us dus : List Value} {vs dvs : List V} (F : FnG X.prog X.w X.K X.mg X.base k f fd ps sp) (c : Cxt X T W n) (hk : k ≤ n) (hb : Binds X.K fd ps dus) (hv : Vals dvs dus) (I : Inv X pins σ H s) (r : Vals vs us) (h : sp (vs ++ dvs) H Q fun cls d H' => W cls d σ H') : wpAny (model X.prog X.w) X.A (call (.ref f) us) (EP X pins σ Q) X.xe s := by
  have r2 := r.append hv
  have hl : (us ++ dus).length = ps.length := by rw [← r2.length]; exact F.len _ _ _ _ h
  have bb := hb s us I.kIn hl
  refine wpAny_call (codeAny_mono (F.run X.A X.stack s H ⟨us, []⟩ (us ++ dus) (vs ++ dvs) Q _ c.gd (c.room.mono hk) I.env0 bb r2 h) fun r' s' hq => ?_)
  cases r' with
  | error e => exact c.tk e s' (XE.of_call I (fun _ _ _ z => z) hq)
  | ok fl =>
    cases fl with
    | ret u => exact I.after hq
    | next => exact hq.elim
    | brk => exact hq.elim
    | cont => exact hq.elim
/-- o.m(e, ..) -/
theorem pe_methG {pl : PySem.Sem Bool} {sp : L2.Sp} (he : PE X o ta) (cl : Cls X.K C) (hm : Meth X.K C m f) (F : FnG X.prog X.w X.K X.mg X.base k f fd ps sp) (c : Cxt X T W n) (hk : k ≤ n) {dus : List Value} {dvs : List V} (hb : Binds X.K fd ps dus) (hv : Vals dvs dus) (ha : PA X (e :: es) t)
    (hst : starEach (e :: es) X.env = (false, eval e X.env) :: starEach es X.env := by rfl) (hpl : (backTo pos (starEach es X.env)).any (·.1) = false := by rfl)
    (ht : eval (.Call (.Attribute o m apos) (e :: es) [] pos) X.env = (do
      let ov ← eval o X.env
      standAt apos.atName
      let (f, first) ← holding [ov] (getMethod ov m pl)
      callWith pos f first (backTo pos (starEach (e :: es) X.env)) (backToKw pos (keywordEach [] X.env))) := by rfl) :
    PE X (.Call (.Attribute o m apos) (e :: es) [] pos) (fun σ H Q => ta σ H fun x H1 => ∃ a dx fs, x = .ref a ∧ H1 a = some (.ins C dx fs) ∧ fs.lookup m = none ∧ t σ H1 fun vs H2 => sp ((x :: vs) ++ dvs) H2 Q fun cls d H' => W cls d σ H') := by
  refine ⟨fun pins s σ H Q I h => ?_⟩
  refine PySem.W.methodCall_KW (pl := pl) (thn (he.run pins s σ H _ I h) fun u s1 ⟨x, H1, I1, rx, a, dx, fs, ex, ea, l, q⟩ => ?_) ht
  subst ex
  obtain rfl : u = Value.ref a := rx
  refine getmeth_ok I1 ea cl hm l ?_
  refine PySem.W.callWith_K (first := [.ref a]) (h₀ := X.base) I.ok.mod.kin hm.kp (thn (ha.run pos pins s1 σ H1 _ I1 q) fun us s2 ⟨vs, H2, I2, r, q2⟩ => ⟨I2.kIn, ?_⟩) hst hpl
  exact run_g (us := .ref a :: us) (vs := .ref a :: vs) F c hk hb hv I2 (.cons rfl r) q2
/-- o.m() -/
theorem pe_methG0 {pl : PySem.Sem Bool} {sp : L2.Sp} (he : PE X o ta) (cl : Cls X.K C) (hm : Meth X.K C m f) (F : FnG X.prog X.w X.K X.mg X.base k f fd ps sp) (c : Cxt X T W n) (hk : k ≤ n) {dus : List Value} {dvs : List V} (hb : Binds X.K fd ps dus) (hv : Vals dvs dus)
    (ht : eval (.Call (.Attribute o m apos) [] [] pos) X.env = (do
      let ov ← eval o X.env
      standAt apos.atName
      let (f, first) ← holding [ov] (getMethod ov m pl)
      callWith pos f first (backTo pos (starEach [] X.env)) (backToKw pos (keywordEach [] X.env))) := by rfl) :
    PE X (.Call (.Attribute o m apos) [] [] pos) (fun σ H Q => ta σ H fun x H1 => ∃ a dx fs, x = .ref a ∧ H1 a = some (.ins C dx fs) ∧ fs.lookup m = none ∧ sp ([x] ++ dvs) H1 Q fun cls d H' => W cls d σ H') := by
  refine ⟨fun pins s σ H Q I h => ?_⟩
  refine PySem.W.methodCall_KW (pl := pl) (thn (he.run pins s σ H _ I h) fun u s1 ⟨x, H1, I1, rx, a, dx, fs, ex, ea, l, q⟩ => ?_) ht
  subst ex
  obtain rfl : u = Value.ref a := rx
  refine getmeth_ok I1 ea cl hm l ?_
  exact PySem.W.callWith_K0 (first := [.ref a]) I1.kIn hm.kp (run_g (us := [.ref a]) (vs := [.ref a]) F c hk hb hv I1 (.cons rfl .nil) q)
/-- the arguments behind a receiver -/
theorem met_of {b : Bool} {i : Nat} {dds : List PyData} {dvs : List V} {σ : L2.St} {H : Hp} {Q : VK} {a : Addr} {ρ : Rho} {F : Reg} {O : Ows} (hd : ∀ H F, DFs T.K H F dvs dds) (hl : ∀ args o, sem args = some o → args.length = n) (E : EnvR T H F O σ ρ) (hi : isOb b ρ[i]? = true) (ha : σ[i]? = some (some (.ref a)))
    (P : Post T W (tlE T) σ H F O Q (callM sem (appA (consA (nmM i) fa) dds) ρ)) : Tof T W (tlA T) fa σ H fun vs H1 => spOf T n sem ((.ref a :: vs) ++ dvs) H1 Q fun cls d H' => W cls d σ H' := by
  have nm : nmM i ρ = some (.ok (.slt i) ρ) := by
    unfold isOb at hi
    unfold nmM
    split at hi
    · obtain ⟨ts, ss, e⟩ := isLed_ex hi; rw [e]
    · obtain ⟨ts, ss, e⟩ := isDsk_ex hi; rw [e]
  refine ⟨ρ, F, O, E, ?_⟩
  unfold callM appA consA at P
  rw [nm] at P
  simp only [bindO_ok] at P
  cases q : fa ρ with
  | none => rw [q] at P; exact P.elim
  | some o =>
    rw [q] at P
    cases o with
    | er c fs ρ1 => exact P
    | ok rs ρ1 =>
      intro vs H1 F1 O1 x1 E1 r1
      have P1 : Post T W (tlE T) σ H F O Q (if dist ((R.slt i :: rs) ++ dds.map R.dat) = true then (match passA ρ1 ((R.slt i :: rs) ++ dds.map R.dat) with
        | some args => (match sem args with
          | some (.ok r os) => some (.ok r (backA ρ1 ((R.slt i :: rs) ++ dds.map R.dat) os))
          | some (.er c fs os) => some (.er c fs (backA ρ1 ((R.slt i :: rs) ++ dds.map R.dat) os))
          | none => none)
        | none => none) else none) := P
      split at P1
      · rename_i hdi
        cases q2 : passA ρ1 ((R.slt i :: rs) ++ dds.map R.dat) with
        | none => rw [q2] at P1; exact P1.elim
        | some args =>
          rw [q2] at P1
          dsimp only at P1
          have rr : ResRs T H H1 F1 O1 σ ((.ref a :: vs) ++ dvs) ((R.slt i :: rs) ++ dds.map R.dat) := resRs_app (hd H1 F1) (.cons ha r1)
          cases q3 : sem args with
          | none => rw [q3] at P1; exact P1.elim
          | some o =>
            rw [q3] at P1
            refine call_core (B := H) E1 x1 hdi rr q2 (by rw [resRs_len rr, ← passA_len q2]; exact hl args o q3) ?_
            rw [q3]
            cases o with
            | ok r os => exact fun v H2 F2 O2 x2 E2 r2 => P1 v H2 F2 O2 x2 E2 (r2 σ)
            | er c fs os => exact P1
      · exact P1.elim
theorem se_met {b : Bool} {i : Nat} {dds : List PyData} {pl : PySem.Sem Bool} (ho : PE X o (tVar i)) (c : Cxt X T W nn) (h : FnM X.prog X.w X.mg X.base T b m k n sem dds) (hl : ∀ args o, sem args = some o → args.length = n) (hk : k ≤ nn) (hm : metName m = true) (ha : SA X T W (e :: es) fa)
    (hst : starEach (e :: es) X.env = (false, eval e X.env) :: starEach es X.env := by rfl) (hpl : (backTo pos (starEach es X.env)).any (·.1) = false := by rfl)
    (ht : eval (.Call (.Attribute o m apos) (e :: es) [] pos) X.env = (do
      let ov ← eval o X.env
      standAt apos.atName
      let (f, first) ← holding [ov] (getMethod ov m pl)
      callWith pos f first (backTo pos (starEach (e :: es) X.env)) (backToKw pos (keywordEach [] X.env))) := by rfl) : SE X T W (.Call (.Attribute o m apos) (e :: es) [] pos) (metM b i sem dds fa) := by
  obtain ⟨cl, f, fd, ps, dus, dvs, hme, hb, hn, G, hv, hd⟩ := h
  rw [← c.hK] at cl hme hb G
  refine pe_imp (pe_methG ho cl hme G c hk hb hv ha hst hpl ht) fun σ H Q ⟨ρ, F, O, E, P⟩ => ?_
  unfold metM at P
  split at P
  · rename_i hi
    obtain ⟨a, dx, fs, h1, h2, h3⟩ := ob_at E hi
    exact ⟨.ref a, h1, a, dx, fs, rfl, h2, h3 m hm, met_of hd hl E hi h1 P⟩
  · exact P.elim
theorem se_met0 {b : Bool} {i : Nat} {dds : List PyData} {pl : PySem.Sem Bool} (ho : PE X o (tVar i)) (c : Cxt X T W nn) (h : FnM X.prog X.w X.mg X.base T b m k n sem dds) (hl : ∀ args o, sem args = some o → args.length = n) (hk : k ≤ nn) (hm : metName m = true)
    (ht : eval (.Call (.Attribute o m apos) [] [] pos) X.env = (do
      let ov ← eval o X.env
      standAt apos.atName
      let (f, first) ← holding [ov] (getMethod ov m pl)
      callWith pos f first (backTo pos (starEach [] X.env)) (backToKw pos (keywordEach [] X.env))) := by rfl) : SE X T W (.Call (.Attribute o m apos) [] [] pos) (metM b i sem dds nilA) := by
  obtain ⟨cl, f, fd, ps, dus, dvs, hme, hb, hn, G, hv, hd⟩ := h
  rw [← c.hK] at cl hme hb G
  refine pe_imp (pe_methG0 ho cl hme G c hk hb hv ht) fun σ H Q ⟨ρ, F, O, E, P⟩ => ?_
  unfold metM at P
  split at P
  · rename_i hi
    obtain ⟨a, dx, fs, h1, h2, h3⟩ := ob_at E hi
    obtain ⟨ρ1, F1, O1, E1, P1⟩ := met_of hd hl E hi h1 P
    exact ⟨.ref a, h1, a, dx, fs, rfl, h2, h3 m hm, P1 [] H F1 O1 .refl E1 .nil⟩
  · exact P.elim
end
end DL
namespace DL
open PySem PyProof.Rows
open L2 hiding Sp
/-- what is asked of the classes -/
structure LedC (T : Tb) : Prop where
  cl : Cls T.K T.lc
  n0 : NoAttr T.K T.lc "tellings"
  n1 : NoAttr T.K T.lc "stood"
def ptN (k : Nat) : Str := if k = 0 then "tellings" else "stood"
/-- o.tellings, o.stood, o a slot's ledger -/
def prtM (i k : Nat) : EM := fun ρ => if isLed ρ[i]? = true then some (.ok (.prt i k) ρ) else none
def addP (k : Nat) (d : PyData) (ts ss : List PyData) : OD := if k = 0 then .led (ts ++ [d]) ss else .led ts (ss ++ [d])
def appPR (i k : Nat) (d : PyData) (ρ : Rho) : Option (Option R) → Option Ot
  | some (some (.obj (.led ts ss))) => if (if k = 0 then ts else ss).length < lim then some (.nx (ρ.set i (some (.obj (addP k d ts ss))))) else none
  | _ => none
/-- o.tellings.append(e) -/
def appPM (i k : Nat) (fe : EM) : SM := fun ρ => if isLed ρ[i]? = true then bindS (fe ρ) fun r ρ1 => match frz ρ1 r with
    | some (d, ρ2) => appPR i k d ρ2 ρ2[i]?
    | none => none
  else none
def cutP (k : Nat) (ts ss : List PyData) : OD := if k = 0 then .led ts.dropLast ss else .led ts ss.dropLast
def popPR (i k : Nat) (ρ : Rho) : Option (Option R) → Option (Oe R)
  | some (some (.obj (.led ts ss))) => match (if k = 0 then ts else ss).getLast? with
    | some d => some (.ok (.dat d) (ρ.set i (some (.obj (cutP k ts ss)))))
    | none => none
  | _ => none
/-- o.tellings.pop() -/
def popPM (i k : Nat) : EM := fun ρ => popPR i k ρ ρ[i]?
section
variable {T : Tb} {H : Hp} {F : Reg} {O : Ows} {σ : L2.St} {ρ : Rho}
/-- a list of what a slot alone holds changes -/
theorem EnvR.mutO {i : Nat} {a : Addr} {r r' : R} {o : HO} {s : Bool} (E : EnvR T H F O σ ρ) (h : ρ[i]? = some (some r)) (ho : a ∈ O i) (new : ∀ v, SlotR T H F (O i) v r → Kept F H (upd H a o) → SlotR T (upd H a o) F (O i) v r') :
    EnvR T (upd H a o) F O σ (ρ.set i (some r')) ∧ Ext s H F O (upd H a o) F O ∧ Kept F H (upd H a o) := by
  have x : Ext s H F O (upd H a o) F O := ⟨fun b u hb n _ => by rw [upd_ne (show b ≠ a from fun z => n i (by rw [z]; exact ho))]; exact hb, fun b hb => by
    by_cases e : b = a
    · subst e; rw [upd_same] at hb; cases hb
    · rw [upd_ne e] at hb; exact hb, fun _ h => h, fun _ h => .inl h, fun _ _ h => .inl h⟩
  have k := E.kept x
  have hl : i < ρ.length := lt_of_at h
  refine ⟨⟨by rw [List.length_set]; exact E.len, fun j r e => ?_, fun j b e => ?_, E.inj, E.nf, fun b hb z => ?_, by
    obtain ⟨u, hu, _⟩ := E.there ho
    exact tabs_put E.tb hu (E.nc ho hu)⟩, x, k⟩
  · by_cases hj : j = i
    · subst hj
      rw [List.getElem?_set_self hl] at e
      cases e
      obtain ⟨v, h1, h2⟩ := E.at_ j _ h
      exact ⟨v, h1, new v h2 k⟩
    · rw [List.getElem?_set_ne (Ne.symm hj)] at e
      obtain ⟨v, h1, h2⟩ := E.at_ j r e
      exact ⟨v, h1, h2.mono k (fun _ h => h) fun b u hb hu => by
        have n : b ≠ a := fun z => hj (E.inj j i a (z ▸ hb) ho)
        rw [upd_ne n]; exact hu⟩
  · by_cases hj : j = i
    · subst hj
      exact ⟨_, by rw [List.getElem?_set_self hl]⟩
    · rw [List.getElem?_set_ne (Ne.symm hj)]
      exact E.own j b e
  · by_cases e : b = a
    · subst e; exact E.nf i b ho hb
    · rw [upd_ne e] at z; exact E.lv b hb z
/-- a ledger in a slot, with its lists -/
theorem led_at (E : EnvR T H F O σ ρ) {i : Nat} {ts ss : List PyData} (h : ρ[i]? = some (some (.obj (.led ts ss)))) : ∃ a dx t s vs us, σ[i]? = some (some (.ref a)) ∧ O i = [t, s] ∧ t ≠ s ∧ H a = some (.ins T.lc dx (ledF t s)) ∧ H t = some (.lst vs) ∧ DFs T.K H F vs ts ∧ H s = some (.lst us) ∧ DFs T.K H F us ss := by
  obtain ⟨v, h1, a, dx, t, s, rfl, h2, h3, h4, ⟨vs, h5, h6⟩, us, h7, h8⟩ := E.at_ i _ h
  exact ⟨a, dx, t, s, vs, us, h1, h2, h3, h4, h5, h6, h7, h8⟩
/-- the place of one of its lists, and what it turns into -/
theorem led_put (E : EnvR T H F O σ ρ) {i k : Nat} {ts ss : List PyData} (h : ρ[i]? = some (some (.obj (.led ts ss)))) : ∃ a dx t s l xs, σ[i]? = some (some (.ref a)) ∧ H a = some (.ins T.lc dx (ledF t s)) ∧ (ledF t s).lookup (ptN k) = some (.ref l) ∧ H l = some (.lst xs) ∧ DFs T.K H F xs (if k = 0 then ts else ss) ∧
    ∀ (ys : List V) (ds : List PyData) (b : Bool), (Kept F H (upd H l (.lst ys)) → DFs T.K (upd H l (.lst ys)) F ys ds) → EnvR T (upd H l (.lst ys)) F O σ (ρ.set i (some (.obj (if k = 0 then .led ds ss else .led ts ds)))) ∧ Ext b H F O (upd H l (.lst ys)) F O ∧ Kept F H (upd H l (.lst ys)) := by
  obtain ⟨a, dx, t, s, vs, us, h1, h2, h3, h4, h5, h6, h7, h8⟩ := led_at E h
  by_cases hk : k = 0
  · subst hk
    refine ⟨a, dx, t, s, t, vs, h1, h4, rfl, h5, h6, fun ys ds b hd => ?_⟩
    refine E.mutO h (by rw [h2]; simp) fun v q k => ?_
    obtain ⟨a', dx', t', s', e1, e2, e3, e4, e5, e6⟩ := q
    rw [h2] at e2
    cases e2
    exact ⟨a', dx', t, s, e1, by rw [h2], h3, k _ _ e4 (.inr trivial), ⟨ys, upd_same, hd k⟩, e6.mono k (fun _ h => h) fun o ho => by rw [upd_ne (Ne.symm h3)]; exact ho⟩
  · refine ⟨a, dx, t, s, s, us, h1, h4, ?_, h7, by rw [if_neg hk]; exact h8, fun ys ds b hd => ?_⟩
    · unfold ptN ledF
      rw [if_neg hk]
      rfl
    · rw [if_neg hk]
      refine E.mutO h (by rw [h2]; simp) fun v q k => ?_
      obtain ⟨a', dx', t', s', e1, e2, e3, e4, e5, e6⟩ := q
      rw [h2] at e2
      cases e2
      exact ⟨a', dx', t, s, e1, by rw [h2], h3, k _ _ e4 (.inr trivial), e5.mono k (fun _ h => h) (fun o ho => by rw [upd_ne h3]; exact ho), ⟨ys, upd_same, hd k⟩⟩
end
section
variable {X : Cx} {T : Tb} {W : WX} {φ : Fm} {o : Expr} {fe : EM} {pos apos : Pos} {i k : Nat} {f : Str}
theorem LedC.na {k : Nat} (C : LedC T) : NoAttr T.K T.lc (ptN k) := by
  unfold ptN
  split
  · exact C.n0
  · exact C.n1
theorem pe_pt (hK : X.K = T.K) (C : LedC T) (ho : PE X o (tVar i)) (k : Nat) (hf : f = ptN k) (hb : attributeBase o f X.env (eval o X.env) = eval o X.env) : PE X (.Attribute o f pos) (fun σ H Q => ∃ a dx t s l, σ[i]? = some (some (.ref a)) ∧ H a = some (.ins T.lc dx (ledF t s)) ∧ (ledF t s).lookup f = some (.ref l) ∧ Q (.ref l) H) := by
  refine pe_imp (pe_fld ho hb) fun σ H Q ⟨a, dx, t, s, l, h1, h2, h3, q⟩ => ?_
  rw [hK]
  refine ⟨.ref a, h1, a, T.lc, dx, _, .ref l, rfl, h2, C.cl, ?_, h3, q⟩
  subst hf
  exact C.na
theorem se_pt (hK : X.K = T.K) (C : LedC T) (ho : PE X o (tVar i)) (k : Nat) (hf : f = ptN k) (hb : attributeBase o f X.env (eval o X.env) = eval o X.env) : SE X T W (.Attribute o f pos) (prtM i k) := by
  refine pe_imp (pe_pt hK C ho k hf hb) fun σ H Q ⟨ρ, F, O, E, P⟩ => ?_
  unfold prtM at P
  split at P
  · rename_i hi
    obtain ⟨ts, ss, e⟩ := isLed_ex hi
    obtain ⟨a, dx, t, s, vs, us, h1, h2, h3, h4, h5, h6, h7, h8⟩ := led_at E e
    subst hf
    by_cases hk : k = 0
    · subst hk
      exact ⟨a, dx, t, s, t, h1, h4, rfl, P (.ref t) H F O .refl E ⟨a, dx, t, s, h1, h4, rfl⟩⟩
    · refine ⟨a, dx, t, s, s, h1, h4, ?_, P (.ref s) H F O .refl E ⟨a, dx, t, s, h1, h4, by rw [if_neg hk]⟩⟩
      unfold ptN ledF
      rw [if_neg hk]
      rfl
  · exact P.elim
theorem ss_appP {ex : Expr} (C : LedC T) (hf : f = ptN k) (h : PE X ex (tBM X.K "list" rAppend (fun σ H Q => ∃ a dx t s l, σ[i]? = some (some (.ref a)) ∧ H a = some (.ins T.lc dx (ledF t s)) ∧ (ledF t s).lookup f = some (.ref l) ∧ Q (.ref l) H) (tCons (Tof T W (tlE T) fe) tNil))) (hs : swapsWith ex none pos.line X.env = pure false := by rfl) : SS X T W φ (.Expr ex pos) (appPM i k fe) := by
  refine ps_imp (ps_expr h hs) fun D σ H ⟨ρ, F, O, S, P⟩ => ?_
  unfold appPM at P
  split at P
  · rename_i hi
    obtain ⟨ts, ss, e⟩ := isLed_ex hi
    obtain ⟨a, dx, t, s, l, xs, h1, h2, h3, h4, h5, _⟩ := led_put (k := k) S.E e
    subst hf
    refine ⟨a, dx, t, s, l, h1, h2, h3, .inl ⟨rfl, xs, .inl (.inl h4)⟩, ?_⟩
    refine sps .refl .refl S P fun v H1 r ρ1 F1 O1 x1 y1 S1 r1 P1 => ?_
    cases q : frz ρ1 r with
    | none => rw [q] at P1; exact P1.elim
    | some z =>
      obtain ⟨d, ρ2⟩ := z
      rw [q] at P1
      dsimp only at P1
      obtain ⟨F2, O2, y2, E2, d2, _, sb, _⟩ := fz y1 (fun _ h => h) S1.E r1 q
      unfold appPR at P1
      split at P1
      · rename_i ts' ss' q2
        by_cases hz : (if k = 0 then ts' else ss').length < lim
        · rw [if_pos hz] at P1
          obtain ⟨a', dx', t', s', l', xs', g1, g2, g3, g4, g5, g6⟩ := led_put (k := k) E2 q2
          rw [h1] at g1
          cases g1
          have e2 := (S.E.kept x1) _ _ h2 (.inr trivial)
          rw [e2] at g2
          cases g2
          rw [h3] at g3
          cases g3
          refine ⟨l, xs', v, rfl, rfl, g4, by rw [g5.length]; exact Nat.lt_of_lt_of_le hz (by decide), ?_⟩
          obtain ⟨E3, x3, k3⟩ := g6 (xs' ++ [v]) ((if k = 0 then ts' else ss') ++ [d]) true fun k => (g5.append (.cons d2 .nil)).mono k fun _ h => h
          refine P1 σ _ F2 O2 (y2.trans x3) ⟨?_, fun b h => S1.lb b (x3.live b h), fun j b hj q => S1.lf j b hj (sb j b q)⟩ .refl
          unfold addP
          split <;> rename_i hk <;> simpa [hk] using E3
        · rw [if_neg hz] at P1; exact P1.elim
      · exact P1.elim
  · exact P.elim
theorem se_popP {ex : Expr} (C : LedC T) (hf : f = ptN k) (h : PE X ex (tBM0 X.K "list" rPop (fun σ H Q => ∃ a dx t s l, σ[i]? = some (some (.ref a)) ∧ H a = some (.ins T.lc dx (ledF t s)) ∧ (ledF t s).lookup f = some (.ref l) ∧ Q (.ref l) H))) : SE X T W ex (popPM i k) := by
  refine pe_imp h fun σ H Q ⟨ρ, F, O, E, P⟩ => ?_
  unfold popPM popPR at P
  split at P
  · rename_i ts ss e
    split at P
    · rename_i d hd
      obtain ⟨a, dx, t, s, l, xs, h1, h2, h3, h4, h5, h6⟩ := led_put (k := k) E e
      subst hf
      have hd' : (if k = 0 then ts else ss)[(if k = 0 then ts else ss).length - 1]? = some d := by rw [← List.getLast?_eq_getElem?]; exact hd
      obtain ⟨v, hv, dv⟩ := h5.get hd'
      refine ⟨a, dx, t, s, l, h1, h2, h3, .inl ⟨rfl, xs, .inl (.inl h4)⟩, l, xs, v, rfl, rfl, h4, by rw [h5.length]; exact hv, ?_⟩
      obtain ⟨E3, x3, k3⟩ := h6 xs.dropLast (if k = 0 then ts else ss).dropLast false fun k => h5.dropLast.mono k fun _ h => h
      refine P v _ F O x3 ?_ (dv.mono k3 fun _ h => h)
      unfold cutP
      split <;> rename_i hk <;> simpa [hk] using E3
    · exact P.elim
  · exact P.elim
end
end DL
namespace DL
open PySem PyProof.Rows
open L2 hiding Sp
structure IniL (st : Stmt) : Prop where
  sc : FnScope ["self"] ["self"] (defScope st)
  body : ∃ (q1 q2 q3 q4 q5 q6 q7 q8 q9 q10 : Pos), defBody st = [.Assign [.Attribute (.Name "self" q1) "tellings" q2] (.List [] q3) q4, .Assign [.Attribute (.Name "self" q5) "stood" q6] (.List [.Dict [] [] q7] q8) q9]
/-- a new ledger at p, before its __init__ -/
def spInitL (C : Addr) : L2.Sp := fun vs H Q _ => ∃ (p dx : Addr), vs = [.ref p] ∧ H p = some (.ins C dx []) ∧ ∀ (t d s : Addr) (H' : Hp), H t = none → H d = none → H s = none → t ≠ s → t ≠ d → d ≠ s → H' p = some (.ins C dx (ledF t s)) → H' t = some (.lst []) → H' d = some (.dK []) → H' s = some (.lst [.ref d]) →
  (∀ b o, H b = some o → b ≠ p → H' b = some o) → (∀ b, H' b = none → H b = none) → Q .non H'
section
variable {P : Program} {w : World} {K : PySem.W.Frag} {mg : Str → Option Value} {base : Heap}
theorem putF_led (t s : Addr) : putF "stood" (.ref s) (putF "tellings" (.ref t) []) = ledF t s := by
  show (if ("tellings" : Str) = "stood" then [(("tellings" : Str), V.ref s)] else (("tellings" : Str), V.ref t) :: putF "stood" (V.ref s) []) = _
  rw [if_neg (by decide +kernel)]
  rfl
theorem live_upd {H : Hp} {a : Addr} {o : HO} {b : Addr} (h : upd H a o b = none) : H b = none := by
  by_cases e : b = a
  · subst e; rw [upd_same] at h; cases h
  · rw [upd_ne e] at h; exact h
theorem ok_initL {f C : Addr} {fd : FuncData} {st : Stmt} (F : Fun K "__init__" "Ledger.__init__" st f fd) (I : IniL st) (cl : Cls K C) (n0 : NoAttr K C "tellings") (n1 : NoAttr K C "stood") : FnOk P w K mg base CX0 1 f fd ["self"] (spInitL C) := by
  refine F.ok I.sc (fun vs H Q E h => ?_) (fun cdv A outer s H vs Q E hr h => ?_)
  · obtain ⟨p, dx, rfl, _⟩ := h
    rfl
  · obtain ⟨p, dx, rfl, hp, k⟩ := h
    obtain ⟨q1, q2, q3, q4, q5, q6, q7, q8, q9, q10, e⟩ := I.body
    rw [e]
    have vs : Vis (defScope st) "self" := (I.sc.par "self" (List.mem_singleton.mpr rfl)).imp id .inl
    refine ⟨_, pss_cons (ps_fld (pv 0 (hv := vs)) (pe_lst pa_nil) rfl) (pss_one (ps_fld (pv 0 (hv := vs)) (pe_lst (pa_cons pe_dnewK pa_nil)) rfl)), ?_⟩
    refine ⟨by show 0 ≤ sizeLine; decide, fun t ht => ?_⟩
    have npt : p ≠ t := ne_of_none hp ht
    refine ⟨_, rfl, p, C, dx, [], rfl, (by rw [upd_ne npt]; exact hp), cl, n0, (by show 0 < 1000; decide), ?_⟩
    intro d hd
    have hd0 : H d = none := live_upd (live_upd hd)
    have npd : p ≠ d := fun z => by rw [z] at hp; rw [hd0] at hp; cases hp
    have ntd : t ≠ d := fun z => by
      rw [← z, upd_ne npt.symm, upd_same] at hd; cases hd
    refine ⟨by show 1 ≤ sizeLine; decide, fun s hs => ?_⟩
    have hs0 : H s = none := live_upd (live_upd (live_upd hs))
    have nps : p ≠ s := fun z => by rw [z] at hp; rw [hs0] at hp; cases hp
    have nds : d ≠ s := fun z => by rw [← z, upd_same] at hs; cases hs
    have nts : t ≠ s := fun z => by
      rw [← z, upd_ne ntd, upd_ne npt.symm, upd_same] at hs; cases hs
    refine ⟨_, rfl, p, C, dx, _, rfl, by rw [upd_ne nps, upd_ne npd, upd_same], cl, n1, (by show 1 < 1000; decide), ?_⟩
    refine k t d s _ ht hd0 hs0 nts ntd nds ?_ ?_ ?_ ?_ ?_ ?_
    · rw [upd_same, putF_led]
    · rw [upd_ne npt.symm, upd_ne nts, upd_ne ntd, upd_ne npt.symm, upd_same]
    · rw [upd_ne npd.symm, upd_ne nds, upd_same]
    · rw [upd_ne nps.symm, upd_same]
    · intro b o hb nb
      rw [upd_ne nb, upd_ne (ne_of_none hb hs0), upd_ne (ne_of_none hb hd0), upd_ne nb, upd_ne (ne_of_none hb ht)]
      exact hb
    · intro b hb
      exact live_upd (live_upd (live_upd (live_upd (live_upd hb))))
structure TwinS (st : Stmt) : Prop where
  sc : FnScope ["self", "other"] ["self"] (defScope st)
  lo : (defScope st).names.lookup ("other" : Str) = some .local
  gL : gnB (defScope st) "Ledger" = true
  gl : gnB (defScope st) "list" = true
  body : ∃ (q1 q2 q3 q4 r1 r2 r3 r4 r5 r6 r7 r8 r9 u1 u2 u3 u4 u5 u6 u7 u8 : Pos) (k1 k2 : Nat), defBody st = [.Assign [.Name "other" q1] (.Call (.Name "Ledger" q2) [] [] q3) q4,
    .Assign [.Tuple [.Attribute (.Name "other" r1) "tellings" r2, .Attribute (.Name "other" r3) "stood" r4] k1 r5] (.Tuple [.Call (.Name "list" r6) [.Attribute (.Name "self" r7) "tellings" r8] [] r9, .Call (.Name "list" u1) [.Attribute (.Name "self" u2) "stood" u3] [] u4] k2 u5) u6,
    .Return (some (.Name "other" u7)) u8]
def gFld (K : PySem.W.Frag) (to : TE) (f : Str) : TG := fun v σ H Q => to σ H fun x H1 => ∃ a C dx fs, x = .ref a ∧ H1 a = some (.ins C dx fs) ∧ Cls K C ∧ NoAttr K C f ∧ fs.length < 1000 ∧ Q σ (upd H1 a (.ins C dx (putF f v fs)))
theorem pg_fld {X : Cx} {o : Expr} {f : Str} {pos : Pos} {to : TE} (ho : PE X o to) : PG X (.Attribute o f pos) (gFld X.K to f) := by
  refine ⟨fun pins s σ H v u Q I r h => ?_⟩
  rw [assign_Attribute]
  refine wpAny_bind (wpAny_holding (thn (ho.run pins s σ H _ I h) fun ov s1 ⟨x, H1, I1, r1, a, C, dx, fs, ex, ea, c, n, l, q⟩ => ?_))
  subst ex
  obtain rfl : ov = Value.ref a := r1
  refine wpAny_bind (wpAny_standAt (wpAny_bind (wpAny_holding (setattr_ok I1 ea c n l r fun s3 I3 => ?_))))
  exact wpAny_release ⟨σ, _, I3, q⟩
def spTwin (C : Addr) : L2.Sp := fun vs H Q _ => ∃ (p dx t s : Addr) (xs ys : List V), vs = [.ref p] ∧ H p = some (.ins C dx (ledF t s)) ∧ H t = some (.lst xs) ∧ H s = some (.lst ys) ∧ ∀ (b bx t' s' : Addr) (H' : Hp), H t' = none → H s' = none → H b = none → t' ≠ s' → H' b = some (.ins C bx (ledF t' s')) → H' t' = some (.lst xs) → H' s' = some (.lst ys) →
  (∀ b o, H b = some o → H' b = some o) → (∀ b, H' b = none → H b = none) → Q (.ref b) H'
theorem putF_led2 (t s t' s' : Addr) : putF "stood" (.ref s') (putF "tellings" (.ref t') (ledF t s)) = ledF t' s' := by
  unfold ledF
  show putF "stood" (.ref s') (if ("tellings" : Str) = "tellings" then [(("tellings" : Str), V.ref t'), ("stood", V.ref s)] else _) = _
  rw [if_pos rfl]
  show (if ("tellings" : Str) = "stood" then _ else (("tellings" : Str), V.ref t') :: (if ("stood" : Str) = "stood" then [(("stood" : Str), V.ref s')] else _)) = _
  rw [if_neg (by decide +kernel), if_pos rfl]
theorem ok_twin {f C fL : Addr} {fd fdL : FuncData} {st : Stmt} (F : Fun K "twin" "Ledger.twin" st f fd) (I : TwinS st) (cl : Cls K C) (n0 : NoAttr K C "tellings") (n1 : NoAttr K C "stood") (GL : FnOk P w K mg base CX0 1 fL fdL ["self"] (spInitL C)) (M : Mk K C fL) (mgL : mg "Ledger" = some (.ref C)) (mgl : mg "list" = none) (bL : Binds K fdL ["self"] []) : FnOk P w K mg base CX0 3 f fd ["self"] (spTwin C) := by
  refine F.ok I.sc (fun vs H Q E h => ?_) (fun cdv A outer s H vs Q E hr h => ?_)
  · obtain ⟨p, dx, t, s, xs, ys, rfl, _⟩ := h
    rfl
  · obtain ⟨p, dx, t, s, xs, ys, rfl, hp, ht, hs, k⟩ := h
    obtain ⟨q1, q2, q3, q4, r1, r2, r3, r4, r5, r6, r7, r8, r9, u1, u2, u3, u4, u5, u6, u7, u8, k1, k2, e⟩ := I.body
    rw [e]
    have vs : Vis (defScope st) "self" := (I.sc.par "self" (List.mem_singleton.mpr rfl)).imp id .inl
    have vo : Vis (defScope st) "other" := .inl I.lo
    have gL := I.gL
    have gl := I.gl
    unfold gnB at gL gl
    simp only [Bool.and_eq_true, Bool.not_eq_true', decide_eq_false_iff_not] at gL gl
    refine ⟨_, pss_cons (ps_set (i := 1) I.sc.nd rfl (.inl I.lo) (pe_make0 M GL hr (glB_ok gL.1.1) mgL bL .nil pass0 gL.1.2))
      (pss_cons (ps_asg (pe_tup (pa_cons (pe_callTy call_list_of (glB_ok gl.1.1) mgl (by decide +kernel) (pa_cons (pe_fld (pv 0 (hv := vs)) rfl) pa_nil)) (pa_cons (pe_callTy call_list_of (glB_ok gl.1.1) mgl (by decide +kernel) (pa_cons (pe_fld (pv 0 (hv := vs)) rfl) pa_nil)) pa_nil)))
        (pg_tup rfl (pgs_cons (pg_fld (pv 1 (hv := vo))) (pgs_cons (pg_fld (pv 1 (hv := vo))) pgs_nil))) rfl (swap_cel (N := ["self", "other"]) (sc := defScope st) ⟨rfl, rfl⟩ rfl))
      (pss_one (ps_ret (pv 1 (hv := vo))))), ?_⟩
    intro b bx hb hbx nbx
    refine ⟨b, bx, rfl, upd_same, fun t0 d0 s0 H1 ht0 hd0 hs0 m1 m2 m3 e1 e2 e3 e4 kp lv => ⟨rfl, ?_⟩⟩
    have npb : p ≠ b := ne_of_none hp hb
    have npx : p ≠ bx := ne_of_none hp hbx
    have up : ∀ {c : Addr} {o : HO}, H c = some o → H1 c = some o := fun {c o} h => kp c o (by rw [upd_ne (ne_of_none h hb), upd_ne (ne_of_none h hbx)]; exact h) (ne_of_none h hb)
    have dn : ∀ {c : Addr}, H1 c = none → H c = none := fun {c} h => live_upd (live_upd (lv c h))
    refine ⟨_, rfl, p, C, dx, _, .ref t, rfl, up hp, cl, n0, rfl, t, xs, rfl, .inl (SqL.of (up ht)), fun l1 hl1 => ?_⟩
    refine ⟨_, rfl, p, C, dx, _, .ref s, rfl, (by rw [upd_ne (ne_of_none (up hp) hl1)]; exact up hp), cl, n1, rfl, s, ys, rfl, .inl (SqL.of (by rw [upd_ne (ne_of_none (up hs) hl1)]; exact up hs)), fun l2 hl2 => ?_⟩
    have n12 : l1 ≠ l2 := fun z => by rw [← z, upd_same] at hl2; cases hl2
    have hl2' : H1 l2 = none := live_upd hl2
    refine ⟨by show 2 ≤ sizeLine; decide, fun tp htp => ?_⟩
    have n1t : l1 ≠ tp := fun z => by rw [← z, upd_ne n12, upd_same] at htp; cases htp
    have n2t : l2 ≠ tp := fun z => by rw [← z, upd_same] at htp; cases htp
    have htp' : H1 tp = none := live_upd (live_upd htp)
    have nb1 : b ≠ l1 := ne_of_none e1 hl1
    have nb2 : b ≠ l2 := ne_of_none e1 hl2'
    have nbt : b ≠ tp := ne_of_none e1 htp'
    refine ⟨tp, [.ref l1, .ref l2], rfl, .inl (.inl upd_same), rfl, .ref l1, [.ref l2], rfl, _, rfl, b, C, bx, _, rfl, (by rw [upd_ne nbt, upd_ne nb2, upd_ne nb1]; exact e1), cl, n0, (by show 2 < 1000; decide), .ref l2, [], rfl, _, rfl, b, C, bx, _, rfl, upd_same, cl, n1, ?_, rfl, _, rfl, ?_⟩
    · have := length_putF "tellings" (.ref l1) (ledF t0 s0)
      have z : (ledF t0 s0).length = 2 := rfl
      omega
    · refine k b bx l1 l2 _ (dn hl1) (dn hl2') hb n12 (by rw [upd_same, putF_led2]) (by rw [upd_ne nb1.symm, upd_ne nb1.symm, upd_ne n1t, upd_ne n12, upd_same]) (by rw [upd_ne nb2.symm, upd_ne nb2.symm, upd_ne n2t, upd_same]) (fun c o h => ?_) fun c h => dn (live_upd (live_upd (live_upd (live_upd (live_upd h)))))
      have nc := ne_of_none h hb
      have h1 := up h
      rw [upd_ne nc, upd_ne nc, upd_ne (ne_of_none h1 htp'), upd_ne (ne_of_none h1 hl2'), upd_ne (ne_of_none h1 hl1)]
      exact h1
end
end DL
namespace DL
open PySem PyProof.Rows
open L2 hiding Sp
/-- what a text has of the class of ledgers -/
structure MkL (P : Program) (w : World) (mg : Str → Option Value) (base : Heap) (T : Tb) : Prop where
  c : LedC T
  mgL : mg "Ledger" = some (.ref T.lc)
  ex : ∃ f fd, Mk T.K T.lc f ∧ Binds T.K fd ["self"] [] ∧ FnOk P w T.K mg base CX0 1 f fd ["self"] (spInitL T.lc)
structure TwL (P : Program) (w : World) (mg : Str → Option Value) (base : Heap) (T : Tb) : Prop where
  c : LedC T
  ex : ∃ f fd, Meth T.K T.lc "twin" f ∧ Binds T.K fd ["self"] [] ∧ FnOk P w T.K mg base CX0 3 f fd ["self"] (spTwin T.lc)
def newLM : EM := fun ρ => some (.ok (.obj (.led [] [.dict []])) ρ)
def newDM : EM := fun ρ => some (.ok (.obj (.dsk [] [.dict []])) ρ)
def twR (ρ : Rho) : Option (Option R) → Option (Oe R)
  | some (some (.obj (.led ts ss))) => some (.ok (.obj (.led ts ss)) ρ)
  | _ => none
/-- o.twin() -/
def twM (i : Nat) : EM := fun ρ => twR ρ ρ[i]?
section
variable {X : Cx} {T : Tb} {W : WX} {N : List Str} {sc : Scope} {n : Nat} {p pos apos : Pos} {o : Expr}
/-- a new ledger's lists are nobody's -/
theorem new_led {H H' : Hp} {F : Reg} {O : Ows} {σ : L2.St} {ρ : Rho} {a dx t d s : Addr} (E : EnvR T H F O σ ρ) (ht : H t = none) (hd : H d = none) (hs : H s = none) (nts : t ≠ s) (ntd : t ≠ d) (nds : d ≠ s) (e1 : H' a = some (.ins T.lc dx (ledF t s))) (e2 : H' t = some (.lst [])) (e3 : H' d = some (.dK [])) (e4 : H' s = some (.lst [.ref d])) (kp : ∀ b o, H b = some o → H' b = some o) (lv : ∀ b, H' b = none → H b = none) :
    Gr H F H' (fun b => F b ∨ b = d) ∧ LedAt T H' (fun b => F b ∨ b = d) [t, s] (.ref a) [] [.dict []] ∧ ∀ b, b ∈ [t, s] → H b = none ∧ ¬ (F b ∨ b = d) ∧ ∀ i, b ∉ O i := by
  refine ⟨⟨kp, fun _ h => .inl h, fun b h => h.elim .inl fun z => .inr ⟨z ▸ hd, by rw [z, e3]; simp⟩⟩, ⟨a, dx, t, s, rfl, rfl, nts, e1, ⟨[], e2, .nil⟩, [.ref d], e4, .cons (.dct (.inr rfl) (.inl e3) .nil) .nil⟩, fun b hb => ?_⟩
  simp only [List.mem_cons, List.not_mem_nil, or_false] at hb
  rcases hb with rfl | rfl
  · exact ⟨ht, fun z => z.elim (fun q => E.lv _ q ht) fun q => ntd q, E.ne_new ht⟩
  · exact ⟨hs, fun z => z.elim (fun q => E.lv _ q hs) fun q => nds q.symm, E.ne_new hs⟩
theorem se_newL (a : At X N sc) (hx : gnB sc "Ledger" = true) (c : Cxt X T W n) (h : MkL X.prog X.w X.mg X.base T) (hk : 2 ≤ n) : SE X T W (.Call (.Name "Ledger" p) [] [] pos) newLM := by
  obtain ⟨C, hm, f, fd, M, hb, G⟩ := h
  rw [← c.hK] at M hb G
  refine pe_imp (pe_make0 M G (c.room.mono hk) (a.gl hx).1 hm hb .nil (pass0 (X := X)) (a.gl hx).2.1) fun σ H Q ⟨ρ, F, O, E, P⟩ => ?_
  intro x dx hx hdx ne
  refine ⟨x, dx, rfl, upd_same, fun t d s H' ht hd hs nts ntd nds e1 e2 e3 e4 kp lv => ⟨rfl, ?_⟩⟩
  have up : ∀ b o, H b = some o → H' b = some o := fun b o h => kp b o (by rw [upd_ne (ne_of_none h hx), upd_ne (ne_of_none h hdx)]; exact h) (ne_of_none h hx)
  have dn : ∀ b, H' b = none → H b = none := fun b h => live_upd (live_upd (lv b h))
  obtain ⟨g, l, fr⟩ := new_led E (live_upd (live_upd ht)) (live_upd (live_upd hd)) (live_upd (live_upd hs)) nts ntd nds e1 e2 e3 e4 up dn
  exact P (.ref x) H' _ O g.ext (E.gr g) ⟨_, fr, l⟩
theorem se_tw {i : Nat} {pl : PySem.Sem Bool} (ho : PE X o (tVar i)) (c : Cxt X T W n) (h : TwL X.prog X.w X.mg X.base T) (hk : 3 ≤ n) 
    (ht : eval (.Call (.Attribute o "twin" apos) [] [] pos) X.env = (do
      let ov ← eval o X.env
      standAt apos.atName
      let (f, first) ← holding [ov] (getMethod ov "twin" pl)
      callWith pos f first (backTo pos (starEach [] X.env)) (backToKw pos (keywordEach [] X.env))) := by rfl) : SE X T W (.Call (.Attribute o "twin" apos) [] [] pos) (twM i) := by
  obtain ⟨C, f, fd, M, hb, G⟩ := h
  have C' := C.cl
  rw [← c.hK] at M hb G C'
  refine pe_imp (pe_meth0 ho C' M G (c.room.mono hk) hb .nil (pass0 (X := X)) ht) fun σ H Q ⟨ρ, F, O, E, P⟩ => ?_
  unfold twM twR at P
  split at P
  · rename_i ts ss e
    obtain ⟨a, dx, t, s, vs, us, h1, h2, h3, h4, h5, h6, h7, h8⟩ := led_at E e
    refine ⟨.ref a, h1, a, dx, _, rfl, h4, met_led (by decide +kernel), a, dx, t, s, vs, us, rfl, h4, h5, h7, fun b bx t' s' H' ht hs hb n e1 e2 e3 kp lv => ?_⟩
    have g : Gr H F H' F := ⟨kp, fun _ h => h, fun _ h => .inl h⟩
    have kk : Kept F H H' := fun b o h _ => kp b o h
    refine P (.ref b) H' F O g.ext (E.gr g) ⟨[t', s'], fun b hb => ?_, b, bx, t', s', rfl, rfl, n, e1, ⟨vs, e2, h6.mono kk fun _ h => h⟩, us, e3, h8.mono kk fun _ h => h⟩
    simp only [List.mem_cons, List.not_mem_nil, or_false] at hb
    rcases hb with rfl | rfl
    · exact ⟨ht, fun q => E.lv _ q ht, E.ne_new ht⟩
    · exact ⟨hs, fun q => E.lv _ q hs, E.ne_new hs⟩
  · exact P.elim
end
@[simp] theorem newLM_e (ρ : Rho) : newLM ρ = some (.ok (.obj (.led [] [.dict []])) ρ) := eqI rfl
@[simp] theorem newDM_e (ρ : Rho) : newDM ρ = some (.ok (.obj (.dsk [] [.dict []])) ρ) := eqI rfl
@[simp] theorem twM_e (i : Nat) (ρ : Rho) : twM i ρ = twR ρ ρ[i]? := eqI rfl
@[simp] theorem twR_e (ts ss : List PyData) (ρ : Rho) : twR ρ (some (some (.obj (.led ts ss)))) = some (.ok (.obj (.led ts ss)) ρ) := eqI rfl
@[simp] theorem isOb_l (ts ss : List PyData) : isOb true (some (some (.obj (.led ts ss)))) = true := eqI rfl
@[simp] theorem isOb_d (ts ss : List PyData) : isOb false (some (some (.obj (.dsk ts ss)))) = true := eqI rfl
@[simp] theorem isLed_l (ts ss : List PyData) : isLed (some (some (.obj (.led ts ss)))) = true := eqI rfl
@[simp] theorem metM_e (b : Bool) (i : Nat) (sem : Sem) (dds : List PyData) (fa : AM) (ρ : Rho) : metM b i sem dds fa ρ = pick (isOb b ρ[i]?) (callM sem (appA (consA (nmM i) fa) dds)) (fun _ => none) ρ := by
  unfold metM pick
  split <;> rfl
@[simp] theorem prtM_e (i k : Nat) (ρ : Rho) : prtM i k ρ = pick (isLed ρ[i]?) (fun ρ => some (.ok (.prt i k) ρ)) (fun _ => none) ρ := by
  unfold prtM pick
  split <;> rfl
@[simp] theorem appPM_e (i k : Nat) (fe : EM) (ρ : Rho) : appPM i k fe ρ = pick (isLed ρ[i]?) (fun ρ => bindS (fe ρ) fun r ρ1 => bindF (frz ρ1 r) fun d ρ2 => appPR i k d ρ2 ρ2[i]?) (fun _ => none) ρ := eqI rfl
@[simp] theorem appPR_0 (i : Nat) (d : PyData) (ρ : Rho) (ts ss : List PyData) : appPR i 0 d ρ (some (some (.obj (.led ts ss)))) = if ts.length < lim then some (.nx (ρ.set i (some (.obj (.led (ts ++ [d]) ss))))) else none := eqI rfl
@[simp] theorem appPR_1 (i : Nat) (d : PyData) (ρ : Rho) (ts ss : List PyData) : appPR i 1 d ρ (some (some (.obj (.led ts ss)))) = if ss.length < lim then some (.nx (ρ.set i (some (.obj (.led ts (ss ++ [d])))))) else none := eqI rfl
@[simp] theorem popPM_e (i k : Nat) (ρ : Rho) : popPM i k ρ = popPR i k ρ ρ[i]? := eqI rfl
theorem popPR_0 {i : Nat} {ρ : Rho} {ts ss : List PyData} {d : PyData} (h : ts.getLast? = some d) : popPR i 0 ρ (some (some (.obj (.led ts ss)))) = some (.ok (.dat d) (ρ.set i (some (.obj (.led ts.dropLast ss))))) := by
  show (match (if 0 = 0 then ts else ss).getLast? with | some d => some (Oe.ok (R.dat d) (ρ.set i (some (.obj (cutP 0 ts ss))))) | none => none) = _
  rw [if_pos rfl, h]
  rfl
theorem popPR_1 {i : Nat} {ρ : Rho} {ts ss : List PyData} {d : PyData} (h : ss.getLast? = some d) : popPR i 1 ρ (some (some (.obj (.led ts ss)))) = some (.ok (.dat d) (ρ.set i (some (.obj (.led ts ss.dropLast))))) := by
  show (match (if 1 = 0 then ts else ss).getLast? with | some d => some (Oe.ok (R.dat d) (ρ.set i (some (.obj (cutP 1 ts ss))))) | none => none) = _
  rw [if_neg (by decide), h]
  rfl
end DL
namespace DL
open PySem PyProof.Rows
open L2 hiding Sp
theorem resN_dK {T : Tb} {H : Hp} {F : Reg} {p : Addr} {ks : List (Key × V)} {ds : List (PyData × PyData)} (hp : H p = none) (nf : ¬ F p) (s : DFk T.K H F ks ds) : ResN T H (upd H p (.dK ks)) F (.ref p) (.own (.dict ds)) :=
  ⟨p, rfl, hp, nf, .inl ⟨ks, upd_same, s.mono (fun b o h _ => kept_new hp b o h) fun _ h => h⟩⟩
theorem ne_dft {K : PySem.W.Frag} {H : Hp} {F : Reg} {xs : List Ent} {ds : List (PyData × PyData)} (h : DFt K H F xs ds) (hn : xs ≠ []) (hd : isKD ds = true) : False := by
  rw [kd_dft h hn] at hd
  cases hd
def cpD : PyData → Option R
  | .dict ds => if isKD ds = true then some (.own (.dict ds)) else none
  | _ => none
theorem cpD_is {ds : List (PyData × PyData)} (h : isKD ds = true) : cpD (.dict ds) = some (.own (.dict ds)) := if_pos h
theorem does_cp {T : Tb} : DoesN T (fun xs H Q => ∃ (a : Addr) (kvs : List (Key × V)), xs = [.ref a] ∧ Rd H a (.dK kvs) ∧ ∀ p, H p = none → Q (.ref p) (upd H p (.dK kvs))) (on1 cpD) := does1_on fun x d z H F Q lv hx hg hq => by
  unfold cpD at hg
  split at hg
  · rename_i ds
    split at hg
    · rename_i hk
      cases hg
      obtain ⟨a, rfl, ⟨ks, h1, s1⟩ | ⟨o, xs, h1, e, s1⟩⟩ := hx.dK
      · exact ⟨a, ks, rfl, h1, fun p hp => hq _ _ F (.laid hp) (resN_dK hp (fun q => lv p q hp) s1)⟩
      · exact (ne_dft s1 e.ne hk).elim
    · cases hg
  · cases hg
def dInK (neg : Bool) (y d : PyData) : Option R := match d with
  | .dict ds => if isKey y = true ∧ isKD ds = true then some (.dat (.bool (if neg = true then !(atK ds y).isSome else (atK ds y).isSome))) else none
  | _ => none
theorem atK_some {K : PySem.W.Frag} {H : Hp} {F : Reg} (k : Key) : ∀ {ks : List (Key × V)} {ds : List (PyData × PyData)}, DFk K H F ks ds → (valV ks k).isSome = (atK ds (kD k)).isSome
  | _, _, .nil => rfl
  | _, _, .cons (k := k') (v := v) a b => by
    unfold atK
    rw [keq_kD]
    by_cases e : k' = k
    · rw [if_pos (by simpa using e), valV_pos (p := (k', v)) e]; rfl
    · rw [if_neg (by simpa using e), valV_neg (p := (k', v)) e, atK_some k b]
def rInK (neg : Bool) : R2 := fun y x H Q => ∃ a o, x = .ref a ∧ DGet H a y o ∧ Q (.bl (if neg = true then !o.isSome else o.isSome)) H
theorem does_inK {T : Tb} (neg : Bool) : Does2 T (rInK neg) (dInK neg) := by
  intro y x d e z H F Q lv hy hx hg hq
  unfold dInK at hg
  split at hg
  · rename_i ds
    split at hg
    · rename_i hk
      cases hg
      obtain ⟨k, rfl⟩ := isKey_ex hk.1
      obtain ⟨a, rfl, ⟨ks, h1, s1⟩ | ⟨o, xs, h1, e, s1⟩⟩ := hx.dK
      · refine ⟨a, valV ks k, rfl, .inl ⟨ks, k, h1, kD_vw hy, rfl⟩, hq _ _ F .refl ?_⟩
        rw [atK_some k s1]
        exact .bl _
      · exact (ne_dft s1 e.ne hk.2).elim
    · cases hg
  · cases hg
section
variable {X : Cx} {T : Tb} {W : WX} {n : Nat} {a b : Expr} {fa fb : EM} {pos : Pos}
theorem units1 (c : Cxt X T W n) : X.A.units + 1 < cLine := by have := c.room.un; omega
theorem t_inK (c : Cxt X T W n) (ha : SE X T W a fa) (hb : SE X T W b fb) (hm : behindInMarks .In b = false := by rfl) : ST X T W (.Compare a [.In] [b] pos) (tsM (op2M (dInK false) fa fb)) :=
  pt_imp (pt_cmp (pc_din (units1 c) ha hb) hm) fun σ H Q h => op2 (r := rInK false) (does_inK false) (ts_of h)
theorem t_ninK (c : Cxt X T W n) (ha : SE X T W a fa) (hb : SE X T W b fb) (hm : behindInMarks .NotIn b = false := by rfl) : ST X T W (.Compare a [.NotIn] [b] pos) (tsM (op2M (dInK true) fa fb)) :=
  pt_imp (pt_cmp (pc_dnotin (units1 c) ha hb) hm) fun σ H Q h => op2 (r := rInK true) (does_inK true) (ts_of h)
end
def sortKS : PyData → Option R
  | .dict ds => if ds.length < 64 then (strsOf (ds.map (·.1))).map fun ys => .own (.list ((sortSt ys).map PyData.str)) else none
  | _ => none
theorem sortKS_is {ds : List (PyData × PyData)} {ys : List Str} (hl : ds.length < 64) (h : ds.map (·.1) = ys.map PyData.str) : sortKS (.dict ds) = some (.own (.list ((sortSt ys).map PyData.str))) := by
  show (if ds.length < 64 then (strsOf (ds.map (·.1))).map _ else none) = _
  rw [if_pos hl, h, strsOf_map]
  rfl
theorem strsOf_eq : ∀ {ds : List PyData} {ys : List Str}, strsOf ds = some ys → ds = ys.map PyData.str
  | [], ys, h => by cases h; rfl
  | .str x :: r, ys, h => by
    have h' : (strsOf r).map (x :: ·) = some ys := h
    obtain ⟨zs, h1, rfl⟩ := Option.map_eq_some_iff.mp h'
    rw [strsOf_eq h1]
    rfl
theorem keysS_dfk {K : PySem.W.Frag} {H : Hp} {F : Reg} : ∀ {ks : List (Key × V)} {ds : List (PyData × PyData)} {ys : List Str}, DFk K H F ks ds → ds.map (·.1) = ys.map PyData.str → ks.map (·.1) = ys.map Sum.inr
  | _, _, [], .nil, _ => rfl
  | _, _, y :: ys, .cons (k := k) a b, h => by
    rw [List.map_cons, List.map_cons] at h
    injection h with h1 h2
    rw [List.map_cons, List.map_cons, keysS_dfk b h2]
    cases k with
    | inl i => cases h1
    | inr x => cases h1; rfl
theorem does_sortKS {T : Tb} : DoesN T (fun xs H Q => ∃ (a : Addr) (kvs : List (Key × V)) (ks : List Str), xs = [.ref a] ∧ Rd H a (.dK kvs) ∧ kvs.map (·.1) = ks.map Sum.inr ∧ ks.length < 64 ∧ ∀ ys p, ys.Perm ks → sortedS ys = true → H p = none → Q (.ref p) (upd H p (.lst (ys.map V.str)))) (on1 sortKS) := does1_on fun x d z H F Q lv hx hg hq => by
  unfold sortKS at hg
  split at hg
  · rename_i ds
    split at hg
    · rename_i hl
      obtain ⟨ys, h1, rfl⟩ := Option.map_eq_some_iff.mp hg
      have h2 := strsOf_eq h1
      obtain ⟨a, rfl, ⟨ks, h3, s1⟩ | ⟨o, xs, h3, e, s1⟩⟩ := hx.dK
      · have lk : ks.length = ys.length := by have := congrArg List.length (keysS_dfk s1 h2); simpa using this
        refine ⟨a, ks, ys, rfl, h3, keysS_dfk s1 h2, by rw [← lk, s1.length]; exact hl, fun ys' p hp hpw hn => ?_⟩
        have e : ys' = sortSt ys := sortSt_uniq (hp.trans (sortSt_perm ys).symm) (sorted_pw hpw) (sortSt_pw ys)
        rw [e]
        exact hq _ _ F (.laid hn) (resN_lst hn (fun q => lv p q hn) (dfs_strs _))
      · have ne := e.ne
        exfalso
        clear hx hq e h3
        cases s1 with
        | nil => exact absurd rfl ne
        | cons q r b c =>
          cases ys with
          | nil => cases h2
          | cons n r => cases h2
    · cases hg
  · cases hg
def dropD (ds : List (PyData × PyData)) (y : PyData) : List (PyData × PyData) := ds.filter fun p => !keq p.1 y
def popKR (i : Nat) (y : Option PyData) (ρ : Rho) : Option (Option R) → Option (Oe R)
  | some (some (.own (.dict ds))) => match y with
    | some y => if isKey y = true ∧ isKD ds = true then match atK ds y with
        | some d => some (.ok (.dat d) (ρ.set i (some (.own (.dict (dropD ds y))))))
        | none => none else none
    | none => none
  | _ => none
def isDK : Option (Option R) → Bool
  | some (some (.own (.dict ds))) => isKD ds
  | _ => false
theorem isDK_ex {x : Option (Option R)} (h : isDK x = true) : ∃ ds, x = some (some (.own (.dict ds))) ∧ isKD ds = true := by
  unfold isDK at h
  split at h
  · exact ⟨_, rfl, h⟩
  · cases h
def popKM (i : Nat) (fe : EM) : EM := fun ρ => if isDK ρ[i]? = true then bindO (fe ρ) fun r ρ1 => popKR i (val ρ1 r) ρ1 ρ1[i]? else none
theorem DFk.drop {K : PySem.W.Frag} {H : Hp} {F : Reg} (k : Key) : ∀ {ks : List (Key × V)} {ds : List (PyData × PyData)}, DFk K H F ks ds → DFk K H F (dropK ks k) (dropD ds (kD k))
  | _, _, .nil => .nil
  | _, _, .cons (k := j) (v := v) (d := d) (vs := vs) (ds := ds) a b => by
    unfold dropK dropD
    have e : keq (kD j) (kD k) = decide (j = k) := keq_kD j k
    by_cases h : j = k
    · rw [List.filter_cons_of_neg (by simpa using h), List.filter_cons_of_neg (p := fun p : PyData × PyData => !keq p.1 (kD k)) (a := (kD j, d)) (show ¬ (!keq (kD j) (kD k)) = true by rw [e, decide_eq_true h]; exact Bool.false_ne_true)]
      exact DFk.drop k b
    · rw [List.filter_cons_of_pos (by simpa using h), List.filter_cons_of_pos (p := fun p : PyData × PyData => !keq p.1 (kD k)) (a := (kD j, d)) (show (!keq (kD j) (kD k)) = true by rw [e, decide_eq_false h]; rfl)]
      exact .cons a (DFk.drop k b)
section
variable {X : Cx} {T : Tb} {W : WX} {n : Nat} {o e : Expr} {fe : EM} {apos cpos : Pos} {i : Nat}
theorem se_popK (ho : PE X o (tVar i)) (he : SE X T W e fe) (m : M1 X o "pop" apos e cpos) : SE X T W (.Call (.Attribute o "pop" apos) [e] [] cpos) (popKM i fe) := by
  refine pe_imp (pe_dpop1 ho he m) fun σ H Q ⟨ρ, F, O, E, P⟩ => ?_
  unfold popKM at P
  split at P
  · rename_i hi
    obtain ⟨ds0, q0, hk0⟩ := isDK_ex hi
    obtain ⟨a, h1, h2, h3⟩ := own_dct E q0
    obtain ⟨ks0, hks⟩ : ∃ ks, H a = some (.dK ks) := by
      rcases h3 with ⟨ks, h, _⟩ | ⟨ob, xs, h, q, s⟩
      · exact ⟨ks, h⟩
      · exact (ne_dft s q.ne hk0).elim
    refine ⟨.ref a, h1, a, rfl, .inl ⟨ks0, .inl hks⟩, ?_⟩
    refine stp .refl E P fun v H1 r ρ1 F1 O1 x1 y1 E1 r1 P1 => ?_
    unfold popKR at P1
    split at P1
    · rename_i ds q2
      split at P1
      · rename_i y hy
        split at P1
        · rename_i hk
          split at P1
          · rename_i d hd
            obtain ⟨k, rfl⟩ := isKey_ex hk.1
            obtain ⟨b, g1, g2, g3⟩ := own_dct E1 q2
            rw [h1] at g1
            cases g1
            rcases g3 with ⟨ks, g4, g5⟩ | ⟨ob, xs, g4, g5, g6⟩
            · obtain ⟨u, eu, du⟩ := atK_dfk k g5 hd
              refine ⟨ks, k, u, g4, kD_vw (val_vw E1 r1 hy), eu, ?_⟩
              obtain ⟨E3, x3, k3⟩ := E1.mut (o := .dK (dropK ks k)) (d' := .dict (dropD ds (kD k))) (s := false) q2 g2 fun k3 => .inl ⟨_, upd_same, (g5.drop k).mono k3 fun _ h => h⟩
              exact P1 u _ F1 O1 (y1.trans x3) E3 (du.mono k3 fun _ h => h)
            · exact (ne_dft g6 g5.ne hk.2).elim
          · exact P1.elim
        · exact P1.elim
      · exact P1.elim
    · exact P1.elim
  · exact P.elim
end
@[simp] theorem isDK_e (ds : List (PyData × PyData)) : isDK (some (some (.own (.dict ds)))) = isKD ds := eqI rfl
@[simp] theorem popKM_e (i : Nat) (fe : EM) (ρ : Rho) : popKM i fe ρ = pick (isDK ρ[i]?) (fun ρ => bindO (fe ρ) fun r ρ1 => popKR i (val ρ1 r) ρ1 ρ1[i]?) (fun _ => none) ρ := eqI rfl
theorem popKR_is {i : Nat} {y d : PyData} {ρ : Rho} {ds : List (PyData × PyData)} (h1 : isKey y = true) (h2 : isKD ds = true) (h3 : atK ds y = some d) : popKR i (some y) ρ (some (some (.own (.dict ds)))) = some (.ok (.dat d) (ρ.set i (some (.own (.dict (dropD ds y)))))) := by
  show (if isKey y = true ∧ isKD ds = true then (match atK ds y with | some d => some (Oe.ok (R.dat d) (ρ.set i (some (.own (.dict (dropD ds y)))))) | none => none) else none) = _
  rw [if_pos ⟨h1, h2⟩, h3]
def mgD (ds : List (PyData × PyData)) : List (PyData × PyData) := ds.foldl (fun acc p => putD acc p.1 p.2) []
theorem DFk.fold {K : PySem.W.Frag} {H : Hp} {F : Reg} : ∀ {ks js : List (Key × V)} {ds es : List (PyData × PyData)}, DFk K H F ks ds → DFk K H F js es → DFk K H F (ks.foldl (fun acc kv => putK acc kv.1 kv.2) js) (ds.foldl (fun acc p => putD acc p.1 p.2) es)
  | _, _, _, _, .nil, h => h
  | _, _, _, _, .cons a b, h => by
    rw [List.foldl_cons, List.foldl_cons]
    exact DFk.fold b (h.put a)
theorem DFk.mg {K : PySem.W.Frag} {H : Hp} {F : Reg} {ks : List (Key × V)} {ds : List (PyData × PyData)} (h : DFk K H F ks ds) : DFk K H F (mergeK [] ks) (mgD ds) := DFk.fold h .nil
end DL
namespace DL
open PySem PyProof.Rows
open L2 hiding Sp
def callRM (sem : Sem) (rs : List R) (ρ : Rho) : Option (Oe R) := if dist rs = true then match passA ρ rs with
    | some args => match sem args with
      | some (.ok r os) => some (.ok r (backA ρ rs os))
      | some (.er c fs os) => some (.er c fs (backA ρ rs os))
      | none => none
    | none => none
  else none
theorem callM_r (sem : Sem) (fa : AM) (ρ : Rho) : callM sem fa ρ = bindO (fa ρ) (callRM sem) := rfl
@[simp] theorem callRM_e (sem : Sem) (rs : List R) (ρ : Rho) : callRM sem rs ρ = pick (dist rs) (fun ρ => bindP (passA ρ rs) fun as => bkO (sem as) ρ rs) (fun _ => none) ρ := by
  unfold callRM pick bindP bkO
  rfl
theorem call_r {T : Tb} {W : WX} {B H : Hp} {FB F : Reg} {OB O : Ows} {σ : L2.St} {ρ : Rho} {vs : List V} {rs : List R} {n : Nat} {sem : Sem} {Q Q' : VK} {g : Oe R → Option (Oe R)} (En : EnvR T H F O σ ρ) (yB : Ext false B FB OB H F O) (r : ResRs T B H F O σ vs rs) (hl : ∀ args o, sem args = some o → args.length = n)
    (P : Post T W (tlE T) σ B FB OB Q (callRM sem rs ρ)) (hq : ∀ v H, Q v H → Q' v H) : spOf T n sem vs H Q' fun cls d H' => W cls d σ H' := by
  unfold callRM at P
  split at P
  · rename_i hd
    cases q2 : passA ρ rs with
    | none => rw [q2] at P; exact P.elim
    | some args =>
      rw [q2] at P
      dsimp only at P
      cases q3 : sem args with
      | none => rw [q3] at P; exact P.elim
      | some o =>
        rw [q3] at P
        refine call_core En yB hd r q2 (by rw [resRs_len r, ← passA_len q2]; exact hl args o q3) ?_
        rw [q3]
        cases o with
        | ok r os => exact fun v H2 F2 O2 x2 E2 r2 => hq _ _ (P v H2 F2 O2 x2 E2 (r2 σ))
        | er c fs os => exact P
  · exact P.elim
def isObR (b : Bool) : R → Bool
  | .obj (.led _ _) => b
  | .obj (.dsk _ _) => !b
  | _ => false
def retE (r : R) : EM := fun ρ => some (.ok r ρ)
def metEM (b : Bool) (fo : EM) (sem : Sem) (dds : List PyData) (fa : AM) : EM := fun ρ => bindO (fo ρ) fun r ρ1 => if isObR b r = true then callM sem (appA (consA (retE r) fa) dds) ρ1 else none
section
variable {X : Cx} {T : Tb} {W : WX} {o e : Expr} {es : List Expr} {fo : EM} {fa : AM} {m : Str} {k n nn : Nat} {pos apos : Pos} {sem : Sem}
theorem obR_at {b : Bool} {H0 H : Hp} {F : Reg} {O : Ows} {σ : L2.St} {v : V} {r : R} (h : isObR b r = true) (rr : ResR T H0 H F O σ v r) : tmp r = r ∧ ∃ a dx fs, v = .ref a ∧ H a = some (.ins (T.cl b) dx fs) ∧ ∀ m, metName m = true → fs.lookup m = none := by
  cases r with
  | obj d =>
    obtain ⟨L, _, h2⟩ := rr
    cases d with
    | led ts ss =>
      have hb : b = true := h
      subst hb
      obtain ⟨a, dx, t, s, rfl, _, _, h4, _⟩ := h2
      exact ⟨rfl, a, dx, _, rfl, h4, fun m hm => met_led hm⟩
    | dsk ts ss =>
      have hb : b = false := by cases b <;> first | rfl | cases h
      subst hb
      obtain ⟨a, dx, c, rfl, h4, _⟩ := h2
      exact ⟨rfl, a, dx, _, rfl, h4, fun m hm => met_dsk hm⟩
    | pr _ _ _ => cases h
    | many _ _ => cases h
  | _ => cases h
theorem metE_of {dds : List PyData} {dvs : List V} {σ : L2.St} {B H : Hp} {FB F : Reg} {OB O : Ows} {Q : VK} {v : V} {r : R} {ρ : Rho} (hd : ∀ H F, DFs T.K H F dvs dds) (hl : ∀ args o, sem args = some o → args.length = n) (E : EnvR T H F O σ ρ) (yB : Ext false B FB OB H F O) (ht : tmp r = r) (rr : ResR T B H F O σ v r)
    (P : Post T W (tlE T) σ B FB OB Q (callM sem (appA (consA (retE r) fa) dds) ρ)) : Tof T W (tlA T) fa σ H fun vs H1 => spOf T n sem ((v :: vs) ++ dvs) H1 Q fun cls d H' => W cls d σ H' := by
  rw [callM_r] at P
  unfold appA consA retE at P
  simp only [bindO_ok, ht] at P
  refine ⟨ρ, F, O, E, ?_⟩
  cases q : fa ρ with
  | none => rw [q] at P; exact P.elim
  | some z =>
    rw [q] at P
    cases z with
    | er c fs ρ1 => exact fun cls d H1 F1 O1 x1 E1 r1 => P cls d H1 F1 O1 (yB.trans x1) E1 r1
    | ok rs ρ1 =>
      intro vs H1 F1 O1 x1 E1 r1
      exact call_r (g := some) E1 (yB.trans x1) (resRs_app (hd H1 F1) (.cons (ResR.mono E x1 rr) (r1.back yB.live))) hl P fun _ _ h => h
theorem se_metE0 {b : Bool} {dds : List PyData} {pl : PySem.Sem Bool} (ho : SE X T W o fo) (c : Cxt X T W nn) (h : FnM X.prog X.w X.mg X.base T b m k n sem dds) (hl : ∀ args o, sem args = some o → args.length = n) (hk : k ≤ nn) (hm : metName m = true)
    (ht : eval (.Call (.Attribute o m apos) [] [] pos) X.env = (do
      let ov ← eval o X.env
      standAt apos.atName
      let (f, first) ← holding [ov] (getMethod ov m pl)
      callWith pos f first (backTo pos (starEach [] X.env)) (backToKw pos (keywordEach [] X.env))) := by rfl) : SE X T W (.Call (.Attribute o m apos) [] [] pos) (metEM b fo sem dds nilA) := by
  obtain ⟨cl, f, fd, ps, dus, dvs, hme, hb, hn, G, hv, hd⟩ := h
  rw [← c.hK] at cl hme hb G
  refine pe_imp (pe_methG0 ho cl hme G c hk hb hv ht) fun σ H Q ⟨ρ, F, O, E, P⟩ => ?_
  refine stp .refl E P fun v H1 r ρ1 F1 O1 x1 y1 E1 r1 P1 => ?_
  split at P1
  · rename_i hi
    obtain ⟨htm, a, dx, fs, rfl, h2, h3⟩ := obR_at hi r1
    obtain ⟨ρ2, F2, O2, E2, P2⟩ := metE_of hd hl E1 y1 htm r1 P1
    exact ⟨a, dx, fs, rfl, h2, h3 m hm, P2 [] H1 F2 O2 .refl E2 .nil⟩
  · exact P1.elim
end
end DL
namespace DL
open PySem PyProof.Rows
open L2 hiding Sp
section
variable {prog : Program} {w : World} {M : Model} {A : Around} {E : Value → Shared → Prop} {s : Shared} {K : PySem.W.Frag} {x C L f : Addr} {ox : Obj} {od : Option Obj} {h₀ : Heap} {m : Str → Option Value} {b tb : Value}
open PySem.W PySem.Calls Builtin in
/-- the method of object, bound -/
theorem ifBound_obj {name : Str} {id : String} {args : List Value} {Q : Option Value → Shared → Prop} (X : K.In s.heap) (I : InstAt s.heap x ox C od) (hs : findIn K (.ref C) name = some (some (.builtin id)))
    (hb : ∀ self, bindSpecial (.builtin id) self = pure (.builtin id, [self])) (h : wpAny M A (call (.builtin id) (.ref x :: args)) (fun v => Q (some v)) E s) : wpAny M A (callSpecialIfBound? (.ref x) name args) Q E s := by
  simp only [callSpecialIfBound?, bindSpecialIfBound?]
  refine wpAny_holding (wpAny_bind (wpAny_bind (wpAny_bind (I.type.here ((looks_findIn X hs).here ?_)))))
  refine wpAny_bind (wpAny_askSetting (wpAny_ite ?_))
  have fin : wpAny M A (call (.builtin id) ([.ref x] ++ args) >>= fun v => pure (some v)) Q E s := wpAny_bind (wpAny_mono h (fun v s' h' => wpAny_pure h') fun _ _ h' => h')
  split
  · exact wpAny_bind ((Looks.of_pure (hb _)).here (wpAny_pure (by exact fin)))
  · exact wpAny_tryCatch (wpAny_bind ((Looks.of_pure (hb _)).here (wpAny_pure (by exact fin))))
open PySem.W PySem.Calls Builtin in
theorem object_ne {Q : Value → Shared → Prop} (hu : A.in1.units < cLine) (X : K.In s.heap) (I : InstAt s.heap x ox C od) (hm : mroIn K C (.type "object") = some true) (hr : findIn K (.ref C) "__eq__" = some (some (.ref f))) (hf : isFn K (.ref f) = true)
    (h : wpAny (model prog w) A.in1 (call (.ref f) [.ref x, b]) (fun v s' => ∃ t, v = .bool t ∧ Q (.bool !t) s') E s) : wpAny (model prog w) A (call (.builtin "object.__ne__") [.ref x, b]) Q E s := by
  refine wpAny_call (codeAny_call_builtin PySem.F.slot_object_ne.plain PySem.F.entry_object_ne (check_slot (i := "object.__ne__") (owner := "object") (n := "__ne__") (by decide +kernel) (by decide +kernel) (I.type.andThen (looks_mroIn X hm)) (PySem.F.args_object_ne_2 _ _) ?_))
  unfold Builtin.«object.__ne__»
  refine wpAny_bind (m := slotArgs "__ne__" 1 _) (wpAny_pure ?_)
  refine wpAny_bind (m := cRoomFor _ _) (wpAny_cRoomFor hu ?_)
  refine wpAny_bind (m := callSpecialIfBound? (.ref x) (Str.ofString "__eq__") _) (ifBound_K X I hr hf (wpAny_mono h (fun r s' hq => ?_) fun _ _ y => y))
  obtain ⟨t, rfl, q⟩ := hq
  exact wpAny_bind (wpAny_pure (wpAny_pure q))
open PySem.W PySem.Calls Builtin in
theorem cmp_one {op : CmpOp} {Q : Value → Shared → Prop} (hu : A.units < cLine) (X : K.In s.heap) (I : InstAt s.heap x ox C od) (hb : Looks (model prog w) s.heap (typeOf b) tb) (hn : notFirst K C tb = true)
    (one : wpAny (model prog w) A (tryCompare (.ref x) (cmpInfo op).2.1 b) (fun r s' => ∃ v, r = some v ∧ Q v s') E s) : wpAny (model prog w) A (richCompare op (.ref x) b) Q E s := by
  unfold richCompare
  simp only [oneThing_ref]
  refine wpAny_holding (wpAny_bind (wpAny_cRoomFor hu ?_))
  refine wpAny_bind (I.type.here (wpAny_bind (hb.here ?_)))
  split
  · rename_i q
    have e : subIn K tb (.ref C) = some false := by
      rcases Bool.or_eq_true_iff.mp hn with e | e
      · rw [beq_iff_eq.mp e] at q; simp at q
      · exact beq_iff_eq.mp e
    refine wpAny_bind ((looks_subIn X e).here ?_)
    simp only [Bool.false_eq_true, if_false]
    refine wpAny_bind (wpAny_mono one (fun r s' z => ?_) fun _ _ e => e)
    obtain ⟨v, rfl, hq⟩ := z
    exact wpAny_pure hq
  · refine wpAny_bind (wpAny_pure ?_)
    simp only [Bool.false_eq_true, if_false]
    refine wpAny_bind (wpAny_mono one (fun r s' z => ?_) fun _ _ e => e)
    obtain ⟨v, rfl, hq⟩ := z
    exact wpAny_pure hq
end
section
variable {X : Cx} {T : Tb} {W : WX} {pins : List (Addr × Obj)} {σ : L2.St} {H : Hp} {s : Shared} {a C dx : Addr} {fs : List (Str × V)}
theorem instO_at (I : Inv X pins σ H s) (e : H a = some (.ins C dx fs)) : ∃ od, PySem.W.InstAt s.heap a (PySem.W.instObj C dx) C (some od) := by
  obtain ⟨mA, O, _⟩ := ins_get I.hok e
  obtain ⟨od, J, _⟩ := O.look
  exact ⟨od, J⟩
/-- a method runs, whatever runs around it; nothing leaves it -/
theorem run_no {A : Around} {f : Addr} {fd : FuncData} {ps : List Str} {sp : L2.Sp} {k : Nat} {us : List Value} {vs : List V} {Q : VK} (F : FnG X.prog X.w X.K X.mg X.base k f fd ps sp) (hg : A.guards = some []) (hr : Room k A) (e0 : Env0 X.prog X.w X.K X.mg X.base A X.stack s H) (hb : Binds X.K fd ps []) (I : Inv X pins σ H s) (r : Vals vs us) (h : sp vs H Q fun _ _ _ => False) : wpAny (model X.prog X.w) A (call (.ref f) us) (EP X pins σ Q) X.xe s := by
  have hl : us.length = ps.length := by rw [← r.length]; exact F.len _ _ _ _ h
  have bb := hb s us I.kIn (by rw [List.append_nil]; exact hl)
  rw [List.append_nil] at bb
  refine wpAny_call (codeAny_mono (F.run A X.stack s H ⟨us, []⟩ us vs Q _ hg hr e0 bb r h) fun r' s' hq => ?_)
  cases r' with
  | error e =>
    obtain ⟨_, _, _, _, _, _, _, _, _, _, _, _, z⟩ := hq
    exact z.elim
  | ok fl =>
    cases fl with
    | ret u => exact I.after hq
    | next => exact hq.elim
    | brk => exact hq.elim
    | cont => exact hq.elim
end
/-- what == asks of a class besides its def -/
structure EqC (K : PySem.W.Frag) (C : Addr) : Prop where
  nf : PySem.W.notFirst K C (.ref C) = true
  mro : PySem.W.mroIn K C (.type "object") = some true
  ne : PySem.W.findIn K (.ref C) "__ne__" = some (some (.builtin "object.__ne__"))
section
variable {X : Cx} {T : Tb} {W : WX} {k n nn : Nat} {sem : Sem} {C : Addr} {f : Addr} {fd : FuncData} {ps : List Str} {sp : L2.Sp}
def rLenO (C : Addr) (sp : L2.Sp) : List V → Hp → VK → Prop := fun xs H Q => ∃ a dx fs, xs = [V.ref a] ∧ H a = some (.ins C dx fs) ∧ sp [.ref a] H (fun v H' => ∃ i : Int, v = .int i ∧ 0 ≤ i ∧ i < 2 ^ 62 ∧ Q v H') fun _ _ _ => False
theorem cr_lenO (c : Cxt X T W nn) (hk : k + 1 ≤ nn) (hm : Meth X.K C "__len__" f) (F : FnG X.prog X.w X.K X.mg X.base k f fd ps sp) (hb : Binds X.K fd ps []) : CallR X (.builtin "len") (rLenO C sp) := by
  intro pins s σ H xs us Q I r h
  obtain ⟨a, dx, fs, rfl, ea, q⟩ := h
  obtain ⟨u, rfl, ru⟩ := r.one
  cases (show u = Value.ref a from ru)
  obtain ⟨od, J⟩ := instO_at I ea
  obtain ⟨m, hF⟩ := I.fr
  refine PySem.W.len_K hF I.ok.mod.kin J hm.at_ hm.fn (wpAny_mono (run_no (us := [.ref a]) (vs := [.ref a]) F c.gd (Room.in1 (c.room.mono hk)) I.env0.in1 hb I (.cons rfl .nil) q) (fun w s' z => ?_) fun _ _ x => x)
  obtain ⟨z', H', I', rz, i, rfl, h0, h1, qz⟩ := z
  obtain ⟨t, e⟩ := (show ∃ t, w = Value.int i t from rz)
  cases e
  exact ⟨⟨h0, by omega⟩, .int i, H', I'.tok _, ⟨_, rfl⟩, qz⟩
def rNeO (C : Addr) (sp : L2.Sp) : R2 := fun x y H Q => ∃ a dx fs b dy gs, x = .ref a ∧ y = .ref b ∧ H a = some (.ins C dx fs) ∧ H b = some (.ins C dy gs) ∧ sp [x, y] H (fun v H' => ∃ t, v = .bl t ∧ Q (.bl (!t)) H') fun _ _ _ => False
theorem op_neO (c : Cxt X T W nn) (hk : k + 1 ≤ nn) (hm : Meth X.K C "__eq__" f) (eq : EqC X.K C) (F : FnG X.prog X.w X.K X.mg X.base k f fd ps sp) (hb : Binds X.K fd ps []) : OpR X (compareOp .NotEq) (rNeO C sp) := by
  intro pins s σ H x y v u Q I rx ry h
  obtain ⟨a, dx, fs, b, dy, gs, rfl, rfl, ha, hb', q⟩ := h
  cases (show v = Value.ref a from rx)
  cases (show u = Value.ref b from ry)
  obtain ⟨od, J⟩ := instO_at I ha
  obtain ⟨od', J'⟩ := instO_at I hb'
  have hr1 : Room k X.A.in1 := Room.in1 (c.room.mono hk)
  show wpAny _ _ (richCompare .NotEq _ _) _ _ _
  refine cmp_one (op := .NotEq) (tb := .ref C) (c.room.mono hk).units0 I.kIn J J'.type eq.nf ?_
  unfold tryCompare
  refine wpAny_bind (ifBound_obj I.kIn J eq.ne PySem.F.slot_object_ne.bind (object_ne hr1.units0 I.kIn J eq.mro hm.at_ hm.fn (wpAny_mono (run_no (us := [.ref a, .ref b]) (vs := [.ref a, .ref b]) F c.gd hr1 I.env0.in1 hb I (.cons rfl (.cons rfl .nil)) q) (fun w s' z => ?_) fun _ _ x => x)))
  obtain ⟨z', H', I', rz, t, rfl, qz⟩ := z
  cases (show w = Value.bool t from rz)
  exact ⟨t, rfl, wpAny_pure ⟨_, rfl, .bl (!t), H', I', rfl, qz⟩⟩
def lenOR : Option (Oe R) → Option (Oe R)
  | some (.ok (.dat (.int n)) ρ) => if (decide (0 ≤ n) && inW n) = true then some (.ok (.dat (.int n)) ρ) else none
  | _ => none
def lenOM (i : Nat) (sem : Sem) : EM := fun ρ => if isLed ρ[i]? = true then lenOR (callRM sem [.slt i] ρ) else none
def strOR : Option (Oe R) → Option (Oe R)
  | some (.ok (.dat (.str n)) ρ) => some (.ok (.dat (.str n)) ρ)
  | _ => none
def reprOM (i : Nat) (sem : Sem) : EM := fun ρ => if isLed ρ[i]? = true then strOR (callRM sem [.slt i] ρ) else none
def boolOR (neg : Bool) : Option (Oe R) → Option (Oe R)
  | some (.ok (.dat (.bool b)) ρ) => some (.ok (.dat (.bool (if neg = true then !b else b))) ρ)
  | _ => none
def isLR (ρ : Rho) : R → Bool
  | .slt i => isLed ρ[i]?
  | .obj (.led _ _) => true
  | _ => false
def eqOM (neg : Bool) (sem : Sem) (fa fb : EM) : EM := fun ρ => bindO (fa ρ) fun r ρ1 => bindO (fb ρ1) fun s ρ2 => if (isLR ρ2 r && isLR ρ2 s) = true then boolOR neg (callRM sem [r, s] ρ2) else none
def noW : WX := fun _ _ _ _ => False
theorem isLR_at {ρ : Rho} {H0 H : Hp} {F : Reg} {O : Ows} {σ : L2.St} {v : V} {r : R} (E : EnvR T H F O σ ρ) (h : isLR ρ r = true) (rr : ResR T H0 H F O σ v r) : ∃ a dx fs, v = .ref a ∧ H a = some (.ins T.lc dx fs) := by
  cases r with
  | slt i =>
    obtain ⟨ts, ss, e⟩ := isLed_ex h
    obtain ⟨u, hu, a, dx, t, s, rfl, _, _, h4, _⟩ := E.at_ i _ e
    have rr' : σ[i]? = some (some v) := rr
    rw [hu] at rr'
    cases rr'
    exact ⟨a, dx, _, rfl, h4⟩
  | obj o =>
    cases o with
    | led ts ss =>
      obtain ⟨L, _, a, dx, t, s, rfl, _, _, h4, _⟩ := rr
      exact ⟨a, dx, _, rfl, h4⟩
    | dsk ts ss => cases h
    | pr _ _ _ => cases h
    | many _ _ => cases h
  | _ => cases h
theorem post_len {σ : L2.St} {B : Hp} {FB : Reg} {OB : Ows} {Q : VK} {o : Option (Oe R)} (P : Post T W (tlE T) σ B FB OB Q (lenOR o)) : Post T noW (tlE T) σ B FB OB (fun v H' => ∃ i : Int, v = .int i ∧ 0 ≤ i ∧ i < 2 ^ 62 ∧ Q v H') o := by
  unfold lenOR at P
  split at P
  · split at P
    · rename_i n ρ h
      intro v H' F' O' x E r
      have e : v = .int n := by cases (show DF T.K H' F' v (.int n) from r); rfl
      rw [Bool.and_eq_true, decide_eq_true_eq] at h
      exact ⟨n, e, h.1, (inW_of h.2).2, P v H' F' O' x E r⟩
    · exact P.elim
  · exact P.elim
theorem post_eq {σ : L2.St} {B : Hp} {FB : Reg} {OB : Ows} {Q : VK} {o : Option (Oe R)} (P : Post T W (tlE T) σ B FB OB Q (boolOR false o)) : Post T noW (tlE T) σ B FB OB Q o := by
  unfold boolOR at P
  split at P
  · exact P
  · exact P.elim
theorem post_ne {σ : L2.St} {B : Hp} {FB : Reg} {OB : Ows} {Q : VK} {o : Option (Oe R)} (P : Post T W (tlE T) σ B FB OB Q (boolOR true o)) : Post T noW (tlE T) σ B FB OB (fun v H' => ∃ t, v = .bl t ∧ Q (.bl (!t)) H') o := by
  unfold boolOR at P
  split at P
  · rename_i b ρ
    intro v H' F' O' x E r
    have e : v = .bl b := by cases (show DF T.K H' F' v (.bool b) from r); rfl
    exact ⟨b, e, P (.bl (!b)) H' F' O' x E (.bl _)⟩
  · exact P.elim
variable {N : List Str} {sc : Scope} {o : Expr} {p pos : Pos} {i : Nat} {a b : Expr} {fa fb : EM}
theorem FnM.plain {P : Program} {w : World} {mg : Str → Option Value} {base : Heap} {b : Bool} {x : Str} (h : FnM P w mg base T b x k n sem []) : ∃ f fd ps, Meth T.K (T.cl b) x f ∧ Binds T.K fd ps [] ∧ ps.length = n ∧ FnG P w T.K mg base k f fd ps (spOf T n sem) := by
  obtain ⟨_, f, fd, ps, dus, dvs, h1, h2, h3, h4, h5, h6⟩ := h
  have e := h6 (fun _ => none) fun _ => False
  cases e
  cases h5
  exact ⟨f, fd, ps, h1, h2, h3, h4⟩
theorem se_lenO (l : At X N sc) (c : Cxt X T W nn) (hx : gnB sc "len" = true) (hm : X.mg "len" = none) (ho : PE X o (tVar i)) (h : FnM X.prog X.w X.mg X.base T true "__len__" k 1 sem []) (hl : ∀ args o, sem args = some o → args.length = 1) (hk : k + 1 ≤ nn) (hs : starEach [o] X.env = (false, eval o X.env) :: starEach [] X.env := by rfl) (hpl : (backTo pos (starEach [] X.env)).any (·.1) = false := by rfl) :
    SE X T W (.Call (.Name "len" p) [o] [] pos) (lenOM i sem) := by
  obtain ⟨f, fd, ps, me, hb, hn, G⟩ := h.plain
  rw [← c.hK] at me hb G
  refine pe_imp (pe_callB (cr_lenO c hk me G hb) (l.gl hx).1 hm (by decide +kernel) (pa_cons ho pa_nil hs) (l.gl hx).2.2 (l.gl hx).2.1 hs hpl) fun σ H Q ⟨ρ, F, O, E, P⟩ => ?_
  unfold lenOM at P
  split at P
  · rename_i hi
    obtain ⟨a, dx, fs, h1, h2, _⟩ := ob_at (b := true) E hi
    exact ⟨.ref a, h1, a, dx, fs, rfl, h2, call_r (W := noW) (g := some) E .refl (.cons (show ResR T H H F O σ (.ref a) (.slt i) from h1) .nil) hl (post_len P) fun _ _ h => h⟩
  · exact P.elim
theorem eqO_of {neg : Bool} {σ : L2.St} {H : Hp} {Q : VK} {r : R2} (hl : ∀ args o, sem args = some o → args.length = 2) (hr : ∀ a dx fs b dy gs H, H a = some (.ins T.lc dx fs) → H b = some (.ins T.lc dy gs) → spOf T 2 sem [.ref a, .ref b] H (if neg = true then (fun v H' => ∃ t, v = .bl t ∧ Q (.bl (!t)) H') else Q) (fun _ _ _ => False) → r (.ref a) (.ref b) H Q)
    (h : Tof T W (tlE T) (eqOM neg sem fa fb) σ H Q) : tOp r (Tof T W (tlE T) fa) (Tof T W (tlE T) fb) σ H Q := by
  obtain ⟨ρ, F, O, E, P⟩ := h
  refine stp .refl E P fun v H1 ra ρ1 F1 O1 x1 y1 E1 r1 P1 => ?_
  refine stp y1 E1 P1 fun u H2 rb ρ2 F2 O2 x2 y2 E2 r2 P2 => ?_
  split at P2
  · rename_i hi
    rw [Bool.and_eq_true] at hi
    have r1' : ResR T H H2 F2 O2 σ v ra := ResR.mono E1 x2 r1
    have r2' : ResR T H H2 F2 O2 σ u rb := r2.back y1.live
    obtain ⟨a, dx, fs, rfl, ha⟩ := isLR_at E2 hi.1 r1'
    obtain ⟨b, dy, gs, rfl, hb⟩ := isLR_at E2 hi.2 r2'
    refine hr a dx fs b dy gs H2 ha hb (call_r (W := noW) (g := some) E2 y2 (.cons r1' (.cons r2' .nil)) hl (Q := if neg = true then (fun v H' => ∃ t, v = .bl t ∧ Q (.bl (!t)) H') else Q) ?_ fun _ _ h => h)
    cases neg with
    | true => exact post_ne P2
    | false => exact post_eq P2
  · exact P2.elim
theorem t_neO (c : Cxt X T W nn) (h : FnM X.prog X.w X.mg X.base T true "__eq__" k 2 sem []) (eq : EqC T.K T.lc) (hl : ∀ args o, sem args = some o → args.length = 2) (hk : k + 1 ≤ nn) (ha : SE X T W a fa) (hb : SE X T W b fb) (hm : behindInMarks .NotEq b = false := by rfl) : ST X T W (.Compare a [.NotEq] [b] pos) (tsM (eqOM true sem fa fb)) := by
  obtain ⟨f, fd, ps, me, hb', hn, G⟩ := h.plain
  rw [← c.hK] at me hb' G eq
  exact pt_imp (pt_cmpR (op_neO c hk me eq G hb') ha hb hm) fun σ H Q h => eqO_of (neg := true) (r := rNeO T.lc (spOf T 2 sem)) hl (fun a dx fs b dy gs H h1 h2 q => ⟨a, dx, fs, b, dy, gs, rfl, rfl, h1, h2, q⟩) (ts_of h)
end
@[simp] theorem lenOM_e (i : Nat) (sem : Sem) (ρ : Rho) : lenOM i sem ρ = pick (isLed ρ[i]?) (fun ρ => lenOR (callRM sem [.slt i] ρ)) (fun _ => none) ρ := by
  unfold lenOM pick
  split <;> rfl
theorem lenOR_is {n : Int} {ρ : Rho} (h : 0 ≤ n ∧ n < 2 ^ 62) : lenOR (some (.ok (.dat (.int n)) ρ)) = some (.ok (.dat (.int n)) ρ) := if_pos (by rw [Bool.and_eq_true, decide_eq_true_eq]; exact ⟨h.1, inW_is (by omega) (by omega)⟩)
@[simp] theorem reprOM_e (i : Nat) (sem : Sem) (ρ : Rho) : reprOM i sem ρ = pick (isLed ρ[i]?) (fun ρ => strOR (callRM sem [.slt i] ρ)) (fun _ => none) ρ := by
  unfold reprOM pick
  split <;> rfl
@[simp] theorem strOR_e (n : Str) (ρ : Rho) : strOR (some (.ok (.dat (.str n)) ρ)) = some (.ok (.dat (.str n)) ρ) := eqI rfl
@[simp] theorem boolOR_t (b : Bool) (ρ : Rho) : boolOR true (some (.ok (.dat (.bool b)) ρ)) = some (.ok (.dat (.bool (!b))) ρ) := eqI rfl
@[simp] theorem boolOR_f (b : Bool) (ρ : Rho) : boolOR false (some (.ok (.dat (.bool b)) ρ)) = some (.ok (.dat (.bool b)) ρ) := eqI rfl
@[simp] theorem isLR_s (ρ : Rho) (i : Nat) : isLR ρ (.slt i) = isLed ρ[i]? := eqI rfl
@[simp] theorem isLR_o (ρ : Rho) (ts ss : List PyData) : isLR ρ (.obj (.led ts ss)) = true := eqI rfl
@[simp] theorem eqOM_e (neg : Bool) (sem : Sem) (fa fb : EM) (ρ : Rho) : eqOM neg sem fa fb ρ = bindO (fa ρ) fun r ρ1 => bindO (fb ρ1) fun s ρ2 => pick (isLR ρ2 r && isLR ρ2 s) (fun ρ => boolOR neg (callRM sem [r, s] ρ)) (fun _ => none) ρ2 := by
  rfl
end DL
namespace DL
open PySem PyProof.Rows
open L2 hiding Sp
structure IslC (K : PySem.W.Frag) (C : Addr) : Prop where
  cl : Cls K C
  ha : PySem.W.findIn K (.ref C) "__class__" = some (some (.builtin "object.__class__"))
  hn : PySem.W.specialIn K (.builtin "object.__class__") "__get__" = some (some (.builtin "getset_descriptor.__get__"))
  ht : PySem.W.takesIn K (.builtin "object.__class__") = some true
  hm : PySem.W.mroIn K C (.type "object") = some true
  one : PySem.W.kitOne K (.ref C) (.ref C) = some true
def rIsL (C : Addr) : List V → Hp → VK → Prop := fun xs H Q => ∃ a dx fs, xs = [V.ref a, .ref C] ∧ H a = some (.ins C dx fs) ∧ Q (.bl true) H
theorem call_isL {X : Cx} {C : Addr} (c : IslC X.K C) : CallR X (.builtin "isinstance") (rIsL C) := by
  intro pins s σ H xs us Q I r h
  obtain ⟨a, dx, fs, rfl, ea, q⟩ := h
  obtain ⟨u1, u2, rfl, r1, r2⟩ := r.two
  cases (show u1 = Value.ref a from r1)
  cases (show u2 = Value.ref C from r2)
  exact isinst_ok (x := .ref a) (t := .ref C) (c := .ref C) (b := true) I rfl (.ins ea c.cl c.ha c.hn c.ht c.hm) c.one fun tk => ⟨.bl true, H, I.tok _, rfl, q⟩
def isLM (i : Nat) : EM := fun ρ => if isLed ρ[i]? = true then some (.ok (.dat (.bool true)) ρ) else none
@[simp] theorem isLM_e (i : Nat) (ρ : Rho) : isLM i ρ = pick (isLed ρ[i]?) (fun ρ => some (.ok (.dat (.bool true)) ρ)) (fun _ => none) ρ := by
  unfold isLM pick
  split <;> rfl
section
variable {X : Cx} {T : Tb} {W : WX} {N : List Str} {sc : Scope} {n k nn : Nat} {o e : Expr} {es : List Expr} {i : Nat} {p p2 pos apos : Pos} {f fa : AM} {fo : EM} {m : Str} {sem : Sem}
theorem se_isL (l : At X N sc) (c : Cxt X T W n) (h1 : gnB sc "isinstance" = true) (hm : X.mg "isinstance" = none) (h2 : gnB sc "Ledger" = true) (mgL : X.mg "Ledger" = some (.ref T.lc)) (isl : IslC T.K T.lc) (ho : PE X o (tVar i))
    (hs : starEach [o, .Name "Ledger" p2] X.env = (false, eval o X.env) :: starEach [.Name "Ledger" p2] X.env := by rfl) (hs2 : starEach [.Name "Ledger" p2] X.env = (false, eval (.Name "Ledger" p2) X.env) :: starEach [] X.env := by rfl) (hpl : (backTo pos (starEach [.Name "Ledger" p2] X.env)).any (·.1) = false := by rfl) :
    SE X T W (.Call (.Name "isinstance" p) [o, .Name "Ledger" p2] [] pos) (isLM i) := by
  rw [← c.hK] at isl
  refine pe_imp (pe_callB (pos := pos) (p := p) (call_isL isl) (l.gl h1).1 hm (by decide +kernel) (pa_cons ho (pa_cons (pe_glob (v := .ref T.lc) (l.gl h2).1 mgL rfl (l.gl h2).2.1) pa_nil hs2) hs) (l.gl h1).2.2 (l.gl h1).2.1 hs hpl) fun σ H Q ⟨ρ, F, O, E, P⟩ => ?_
  unfold isLM at P
  split at P
  · rename_i hi
    obtain ⟨a, dx, fs, g1, g2, _⟩ := ob_at (b := true) E hi
    exact ⟨.ref a, g1, a, dx, fs, rfl, g2, P (.bl true) H F O .refl E (.bl true)⟩
  · exact P.elim
theorem e_dictK (l : At X N sc) (c : Cxt X T W n) (hx : gnB sc "dict" = true) (hm : X.mg "dict" = none) (ha : SA X T W [e] f) (he : starEach [e] X.env = (false, eval e X.env) :: starEach [] X.env := by rfl) (hpl : (backTo pos (starEach [] X.env)).any (·.1) = false := by rfl) : SE X T W (.Call (.Name "dict" p) [e] [] pos) (opnM (on1 cpD) f) :=
  se_callTy call_dictD does_cp (l.gl hx).1 hm (by decide +kernel) ha (by decide) (l.gl hx).2.1 he hpl
theorem e_sortKS (l : At X N sc) (c : Cxt X T W n) (hx : gnB sc "sorted" = true) (hm : X.mg "sorted" = none) (ha : SA X T W [e] f) (he : starEach [e] X.env = (false, eval e X.env) :: starEach [] X.env := by rfl) (hpl : (backTo pos (starEach [] X.env)).any (·.1) = false := by rfl) : SE X T W (.Call (.Name "sorted" p) [e] [] pos) (opnM (on1 sortKS) f) :=
  se_callB (call_sortedD c.calm) does_sortKS (l.gl hx).1 hm (by decide +kernel) ha (l.gl hx).2.2 (l.gl hx).2.1 he hpl
def closeR (i : Nat) : Option (Oe R) → Option (Oe R)
  | some (.ok r ρ) => match ρ[i]? with
    | some (some (.obj (.led ts ss))) => some (.ok r (ρ.set i (some (.obj (.dsk ts ss)))))
    | _ => none
  | some (.er c fs ρ) => match ρ[i]? with
    | some (some (.obj (.led ts ss))) => some (.er c fs (ρ.set i (some (.obj (.dsk ts ss)))))
    | _ => none
  | none => none
def keptR (i : Nat) (sem : Sem) (rs : List R) (ρ : Rho) : Option (Oe R) := match ρ[i]? with
  | some (some (.obj (.dsk ts ss))) => closeR i (callRM sem (.slt i :: rs) (ρ.set i (some (.obj (.led ts ss)))))
  | _ => none
def metKM (i : Nat) (sem : Sem) (dds : List PyData) (fa : AM) : EM := fun ρ => if isDsk ρ[i]? = true then bindO (appA fa dds ρ) (keptR i sem) else none
end
end DL
namespace DL
open PySem PyProof.Rows
open L2 hiding Sp
/-- x, y = e, e a new pair of a ledger and a list -/
def asgPM (i j : Nat) (fe : EM) : SM := fun ρ => bindS (fe ρ) fun r ρ1 => match r with
  | .obj (.pr ts ss ds) => some (.nx ((ρ1.set i (some (.obj (.led ts ss)))).set j (some (.own (.list ds)))))
  | _ => none
@[simp] theorem asgPM_e (i j : Nat) (fe : EM) (ρ : Rho) : asgPM i j fe ρ = bindS (fe ρ) fun r ρ1 => match r with
  | .obj (.pr ts ss ds) => some (.nx ((ρ1.set i (some (.obj (.led ts ss)))).set j (some (.own (.list ds)))))
  | _ => none := eqI rfl
end DL
namespace DL
open PySem PyProof.Rows
open L2 hiding Sp
def isHole : Option (Option R) → Bool
  | some none => true
  | _ => false
def hid (i : Nat) (O : Ows) : Ows := fun j => if j = i then [] else O j
theorem hid_sub {i : Nat} {O : Ows} : Sub (hid i O) O := fun j a e => by
  unfold hid at e
  split at e
  · cases e
  · exact e
theorem hid_ne {i j : Nat} {a : Addr} {O : Ows} (e : a ∈ hid i O j) : j ≠ i := by
  unfold hid at e
  split at e
  · cases e
  · assumption
section
variable {X : Cx} {T : Tb} {W : WX} {φ : Fm} {σ : L2.St} {H : Hp} {ρ : Rho} {F : Reg} {O : Ows} {i : Nat}
theorem EnvR.hide (E : EnvR T H F O σ ρ) (i : Nat) : EnvR T H F (hid i O) σ (ρ.set i none) := by
  refine ⟨by rw [List.length_set]; exact E.len, fun j r e => ?_, fun j a e => ?_, fun j k a e1 e2 => E.inj j k a (hid_sub j a e1) (hid_sub k a e2), fun j a e => E.nf j a (hid_sub j a e), E.lv, E.tb⟩
  · by_cases h : j = i
    · subst h
      by_cases hl : j < ρ.length
      · rw [List.getElem?_set_self hl] at e; cases e
      · rw [List.getElem?_eq_none (by rw [List.length_set]; omega)] at e; cases e
    · rw [List.getElem?_set_ne (fun z => h z.symm)] at e
      unfold hid
      rw [if_neg h]
      exact E.at_ j r e
  · have h := hid_ne e
    obtain ⟨r, hr⟩ := E.own j a (hid_sub j a e)
    exact ⟨r, by rw [List.getElem?_set_ne (fun z => h z.symm)]; exact hr⟩
/-- and taken back -/
theorem EnvR.show {H' : Hp} {F' : Reg} {O' : Ows} {σ' : L2.St} {ρ' : Rho} {ts ss : List PyData} (E : EnvR T H F O σ ρ) (h : ρ[i]? = some (some (.obj (.led ts ss)))) (x : Ext true H F (hid i O) H' F' O') (E' : EnvR T H' F' O' σ' ρ') (ho : isHole ρ'[i]? = true) (hs : σ'[i]? = σ[i]?) :
    ∃ O2, EnvR T H' F' O2 σ' (ρ'.set i (some (.obj (.led ts ss)))) ∧ Ext true H F O H' F' O2 ∧ ∀ j a, a ∈ O2 j → a ∈ O j ∨ a ∈ O' j := by
  obtain ⟨a, dx, t, s, vs, us, h1, h2, h3, h4, h5, h6, h7, h8⟩ := led_at E h
  have kp : Kept F H H' := (E.hide i).kept x
  have gF := x.grow
  have hl : i < ρ'.length := by
    by_cases hl : i < ρ'.length
    · exact hl
    · rw [List.getElem?_eq_none (by omega)] at ho; cases ho
  have none_i : ∀ b, b ∉ O' i := fun b e => by
    obtain ⟨r, hr⟩ := E'.own i b e
    rw [hr] at ho
    cases ho
  have own_i : ∀ b, b ∈ O i → ∀ j, b ∉ hid i O j := fun b e j e2 => hid_ne e2 (E.inj j i b (hid_sub j b e2) e)
  have kept_i : ∀ b o, b ∈ O i → H b = some o → NT o → H' b = some o := fun b o e hb n => x.keep b o hb (own_i b e) n
  have mt : t ∈ O i := by rw [h2]; simp
  have ms : s ∈ O i := by rw [h2]; simp
  have no_j : ∀ b, b ∈ O i → H b ≠ none → ∀ j, b ∉ O' j := fun b e hb j e2 => by
    rcases x.own j b e2 with z | ⟨_, ⟨j', z⟩ | z⟩
    · exact own_i b e j z
    · exact own_i b e j' z
    · exact hb z
  have live_i : ∀ b, b ∈ O i → H b ≠ none := fun b e => by
    rw [h2] at e
    rcases List.mem_cons.mp e with rfl | e
    · rw [h5]; exact Option.some_ne_none _
    · rw [List.mem_singleton] at e; subst e; rw [h7]; exact Option.some_ne_none _
  let O2 : Ows := fun j => if j = i then O i else O' j
  have o2 : ∀ j b, b ∈ O2 j → (j = i ∧ b ∈ O i) ∨ (j ≠ i ∧ b ∈ O' j) := fun j b e => by
    by_cases hj : j = i
    · have e' : b ∈ (if j = i then O i else O' j) := e
      rw [if_pos hj] at e'
      exact .inl ⟨hj, e'⟩
    · have e' : b ∈ (if j = i then O i else O' j) := e
      rw [if_neg hj] at e'
      exact .inr ⟨hj, e'⟩
  refine ⟨O2, ⟨by rw [List.length_set]; exact E'.len, fun j r e => ?_, fun j b e => ?_, fun j k b e1 e2 => ?_, fun j b e => ?_, E'.lv, E'.tb⟩, ⟨fun b o hb n z => x.keep b o hb (fun j e => n j (hid_sub j b e)) z, x.live, x.grow, fun b hb => (x.new b hb).imp_right fun z => z.imp_left fun ⟨j, e⟩ => ⟨j, hid_sub j b e⟩, fun j b e => ?_⟩, fun j b e => ?_⟩
  · by_cases hj : j = i
    · subst hj
      rw [List.getElem?_set_self hl] at e
      cases e
      refine ⟨.ref a, by rw [hs]; exact h1, ?_⟩
      show ObjAt T H' F' (if j = j then O j else O' j) (.ref a) (.led ts ss)
      rw [if_pos rfl]
      have ha : H' a = some (.ins T.lc dx (ledF t s)) := kp a _ h4 (.inr trivial)
      exact ⟨a, dx, t, s, rfl, h2, h3, ha, ⟨vs, kept_i t _ mt h5 trivial, h6.mono kp gF⟩, us, kept_i s _ ms h7 trivial, h8.mono kp gF⟩
    · rw [List.getElem?_set_ne (fun z => hj z.symm)] at e
      show ∃ v, _ ∧ SlotR T H' F' (if j = i then O i else O' j) v r
      rw [if_neg hj]
      exact E'.at_ j r e
  · rcases o2 j b e with ⟨rfl, _⟩ | ⟨hj, e'⟩
    · exact ⟨_, List.getElem?_set_self hl⟩
    · obtain ⟨r, hr⟩ := E'.own j b e'
      exact ⟨r, by rw [List.getElem?_set_ne (fun z => hj z.symm)]; exact hr⟩
  · rcases o2 j b e1 with ⟨rfl, z1⟩ | ⟨hj, z1⟩ <;> rcases o2 k b e2 with ⟨rfl, z2⟩ | ⟨hk, z2⟩
    · rfl
    · exact absurd z2 (no_j b z1 (live_i b z1) k)
    · exact absurd z1 (no_j b z2 (live_i b z2) j)
    · exact E'.inj j k b z1 z2
  · rcases o2 j b e with ⟨rfl, z⟩ | ⟨hj, z⟩
    · intro hf
      rcases x.new b hf with q | ⟨j', q⟩ | q
      · exact E.nf j b z q
      · exact own_i b z j' q
      · exact live_i b z q
    · exact E'.nf j b z
  · rcases o2 j b e with ⟨rfl, z⟩ | ⟨hj, z⟩
    · exact .inl z
    · exact (x.own j b z).imp (fun q => hid_sub j b q) fun ⟨q1, q2⟩ => ⟨q1, q2.imp_left fun ⟨j', q⟩ => ⟨j', hid_sub j' b q⟩⟩
  · rcases o2 j b e with ⟨rfl, z⟩ | ⟨hj, z⟩
    · exact .inl z
    · exact .inr z
end
@[simp] theorem isHole_n : isHole (some none) = true := eqI rfl
end DL
namespace DL
open PySem PyProof.Rows
open L2 hiding Sp
end DL
namespace DL
namespace KT
open PySem PySem.Spec PySem.Calls PyProof.V PyProof.Rows PyProof.Rows.KTD
section
variable {prog : Program} {w : World} {A : Around} {E : Value → Shared → Prop} {s : Shared} {a : Addr} {δ : Type} {R : δ → Value → Prop} {D : List (Str × δ)} {k : Str} {tk : Tok}
theorem typeIs (T : TabOf R s.heap a D) : s.TypeIs (.ref a) "dict" := let ⟨_, o, _, _, ho, hc, _⟩ := T; ⟨o, ho, hc.1⟩
end
end KT
open PySem PyProof.Rows
open L2 hiding Sp
open PyProof.Rows.KTD (datumAt)
/-- a dict of the program -/
structure CTab (K : PySem.W.Frag) (a : Addr) (D : List (Str × V)) : Prop where
  lo : (a == sysModules) = false
  ex : ∃ o es ep, K.lookup a = some o ∧ o.ExactDict ∧ o.data = .dict es ep ∧ KTD.Rows (fun (v : V) u => RelV v u) es.toList D
theorem CTab.here {K : PySem.W.Frag} {a : Addr} {D : List (Str × V)} {h : Heap} (c : CTab K a D) (i : K.In h) : KTD.TabOf (fun (v : V) u => RelV v u) h a D := by
  obtain ⟨o, es, ep, h1, h2, h3, h4⟩ := c.ex
  exact ⟨c.lo, o, es, ep, i a o h1, h2, h3, h4⟩
/-- what it holds, as data -/
inductive CR (K : PySem.W.Frag) : List (Str × V) → List (Str × PyData) → Prop where
  | nil : CR K [] []
  | cons {x : Str} {v : V} {d : PyData} {D : List (Str × V)} {C : List (Str × PyData)} : (∀ H F, DF K H F v d) → CR K D C → CR K ((x, v) :: D) ((x, d) :: C)
theorem CR.at_ {K : PySem.W.Frag} (k : Str) : ∀ {D : List (Str × V)} {C : List (Str × PyData)}, CR K D C → (datumAt k D = none ∧ datumAt k C = none) ∨ ∃ v d, datumAt k D = some v ∧ datumAt k C = some d ∧ ∀ H F, DF K H F v d
  | _, _, .nil => .inl ⟨rfl, rfl⟩
  | _, _, .cons (x := x) (v := v) (d := d) (D := D) (C := C) a b => by
    have ih := b.at_ k
    unfold datumAt
    by_cases h : decide (k = x) = true
    · rw [if_pos h, if_pos h]; exact .inr ⟨v, d, rfl, rfl, a⟩
    · rw [if_neg h, if_neg h]; exact ih
def inCR (neg : Bool) (C : List (Str × PyData)) (ρ : Rho) : Option PyData → Option (Oe R)
  | some (.str k) => some (.ok (.dat (.bool (if neg = true then !(datumAt k C).isSome else (datumAt k C).isSome))) ρ)
  | _ => none
def inCM (neg : Bool) (C : List (Str × PyData)) (fe : EM) : EM := fun ρ => bindO (fe ρ) fun r ρ1 => inCR neg C ρ1 (val ρ1 r)
def ixCR (C : List (Str × PyData)) (ρ : Rho) : Option PyData → Option (Oe R)
  | some (.str k) => (datumAt k C).map fun d => .ok (.dat d) ρ
  | _ => none
def ixCM (C : List (Str × PyData)) (fe : EM) : EM := fun ρ => bindO (fe ρ) fun r ρ1 => ixCR C ρ1 (val ρ1 r)
@[simp] theorem inCM_e (neg : Bool) (C : List (Str × PyData)) (fe : EM) (ρ : Rho) : inCM neg C fe ρ = bindO (fe ρ) fun r ρ1 => inCR neg C ρ1 (val ρ1 r) := eqI rfl
@[simp] theorem inCR_e (neg : Bool) (C : List (Str × PyData)) (k : Str) (ρ : Rho) : inCR neg C ρ (some (.str k)) = some (.ok (.dat (.bool (if neg = true then !(datumAt k C).isSome else (datumAt k C).isSome))) ρ) := eqI rfl
@[simp] theorem ixCM_e (C : List (Str × PyData)) (fe : EM) (ρ : Rho) : ixCM C fe ρ = bindO (fe ρ) fun r ρ1 => ixCR C ρ1 (val ρ1 r) := eqI rfl
@[simp] theorem ixCR_e (C : List (Str × PyData)) (k : Str) (ρ : Rho) : ixCR C ρ (some (.str k)) = (datumAt k C).map fun d => .ok (.dat d) ρ := eqI rfl
end DL
namespace DL
open PySem PyProof.Rows
open L2 hiding Sp
/-- x, *y = e -/
def starR (i j : Nat) (ρ : Rho) : Option PyData → Option Ot
  | some (.list (x :: xs)) => if xs.length ≤ 16000 then some (.nx ((ρ.set i (some (.dat x))).set j (some (.own (.list xs))))) else none
  | _ => none
def asgStM (i j : Nat) (fe : EM) : SM := fun ρ => bindS (fe ρ) fun r ρ1 => starR i j ρ1 (val ρ1 r)
@[simp] theorem asgStM_e (i j : Nat) (fe : EM) (ρ : Rho) : asgStM i j fe ρ = bindS (fe ρ) fun r ρ1 => starR i j ρ1 (val ρ1 r) := eqI rfl
end DL
namespace DL
open PySem PyProof.Rows
open L2 hiding Sp
/-- a heap in which all is new -/
def HN : Hp := fun _ => none
section
variable {T : Tb} {B H : Hp} {FB F : Reg} {OB O : Ows} {σ : L2.St} {ρ : Rho} {L : Nat → List Addr}
/-- L: the places of the objects among the arguments: new ones, or a slot's of before -/
def TmpOk2 (T : Tb) (B : Hp) (OB : Ows) (H : Hp) (F : Reg) (O : Ows) (L : Nat → List Addr) (vs : List V) (rs : List R) : Prop :=
  ∀ k v o, vs[k]? = some v → rs[k]? = some (.obj o) → (∀ b, b ∈ L k → (B b = none ∨ ∃ i, b ∈ OB i) ∧ ¬ F b ∧ ∀ i, b ∉ O i) ∧ ObjAt T H F (L k) v o
theorem TmpOk2.one {vs : List V} {rs : List R} (h : TmpOk2 T B OB H F O L vs rs) : TmpOk T HN H F O L vs rs := fun k v o h1 h2 => ⟨fun b hb => ⟨rfl, ((h k v o h1 h2).1 b hb).2⟩, (h k v o h1 h2).2⟩
end
abbrev LSt := Option (List PyData × List PyData)
inductive AK where
  | nm (i : Nat)
  | ci (i : Int)
  | cb (b : Bool)
def AK.r (ρ : Rho) : AK → Option R
  | .nm i => match ρ[i]? with
    | some (some (.dat d)) => some (.dat d)
    | some (some (.own _)) => some (.slt i)
    | some (some (.obj _)) => some (.slt i)
    | _ => none
  | .ci i => some (.dat (.int i))
  | .cb b => some (.dat (.bool b))
def tAs : List TE → TA
  | [] => tNil
  | t :: ts => tCons t (tAs ts)
section
variable {T : Tb} {W : WX} {B H : Hp} {FB F : Reg} {OB O : Ows} {σ : L2.St} {ρ ρ1 : Rho}
/-- slots' objects: where they stand -/
inductive Pk (σ : L2.St) (O : Ows) : List Nat → List V → List (List Addr) → Prop where
  | nil : Pk σ O [] [] []
  | cons {n : Nat} {u : V} {L : List Addr} {ns : List Nat} {us : List V} {Ls : List (List Addr)} : σ[n]? = some (some u) → (∀ b, b ∈ L → b ∈ O n) → Pk σ O ns us Ls → Pk σ O (n :: ns) (u :: us) (L :: Ls)
theorem Pk.mono {O' : Ows} (h : ∀ i b, b ∈ O i → b ∈ O' i) : ∀ {ns : List Nat} {us : List V} {Ls : List (List Addr)}, Pk σ O ns us Ls → Pk σ O' ns us Ls
  | _, _, _, .nil => .nil
  | _, _, _, .cons a b c => .cons a (fun x hx => h _ x (b x hx)) (c.mono h)
theorem Pk.len : ∀ {ns : List Nat} {us : List V} {Ls : List (List Addr)}, Pk σ O ns us Ls → us.length = ns.length
  | _, _, _, .nil => rfl
  | _, _, _, .cons _ _ c => by rw [List.length_cons, List.length_cons, c.len]
theorem Pk.names : ∀ {ns : List Nat} {us : List V} {Ls : List (List Addr)}, Pk σ O ns us Ls → ∀ Q : List V → Hp → Prop, Q us H → tAs (ns.map tVar) σ H Q
  | _, _, _, .nil, Q, q => q
  | _, _, _, .cons a b c, Q, q => ⟨_, a, c.names _ q⟩
end
section
variable {T : Tb} {H : Hp} {F : Reg}
/-- one is taken out -/
theorem ManyAt.out {b : Bool} : ∀ {Ls : List (List Addr)} {vs : List V} {xs : List LSt} {k : Nat} {ts ss : List PyData}, ManyAt T H F b Ls vs xs → xs[k]? = some (some (ts, ss)) → ∃ L v, vs[k]? = some v ∧ OneAt T H F b L v ts ss ∧ ManyAt T H F b (Ls.set k []) vs (xs.set k none) ∧ List.Perm Ls.flatten (L ++ (Ls.set k []).flatten)
  | _, _, _, k, _, _, .nil, h => by simp at h
  | _, _, _, 0, _, _, .hole q, h => by simp at h
  | _, _, _, k + 1, _, _, .hole q, h => by
    obtain ⟨L, v, h1, h2, h3, h4⟩ := q.out (k := k) (by simpa using h)
    exact ⟨L, v, by simpa using h1, h2, .hole h3, by simpa using h4⟩
  | _, _, _, 0, _, _, .cons (L := L) (v := v) q r, h => by
    simp only [List.getElem?_cons_zero, Option.some.injEq, Prod.mk.injEq] at h
    obtain ⟨rfl, rfl⟩ := h
    exact ⟨L, v, rfl, q, .hole r, by simp⟩
  | _, _, _, k + 1, _, _, .cons (L := L0) q r, h => by
    obtain ⟨L, v, h1, h2, h3, h4⟩ := r.out (k := k) (by simpa using h)
    refine ⟨L, v, by simpa using h1, h2, .cons q h3, ?_⟩
    rw [List.set_cons_succ, List.flatten_cons, List.flatten_cons]
    refine (List.Perm.append_left L0 h4).trans ?_
    rw [← List.append_assoc, ← List.append_assoc]
    exact List.Perm.append_right _ List.perm_append_comm
end
end DL
namespace DL
open PySem PyProof.Rows
open L2 hiding Sp
def parM4 (i j l m : Nat) (fa fb fc fd : EM) : SM := fun ρ => bindS (fa ρ) fun r ρ1 => match sv ρ1 r with
  | some (r', ρ2) => bindS (fb ρ2) fun s ρ3 => match sv ρ3 s with
    | some (s', ρ4) => bindS (fc ρ4) fun t ρ5 => match sv ρ5 t with
      | some (t', ρ6) => bindS (fd ρ6) fun u ρ7 => match sv ρ7 u with
        | some (u', ρ8) => some (.nx ((((ρ8.set i (some r')).set j (some s')).set l (some t')).set m (some u')))
        | none => none
      | none => none
    | none => none
  | none => none
@[simp] theorem parM4_e (i j l m : Nat) (fa fb fc fd : EM) (ρ : Rho) : parM4 i j l m fa fb fc fd ρ = bindS (fa ρ) fun r ρ1 => match sv ρ1 r with
  | some (r', ρ2) => bindS (fb ρ2) fun s ρ3 => match sv ρ3 s with
    | some (s', ρ4) => bindS (fc ρ4) fun t ρ5 => match sv ρ5 t with
      | some (t', ρ6) => bindS (fd ρ6) fun u ρ7 => match sv ρ7 u with
        | some (u', ρ8) => some (.nx ((((ρ8.set i (some r')).set j (some s')).set l (some t')).set m (some u')))
        | none => none
      | none => none
    | none => none
  | none => none := eqI rfl
def appTR (fe : EM) (ρ : Rho) : R → Option Ot
  | .own (.list ds) => if ds.length < lim then bindS (fe ρ) fun _ ρ2 => some (.nx ρ2) else none
  | _ => none
def appTM (fo fe : EM) : SM := fun ρ => bindS (fo ρ) fun r ρ1 => appTR fe ρ1 r
def clrTR (ρ : Rho) : R → Option Ot
  | .own (.list _) => some (.nx ρ)
  | _ => none
def clrTM (fo : EM) : SM := fun ρ => bindS (fo ρ) fun r ρ1 => clrTR ρ1 r
section
variable {X : Cx} {T : Tb} {W : WX} {φ : Fm} {fo fe : EM} {pos : Pos} {ex : Expr}
theorem StR.other {H : Hp} {F : Reg} {O : Ows} {σ : L2.St} {ρ : Rho} {a : Addr} {vs us : List V} (S : StR T φ H F O σ ρ) (h : H a = some (.lst vs)) (nf : ¬ F a) (no : ∀ i, a ∉ O i) : StR T φ (upd H a (.lst us)) F O σ ρ := by
  obtain ⟨E, _⟩ := S.E.other (o' := .lst us) h (fun z => z) nf no
  refine ⟨E, fun b hb => S.lb b ?_, S.lf⟩
  by_cases e : b = a
  · subst e; rw [upd_same] at hb; cases hb
  · rw [upd_ne e] at hb; exact hb
theorem ext_other {s : Bool} {B H : Hp} {FB F : Reg} {OB O : Ows} {a : Addr} {o : HO} (x : Ext s B FB OB H F O) (h : B a = none) : Ext s B FB OB (upd H a o) F O :=
  ⟨fun b u hb n z => by rw [upd_ne (show b ≠ a from fun e => by rw [e, h] at hb; cases hb)]; exact x.keep b u hb n z, fun b hb => by
    by_cases e : b = a
    · subst e; exact h
    · rw [upd_ne e] at hb; exact x.live b hb, x.grow, x.new, x.own⟩
end
@[simp] theorem appTM_e (fo fe : EM) (ρ : Rho) : appTM fo fe ρ = bindS (fo ρ) fun r ρ1 => appTR fe ρ1 r := eqI rfl
@[simp] theorem clrTM_e (fo : EM) (ρ : Rho) : clrTM fo ρ = bindS (fo ρ) fun r ρ1 => clrTR ρ1 r := eqI rfl
@[simp] theorem clrTR_is (ρ : Rho) (ds : List PyData) : clrTR ρ (.own (.list ds)) = some (.nx ρ) := eqI rfl
end DL
namespace DL
open PySem PyProof.Rows
open L2 hiding Sp
def orSR (fb : EM) (ρ : Rho) : Option PyData → Option (Oe R)
  | some (.str x) => if x.length ≤ lim then (if x.length = 0 then fb ρ else some (.ok (.dat (.str x)) ρ)) else none
  | _ => none
def orSM (fa fb : EM) : EM := fun ρ => bindO (fa ρ) fun r ρ1 => orSR fb ρ1 (val ρ1 r)
@[simp] theorem orSM_e (fa fb : EM) (ρ : Rho) : orSM fa fb ρ = bindO (fa ρ) fun r ρ1 => orSR fb ρ1 (val ρ1 r) := eqI rfl
end DL
namespace DL
open PySem PyProof.Rows
open L2 hiding Sp
def keptQ (i : Nat) (sem : Sem) (rs : List R) (ρ : Rho) : Option (Option R) → Option (Oe R)
  | some (some (.obj (.dsk ts ss))) => closeR i (callRM sem (.slt i :: rs) (ρ.set i (some (.obj (.led ts ss)))))
  | _ => none
def closeQ (i : Nat) (r : R) (ρ : Rho) : Option (Option R) → Option (Oe R)
  | some (some (.obj (.led ts ss))) => some (.ok r (ρ.set i (some (.obj (.dsk ts ss)))))
  | _ => none
def closeE (i c : Nat) (fs : List PyData) (ρ : Rho) : Option (Option R) → Option (Oe R)
  | some (some (.obj (.led ts ss))) => some (.er c fs (ρ.set i (some (.obj (.dsk ts ss)))))
  | _ => none
@[simp] theorem isDsk_d (ts ss : List PyData) : isDsk (some (some (.obj (.dsk ts ss)))) = true := eqI rfl
@[simp] theorem metKM_e (i : Nat) (sem : Sem) (dds : List PyData) (fa : AM) (ρ : Rho) : metKM i sem dds fa ρ = pick (isDsk ρ[i]?) (fun ρ => bindO (appA fa dds ρ) (keptR i sem)) (fun _ => none) ρ := by
  unfold metKM pick
  split <;> rfl
@[simp] theorem keptR_e (i : Nat) (sem : Sem) (rs : List R) (ρ : Rho) : keptR i sem rs ρ = keptQ i sem rs ρ ρ[i]? := by
  unfold keptR keptQ
  rfl
@[simp] theorem keptQ_e (i : Nat) (sem : Sem) (rs : List R) (ρ : Rho) (ts ss : List PyData) : keptQ i sem rs ρ (some (some (.obj (.dsk ts ss)))) = closeR i (callRM sem (.slt i :: rs) (ρ.set i (some (.obj (.led ts ss))))) := eqI rfl
@[simp] theorem closeR_ok (i : Nat) (r : R) (ρ : Rho) : closeR i (some (.ok r ρ)) = closeQ i r ρ ρ[i]? := by
  unfold closeR closeQ
  rfl
@[simp] theorem closeR_er (i c : Nat) (fs : List PyData) (ρ : Rho) : closeR i (some (.er c fs ρ)) = closeE i c fs ρ ρ[i]? := by
  unfold closeR closeE
  rfl
@[simp] theorem closeQ_e (i : Nat) (r : R) (ρ : Rho) (ts ss : List PyData) : closeQ i r ρ (some (some (.obj (.led ts ss)))) = some (.ok r (ρ.set i (some (.obj (.dsk ts ss))))) := eqI rfl
@[simp] theorem closeE_e (i c : Nat) (fs : List PyData) (ρ : Rho) (ts ss : List PyData) : closeE i c fs ρ (some (some (.obj (.led ts ss)))) = some (.er c fs (ρ.set i (some (.obj (.dsk ts ss))))) := eqI rfl
end DL
namespace DL
open PySem PyProof.Rows
open L2 hiding Sp
def strB : PyData → Option R
  | .int i => if i.natAbs.log2 < 1920 then some (.dat (.str (toString i))) else none
  | .str x => some (.dat (.str x))
  | _ => none
@[simp] theorem strB_i (i : Int) : strB (.int i) = if i.natAbs.log2 < 1920 then some (R.dat (.str (nS i))) else none := eqI rfl
@[simp] theorem strB_s (x : Str) : strB (.str x) = some (R.dat (.str x)) := eqI rfl
end DL
namespace DL
open PySem PySem.Spec PyProof.Rows L2 He
section
variable {fa : ChX} {fn : List DfX} {K : PySem.W.Frag}
theorem SaysX.fact (c : SaysX fa fn K) (i j : Nat) {l : List (PySem.W.Frag → Bool)} {f : PySem.W.Frag → Bool} (h : fa[i]? = some l := by rfl) (h2 : l[j]? = some f := by rfl) : f K = true := by
  have c1 := (ba (show ((fa.all fun l => l.all fun f => f K) && fn.all fun d => d.ok K) = true from congrArg (fun z => z.1) c.e)).1
  exact List.all_eq_true.mp (List.all_eq_true.mp c1 l (List.mem_of_getElem? h)) f (List.mem_of_getElem? h2)
theorem SaysX.def_ (c : SaysX fa fn K) (i : Nat) {d : DfX} {dv cd : Value} (h : fn[i]? = some d) (hd : dvX K (fAd K d.at_) = dv) (hc : cdX K (fAd K d.at_) = cd) :
    (∃ oc od osl kV doc pm an ct, K.lookup (fAd K d.at_) = some ⟨oc, od, .func (PySem.W.fnOf d.name d.qual d.params d.body d.scope dv kV doc pm an cd ct), osl⟩) ∧ PySem.W.keepIn K (.ref (fAd K d.at_)) = true ∧ PySem.W.codeIn K cd d.qual = true := by
  have c2 := (ba (show ((fa.all fun l => l.all fun f => f K) && fn.all fun d => d.ok K) = true from congrArg (fun z => z.1) c.e)).2
  have e : fn.map (fun d => fnW K d.at_) = fn.map DfX.val := congrArg (fun z => z.2) c.e
  have e2 : (fn.map fun d => fnW K d.at_)[i]? = (fn.map DfX.val)[i]? := by rw [e]
  rw [List.getElem?_map, List.getElem?_map, h] at e2
  subst hd hc
  exact ⟨DfX.fn (Option.some.inj e2), ba (List.all_eq_true.mp c2 d (List.mem_of_getElem? h))⟩
end
/-- the goal that a small head leaves -/
theorem walk_x {l : PySem.W.OpenLaw} {n k m : Nat} {q : Program} {loose : List Str} {XP : (Str → Option Value) → Heap → Prop} {d : DefRec} {x : Str} {fa : ChX} {fn : List DfX} {tf : List (Str × Option Str)} (hn : l.most = some n) (hn2 : n ≤ lim) (hdf : d.params.defaults = []) (hr : Room k callerA) (him : importsNone q = true)
    (F : ∀ (w : World) (mg : Str → Option Value) (fa' : Addr) (h : Heap) (K : PySem.W.Frag), K.In h → h.Ns mainGlobals mg → mg d.name = some (.ref fa') → SaysX fa fn K →
      Walked (tbX K tf) l.prog w K mg fa' x k fun sem => ∀ ns : List Int, ns.length ≤ n → ∃ os, sem [.dat (.list (ns.map .int))] = some (.ok (.dat (.bool true)) os)) :
    PySem.W.WalkO q loose XP (hookX m fa fn tf).says l.row.toRowW d [] (fun f vs => PySem.call f vs) := by
  refine Att.attach_call hn hdf ?_
  intro w s0 s1 mg mb fa' o pm cd doc a vs ns G Y ho hd hcd hmg hobj hints hlen hg
  obtain ⟨K, kx, cx, ky⟩ := Y
  obtain ⟨fd, T, sem, tn, e1, e2, hb, ⟨ht, htb⟩, hF, hS⟩ := F w mg fa' _ K kx G.T.g hmg cx
  rw [← e1] at kx
  obtain ⟨mm, hm, _⟩ := (G.T.seer him).mods
  have tc : TabsAt T.K s1.heap mg tn := ⟨fun p hp => ky _ (ht p hp).2.1, fun p hp => (ht p hp).2.2, fun p hp => PySem.W.codeHd_of_K kx (ht p hp).1, G.T.bmain⟩
  exact law_g kx G.T.g G.T.b G.T.builtins G.T.nolimit ⟨mm, hm⟩ hg hobj hints (Nat.le_trans hlen hn2) hr tc htb hF hb (hS ns hlen)
end DL
namespace DL
open PySem PyProof.Rows
open L2 hiding Sp
end DL
namespace DL
open PySem PyProof.Rows
open L2 hiding Sp
def endO (ρ : Rho) : Option (Oe R) → Option (Oe R)
  | some (.ok (.dat d) _) => some (.ok (.dat d) ρ)
  | _ => none
def callOR (sem : Sem) (fb : EM) (ρ : Rho) : R → Option (Oe R)
  | .own (.list p) => bindO (fb ρ) fun s ρ2 => match s with
    | .dat d => endO ρ2 (sem [.own (.list p), .dat d])
    | _ => none
  | _ => none
def callOM (sem : Sem) (fa fb : EM) : EM := fun ρ => bindO (fa ρ) fun r ρ1 => callOR sem fb ρ1 r
@[simp] theorem callOM_e (sem : Sem) (fa fb : EM) (ρ : Rho) : callOM sem fa fb ρ = bindO (fa ρ) fun r ρ1 => callOR sem fb ρ1 r := eqI rfl
@[simp] theorem endO_ok (d : PyData) (ρ os : Rho) : endO ρ (some (.ok (.dat d) os)) = some (.ok (.dat d) ρ) := eqI rfl
end DL
namespace DL
open PySem PyProof.Rows
open L2 hiding Sp
/-- a function object known to the object -/
def FnO (a : Addr) (o : Obj) : HO := .ext fun h => h.get? a = some o
section
variable {X : Cx} {pins : List (Addr × Obj)} {σ : L2.St} {H : Hp} {s : Shared}
/-- the lambda's object -/
abbrev lamO (X : Cx) (q : Str) (params : Arguments) (body : Expr) (scope : Scope) (pm : Value) (c' : Addr) (ctv : Value) : Obj := PySem.W.kla_obj "<lambda>" q params body scope (cloFrom X.env.cells scope.names []) pm c' ctv
end
/-- a lambda of X's and what it comes to -/
structure LamK (X : Cx) (T : Tb) (kb : Nat) (params : Arguments) (body : Expr) (scope : Scope) (fE : EM) : Prop where
  L : LamX.LamS X.env.scope scope
  bind : ∀ (q : Str) (cl : List (Str × Addr)) (pm cv ctv : Value), bindArgs (PySem.W.kla_fn "<lambda>" q params body scope cl pm cv ctv) ⟨[], []⟩ = pure []
  run : ∀ (A : Around) (outer : List Env) (s : Shared) (H : Hp) (E : XK) (f c' : Addr), A.guards = some [] → Room kb (A.deeper (LamX.lamEnv X scope s.heap.objs.size f c')) → SE (LamX.lamCx X A outer s H E scope f c') T (fun cls d _ H' => E cls d H') body fE
/-- what a lambda that is tracked is -/
def LamT (X : Cx) (T : Tb) (kb : Nat) (q : Str) (H : Hp) (f : Addr) (fE : EM) : Prop := ∃ (c' : Addr) (params : Arguments) (body : Expr) (scope : Scope) (pm ctv : Value), LamK X T kb params body scope fE ∧ H f = some (FnO f (lamO X q params body scope pm c' ctv)) ∧ H c' = some (LamX.CodeO c' q)
end DL
namespace DL
open PySem PySem.Spec PyProof.Rows
open L2 hiding Sp
end DL
namespace DL
open PySem PySem.Spec PyProof.Rows
open L2 hiding Sp
def isHo : Option (Option R) → Bool
  | some none => true
  | _ => false
theorem isHo_of {x : Option (Option R)} (h : isHo x = true) : x = some none := by
  unfold isHo at h
  split at h
  · rfl
  · cases h
inductive LamTs (X : Cx) (T : Tb) (kb : Nat) (q : Str) (H : Hp) : List Addr → List EM → Prop where
  | nil : LamTs X T kb q H [] []
  | cons {f : Addr} {fE : EM} {fs : List Addr} {es : List EM} : LamT X T kb q H f fE → LamTs X T kb q H fs es → LamTs X T kb q H (f :: fs) (fE :: es)
section
variable {X : Cx} {T : Tb} {kb : Nat} {q : Str} {H H' : Hp}
theorem LamT.mono {f : Addr} {fE : EM} (k : ∀ b o, H b = some o → (b = f ∨ ∃ c q, o = LamX.CodeO c q) → H' b = some o) : LamT X T kb q H f fE → LamT X T kb q H' f fE
  | ⟨c', params, body, scope, pm, ctv, h1, h2, h3⟩ => ⟨c', params, body, scope, pm, ctv, h1, k _ _ h2 (.inl rfl), k _ _ h3 (.inr ⟨_, _, rfl⟩)⟩
theorem LamTs.mono : ∀ {fs : List Addr} {es : List EM}, (∀ b o, H b = some o → (b ∈ fs ∨ ∃ c q, o = LamX.CodeO c q) → H' b = some o) → LamTs X T kb q H fs es → LamTs X T kb q H' fs es
  | _, _, _, .nil => .nil
  | _, _, k, .cons a b => .cons (a.mono fun b o h z => k b o h (z.imp (fun e => by rw [e]; exact List.mem_cons_self) id)) (b.mono fun b o h z => k b o h (z.imp (List.mem_cons_of_mem _) id))
theorem LamTs.snoc {f : Addr} {fE : EM} : ∀ {fs : List Addr} {es : List EM}, LamTs X T kb q H fs es → LamT X T kb q H f fE → LamTs X T kb q H (fs ++ [f]) (es ++ [fE])
  | _, _, .nil, h => .cons h .nil
  | _, _, .cons a b, h => .cons a (b.snoc h)
theorem LamTs.len : ∀ {fs : List Addr} {es : List EM}, LamTs X T kb q H fs es → fs.length = es.length
  | _, _, .nil => rfl
  | _, _, .cons _ b => by rw [List.length_cons, List.length_cons, b.len]
theorem LamTs.at_ : ∀ {fs : List Addr} {es : List EM} {i : Nat} {f : Addr}, LamTs X T kb q H fs es → fs[i]? = some f → ∃ fE, es[i]? = some fE ∧ LamT X T kb q H f fE
  | _, _, _, _, .nil, h => by simp at h
  | _, _, 0, _, .cons a _, h => by simp at h; subst h; exact ⟨_, rfl, a⟩
  | _, _, i + 1, _, .cons _ b, h => by
    obtain ⟨fE, e, h⟩ := b.at_ (i := i) (by simpa using h)
    exact ⟨fE, by simpa using e, h⟩
theorem LamT.there {f : Addr} {fE : EM} : LamT X T kb q H f fE → ∃ ob, H f = some (FnO f ob)
  | ⟨_, _, _, _, _, _, _, h2, _⟩ => ⟨_, h2⟩
theorem LamTs.there {f : Addr} : ∀ {fs : List Addr} {es : List EM}, LamTs X T kb q H fs es → f ∈ fs → ∃ ob, H f = some (FnO f ob)
  | _, _, .nil, h => by cases h
  | _, _, .cons a b, h => by
    rcases List.mem_cons.mp h with rfl | h
    · exact a.there
    · exact b.there h
end
section
variable {X : Cx} {T : Tb} {W : WX} {n k kb iB j : Nat} {x y yc q : Str} {mt : Nat → Option Bool} {wd : Nat → List PyData → Option PyData} {N : List Str} {sc scope : Scope} {p pa p0 p1 p2 p3 pos : Pos} {k0 : Nat}
theorem pg_loc {tpos : Pos} (a : At X N sc) (nd : X.N.Nodup) (i : Nat) (h : (decide (N[i]? = some x) && locB sc x) = true) (hf : X.fn x = true ∨ sc.names.lookup x = some .local) : PG X (.Name x tpos) (gName i) := by
  simp only [Bool.and_eq_true, decide_eq_true_eq] at h
  exact pg_name nd (by rw [a.hN]; exact h.1) (by rw [a.hs]; exact locB_ok h.2) (by rw [a.hs]; exact hf)
end
end DL
namespace DL
open PySem PySem.Spec PyProof.Rows
open L2 hiding Sp
end DL
namespace DL
open PySem PyProof.Rows
open L2 hiding Sp
def wvN : List (List PyData) → Nat
  | [] => 0
  | [] :: r => wvN r
  | (_ :: _) :: r => wvN r + 1
def wvSel : List (List PyData) → List (List PyData)
  | [] => []
  | [] :: r => wvSel r
  | (d :: ds) :: r => (d :: ds) :: wvSel r
/-- the first of the k-th row that is not empty, and the rows without it -/
def wvPop : List (List PyData) → Nat → Option (PyData × List (List PyData))
  | [], _ => none
  | [] :: r, k => (wvPop r k).map fun p => (p.1, [] :: p.2)
  | (d :: ds) :: r, 0 => some (d, ds :: r)
  | (d :: ds) :: r, k + 1 => (wvPop r k).map fun p => (p.1, (d :: ds) :: p.2)
def selA : List Addr → List (List PyData) → List Addr
  | a :: as, ds :: dss => if ds.isEmpty = true then selA as dss else a :: selA as dss
  | _, _ => []
theorem wvSel_len : ∀ dss : List (List PyData), (wvSel dss).length = wvN dss
  | [] => rfl
  | [] :: r => wvSel_len r
  | (d :: ds) :: r => by show (wvSel r).length + 1 = _; rw [wvSel_len r]; rfl
theorem selA_len : ∀ (as : List Addr) (dss : List (List PyData)), as.length = dss.length → (selA as dss).length = wvN dss
  | [], [], _ => rfl
  | a :: as, [] :: dss, h => selA_len as dss (by simpa using h)
  | a :: as, (d :: ds) :: dss, h => by
    show (selA as dss).length + 1 = _
    rw [selA_len as dss (by simpa using h)]
    rfl
theorem selA_take : ∀ (as : List Addr) (dss : List (List PyData)) (i : Nat) {a : Addr} {ds : List PyData}, as[i]? = some a → dss[i]? = some ds → selA (as.take (i + 1)) (dss.take (i + 1)) = selA (as.take i) (dss.take i) ++ (if ds.isEmpty = true then [] else [a])
  | [], _, _, _, _, h, _ => by simp at h
  | _ :: _, [], _, _, _, _, h => by simp at h
  | b :: as, es :: dss, 0, a, ds, h, h' => by
    simp at h h'
    subst h h'
    show (if es.isEmpty = true then [] else [b]) = _
    rfl
  | b :: as, es :: dss, i + 1, a, ds, h, h' => by
    have ih := selA_take as dss i (a := a) (ds := ds) (by simpa using h) (by simpa using h')
    show (if es.isEmpty = true then selA (as.take (i + 1)) (dss.take (i + 1)) else b :: selA (as.take (i + 1)) (dss.take (i + 1))) = (if es.isEmpty = true then selA (as.take i) (dss.take i) else b :: selA (as.take i) (dss.take i)) ++ _
    rw [ih]
    split <;> rfl
theorem selA_pop : ∀ (as : List Addr) (dss : List (List PyData)) (k : Nat) {a : Addr}, as.length = dss.length → (selA as dss)[k]? = some a → ∃ i d ds, as[i]? = some a ∧ dss[i]? = some (d :: ds) ∧ wvPop dss k = some (d, dss.set i ds)
  | [], [], k, a, _, h => by cases h
  | b :: as, [] :: dss, k, a, hl, h => by
    obtain ⟨i, d, ds, h1, h2, h3⟩ := selA_pop as dss k (a := a) (by simpa using hl) h
    refine ⟨i + 1, d, ds, by simpa using h1, by simpa using h2, ?_⟩
    show (wvPop dss k).map _ = _
    rw [h3]
    rfl
  | b :: as, (e :: es) :: dss, 0, a, hl, h => by
    have h' : some b = some a := h
    cases h'
    exact ⟨0, e, es, rfl, rfl, rfl⟩
  | b :: as, (e :: es) :: dss, k + 1, a, hl, h => by
    obtain ⟨i, d, ds, h1, h2, h3⟩ := selA_pop as dss k (a := a) (by simpa using hl) h
    refine ⟨i + 1, d, ds, by simpa using h1, by simpa using h2, ?_⟩
    show (wvPop dss k).map _ = _
    rw [h3]
    rfl
theorem wvPop_lt : ∀ (dss : List (List PyData)) (k : Nat) {p : PyData × List (List PyData)}, wvPop dss k = some p → k < wvN dss
  | [], _, _, h => by cases h
  | [] :: r, k, p, h => by
    obtain ⟨q, h1, _⟩ := Option.map_eq_some_iff.mp (show (wvPop r k).map _ = some p from h)
    exact wvPop_lt r k h1
  | (d :: ds) :: r, 0, _, _ => Nat.succ_pos _
  | (d :: ds) :: r, k + 1, p, h => by
    obtain ⟨q, h1, _⟩ := Option.map_eq_some_iff.mp (show (wvPop r k).map _ = some p from h)
    exact Nat.succ_lt_succ (wvPop_lt r k h1)
inductive RowsAt (K : PySem.W.Frag) (H : Hp) (F : Addr → Prop) : List Addr → List (List PyData) → Prop where
  | nil : RowsAt K H F [] []
  | cons {a : Addr} {as : List Addr} {ds : List PyData} {dss : List (List PyData)} : OwnAt K H F a (.list ds) → RowsAt K H F as dss → RowsAt K H F (a :: as) (ds :: dss)
section
variable {K : PySem.W.Frag} {H H' : Hp} {F F' : Addr → Prop}
theorem RowsAt.len : ∀ {as : List Addr} {dss : List (List PyData)}, RowsAt K H F as dss → as.length = dss.length
  | _, _, .nil => rfl
  | _, _, .cons _ b => by rw [List.length_cons, List.length_cons, b.len]
theorem RowsAt.mono (k : Kept F H H') (g : ∀ b, F b → F' b) : ∀ {as : List Addr} {dss : List (List PyData)}, (∀ a ∈ as, ∀ o, H a = some o → H' a = some o) → RowsAt K H F as dss → RowsAt K H' F' as dss
  | _, _, _, .nil => .nil
  | _, _, ha, .cons a b => .cons (a.mono k g (ha _ List.mem_cons_self)) (b.mono k g fun c hc => ha c (List.mem_cons_of_mem _ hc))
theorem RowsAt.get : ∀ {as : List Addr} {dss : List (List PyData)} {i : Nat} {a : Addr}, RowsAt K H F as dss → as[i]? = some a → ∃ ds, dss[i]? = some ds ∧ OwnAt K H F a (.list ds)
  | _, _, _, _, .nil, h => by simp at h
  | _, _, 0, _, .cons a _, h => by simp at h; subst h; exact ⟨_, rfl, a⟩
  | _, _, i + 1, _, .cons a b, h => by
    obtain ⟨ds, h1, h2⟩ := b.get (i := i) (by simpa using h)
    exact ⟨ds, by simpa using h1, h2⟩
theorem RowsAt.snoc {a : Addr} {ds : List PyData} : ∀ {as : List Addr} {dss : List (List PyData)}, RowsAt K H F as dss → OwnAt K H F a (.list ds) → RowsAt K H F (as ++ [a]) (dss ++ [ds])
  | _, _, .nil, h => .cons h .nil
  | _, _, .cons a b, h => .cons a (b.snoc h)
theorem RowsAt.there {a : Addr} : ∀ {as : List Addr} {dss : List (List PyData)}, RowsAt K H F as dss → a ∈ as → ∃ o, H a = some o
  | _, _, .nil, h => by cases h
  | _, _, .cons q b, h => by
    rcases List.mem_cons.mp h with rfl | h
    · obtain ⟨o, ho, _⟩ := q.there; exact ⟨o, ho⟩
    · exact b.there h
theorem RowsAt.put {a : Addr} {ds : List PyData} (k : Kept F H H') (n : OwnAt K H' F a (.list ds)) : ∀ {as : List Addr} {dss : List (List PyData)} {i : Nat}, RowsAt K H F as dss → as[i]? = some a → as.Nodup → (∀ c ∈ as, c ≠ a → ∀ o, H c = some o → H' c = some o) → RowsAt K H' F as (dss.set i ds)
  | _, _, _, .nil, h, _, _ => by simp at h
  | _, _, 0, .cons q b, h, nd, kk => by
    simp at h
    subst h
    rw [List.nodup_cons] at nd
    exact .cons n (b.mono k (fun _ h => h) fun c hc => kk c (List.mem_cons_of_mem _ hc) fun e => nd.1 (e ▸ hc))
  | _, _, i + 1, .cons (a := c) q b, h, nd, kk => by
    rw [List.nodup_cons] at nd
    have hm : a ∈ _ := List.mem_of_getElem? (show _ = some a by simpa using h)
    exact .cons (q.mono k (fun _ h => h) (kk c List.mem_cons_self fun e => nd.1 (e ▸ hm))) (b.put k n (by simpa using h) nd.2 fun c hc => kk c (List.mem_cons_of_mem _ hc))
/-- as data, in any region in which they lie -/
theorem RowsAt.df : ∀ {as : List Addr} {dss : List (List PyData)}, RowsAt K H F as dss → (∀ a ∈ as, F a) → DFs K H F ((selA as dss).map V.ref) ((wvSel dss).map PyData.list)
  | _, _, .nil, _ => .nil
  | _, _, .cons (ds := []) _ b, h => b.df fun c hc => h c (List.mem_cons_of_mem _ hc)
  | _, _, .cons (ds := d :: ds) ⟨vs, q, s⟩ b, h => .cons (.lst (h _ List.mem_cons_self) (.inl q) s) (b.df fun c hc => h c (List.mem_cons_of_mem _ hc))
end
abbrev rneA (K : PySem.W.Frag) : R2 := fun x y H Q => rNe x y H Q ∨ rNeD K x y H Q
section
variable {X : Cx} {T : Tb} {W : WX} {n : Nat} {N : List Str} {sc scope : Scope} {jL iR : Nat} {r y : Str} {p1 p2 p3 p4 p5 p6 pos : Pos}
def tSel (T : Tb) (jL iR : Nat) : TE := fun σ H Q => ∃ (F : Reg) (L : Addr) (as : List Addr) (dss : List (List PyData)), (∀ b, F b → H b ≠ none) ∧ σ[jL]? = some (some (.ref L)) ∧ H L = some (.lst (as.map V.ref)) ∧ RowsAt T.K H F as dss ∧ dss.length ≤ lim ∧ (∀ ds ∈ dss, SeqAt.shaped (.list ds) = true) ∧ iR < σ.length ∧
  ∀ D H', H D = none → (∀ b o, H b = some o → H' b = some o) → H' D = some (.lst ((selA as dss).map V.ref)) → Q (.ref D) H'
theorem eqv_lnil (d : PyData) (ds : List PyData) : PyData.eqv (.list (d :: ds)) (.list []) = false := by
  first | rfl | simp [PyData.eqv]
theorem sel_of {σ : L2.St} {H : Hp} {Q : VK} (hK : X.K = T.K) (h : tSel T jL iR σ H Q) : tLc (iList X.K (tVar jL)) (gName iR) (tTest (tOp (rneA T.K) (tVar iR) (tLst tNil))) (tVar iR) [iR] σ H Q := by
  obtain ⟨F, L, as, dss, lv, hj, hL, rows, hz, sh, hr, fin⟩ := h
  refine ⟨.ref L, hj, L, rfl, ⟨_, .inl (.inl hL)⟩, fun D hD => ?_⟩
  have ll := rows.len
  refine lc_list (K := X.K) (a := L) (xs := as.map V.ref) (D := D) (fun i H' => (∀ b o, H b = some o → H' b = some o) ∧ H' D = some (.lst ((selA (as.take i) (dss.take i)).map V.ref))) ?_ ?_ ?_ ?_
  · exact ⟨kept_new hD, upd_same⟩
  · rintro i H' _ ⟨k, _⟩
    exact .inl (.inl (k _ _ hL))
  · rintro i v H' hv ⟨k, hDl⟩
    rw [List.getElem?_map] at hv
    cases qa : as[i]? with
    | none => rw [qa] at hv; cases hv
    | some a =>
      rw [qa] at hv
      cases hv
      obtain ⟨ds, qd, ow⟩ := rows.get qa
      have hil : i < as.length := (List.getElem?_eq_some_iff.mp qa).1
      refine ⟨by
        show ((σ.set iR none).set iR (some (V.ref a))).set iR none = σ.set iR none
        rw [List.set_set, List.set_set], ?_⟩
      have at_ : ((σ.set iR none).set iR (some (V.ref a)))[iR]? = some (some (V.ref a)) := List.getElem?_set_self (by rw [List.length_set]; exact hr)
      refine ⟨.ref a, at_, Nat.zero_le _, fun p hp => ?_⟩
      have k2 : ∀ b o, H b = some o → upd H' p (.lst []) b = some o := fun b o h => kept_new hp b o (k b o h)
      have shd : SeqAt.shaped (.list ds) = true := sh ds (List.mem_of_getElem? qd)
      have sh0 : SeqAt.shaped (.list []) = true := rfl
      have hne : dNe (.list ds) (.list []) = some (.dat (.bool (!PyData.eqv (.list ds) (.list [])))) := by
        show (if SeqAt.shaped (.list ds) = true ∧ SeqAt.shaped (.list []) = true then _ else _) = _
        rw [if_pos ⟨shd, sh0⟩]
      refine does_ne (T := T) (F := F) _ _ (.list ds) (.list []) _ _ (Q := _) (fun b hb z => ?_) (.inr ⟨a, rfl, ow.mono (kept_all k2) (fun _ h => h) fun o h => k2 a o h⟩) (.inr ⟨p, rfl, _, upd_same, .nil⟩) hne fun z H2 F2 g2 r2 => ?_
      · cases q : H b with
        | none => exact lv b hb q
        | some o => rw [k2 b o q] at z; cases z
      · have r2' : DF T.K H2 F2 z (.bool (!PyData.eqv (.list ds) (.list []))) := r2
        have k3 : ∀ b o, H b = some o → H2 b = some o := fun b o h => g2.1 b o (k2 b o h)
        have hD2 : H2 D = some (.lst ((selA (as.take i) (dss.take i)).map V.ref)) := g2.1 D _ (by rw [upd_ne (ne_of_none hDl hp)]; exact hDl)
        cases r2'
        refine ⟨_, rfl, ?_⟩
        have tk := selA_take as dss i qa qd
        cases ds with
        | nil =>
          dsimp only
          rw [if_neg (by show ¬ (!PyData.eqv (.list []) (.list [])) = true; decide)]
          refine ⟨k3, ?_⟩
          rw [tk]
          simpa using hD2
        | cons d dr =>
          dsimp only
          rw [if_pos (by rw [eqv_lnil]; rfl)]
          refine ⟨.ref a, at_, _, hD2, ?_, fun b o h => ?_, ?_⟩
          · rw [List.length_map, selA_len _ _ (by rw [List.length_take, List.length_take, ll])]
            refine Nat.lt_of_le_of_lt (m := (as.take i).length) ?_ ?_
            · have : ∀ dss : List (List PyData), wvN dss ≤ dss.length := fun dss => by
                rw [← wvSel_len]
                induction dss with
                | nil => exact Nat.le_refl _
                | cons x xs ih => cases x with
                  | nil => exact Nat.le_succ_of_le ih
                  | cons _ _ => exact Nat.succ_le_succ ih
              refine Nat.le_trans (this _) (Nat.le_of_eq ?_)
              rw [List.length_take, List.length_take, ll]
            · rw [List.length_take]
              have : as.length ≤ lim := by rw [ll]; exact hz
              have : lim < sizeLine := by decide
              omega
          · rw [upd_ne (ne_of_none h hD)]
            exact k3 b o h
          · rw [upd_same, tk]
            simp
  · rintro H' ⟨k, hDl⟩
    rw [List.length_map, List.take_length, ll, List.take_length] at hDl
    exact fin D H' hD k hDl
/-- [r for r in y if r != []] -/
theorem pe_sel (l : At X N sc) (cx : Cxt X T W n) (hj : nmB N sc jL y = true) (hb : blkC N sc scope [(r, iR)] = true) (hr : nmB N (relS scope sc) iR r = true) (ht : (decide (N[iR]? = some r) && locB (relS scope sc) r) = true) (hl : (relS scope sc).names.lookup r = some .local) (hs : ∀ x, foldedSetIterable (.Name y p3) X.env x = pure x := by intro _; rfl) :
    PE X (.ListComp (.Name r p1) [⟨.Name r p2, .Name y p3, [.Compare (.Name r p4) [.NotEq] [.List [] p5] p6], 0⟩] scope pos) (tSel T jL iR) := by
  refine pe_imp (pe_lc (own := [(r, iR)]) (wi := iList X.K (tVar jL)) (g := gName iR) (tt := tTest (tOp (rneA T.K) (tVar iR) (tLst tNil))) (te := tVar iR) cx.calm cx.nd (pi_list (pe_n l jL hj)) (l.blkOk hb)
    (fun s H C cl fp => pg_loc (l.blk s H scope cl C fp) cx.nd iR ht (.inr hl))
    (fun s H C cl fp => pts_one (pt_cmpR (op_ne.or ((cx.blk s H _ _ fp).hK ▸ op_neD (cx.blk s H _ _ fp).room.units)) (pe_n (l.blk s H scope cl C fp) iR hr) (pe_lst pa_nil) (nomark _)))
    (fun s H C cl fp => pe_n (l.blk s H scope cl C fp) iR hr) hs) fun _ _ _ h => sel_of cx.hK h
/-- s = [r for r in y if r != []] -/
theorem ps_sel {i : Nat} {z : Str} {py spos : Pos} (l : At X N sc) (hk : X.env.scope.kind = .function) (cx : Cxt X T W n) (hi : tgB N sc i z = true) (hw : (lclB sc z && (py.line == pos.line) && !(scope.names.any fun (n, k) => n == z && (k == .local || k == .cell))) = true)
    (hj : nmB N sc jL y = true) (hb : blkC N sc scope [(r, iR)] = true) (hr : nmB N (relS scope sc) iR r = true) (ht : (decide (N[iR]? = some r) && locB (relS scope sc) r) = true) (hl : (relS scope sc).names.lookup r = some .local) (hs : ∀ x, foldedSetIterable (.Name y p3) X.env x = pure x := by intro _; rfl) :
    PS X (.Assign [.Name z py] (.ListComp (.Name r p1) [⟨.Name r p2, .Name y p3, [.Compare (.Name r p4) [.NotEq] [.List [] p5] p6], 0⟩] scope pos) spos) (tAsg (tSel T jL iR) (gName i)) := by
  have hw' := hw
  simp only [Bool.and_eq_true, Bool.not_eq_true'] at hw'
  unfold tgB at hi
  simp only [Bool.and_eq_true, decide_eq_true_eq] at hi
  refine ps_imp (ps_setLc (own := [(r, iR)]) (wi := iList X.K (tVar jL)) (g := gName iR) (tt := tTest (tOp (rneA T.K) (tVar iR) (tLst tNil))) (te := tVar iR) cx.calm cx.nd (by rw [l.hN]; exact hi.1) (by rw [l.hs]; exact lclB_ok hw'.1.1) (l.sw hk hw) (pi_list (pe_n l jL hj)) (l.blkOk hb)
    (fun s H C cl fp => pg_loc (l.blk s H scope cl C fp) cx.nd iR ht (.inr hl))
    (fun s H C cl fp => pts_one (pt_cmpR (op_ne.or ((cx.blk s H _ _ fp).hK ▸ op_neD (cx.blk s H _ _ fp).room.units)) (pe_n (l.blk s H scope cl C fp) iR hr) (pe_lst pa_nil) (nomark _)))
    (fun s H C cl fp => pe_n (l.blk s H scope cl C fp) iR hr) hs) fun D σ H h => sel_of cx.hK h
end
end DL
namespace DL
open PySem PyProof.Rows
open L2 hiding Sp
def lcoL (g : GM) (vs : List Nat) (f : EM) : List PyData → Rho → List (List PyData) → Option (Oe (List (List PyData)))
  | [], ρ, acc => some (.ok acc ρ)
  | x :: xs, ρ, acc => match g x ρ with
    | none => none
    | some ρ1 => bindN (f ρ1) fun r ρ2 => match r with
      | .own (.list ds) => if acc.length < lim then lcoL g vs f xs (wipeR ρ2 vs) (acc ++ [ds]) else none
      | _ => none
def lcoM (it : IM) (g : GM) (vs : List Nat) (f : EM) : Rho → Option (Oe (List (List PyData))) := fun ρ => bindO (it ρ) fun ds ρ1 => lcoL g vs f ds (wipeR ρ1 vs) []
/-- a new list of new lists -/
def tlR (T : Tb) : Tell (List (List PyData)) V := fun σ H0 H F O v dss => ∃ L as, v = .ref L ∧ H L = some (.lst (as.map V.ref)) ∧ RowsAt T.K H F as dss ∧ (L :: as).Nodup ∧ ∀ b ∈ L :: as, H0 b = none ∧ ¬ F b ∧ ∀ i, b ∉ O i
/-- what is nobody's stays so -/
theorem free_ext {T : Tb} {H H' : Hp} {F F' : Addr → Prop} {O O' : Nat → List Addr} {σ : L2.St} {ρ : Rho} {s : Bool} (x : Ext s H F O H' F' O') {b : Addr} (h : ∃ o, H b = some o) (h1 : ¬ F b) (h2 : ∀ i, b ∉ O i) : ¬ F' b ∧ ∀ i, b ∉ O' i := by
  obtain ⟨o, ho⟩ := h
  refine ⟨fun q => ?_, fun i q => ?_⟩
  · rcases x.new b q with z | ⟨i, z⟩ | z
    · exact h1 z
    · exact h2 i z
    · rw [ho] at z; cases z
  · rcases x.ow q with ⟨j, z⟩ | z
    · exact h2 j z
    · rw [ho] at z; cases z
theorem RowsAt.nt {K : PySem.W.Frag} {H : Hp} {F : Addr → Prop} {a : Addr} {o : HO} : ∀ {as : List Addr} {dss : List (List PyData)}, RowsAt K H F as dss → a ∈ as → H a = some o → NT o
  | _, _, .nil, h, _ => by cases h
  | _, _, .cons q b, h, e => by
    rcases List.mem_cons.mp h with rfl | h
    · exact (q.nc e).1
    · exact b.nt h e
theorem RowsAt.ext {T : Tb} {H H' : Hp} {F F' : Addr → Prop} {O O' : Nat → List Addr} {σ : L2.St} {ρ : Rho} {s : Bool} (E : EnvR T H F O σ ρ) (x : Ext s H F O H' F' O') {as : List Addr} {dss : List (List PyData)} (r : RowsAt T.K H F as dss) (n : ∀ b ∈ as, ∀ i, b ∉ O i) : RowsAt T.K H' F' as dss :=
  r.mono (E.kept x) x.grow fun a ha o ho => x.keep a o ho (n a ha) (r.nt ha ho)
section
variable {X : Cx} {T : Tb} {W : WX} {pr : Nat → Bool} {it : IM} {g : GM} {vs : List Nat} {f : EM}
theorem lco_of {σ : L2.St} {H : Hp} {Q : VK} (hpr : ∀ i, i ∉ vs → pr i = true) (h : Tof T W (tlR T) (lcoM it g vs f) σ H Q) : tLc (Tof T W (tlI T) it) (TGof T pr g) tYes (Tof T W0 (tlE T) f) vs σ H Q := by
  obtain ⟨ρ, F, O, E, P⟩ := h
  refine stp .refl E P fun J H1 ds ρ1 F1 O1 x1 y1 E1 r1 P1 => ?_
  intro D hD
  have hDB : H D = none := y1.live D hD
  obtain ⟨Ow, Ew, sw⟩ := E1.wiped (vs := vs)
  refine ⟨fun i m H' => ∃ ρ' F' O' acc as, m = ds.length - i ∧ i ≤ ds.length ∧ Ext false H F O H' F' O' ∧ EnvR T H' F' O' (wipe σ vs) ρ' ∧ H' D = some (.lst (as.map V.ref)) ∧ RowsAt T.K H' F' as acc ∧ (D :: as).Nodup ∧ (∀ b ∈ D :: as, H b = none ∧ ¬ F' b ∧ ∀ j, b ∉ O' j) ∧ Kept F1 H1 H' ∧ (∀ b, F1 b → F' b) ∧ Post T W (tlR T) σ H F O Q (lcoL g vs f (ds.drop i) ρ' acc),
    ⟨ds.length, wipeR ρ1 vs, F1, Ow, [], [], by simp, Nat.zero_le _, ?_, Ew.laid hD, upd_same, .nil, by simp, fun b hb => ?_, kept_all (kept_new hD), fun _ h => h, P1⟩, ?_⟩
  · have y2 : Ext false H F O (upd H1 D (.lst [])) F1 O1 := y1.trans (.laid hD)
    exact ⟨y2.keep, y2.live, y2.grow, y2.new, fun j b e => y2.own j b (sw j b e)⟩
  · obtain rfl := List.mem_singleton.mp hb
    exact ⟨hDB, fun q => E1.lv b q hD, fun j q => E1.ne_new hD j (sw j b q)⟩
  rintro i m H' ⟨ρ', F', O', acc, as, rfl, hi, x', E', hDl, rw_, nd, fr, kp, gF, P'⟩
  by_cases hlt : i < ds.length
  · have hd : ds[i]? = some ds[i] := by simp [hlt]
    rw [List.drop_eq_getElem_cons hlt] at P'
    obtain ⟨go, yl⟩ := r1.go H' kp i _ hd
    refine .inr ⟨go, fun H2 => ∃ ρ' F' O' acc as, i + 1 ≤ ds.length ∧ Ext false H F O H2 F' O' ∧ EnvR T H2 F' O' (wipe σ vs) ρ' ∧ H2 D = some (.lst (as.map V.ref)) ∧ RowsAt T.K H2 F' as acc ∧ (D :: as).Nodup ∧ (∀ b ∈ D :: as, H b = none ∧ ¬ F' b ∧ ∀ j, b ∉ O' j) ∧ Kept F1 H1 H2 ∧ (∀ b, F1 b → F' b) ∧ Post T W (tlR T) σ H F O Q (lcoL g vs f (ds.drop (i + 1)) ρ' acc), fun H2 ⟨ρ2, F2, O2, ac, va, a, b⟩ => ⟨ds.length - (i + 1), by omega, ρ2, F2, O2, ac, va, rfl, a, b⟩, fun x H'' y => ?_⟩
    obtain ⟨kH, dx⟩ := yl x H'' y
    have gr : Gr H' F' H'' F' := ⟨kH, fun _ h => h, fun _ h => .inl h⟩
    refine ⟨ds[i], ρ', F', O', E'.gr gr, dx.mono .refl gF, ?_⟩
    have P2 : Post T W (tlR T) σ H F O Q (match g ds[i] ρ' with
      | none => none
      | some ρ1 => bindN (f ρ1) fun r ρ2 => match r with
        | .own (.list es) => if acc.length < lim then lcoL g vs f (ds.drop (i + 1)) (wipeR ρ2 vs) (acc ++ [es]) else none
        | _ => none) := P'
    cases q : g ds[i] ρ' with
    | none => rw [q] at P2; exact P2.elim
    | some ρ2 =>
      rw [q] at P2
      dsimp only at P2
      refine fun σ3 O3 E3 k3 s3 => ?_
      have hw : wipe σ3 vs = wipe σ vs := by
        have e0 : wipe σ3 vs = wipe (wipe σ vs) vs := wipe_eq k3.1 fun j hj => k3.2 j (hpr j hj)
        rw [e0]
        exact wipe_eq (wipe_length σ vs) fun j hj => wipe_other hj
      have x3 : Ext false H F O H'' F' O3 := ⟨fun b o h n z => kH b o (x'.keep b o h n z), fun b h => x'.live b (gr.live b h), x'.grow, x'.new, fun j b e => x'.own j b (s3 j b e)⟩
      have kp3 : Kept F1 H1 H'' := kp.trans gF (kept_all kH)
      have hD3 := kH D _ hDl
      have rw3 : RowsAt T.K H'' F' as acc := rw_.mono (kept_all kH) (fun _ h => h) fun a _ o h => kH a o h
      have fr3 : ∀ b ∈ D :: as, (∃ o, H'' b = some o) ∧ ¬ F' b ∧ ∀ j, b ∉ O3 j := fun b hb => by
        refine ⟨?_, (fr b hb).2.1, fun j z => (fr b hb).2.2 j (s3 j b z)⟩
        rcases List.mem_cons.mp hb with rfl | hb
        · exact ⟨_, hD3⟩
        · exact rw3.there hb
      refine ⟨hw, ?_⟩
      unfold tYes
      dsimp only
      rw [if_pos rfl]
      refine tof_N (Pp := Post T W (tlR T) σ H F O Q) (fun z => z) E3 P2 fun v H5 r ρ5 F5 O5 x5 E5 r5 P5 => ?_
      split at P5
      · rename_i es
        split at P5
        · rename_i hz
          obtain ⟨a, rfl, a1, a2, a3, a4⟩ := r5
          have fr5 : ∀ b ∈ D :: as, ¬ F5 b ∧ ∀ j, b ∉ O5 j := fun b hb => free_ext (T := T) (σ := σ) (ρ := ρ) x5 (fr3 b hb).1 (fr3 b hb).2.1 (fr3 b hb).2.2
          have hD5 : H5 D = some (.lst (as.map V.ref)) := x5.keep D _ hD3 (fr3 D List.mem_cons_self).2.2 trivial
          have rw5 : RowsAt T.K H5 F5 as acc := rw3.ext E3 x5 fun b hb => (fr3 b (List.mem_cons_of_mem _ hb)).2.2
          have y5 := x3.trans x5
          have aH : H a = none := x3.live a a1
          have na : ∀ b ∈ D :: as, b ≠ a := fun b hb e => by
            obtain ⟨o, ho⟩ := (fr3 b hb).1
            rw [e, a1] at ho; cases ho
          have kp5 := kp3.trans gF (E3.kept x5)
          have rw6 : RowsAt T.K H5 F5 (as ++ [a]) (acc ++ [es]) := rw5.snoc a4
          have hz' : (as.map V.ref).length < sizeLine := by
            rw [List.length_map, rw_.len]
            exact Nat.lt_of_lt_of_le hz (by decide)
          refine ⟨as.map V.ref, hD5, hz', ?_⟩
          obtain ⟨O7, E7, s7⟩ := E5.wiped (vs := vs)
          rw [hw] at E7
          obtain ⟨E8, k8⟩ := E7.other (o' := .lst (as.map V.ref ++ [.ref a])) hD5 (fun z => z) (fr5 D List.mem_cons_self).1 fun j z => (fr5 D List.mem_cons_self).2 j (s7 j D z)
          have y7 : Ext false H F O H5 F5 O7 := ⟨y5.keep, y5.live, y5.grow, y5.new, fun j b e => y5.own j b (s7 j b e)⟩
          refine ⟨_, F5, O7, acc ++ [es], as ++ [a], hlt, ext_other y7 hDB, E8, by rw [upd_same, List.map_append]; rfl, rw6.mono k8 (fun _ h => h) fun b hb o ho => ?_, ?_, fun b hb => ?_, kp5.trans (fun b h => x5.grow b (gF b h)) k8, fun b h => x5.grow b (gF b h), P5⟩
          · rw [upd_ne (show b ≠ D from fun e => ?_)]; exact ho
            subst e
            rcases List.mem_append.mp hb with hb | hb
            · exact (List.nodup_cons.mp nd).1 hb
            · exact na b List.mem_cons_self (List.mem_singleton.mp hb)
          · rw [← List.cons_append]
            refine List.nodup_append.mpr ⟨nd, by simp, fun b hb c hc => ?_⟩
            rw [List.mem_singleton.mp hc]
            exact na b hb
          · rw [← List.cons_append] at hb
            rcases List.mem_append.mp hb with hb | hb
            · exact ⟨(fr b hb).1, (fr5 b hb).1, fun j z => (fr5 b hb).2 j (s7 j b z)⟩
            · obtain rfl := List.mem_singleton.mp hb
              exact ⟨aH, a2, fun j z => a3 j (s7 j b z)⟩
        · exact P5.elim
      · exact P5.elim
  · have e : i = ds.length := by omega
    subst e
    rw [List.drop_length] at P'
    exact .inl ⟨r1.stop H' kp _ (Nat.le_refl _) (Nat.le_refl _), P' (.ref D) H' F' O' x' E'.unwipe ⟨D, as, rfl, hDl, rw_, nd, fr⟩⟩
theorem pe_lco {elt tg iter : Expr} {scope : Scope} {own : List (Str × Nat)} {pos : Pos} (hc : X.calm = true) (hN : X.N.Nodup) (hi : SI X T W tg iter it) (ok : BlkOk X.N X.env.scope scope own)
    (hg : ∀ (s : Shared) (H : Hp) (C : Addr) (cl : List (Str × Addr)) (fp : List Addr), SG (X.blk s H scope (compEnvC scope cl C X.env) fp) T (prB (own.map (·.2))) tg g)
    (he : ∀ (s : Shared) (H : Hp) (C : Addr) (cl : List (Str × Addr)) (fp : List Addr), SE (X.blk s H scope (compEnvC scope cl C X.env) fp) T W0 elt f) (hs : ∀ x, foldedSetIterable iter X.env x = pure x := by intro _; rfl) :
    PE X (.ListComp elt [⟨tg, iter, [], 0⟩] scope pos) (Tof T W (tlR T) (lcoM it g (own.map (·.2)) f)) :=
  pe_imp (pe_lc hc hN hi ok hg (fun _ _ _ _ _ => pts_nil) he hs) fun _ _ _ h => lco_of prB_ok h
end
end DL
namespace DL
open PySem PyProof.Rows
open L2 hiding Sp
section
variable {X : Cx} {T : Tb} {W : WX} {x : Str} {k n m : Nat} {sem : Sem} {e : Expr} {es : List Expr} {ta : TA} {p pos : Pos}
/-- f(e, ..), the arguments read as the machine holds them -/
theorem pe_callR (h : FnE X.prog X.w X.mg X.base T x k n sem) (c : Cxt X T W m) (hk : k ≤ m) (hg : L2.Gl X x) (ha : PA X (e :: es) ta) (hdb : (x == ("__debug__" : Str)) = false := by decide)
    (he : starEach (e :: es) X.env = (false, eval e X.env) :: starEach es X.env := by rfl) (hpl : (backTo pos (starEach es X.env)).any (·.1) = false := by rfl) : PE X (.Call (.Name x p) (e :: es) [] pos) (fun σ H Q => ta σ H fun vs H1 => spOf T n sem vs H1 Q fun cls d H' => W cls d σ H') := by
  obtain ⟨f, fd, ps, hm, hkp, hb, hn, G⟩ := h.ex
  rw [← c.hK] at hkp hb G
  refine ⟨fun pins s σ H Q I h2 => ?_⟩
  have fin : ∀ us s1, AP X pins σ (fun vs H1 => spOf T n sem vs H1 Q fun cls d H' => W cls d σ H') us s1 → X.K.In s1.heap ∧ wpAny (model X.prog X.w) X.A (call (.ref f) us) (EP X pins σ Q) X.xe s1 := by
    rintro us s1 ⟨vs, H1, I1, r, q⟩
    refine ⟨I1.kIn, ?_⟩
    have lus : us.length = ps.length := by rw [← r.length]; exact G.len _ _ _ _ q
    have bb := hb s1 us I1.kIn (by rw [List.append_nil]; exact lus)
    rw [List.append_nil] at bb
    refine wpAny_call (codeAny_mono (G.run X.A X.stack s1 H1 ⟨us, []⟩ us vs Q _ c.gd (c.room.mono hk) I1.env0 bb r q) ?_)
    intro r' s' hq
    cases r' with
    | error e => exact c.tk e s' (XE.of_call I1 (fun _ _ _ z => z) hq)
    | ok fl =>
      cases fl with
      | ret u => exact I1.after hq
      | next => exact hq.elim
      | brk => exact hq.elim
      | cont => exact hq.elim
  exact wpAny_Call_Name_kw (ld_glob I hg hm (PySem.W.callWith_K (h₀ := X.base) I.ok.mod.kin hkp (thn (ha.run pos pins s σ H _ I h2) fin) he hpl) hdb)
end
def okRows (dss : List (List PyData)) : Bool := decide (dss.length ≤ lim) && dss.all (fun ds => SeqAt.shaped (.list ds)) && SeqAt.shaped (.list ((wvSel dss).map PyData.list))
def wvTk (sem : Sem) (ip k : Nat) : EM := callM sem fun ρ => some (.ok [.slt ip, .dat (.int k)] ρ)
def wvL (sem : Sem) (ip iL iF iS : Nat) : Nat → List (List PyData) → SM
  | 0, _ => fun _ => none
  | t + 1, dss => fun ρ => if (okRows dss && (isHo ρ[iS]? && isList ρ[iF]?)) = true then
      if wvN dss = 0 then some (.nx ρ) else match wvTk sem ip (wvN dss) ρ with
        | some (.ok (.dat (.int i)) ρ1) => if 0 ≤ i then match wvPop dss i.toNat, ρ1[iF]? with
          | some (d, dss'), some (some (.own (.list acc))) => if acc.length < lim then wvL sem ip iL iF iS t dss' (ρ1.set iF (some (.own (.list (acc ++ [d]))))) else none
          | _, _ => none
          else none
        | _ => none
    else none
def wvM (it : IM) (g : GM) (f : EM) (sem : Sem) (ip iLn iL iF iS : Nat) : SM := fun ρ => match lcoM it g [iLn] f ρ with
  | some (.ok dss ρ1) => if isHo ρ1[iL]? = true then wvL sem ip iL iF iS ((dss.map List.length).sum + 1) dss (ρ1.set iF (some (.own (.list [])))) else none
  | _ => none
theorem EnvR.skip {T : Tb} {H : Hp} {F : Reg} {O : Ows} {σ : L2.St} {ρ : Rho} {i : Nat} {x : Option V} (E : EnvR T H F O σ ρ) (h : isHo ρ[i]? = true) : EnvR T H F O (σ.set i x) ρ := by
  refine ⟨by rw [List.length_set]; exact E.len, fun j r e => ?_, E.own, E.inj, E.nf, E.lv, E.tb⟩
  have hj : j ≠ i := fun z => by
    subst z
    rw [isHo_of h] at e
    cases e
  obtain ⟨v, h1, h2⟩ := E.at_ j r e
  exact ⟨v, by rw [List.getElem?_set_ne (Ne.symm hj)]; exact h1, h2⟩
section
variable {X : Cx} {T : Tb} {W : WX} {φ : Fm} {sem : Sem} {ip iLn iL iF iS iR : Nat} {D : Ends} {σ0 : L2.St} {H0 : Hp} {F0 : Reg} {O0 : Ows}
/-- at the loop's head -/
def WvI (T : Tb) (W : WX) (φ : Fm) (sem : Sem) (ip iL iF iS iR : Nat) (D : Ends) (σ0 : L2.St) (H0 : Hp) (F0 : Reg) (O0 : Ows) (t : Nat) (σ : L2.St) (H : Hp) : Prop := ∃ L as dss ρ F O, Ext true H0 F0 O0 H F O ∧ Keeps φ.pr σ0 σ ∧ StR T φ H F O σ ρ ∧ σ[iL]? = some (some (.ref L)) ∧ H L = some (.lst (as.map V.ref)) ∧ RowsAt T.K H F as dss ∧ (L :: as).Nodup ∧
  (∀ b ∈ L :: as, H0 b = none ∧ ¬ F b ∧ ∀ j, b ∉ O j) ∧ iR < σ.length ∧ iS < σ.length ∧ PostS T W φ σ0 H0 F0 O0 D (wvL sem ip iL iF iS t dss ρ)
/-- f(p, len(some)) -/
def tTk (T : Tb) (W : WX) (K : PySem.W.Frag) (sem : Sem) (ip iS : Nat) : TE := fun σ H Q => tCons (tVar ip) (tCons (tCB (rLen K) (tCons (tVar iS) tNil)) tNil) σ H fun vs H1 => spOf T 2 sem vs H1 Q fun cls d H' => W cls d σ H'
def tApp (T : Tb) (W : WX) (K : PySem.W.Frag) (sem : Sem) (ip iF iS : Nat) : TE := tBM K "list" rAppend (tVar iF) (tCons (tBM K "list" rPopAt (tOp (rIx K) (tVar iS) (tTk T W K sem ip iS)) (tCons (tC (.int 0)) tNil)) tNil)
theorem wv_turn (hK : X.K = T.K) (hl : ∀ args o, sem args = some o → args.length = 2) (hp : φ.pr iS = false) (hne : iL ≠ iS) {t : Nat} {σ : L2.St} {H : Hp} (h : WvI T W φ sem ip iL iF iS iR D σ0 H0 F0 O0 t σ H) :
    tTest (tOp (rneA T.K) (tSel T iL iR) (tLst tNil)) σ H fun b H1 => if b = true then ∃ N : L2.St → Hp → Prop, (∀ σ' H', N σ' H' → ∃ m', m' < t ∧ WvI T W φ sem ip iL iF iS iR D σ0 H0 F0 O0 m' σ' H') ∧ tSeq (tAsg (tSel T iL iR) (gName iS)) (tDrop (tApp T W X.K sem ip iF iS)) { D with nx := N, ct := N, bk := D.nx } σ H1 else D.nx σ H1 := by
  obtain ⟨L, as, dss, ρ, F, O, x, ks, S, hL, hLH, rows, nd, fr, hr, hs, P⟩ := h
  cases t with
  | zero => exact P.elim
  | succ t =>
    unfold wvL at P
    split at P
    · rename_i hc
      simp only [Bool.and_eq_true, okRows, decide_eq_true_eq, List.all_eq_true] at hc
      obtain ⟨⟨⟨c1, c2⟩, c3⟩, c4, c5⟩ := hc
      have ll := rows.len
      refine ⟨F, L, as, dss, S.E.lv, hL, hLH, rows, c1, c2, hr, fun D1 H1 hD1 k1 hD1' => ?_⟩
      refine ⟨Nat.zero_le _, fun p hp1 => ?_⟩
      have k2 : ∀ b o, H b = some o → upd H1 p (.lst []) b = some o := fun b o h => kept_new hp1 b o (k1 b o h)
      have hne2 : dNe (.list ((wvSel dss).map PyData.list)) (.list []) = some (.dat (.bool (!PyData.eqv (.list ((wvSel dss).map PyData.list)) (.list [])))) := by
        show (if SeqAt.shaped (.list ((wvSel dss).map PyData.list)) = true ∧ SeqAt.shaped (.list []) = true then _ else _) = _
        rw [if_pos ⟨c3, rfl⟩]
      have live : ∀ b, F b → upd H1 p (.lst []) b ≠ none := fun b hb z => by
        cases q : H b with
        | none => exact S.E.lv b hb q
        | some o => rw [k2 b o q] at z; cases z
      have rows2 : RowsAt T.K (upd H1 p (.lst [])) (fun b => upd H1 p (.lst []) b ≠ none) as dss := rows.mono (kept_all k2) live fun a _ o h => k2 a o h
      refine does_ne (T := T) (F := fun b => upd H1 p (.lst []) b ≠ none) _ _ (.list ((wvSel dss).map PyData.list)) (.list []) _ _ (Q := _) (fun b hb z => hb z) (.inr ⟨D1, rfl, _, kept_new hp1 _ _ hD1', rows2.df fun a ha => ?_⟩) (.inr ⟨p, rfl, _, upd_same, .nil⟩) hne2 fun z H2 F2 g2 r2 => ?_
      · obtain ⟨o, ho⟩ := rows2.there ha
        rw [ho]; simp
      have r2' : DF T.K H2 F2 z (.bool (!PyData.eqv (.list ((wvSel dss).map PyData.list)) (.list []))) := r2
      have k3 : ∀ b o, H b = some o → H2 b = some o := fun b o h => g2.1 b o (k2 b o h)
      cases r2'
      refine ⟨_, rfl, ?_⟩
      have gr : Gr H F H2 F := ⟨k3, fun _ h => h, fun _ h => .inl h⟩
      have S2 : StR T φ H2 F O σ ρ := S.step gr.ext (S.E.gr gr)
      have x2 : Ext true H0 F0 O0 H2 F O := x.trans gr.ext
      have hsel := wvSel_len dss
      split at P
      · rename_i h0
        have e0 : wvSel dss = [] := List.eq_nil_of_length_eq_zero (by rw [hsel]; exact h0)
        dsimp only
        rw [e0, if_neg (by show ¬ (!PyData.eqv (.list []) (.list [])) = true; decide)]
        exact P σ H2 F O x2 S2 ks
      · rename_i h0
        obtain ⟨y, ys, e0⟩ : ∃ y ys, wvSel dss = y :: ys := by
          cases q : wvSel dss with
          | nil => rw [q] at hsel; exact absurd hsel.symm h0
          | cons y ys => exact ⟨y, ys, rfl⟩
        dsimp only
        rw [e0]
        rw [if_pos (by show (!PyData.eqv (.list (PyData.list y :: ys.map PyData.list)) (.list [])) = true; rw [eqv_lnil]; rfl)]
        refine ⟨fun σ' H' => WvI T W φ sem ip iL iF iS iR D σ0 H0 F0 O0 t σ' H', fun σ' H' w => ⟨t, Nat.lt_succ_self _, w⟩, ?_⟩
        have rows3 : RowsAt T.K H2 F as dss := rows.mono (kept_all k3) (fun _ h => h) fun a _ o h => k3 a o h
        have hL2 : H2 L = some (.lst (as.map V.ref)) := k3 _ _ hLH
        refine ⟨F, L, as, dss, S2.E.lv, hL, hL2, rows3, c1, c2, hr, fun D3 H3 hD3 k4 hD3' => ?_⟩
        have gr3 : Gr H2 F H3 F := ⟨k4, fun _ h => h, fun _ h => .inl h⟩
        have S3 : StR T φ H3 F O σ ρ := S2.step gr3.ext (S2.E.gr gr3)
        have x3 : Ext true H0 F0 O0 H3 F O := x2.trans gr3.ext
        have E3 : EnvR T H3 F O (σ.set iS (some (V.ref D3))) ρ := S3.E.skip c4
        have oD3 : ∀ j, D3 ∉ O j := S2.E.ne_new hD3
        have nD3 : ¬ F D3 := fun z => S2.E.lv _ z hD3
        obtain ⟨ac0, q0⟩ := isList_ex c5
        obtain ⟨f, vs0, f1, f2, f3, f4⟩ := own_lst E3 q0
        have rows4 : RowsAt T.K H3 F as dss := rows3.mono (kept_all k4) (fun _ h => h) fun a _ o h => k4 a o h
        show tApp T W X.K sem ip iF iS (σ.set iS (some (V.ref D3))) H3 _
        refine ⟨.ref f, f1, .inl ⟨rfl, vs0, .inl (.inl f3)⟩, ?_⟩
        have atS : (σ.set iS (some (V.ref D3)))[iS]? = some (some (.ref D3)) := List.getElem?_set_self hs
        refine ⟨.ref D3, atS, ?_⟩
        -- the call
        cases qc : wvTk sem ip (wvN dss) ρ with
        | none => rw [qc] at P; exact P.elim
        | some oc =>
          rw [qc] at P
          have tof : ∀ (Q : VK), Post T W (tlE T) (σ.set iS (some (V.ref D3))) H3 F O Q (some oc) → ∃ v0, (σ.set iS (some (V.ref D3)))[ip]? = some (some v0) ∧ spOf T 2 sem [v0, .int (wvN dss)] H3 Q fun cls d H' => W cls d (σ.set iS (some (V.ref D3))) H' := fun Q q => by
            have hT : Tof T W (tlE T) (callM sem fun ρ => some (.ok [.slt ip, .dat (.int (wvN dss))] ρ)) (σ.set iS (some (V.ref D3))) H3 Q := ⟨ρ, F, O, E3, by
              show Post T W (tlE T) _ H3 F O Q (wvTk sem ip (wvN dss) ρ)
              rw [qc]; exact q⟩
            have hv : ∃ v0, (σ.set iS (some (V.ref D3)))[ip]? = some (some v0) := by
              unfold wvTk callM at qc
              rw [bindO_ok] at qc
              cases q1 : ρ[ip]? with
              | none =>
                split at qc
                · have e1 : passA ρ [.slt ip, .dat (.int (wvN dss))] = none := by
                    show (match (match ρ[ip]? with
                      | some (some (.own d)) => some (R.own d)
                      | some (some (.dat d)) => some (.dat d)
                      | some (some (.st xs)) => some (.st xs)
                      | some (some (.obj o)) => if okO o = true then some (.obj o) else none
                      | _ => none), passA ρ [.dat (.int (wvN dss))] with | some a, some as => some (a :: as) | _, _ => none) = none
                    rw [q1]
                  rw [e1] at qc; cases qc
                · cases qc
              | some y =>
                cases y with
                | none =>
                  split at qc
                  · have e1 : passA ρ [.slt ip, .dat (.int (wvN dss))] = none := by
                      show (match (match ρ[ip]? with
                        | some (some (.own d)) => some (R.own d)
                        | some (some (.dat d)) => some (.dat d)
                        | some (some (.st xs)) => some (.st xs)
                        | some (some (.obj o)) => if okO o = true then some (.obj o) else none
                        | _ => none), passA ρ [.dat (.int (wvN dss))] with | some a, some as => some (a :: as) | _, _ => none) = none
                      rw [q1]
                    rw [e1] at qc; cases qc
                  · cases qc
                | some r => obtain ⟨v, h1, _⟩ := E3.at_ ip r q1; exact ⟨v, h1⟩
            obtain ⟨v0, hv⟩ := hv
            obtain ⟨ρ', F', O', E', P'⟩ := call_of (n := 2) hT fun vs rs H0 H1 F1 O1 rr args ρ pa o so => by rw [resRs_len rr, ← passA_len pa]; exact hl args o so
            exact ⟨v0, hv, P' [v0, .int (wvN dss)] H3 F' O' .refl E' (.cons hv (.cons (.int _) .nil))⟩
          cases oc with
          | er c fs ρ1 => exact P.elim
          | ok r ρ1 =>
            split at P
            · rename_i i ρ2 he
              cases he
              split at P
              · rename_i hi0
                split at P
                · rename_i d dss' acc hpop hF
                  split at P
                  · rename_i hz
                    have main : ∀ v H4 F4 O4, Ext false H3 F O H4 F4 O4 → EnvR T H4 F4 O4 (σ.set iS (some (V.ref D3))) ρ1 → ResR T H3 H4 F4 O4 (σ.set iS (some (V.ref D3))) v (.dat (.int i)) → rIx X.K (.ref D3) v H4 fun z H5 => tyV X.K "list" z H5 ∧ tCons (tC (.int 0)) tNil (σ.set iS (some (V.ref D3))) H5 fun xs H6 => rPopAt z xs H6 fun y H7 => tNil (σ.set iS (some (V.ref D3))) H7 fun ws H8 => rAppend (.ref f) (y :: ws) H8 fun _ H9 => WvI T W φ sem ip iL iF iS iR D σ0 H0 F0 O0 t (σ.set iS (some (V.ref D3))) H9 := fun v H4 F4 O4 x4 E4 r4 => by
                      have ev : v = .int i := int_of r4
                      subst ev
                      have hD4 : H4 D3 = some (.lst ((selA as dss).map V.ref)) := x4.keep _ _ hD3' oD3 trivial
                      have lt := wvPop_lt dss i.toNat hpop
                      have hlt : i.toNat < (selA as dss).length := by rw [selA_len _ _ ll]; exact lt
                      obtain ⟨a, qa⟩ : ∃ a, (selA as dss)[i.toNat]? = some a := ⟨_, List.getElem?_eq_getElem hlt⟩
                      obtain ⟨j, d', ds', ja, jd, jp⟩ := selA_pop as dss i.toNat ll qa
                      rw [hpop] at jp
                      cases jp
                      have fr4 : ∀ b ∈ L :: as, ¬ F4 b ∧ ∀ j, b ∉ O4 j := fun b hb => free_ext (T := T) (σ := σ) (ρ := ρ) x4 (by
                        rcases List.mem_cons.mp hb with rfl | hb
                        · exact ⟨_, k4 _ _ hL2⟩
                        · exact rows4.there hb) (fr b hb).2.1 (fr b hb).2.2
                      have rows5 : RowsAt T.K H4 F4 as dss := rows4.ext S3.E x4 fun b hb => (fr b (List.mem_cons_of_mem _ hb)).2.2
                      obtain ⟨es, je, jo⟩ := rows5.get ja
                      rw [jd] at je
                      cases je
                      obtain ⟨us, ha4, su⟩ := jo
                      cases su with
                      | cons du sr =>
                        rename_i u ur
                        have am : a ∈ as := List.mem_of_getElem? ja
                        have aL : a ≠ L := fun e => (List.nodup_cons.mp nd).1 (e ▸ am)
                        have atk : atI ((selA as dss).map V.ref) i = some (V.ref a) := by
                          unfold atI ixN
                          rw [if_pos hi0, if_pos (by rw [List.length_map]; omega)]
                          show ((selA as dss).map V.ref)[i.toNat]? = _
                          rw [List.getElem?_map, qa]
                          rfl
                        refine .inl ⟨D3, _, i, .ref a, rfl, rfl, .inl (.inl hD4), atk, .inl ⟨rfl, _, .inl (.inl ha4)⟩, ?_⟩
                        refine ⟨a, u :: ur, 0, 0, u, rfl, rfl, ha4, by decide, by decide, by unfold seqIndex?; simp, rfl, ?_⟩
                        have fa4 := fr4 a (List.mem_cons_of_mem _ am)
                        obtain ⟨E5, k5⟩ := E4.other (o' := .lst ur) ha4 (fun z => z) fa4.1 fa4.2
                        obtain ⟨f', vs', g1, g2, g3, g4⟩ := own_lst E5 hF
                        rw [f1] at g1
                        cases g1
                        have hfz : vs'.length < sizeLine := by rw [g4.length]; exact Nat.lt_of_lt_of_le hz (by decide)
                        refine ⟨f, vs', u, rfl, rfl, g3, hfz, ?_⟩
                        have du5 : DF T.K (upd H4 a (.lst ur)) F4 u d := du.mono k5 fun _ h => h
                        obtain ⟨E6, x6, k6⟩ := E5.mut (o := .lst (vs' ++ [u])) (d' := .list (acc ++ [d])) (s := true) hF g2 fun k => ⟨_, upd_same, (g4.append (.cons du5 .nil)).mono k fun _ h => h⟩
                        have fO : f ∈ O4 iF := by rw [g2]; exact List.mem_singleton.mpr rfl
                        have nf : ∀ b ∈ L :: as, b ≠ f := fun b hb e => (fr4 b hb).2 iF (e ▸ fO)
                        have H0a : H0 a = none := (fr a (List.mem_cons_of_mem _ am)).1
                        have x5 : Ext true H0 F0 O0 (upd H4 a (.lst ur)) F4 O4 := ext_other (x3.trans x4.up) H0a
                        have S4 : StR T φ H4 F4 O4 (σ.set iS (some (V.ref D3))) ρ1 := StR.step (ρ := ρ) ⟨E3, S3.lb, S3.lf⟩ x4 E4
                        have kk : Kept F4 H4 (upd (upd H4 a (.lst ur)) f (.lst (vs' ++ [u]))) := k5.trans (fun _ h => h) k6
                        have away : ∀ b ∈ L :: as, b ≠ a → ∀ o, H4 b = some o → upd (upd H4 a (.lst ur)) f (.lst (vs' ++ [u])) b = some o := fun b hb ne o ho => by
                          rw [upd_ne (nf b hb), upd_ne ne]; exact ho
                        have af : a ≠ f := nf a (List.mem_cons_of_mem _ am)
                        refine ⟨L, as, dss.set j ds', _, F4, O4, x5.trans x6, ks.trans (.set hp), ⟨E6, fun b hb => ?_, S4.lf⟩, ?_, ?_, ?_, nd, fun b hb => ⟨(fr b hb).1, fr4 b hb⟩, by rw [List.length_set]; exact hr, by rw [List.length_set]; exact hs, P⟩
                        · have h1 := x6.live b hb
                          refine S4.lb b ?_
                          by_cases e : b = a
                          · subst e; rw [upd_same] at h1; cases h1
                          · rw [upd_ne e] at h1; exact h1
                        · rw [List.getElem?_set_ne (Ne.symm hne)]; exact hL
                        · exact away L List.mem_cons_self (Ne.symm aL) _ (x4.keep L _ (k4 _ _ hL2) (fr L List.mem_cons_self).2.2 trivial)
                        · exact rows5.put kk ⟨ur, by rw [upd_ne af, upd_same], sr.mono kk fun _ h => h⟩ ja (List.nodup_cons.mp nd).2 fun c hc => away c (List.mem_cons_of_mem _ hc)
                    obtain ⟨v0, hv0, sp⟩ := tof (fun v H4 => rIx X.K (.ref D3) v H4 fun z H5 => tyV X.K "list" z H5 ∧ tCons (tC (.int 0)) tNil (σ.set iS (some (V.ref D3))) H5 fun xs H6 => rPopAt z xs H6 fun y H7 => tNil (σ.set iS (some (V.ref D3))) H7 fun ws H8 => rAppend (.ref f) (y :: ws) H8 fun _ H9 => WvI T W φ sem ip iL iF iS iR D σ0 H0 F0 O0 t (σ.set iS (some (V.ref D3))) H9) main
                    exact ⟨v0, hv0, .ref D3, atS, .inl ⟨D3, _, rfl, .inl (by rw [hK]; exact .inl (.inl hD3')), by rw [List.length_map, selA_len _ _ ll]; exact sp⟩⟩
                  · exact P.elim
                · exact P.elim
              · exact P.elim
            · exact P.elim
    · exact P.elim
abbrev tWv (T : Tb) (W : WX) (K : PySem.W.Frag) (sem : Sem) (ip iL iF iS iR : Nat) : TS := tWhile (tTest (tOp (rneA T.K) (tSel T iL iR) (tLst tNil))) (tSeq (tAsg (tSel T iL iR) (gName iS)) (tDrop (tApp T W K sem ip iF iS)))
theorem wv_of {it : IM} {g : GM} {f : EM} {σ : L2.St} {H : Hp} (hK : X.K = T.K) (hl : ∀ args o, sem args = some o → args.length = 2) (hp : φ.pr iS = false) (hpL : φ.pr iL = false) (hpF : φ.pr iF = false) (hne : iL ≠ iS) (hLF : iL ≠ iF) (h1 : iL < σ.length) (h2 : iF < σ.length) (h3 : iS < σ.length) (h4 : iR < σ.length)
    (h : TSof T W φ (wvM it g f sem ip iLn iL iF iS) D σ H) : tSeq (tPar iL iF (tCons (Tof T W (tlR T) (lcoM it g [iLn] f)) (tCons (tLst tNil) tNil))) (tWv T W X.K sem ip iL iF iS iR) D σ H := by
  obtain ⟨ρ, F, O, S, P⟩ := h
  unfold wvM at P
  cases q : lcoM it g [iLn] f ρ with
  | none => rw [q] at P; exact P.elim
  | some o =>
    rw [q] at P
    cases o with
    | er c fs ρ1 => exact P.elim
    | ok dss ρ1 =>
      dsimp only at P
      split at P
      · rename_i hc
        refine ⟨ρ, F, O, S.E, ?_⟩
        rw [q]
        rintro v H1 F1 O1 x1 E1 ⟨L, as, rfl, hL, rows, nd, fr⟩
        refine ⟨Nat.zero_le _, fun p hp1 => ⟨.ref L, .ref p, rfl, ?_⟩⟩
        have S1 : StR T φ H1 F1 O1 σ ρ1 := S.step x1 E1
        have S2 : StR T φ (upd H1 p (.lst [])) F1 O1 σ ρ1 := S1.step (.laid hp1) (E1.laid hp1)
        have S3 : StR T φ (upd H1 p (.lst [])) F1 O1 (σ.set iL (some (.ref L))) ρ1 := ⟨S2.E.skip hc, S2.lb, S2.lf⟩
        have x2 : Ext true H F O (upd H1 p (.lst [])) F1 O1 := x1.up.trans (.laid hp1)
        obtain ⟨O5, x5, S5, sub⟩ := put_ok (r := .own (.list [])) (L := [p]) (v := .ref p) x2 S3 (i := iF) (by rw [List.length_set]; exact h2) ⟨p, rfl, rfl, [], upd_same, .nil⟩ fun a ha => by
          obtain rfl := List.mem_singleton.mp ha
          exact ⟨fun z => E1.lv _ z hp1, E1.ne_new hp1, x1.live _ hp1, S1.lb _ hp1⟩
        refine ⟨fun m σ H => WvI T W φ sem ip iL iF iS iR D _ _ _ _ m σ H, ⟨_, L, as, dss, _, F1, O5, x5, (Keeps.set hpL).trans (.set hpF), S5, ?_, kept_new hp1 _ _ hL, rows.mono (kept_all (kept_new hp1)) (fun _ h => h) fun a _ o h => kept_new hp1 a o h, nd, fun b hb => ⟨(fr b hb).1, (fr b hb).2.1, fun j z => ?_⟩, by rw [List.length_set, List.length_set]; exact h4, by rw [List.length_set, List.length_set]; exact h3, P⟩, fun m σ H w => wv_turn hK hl hp hne w⟩
        · rw [List.getElem?_set_ne (Ne.symm hLF), List.getElem?_set_self h1]
        · rcases sub j b z with y | y
          · exact (fr b hb).2.2 j y
          · obtain rfl := List.mem_singleton.mp y
            rcases List.mem_cons.mp hb with e | hb
            · rw [e, hL] at hp1; cases hp1
            · obtain ⟨o, ho⟩ := rows.there hb
              rw [ho] at hp1; cases hp1
      · exact P.elim
/-- the two statements and the rest -/
theorem ss_wv {a w : Stmt} {rest : List Stmt} {it : IM} {g : GM} {f : EM} {m3 : SM} (hK : X.K = T.K) (hl : ∀ args o, sem args = some o → args.length = 2) (hp : φ.pr iS = false) (hpL : φ.pr iL = false) (hpF : φ.pr iF = false) (hne : iL ≠ iS) (hLF : iL ≠ iF) (h1 : iL < X.N.length) (h2 : iF < X.N.length) (h3 : iS < X.N.length) (h4 : iR < X.N.length)
    (ha : PS X a (tPar iL iF (tCons (Tof T W (tlR T) (lcoM it g [iLn] f)) (tCons (tLst tNil) tNil)))) (hw : PS X w (tWv T W X.K sem ip iL iF iS iR)) (hr : SB X T W φ rest m3) : SB X T W φ (a :: w :: rest) (seqM (wvM it g f sem ip iLn iL iF iS) m3) := by
  refine ⟨fun pins s σ H D I h => (pss_cons ha (pss_cons hw hr)).run pins s σ H D I ?_⟩
  have z := seq_of h
  have hlen := I.len
  exact wv_of (X := X) hK hl hp hpL hpF hne hLF (by rw [hlen]; exact h1) (by rw [hlen]; exact h2) (by rw [hlen]; exact h3) (by rw [hlen]; exact h4) z
end
section
variable {X : Cx} {T : Tb} {W : WX} {n : Nat} {N : List Str} {sc scope scope2 : Scope} {ip iL iF iS iR : Nat} {sem : Sem}
theorem ps_p2 {ea eb : Expr} {ta tb : TE} {x y : Str} {px py pt pos : Pos} {kt k2 : Nat} {pt2 : Pos} (a : At X N sc) (hk : X.env.scope.kind = .function) (nd : X.N.Nodup) (hc : X.calm = true) (i j : Nat) (hi : decide (N[i]? = some x) = true) (hj : decide (N[j]? = some y) = true) (hij : i ≠ j)
    (h : (lclB sc x && lclB sc y && !(x == y) && (py.line == px.line)) = true) (ha : PE X ea ta) (hb : PE X eb tb) (hs : starEach [ea, eb] X.env = (false, eval ea X.env) :: starEach [eb] X.env := by rfl) (hs2 : starEach [eb] X.env = (false, eval eb X.env) :: starEach [] X.env := by rfl)
    (h1 : ([ea, eb].any fun | .Starred .. => true | _ => false) = false := by rfl) (h2 : [ea, eb].all (foldedForSure 8) = false := by rfl) (h3 : [ea, eb].all (constantsAlone 8) = false := by rfl)
    (hw : swapsWithSole [.Tuple [.Name x px, .Name y py] kt pt] (.Tuple [ea, eb] k2 pt2) pos.line X.env = pure false := by rfl) :
    PS X (.Assign [.Tuple [.Name x px, .Name y py] kt pt] (.Tuple [ea, eb] k2 pt2) pos) (tPar i j (tCons ta (tCons tb tNil))) := by
  have h' := h
  simp only [Bool.and_eq_true, Bool.not_eq_true', beq_iff_eq] at h'
  have gi : X.N[i]? = some x := by rw [a.hN]; exact of_decide_eq_true hi
  have gj : X.N[j]? = some y := by rw [a.hN]; exact of_decide_eq_true hj
  exact ps_par hc nd gi gj hij (by rw [a.hs]; exact lclB_ok h'.1.1.1) (by rw [a.hs]; exact lclB_ok h'.1.1.2) (pa_cons ha (pa_cons hb pa_nil hs2) hs) (swap2 a hk h h1 h2 h3) hw
theorem lt_N (a : At X N sc) (i : Nat) (h : decide (i < N.length) = true) : i < X.N.length := by rw [a.hN]; exact of_decide_eq_true h
theorem op_neA (c : Cxt X T W n) : OpR X (compareOp .NotEq) (rneA T.K) := op_ne.or (c.hK ▸ op_neD c.room.units)
end
end DL
namespace DL
open PySem PyProof.Rows
open L2 hiding Sp
def KOr (ks : List (Key × V)) (o : HO) : Prop := o = .dK ks ∨ ∃ od, o = .frz od (.dK ks)
structure Tw (a : Addr) (ks : List (Key × V)) (H H' : Hp) : Prop where
  off : ∀ b, b ≠ a → H' b = H b
  l : ∃ o, H a = some o ∧ KOr ks o
  r : ∃ o, H' a = some o ∧ KOr ks o
section
variable {a : Addr} {ks : List (Key × V)} {H H' : Hp} {K : PySem.W.Frag} {F : Addr → Prop}
theorem Tw.ne (t : Tw a ks H H') {b : Addr} {o : HO} (h : H b = some o) (n : ¬ KOr ks o) : H' b = some o := by
  by_cases e : b = a
  · subst e
    obtain ⟨o', h1, h2⟩ := t.l
    rw [h] at h1
    cases h1
    exact absurd h2 n
  · rw [t.off b e]; exact h
theorem Tw.rd (t : Tw a ks H H') {b : Addr} {u : HO} (h : Rd H b u) (n : ∀ od, u ≠ .frz od (.dK ks)) : Rd H' b u := by
  by_cases e : b = a
  · subst e
    obtain ⟨o, h1, h2⟩ := t.l
    obtain ⟨o', h3, h4⟩ := t.r
    have hu : u = .dK ks := by
      rcases h with h | ⟨od, h⟩
      · rw [h] at h1
        cases h1
        rcases h2 with h2 | ⟨od, h2⟩
        · exact h2
        · exact absurd h2 (n od)
      · rw [h] at h1
        cases h1
        rcases h2 with h2 | ⟨od', h2⟩
        · cases h2
        · cases h2; rfl
    subst hu
    rcases h4 with rfl | ⟨od, rfl⟩
    · exact .inl h3
    · exact .inr ⟨od, h3⟩
  · rcases h with h | ⟨od, h⟩
    · exact .inl (by rw [t.off b e]; exact h)
    · exact .inr ⟨od, by rw [t.off b e]; exact h⟩
theorem Tw.sqT (t : Tw a ks H H') {b : Addr} {xs : List V} (h : SqT K H b xs) : SqT K H' b xs := by
  rcases h with h | h
  · exact .inl (t.rd h fun od z => by cases z)
  · exact .inr h
mutual
theorem DF.tw (t : Tw a ks H H') : ∀ {v : V} {d : PyData}, DF K H F v d → DF K H' F v d
  | _, _, .non => .non
  | _, _, .bl b => .bl b
  | _, _, .int i => .int i
  | _, _, .str x => .str x
  | _, _, .lst f r s => .lst f (t.rd r fun od z => by cases z) (DFs.tw t s)
  | _, _, .lstK r s => .lstK r (DFs.tw t s)
  | _, _, .tup r s => .tup (t.sqT r) (DFs.tw t s)
  | _, _, .dct f r s => .dct f (t.rd r fun od z => by cases z) (DFk.tw t s)
  | _, _, .dcT f r e s => .dcT f (t.ne r fun z => by rcases z with z | ⟨od, z⟩ <;> cases z) e (DFt.tw t s)
theorem DFs.tw (t : Tw a ks H H') : ∀ {vs : List V} {ds : List PyData}, DFs K H F vs ds → DFs K H' F vs ds
  | _, _, .nil => .nil
  | _, _, .cons a b => .cons (DF.tw t a) (DFs.tw t b)
theorem DFk.tw (t : Tw a ks H H') : ∀ {vs : List (Key × V)} {ds : List (PyData × PyData)}, DFk K H F vs ds → DFk K H' F vs ds
  | _, _, .nil => .nil
  | _, _, .cons a b => .cons (DF.tw t a) (DFk.tw t b)
theorem DFt.tw (t : Tw a ks H H') : ∀ {vs : List Ent} {ds : List (PyData × PyData)}, DFt K H F vs ds → DFt K H' F vs ds
  | _, _, .nil => .nil
  | _, _, .cons q r a b => .cons (t.sqT q) r (DF.tw t a) (DFt.tw t b)
end
theorem OwnAt.tw (t : Tw a ks H H') {b : Addr} (n : b ≠ a) : ∀ {d : PyData}, OwnAt K H F b d → OwnAt K H' F b d
  | .list _, ⟨vs, h, s⟩ => ⟨vs, by rw [t.off b n]; exact h, s.tw t⟩
  | .dict _, .inl ⟨vs, h, s⟩ => .inl ⟨vs, by rw [t.off b n]; exact h, s.tw t⟩
  | .dict _, .inr ⟨o, xs, h, e, s⟩ => .inr ⟨o, xs, by rw [t.off b n]; exact h, e, s.tw t⟩
end
section
variable {T : Tb} {a : Addr} {ks : List (Key × V)} {H H' : Hp} {F : Addr → Prop}
theorem LedAt.tw (t : Tw a ks H H') {L : List Addr} {v : V} {ts ss : List PyData} (n : ∀ b ∈ L, b ≠ a) (h : LedAt T H F L v ts ss) : LedAt T H' F L v ts ss := by
  obtain ⟨x, dx, y, s, rfl, rfl, ne, h1, h2, h3⟩ := h
  exact ⟨x, dx, y, s, rfl, rfl, ne, t.ne h1 (fun z => by rcases z with z | ⟨od, z⟩ <;> cases z), h2.tw t (n y (by simp)), h3.tw t (n s (by simp))⟩
theorem OneAt.tw (t : Tw a ks H H') {b : Bool} {L : List Addr} {v : V} {ts ss : List PyData} (n : ∀ b ∈ L, b ≠ a) (h : OneAt T H F b L v ts ss) : OneAt T H' F b L v ts ss := by
  unfold OneAt at h ⊢
  split at h
  · rename_i hb; rw [if_pos hb]; exact h.tw t n
  · rename_i hb
    rw [if_neg hb]
    obtain ⟨b, dx, x, h1, h2, h⟩ := h
    exact ⟨b, dx, x, h1, t.ne h2 (fun z => by rcases z with z | ⟨od, z⟩ <;> cases z), h.tw t n⟩
theorem ManyAt.tw (t : Tw a ks H H') {b : Bool} {Ls : List (List Addr)} {vs : List V} {xs : List (Option (List PyData × List PyData))} (h : ManyAt T H F b Ls vs xs) (n : ∀ c ∈ Ls.flatten, c ≠ a) : ManyAt T H' F b Ls vs xs := by
  induction h with
  | nil => exact .nil
  | hole _ ih => exact .hole (ih fun c h => n c (by simpa using h))
  | cons q _ ih => exact .cons (q.tw t fun c h => n c (by rw [List.flatten_cons, List.mem_append]; exact .inl h)) (ih fun c h => n c (by rw [List.flatten_cons, List.mem_append]; exact .inr h))
theorem ObjAt.tw (t : Tw a ks H H') {L : List Addr} {v : V} (n : ∀ b ∈ L, b ≠ a) : ∀ {o : OD}, ObjAt T H F L v o → ObjAt T H' F L v o
  | .led _ _, h => LedAt.tw t n h
  | .dsk _ _, ⟨b, dx, x, h1, h2, h⟩ => ⟨b, dx, x, h1, t.ne h2 (fun z => by rcases z with z | ⟨od, z⟩ <;> cases z), h.tw t n⟩
  | .pr _ _ _, ⟨p, x, l, L0, h1, h2, h, e, nn, q⟩ => ⟨p, x, l, L0, h1, t.ne h2 (fun z => by rcases z with z | ⟨od, z⟩ <;> cases z), h.tw t (fun b hb => n b (by rw [e]; exact List.mem_cons_of_mem _ hb)), e, nn, q.tw t (n l (by rw [e]; exact List.mem_cons_self))⟩
  | .many _ _, ⟨p, vs, Ls, h1, h2, h3, e, nn, h⟩ => ⟨p, vs, Ls, h1, h2, t.ne h3 (fun z => by rcases z with z | ⟨od, z⟩ <;> cases z), e, nn, h.tw t fun b hb => n b (by rw [e]; exact hb)⟩
theorem SlotR.tw (t : Tw a ks H H') {oa : List Addr} {v : V} (n : ∀ b ∈ oa, b ≠ a) : ∀ {r : R}, SlotR T H F oa v r → SlotR T H' F oa v r
  | .dat _, ⟨h1, h2⟩ => ⟨h1, h2.tw t⟩
  | .own _, ⟨b, h1, h2, h3⟩ => ⟨b, h1, h2, h3.tw t (n b (by rw [h1]; exact List.mem_singleton.mpr rfl))⟩
  | .fn _, h => h
  | .st _, ⟨b, h1, h2, S, h3, h4⟩ => ⟨b, h1, h2, S, by rw [t.off b (n b (by rw [h1]; exact List.mem_singleton.mpr rfl))]; exact h3, h4⟩
  | .ex _ fs, ⟨h1, b, d, h2, h3, h4, h5⟩ => by
    refine ⟨h1, b, d, h2, h3, h4, ?_⟩
    split at h5
    · exact h5
    · obtain ⟨x, e1, e2⟩ := h5
      exact ⟨x, e1, t.ne e2 (fun z => by rcases z with z | ⟨od, z⟩ <;> cases z)⟩
    · exact h5
  | .obj _, h => ObjAt.tw t n h
theorem kor_nc {o : HO} (h : KOr ks o) : NC o := by
  rcases h with rfl | ⟨od, rfl⟩
  · exact dK_nc
  · exact ⟨trivial, fun _ _ e => by unfold LamX.CodeO at e; cases e⟩
theorem EnvR.tw {O : Nat → List Addr} {σ : L2.St} {ρ : Rho} {o o' : HO} (E : EnvR T H F O σ ρ) (ha : F a) (h : H a = some o) (k : KOr ks o) (k' : KOr ks o') : EnvR T (upd H a o') F O σ ρ := by
  have t : Tw a ks H (upd H a o') := ⟨fun b hb => upd_ne hb, ⟨o, h, k⟩, ⟨o', upd_same, k'⟩⟩
  refine ⟨E.len, fun i r e => ?_, E.own, E.inj, E.nf, fun b hb z => ?_, tabs_put E.tb h (kor_nc k)⟩
  · obtain ⟨v, h1, h2⟩ := E.at_ i r e
    exact ⟨v, h1, h2.tw t fun b hb z => E.nf i b hb (by rw [z]; exact ha)⟩
  · by_cases e : b = a
    · subst e; rw [upd_same] at z; cases z
    · rw [upd_ne e] at z; exact E.lv b hb z
end
theorem df_kV {K : PySem.W.Frag} {H : Hp} {F : Addr → Prop} : ∀ k : Key, DF K H F (kV k) (kD k)
  | .inl i => .int i
  | .inr x => .str x
theorem dfk_keysW {K : PySem.W.Frag} {H : Hp} {F : Addr → Prop} : ∀ {ks : List (Key × V)} {ds : List (PyData × PyData)}, DFk K H F ks ds → ds.map (·.1) = ks.map fun p => kD p.1
  | _, _, .nil => rfl
  | _, _, .cons _ b => by rw [List.map_cons, List.map_cons, dfk_keysW b]
theorem it_keys {T : Tb} {a : Addr} {od : Obj} {ks : List (Key × V)} {H : Hp} {F : Reg} (h : H a = some (.frz od (.dK ks))) : ItOk T (L2.Itk a od ks) F H (ks.map fun p => kD p.1) where
  go := fun H' k i d hd => by
    have h' := k a _ h (.inr trivial)
    rw [List.getElem?_map] at hd
    cases q : ks[i]? with
    | none => rw [q] at hd; cases hd
    | some p =>
      rw [q] at hd
      cases hd
      refine ⟨⟨h', (List.getElem?_eq_some_iff.mp q).1⟩, ?_⟩
      rintro x H'' ⟨rfl, k1, v, e1, rfl⟩
      rw [q] at e1
      cases e1
      exact ⟨fun _ _ z => z, df_kV _⟩
  stop := fun H' k i h1 _ => ⟨k a _ h (.inr trivial), by rw [List.length_map] at h1; exact h1⟩
def nxS : Option Ot → Option Ot
  | some (.nx ρ) => some (.nx ρ)
  | _ => none
@[simp] theorem nxS_nx (ρ : Rho) : nxS (some (.nx ρ)) = some (.nx ρ) := eqI rfl
def lsO : Option (Oe R) → Option (Oe R)
  | some (.ok (.own (.list ds)) ρ) => some (.ok (.own (.list ds)) ρ)
  | _ => none
@[simp] theorem lsO_l (ds : List PyData) (ρ : Rho) : lsO (some (.ok (.own (.list ds)) ρ)) = some (.ok (.own (.list ds)) ρ) := eqI rfl
/-- the keys that are walked -/
def keysW (p : Option (PyData × Rho)) : Option (List PyData × Rho) := match p with
  | some (.dict ds, ρ1) => if isKD ds = true then some (ds.map (·.1), ρ1) else none
  | _ => none
def forDM (j : Nat) (g : GM) (fb : SM) : SM := fun ρ => match keysW (frz ρ (.slt j)) with
  | some (ys, ρ1) => nxS (forL g fb ys ρ1)
  | none => none
def lcDM (j : Nat) (g : GM) (vs : List Nat) (c : Rho → Option (Oe Bool)) (f : EM) : EM := fun ρ => match keysW (frz ρ (.slt j)) with
  | some (ys, ρ1) => lsO (lcL g vs c f ys (wipeR ρ1 vs) [])
  | none => none
section
variable {X : Cx} {T : Tb} {W : WX} {φ : Fm} {pr : Nat → Bool} {g : GM} {fb : SM} {vs : List Nat} {c : Rho → Option (Oe Bool)} {f : EM} {j : Nat}
/-- the dict that a slot holds, in the region -/
theorem keysW_at {s : Bool} {H : Hp} {F : Reg} {O : Ows} {σ : L2.St} {ρ ρ1 : Rho} {ys : List PyData} (E : EnvR T H F O σ ρ) (h : keysW (frz ρ (.slt j)) = some (ys, ρ1)) :
    ∃ a ks F2 O2, σ[j]? = some (some (.ref a)) ∧ Rd H a (.dK ks) ∧ ys = ks.map (fun p => kD p.1) ∧ F2 a ∧ Ext s H F O H F2 O2 ∧ EnvR T H F2 O2 σ ρ1 ∧ Sub O2 O := by
  cases q : frz ρ (.slt j) with
  | none => rw [q] at h; cases h
  | some p =>
    obtain ⟨d, ρ2⟩ := p
    rw [q] at h
    have hv : ∃ v, σ[j]? = some (some v) := by
      obtain ⟨y, e1, _⟩ := Option.map_eq_some_iff.mp (show (slotD ρ[j]?).map (fun d => (d, ρ.set j (some (.dat d)))) = some (d, ρ2) from q)
      cases z : ρ[j]? with
      | none => rw [z] at e1; cases e1
      | some r =>
        cases r with
        | none => rw [z] at e1; cases e1
        | some r => obtain ⟨v, hv, _⟩ := E.at_ j r z; exact ⟨v, hv⟩
    obtain ⟨v, hv⟩ := hv
    obtain ⟨F2, O2, y2, E2, d2, g2, sb, _⟩ := fz (H0 := H) (r := .slt j) (v := v) (Ext.refl (s := s)) (fun _ h => h) E hv q
    unfold keysW at h
    split at h
    · rename_i ds ρ3 he
      cases he
      split at h
      · rename_i hk
        cases h
        cases d2 with
        | dct f r s => exact ⟨_, _, F2, O2, hv, r, dfk_keysW s, f, y2, E2, sb⟩
        | dcT f r e s => exact (ne_dft s e.ne hk).elim
      · cases h
    · cases h
theorem ext_lock {s : Bool} {H Hl H' : Hp} {F F2 F' : Reg} {O O2 O' : Ows} {a : Addr} {u o' : HO} (y : Ext s H F O H F2 O2) (hu : H a = some u) (hl : Hl = upd H a o') (x : Ext s Hl F2 O2 H' F' O') (sb : Sub O2 O) (nu : NT u) : Ext s H F O (upd H' a u) F' O' := by
  subst hl
  have low : ∀ b, upd H a o' b = none → H b = none := fun b h => by
    by_cases e : b = a
    · subst e; rw [upd_same] at h; cases h
    · rw [upd_ne e] at h; exact h
  refine ⟨fun b o h n nt => ?_, fun b h => ?_, fun b h => x.grow b (y.grow b h), fun b h => ?_, fun i b h => ?_⟩
  · by_cases e : b = a
    · subst e; rw [upd_same, ← hu]; exact h
    · rw [upd_ne e]
      exact x.keep b o (by rw [upd_ne e]; exact h) (fun i z => n i (sb i b z)) nt
  · by_cases e : b = a
    · subst e; rw [upd_same] at h; cases h
    · rw [upd_ne e] at h
      exact low b (x.live b h)
  · rcases x.new b h with z | ⟨i, z⟩ | z
    · exact y.new b z
    · exact .inr (.inl ⟨i, sb i b z⟩)
    · exact .inr (.inr (low b z))
  · rcases x.own i b h with z | ⟨hs, ⟨k, z⟩ | z⟩
    · exact .inl (sb i b z)
    · exact .inr ⟨hs, .inl ⟨k, sb k b z⟩⟩
    · exact .inr ⟨hs, .inr (low b z)⟩
theorem fd_of {D : Ends} {σ : L2.St} {H : Hp} (h : TSof T W φ (forDM j g fb) D σ H) : tFor (iKeys (tVar j)) (TGof T φ.pr g) (TSof T W φ fb) D σ H ∨ tLock (tFor (iKeys (tVar j)) (TGof T φ.pr g) (TSof T W φ fb)) D σ H := by
  obtain ⟨ρ, F, O, S, P⟩ := h
  unfold forDM at P
  cases q : keysW (frz ρ (.slt j)) with
  | none => rw [q] at P; exact P.elim
  | some p =>
    obtain ⟨ys, ρ1⟩ := p
    rw [q] at P
    dsimp only at P
    obtain ⟨a, ks, F2, O2, hv, rd, rfl, fa, y2, E2, sb⟩ := keysW_at (s := true) S.E q
    have S2 : StR T φ H F2 O2 σ ρ1 := ⟨E2, S.lb, fun k b hk z => S.lf k b hk (sb k b z)⟩
    -- the walk over the locked dict
    have walk : ∀ (od : Obj) (D' : Ends) (H1 : Hp), H1 a = some (.frz od (.dK ks)) → TSof T W φ (forM (fun ρ => some (.ok (ks.map fun p => kD p.1) ρ)) g fb) D' σ H1 → tFor (iKeys (tVar j)) (TGof T φ.pr g) (TSof T W φ fb) D' σ H1 := fun od D' H1 hf h' => by
      obtain ⟨ρ', F', O', E', P'⟩ := for_of h'
      exact ⟨.ref a, hv, a, od, rfl, .inl ⟨ks, hf, P' (L2.Itk a od ks) H1 F' O' .refl E' (it_keys hf)⟩⟩
    cases qf : forL g fb (ks.map fun p => kD p.1) ρ1 with
    | none => rw [qf] at P; exact P.elim
    | some o =>
      cases o with
      | rt r ρ2 => rw [qf] at P; exact P.elim
      | bk ρ2 => rw [qf] at P; exact P.elim
      | ct ρ2 => rw [qf] at P; exact P.elim
      | er r fs ρ2 => rw [qf] at P; exact P.elim
      | nx ρ2 =>
        rw [qf] at P
        have P1 : ∀ σ' H' F' O', Ext true H F O H' F' O' → StR T φ H' F' O' σ' ρ2 → Keeps φ.pr σ σ' → D.nx σ' H' := P
        rcases rd with hd | ⟨od, hd⟩
        · refine .inr ⟨a, .dK ks, hd, trivial, fun od => ?_⟩
          refine walk od _ _ upd_same ?_
          have El := E2.tw (o' := .frz od (.dK ks)) fa hd (.inl rfl) (.inr ⟨od, rfl⟩)
          have Sl : StR T φ (upd H a (.frz od (.dK ks))) F2 O2 σ ρ1 := ⟨El, fun b hb => S2.lb b (by
            by_cases e : b = a
            · subst e; rw [upd_same] at hb; cases hb
            · rw [upd_ne e] at hb; exact hb), S2.lf⟩
          refine ⟨ρ1, F2, O2, Sl, ?_⟩
          show PostS T W φ σ _ F2 O2 _ (forL g fb (ks.map fun p => kD p.1) ρ1)
          rw [qf]
          intro σ' H' F' O' x' S' k'
          have hf := x'.keep a _ upd_same (fun i z => E2.nf i a z fa) trivial
          refine ⟨hf, P1 σ' (upd H' a (.dK ks)) F' O' (ext_lock y2 hd rfl x' sb trivial) ⟨S'.E.tw (x'.grow a fa) hf (.inr ⟨od, rfl⟩) (.inl rfl), fun b hb => S'.lb b ?_, S'.lf⟩ k'⟩
          by_cases e : b = a
          · subst e; rw [upd_same] at hb; cases hb
          · rw [upd_ne e] at hb; exact hb
        · refine .inl (walk od D H hd ⟨ρ1, F2, O2, S2, ?_⟩)
          show PostS T W φ σ H F2 O2 D (forL g fb (ks.map fun p => kD p.1) ρ1)
          rw [qf]
          exact fun σ' H' F' O' x' S' k' => P1 σ' H' F' O' (y2.trans x') S' k'
theorem ss_forD {tg : Expr} {x : Str} {body : List Stmt} {p pos : Pos} {N : List Str} {sc : Scope} (l : At X N sc) (hp : PassesOwn (model X.prog X.w) X.A X.env X.xe) (hc : X.calm = true) (hj : nmB N sc j x = true) (hg : SG X T φ.pr tg g) (hb : SB X T W φ body fb) (hs : ∀ y, foldedSetIterable (.Name x p) X.env y = pure y := by intro _; rfl) : SS X T W φ (.For tg (.Name x p) body [] pos) (forDM j g fb) := by
  have main := ps_for (pos := pos) hp hc (pi_keys (pe_n (pos := p) l j hj)) hg hb hs
  exact ⟨fun pins s σ H D I h => (fd_of h).elim (fun z => main.run pins s σ H D I z) fun z => (ps_lock main).run pins s σ H D I z⟩
theorem ld_of {σ : L2.St} {H : Hp} {Q : VK} (hpr : ∀ i, i ∉ vs → pr i = true) (h : Tof T W (tlE T) (lcDM j g vs c f) σ H Q) :
    tLc (iKeys (tVar j)) (TGof T pr g) (Tof T W0 tlB c) (Tof T W0 (tlE T) f) vs σ H Q ∨ tLockE (tLc (iKeys (tVar j)) (TGof T pr g) (Tof T W0 tlB c) (Tof T W0 (tlE T) f) vs) σ H Q := by
  obtain ⟨ρ, F, O, E, P⟩ := h
  unfold lcDM at P
  cases q : keysW (frz ρ (.slt j)) with
  | none => rw [q] at P; exact P.elim
  | some p =>
    obtain ⟨ys, ρ1⟩ := p
    rw [q] at P
    dsimp only at P
    obtain ⟨a, ks, F2, O2, hv, rd, rfl, fa, y2, E2, sb⟩ := keysW_at (s := false) E q
    have walk : ∀ (od : Obj) (Q' : VK) (H1 : Hp), H1 a = some (.frz od (.dK ks)) → Tof T W (tlE T) (lcM (fun ρ => some (.ok (ks.map fun p => kD p.1) ρ)) g vs c f) σ H1 Q' → tLc (iKeys (tVar j)) (TGof T pr g) (Tof T W0 tlB c) (Tof T W0 (tlE T) f) vs σ H1 Q' := fun od Q' H1 hf h' => by
      obtain ⟨ρ', F', O', E', P'⟩ := lc_of hpr h'
      exact ⟨.ref a, hv, a, od, rfl, .inl ⟨ks, hf, P' (L2.Itk a od ks) H1 F' O' .refl E' (it_keys hf)⟩⟩
    cases qf : lcL g vs c f (ks.map fun p => kD p.1) (wipeR ρ1 vs) [] with
    | none => rw [qf] at P; exact P.elim
    | some o =>
      rw [qf] at P
      unfold lsO at P
      split at P
      · rename_i ds ρ2 he
        cases he
        have P1 : ∀ v H' F' O', Ext false H F O H' F' O' → EnvR T H' F' O' σ ρ2 → ResR T H H' F' O' σ v (.own (.list ds)) → Q v H' := P
        rcases rd with hd | ⟨od, hd⟩
        · refine .inr ⟨a, .dK ks, hd, trivial, fun od => ?_⟩
          refine walk od _ _ upd_same ?_
          have El := E2.tw (o' := .frz od (.dK ks)) fa hd (.inl rfl) (.inr ⟨od, rfl⟩)
          refine ⟨ρ1, F2, O2, El, ?_⟩
          show Post T W (tlE T) σ _ F2 O2 _ (lcL g vs c f (ks.map fun p => kD p.1) (wipeR ρ1 vs) [])
          rw [qf]
          rintro v H' F' O' x' E' ⟨b, rfl, b1, b2, b3, b4⟩
          have hf := x'.keep a _ upd_same (fun i z => E2.nf i a z fa) trivial
          have ba : b ≠ a := fun e => by rw [e, upd_same] at b1; cases b1
          have tw : Tw a ks H' (upd H' a (.dK ks)) := ⟨fun b hb => upd_ne hb, ⟨_, hf, .inr ⟨od, rfl⟩⟩, ⟨_, upd_same, .inl rfl⟩⟩
          exact ⟨hf, P1 _ (upd H' a (.dK ks)) F' O' (ext_lock y2 hd rfl x' sb trivial) (E'.tw (x'.grow a fa) hf (.inr ⟨od, rfl⟩) (.inl rfl)) ⟨b, rfl, by rw [upd_ne ba] at b1; exact b1, b2, b3, b4.tw tw ba⟩⟩
        · refine .inl (walk od Q H hd ⟨ρ1, F2, O2, E2, ?_⟩)
          show Post T W (tlE T) σ H F2 O2 Q (lcL g vs c f (ks.map fun p => kD p.1) (wipeR ρ1 vs) [])
          rw [qf]
          exact fun v H' F' O' x' E' r' => P1 v H' F' O' (y2.trans x') E' r'
      · exact P.elim
theorem se_lcD {elt tg : Expr} {x : Str} {ifs : List Expr} {scope : Scope} {own : List (Str × Nat)} {p pos : Pos} {N : List Str} {sc : Scope} (l : At X N sc) (hc : X.calm = true) (hN : X.N.Nodup) (hj : nmB N sc j x = true) (ok : BlkOk X.N X.env.scope scope own)
    (hg : ∀ (s : Shared) (H : Hp) (C : Addr) (cl : List (Str × Addr)) (fp : List Addr), SG (X.blk s H scope (compEnvC scope cl C X.env) fp) T (prB (own.map (·.2))) tg g)
    (ht : ∀ (s : Shared) (H : Hp) (C : Addr) (cl : List (Str × Addr)) (fp : List Addr), STs (X.blk s H scope (compEnvC scope cl C X.env) fp) T ifs c)
    (he : ∀ (s : Shared) (H : Hp) (C : Addr) (cl : List (Str × Addr)) (fp : List Addr), SE (X.blk s H scope (compEnvC scope cl C X.env) fp) T W0 elt f) (hs : ∀ y, foldedSetIterable (.Name x p) X.env y = pure y := by intro _; rfl) :
    SE X T W (.ListComp elt [⟨tg, .Name x p, ifs, 0⟩] scope pos) (lcDM j g (own.map (·.2)) c f) := by
  have main := pe_lc (pos := pos) hc hN (pi_keys (pe_n (pos := p) l j hj)) ok hg ht he hs
  exact ⟨fun pins s σ H Q I h => (ld_of prB_ok h).elim (fun z => main.run pins s σ H Q I z) fun z => (pe_lock main).run pins s σ H Q I z⟩
end
end DL
namespace Lw
open PySem L2 DL
theorem runD_eq (n m : Nat) (pr : Nat → Bool) (f : SM) (args : List R) (ρ : Rho) (h1 : args.length = n) (h2 : args.map some ++ List.replicate (m - n) none = ρ) : runD n m pr f args = fnR n pr (f ρ) := by
  subst h1 h2
  unfold runD
  rw [if_pos rfl]
  rfl
def k_KINDS : PyData := (.tuple [(.int 1), (.int 2), (.int 3), (.int 4)])
def k_LETTERS : PyData := (.str "abcdefghijklmnopqrstuvwxyz")
def k_MOST_AGE : PyData := (.int 999)
def k_MOST_DAY : PyData := (.int 9999)
def k_MOST_SIGNS : PyData := (.int 6)
def k_MOST_SPANS : PyData := (.int 40)
def fb1__law_pot : SM :=
    (seqM (asgM 3 (op2M dMod (op2M dMul (op2M dPlus (op2M dPlus (op2M dMod (nmM 0) (cM (.int 2147483629))) (op2M dMul (cM (.int 7919)) (nmM 2))) (cM (.int 1))) (cM (.int 48271))) (cM (.int 2147483647))))
    (seqM (asgM 3 (op2M dMod (op2M dPlus (op2M dPlus (op2M dMul (nmM 3) (nmM 3)) (op2M dMul (cM (.int 69621)) (nmM 2))) (cM (.int 7))) (cM (.int 2147483587))))
    (asgM 1 (op2M dPlus (op2M dMul (nmM 1) (cM (.int 2147483587))) (nmM 3)))))
def pr__law_pot (i : Nat) : Bool := [0].contains i
def m__law_pot : SM :=
    (seqM (ifM (tsM (op2M dGe (nmM 0) (op2M dPow (cM (.int 10)) (cM (.int 18))))) (retM 1 (lstM (consD (op2M dMinus (nmM 0) (op2M dPow (cM (.int 10)) (cM (.int 18)))) nilA))) skipM)
    (seqM (asgM 1 (cM (.int 0)))
    (seqM (forM (irM1 (cM (.int 64))) (gnM 2) fb1__law_pot)
    (retM 1 (lstM (consD (nmM 1) nilA))))))
def sem__law_pot : Sem := runD 1 4 pr__law_pot m__law_pot
theorem run__law_pot (a0 : R) : sem__law_pot [a0] = fnR 1 pr__law_pot (m__law_pot [some a0, none, none, none]) := by
  unfold sem__law_pot
  exact runD_eq 1 4 pr__law_pot m__law_pot _ _ rfl rfl
def pr__law_take (i : Nat) : Bool := [0, 1].contains i
def m__law_take : SM :=
    (seqM (asgM 2 (op2M dMod (op2M dIxA (nmM 0) (cM (.int 0))) (nmM 1)))
    (seqM (setM 0 (cM (.int 0)) (op2M dFd (op2M dIxA (nmM 0) (cM (.int 0))) (nmM 1)))
    (retM 2 (nmM 2))))
def sem__law_take : Sem := runD 2 3 pr__law_take m__law_take
theorem run__law_take (a0 a1 : R) : sem__law_take [a0, a1] = fnR 2 pr__law_take (m__law_take [some a0, some a1, none]) := by
  unfold sem__law_take
  exact runD_eq 2 3 pr__law_take m__law_take _ _ rfl rfl
def fb1__law_truths : SM :=
    (seqM (asgM 3 (callM sem__law_take (consA (nmM 0) (consA (cM (.int 40)) nilA))))
    (seqM (asgM 4 (op2M dPlus (nmM 3) (op2M dIxA (lstM (consD (cM (.int 0)) (consD (callM sem__law_take (consA (nmM 0) (consA (cM (.int 5)) nilA))) nilA))) (callM sem__law_take (consA (nmM 0) (consA (cM (.int 2)) nilA))))))
    (setKM 1 (nmM 2) (tupM (consD (nmM 3) (consD (nmM 4) (consD (op2M dPlus (op2M dPlus (nmM 4) (cM (.int 6))) (callM sem__law_take (consA (nmM 0) (consA (cM (.int 20)) nilA)))) (consD (callM sem__law_take (consA (nmM 0) (consA (cM (.int 5)) nilA))) nilA))))))))
def pr__law_truths (i : Nat) : Bool := [0].contains i
def m__law_truths : SM :=
    (seqM (asgM 1 dict0M)
    (seqM (forM (iM (slM (lstM (consD (cM (.str "a")) (consD (cM (.str "b")) (consD (cM (.str "c")) (consD (cM (.str "dd")) (consD (cM (.str "e")) (consD (cM (.str "zz")) nilA))))))) none (some (op2M dPlus (cM (.int 1)) (callM sem__law_take (consA (nmM 0) (consA (cM (.int 6)) nilA))))))) (gnM 2) fb1__law_truths)
    (retM 1 (nmM 1))))
def sem__law_truths : Sem := runD 1 5 pr__law_truths m__law_truths
theorem run__law_truths (a0 : R) : sem__law_truths [a0] = fnR 1 pr__law_truths (m__law_truths [some a0, none, none, none, none]) := by
  unfold sem__law_truths
  exact runD_eq 1 5 pr__law_truths m__law_truths _ _ rfl rfl
def pr_is_whole (i : Nat) : Bool := [0].contains i
def m_is_whole : SM :=
    (retM 1 (andM (op1M (isiD "int") (nmM 0)) (notM (op1M (isiD "bool") (nmM 0)))))
def sem_is_whole : Sem := runD 1 1 pr_is_whole m_is_whole
theorem run_is_whole (a0 : R) : sem_is_whole [a0] = fnR 1 pr_is_whole (m_is_whole [some a0]) := by
  unfold sem_is_whole
  exact runD_eq 1 1 pr_is_whole m_is_whole _ _ rfl rfl
def pr_is_from_to (i : Nat) : Bool := [0, 1, 2].contains i
def m_is_from_to : SM :=
    (retM 3 (andM (callM sem_is_whole (consA (nmM 0) nilA)) (chM dLe dLe (nmM 1) (nmM 0) (nmM 2))))
def sem_is_from_to : Sem := runD 3 3 pr_is_from_to m_is_from_to
theorem run_is_from_to (a0 a1 a2 : R) : sem_is_from_to [a0, a1, a2] = fnR 3 pr_is_from_to (m_is_from_to [some a0, some a1, some a2]) := by
  unfold sem_is_from_to
  exact runD_eq 3 3 pr_is_from_to m_is_from_to _ _ rfl rfl
def pr_need_day (i : Nat) : Bool := [0].contains i
def m_need_day : SM :=
    (ifM (notT (tsM (callM sem_is_from_to (consA (nmM 0) (consA (cM (.int 0)) (consA (cM k_MOST_DAY) nilA)))))) (raiseM 4) skipM)
def sem_need_day : Sem := runD 1 1 pr_need_day m_need_day
theorem run_need_day (a0 : R) : sem_need_day [a0] = fnR 1 pr_need_day (m_need_day [some a0]) := by
  unfold sem_need_day
  exact runD_eq 1 1 pr_need_day m_need_day _ _ rfl rfl
def ce1_is_name : EM :=
    (op2M dIc (nmM 1) (cM k_LETTERS))
def pr_is_name (i : Nat) : Bool := [0].contains i
def m_is_name : SM :=
    (seqM (ifM (orT (notT (tsM (op1M (isiD "str") (nmM 0)))) (notT (tsM (chM dLe dLe (cM (.int 1)) (opnM (on1 lenD) (consA (nmM 0) nilA)) (cM k_MOST_SIGNS))))) (retM 1 (cM (.bool false))) skipM)
    (retM 1 (opnM (on1 allD) (consA (lcM (isM (nmM 0)) (gnM 1) [1] yesT ce1_is_name) nilA))))
def sem_is_name : Sem := runD 1 2 pr_is_name m_is_name
theorem run_is_name (a0 : R) : sem_is_name [a0] = fnR 1 pr_is_name (m_is_name [some a0, none]) := by
  unfold sem_is_name
  exact runD_eq 1 2 pr_is_name m_is_name _ _ rfl rfl
def pr_Ledger_become (i : Nat) : Bool := [0, 1, 2, 3].contains i
def m_Ledger_become : SM :=
    (seqM (asgM 4 (opnM (on1 cpD) (consA (op2M dIxA (prtM 0 1) (op1M dNeg (cM (.int 1)))) nilA)))
    (seqM (ifM (tsM (op2M dIsN (nmM 3) (cM .none))) (dropM (popKM 4 (nmM 2))) (setKM 4 (nmM 2) (nmM 3)))
    (seqM (appPM 0 0 (nmM 1))
    (appPM 0 1 (nmM 4)))))
def sem_Ledger_become : Sem := runD 4 5 pr_Ledger_become m_Ledger_become
theorem run_Ledger_become (a0 a1 a2 a3 : R) : sem_Ledger_become [a0, a1, a2, a3] = fnR 4 pr_Ledger_become (m_Ledger_become [some a0, some a1, some a2, some a3, none]) := by
  unfold sem_Ledger_become
  exact runD_eq 4 5 pr_Ledger_become m_Ledger_become _ _ rfl rfl
def pr_Ledger_begin (i : Nat) : Bool := [0, 1, 2, 3].contains i
def m_Ledger_begin : SM :=
    (seqM (ifM (orT (notT (tsM (callM sem_is_name (consA (nmM 1) nilA)))) (tsM (op2M (dInK false) (nmM 1) (op2M dIxA (prtM 0 1) (op1M dNeg (cM (.int 1))))))) (raiseM 3) skipM)
    (seqM (dropM (callM sem_need_day (consA (nmM 2) nilA)))
    (seqM (asgM 4 (iteM (tsM (op2M dIsN (nmM 3) (cM .none))) (nmM 2) (nmM 3)))
    (seqM (dropM (callM sem_need_day (consA (nmM 4) nilA)))
    (seqM (ifM (notT (tsM (chM dLe dLt (nmM 2) (nmM 4) (op2M dPlus (nmM 2) (cM k_MOST_AGE))))) (raiseM 4) skipM)
    (dropM (metM true 0 sem_Ledger_become [] (consA (tupM (consD (cM (.str "begin")) (consD (nmM 1) (consD (nmM 2) (consD (nmM 4) nilA))))) (consA (nmM 1) (consA (tupM (consD (nmM 2) (consD (nmM 4) (consD (cM .none) (consD (cM (.int 0)) nilA))))) nilA))))))))))
def sem_Ledger_begin : Sem := runD 4 5 pr_Ledger_begin m_Ledger_begin
theorem run_Ledger_begin (a0 a1 a2 a3 : R) : sem_Ledger_begin [a0, a1, a2, a3] = fnR 4 pr_Ledger_begin (m_Ledger_begin [some a0, some a1, some a2, some a3, none]) := by
  unfold sem_Ledger_begin
  exact runD_eq 4 5 pr_Ledger_begin m_Ledger_begin _ _ rfl rfl
def pr_Ledger_thing_of (i : Nat) : Bool := [0, 1].contains i
def m_Ledger_thing_of : SM :=
    (seqM (ifM (orT (notT (tsM (callM sem_is_name (consA (nmM 1) nilA)))) (tsM (op2M (dInK true) (nmM 1) (op2M dIxA (prtM 0 1) (op1M dNeg (cM (.int 1))))))) (raiseM 3) skipM)
    (retM 2 (op2M dIxA (op2M dIxA (prtM 0 1) (op1M dNeg (cM (.int 1)))) (nmM 1))))
def sem_Ledger_thing_of : Sem := runD 2 2 pr_Ledger_thing_of m_Ledger_thing_of
theorem run_Ledger_thing_of (a0 a1 : R) : sem_Ledger_thing_of [a0, a1] = fnR 2 pr_Ledger_thing_of (m_Ledger_thing_of [some a0, some a1]) := by
  unfold sem_Ledger_thing_of
  exact runD_eq 2 2 pr_Ledger_thing_of m_Ledger_thing_of _ _ rfl rfl
def pr_Ledger_known_with (i : Nat) : Bool := [0, 1, 2].contains i
def m_Ledger_known_with : SM :=
    (seqM (asgTM (gtM (gsC (gnM 3) (gsC (gnM 4) (gsC (gnM 5) (gsC (gnM 6) gs0))))) (metM true 0 sem_Ledger_thing_of [] (consA (nmM 1) nilA)))
    (seqM (dropM (callM sem_need_day (consA (nmM 2) nilA)))
    (seqM (ifM (notT (tsM (chM dLt dLe (nmM 4) (nmM 2) (op2M dPlus (nmM 3) (cM k_MOST_AGE))))) (raiseM 4) skipM)
    (retM 3 (tupM (consD (nmM 3) (consD (nmM 4) (consD (nmM 5) (consD (nmM 6) nilA)))))))))
def sem_Ledger_known_with : Sem := runD 3 7 pr_Ledger_known_with m_Ledger_known_with
theorem run_Ledger_known_with (a0 a1 a2 : R) : sem_Ledger_known_with [a0, a1, a2] = fnR 3 pr_Ledger_known_with (m_Ledger_known_with [some a0, some a1, some a2, none, none, none, none]) := by
  unfold sem_Ledger_known_with
  exact runD_eq 3 7 pr_Ledger_known_with m_Ledger_known_with _ _ rfl rfl
def pr_Ledger_seen (i : Nat) : Bool := [0, 1, 2].contains i
def m_Ledger_seen : SM :=
    (seqM (asgTM (gtM (gsC (gnM 3) (gsC (gnM 4) (gsC (gnM 5) (gsC (gnM 6) gs0))))) (metM true 0 sem_Ledger_known_with [] (consA (nmM 1) (consA (nmM 2) nilA))))
    (seqM (ifM (orT (tsM (op2M dGt (nmM 6) (cM (.int 0)))) (andT (tsM (op2M dNotN (nmM 5) (cM .none))) (tsM (op2M dGe (nmM 5) (nmM 2))))) (raiseM 5) skipM)
    (dropM (metM true 0 sem_Ledger_become [] (consA (tupM (consD (cM (.str "seen")) (consD (nmM 1) (consD (nmM 2) nilA)))) (consA (nmM 1) (consA (tupM (consD (nmM 3) (consD (nmM 4) (consD (nmM 2) (consD (cM (.int 0)) nilA))))) nilA)))))))
def sem_Ledger_seen : Sem := runD 3 7 pr_Ledger_seen m_Ledger_seen
theorem run_Ledger_seen (a0 a1 a2 : R) : sem_Ledger_seen [a0, a1, a2] = fnR 3 pr_Ledger_seen (m_Ledger_seen [some a0, some a1, some a2, none, none, none, none]) := by
  unfold sem_Ledger_seen
  exact runD_eq 3 7 pr_Ledger_seen m_Ledger_seen _ _ rfl rfl
def pr_need_end (i : Nat) : Bool := [0, 1].contains i
def m_need_end : SM :=
    (ifM (notT (tsM (callM sem_is_from_to (consA (nmM 0) (consA (nmM 1) (consA (opnM (on1 lenD) (consA (cM k_KINDS) nilA)) nilA)))))) (raiseM 1) skipM)
def sem_need_end : Sem := runD 2 2 pr_need_end m_need_end
theorem run_need_end (a0 a1 : R) : sem_need_end [a0, a1] = fnR 2 pr_need_end (m_need_end [some a0, some a1]) := by
  unfold sem_need_end
  exact runD_eq 2 2 pr_need_end m_need_end _ _ rfl rfl
def pr_Ledger_ended (i : Nat) : Bool := [0, 1, 2, 3].contains i
def m_Ledger_ended : SM :=
    (seqM (asgTM (gtM (gsC (gnM 4) (gsC (gnM 5) (gsC (gnM 6) (gsC (gnM 7) gs0))))) (metM true 0 sem_Ledger_known_with [] (consA (nmM 1) (consA (nmM 2) nilA))))
    (seqM (dropM (callM sem_need_end (consA (nmM 3) (consA (cM (.int 1)) nilA))))
    (seqM (ifM (orT (tsM (op2M dGt (nmM 7) (cM (.int 0)))) (andT (tsM (op2M dNotN (nmM 6) (cM .none))) (tsM (op2M dGt (nmM 6) (nmM 2))))) (raiseM 5) skipM)
    (dropM (metM true 0 sem_Ledger_become [] (consA (tupM (consD (cM (.str "ended")) (consD (nmM 1) (consD (nmM 2) (consD (nmM 3) nilA))))) (consA (nmM 1) (consA (tupM (consD (nmM 4) (consD (nmM 5) (consD (nmM 2) (consD (nmM 3) nilA))))) nilA))))))))
def sem_Ledger_ended : Sem := runD 4 8 pr_Ledger_ended m_Ledger_ended
theorem run_Ledger_ended (a0 a1 a2 a3 : R) : sem_Ledger_ended [a0, a1, a2, a3] = fnR 4 pr_Ledger_ended (m_Ledger_ended [some a0, some a1, some a2, some a3, none, none, none, none]) := by
  unfold sem_Ledger_ended
  exact runD_eq 4 8 pr_Ledger_ended m_Ledger_ended _ _ rfl rfl
def pr_Ledger_mend (i : Nat) : Bool := [0, 1, 2, 3].contains i
def m_Ledger_mend : SM :=
    (seqM (asgTM (gtM (gsC (gnM 4) (gsC (gnM 5) (gsC (gnM 6) (gsC (gnM 7) gs0))))) (metM true 0 sem_Ledger_known_with [] (consA (nmM 1) (consA (nmM 2) nilA))))
    (seqM (dropM (callM sem_need_end (consA (nmM 3) (consA (cM (.int 0)) nilA))))
    (dropM (metM true 0 sem_Ledger_become [] (consA (tupM (consD (cM (.str "mend")) (consD (nmM 1) (consD (nmM 2) (consD (nmM 3) nilA))))) (consA (nmM 1) (consA (tupM (consD (nmM 4) (consD (nmM 5) (consD (nmM 2) (consD (nmM 3) nilA))))) nilA)))))))
def sem_Ledger_mend : Sem := runD 4 8 pr_Ledger_mend m_Ledger_mend
theorem run_Ledger_mend (a0 a1 a2 a3 : R) : sem_Ledger_mend [a0, a1, a2, a3] = fnR 4 pr_Ledger_mend (m_Ledger_mend [some a0, some a1, some a2, some a3, none, none, none, none]) := by
  unfold sem_Ledger_mend
  exact runD_eq 4 8 pr_Ledger_mend m_Ledger_mend _ _ rfl rfl
def pr_Ledger_drop (i : Nat) : Bool := [0, 1].contains i
def m_Ledger_drop : SM :=
    (seqM (dropM (metM true 0 sem_Ledger_thing_of [] (consA (nmM 1) nilA)))
    (dropM (metM true 0 sem_Ledger_become [] (consA (tupM (consD (cM (.str "drop")) (consD (nmM 1) nilA))) (consA (nmM 1) (consA (cM .none) nilA))))))
def sem_Ledger_drop : Sem := runD 2 2 pr_Ledger_drop m_Ledger_drop
theorem run_Ledger_drop (a0 a1 : R) : sem_Ledger_drop [a0, a1] = fnR 2 pr_Ledger_drop (m_Ledger_drop [some a0, some a1]) := by
  unfold sem_Ledger_drop
  exact runD_eq 2 2 pr_Ledger_drop m_Ledger_drop _ _ rfl rfl
def pr_Ledger_undo (i : Nat) : Bool := [0].contains i
def m_Ledger_undo : SM :=
    (seqM (ifM (tsM (op2M dEqE (prtM 0 0) (lstM nilA))) (raiseM 5) skipM)
    (seqM (dropM (popPM 0 0))
    (dropM (popPM 0 1))))
def sem_Ledger_undo : Sem := runD 1 1 pr_Ledger_undo m_Ledger_undo
theorem run_Ledger_undo (a0 : R) : sem_Ledger_undo [a0] = fnR 1 pr_Ledger_undo (m_Ledger_undo [some a0]) := by
  unfold sem_Ledger_undo
  exact runD_eq 1 1 pr_Ledger_undo m_Ledger_undo _ _ rfl rfl
def pr__law_tell (i : Nat) : Bool := [0, 1].contains i
def m__law_tell : SM :=
    (seqM (ifM (tsM (op2M dEq (op2M dIxA (nmM 1) (cM (.int 0))) (cM (.str "begin")))) (retM 2 (metM true 0 sem_Ledger_begin [] (consA (op2M dIxA (nmM 1) (cM (.int 1))) (consA (op2M dIxA (nmM 1) (cM (.int 2))) (consA (op2M dIxA (nmM 1) (cM (.int 3))) nilA))))) skipM)
    (seqM (ifM (tsM (op2M dEq (op2M dIxA (nmM 1) (cM (.int 0))) (cM (.str "seen")))) (retM 2 (metM true 0 sem_Ledger_seen [] (consA (op2M dIxA (nmM 1) (cM (.int 1))) (consA (op2M dIxA (nmM 1) (cM (.int 2))) nilA)))) skipM)
    (seqM (ifM (tsM (op2M dEq (op2M dIxA (nmM 1) (cM (.int 0))) (cM (.str "ended")))) (retM 2 (metM true 0 sem_Ledger_ended [] (consA (op2M dIxA (nmM 1) (cM (.int 1))) (consA (op2M dIxA (nmM 1) (cM (.int 2))) (consA (op2M dIxA (nmM 1) (cM (.int 3))) nilA))))) skipM)
    (seqM (ifM (tsM (op2M dEq (op2M dIxA (nmM 1) (cM (.int 0))) (cM (.str "mend")))) (retM 2 (metM true 0 sem_Ledger_mend [] (consA (op2M dIxA (nmM 1) (cM (.int 1))) (consA (op2M dIxA (nmM 1) (cM (.int 2))) (consA (op2M dIxA (nmM 1) (cM (.int 3))) nilA))))) skipM)
    (retM 2 (iteM (tsM (op2M dEq (op2M dIxA (nmM 1) (cM (.int 0))) (cM (.str "drop")))) (metM true 0 sem_Ledger_drop [] (consA (op2M dIxA (nmM 1) (cM (.int 1))) nilA)) (metM true 0 sem_Ledger_undo [] nilA)))))))
def sem__law_tell : Sem := runD 2 2 pr__law_tell m__law_tell
theorem run__law_tell (a0 a1 : R) : sem__law_tell [a0, a1] = fnR 2 pr__law_tell (m__law_tell [some a0, some a1]) := by
  unfold sem__law_tell
  exact runD_eq 2 2 pr__law_tell m__law_tell _ _ rfl rfl
def fb1__law_ledger_of : SM :=
    (dropM (callM sem__law_tell (consA (nmM 1) (consA (nmM 2) nilA))))
def pr__law_ledger_of (i : Nat) : Bool := [0].contains i
def m__law_ledger_of : SM :=
    (seqM (asgM 1 newLM)
    (seqM (forM (iM (nmM 0)) (gnM 2) fb1__law_ledger_of)
    (retM 1 (nmM 1))))
def sem__law_ledger_of : Sem := runD 1 3 pr__law_ledger_of m__law_ledger_of
theorem run__law_ledger_of (a0 : R) : sem__law_ledger_of [a0] = fnR 1 pr__law_ledger_of (m__law_ledger_of [some a0, none, none]) := by
  unfold sem__law_ledger_of
  exact runD_eq 1 3 pr__law_ledger_of m__law_ledger_of _ _ rfl rfl
def ce1__law_woven : EM :=
    (opnM (on1 lstD) (consA (nmM 5) nilA))
def pr__law_woven (i : Nat) : Bool := [0, 1].contains i
def m__law_woven : SM :=
    (seqM (wvM (iM (nmM 1)) (gnM 5) ce1__law_woven sem__law_take 0 5 2 3 4) (retM 2 (nmM 3)))
def sem__law_woven : Sem := runD 2 7 pr__law_woven m__law_woven
theorem run__law_woven (a0 a1 : R) : sem__law_woven [a0, a1] = fnR 2 pr__law_woven (m__law_woven [some a0, some a1, none, none, none, none, none]) := by
  unfold sem__law_woven
  exact runD_eq 2 7 pr__law_woven m__law_woven _ _ rfl rfl
def pr__law_cell_at (i : Nat) : Bool := [0, 1].contains i
def m__law_cell_at : SM :=
    (seqM (ifM (tsM (op2M dLt (nmM 1) (opnM (on1 lenD) (consA (nmM 0) nilA)))) (retM 2 (op2M dIxA (nmM 0) (nmM 1))) skipM)
    (retM 2 (cM (.int 0))))
def sem__law_cell_at : Sem := runD 2 2 pr__law_cell_at m__law_cell_at
theorem run__law_cell_at (a0 a1 : R) : sem__law_cell_at [a0, a1] = fnR 2 pr__law_cell_at (m__law_cell_at [some a0, some a1]) := by
  unfold sem__law_cell_at
  exact runD_eq 2 2 pr__law_cell_at m__law_cell_at _ _ rfl rfl
def pr__law_rightly (i : Nat) : Bool := [0, 1].contains i
def m__law_rightly : SM :=
    (seqM (asgTM (gtM (gsC (gnM 3) (gsC (gnM 4) (gsC (gnM 5) (gsC (gnM 6) gs0))))) (op2M dIxA (nmM 0) (nmM 1)))
    (seqM (asgM 2 (iteM (tsM (op2M dEq (nmM 6) (cM (.int 0)))) (tupM (consD (cM (.str "seen")) (consD (nmM 1) (consD (nmM 5) nilA)))) (tupM (consD (cM (.str "ended")) (consD (nmM 1) (consD (nmM 5) (consD (nmM 6) nilA)))))))
    (retM 2 (lstM (consD (tupM (consD (cM (.str "begin")) (consD (nmM 1) (consD (nmM 3) (consD (nmM 4) nilA))))) (consD (nmM 2) nilA))))))
def sem__law_rightly : Sem := runD 2 7 pr__law_rightly m__law_rightly
theorem run__law_rightly (a0 a1 : R) : sem__law_rightly [a0, a1] = fnR 2 pr__law_rightly (m__law_rightly [some a0, some a1, none, none, none, none, none]) := by
  unfold sem__law_rightly
  exact runD_eq 2 7 pr__law_rightly m__law_rightly _ _ rfl rfl
def pr__law_by_turns (i : Nat) : Bool := [0, 1, 2].contains i
def m__law_by_turns : SM :=
    (seqM (asgTM (gtM (gsC (gnM 3) (gsC (gnM 4) (gsC (gnM 5) (gsC (gnM 6) gs0))))) (op2M dIxA (nmM 1) (nmM 2)))
    (seqM (parM 7 8 (lstM (consD (tupM (consD (cM (.str "begin")) (consD (nmM 2) (consD (nmM 3) (consD (nmM 4) nilA))))) (consD (tupM (consD (cM (.str "seen")) (consD (nmM 2) (consD (op2M dPlus (nmM 4) (cM (.int 1))) nilA)))) nilA))) (callM sem__law_take (consA (nmM 0) (consA (cM (.int 5)) nilA))))
    (seqM (ifM (tsM (op2M dEq (nmM 8) (cM (.int 0)))) (retM 3 (op2M dPlus (nmM 7) (slM (callM sem__law_rightly (consA (nmM 1) (consA (nmM 2) nilA))) (some (cM (.int 1))) none))) skipM)
    (seqM (ifM (tsM (op2M dEq (nmM 8) (cM (.int 1)))) (seqM (asgM 9 (lstM (consD (tupM (consD (cM (.str "ended")) (consD (nmM 2) (consD (op2M dPlus (op2M dPlus (nmM 4) (cM (.int 2))) (callM sem__law_take (consA (nmM 0) (consA (cM (.int 30)) nilA)))) (consD (op2M dPlus (cM (.int 1)) (callM sem__law_take (consA (nmM 0) (consA (cM (.int 4)) nilA)))) nilA))))) nilA)))
    (retM 3 (op2M dPlus (op2M dPlus (nmM 7) (nmM 9)) (lstM (consD (tupM (consD (cM (.str "mend")) (consD (nmM 2) (consD (nmM 5) (consD (nmM 6) nilA))))) nilA))))) skipM)
    (seqM (ifM (tsM (op2M dEq (nmM 8) (cM (.int 2)))) (retM 3 (op2M dPlus (nmM 7) (lstM (consD (tupM (consD (cM (.str "mend")) (consD (nmM 2) (consD (op2M dPlus (nmM 4) (cM (.int 3))) (consD (cM (.int 2)) nilA))))) (consD (tupM (consD (cM (.str "mend")) (consD (nmM 2) (consD (nmM 5) (consD (nmM 6) nilA))))) (consD (tupM (consD (cM (.str "mend")) (consD (nmM 2) (consD (nmM 5) (consD (nmM 6) nilA))))) nilA)))))) skipM)
    (seqM (ifM (tsM (op2M dEq (nmM 8) (cM (.int 3)))) (retM 3 (op2M dPlus (op2M dPlus (nmM 7) (lstM (consD (tupM (consD (cM (.str "drop")) (consD (nmM 2) nilA))) nilA))) (callM sem__law_rightly (consA (nmM 1) (consA (nmM 2) nilA))))) skipM)
    (retM 3 (op2M dPlus (op2M dPlus (nmM 7) (lstM (consD (tupM (consD (cM (.str "seen")) (consD (nmM 2) (consD (op2M dPlus (nmM 4) (cM (.int 3))) nilA)))) (consD (tupM (consD (cM (.str "mend")) (consD (nmM 2) (consD (op2M dPlus (nmM 4) (cM (.int 1))) (consD (cM (.int 0)) nilA))))) nilA)))) (slM (callM sem__law_rightly (consA (nmM 1) (consA (nmM 2) nilA))) (some (cM (.int 1))) none)))))))))
def sem__law_by_turns : Sem := runD 3 10 pr__law_by_turns m__law_by_turns
theorem run__law_by_turns (a0 a1 a2 : R) : sem__law_by_turns [a0, a1, a2] = fnR 3 pr__law_by_turns (m__law_by_turns [some a0, some a1, some a2, none, none, none, none, none, none, none]) := by
  unfold sem__law_by_turns
  exact runD_eq 3 10 pr__law_by_turns m__law_by_turns _ _ rfl rfl
def fb1_book_by : SM :=
    (seqM (asgTM (gtM (gsC (gnM 3) (gsC (gnM 4) (gsC (gnM 5) (gsC (gnM 6) gs0))))) (op2M dIxA (nmM 0) (nmM 2)))
    (ifM (tsM (op2M dNotN (nmM 5) (cM .none))) (appM 1 (tupM (consD (op2M dMinus (nmM 4) (nmM 3)) (consD (op2M dMinus (nmM 5) (nmM 3)) (consD (nmM 6) nilA))))) skipM))
def pr_book_by (i : Nat) : Bool := [0].contains i
def m_book_by : SM :=
    (seqM (asgM 1 (lstM nilA))
    (seqM (forM (iM (opnM (on1 sortKS) (consA (nmM 0) nilA))) (gnM 2) fb1_book_by)
    (retM 1 (iteM (tsM (chM dLe dLe (cM (.int 1)) (opnM (on1 lenD) (consA (nmM 1) nilA)) (cM k_MOST_SPANS))) (opnM (on1 tupD) (consA (nmM 1) nilA)) (cM .none)))))
def sem_book_by : Sem := runD 1 7 pr_book_by m_book_by
theorem run_book_by (a0 : R) : sem_book_by [a0] = fnR 1 pr_book_by (m_book_by [some a0, none, none, none, none, none, none]) := by
  unfold sem_book_by
  exact runD_eq 1 7 pr_book_by m_book_by _ _ rfl rfl
def pr_Ledger_book (i : Nat) : Bool := [0, 1].contains i
def m_Ledger_book : SM :=
    (seqM (asgM 2 (iteM (tsM (op2M dIsN (nmM 1) (cM .none))) (opnM (on1 lenD) (consA (prtM 0 0) nilA)) (nmM 1)))
    (seqM (ifM (notT (tsM (callM sem_is_from_to (consA (nmM 2) (consA (cM (.int 0)) (consA (opnM (on1 lenD) (consA (prtM 0 0) nilA)) nilA)))))) (raiseM 2) skipM)
    (retM 2 (callM sem_book_by (consA (op2M dIxA (prtM 0 1) (nmM 2)) nilA)))))
def sem_Ledger_book : Sem := runD 2 3 pr_Ledger_book m_Ledger_book
theorem run_Ledger_book (a0 a1 : R) : sem_Ledger_book [a0, a1] = fnR 2 pr_Ledger_book (m_Ledger_book [some a0, some a1, none]) := by
  unfold sem_Ledger_book
  exact runD_eq 2 3 pr_Ledger_book m_Ledger_book _ _ rfl rfl
def pr_Ledger_eq (i : Nat) : Bool := [0, 1].contains i
def m_Ledger_eq : SM :=
    (retM 2 (andM (isLM 1) (op2M dEq (prtM 0 0) (prtM 1 0))))
def sem_Ledger_eq : Sem := runD 2 2 pr_Ledger_eq m_Ledger_eq
theorem run_Ledger_eq (a0 a1 : R) : sem_Ledger_eq [a0, a1] = fnR 2 pr_Ledger_eq (m_Ledger_eq [some a0, some a1]) := by
  unfold sem_Ledger_eq
  exact runD_eq 2 2 pr_Ledger_eq m_Ledger_eq _ _ rfl rfl
def pr_Ledger_names (i : Nat) : Bool := [0].contains i
def m_Ledger_names : SM :=
    (retM 1 (opnM (on1 sortKS) (consA (op2M dIxA (prtM 0 1) (op1M dNeg (cM (.int 1)))) nilA)))
def sem_Ledger_names : Sem := runD 1 1 pr_Ledger_names m_Ledger_names
theorem run_Ledger_names (a0 : R) : sem_Ledger_names [a0] = fnR 1 pr_Ledger_names (m_Ledger_names [some a0]) := by
  unfold sem_Ledger_names
  exact runD_eq 1 1 pr_Ledger_names m_Ledger_names _ _ rfl rfl
def pr_Ledger_len (i : Nat) : Bool := [0].contains i
def m_Ledger_len : SM :=
    (retM 1 (opnM (on1 lenD) (consA (prtM 0 0) nilA)))
def sem_Ledger_len : Sem := runD 1 1 pr_Ledger_len m_Ledger_len
theorem run_Ledger_len (a0 : R) : sem_Ledger_len [a0] = fnR 1 pr_Ledger_len (m_Ledger_len [some a0]) := by
  unfold sem_Ledger_len
  exact runD_eq 1 1 pr_Ledger_len m_Ledger_len _ _ rfl rfl
def fb1_law : SM :=
    (asgM 4 (op2M dPlus (nmM 4) (callM sem__law_rightly (consA (nmM 3) (consA (nmM 5) nilA)))))
def ce1_law : EM :=
    (callM sem__law_by_turns (consA (nmM 2) (consA (nmM 3) (consA (nmM 5) nilA))))
def ce2_law : EM :=
    (callM sem__law_rightly (consA (nmM 3) (consA (nmM 5) nilA)))
def fb2_law : SM :=
    (ifM (tsM (op2M dNe (metM true 8 sem_Ledger_book [] (consA (nmM 10) nilA)) (metEM true (callM sem__law_ledger_of (consA (slM (nmM 7) none (some (nmM 10))) nilA)) sem_Ledger_book [.none] nilA))) (retM 1 (cM (.bool false))) skipM)
def fb3_law : SM :=
    (dropM (metM true 13 sem_Ledger_undo [] nilA))
def fb4_law : SM :=
    (dropM (callM sem__law_tell (consA (nmM 13) (consA (nmM 12) nilA))))
def fb5_law : SM :=
    (seqM (asgM 2 (callM sem__law_pot (consA (callM sem__law_cell_at (consA (nmM 0) (consA (nmM 1) nilA))) nilA)))
    (seqM (asgM 3 (callM sem__law_truths (consA (nmM 2) nilA)))
    (seqM (asgM 4 (lstM nilA))
    (seqM (forDM 3 (gnM 5) fb1_law)
    (seqM (asgM 6 (callM sem__law_ledger_of (consA (nmM 4) nilA)))
    (seqM (asgM 7 (callM sem__law_woven (consA (nmM 2) (consA (lcDM 3 (gnM 5) [5] yesT ce1_law) nilA))))
    (seqM (asgM 8 (callM sem__law_ledger_of (consA (nmM 7) nilA)))
    (seqM (ifM (orT (tsM (op2M dNe (metM true 8 sem_Ledger_book [.none] nilA) (metM true 6 sem_Ledger_book [.none] nilA))) (orT (tsM (op2M dNe (metM true 8 sem_Ledger_names [] nilA) (metM true 6 sem_Ledger_names [] nilA))) (tsM (op2M dNe (lenOM 8 sem_Ledger_len) (opnM (on1 lenD) (consA (nmM 7) nilA)))))) (retM 1 (cM (.bool false))) skipM)
    (seqM (asgM 9 (callM sem__law_woven (consA (nmM 2) (consA (lcDM 3 (gnM 5) [5] yesT ce2_law) nilA))))
    (seqM (ifM (tsM (op2M dNe (metEM true (callM sem__law_ledger_of (consA (nmM 9) nilA)) sem_Ledger_book [.none] nilA) (metM true 6 sem_Ledger_book [.none] nilA))) (retM 1 (cM (.bool false))) skipM)
    (seqM (forM (irM1 (op2M dPlus (opnM (on1 lenD) (consA (nmM 7) nilA)) (cM (.int 1)))) (gnM 10) fb2_law)
    (seqM (parM 13 14 (twM 8) (callM sem__law_take (consA (nmM 2) (consA (op2M dPlus (opnM (on1 lenD) (consA (nmM 7) nilA)) (cM (.int 1))) nilA))))
    (seqM (forM (irM1 (op2M dMinus (opnM (on1 lenD) (consA (nmM 7) nilA)) (nmM 14))) (gnM 11) fb3_law)
    (seqM (ifM (orT (tsM (eqOM true sem_Ledger_eq (nmM 13) (callM sem__law_ledger_of (consA (slM (nmM 7) none (some (nmM 14))) nilA)))) (tsM (op2M dNe (metM true 13 sem_Ledger_book [.none] nilA) (metM true 8 sem_Ledger_book [] (consA (nmM 14) nilA))))) (retM 1 (cM (.bool false))) skipM)
    (seqM (forM (iM (slM (nmM 7) (some (nmM 14)) none)) (gnM 12) fb4_law)
    (ifM (orT (tsM (eqOM true sem_Ledger_eq (nmM 13) (nmM 8))) (tsM (op2M dNe (metM true 13 sem_Ledger_book [.none] nilA) (metM true 6 sem_Ledger_book [.none] nilA)))) (retM 1 (cM (.bool false))) skipM))))))))))))))))
def pr_law (i : Nat) : Bool := [0].contains i
def m_law : SM :=
    (seqM (forM (irM1 (opnM (on2 max2D) (consA (cM (.int 1)) (consA (opnM (on2 min2D) (consA (opnM (on1 lenD) (consA (nmM 0) nilA)) (consA (cM (.int 2)) nilA))) nilA)))) (gnM 1) fb5_law)
    (retM 1 (cM (.bool true))))
def sem_law : Sem := runD 1 15 pr_law m_law
theorem run_law (a0 : R) : sem_law [a0] = fnR 1 pr_law (m_law [some a0, none, none, none, none, none, none, none, none, none, none, none, none, none, none]) := by
  unfold sem_law
  exact runD_eq 1 15 pr_law m_law _ _ rfl rfl
end Lw
namespace Lw
open PySem DL
open L2 hiding Sp
theorem cell_is (ns : List Int) {k : Int} (h : 0 ≤ k) : ∃ c, sem__law_cell_at [.dat (.list (ns.map .int)), .dat (.int k)] = some (.ok (.dat (.int c)) [some (.dat (.list (ns.map .int))), some (.dat (.int k))]) := by
  rw [run__law_cell_at]
  unfold m__law_cell_at
  by_cases c : k < ns.length
  · have e : atI (ns.map PyData.int) k = some (.int (ns[k.toNat]'(by omega))) := by
      rw [atI_nn _ _ h, List.getElem?_map, List.getElem?_eq_getElem (by omega)]
      rfl
    refine ⟨ns[k.toNat]'(by omega), ?_⟩
    simp [c, e, outs_2, pr__law_cell_at]
  · refine ⟨0, ?_⟩
    simp [c, outs_2, pr__law_cell_at]
/-- a pot: one whole number -/
def Pot (p : PyData) : Prop := ∃ a : Int, p = .list [.int a]
/-- ahead of each turn of the pot's loop: j turns done -/
def PotI (c : Int) (xs : List PyData) (ρ : Rho) : Prop := ∃ (j : Nat) (n : Int) (a b : Option R), xs = rngL j (64 - j) ∧ j ≤ 64 ∧ ρ = [some (.dat (.int c)), some (.dat (.int n)), a, b] ∧ 0 ≤ n ∧ n < 2 ^ (32 * j)
theorem pot_turn {c : Int} {x : PyData} {r : List PyData} {ρ : Rho} (h : PotI c (x :: r) ρ) : ∃ ρ1 ρ2, gnM 2 x ρ = some ρ1 ∧ (fb1__law_pot ρ1 = some (.nx ρ2) ∨ fb1__law_pot ρ1 = some (.ct ρ2)) ∧ PotI c r ρ2 := by
  obtain ⟨j, n, a, b, hx, hj, rfl, n0, n1⟩ := h
  have hj2 : j < 64 := by
    rcases Nat.lt_or_ge j 64 with z | z
    · exact z
    · have : 64 - j = 0 := by omega
      rw [this, rngL_zero] at hx
      cases hx
  obtain ⟨m, hm⟩ : ∃ m, 64 - j = m + 1 := ⟨63 - j, by omega⟩
  rw [hm, rngL_succ] at hx
  injection hx with hx1 hx2
  subst hx1
  generalize hc : c.fmod 2147483629 = c0
  have c1 : 0 ≤ c0 := hc ▸ Int.fmod_nonneg_of_pos _ (by decide)
  have c2 : c0 < 2147483629 := hc ▸ Int.fmod_lt_of_pos _ (by decide)
  have e1 := mul_is (i := 7919) (j := (j : Int)) (by omega) (by omega) (by omega) (by omega)
  have e2 := mul_is (i := c0 + 7919 * (j : Int) + 1) (j := 48271) (by omega) (by omega) (by omega) (by omega)
  generalize hx : ((c0 + 7919 * (j : Int) + 1) * 48271).fmod 2147483647 = x
  have x1 : 0 ≤ x := hx ▸ Int.fmod_nonneg_of_pos _ (by decide)
  have x2 : x < 2147483647 := hx ▸ Int.fmod_lt_of_pos _ (by decide)
  have e3 := mul_is (i := x) (j := x) (by omega) (by omega) (by omega) (by omega)
  have e4 := mul_is (i := 69621) (j := (j : Int)) (by omega) (by omega) (by omega) (by omega)
  generalize hy : (x * x + 69621 * (j : Int) + 7).fmod 2147483587 = y
  have y1 : 0 ≤ y := hy ▸ Int.fmod_nonneg_of_pos _ (by decide)
  have y2 : y < 2147483587 := hy ▸ Int.fmod_lt_of_pos _ (by decide)
  have e5 : dMul (.int n) (.int 2147483587) = some (.dat (.int (n * 2147483587))) := by
    rw [dMul_i, if_pos]
    have l1 : n.natAbs.log2 < 32 * j + 1 := log2_lt n0 (Int.lt_trans n1 (by rw [Int.pow_succ]; have : (0 : Int) < 2 ^ (32 * j) := Int.pow_pos (by decide); omega)) (by omega)
    have l2 := log2_lt (i := 2147483587) (n := 32) (by omega) (by omega) (by omega)
    omega
  refine ⟨_, [some (.dat (.int c)), some (.dat (.int (n * 2147483587 + y))), some (.dat (.int j)), some (.dat (.int y))], rfl, .inl ?_, j + 1, _, _, _, ?_, hj2, rfl, ?_, ?_⟩
  · unfold fb1__law_pot
    simp [hc, e1, e2, hx, e3, e4, hy, e5, -dMul_i]
  · have : 64 - (j + 1) = m := by omega
    rw [this, hx2]
    rfl
  · have := Int.mul_nonneg n0 (show (0 : Int) ≤ 2147483587 by decide)
    omega
  · have e : (2 : Int) ^ (32 * (j + 1)) = 2 ^ (32 * j) * 4294967296 := by rw [Nat.mul_succ, Int.pow_add]; rfl
    rw [e]
    have : (0 : Int) < 2 ^ (32 * j) := Int.pow_pos (by decide)
    omega
theorem pot_is (c : Int) : ∃ p, sem__law_pot [.dat (.int c)] = some (.ok (.own p) [some (.dat (.int c))]) ∧ Pot p := by
  rw [run__law_pot]
  unfold m__law_pot
  have pw : dPow (.int 10) (.int 18) = some (.dat (.int (10 ^ 18))) := by simp [dPow]
  by_cases h : (10 : Int) ^ 18 ≤ c
  · refine ⟨.list [.int (c - 10 ^ 18)], ?_, _, rfl⟩
    have h' : (1000000000000000000 : Int) ≤ c := h
    simp [pw, h', outs_1, pr__law_pot]
  · obtain ⟨ρ', e, j, n, a, b, _, _, rfl, _⟩ := forL_inv (g := gnM 2) (body := fb1__law_pot) (PotI c) (rngL 0 64) [some (.dat (.int c)), some (.dat (.int 0)), none, none]
      ⟨0, 0, none, none, rfl, by omega, rfl, by omega, by decide⟩ (fun x r ρ h => pot_turn h)
    refine ⟨.list [.int n], ?_, _, rfl⟩
    have h' : ¬ (1000000000000000000 : Int) ≤ c := h
    have hr := fun ρ => rg1_is (j := 64) ρ (by omega) (by omega)
    simp [pw, h', hr, e, outs_1, pr__law_pot]
theorem take_is {p : PyData} {b : Int} (h : Pot p) (hb : 0 < b) (hb2 : b ≤ 2 ^ 62) :
    ∃ v p', sem__law_take [.own p, .dat (.int b)] = some (.ok (.dat (.int v)) [some (.own p'), some (.dat (.int b))]) ∧ 0 ≤ v ∧ v < b ∧ Pot p' := by
  obtain ⟨a, rfl⟩ := h
  have hb0 : b ≠ 0 := by omega
  have hbl : b.natAbs.log2 < 9000 := Nat.lt_trans (log2_lt (n := 63) (by omega) (by omega) (by decide)) (by decide)
  rw [run__law_take]
  unfold m__law_take
  refine ⟨a.fmod b, .list [.int (a.fdiv b)], ?_, Int.fmod_nonneg_of_pos _ hb, Int.fmod_lt_of_pos _ hb, _, rfl⟩
  simp [atI_nn, hb0, hbl, ixN, outs_2, pr__law_take]
theorem whole_is (i : Int) : sem_is_whole [.dat (.int i)] = some (.ok (.dat (.bool true)) [some (.dat (.int i))]) := by
  rw [run_is_whole]
  unfold m_is_whole
  simp [outs_1, pr_is_whole]
theorem from_to_is (i l h : Int) : sem_is_from_to [.dat (.int i), .dat (.int l), .dat (.int h)] = some (.ok (.dat (.bool (decide (l ≤ i) && decide (i ≤ h)))) [some (.dat (.int i)), some (.dat (.int l)), some (.dat (.int h))]) := by
  rw [run_is_from_to]
  unfold m_is_from_to
  by_cases c : l ≤ i <;> simp [whole_is, c, outs_3, pr_is_from_to]
/-- a thing that a ledger knows -/
structure Th where
  nm : Str
  b : Int
  f : Int
  l : Option Int
  e : Int
def lastD : Option Int → PyData
  | none => .none
  | some i => .int i
def Th.v (t : Th) : PyData := .tuple [.int t.b, .int t.f, lastD t.l, .int t.e]
def Th.kv (t : Th) : PyData × PyData := (.str t.nm, t.v)
def thsD (L : List Th) : PyData := .dict (L.map Th.kv)
def getT (L : List Th) (n : Str) : Option Th := L.find? fun t => decide (t.nm = n)
def hasT (L : List Th) (n : Str) : Bool := L.any fun t => decide (t.nm = n)
def putT (L : List Th) (t : Th) : List Th := if hasT L t.nm = true then L.map (fun x => if x.nm = t.nm then t else x) else L ++ [t]
def dropT (L : List Th) (n : Str) : List Th := L.filter fun t => !decide (t.nm = n)
theorem kd_ths : ∀ L : List Th, isKD (L.map Th.kv) = true
  | [] => rfl
  | _ :: _ => rfl
theorem keq_s (a b : Str) : keq (.str a) (.str b) = decide (a = b) := rfl
theorem getT_cons (t : Th) (L : List Th) (n : Str) : getT (t :: L) n = if t.nm = n then some t else getT L n := by
  unfold getT
  by_cases h : t.nm = n <;> simp [h]
theorem atK_ths (n : Str) : ∀ L : List Th, atK (L.map Th.kv) (.str n) = (getT L n).map Th.v
  | [] => rfl
  | t :: r => by
    rw [List.map_cons, getT_cons]
    show (if keq (.str t.nm) (.str n) = true then some t.v else atK (r.map Th.kv) (.str n)) = _
    rw [keq_s, atK_ths n r]
    by_cases h : t.nm = n <;> simp [h]
theorem hasT_get (n : Str) : ∀ L : List Th, hasT L n = (getT L n).isSome
  | [] => rfl
  | t :: r => by
    rw [getT_cons]
    show (decide (t.nm = n) || hasT r n) = _
    rw [hasT_get n r]
    by_cases h : t.nm = n <;> simp [h]
theorem get_nm {L : List Th} {n : Str} {t : Th} (h : getT L n = some t) : t.nm = n ∧ t ∈ L := by
  unfold getT at h
  exact ⟨by simpa using List.find?_some h, List.mem_of_find?_eq_some h⟩
theorem putD_ths (L : List Th) (t : Th) : putD (L.map Th.kv) (.str t.nm) t.v = (putT L t).map Th.kv := by
  have e : ((L.map Th.kv).any fun p => keq p.1 (.str t.nm)) = hasT L t.nm := by
    rw [List.any_map]
    rfl
  unfold putD putT
  rw [e]
  by_cases h : hasT L t.nm = true
  · rw [if_pos h, if_pos h, List.map_map, List.map_map]
    apply List.map_congr_left
    intro x _
    show (if keq (.str x.nm) (.str t.nm) = true then (PyData.str x.nm, t.v) else x.kv) = Th.kv (if x.nm = t.nm then t else x)
    rw [keq_s]
    by_cases q : x.nm = t.nm
    · simp [q, Th.kv]
    · simp [q]
  · rw [if_neg h, if_neg h, List.map_append]
    rfl
theorem dropD_ths (L : List Th) (n : Str) : dropD (L.map Th.kv) (.str n) = (dropT L n).map Th.kv := by
  unfold dropD dropT
  rw [List.filter_map]
  rfl
theorem inK_ths (neg : Bool) (n : Str) (L : List Th) : dInK neg (.str n) (thsD L) = some (.dat (.bool (if neg = true then !hasT L n else hasT L n))) := by
  show (if isKey (.str n) = true ∧ isKD (L.map Th.kv) = true then _ else none) = _
  rw [if_pos ⟨rfl, kd_ths L⟩, atK_ths, hasT_get, Option.isSome_map]
theorem ix_ths (L : List Th) (n : Str) : dIxA (thsD L) (.str n) = ((getT L n).map Th.v).map R.dat := by
  show (atK (L.map Th.kv) (.str n)).map R.dat = _
  rw [atK_ths]
theorem cp_ths (L : List Th) : cpD (thsD L) = some (.own (thsD L)) := cpD_is (kd_ths L)
theorem sort_ths {L : List Th} (h : L.length < 64) : sortKS (thsD L) = some (.own (.list ((sortSt (L.map Th.nm)).map PyData.str))) :=
  sortKS_is (by rw [List.length_map]; exact h) (by rw [List.map_map, List.map_map]; rfl)
/-- a name that a thing may have -/
def loB (c : Nat) : Bool := decide (97 ≤ c ∧ c ≤ 122)
def isNm (x : Str) : Bool := decide (1 ≤ x.length ∧ x.length ≤ 6) && (TL.tl x).all loB
/-- all ever told apart: what stands of names -/
def Nd (L : List Th) : Prop := (L.map Th.nm).Nodup
theorem has_iff {L : List Th} {n : Str} : hasT L n = true ↔ n ∈ L.map Th.nm := by
  unfold hasT
  rw [List.any_eq_true, List.mem_map]
  exact ⟨fun ⟨t, h1, h2⟩ => ⟨t, h1, by simpa using h2⟩, fun ⟨t, h1, h2⟩ => ⟨t, h1, by simpa using h2⟩⟩
theorem put_nm (L : List Th) (t : Th) : (putT L t).map Th.nm = if hasT L t.nm = true then L.map Th.nm else L.map Th.nm ++ [t.nm] := by
  unfold putT
  split
  · rw [List.map_map]
    apply List.map_congr_left
    intro x _
    show (if x.nm = t.nm then t else x).nm = x.nm
    split
    · rename_i h; exact h.symm
    · rfl
  · rw [List.map_append]; rfl
theorem Nd.put {L : List Th} (h : Nd L) (t : Th) : Nd (putT L t) := by
  unfold Nd
  rw [put_nm]
  split
  · exact h
  · rename_i q
    rw [List.nodup_append]
    refine ⟨h, by simp, fun a ha b hb => ?_⟩
    rw [List.mem_singleton] at hb
    rintro rfl
    exact q (has_iff.mpr (hb ▸ ha))
theorem Nd.drop {L : List Th} (h : Nd L) (n : Str) : Nd (dropT L n) := by
  unfold Nd dropT
  exact h.sublist (List.filter_sublist.map Th.nm)
theorem put_len (L : List Th) (t : Th) : (putT L t).length ≤ L.length + 1 := by
  unfold putT
  split <;> simp
theorem get_of {L : List Th} (h : Nd L) {t : Th} (ht : t ∈ L) : getT L t.nm = some t := by
  induction L with
  | nil => cases ht
  | cons x r ih =>
    rw [getT_cons]
    have h' : x.nm ∉ r.map Th.nm ∧ Nd r := by
      unfold Nd at h
      rw [List.map_cons, List.nodup_cons] at h
      exact h
    rcases List.mem_cons.mp ht with rfl | q
    · rw [if_pos rfl]
    · rw [if_neg (fun e : x.nm = t.nm => h'.1 (by rw [e]; exact List.mem_map_of_mem q)), ih h'.2 q]
theorem get_put {L : List Th} (h : Nd L) (t : Th) (n : Str) : getT (putT L t) n = if t.nm = n then some t else getT L n := by
  unfold putT
  split
  · rename_i q
    clear h
    induction L with
    | nil => cases q
    | cons x r ih =>
      rw [List.map_cons, getT_cons, getT_cons]
      by_cases e : x.nm = t.nm
      · rw [if_pos e]
        by_cases e2 : t.nm = n
        · rw [if_pos e2, if_pos e2]
        · rw [if_neg e2, if_neg e2, if_neg (fun z => e2 (e ▸ z))]
          by_cases q2 : hasT r t.nm = true
          · rw [ih q2, if_neg e2]
          · have : r.map (fun x => if x.nm = t.nm then t else x) = r := by
              rw [List.map_congr_left (g := id), List.map_id]
              intro y hy
              have : y.nm ≠ t.nm := fun z => q2 (has_iff.mpr (z ▸ List.mem_map_of_mem hy))
              rw [if_neg this]
              rfl
            rw [this]
      · rw [if_neg e]
        have q2 : hasT r t.nm = true := by
          unfold hasT at q ⊢
          rw [List.any_cons] at q
          simpa [e] using q
        rw [ih q2]
        by_cases e2 : t.nm = n
        · rw [if_pos e2, if_pos e2, if_neg (fun z => e (z.trans e2.symm))]
        · rw [if_neg e2, if_neg e2]
  · rename_i q
    unfold getT hasT at *
    rw [List.find?_append]
    by_cases e : t.nm = n
    · subst e
      rw [List.find?_eq_none.mpr (fun x hx => by simpa using fun z => q (List.any_eq_true.mpr ⟨x, hx, by simpa using z⟩))]
      simp
    · simp [e]
abbrev LD (ts : List PyData) (W : List (List Th)) : R := .obj (.led ts (W.map thsD))
theorem lenD_sx {x : Str} (h : x.length ≤ 100000) : lenD (.str x) = some (.dat (.int x.length)) := if_pos h
@[simp] theorem isN_n : dIsN .none .none = some (.dat (.bool true)) := eqI rfl
@[simp] theorem isN_i (i : Int) : dIsN (.int i) .none = some (.dat (.bool false)) := eqI rfl
@[simp] theorem isN_t (l : List PyData) : dIsN (.tuple l) .none = some (.dat (.bool false)) := eqI rfl
@[simp] theorem isN_s (x : Str) : dIsN (.str x) .none = some (.dat (.bool false)) := eqI rfl
@[simp] theorem notN_n : dNotN .none .none = some (.dat (.bool false)) := eqI rfl
@[simp] theorem notN_i (i : Int) : dNotN (.int i) .none = some (.dat (.bool true)) := eqI rfl
@[simp] theorem notN_t (l : List PyData) : dNotN (.tuple l) .none = some (.dat (.bool true)) := eqI rfl
@[simp] theorem notN_s (x : Str) : dNotN (.str x) .none = some (.dat (.bool true)) := eqI rfl
theorem setKR_ths {s : Nat} {L : List Th} (h : L.length < 100000) (t : Th) (ρ : Rho) : setKR s t.v (some (.str t.nm)) ρ (some (some (.own (thsD L)))) = some (.nx (ρ.set s (some (.own (thsD (putT L t)))))) := by
  unfold thsD setKR
  have h' : (L.map Th.kv).length < lim := by rw [List.length_map]; exact h
  simp only [h', kd_ths, putD_ths, isKey, if_true]
@[simp] theorem isDict_ths (L : List Th) : isDict (some (some (.own (thsD L)))) = true := eqI rfl
@[simp] theorem sv_ob (ρ : Rho) (o : OD) : sv ρ (.obj o) = some (.obj o, ρ) := eqI rfl
@[simp] theorem tmp_prt (i k : Nat) : tmp (.prt i k) = .prt i k := eqI rfl
@[simp] theorem tmp_ob (o : OD) : tmp (.obj o) = .obj o := eqI rfl
theorem vIsN (t : Th) : dIsN t.v .none = some (.dat (.bool false)) := eqI rfl
theorem isname_s (x : Str) (hx : x.length ≤ 100000) : sem_is_name [.dat (.str x)] = some (.ok (.dat (.bool (isNm x))) [(some (R.dat (.str x)))]) := by
  rw [run_is_name]
  unfold m_is_name
  have hl : (TL.tl x).length ≤ 100000 := by rw [← TL.len_tl]; exact hx
  have b1 := lcL_mp (g := gnM 1) (vs := [1]) (c := yesT) (f := ce1_is_name) (ρ := [(some (R.dat (.str x))), none]) (fun c : Nat => PyData.str ⟨#[c]⟩) (fun c => .bool (loB c)) (TL.tl x) hl (by
    intro c _
    have k0 : k_LETTERS = .str "abcdefghijklmnopqrstuvwxyz" := rfl
    have : (c ∈ ("abcdefghijklmnopqrstuvwxyz" : Str).cps) = (loB c = true) := by
      rw [← Array.mem_toList_iff]
      show (c ∈ [97, 98, 99, 100, 101, 102, 103, 104, 105, 106, 107, 108, 109, 110, 111, 112, 113, 114, 115, 116, 117, 118, 119, 120, 121, 122]) = _
      unfold loB
      apply propext
      rw [decide_eq_true_eq]
      simp only [List.mem_cons, List.not_mem_nil, or_false]
      omega
    simp [ev, ce1_is_name, k0, this])
  have es : signsD x = (TL.tl x).map fun c => PyData.str ⟨#[c]⟩ := rfl
  have al : allD (.list ((TL.tl x).map fun c => .bool (loB c))) = some (.dat (.bool ((TL.tl x).all loB))) := by
    have := allD_l ((TL.tl x).map loB)
    rw [List.map_map, List.all_map] at this
    exact this
  generalize ((TL.tl x).map fun c => PyData.str ⟨#[c]⟩) = G1 at b1 es
  generalize ((TL.tl x).map fun c => PyData.bool (loB c)) = G2 at b1 al
  unfold isNm
  by_cases h1 : 1 ≤ x.length <;> by_cases h6 : x.length ≤ 6
  all_goals
    have h1' : ((1 : Int) ≤ (x.length : Int)) ↔ (1 ≤ x.length) := by omega
    have h6' : ((x.length : Int) ≤ 6) ↔ (x.length ≤ 6) := by omega
    simp [lenD_sx hx, h1, h6, h1', h6', k_MOST_SIGNS, es, b1, al, outs_1, pr_is_name]
theorem needday_is {i : Int} (h1 : 0 ≤ i) (h2 : i ≤ 9999) : sem_need_day [.dat (.int i)] = some (.ok (.dat .none) [(some (R.dat (.int i)))]) := by
  rw [run_need_day]
  unfold m_need_day
  simp [from_to_is, k_MOST_DAY, h1, h2, outs_1, pr_need_day]
theorem needend_is {i m : Int} (h1 : m ≤ i) (h2 : i ≤ 4) : sem_need_end [.dat (.int i), .dat (.int m)] = some (.ok (.dat .none) [(some (R.dat (.int i))), (some (R.dat (.int m)))]) := by
  rw [run_need_end]
  unfold m_need_end
  simp [from_to_is, k_KINDS, h1, h2, outs_2, pr_need_end]
theorem atI_ths {W : List (List Th)} {L : List Th} (h : W.getLast? = some L) : atI (W.map thsD) (-1) = some (thsD L) := by
  rw [DL.atI_last _ (by intro e; rw [List.map_eq_nil_iff] at e; subst e; cases h), List.getLast?_map, h]
  rfl
theorem become_put {ts : List PyData} {W : List (List Th)} {L : List Th} (hW : W.getLast? = some L) (l1 : ts.length < 100000) (l2 : W.length < 100000) (l3 : L.length < 100000) (d : PyData) (t : Th) :
    sem_Ledger_become [LD ts W, .dat d, .dat (.str t.nm), .dat t.v] = some (.ok (.dat .none) [some (LD (ts ++ [d]) (W ++ [putT L t])), (some (R.dat (d))), (some (R.dat (.str t.nm))), (some (R.dat (t.v)))]) := by
  have a := atI_ths hW
  have p := putD_ths L t
  have k := kd_ths L
  rw [run_Ledger_become]
  unfold m_Ledger_become LD
  have hl1 : ts.length < lim := l1
  have hl2 : W.length < lim := l2
  have hl3 : L.length < lim := l3
  simp [a, cp_ths, vIsN, setKR_ths l3, hl1, hl2, hl3, outs_4, pr_Ledger_become]
theorem begin_is {ts : List PyData} {W : List (List Th)} {L : List Th} (hW : W.getLast? = some L) (l1 : ts.length < 100000) (l2 : W.length < 100000) (l3 : L.length < 100000) {n : Str} (hn : isNm n = true) (h : hasT L n = false) {day first : Int} (d1 : 0 ≤ day) (d2 : day ≤ 9999) (f2 : first ≤ 9999) (f3 : day ≤ first) (f4 : first < day + 999) {w : PyData} (hw : (w = .none ∧ first = day) ∨ w = .int first) :
    sem_Ledger_begin [LD ts W, .dat (.str n), .dat (.int day), .dat w] = some (.ok (.dat .none) [some (LD (ts ++ [.tuple [.str "begin", .str n, .int day, .int first]]) (W ++ [putT L ⟨n, day, first, none, 0⟩])), (some (R.dat (.str n))), (some (R.dat (.int day))), (some (R.dat (w)))]) := by
  have a := atI_ths hW
  have nl : n.length ≤ 100000 := by unfold isNm at hn; simp at hn; omega
  have bp := become_put hW l1 l2 l3 (.tuple [.str "begin", .str n, .int day, .int first]) ⟨n, day, first, none, 0⟩
  have e : (Th.v ⟨n, day, first, none, 0⟩) = .tuple [.int day, .int first, .none, .int 0] := rfl
  rw [e] at bp
  unfold LD at bp
  rw [run_Ledger_begin]
  unfold m_Ledger_begin LD
  rcases hw with ⟨rfl, rfl⟩ | rfl
  · simp [isname_s n nl, hn, a, inK_ths, h, needday_is d1 d2, k_MOST_AGE, f4, bp, outs_4, pr_Ledger_begin]
  · simp [isname_s n nl, hn, a, inK_ths, h, needday_is d1 d2, needday_is (show 0 ≤ first by omega) f2, f3, f4, k_MOST_AGE, bp, outs_4, pr_Ledger_begin]
theorem thingof_is {ts : List PyData} {W : List (List Th)} {L : List Th} (hW : W.getLast? = some L) {n : Str} (hn : isNm n = true) {t : Th} (h : getT L n = some t) :
    sem_Ledger_thing_of [LD ts W, .dat (.str n)] = some (.ok (.dat t.v) [some (LD ts W), (some (R.dat (.str n)))]) := by
  have a := atI_ths hW
  have nl : n.length ≤ 100000 := by unfold isNm at hn; simp at hn; omega
  have hh : hasT L n = true := by rw [hasT_get, h]; rfl
  rw [run_Ledger_thing_of]
  unfold m_Ledger_thing_of LD
  simp [isname_s n nl, hn, a, inK_ths, hh, ix_ths, h, outs_2, pr_Ledger_thing_of]
theorem known_is {ts : List PyData} {W : List (List Th)} {L : List Th} (hW : W.getLast? = some L) {n : Str} (hn : isNm n = true) {t : Th} (h : getT L n = some t) {day : Int} (d1 : 0 ≤ day) (d2 : day ≤ 9999) (d3 : t.f < day) (d4 : day ≤ t.b + 999) :
    sem_Ledger_known_with [LD ts W, .dat (.str n), .dat (.int day)] = some (.ok (.dat t.v) [some (LD ts W), (some (R.dat (.str n))), (some (R.dat (.int day)))]) := by
  have q := thingof_is (ts := ts) hW hn h
  unfold LD Th.v at q
  rw [run_Ledger_known_with]
  unfold m_Ledger_known_with LD Th.v
  simp [q, needday_is d1 d2, d3, d4, k_MOST_AGE, outs_3, pr_Ledger_known_with]
theorem seen_is {ts : List PyData} {W : List (List Th)} {L : List Th} (hW : W.getLast? = some L) (l1 : ts.length < 100000) (l2 : W.length < 100000) (l3 : L.length < 100000) {n : Str} (hn : isNm n = true) {t : Th} (h : getT L n = some t) {day : Int} (d1 : 0 ≤ day) (d2 : day ≤ 9999) (d3 : t.f < day) (d4 : day ≤ t.b + 999) (he : t.e = 0) (hl : ∀ l, t.l = some l → l < day) :
    sem_Ledger_seen [LD ts W, .dat (.str n), .dat (.int day)] = some (.ok (.dat .none) [some (LD (ts ++ [.tuple [.str "seen", .str n, .int day]]) (W ++ [putT L ⟨n, t.b, t.f, some day, 0⟩])), (some (R.dat (.str n))), (some (R.dat (.int day)))]) := by
  have q := known_is (ts := ts) hW hn h d1 d2 d3 d4
  have bp := become_put hW l1 l2 l3 (.tuple [.str "seen", .str n, .int day]) ⟨n, t.b, t.f, some day, 0⟩
  have e : (Th.v ⟨n, t.b, t.f, some day, 0⟩) = .tuple [.int t.b, .int t.f, .int day, .int 0] := rfl
  rw [e] at bp
  unfold LD at bp q
  unfold Th.v at q
  rw [run_Ledger_seen]
  unfold m_Ledger_seen LD
  cases hc : t.l with
  | none =>
    rw [hc, he] at q
    simp [q, lastD, bp, outs_3, pr_Ledger_seen]
  | some l =>
    rw [hc, he] at q
    have := hl l hc
    have z : ¬ day ≤ l := by omega
    simp [q, lastD, bp, z, outs_3, pr_Ledger_seen]
theorem ended_is {ts : List PyData} {W : List (List Th)} {L : List Th} (hW : W.getLast? = some L) (l1 : ts.length < 100000) (l2 : W.length < 100000) (l3 : L.length < 100000) {n : Str} (hn : isNm n = true) {t : Th} (h : getT L n = some t) {day k : Int} (d1 : 0 ≤ day) (d2 : day ≤ 9999) (d3 : t.f < day) (d4 : day ≤ t.b + 999) (k1 : 1 ≤ k) (k2 : k ≤ 4) (he : t.e = 0) (hl : ∀ l, t.l = some l → l ≤ day) :
    sem_Ledger_ended [LD ts W, .dat (.str n), .dat (.int day), .dat (.int k)] = some (.ok (.dat .none) [some (LD (ts ++ [.tuple [.str "ended", .str n, .int day, .int k]]) (W ++ [putT L ⟨n, t.b, t.f, some day, k⟩])), (some (R.dat (.str n))), (some (R.dat (.int day))), (some (R.dat (.int k)))]) := by
  have q := known_is (ts := ts) hW hn h d1 d2 d3 d4
  have bp := become_put hW l1 l2 l3 (.tuple [.str "ended", .str n, .int day, .int k]) ⟨n, t.b, t.f, some day, k⟩
  have e : (Th.v ⟨n, t.b, t.f, some day, k⟩) = .tuple [.int t.b, .int t.f, .int day, .int k] := rfl
  rw [e] at bp
  unfold LD at bp q
  unfold Th.v at q
  rw [run_Ledger_ended]
  unfold m_Ledger_ended LD
  cases hc : t.l with
  | none =>
    rw [hc, he] at q
    simp [q, lastD, needend_is k1 k2, bp, outs_4, pr_Ledger_ended]
  | some l =>
    rw [hc, he] at q
    have := hl l hc
    have z : ¬ day < l := by omega
    simp [q, lastD, needend_is k1 k2, bp, z, outs_4, pr_Ledger_ended]
theorem undo_is {ts : List PyData} {W : List (List Th)} (d : PyData) (L : List Th) :
    sem_Ledger_undo [LD (ts ++ [d]) (W ++ [L])] = some (.ok (.dat .none) [some (LD ts W)]) := by
  rw [run_Ledger_undo]
  unfold m_Ledger_undo LD
  have e1 : (ts ++ [d]).getLast? = some d := by simp
  have e2 : (W.map thsD ++ [thsD L]).getLast? = some (thsD L) := by simp
  have e0 : (ts ++ [d]).isEmpty = false := by cases ts <;> rfl
  simp [e0, popPR_0 e1, popPR_1 e2, outs_1, pr_Ledger_undo]
theorem len_is (ts : List PyData) (W : List (List Th)) : sem_Ledger_len [LD ts W] = some (.ok (.dat (.int ts.length)) [some (LD ts W)]) := by
  rw [run_Ledger_len]
  unfold m_Ledger_len LD
  simp [outs_1, pr_Ledger_len]
theorem eq_is {ts us : List PyData} (W V : List (List Th)) {b : Bool} (h : dEq (.list ts) (.list us) = some (.dat (.bool b))) : sem_Ledger_eq [LD ts W, LD us V] = some (.ok (.dat (.bool b)) [some (LD ts W), some (LD us V)]) := by
  rw [run_Ledger_eq]
  unfold m_Ledger_eq LD
  simp [h, outs_2, pr_Ledger_eq]
def Th.sp (t : Th) : Option Sp := t.l.map fun l => ⟨t.f - t.b, l - t.b, t.e⟩
def bkL (L : List Th) : List Sp := (sortSt (L.map Th.nm)).filterMap fun n => (getT L n).bind Th.sp
def bkD (L : List Th) : PyData := if 1 ≤ (bkL L).length ∧ (bkL L).length ≤ 40 then .tuple ((bkL L).map Sp.d) else .none
theorem get_in {L : List Th} {n : Str} (h : n ∈ L.map Th.nm) : ∃ t, getT L n = some t ∧ t.nm = n ∧ t ∈ L := by
  have := has_iff.mpr h
  rw [hasT_get, Option.isSome_iff_exists] at this
  obtain ⟨t, ht⟩ := this
  exact ⟨t, ht, get_nm ht⟩
theorem sort_len (l : List Str) : (sortSt l).length = l.length := (sortSt_perm l).length_eq
theorem bookby_is {L : List Th} (h : L.length < 64) : sem_book_by [.dat (thsD L)] = some (.ok (.dat (bkD L)) [(some (R.dat (thsD L)))]) := by
  rw [run_book_by]
  unfold m_book_by
  have sl := sort_len (L.map Th.nm)
  rw [List.length_map] at sl
  obtain ⟨ρ', e, e2, e3, e4, e5, e6, rfl⟩ := forL_st (g := gnM 2) (body := fb1_book_by) PyData.str (fun (A : List Str) ρ => ∃ e2 e3 e4 e5 e6, ρ = [(some (R.dat (thsD L))), (some (R.own (.list ((A.filterMap fun n => (getT L n).bind Th.sp).map Sp.d)))), e2, e3, e4, e5, e6]) (fun A t => A ++ [t]) [] (sortSt (L.map Th.nm)) [(some (R.dat (thsD L))), (some (R.own (.list []))), none, none, none, none, none]
    ⟨none, none, none, none, none, rfl⟩ (by
      rintro pre n post ρ hL ⟨e2, e3, e4, e5, e6, rfl⟩
      rw [foldl_snoc0]
      obtain ⟨t, ht, _, _⟩ := get_in ((sortSt_perm (L.map Th.nm)).mem_iff.mp (show n ∈ sortSt (L.map Th.nm) by rw [hL]; simp))
      rw [hL, List.length_append, List.length_cons] at sl
      have hlim : (pre.filterMap fun n => (getT L n).bind Th.sp).length < 100000 := Nat.lt_of_le_of_lt (List.length_filterMap_le ..) (by omega)
      rw [List.filterMap_append, List.map_append]
      generalize hp : (pre.filterMap fun n => (getT L n).bind Th.sp) = M at hlim
      cases hc : t.l with
      | none =>
        refine ⟨[(some (R.dat (thsD L))), (some (R.own (.list (M.map Sp.d)))), (some (R.dat (.str n))), (some (R.dat (.int t.b))), (some (R.dat (.int t.f))), (some (R.dat (.none))), (some (R.dat (.int t.e)))], ?_, (some (R.dat (.str n))), (some (R.dat (.int t.b))), (some (R.dat (.int t.f))), (some (R.dat (.none))), (some (R.dat (.int t.e))), by simp [ht, Th.sp, hc]⟩
        unfold fb1_book_by
        simp [ix_ths, ht, Th.v, hc, lastD]
      | some l =>
        refine ⟨[(some (R.dat (thsD L))), (some (R.own (.list (M.map Sp.d ++ [Sp.d ⟨t.f - t.b, l - t.b, t.e⟩])))), (some (R.dat (.str n))), (some (R.dat (.int t.b))), (some (R.dat (.int t.f))), (some (R.dat (.int l))), (some (R.dat (.int t.e)))], ?_, (some (R.dat (.str n))), (some (R.dat (.int t.b))), (some (R.dat (.int t.f))), (some (R.dat (.int l))), (some (R.dat (.int t.e))), by simp [ht, Th.sp, hc]⟩
        unfold fb1_book_by
        simp [ix_ths, ht, Th.v, hc, lastD, hlim, Sp.d])
  rw [foldl_snoc0] at e
  have hb : ((sortSt (L.map Th.nm)).filterMap fun n => (getT L n).bind Th.sp) = bkL L := rfl
  rw [hb] at e
  have hbl : (bkL L).length ≤ 63 := Nat.le_trans (List.length_filterMap_le ..) (by omega)
  unfold bkD
  by_cases h1 : 1 ≤ (bkL L).length <;> by_cases h2 : (bkL L).length ≤ 40
  all_goals
    have h1' : ((1 : Int) ≤ ((bkL L).length : Int)) ↔ (1 ≤ (bkL L).length) := by omega
    have h2' : (((bkL L).length : Int) ≤ 40) ↔ ((bkL L).length ≤ 40) := by omega
    simp [sort_ths h, e, k_MOST_SPANS, h1, h2, h1', h2', outs_1, pr_book_by]
theorem booknow_is {ts : List PyData} {W : List (List Th)} {L : List Th} (hW : W.getLast? = some L) (hl : W.length = ts.length + 1) (h : L.length < 64) :
    sem_Ledger_book [LD ts W, .dat .none] = some (.ok (.dat (bkD L)) [some (LD ts W), (some (R.dat (.none)))]) := by
  have a : atI (W.map thsD) (ts.length : Int) = some (thsD L) := by
    rw [atI_nn _ _ (by omega), List.getElem?_map]
    rw [List.getLast?_eq_getElem?, hl] at hW
    have e : (ts.length : Int).toNat = ts.length + 1 - 1 := by omega
    rw [e, hW]
    rfl
  rw [run_Ledger_book]
  unfold m_Ledger_book LD
  simp [from_to_is, a, bookby_is h, outs_2, pr_Ledger_book]
theorem bookat_is {ts : List PyData} {W : List (List Th)} {L : List Th} {k : Nat} (hW : W[k]? = some L) (hl : W.length = ts.length + 1) (h : L.length < 64) :
    sem_Ledger_book [LD ts W, .dat (.int k)] = some (.ok (.dat (bkD L)) [some (LD ts W), (some (R.dat (.int k)))]) := by
  have a : atI (W.map thsD) (k : Int) = some (thsD L) := by
    rw [atI_nn _ _ (by omega), List.getElem?_map]
    have e : (k : Int).toNat = k := by omega
    rw [e, hW]
    rfl
  have hk : (k : Int) ≤ ts.length := by
    have := (List.getElem?_eq_some_iff.mp hW).1
    omega
  rw [run_Ledger_book]
  unfold m_Ledger_book LD
  simp [from_to_is, a, hk, bookby_is h, outs_2, pr_Ledger_book]
theorem isDK_ths (L : List Th) : isDK (some (some (.own (thsD L)))) = true := kd_ths L
theorem popKR_ths {i : Nat} {L : List Th} {n : Str} {t : Th} (h : getT L n = some t) (ρ : Rho) : popKR i (some (.str n)) ρ (some (some (.own (thsD L)))) = some (.ok (.dat t.v) (ρ.set i (some (.own (thsD (dropT L n)))))) := by
  unfold thsD
  rw [popKR_is rfl (kd_ths L) (show atK (L.map Th.kv) (.str n) = some t.v by rw [atK_ths, h]; rfl), dropD_ths]
theorem become_drop {ts : List PyData} {W : List (List Th)} {L : List Th} (hW : W.getLast? = some L) (l1 : ts.length < 100000) (l2 : W.length < 100000) (d : PyData) {n : Str} {t : Th} (h : getT L n = some t) :
    sem_Ledger_become [LD ts W, .dat d, .dat (.str n), .dat .none] = some (.ok (.dat .none) [some (LD (ts ++ [d]) (W ++ [dropT L n])), (some (R.dat (d))), (some (R.dat (.str n))), (some (R.dat (.none)))]) := by
  have a := atI_ths hW
  rw [run_Ledger_become]
  unfold m_Ledger_become LD
  have hl1 : ts.length < lim := l1
  have hl2 : W.length < lim := l2
  simp [a, cp_ths, isDK_ths, popKR_ths h, hl1, hl2, outs_4, pr_Ledger_become]
theorem mend_is {ts : List PyData} {W : List (List Th)} {L : List Th} (hW : W.getLast? = some L) (l1 : ts.length < 100000) (l2 : W.length < 100000) (l3 : L.length < 100000) {n : Str} (hn : isNm n = true) {t : Th} (h : getT L n = some t) {day k : Int} (d1 : 0 ≤ day) (d2 : day ≤ 9999) (d3 : t.f < day) (d4 : day ≤ t.b + 999) (k1 : 0 ≤ k) (k2 : k ≤ 4) :
    sem_Ledger_mend [LD ts W, .dat (.str n), .dat (.int day), .dat (.int k)] = some (.ok (.dat .none) [some (LD (ts ++ [.tuple [.str "mend", .str n, .int day, .int k]]) (W ++ [putT L ⟨n, t.b, t.f, some day, k⟩])), (some (R.dat (.str n))), (some (R.dat (.int day))), (some (R.dat (.int k)))]) := by
  have q := known_is (ts := ts) hW hn h d1 d2 d3 d4
  have bp := become_put hW l1 l2 l3 (.tuple [.str "mend", .str n, .int day, .int k]) ⟨n, t.b, t.f, some day, k⟩
  have e : (Th.v ⟨n, t.b, t.f, some day, k⟩) = .tuple [.int t.b, .int t.f, .int day, .int k] := rfl
  rw [e] at bp
  unfold LD at bp q
  unfold Th.v at q
  rw [run_Ledger_mend]
  unfold m_Ledger_mend LD
  generalize lastD t.l = ld at q
  simp [q, needend_is k1 k2, bp, outs_4, pr_Ledger_mend]
theorem drop_is {ts : List PyData} {W : List (List Th)} {L : List Th} (hW : W.getLast? = some L) (l1 : ts.length < 100000) (l2 : W.length < 100000) {n : Str} (hn : isNm n = true) {t : Th} (h : getT L n = some t) :
    sem_Ledger_drop [LD ts W, .dat (.str n)] = some (.ok (.dat .none) [some (LD (ts ++ [.tuple [.str "drop", .str n]]) (W ++ [dropT L n])), (some (R.dat (.str n)))]) := by
  have q := thingof_is (ts := ts) hW hn h
  have bp := become_drop hW l1 l2 (.tuple [.str "drop", .str n]) h
  unfold LD at bp q
  rw [run_Ledger_drop]
  unfold m_Ledger_drop LD
  simp [q, bp, outs_2, pr_Ledger_drop]
inductive Dd where
  | be (n : Str) (d f : Int)
  | se (n : Str) (d : Int)
  | en (n : Str) (d k : Int)
  | me (n : Str) (d k : Int)
  | dr (n : Str)
  | un
def Dd.v : Dd → PyData
  | .be n d f => .tuple [.str "begin", .str n, .int d, .int f]
  | .se n d => .tuple [.str "seen", .str n, .int d]
  | .en n d k => .tuple [.str "ended", .str n, .int d, .int k]
  | .me n d k => .tuple [.str "mend", .str n, .int d, .int k]
  | .dr n => .tuple [.str "drop", .str n]
  | .un => .tuple [.str "undo"]
/-- what was known last is no earlier; is later -/
def lge (l : Option Int) (d : Int) : Bool := match l with
  | none => false
  | some i => decide (d ≤ i)
def lgt (l : Option Int) (d : Int) : Bool := match l with
  | none => false
  | some i => decide (d < i)
def okDay (t : Th) (d : Int) : Bool := decide (t.f < d) && decide (d ≤ t.b + 999)
/-- the things behind a deed, or the class of its refusal -/
def aft (L : List Th) : Dd → Sum Nat (List Th)
  | .be n d f => if hasT L n = true then .inl 12 else if (decide (d ≤ f) && decide (f < d + 999)) = true then .inr (putT L ⟨n, d, f, none, 0⟩) else .inl 13
  | .se n d => match getT L n with
    | none => .inl 12
    | some t => if okDay t d = true then (if (decide (0 < t.e) || lge t.l d) = true then .inl 14 else .inr (putT L ⟨n, t.b, t.f, some d, 0⟩)) else .inl 13
  | .en n d k => match getT L n with
    | none => .inl 12
    | some t => if okDay t d = true then (if (decide (1 ≤ k) && decide (k ≤ 4)) = true then (if (decide (0 < t.e) || lgt t.l d) = true then .inl 14 else .inr (putT L ⟨n, t.b, t.f, some d, k⟩)) else .inl 6) else .inl 13
  | .me n d k => match getT L n with
    | none => .inl 12
    | some t => if okDay t d = true then (if (decide (0 ≤ k) && decide (k ≤ 4)) = true then .inr (putT L ⟨n, t.b, t.f, some d, k⟩) else .inl 6) else .inl 13
  | .dr n => match getT L n with
    | none => .inl 12
    | some _ => .inr (dropT L n)
  | .un => .inl 14
/-- the deeds that a ledger is asked -/
def Dd.Ok : Dd → Prop
  | .be n d f => isNm n = true ∧ 0 ≤ d ∧ d ≤ 9999 ∧ 0 ≤ f ∧ f ≤ 9999
  | .se n d => isNm n = true ∧ 0 ≤ d ∧ d ≤ 9999
  | .en n d _ => isNm n = true ∧ 0 ≤ d ∧ d ≤ 9999
  | .me n d _ => isNm n = true ∧ 0 ≤ d ∧ d ≤ 9999
  | .dr n => isNm n = true
  | .un => True
theorem day_ok {t : Th} {d : Int} (c : okDay t d = true) : t.f < d ∧ d ≤ t.b + 999 := by
  unfold okDay at c
  simpa using c
theorem at_0 {α : Type} (a : α) (l : List α) : atI (a :: l) 0 = some a := by rw [atI_nn _ _ (by omega)]; rfl
theorem at_1 {α : Type} (a b : α) (l : List α) : atI (a :: b :: l) 1 = some b := by rw [atI_nn _ _ (by omega)]; rfl
theorem at_2 {α : Type} (a b c : α) (l : List α) : atI (a :: b :: c :: l) 2 = some c := by rw [atI_nn _ _ (by omega)]; rfl
theorem at_3 {α : Type} (a b c d : α) (l : List α) : atI (a :: b :: c :: d :: l) 3 = some d := by rw [atI_nn _ _ (by omega)]; rfl
theorem w_begin_seen : (("begin" : Str) = "seen") = False := eq_false (by decide +kernel)
theorem w_begin_ended : (("begin" : Str) = "ended") = False := eq_false (by decide +kernel)
theorem w_begin_mend : (("begin" : Str) = "mend") = False := eq_false (by decide +kernel)
theorem w_begin_drop : (("begin" : Str) = "drop") = False := eq_false (by decide +kernel)
theorem w_begin_undo : (("begin" : Str) = "undo") = False := eq_false (by decide +kernel)
theorem w_seen_begin : (("seen" : Str) = "begin") = False := eq_false (by decide +kernel)
theorem w_seen_ended : (("seen" : Str) = "ended") = False := eq_false (by decide +kernel)
theorem w_seen_mend : (("seen" : Str) = "mend") = False := eq_false (by decide +kernel)
theorem w_seen_drop : (("seen" : Str) = "drop") = False := eq_false (by decide +kernel)
theorem w_seen_undo : (("seen" : Str) = "undo") = False := eq_false (by decide +kernel)
theorem w_ended_begin : (("ended" : Str) = "begin") = False := eq_false (by decide +kernel)
theorem w_ended_seen : (("ended" : Str) = "seen") = False := eq_false (by decide +kernel)
theorem w_ended_mend : (("ended" : Str) = "mend") = False := eq_false (by decide +kernel)
theorem w_ended_drop : (("ended" : Str) = "drop") = False := eq_false (by decide +kernel)
theorem w_ended_undo : (("ended" : Str) = "undo") = False := eq_false (by decide +kernel)
theorem w_mend_begin : (("mend" : Str) = "begin") = False := eq_false (by decide +kernel)
theorem w_mend_seen : (("mend" : Str) = "seen") = False := eq_false (by decide +kernel)
theorem w_mend_ended : (("mend" : Str) = "ended") = False := eq_false (by decide +kernel)
theorem w_mend_drop : (("mend" : Str) = "drop") = False := eq_false (by decide +kernel)
theorem w_mend_undo : (("mend" : Str) = "undo") = False := eq_false (by decide +kernel)
theorem w_drop_begin : (("drop" : Str) = "begin") = False := eq_false (by decide +kernel)
theorem w_drop_seen : (("drop" : Str) = "seen") = False := eq_false (by decide +kernel)
theorem w_drop_ended : (("drop" : Str) = "ended") = False := eq_false (by decide +kernel)
theorem w_drop_mend : (("drop" : Str) = "mend") = False := eq_false (by decide +kernel)
theorem w_drop_undo : (("drop" : Str) = "undo") = False := eq_false (by decide +kernel)
/-- the signs of our texts -/
def AscS (x : Str) : Prop := ∀ c ∈ TL.tl x, c < 128
theorem AscS.ok {x : Str} (h : AscS x) : (PyData.str x).canLay0 = true := by
  show PyData.strOk x = true
  unfold PyData.strOk
  rw [Array.all_eq_true]
  intro i hi
  have := h x.cps[i] (by show _ ∈ x.cps.toList; rw [Array.mem_toList_iff]; exact Array.getElem_mem hi)
  simp only [decide_eq_true_eq]
  omega
theorem dNe_self {d : PyData} {m : Nat} (h : Eqb m d) (l : m ≤ 64) (ns : ∀ i, d ≠ .str i) : dNe d d = some (.dat (.bool false)) := by
  rw [dNe_of h h l l (fun i j e _ => ns i e), PySem.SeqAt.eqv_refl d h.l]
  rfl
theorem dEq_self {d : PyData} {m : Nat} (h : Eqb m d) (l : m ≤ 64) (ns : ∀ i, d ≠ .str i) : dEq d d = some (.dat (.bool true)) := by
  rw [dEq_of h h l l (fun i j e _ => ns i e), PySem.SeqAt.eqv_refl d h.l]
theorem Eqb.str {x : Str} (h : (PyData.str x).canLay0 = true) : Eqb 0 (.str x) := ⟨h, Nat.le_refl 0⟩
theorem nm_ok {x : Str} (h : isNm x = true) : (PyData.str x).canLay0 = true := by
  unfold isNm at h
  rw [Bool.and_eq_true, decide_eq_true_eq] at h
  refine AscS.ok fun c hc => ?_
  have := List.all_eq_true.mp h.2 c hc
  unfold loB at this
  rw [decide_eq_true_eq] at this
  omega
theorem eqb_b {x n : Str} (hx : (PyData.str x).canLay0 = true) (hn : isNm n = true) (d f : Int) : Eqb 1 (.tuple [.str x, .str n, .int d, .int f]) := Eqb.tuple (m := 0) (by simp [Eqb.int, Eqb.str hx, Eqb.str (nm_ok hn)])
theorem eqb_s {x n : Str} (hx : (PyData.str x).canLay0 = true) (hn : isNm n = true) (d : Int) : Eqb 1 (.tuple [.str x, .str n, .int d]) := Eqb.tuple (m := 0) (by simp [Eqb.int, Eqb.str hx, Eqb.str (nm_ok hn)])
theorem names_is (hW : W.getLast? = some L) (h : L.length < 64) : sem_Ledger_names [LD ts W] = some (.ok (.own (.list ((sortSt (L.map Th.nm)).map PyData.str))) [some (LD ts W)]) := by
  have a := atI_ths hW
  rw [run_Ledger_names]
  unfold m_Ledger_names LD
  simp [a, sort_ths h, outs_1, pr_Ledger_names]
def Dd.nm : Dd → Str
  | .be n _ _ => n
  | .se n _ => n
  | .en n _ _ => n
  | .me n _ _ => n
  | .dr n => n
  | .un => ""
/-- one thing behind a deed of it -/
def st1 : Option Th → Dd → Option (Option Th)
  | none, .be n d f => if d ≤ f ∧ f < d + 999 then some (some ⟨n, d, f, none, 0⟩) else none
  | some t, .se n d => if okDay t d = true ∧ (decide (0 < t.e) || lge t.l d) = false then some (some ⟨n, t.b, t.f, some d, 0⟩) else none
  | some t, .en n d k => if okDay t d = true ∧ (1 ≤ k ∧ k ≤ 4) ∧ (decide (0 < t.e) || lgt t.l d) = false then some (some ⟨n, t.b, t.f, some d, k⟩) else none
  | some t, .me n d k => if okDay t d = true ∧ 0 ≤ k ∧ k ≤ 4 then some (some ⟨n, t.b, t.f, some d, k⟩) else none
  | some _, .dr _ => some none
  | _, _ => none
def runs : Option Th → List Dd → Option (Option Th)
  | o, [] => some o
  | o, x :: r => (st1 o x).bind fun o' => runs o' r
def fin (L : List Th) : List Dd → List Th
  | [] => L
  | x :: r => match aft L x with
    | .inr M => fin M r
    | .inl _ => L
def Rn : List Th → List Dd → Prop
  | _, [] => True
  | L, x :: r => ∃ M, aft L x = .inr M ∧ Rn M r
def aftAll (L : List Th) : List Dd → List (List Th)
  | [] => []
  | x :: r => match aft L x with
    | .inr M => M :: aftAll M r
    | .inl _ => []
theorem get_drop {L : List Th} (n m : Str) : getT (dropT L n) m = if m = n then none else getT L m := by
  unfold dropT
  induction L with
  | nil => split <;> rfl
  | cons x r ih =>
    rw [List.filter_cons]
    by_cases e : x.nm = n
    · rw [if_neg (by simp [e]), ih, getT_cons]
      by_cases q : m = n
      · rw [if_pos q, if_pos q]
      · rw [if_neg q, if_neg q, if_neg (fun z => q (by rw [← z, e]))]
    · rw [if_pos (by simp [e]), getT_cons, getT_cons, ih]
      by_cases q : m = n
      · subst q
        rw [if_neg e, if_pos rfl, if_pos rfl]
      · rw [if_neg q, if_neg q]
theorem aft_st1 {L : List Th} (nd : Nd L) {x : Dd} {r : Option Th} (h : st1 (getT L x.nm) x = some r) : ∃ M, aft L x = .inr M ∧ Nd M ∧ getT M x.nm = r ∧ ∀ m, m ≠ x.nm → getT M m = getT L m := by
  have pt : ∀ (t : Th) (n : Str), t.nm = n → Nd (putT L t) ∧ getT (putT L t) n = some t ∧ ∀ m, m ≠ n → getT (putT L t) m = getT L m := fun t n e => by
    refine ⟨nd.put t, by rw [get_put nd, if_pos e], fun m hm => by rw [get_put nd, if_neg (fun z => hm (by rw [← z, e]))]⟩
  cases x with
  | be n d f =>
    cases q : getT L n with
    | some t => rw [show (Dd.be n d f).nm = n from rfl, q] at h; cases h
    | none =>
      rw [show (Dd.be n d f).nm = n from rfl, q] at h
      have h' : (if d ≤ f ∧ f < d + 999 then some (some (⟨n, d, f, none, 0⟩ : Th)) else none) = some r := h
      split at h'
      · rename_i c
        cases h'
        refine ⟨putT L ⟨n, d, f, none, 0⟩, ?_, pt ⟨n, d, f, none, 0⟩ n rfl⟩
        show (if hasT L n = true then _ else _) = _
        rw [hasT_get, q]
        simp [c.1, c.2]
      · cases h'
  | se n d =>
    cases q : getT L n with
    | none => rw [show (Dd.se n d).nm = n from rfl, q] at h; cases h
    | some t =>
      rw [show (Dd.se n d).nm = n from rfl, q] at h
      have h' : (if okDay t d = true ∧ (decide (0 < t.e) || lge t.l d) = false then some (some (⟨n, t.b, t.f, some d, 0⟩ : Th)) else none) = some r := h
      split at h'
      · rename_i c
        cases h'
        refine ⟨putT L ⟨n, t.b, t.f, some d, 0⟩, ?_, pt ⟨n, t.b, t.f, some d, 0⟩ n rfl⟩
        show (match getT L n with | none => _ | some t => _) = _
        rw [q]
        dsimp only
        rw [if_pos c.1, if_neg (by rw [c.2]; decide)]
      · cases h'
  | en n d k =>
    cases q : getT L n with
    | none => rw [show (Dd.en n d k).nm = n from rfl, q] at h; cases h
    | some t =>
      rw [show (Dd.en n d k).nm = n from rfl, q] at h
      have h' : (if okDay t d = true ∧ (1 ≤ k ∧ k ≤ 4) ∧ (decide (0 < t.e) || lgt t.l d) = false then some (some (⟨n, t.b, t.f, some d, k⟩ : Th)) else none) = some r := h
      split at h'
      · rename_i c
        cases h'
        refine ⟨putT L ⟨n, t.b, t.f, some d, k⟩, ?_, pt ⟨n, t.b, t.f, some d, k⟩ n rfl⟩
        show (match getT L n with | none => _ | some t => _) = _
        rw [q]
        dsimp only
        rw [if_pos c.1, if_pos (by simp [c.2.1.1, c.2.1.2]), if_neg (by rw [c.2.2]; decide)]
      · cases h'
  | me n d k =>
    cases q : getT L n with
    | none => rw [show (Dd.me n d k).nm = n from rfl, q] at h; cases h
    | some t =>
      rw [show (Dd.me n d k).nm = n from rfl, q] at h
      have h' : (if okDay t d = true ∧ 0 ≤ k ∧ k ≤ 4 then some (some (⟨n, t.b, t.f, some d, k⟩ : Th)) else none) = some r := h
      split at h'
      · rename_i c
        cases h'
        refine ⟨putT L ⟨n, t.b, t.f, some d, k⟩, ?_, pt ⟨n, t.b, t.f, some d, k⟩ n rfl⟩
        show (match getT L n with | none => _ | some t => _) = _
        rw [q]
        dsimp only
        rw [if_pos c.1, if_pos (by simp [c.2.1, c.2.2])]
      · cases h'
  | dr n =>
    cases q : getT L n with
    | none => rw [show (Dd.dr n).nm = n from rfl, q] at h; cases h
    | some t =>
      rw [show (Dd.dr n).nm = n from rfl, q] at h
      have h' : some none = some r := h
      cases h'
      refine ⟨dropT L n, ?_, nd.drop n, by show getT (dropT L n) n = none; rw [get_drop, if_pos rfl], fun m hm => by rw [get_drop, if_neg (show ¬ m = n from hm)]⟩
      show (match getT L n with | none => _ | some t => _) = _
      rw [q]
  | un =>
    cases q : getT L "" with
    | none => rw [show Dd.un.nm = "" from rfl, q] at h; cases h
    | some t => rw [show Dd.un.nm = "" from rfl, q] at h; cases h
/-- each thing by itself -/
theorem rn_of : ∀ (ds : List Dd) {L : List Th}, Nd L → (∀ n, ∃ r, runs (getT L n) (ds.filter fun x => decide (x.nm = n)) = some r) → Rn L ds ∧ Nd (fin L ds) ∧ ∀ n, runs (getT L n) (ds.filter fun x => decide (x.nm = n)) = some (getT (fin L ds) n)
  | [], L, nd, _ => ⟨trivial, nd, fun _ => rfl⟩
  | x :: ds, L, nd, h => by
    obtain ⟨r, hr⟩ := h x.nm
    rw [List.filter_cons, if_pos (by simp)] at hr
    have hr' : ((st1 (getT L x.nm) x).bind fun o' => runs o' (ds.filter fun y => decide (y.nm = x.nm))) = some r := hr
    cases q : st1 (getT L x.nm) x with
    | none => rw [q] at hr'; cases hr'
    | some o =>
      obtain ⟨M, h1, h2, h3, h4⟩ := aft_st1 nd q
      have key : ∀ n, runs (getT L n) ((x :: ds).filter fun y => decide (y.nm = n)) = runs (getT M n) (ds.filter fun y => decide (y.nm = n)) := fun n => by
        rw [List.filter_cons]
        by_cases e : x.nm = n
        · subst e
          rw [if_pos (by simp)]
          show ((st1 (getT L x.nm) x).bind fun o' => runs o' _) = _
          rw [q, h3]
          rfl
        · rw [if_neg (by simp [e]), h4 n (fun z => e z.symm)]
      obtain ⟨i1, i2, i3⟩ := rn_of ds h2 fun n => by
        obtain ⟨r, hr⟩ := h n
        exact ⟨r, by rw [← key]; exact hr⟩
      have ef : fin L (x :: ds) = fin M ds := by
        show (match aft L x with | .inr M => fin M ds | .inl _ => L) = _
        rw [h1]
      exact ⟨⟨M, h1, i1⟩, by rw [ef]; exact i2, fun n => by rw [key, ef]; exact i3 n⟩
theorem aftAll_len : ∀ (ds : List Dd) {L : List Th}, Rn L ds → (aftAll L ds).length = ds.length
  | [], _, _ => rfl
  | x :: ds, L, ⟨M, h1, h2⟩ => by
    show (match aft L x with | .inr M => M :: aftAll M ds | .inl _ => []).length = _
    rw [h1]
    show (aftAll M ds).length + 1 = _
    rw [aftAll_len ds h2]
    rfl
theorem aftAll_app : ∀ (a b : List Dd) {L : List Th}, Rn L (a ++ b) → Rn L a ∧ Rn (fin L a) b ∧ aftAll L (a ++ b) = aftAll L a ++ aftAll (fin L a) b ∧ fin L (a ++ b) = fin (fin L a) b
  | [], b, L, h => ⟨trivial, h, rfl, rfl⟩
  | x :: a, b, L, ⟨M, h1, h2⟩ => by
    obtain ⟨i1, i2, i3, i4⟩ := aftAll_app a b h2
    have ef : fin L (x :: a) = fin M a := by
      show (match aft L x with | .inr M => fin M a | .inl _ => L) = _
      rw [h1]
    have ef2 : fin L (x :: (a ++ b)) = fin M (a ++ b) := by
      show (match aft L x with | .inr M => fin M (a ++ b) | .inl _ => L) = _
      rw [h1]
    refine ⟨⟨M, h1, i1⟩, by rw [ef]; exact i2, ?_, by rw [List.cons_append, ef2, ef]; exact i4⟩
    show (match aft L x with | .inr M => M :: aftAll M (a ++ b) | .inl _ => []) = (match aft L x with | .inr M => M :: aftAll M a | .inl _ => []) ++ _
    rw [h1, ef]
    show M :: aftAll M (a ++ b) = M :: aftAll M a ++ _
    rw [i3]
    rfl
theorem aftAll_last : ∀ (ds : List Dd) {L : List Th}, Rn L ds → (L :: aftAll L ds).getLast? = some (fin L ds)
  | [], _, _ => rfl
  | x :: ds, L, ⟨M, h1, h2⟩ => by
    have i := aftAll_last ds h2
    have ea : aftAll L (x :: ds) = M :: aftAll M ds := by
      show (match aft L x with | .inr M => M :: aftAll M ds | .inl _ => []) = _
      rw [h1]
    have ef : fin L (x :: ds) = fin M ds := by
      show (match aft L x with | .inr M => fin M ds | .inl _ => L) = _
      rw [h1]
    rw [ea, ef, List.getLast?_cons_cons]
    exact i
/-- what a ledger may stand at here -/
structure Ge (k : Nat) (L : List Th) : Prop where
  l : L.length ≤ k
  e : ∀ n t, getT L n = some t → 0 ≤ t.e
theorem Ge.aft {k : Nat} {L M : List Th} (g : Ge k L) (nd : Nd L) {x : Dd} (h : aft L x = .inr M) : Ge (k + 1) M ∧ Nd M := by
  have pt : ∀ t : Th, 0 ≤ t.e → Ge (k + 1) (putT L t) ∧ Nd (putT L t) := fun t ht => ⟨⟨Nat.le_trans (put_len L t) (Nat.succ_le_succ g.l), fun n u hu => by
    rw [get_put nd] at hu
    split at hu
    · cases hu; exact ht
    · exact g.e n u hu⟩, nd.put t⟩
  cases x with
  | be n d f =>
    have h' : (if hasT L n = true then Sum.inl 12 else if (decide (d ≤ f) && decide (f < d + 999)) = true then .inr (putT L ⟨n, d, f, none, 0⟩) else .inl 13) = Sum.inr M := h
    split at h'
    · cases h'
    · split at h'
      · cases h'; exact pt _ (Int.le_refl 0)
      · cases h'
  | se n d =>
    cases q : getT L n with
    | none => unfold Lw.aft at h; simp [q] at h
    | some t =>
      unfold Lw.aft at h
      dsimp only at h
      rw [q] at h
      dsimp only at h
      split at h
      · split at h
        · cases h
        · cases h; exact pt _ (Int.le_refl 0)
      · cases h
  | en n d k =>
    cases q : getT L n with
    | none => unfold Lw.aft at h; simp [q] at h
    | some t =>
      unfold Lw.aft at h
      dsimp only at h
      rw [q] at h
      dsimp only at h
      split at h
      · split at h
        · rename_i c
          simp only [Bool.and_eq_true, decide_eq_true_eq] at c
          split at h
          · cases h
          · cases h; exact pt _ (show (0 : Int) ≤ k by omega)
        · cases h
      · cases h
  | me n d k =>
    cases q : getT L n with
    | none => unfold Lw.aft at h; simp [q] at h
    | some t =>
      unfold Lw.aft at h
      dsimp only at h
      rw [q] at h
      dsimp only at h
      split at h
      · split at h
        · rename_i c
          simp only [Bool.and_eq_true, decide_eq_true_eq] at c
          cases h; exact pt _ c.1
        · cases h
      · cases h
  | dr n =>
    cases q : getT L n with
    | none => unfold Lw.aft at h; simp [q] at h
    | some t =>
      unfold Lw.aft at h
      dsimp only at h
      rw [q] at h
      cases h
      refine ⟨⟨Nat.le_succ_of_le (Nat.le_trans (List.length_filter_le ..) g.l), fun m u hu => ?_⟩, nd.drop n⟩
      rw [get_drop] at hu
      split at hu
      · cases hu
      · exact g.e m u hu
  | un => cases h
theorem Ge.fin : ∀ (ds : List Dd) {k : Nat} {L : List Th}, Ge k L → Nd L → Rn L ds → Ge (k + ds.length) (fin L ds) ∧ Nd (Lw.fin L ds)
  | [], _, _, g, nd, _ => ⟨g, nd⟩
  | x :: ds, k, L, g, nd, ⟨M, h1, h2⟩ => by
    obtain ⟨g1, n1⟩ := g.aft nd h1
    have i := Ge.fin ds g1 n1 h2
    have ef : Lw.fin L (x :: ds) = Lw.fin M ds := by
      show (match Lw.aft L x with | .inr M => Lw.fin M ds | .inl _ => L) = _
      rw [h1]
    rw [ef, List.length_cons, Nat.add_comm ds.length 1, ← Nat.add_assoc]
    exact i
section
variable {ts : List PyData} {W : List (List Th)} {L M : List Th}
theorem tell_ok (hW : W.getLast? = some L) (l1 : ts.length < 90000) (l2 : W.length < 90000) {k : Nat} (g : Ge k L) (hk : k < 90000) {x : Dd} (hx : x.Ok) (h : aft L x = .inr M) :
    sem__law_tell [LD ts W, .dat x.v] = some (.ok (.dat .none) [some (LD (ts ++ [x.v]) (W ++ [M])), (some (R.dat (x.v)))]) := by
  have l3 : L.length < 100000 := by have := g.l; omega
  have l1 : ts.length < 100000 := by omega
  have l2 : W.length < 100000 := by omega
  rw [run__law_tell]
  unfold m__law_tell
  cases x with
  | be n d f =>
    obtain ⟨x1, x2, x3, x4, x5⟩ := hx
    have h' : (if hasT L n = true then Sum.inl 12 else if (decide (d ≤ f) && decide (f < d + 999)) = true then .inr (putT L ⟨n, d, f, none, 0⟩) else .inl 13) = Sum.inr M := h
    split at h'
    · cases h'
    · rename_i c1
      split at h'
      · rename_i c2
        simp only [Bool.and_eq_true, decide_eq_true_eq] at c2
        cases h'
        have b := begin_is (ts := ts) hW l1 l2 l3 x1 (by simpa using c1) x2 x3 x5 c2.1 c2.2 (.inr rfl)
        unfold LD at *
        simp only [List.map_append, List.map_cons, List.map_nil] at b
        simp [Dd.v, at_0, at_1, at_2, at_3, w_begin_seen, w_begin_ended, w_begin_mend, w_begin_drop, w_begin_undo, b, outs_2, pr__law_tell]
      · cases h'
  | se n d =>
    obtain ⟨x1, x2, x3⟩ := hx
    unfold Lw.aft at h
    dsimp only at h
    cases q : getT L n with
    | none => rw [q] at h; cases h
    | some t =>
      rw [q] at h
      dsimp only at h
      split at h
      · rename_i c1
        split at h
        · cases h
        · rename_i c2
          cases h
          obtain ⟨d1, d2⟩ := day_ok c1
          have te := g.e n t q
          simp only [Bool.or_eq_true, decide_eq_true_eq, not_or] at c2
          have b := seen_is (ts := ts) hW l1 l2 l3 x1 q x2 x3 d1 d2 (by omega) (fun l hl => by
            have := c2.2
            rw [hl] at this
            simp [lge] at this
            omega)
          unfold LD at *
          simp only [List.map_append, List.map_cons, List.map_nil] at b
          simp [Dd.v, at_0, at_1, at_2, at_3, w_seen_begin, w_seen_ended, w_seen_mend, w_seen_drop, w_seen_undo, b, outs_2, pr__law_tell]
      · cases h
  | en n d k =>
    obtain ⟨x1, x2, x3⟩ := hx
    unfold Lw.aft at h
    dsimp only at h
    cases q : getT L n with
    | none => rw [q] at h; cases h
    | some t =>
      rw [q] at h
      dsimp only at h
      split at h
      · rename_i c1
        split at h
        · rename_i c3
          simp only [Bool.and_eq_true, decide_eq_true_eq] at c3
          split at h
          · cases h
          · rename_i c2
            cases h
            obtain ⟨d1, d2⟩ := day_ok c1
            have te := g.e n t q
            simp only [Bool.or_eq_true, decide_eq_true_eq, not_or] at c2
            have b := ended_is (ts := ts) hW l1 l2 l3 x1 q x2 x3 d1 d2 c3.1 c3.2 (by omega) (fun l hl => by
              have := c2.2
              rw [hl] at this
              simp [lgt] at this
              omega)
            unfold LD at *
            simp only [List.map_append, List.map_cons, List.map_nil] at b
            simp [Dd.v, at_0, at_1, at_2, at_3, w_ended_begin, w_ended_seen, w_ended_mend, w_ended_drop, w_ended_undo, b, outs_2, pr__law_tell]
        · cases h
      · cases h
  | me n d k =>
    obtain ⟨x1, x2, x3⟩ := hx
    unfold Lw.aft at h
    dsimp only at h
    cases q : getT L n with
    | none => rw [q] at h; cases h
    | some t =>
      rw [q] at h
      dsimp only at h
      split at h
      · rename_i c1
        split at h
        · rename_i c3
          simp only [Bool.and_eq_true, decide_eq_true_eq] at c3
          cases h
          obtain ⟨d1, d2⟩ := day_ok c1
          have b := mend_is (ts := ts) hW l1 l2 l3 x1 q x2 x3 d1 d2 c3.1 c3.2
          unfold LD at *
          simp only [List.map_append, List.map_cons, List.map_nil] at b
          simp [Dd.v, at_0, at_1, at_2, at_3, w_mend_begin, w_mend_seen, w_mend_ended, w_mend_drop, w_mend_undo, b, outs_2, pr__law_tell]
        · cases h
      · cases h
  | dr n =>
    unfold Lw.aft at h
    dsimp only at h
    cases q : getT L n with
    | none => rw [q] at h; cases h
    | some t =>
      rw [q] at h
      cases h
      have b := drop_is (ts := ts) hW l1 l2 hx q
      unfold LD at *
      simp only [List.map_append, List.map_cons, List.map_nil] at b
      simp [Dd.v, at_0, at_1, at_2, at_3, w_drop_begin, w_drop_seen, w_drop_ended, w_drop_mend, w_drop_undo, b, outs_2, pr__law_tell]
  | un => cases h
end
/-- a ledger told deeds from the start -/
abbrev WL (ds : List Dd) : List (List Th) := [] :: aftAll [] ds
abbrev LDs (ds : List Dd) : R := LD (ds.map Dd.v) (WL ds)
/-- deeds that are let from the start -/
structure Lt (ds : List Dd) : Prop where
  r : Rn [] ds
  ok : ∀ x ∈ ds, x.Ok
  l : ds.length ≤ 50
theorem ge0 : Ge 0 [] := ⟨Nat.le_refl _, fun _ _ h => by cases h⟩
theorem nd0 : Nd ([] : List Th) := List.nodup_nil
theorem Lt.pre {a b : List Dd} (h : Lt (a ++ b)) : Lt a := ⟨(aftAll_app a b h.r).1, fun x hx => h.ok x (List.mem_append_left _ hx), by have := h.l; rw [List.length_append] at this; omega⟩
theorem Lt.one {ds : List Dd} {x : Dd} (h : Lt (ds ++ [x])) : sem__law_tell [LDs ds, .dat x.v] = some (.ok (.dat .none) [some (LDs (ds ++ [x])), (some (R.dat (x.v)))]) := by
  obtain ⟨a1, ⟨M, a2, _⟩, a3, _⟩ := aftAll_app ds [x] h.r
  have hl := h.l
  rw [List.length_append, List.length_singleton] at hl
  have al := aftAll_len ds a1
  have e : aftAll (fin [] ds) [x] = [M] := by
    show (match aft (fin [] ds) x with | .inr M => M :: aftAll M [] | .inl _ => []) = _
    rw [a2]
    rfl
  rw [e] at a3
  have t := tell_ok (ts := ds.map Dd.v) (aftAll_last ds a1) (by rw [List.length_map]; omega) (by rw [List.length_cons, al]; omega) (Ge.fin ds ge0 nd0 a1).1 (by omega) (h.ok x (by simp)) a2
  rw [t]
  show some (Oe.ok (R.dat .none) [some (LD (ds.map Dd.v ++ [x.v]) (([] :: aftAll [] ds) ++ [M])), _]) = some (Oe.ok (R.dat .none) [some (LD ((ds ++ [x]).map Dd.v) ([] :: aftAll [] (ds ++ [x]))), _])
  rw [a3, List.map_append]
  rfl
theorem ledgerof_is {ds : List Dd} (h : Lt ds) {o : R} (ho : o = .dat (.list (ds.map Dd.v)) ∨ o = .own (.list (ds.map Dd.v))) : sem__law_ledger_of [o] = some (.ok (LDs ds) [(some (R.dat (.list (ds.map Dd.v))))]) := by
  rw [run__law_ledger_of]
  unfold m__law_ledger_of
  obtain ⟨ρ', e, e2, rfl⟩ := forL_st (g := gnM 2) (body := fb1__law_ledger_of) Dd.v (fun (A : List Dd) ρ => ∃ e2, ρ = [(some (R.dat (.list (ds.map Dd.v)))), some (LDs A), e2]) (fun A t => A ++ [t]) [] ds [(some (R.dat (.list (ds.map Dd.v)))), some (LDs []), none]
    ⟨none, rfl⟩ (by
      rintro pre x post ρ hL ⟨e2, rfl⟩
      rw [foldl_snoc0]
      have t := Lt.one (ds := pre) (x := x) (Lt.pre (b := post) (by rw [List.append_assoc]; rw [hL] at h; exact h))
      refine ⟨[(some (R.dat (.list (ds.map Dd.v)))), some (LDs (pre ++ [x])), (some (R.dat (x.v)))], ?_, _, rfl⟩
      generalize ds.map Dd.v = dv
      unfold LDs LD at t ⊢
      generalize (WL pre).map thsD = s1 at *
      generalize (WL (pre ++ [x])).map thsD = s2 at *
      generalize pre.map Dd.v = t1 at *
      generalize (pre ++ [x]).map Dd.v = t2 at *
      unfold fb1__law_ledger_of
      simp [t])
  rw [foldl_snoc0] at e
  have e0 : LDs [] = LD [] [[]] := rfl
  rw [e0] at e
  unfold LDs LD at e ⊢
  generalize (WL ds).map thsD = s2 at *
  generalize ds.map Dd.v = t2 at *
  have t0 : ([[]] : List (List Th)).map thsD = [.dict []] := rfl
  rw [t0] at e
  rcases ho with rfl | rfl <;> simp [e, outs_1, pr__law_ledger_of]
theorem bk_ext {L M : List Th} (nL : Nd L) (nM : Nd M) (h : ∀ n, getT L n = getT M n) : bkL L = bkL M ∧ sortSt (L.map Th.nm) = sortSt (M.map Th.nm) := by
  have hm : ∀ n, n ∈ L.map Th.nm ↔ n ∈ M.map Th.nm := fun n => by rw [← has_iff, ← has_iff, hasT_get, hasT_get, h n]
  have pm : (L.map Th.nm).Perm (M.map Th.nm) := (List.perm_ext_iff_of_nodup nL nM).mpr hm
  have es : sortSt (L.map Th.nm) = sortSt (M.map Th.nm) := sortSt_uniq (((sortSt_perm _).trans pm).trans (sortSt_perm _).symm) (sortSt_pw _) (sortSt_pw _)
  refine ⟨?_, es⟩
  unfold bkL
  rw [es]
  congr 1
  funext n
  rw [h n]
inductive Wov (ns : List Str) : (Str → List Dd) → List Dd → Prop where
  | nil {G : Str → List Dd} : (∀ n ∈ ns, G n = []) → Wov ns G []
  | cons {G : Str → List Dd} {n : Str} {x : Dd} {r ds : List Dd} : n ∈ ns → G n = x :: r → Wov ns (fun m => if m = n then r else G m) ds → Wov ns G (x :: ds)
theorem wov_filter {ns : List Str} : ∀ {G : Str → List Dd} {ds : List Dd}, (∀ n ∈ ns, ∀ x ∈ G n, x.nm = n) → Wov ns G ds → ∀ n, (ds.filter fun x => decide (x.nm = n)) = if n ∈ ns then G n else []
  | G, _, _, .nil h, n => by
    by_cases c : n ∈ ns
    · rw [if_pos c, h n c]; rfl
    · rw [if_neg c]; rfl
  | G, _, hn, .cons (n := m) (x := x) (r := r) (ds := ds) hm hR hw, n => by
    have xm : x.nm = m := hn m hm x (by rw [hR]; exact List.mem_cons_self)
    have ih := wov_filter (G := fun k => if k = m then r else G k) (fun k hk y hy => by
      by_cases e : k = m
      · subst e
        rw [if_pos rfl] at hy
        exact hn k hk y (by rw [hR]; exact List.mem_cons_of_mem _ hy)
      · rw [if_neg e] at hy
        exact hn k hk y hy) hw n
    rw [List.filter_cons, ih]
    by_cases e : n = m
    · subst e
      rw [if_pos (by simp [xm]), if_pos hm, if_pos hm, hR]
      simp
    · rw [if_neg (by simp [xm]; exact fun z => e z.symm)]
      by_cases c : n ∈ ns
      · rw [if_pos c, if_pos c, if_neg e]
      · rw [if_neg c, if_neg c]
theorem wov_mem {ns : List Str} : ∀ {G : Str → List Dd} {ds : List Dd}, Wov ns G ds → ∀ x ∈ ds, ∃ n ∈ ns, x ∈ G n
  | G, _, .nil _, x, hx => by cases hx
  | G, _, .cons (n := m) hm hR hw, x, hx => by
    rcases List.mem_cons.mp hx with rfl | hx
    · exact ⟨m, hm, by rw [hR]; exact List.mem_cons_self⟩
    · obtain ⟨n, h1, h2⟩ := wov_mem hw x hx
      refine ⟨n, h1, ?_⟩
      by_cases e : n = m
      · subst e; rw [if_pos rfl] at h2; rw [hR]; exact List.mem_cons_of_mem _ h2
      · rw [if_neg e] at h2; exact h2
def rowD (r : List Dd) : List PyData := r.map Dd.v
def totR (ns : List Str) (G : Str → List Dd) : Nat := (ns.map fun n => (G n).length).sum
theorem tot_zero {ns : List Str} {G : Str → List Dd} : wvN (ns.map fun n => rowD (G n)) = 0 → ∀ n ∈ ns, G n = [] := by
  induction ns with
  | nil => intro _ n hn; cases hn
  | cons a r ih =>
    intro h n hn
    cases q : G a with
    | nil =>
      rw [List.map_cons, q] at h
      rcases List.mem_cons.mp hn with rfl | hn
      · exact q
      · exact ih h n hn
    | cons x xs =>
      rw [List.map_cons, q] at h
      cases h
theorem pop_row {ns : List Str} {G : Str → List Dd} (nd : ns.Nodup) : ∀ k, k < wvN (ns.map fun n => rowD (G n)) → ∃ n x r, n ∈ ns ∧ G n = x :: r ∧ wvPop (ns.map fun n => rowD (G n)) k = some (x.v, ns.map fun m => rowD (if m = n then r else G m)) := by
  induction ns with
  | nil => intro k h; cases h
  | cons a r ih =>
    intro k h
    rw [List.nodup_cons] at nd
    have oth : ∀ t, (r.map fun m => rowD (if m = a then t else G m)) = r.map fun m => rowD (G m) := fun t => List.map_congr_left fun m hm => by rw [if_neg (fun e : m = a => nd.1 (by rw [← e]; exact hm))]
    rw [List.map_cons] at h ⊢
    cases q : G a with
    | nil =>
      rw [q] at h
      obtain ⟨n, x, t, h1, h2, h3⟩ := ih nd.2 k h
      have na : a ≠ n := fun e => nd.1 (e ▸ h1)
      refine ⟨n, x, t, List.mem_cons_of_mem _ h1, h2, ?_⟩
      show (wvPop (r.map fun n => rowD (G n)) k).map _ = _
      rw [h3, List.map_cons, if_neg na, q]
      rfl
    | cons y ys =>
      rw [q] at h
      cases k with
      | zero =>
        refine ⟨a, y, ys, List.mem_cons_self, q, ?_⟩
        rw [List.map_cons, if_pos rfl, oth ys]
        rfl
      | succ k =>
        obtain ⟨n, x, t, h1, h2, h3⟩ := ih nd.2 k (Nat.lt_of_succ_lt_succ h)
        have na : a ≠ n := fun e => nd.1 (e ▸ h1)
        refine ⟨n, x, t, List.mem_cons_of_mem _ h1, h2, ?_⟩
        show (wvPop (r.map fun n => rowD (G n)) k).map _ = _
        rw [h3, List.map_cons, if_neg na, q]
        rfl
theorem tot_pop {n : Str} {x : Dd} {r : List Dd} {G : Str → List Dd} : ∀ {ns : List Str}, ns.Nodup → n ∈ ns → G n = x :: r → totR ns (fun m => if m = n then r else G m) + 1 = totR ns G
  | [], _, h, _ => by cases h
  | a :: as, nd, h, e => by
    rw [List.nodup_cons] at nd
    unfold totR at *
    rw [List.map_cons, List.map_cons, List.sum_cons, List.sum_cons]
    dsimp only
    by_cases c : a = n
    · subst c
      rw [if_pos rfl, e, List.length_cons]
      have : (as.map fun m => (if m = a then r else G m).length) = as.map fun m => (G m).length := List.map_congr_left fun m hm => by rw [if_neg (fun z : m = a => nd.1 (by rw [← z]; exact hm))]
      rw [this]
      omega
    · rw [if_neg c]
      have := tot_pop nd.2 ((List.mem_cons.mp h).resolve_left (fun z => c z.symm)) e
      unfold totR at this
      dsimp only at this
      omega
theorem wov_len {ns : List Str} (nd : ns.Nodup) : ∀ {G : Str → List Dd} {ds : List Dd}, Wov ns G ds → ds.length = totR ns G
  | G, _, .nil h => by
    unfold totR
    rw [List.map_congr_left (g := fun _ => 0) fun n hn => by rw [h n hn]; rfl]
    induction ns with
    | nil => rfl
    | cons a r ih => rw [List.nodup_cons] at nd; rw [List.map_cons, List.sum_cons, ← ih nd.2 fun n hn => h n (List.mem_cons_of_mem _ hn)]; rfl
  | G, _, .cons hm hR hw => by
    rw [List.length_cons, wov_len nd hw]
    exact tot_pop nd hm hR
theorem eqb_row {r : List Dd} (h : ∀ x ∈ r, Eqb 1 x.v) : Eqb 2 (.list (rowD r)) := Eqb.list (m := 1) fun d hd => by
  obtain ⟨x, hx, rfl⟩ := List.mem_map.mp hd
  exact h x hx
theorem sel_rows {ns : List Str} {G : Str → List Dd} : ∀ d ∈ (wvSel (ns.map fun n => rowD (G n))), ∃ n ∈ ns, d = rowD (G n) := by
  induction ns with
  | nil => intro d h; cases h
  | cons a r ih =>
    intro d h
    rw [List.map_cons] at h
    cases q : G a with
    | nil =>
      rw [q] at h
      obtain ⟨n, h1, h2⟩ := ih d h
      exact ⟨n, List.mem_cons_of_mem _ h1, h2⟩
    | cons x xs =>
      rw [q] at h
      rcases List.mem_cons.mp h with rfl | h
      · exact ⟨a, List.mem_cons_self, by rw [q]; rfl⟩
      · obtain ⟨n, h1, h2⟩ := ih d h
        exact ⟨n, List.mem_cons_of_mem _ h1, h2⟩
theorem ok_rows {ns : List Str} {G : Str → List Dd} (hl : ns.length ≤ 6) (h : ∀ n ∈ ns, ∀ x ∈ G n, Eqb 1 x.v) : okRows (ns.map fun n => rowD (G n)) = true := by
  have e2 : ∀ n ∈ ns, Eqb 2 (.list (rowD (G n))) := fun n hn => eqb_row (h n hn)
  unfold okRows
  rw [Bool.and_eq_true, Bool.and_eq_true]
  refine ⟨⟨decide_eq_true ?_, ?_⟩, ?_⟩
  · rw [List.length_map]
    have : (6 : Nat) ≤ lim := by decide
    omega
  · rw [List.all_eq_true]
    intro d hd
    obtain ⟨n, hn, rfl⟩ := List.mem_map.mp hd
    exact (e2 n hn).shaped (by decide)
  · refine (Eqb.list (m := 2) fun d hd => ?_).shaped (by decide)
    obtain ⟨r, hr, rfl⟩ := List.mem_map.mp hd
    obtain ⟨n, hn, rfl⟩ := sel_rows r hr
    exact e2 n hn
theorem wvTk_is {p : PyData} (hp : Pot p) {k : Nat} (h0 : 0 < k) (h6 : k ≤ 1000) (s1 s2 s3 s4 s5 s6 : Option R) : ∃ v p', wvTk sem__law_take 0 k [(some (R.own (p))), s1, s2, s3, s4, s5, s6] = some (.ok (.dat (.int v)) [(some (R.own (p'))), s1, s2, s3, s4, s5, s6]) ∧ 0 ≤ v ∧ v < k ∧ Pot p' := by
  obtain ⟨v, p', e, l, g, o⟩ := take_is hp (b := (k : Int)) (by omega) (by omega)
  refine ⟨v, p', ?_, l, g, o⟩
  unfold wvTk
  simp [e]
theorem wvL_is {ns : List Str} (nd : ns.Nodup) (hl : ns.length ≤ 6) (s1 s5 : Option R) : ∀ (t : Nat) (G : Str → List Dd) (p : PyData) (acc : List Dd), totR ns G < t → acc.length + totR ns G ≤ 1000 → Pot p → (∀ n ∈ ns, ∀ x ∈ G n, Eqb 1 x.v) →
    ∃ p' ds, wvL sem__law_take 0 2 3 4 t (ns.map fun n => rowD (G n)) [(some (R.own (p))), s1, none, (some (R.own (.list (acc.map Dd.v)))), none, s5, none] = some (.nx [(some (R.own (p'))), s1, none, (some (R.own (.list ((acc ++ ds).map Dd.v)))), none, s5, none]) ∧ Pot p' ∧ Wov ns G ds
  | 0, _, _, _, h, _, _, _ => absurd h (Nat.not_lt_zero _)
  | t + 1, G, p, acc, ht, ha, hp, he => by
    have ok := ok_rows hl he
    by_cases c : wvN (ns.map fun n => rowD (G n)) = 0
    · refine ⟨p, [], ?_, hp, .nil (tot_zero c)⟩
      unfold wvL
      rw [List.append_nil]
      simp [ok, c, isHo, isList]
    · have wl : ∀ dss : List (List PyData), wvN dss ≤ dss.length := fun dss => by
        rw [← wvSel_len]
        induction dss with
        | nil => exact Nat.le_refl _
        | cons x xs ih => cases x with
          | nil => exact Nat.le_succ_of_le ih
          | cons _ _ => exact Nat.succ_le_succ ih
      have w6 := wl (ns.map fun n => rowD (G n))
      rw [List.length_map] at w6
      obtain ⟨v, p1, e1, v0, v1, o1⟩ := wvTk_is hp (k := wvN (ns.map fun n => rowD (G n))) (by omega) (by omega) s1 none (some (.own (.list (acc.map Dd.v)))) none s5 none
      obtain ⟨n, x, r, hn, hR, hpop⟩ := pop_row (G := G) nd v.toNat (by omega)
      have tp := tot_pop nd hn hR
      obtain ⟨p2, ds, e2, o2, w2⟩ := wvL_is nd hl s1 s5 t (fun m => if m = n then r else G m) p1 (acc ++ [x]) (by omega) (by rw [List.length_append, List.length_singleton]; omega) o1 fun m hm y hy => by
        by_cases e : m = n
        · subst e
          rw [if_pos rfl] at hy
          exact he m hm y (by rw [hR]; exact List.mem_cons_of_mem _ hy)
        · rw [if_neg e] at hy
          exact he m hm y hy
      refine ⟨p2, x :: ds, ?_, o2, .cons hn hR w2⟩
      have la : (acc.map Dd.v).length < lim := by
        rw [List.length_map]
        have : (1000 : Nat) < lim := by decide
        omega
      rw [List.append_assoc, List.map_append, List.map_singleton] at e2
      unfold wvL
      generalize (ns.map fun n => rowD (G n)) = rows at *
      generalize acc.map Dd.v = av at *
      simp only [isHo, isList, ok, List.getElem?_cons_succ, List.getElem?_cons_zero, Bool.and_self, if_true, if_neg c, e1, v0, hpop, la]
      exact e2
theorem lco_rows (p : PyData) (ls : PyData) : ∀ (rows acc : List (List PyData)), acc.length + rows.length ≤ 1000 → (∀ r ∈ rows, r.length ≤ 1000) →
    lcoL (gnM 5) [5] ce1__law_woven (rows.map PyData.list) [(some (R.own (p))), (some (R.dat (ls))), none, none, none, none, none] acc = some (.ok (acc ++ rows) [(some (R.own (p))), (some (R.dat (ls))), none, none, none, none, none])
  | [], acc, _, _ => by rw [List.append_nil]; rfl
  | r :: rows, acc, h, hr => by
    have ih := lco_rows p ls rows (acc ++ [r]) (by rw [List.length_append, List.length_singleton]; rw [List.length_cons] at h; omega) fun x hx => hr x (List.mem_cons_of_mem _ hx)
    have r1 := hr r List.mem_cons_self
    have la : acc.length < lim := by
      have : (1000 : Nat) < lim := by decide
      rw [List.length_cons] at h
      omega
    have lr : r.length ≤ 100000 := by omega
    have c : ce1__law_woven [(some (R.own (p))), (some (R.dat (ls))), none, none, none, (some (R.dat (.list r))), none] = some (.ok (.own (.list r)) [(some (R.own (p))), (some (R.dat (ls))), none, none, none, (some (R.dat (.list r))), none]) := by
      unfold ce1__law_woven
      simp [lr]
    rw [List.map_cons]
    show (match some ([(some (R.own (p))), (some (R.dat (ls))), none, none, none, (some (R.dat (.list r))), none] : Rho) with
      | none => none
      | some ρ1 => bindN (ce1__law_woven ρ1) fun r ρ2 => match r with
        | .own (.list ds) => if acc.length < lim then lcoL (gnM 5) [5] ce1__law_woven (rows.map PyData.list) (wipeR ρ2 [5]) (acc ++ [ds]) else none
        | _ => none) = _
    dsimp only
    rw [c, bindN_ok]
    dsimp only
    rw [if_pos la]
    rw [List.append_assoc] at ih
    exact ih
theorem le_tot {G : Str → List Dd} {n : Str} : ∀ {ns : List Str}, n ∈ ns → (G n).length ≤ totR ns G
  | [], h => by cases h
  | a :: r, h => by
    have e : totR (a :: r) G = (G a).length + totR r G := rfl
    rcases List.mem_cons.mp h with rfl | h
    · omega
    · have := le_tot (G := G) h
      omega
theorem woven_is {ns : List Str} (nd : ns.Nodup) (hl : ns.length ≤ 6) {p : PyData} (hp : Pot p) {G : Str → List Dd} (he : ∀ n ∈ ns, ∀ x ∈ G n, Eqb 1 x.v) (ht : totR ns G ≤ 60) :
    ∃ p' ds, sem__law_woven [.own p, .dat (.list (ns.map fun n => .list (rowD (G n))))] = some (.ok (.own (.list (ds.map Dd.v))) [(some (R.own (p'))), (some (R.dat (.list (ns.map fun n => .list (rowD (G n))))))]) ∧ Pot p' ∧ Wov ns G ds := by
  have rl : ∀ n ∈ ns, (G n).length ≤ 60 := fun n hn => by
    have := le_tot (G := G) hn
    omega
  have lc := lco_rows p (.list (ns.map fun n => .list (rowD (G n)))) (ns.map fun n => rowD (G n)) [] (by rw [List.length_nil, List.length_map]; omega) fun r hr => by
    obtain ⟨n, hn, rfl⟩ := List.mem_map.mp hr
    unfold rowD
    rw [List.length_map]
    have := rl n hn
    omega
  have tt : ((ns.map fun n => rowD (G n)).map List.length).sum = totR ns G := by
    unfold totR
    rw [List.map_map]
    congr 1
    refine List.map_congr_left fun n _ => ?_
    show (rowD (G n)).length = _
    unfold rowD
    rw [List.length_map]
  obtain ⟨p', ds, e, o, w⟩ := wvL_is nd hl ((some (R.dat (.list (ns.map fun n => .list (rowD (G n))))))) none (totR ns G + 1) G p [] (Nat.lt_succ_self _) (by rw [List.length_nil]; omega) hp he
  refine ⟨p', ds, ?_, o, w⟩
  rw [run__law_woven]
  unfold m__law_woven wvM
  rw [List.map_map] at lc
  have em : ns.map (PyData.list ∘ fun n => rowD (G n)) = ns.map fun n => .list (rowD (G n)) := rfl
  rw [em] at lc
  have im : lcoM (iM (nmM 1)) (gnM 5) [5] ce1__law_woven [some (.own p), (some (R.dat (.list (ns.map fun n => .list (rowD (G n)))))), none, none, none, none, none] = some (.ok (ns.map fun n => rowD (G n)) [(some (R.own (p))), (some (R.dat (.list (ns.map fun n => .list (rowD (G n)))))), none, none, none, none, none]) := by
    unfold lcoM
    generalize (ns.map fun n => PyData.list (rowD (G n))) = LL at *
    generalize (ns.map fun n => rowD (G n)) = MM at *
    simp [lc]
  rw [List.nil_append, List.map_nil] at e
  generalize (ns.map fun n => PyData.list (rowD (G n))) = LL at *
  generalize (ns.map fun n => rowD (G n)) = MM at *
  generalize ds.map Dd.v = dv at *
  simp [im, isHo, tt, e, outs_2, pr__law_woven]
structure TrOk (t : Th) (l : Int) : Prop where
  el : t.l = some l
  b0 : 0 ≤ t.b
  b1 : t.b < 40
  f0 : t.b ≤ t.f
  f1 : t.f ≤ t.b + 4
  l0 : t.f + 6 ≤ l
  l1 : l ≤ t.f + 25
  e0 : 0 ≤ t.e
  e1 : t.e ≤ 4
theorem at_z2 (a b : PyData) : atI [a, b] 0 = some a := rfl
theorem at_o2 (a b : PyData) : atI [a, b] 1 = some b := rfl
theorem truth_turn {p : PyData} (hp : Pot p) (S : List Th) (hS : S.length ≤ 6) (n : Str) (e3 e4 : Option R) : ∃ p' t l e3' e4', fb1__law_truths [(some (R.own (p))), (some (R.own (thsD S))), (some (R.dat (.str n))), e3, e4] = some (.nx [(some (R.own (p'))), (some (R.own (thsD (putT S t)))), (some (R.dat (.str n))), e3', e4']) ∧ Pot p' ∧ t.nm = n ∧ TrOk t l := by
  obtain ⟨v1, p1, t1, a1, b1, o1⟩ := take_is hp (b := 40) (by omega) (by omega)
  obtain ⟨v2, p2, t2, a2, b2, o2⟩ := take_is o1 (b := 5) (by omega) (by omega)
  obtain ⟨v3, p3, t3, a3, b3, o3⟩ := take_is o2 (b := 2) (by omega) (by omega)
  obtain ⟨v4, p4, t4, a4, b4, o4⟩ := take_is o3 (b := 20) (by omega) (by omega)
  obtain ⟨v5, p5, t5, a5, b5, o5⟩ := take_is o4 (b := 5) (by omega) (by omega)
  have st := fun (t : Th) (ρ : Rho) => setKR_ths (s := 1) (L := S) (by omega) t ρ
  have l2 : (2 : Nat) ≤ lim := by decide
  have l4 : (4 : Nat) ≤ lim := by decide
  by_cases c : v3 = 0
  · subst c
    refine ⟨p5, ⟨n, v1, v1, some (v1 + 6 + v4), v5⟩, v1 + 6 + v4, (some (R.dat (.int v1))), (some (R.dat (.int v1))), ?_, o5, rfl, ⟨rfl, a1, b1, Int.le_refl _, by show v1 ≤ v1 + 4; omega, by show v1 + 6 ≤ v1 + 6 + v4; omega, by show v1 + 6 + v4 ≤ v1 + 25; omega, a5, by show v5 ≤ 4; omega⟩⟩
    have s1 := st ⟨n, v1, v1, some (v1 + 6 + v4), v5⟩
    have ev : Th.v ⟨n, v1, v1, some (v1 + 6 + v4), v5⟩ = .tuple [.int v1, .int v1, .int (v1 + 6 + v4), .int v5] := rfl
    rw [ev] at s1
    unfold fb1__law_truths
    simp [t1, t2, t3, t4, t5, at_z2, l2, l4, s1]
  · have c1 : v3 = 1 := by omega
    subst c1
    refine ⟨p5, ⟨n, v1, v1 + v2, some (v1 + v2 + 6 + v4), v5⟩, v1 + v2 + 6 + v4, (some (R.dat (.int v1))), (some (R.dat (.int (v1 + v2)))), ?_, o5, rfl, ⟨rfl, a1, b1, by show v1 ≤ v1 + v2; omega, by show v1 + v2 ≤ v1 + 4; omega, by show v1 + v2 + 6 ≤ v1 + v2 + 6 + v4; omega, by show v1 + v2 + 6 + v4 ≤ v1 + v2 + 25; omega, a5, by show v5 ≤ 4; omega⟩⟩
    have s1 := st ⟨n, v1, v1 + v2, some (v1 + v2 + 6 + v4), v5⟩
    have ev : Th.v ⟨n, v1, v1 + v2, some (v1 + v2 + 6 + v4), v5⟩ = .tuple [.int v1, .int (v1 + v2), .int (v1 + v2 + 6 + v4), .int v5] := rfl
    rw [ev] at s1
    unfold fb1__law_truths
    simp [t1, t2, t3, t4, t5, at_o2, l2, l4, s1]
theorem truths_loop : ∀ (rest : List Str) (S : List Th) (p : PyData) (e2 e3 e4 : Option R), Pot p → S.length + rest.length ≤ 6 → (∀ n ∈ rest, hasT S n = false) → rest.Nodup → (∀ t ∈ S, ∃ l, TrOk t l) →
    ∃ p' S' e2' e3' e4', forL (gnM 2) fb1__law_truths (rest.map PyData.str) [(some (R.own (p))), (some (R.own (thsD S))), e2, e3, e4] = some (.nx [(some (R.own (p'))), (some (R.own (thsD S'))), e2', e3', e4']) ∧ Pot p' ∧ S'.map Th.nm = S.map Th.nm ++ rest ∧ ∀ t ∈ S', ∃ l, TrOk t l
  | [], S, p, e2, e3, e4, hp, _, _, _, hS => ⟨p, S, e2, e3, e4, rfl, hp, by rw [List.append_nil], hS⟩
  | n :: rest, S, p, e2, e3, e4, hp, hl, hn, nd, hS => by
    rw [List.length_cons] at hl
    rw [List.nodup_cons] at nd
    obtain ⟨p1, t, l, f3, f4, e, o, tn, tk⟩ := truth_turn hp S (by omega) n e3 e4
    have hp1 : putT S t = S ++ [t] := by
      unfold putT
      rw [if_neg (by rw [tn, hn n List.mem_cons_self]; decide)]
    rw [hp1] at e
    obtain ⟨p', S', g2, g3, g4, e', o', m', k'⟩ := truths_loop rest (S ++ [t]) p1 ((some (R.dat (.str n)))) f3 f4 o (by rw [List.length_append, List.length_singleton]; omega) (fun m hm => by
      have h1 := hn m (List.mem_cons_of_mem _ hm)
      have ne : t.nm ≠ m := fun z => nd.1 (by rw [← tn, z]; exact hm)
      unfold hasT at h1 ⊢
      rw [List.any_append, h1]
      simp [ne]) nd.2 fun u hu => by
      rcases List.mem_append.mp hu with hu | hu
      · exact hS u hu
      · rw [List.mem_singleton.mp hu]; exact ⟨l, tk⟩
    refine ⟨p', S', g2, g3, g4, ?_, o', by rw [m', List.map_append, List.append_assoc, List.map_singleton, tn]; rfl, k'⟩
    show (match fb1__law_truths [(some (R.own (p))), (some (R.own (thsD S))), (some (R.dat (.str n))), e3, e4] with | some (.nx ρ2) => forL (gnM 2) fb1__law_truths (rest.map PyData.str) ρ2 | some (.ct ρ2) => forL (gnM 2) fb1__law_truths (rest.map PyData.str) ρ2 | some (.bk ρ2) => some (.nx ρ2) | o => o) = _
    rw [e]
    exact e'
def nms6 : List Str := ["a", "b", "c", "dd", "e", "zz"]
theorem nms6_ok : ∀ n ∈ nms6, isNm n = true := by decide +kernel
theorem nms6_nd : nms6.Nodup := by decide +kernel
structure Trs (S : List Th) : Prop where
  nd : Nd S
  l1 : 1 ≤ S.length
  l6 : S.length ≤ 6
  ok : ∀ t ∈ S, isNm t.nm = true ∧ ∃ l, TrOk t l
theorem truths_is {p : PyData} (hp : Pot p) : ∃ p' S, sem__law_truths [.own p] = some (.ok (.own (thsD S)) [(some (R.own (p')))]) ∧ Pot p' ∧ Trs S := by
  obtain ⟨v, p1, t1, a1, b1, o1⟩ := take_is hp (b := 6) (by omega) (by omega)
  have hm : (nms6.take (1 + v).toNat).length = (1 + v).toNat := by
    rw [List.length_take]
    show min (1 + v).toNat 6 = _
    omega
  obtain ⟨p', S, e2, e3, e4, e, o, mn, k⟩ := truths_loop (nms6.take (1 + v).toNat) [] p1 none none none o1 (by rw [hm, List.length_nil]; omega) (fun _ _ => rfl) (nms6_nd.sublist (List.take_sublist ..)) (by simp)
  have e0 : thsD [] = .dict [] := rfl
  rw [e0] at e
  have ct := cut_to (nms6.map PyData.str) (i := 1 + v) (by omega)
  rw [← List.map_take] at ct
  have en : nms6.map PyData.str = [.str "a", .str "b", .str "c", .str "dd", .str "e", .str "zz"] := rfl
  rw [en] at ct
  have ml : S.length = (1 + v).toNat := by
    have := congrArg List.length mn
    rw [List.length_map, List.length_append, hm] at this
    simpa using this
  refine ⟨p', S, ?_, o, ⟨?_, by omega, by omega, fun t ht => ⟨nms6_ok _ (List.mem_of_mem_take (i := (1 + v).toNat) ?_), k t ht⟩⟩⟩
  · have l6 : (6 : Nat) ≤ lim := by decide
    rw [run__law_truths]
    unfold m__law_truths
    generalize (nms6.take (1 + v).toNat).map PyData.str = NN at *
    simp [t1, ct, l6, e, outs_1, pr__law_truths]
  · unfold Nd
    rw [mn]
    exact nms6_nd.sublist (List.take_sublist ..)
  · rw [← show ([] : List Str) ++ nms6.take (1 + v).toNat = nms6.take (1 + v).toNat from rfl]
    have : t.nm ∈ S.map Th.nm := List.mem_map_of_mem ht
    rw [mn] at this
    exact this
def endD (t : Th) (l : Int) : Dd := if t.e = 0 then .se t.nm l else .en t.nm l t.e
def rightD (t : Th) (l : Int) : List Dd := [.be t.nm t.b t.f, endD t l]
theorem right_v (t : Th) (l : Int) : (endD t l).v = if t.e = 0 then .tuple [.str "seen", .str t.nm, .int l] else .tuple [.str "ended", .str t.nm, .int l, .int t.e] := by
  unfold endD
  split <;> rfl
inductive Way (t : Th) (l : Int) : List Dd → Prop where
  | w0 : Way t l [.be t.nm t.b t.f, .se t.nm (t.f + 1), endD t l]
  | w1 (x y : Int) : 0 ≤ x → x < 30 → 0 ≤ y → y < 4 → Way t l [.be t.nm t.b t.f, .se t.nm (t.f + 1), .en t.nm (t.f + 2 + x) (1 + y), .me t.nm l t.e]
  | w2 : Way t l [.be t.nm t.b t.f, .se t.nm (t.f + 1), .me t.nm (t.f + 3) 2, .me t.nm l t.e, .me t.nm l t.e]
  | w3 : Way t l [.be t.nm t.b t.f, .se t.nm (t.f + 1), .dr t.nm, .be t.nm t.b t.f, endD t l]
  | w4 : Way t l [.be t.nm t.b t.f, .se t.nm (t.f + 1), .se t.nm (t.f + 3), .me t.nm (t.f + 1) 0, endD t l]
  | w5 : Way t l (rightD t l)
section
variable {t : Th} {l : Int}
theorem tr_eta (k : TrOk t l) : (⟨t.nm, t.b, t.f, some l, t.e⟩ : Th) = t := by
  have := k.el
  cases t
  simp_all
theorem st_be (k : TrOk t l) : st1 none (.be t.nm t.b t.f) = some (some ⟨t.nm, t.b, t.f, none, 0⟩) := by
  have := k.f0
  have := k.f1
  show (if t.b ≤ t.f ∧ t.f < t.b + 999 then _ else _) = _
  rw [if_pos (by omega)]
theorem st_me (k : TrOk t l) {n : Str} {u : Option Int} {e d k' : Int} (h : n = t.nm) (h1 : t.f < d) (h2 : d ≤ 200) (h3 : 0 ≤ k' ∧ k' ≤ 4) : st1 (some ⟨n, t.b, t.f, u, e⟩) (.me t.nm d k') = some (some ⟨t.nm, t.b, t.f, some d, k'⟩) := by
  have := k.b0
  show (if okDay ⟨n, t.b, t.f, u, e⟩ d = true ∧ 0 ≤ k' ∧ k' ≤ 4 then _ else _) = _
  rw [if_pos ⟨by unfold okDay; simp; omega, h3⟩]
theorem st_se (k : TrOk t l) {n : Str} {u : Option Int} {d : Int} (h : n = t.nm) (h1 : t.f < d) (h2 : d ≤ 200) (h3 : ∀ i, u = some i → i < d) : st1 (some ⟨n, t.b, t.f, u, 0⟩) (.se t.nm d) = some (some ⟨t.nm, t.b, t.f, some d, 0⟩) := by
  have := k.b0
  have hl : lge u d = false := by
    cases u with
    | none => rfl
    | some i => have := h3 i rfl; simp [lge]; omega
  show (if okDay ⟨n, t.b, t.f, u, 0⟩ d = true ∧ (decide ((0 : Int) < 0) || lge u d) = false then _ else _) = _
  rw [if_pos ⟨by unfold okDay; simp; omega, by rw [hl]; rfl⟩]
theorem st_en (k : TrOk t l) {n : Str} {u : Option Int} {d k' : Int} (h : n = t.nm) (h1 : t.f < d) (h2 : d ≤ 200) (h3 : ∀ i, u = some i → i < d) (h4 : 1 ≤ k' ∧ k' ≤ 4) : st1 (some ⟨n, t.b, t.f, u, 0⟩) (.en t.nm d k') = some (some ⟨t.nm, t.b, t.f, some d, k'⟩) := by
  have := k.b0
  have hl : lgt u d = false := by
    cases u with
    | none => rfl
    | some i => have := h3 i rfl; simp [lgt]; omega
  show (if okDay ⟨n, t.b, t.f, u, 0⟩ d = true ∧ (1 ≤ k' ∧ k' ≤ 4) ∧ (decide ((0 : Int) < 0) || lgt u d) = false then _ else _) = _
  rw [if_pos ⟨by unfold okDay; simp; omega, h4, by rw [hl]; rfl⟩]
theorem st_end (k : TrOk t l) {n : Str} {u : Option Int} (h : n = t.nm) (h3 : ∀ i, u = some i → i < l) : st1 (some ⟨n, t.b, t.f, u, 0⟩) (endD t l) = some (some t) := by
  obtain ⟨k0, k1, k2, k3, k4, k5, k6, k7, k8⟩ := k
  have k : TrOk t l := ⟨k0, k1, k2, k3, k4, k5, k6, k7, k8⟩
  unfold endD
  split
  · rename_i c
    rw [st_se k h (by omega) (by omega) h3]
    have := tr_eta k
    rw [c] at this
    rw [this]
  · rename_i c
    rw [st_en k h (by omega) (by omega) h3 (by omega), tr_eta k]
theorem way_runs (k : TrOk t l) {w : List Dd} (h : Way t l w) : runs none w = some (some t) := by
  obtain ⟨k0, k1, k2, k3, k4, k5, k6, k7, k8⟩ := k
  have k : TrOk t l := ⟨k0, k1, k2, k3, k4, k5, k6, k7, k8⟩
  have e1 := st_be k
  have e2 := st_se k (n := t.nm) (u := none) (d := t.f + 1) rfl (by omega) (by omega) (fun i hi => by cases hi)
  cases h with
  | w0 =>
    have e3 := st_end k (n := t.nm) (u := some (t.f + 1)) rfl (fun i hi => by cases hi; omega)
    simp [runs, e1, e2, e3]
  | w1 x y h1 h2 h3 h4 =>
    have e3 := st_en k (n := t.nm) (u := some (t.f + 1)) (d := t.f + 2 + x) (k' := 1 + y) rfl (by omega) (by omega) (fun i hi => by cases hi; omega) (by omega)
    have e4 := st_me k (n := t.nm) (u := some (t.f + 2 + x)) (e := 1 + y) (d := l) (k' := t.e) rfl (by omega) (by omega) ⟨k7, k8⟩
    simp [runs, e1, e2, e3, e4, tr_eta k]
  | w2 =>
    have e3 := st_me k (n := t.nm) (u := some (t.f + 1)) (e := 0) (d := t.f + 3) (k' := 2) rfl (by omega) (by omega) (by omega)
    have e4 := st_me k (n := t.nm) (u := some (t.f + 3)) (e := 2) (d := l) (k' := t.e) rfl (by omega) (by omega) ⟨k7, k8⟩
    have e5 := st_me k (n := t.nm) (u := some l) (e := t.e) (d := l) (k' := t.e) rfl (by omega) (by omega) ⟨k7, k8⟩
    rw [tr_eta k] at e4 e5
    simp [runs, e1, e2, e3, e4, e5]
  | w3 =>
    have e3 := st_end k (n := t.nm) (u := none) rfl (fun i hi => by cases hi)
    have ed : st1 (some ⟨t.nm, t.b, t.f, some (t.f + 1), 0⟩) (.dr t.nm) = some none := rfl
    simp [runs, e1, e2, ed, e3]
  | w4 =>
    have e3 := st_se k (n := t.nm) (u := some (t.f + 1)) (d := t.f + 3) rfl (by omega) (by omega) (fun i hi => by cases hi; omega)
    have e4 := st_me k (n := t.nm) (u := some (t.f + 3)) (e := 0) (d := t.f + 1) (k' := 0) rfl (by omega) (by omega) (by omega)
    have e5 := st_end k (n := t.nm) (u := some (t.f + 1)) rfl (fun i hi => by cases hi; omega)
    simp [runs, e1, e2, e3, e4, e5]
  | w5 =>
    have e3 := st_end k (n := t.nm) (u := none) rfl (fun i hi => by cases hi)
    simp [rightD, runs, e1, e3]
theorem way_len {w : List Dd} (h : Way t l w) : w.length ≤ 5 := by cases h <;> simp [rightD]
/-- each deed is a thing's own, is one that a ledger may be asked, and is plain -/
def DdG (n : Str) (x : Dd) : Prop := x.nm = n ∧ x.Ok ∧ Eqb 1 x.v
theorem ok_wd : (PyData.str "begin").canLay0 = true ∧ (PyData.str "seen").canLay0 = true ∧ (PyData.str "ended").canLay0 = true ∧ (PyData.str "mend").canLay0 = true ∧ (PyData.str "drop").canLay0 = true := by decide +kernel
theorem way_deeds (k : TrOk t l) (hn : isNm t.nm = true) {w : List Dd} (h : Way t l w) : ∀ x ∈ w, DdG t.nm x := by
  obtain ⟨k0, k1, k2, k3, k4, k5, k6, k7, k8⟩ := k
  obtain ⟨o1, o2, o3, o4, o5⟩ := ok_wd
  have be : DdG t.nm (.be t.nm t.b t.f) := ⟨rfl, ⟨hn, k1, by omega, by omega, by omega⟩, eqb_b o1 hn _ _⟩
  have se : ∀ d, 0 ≤ d → d ≤ 9999 → DdG t.nm (.se t.nm d) := fun d h1 h2 => ⟨rfl, ⟨hn, h1, h2⟩, eqb_s o2 hn _⟩
  have en : ∀ d k, 0 ≤ d → d ≤ 9999 → DdG t.nm (.en t.nm d k) := fun d k h1 h2 => ⟨rfl, ⟨hn, h1, h2⟩, eqb_b o3 hn _ _⟩
  have me : ∀ d k, 0 ≤ d → d ≤ 9999 → DdG t.nm (.me t.nm d k) := fun d k h1 h2 => ⟨rfl, ⟨hn, h1, h2⟩, eqb_b o4 hn _ _⟩
  have dr : DdG t.nm (.dr t.nm) := ⟨rfl, hn, Eqb.tuple (m := 0) (by simp [Eqb.str o5, Eqb.str (nm_ok hn)])⟩
  have ed : DdG t.nm (endD t l) := by
    unfold endD
    split
    · exact se l (by omega) (by omega)
    · exact en l _ (by omega) (by omega)
  have s1 := se (t.f + 1) (by omega) (by omega)
  have ml := me l t.e (by omega) (by omega)
  cases h with
  | w0 => simp only [List.forall_mem_cons]; exact ⟨be, s1, ed, fun x hx => by cases hx⟩
  | w1 x y h1 h2 h3 h4 => simp only [List.forall_mem_cons]; exact ⟨be, s1, en _ _ (by omega) (by omega), ml, fun x hx => by cases hx⟩
  | w2 => simp only [List.forall_mem_cons]; exact ⟨be, s1, me _ _ (by omega) (by omega), ml, ml, fun x hx => by cases hx⟩
  | w3 => simp only [List.forall_mem_cons]; exact ⟨be, s1, dr, be, ed, fun x hx => by cases hx⟩
  | w4 => simp only [List.forall_mem_cons]; exact ⟨be, s1, se _ (by omega) (by omega), me _ _ (by omega) (by omega), ed, fun x hx => by cases hx⟩
  | w5 => unfold rightD; simp only [List.forall_mem_cons]; exact ⟨be, ed, fun x hx => by cases hx⟩
end
section
variable {S : List Th} {t : Th} {l : Int}
theorem rightly_is (hS : getT S t.nm = some t) (k : TrOk t l) : sem__law_rightly [.dat (thsD S), .dat (.str t.nm)] = some (.ok (.own (.list (rowD (rightD t l)))) [(some (R.dat (thsD S))), (some (R.dat (.str t.nm)))]) := by
  have ix : dIxA (thsD S) (.str t.nm) = some (.dat (.tuple [.int t.b, .int t.f, .int l, .int t.e])) := by
    rw [ix_ths, hS]
    show some (R.dat (.tuple [.int t.b, .int t.f, lastD t.l, .int t.e])) = _
    rw [k.el]
    rfl
  have rv : rowD (rightD t l) = [.tuple [.str "begin", .str t.nm, .int t.b, .int t.f], (endD t l).v] := rfl
  have l2 : (2 : Nat) ≤ lim := by decide
  have l3 : (3 : Nat) ≤ lim := by decide
  have l4 : (4 : Nat) ≤ lim := by decide
  rw [run__law_rightly, rv, right_v]
  unfold m__law_rightly
  by_cases c : t.e = 0
  · simp [ix, c, l2, l3, l4, outs_2, pr__law_rightly]
  · simp [ix, c, l2, l3, l4, outs_2, pr__law_rightly]
theorem turns_of {p : PyData} (hp : Pot p) (hS : getT S t.nm = some t) (k : TrOk t l) : ∃ p' w, sem__law_by_turns [.own p, .dat (thsD S), .dat (.str t.nm)] = some (.ok (.own (.list (rowD w))) [(some (R.own (p'))), (some (R.dat (thsD S))), (some (R.dat (.str t.nm)))]) ∧ Pot p' ∧ Way t l w := by
  have ix : dIxA (thsD S) (.str t.nm) = some (.dat (.tuple [.int t.b, .int t.f, .int l, .int t.e])) := by
    rw [ix_ths, hS]
    show some (R.dat (.tuple [.int t.b, .int t.f, lastD t.l, .int t.e])) = _
    rw [k.el]
    rfl
  have rg := rightly_is hS k
  have rv : rowD (rightD t l) = [.tuple [.str "begin", .str t.nm, .int t.b, .int t.f], (endD t l).v] := rfl
  have cf : cutD [.tuple [.str "begin", .str t.nm, .int t.b, .int t.f], (endD t l).v] (some 1) none = [(endD t l).v] := by rw [cut_from _ (by decide)]; rfl
  rw [rv] at rg
  have l1 : (1 : Nat) ≤ lim := by decide
  have l2 : (2 : Nat) ≤ lim := by decide
  have l3 : (3 : Nat) ≤ lim := by decide
  have l4 : (4 : Nat) ≤ lim := by decide
  have l5 : (5 : Nat) ≤ lim := by decide
  obtain ⟨v, p1, e1, v0, v1, o1⟩ := take_is hp (b := 5) (by omega) (by omega)
  rw [run__law_by_turns]
  unfold m__law_by_turns
  have hv : v = 0 ∨ v = 1 ∨ v = 2 ∨ v = 3 ∨ v = 4 := by omega
  rcases hv with rfl | rfl | rfl | rfl | rfl
  · refine ⟨p1, _, ?_, o1, .w0⟩
    have ew : rowD [.be t.nm t.b t.f, .se t.nm (t.f + 1), endD t l] = [.tuple [.str "begin", .str t.nm, .int t.b, .int t.f], .tuple [.str "seen", .str t.nm, .int (t.f + 1)], (endD t l).v] := rfl
    rw [ew]
    generalize (endD t l).v = ev at *
    simp [ix, e1, rg, cf, l1, l2, l3, l4, l5, outs_3, pr__law_by_turns]
  · obtain ⟨x, p2, e2, x0, x1, o2⟩ := take_is o1 (b := 30) (by omega) (by omega)
    obtain ⟨y, p3, e3, y0, y1, o3⟩ := take_is o2 (b := 4) (by omega) (by omega)
    refine ⟨p3, _, ?_, o3, .w1 x y x0 x1 y0 y1⟩
    have ew : rowD [.be t.nm t.b t.f, .se t.nm (t.f + 1), .en t.nm (t.f + 2 + x) (1 + y), .me t.nm l t.e] = [.tuple [.str "begin", .str t.nm, .int t.b, .int t.f], .tuple [.str "seen", .str t.nm, .int (t.f + 1)], .tuple [.str "ended", .str t.nm, .int (t.f + 2 + x), .int (1 + y)], .tuple [.str "mend", .str t.nm, .int l, .int t.e]] := rfl
    rw [ew]
    simp [ix, e1, e2, e3, l1, l2, l3, l4, l5, outs_3, pr__law_by_turns]
  · refine ⟨p1, _, ?_, o1, .w2⟩
    have ew : rowD [.be t.nm t.b t.f, .se t.nm (t.f + 1), .me t.nm (t.f + 3) 2, .me t.nm l t.e, .me t.nm l t.e] = [.tuple [.str "begin", .str t.nm, .int t.b, .int t.f], .tuple [.str "seen", .str t.nm, .int (t.f + 1)], .tuple [.str "mend", .str t.nm, .int (t.f + 3), .int 2], .tuple [.str "mend", .str t.nm, .int l, .int t.e], .tuple [.str "mend", .str t.nm, .int l, .int t.e]] := rfl
    rw [ew]
    simp [ix, e1, l1, l2, l3, l4, l5, outs_3, pr__law_by_turns]
  · refine ⟨p1, _, ?_, o1, .w3⟩
    have ew : rowD [.be t.nm t.b t.f, .se t.nm (t.f + 1), .dr t.nm, .be t.nm t.b t.f, endD t l] = [.tuple [.str "begin", .str t.nm, .int t.b, .int t.f], .tuple [.str "seen", .str t.nm, .int (t.f + 1)], .tuple [.str "drop", .str t.nm], .tuple [.str "begin", .str t.nm, .int t.b, .int t.f], (endD t l).v] := rfl
    rw [ew]
    generalize (endD t l).v = ev at *
    simp [ix, e1, rg, l1, l2, l3, l4, l5, outs_3, pr__law_by_turns]
  · refine ⟨p1, _, ?_, o1, .w4⟩
    have ew : rowD [.be t.nm t.b t.f, .se t.nm (t.f + 1), .se t.nm (t.f + 3), .me t.nm (t.f + 1) 0, endD t l] = [.tuple [.str "begin", .str t.nm, .int t.b, .int t.f], .tuple [.str "seen", .str t.nm, .int (t.f + 1)], .tuple [.str "seen", .str t.nm, .int (t.f + 3)], .tuple [.str "mend", .str t.nm, .int (t.f + 1), .int 0], (endD t l).v] := rfl
    rw [ew]
    generalize (endD t l).v = ev at *
    simp [ix, e1, rg, cf, l1, l2, l3, l4, l5, outs_3, pr__law_by_turns]
end
def GOk (S : List Th) (G : Str → List Dd) : Prop := ∀ t ∈ S, ∃ l, TrOk t l ∧ Way t l (G t.nm)
section
variable {S : List Th} {G : Str → List Dd}
theorem g_deeds (T : Trs S) (g : GOk S G) : ∀ n ∈ S.map Th.nm, ∀ x ∈ G n, DdG n x := fun n hn x hx => by
  obtain ⟨t, ht, rfl⟩ := List.mem_map.mp hn
  obtain ⟨l, k, w⟩ := g t ht
  exact way_deeds k (T.ok t ht).1 w x hx
theorem g_tot (g : GOk S G) (h6 : S.length ≤ 6) : totR (S.map Th.nm) G ≤ 30 := by
  have : ∀ (A : List Th), (∀ t ∈ A, t ∈ S) → totR (A.map Th.nm) G ≤ 5 * A.length := fun A hA => by
    induction A with
    | nil => exact Nat.le_refl _
    | cons a r ih =>
      obtain ⟨l, k, w⟩ := g a (hA a List.mem_cons_self)
      have := way_len w
      have := ih fun t ht => hA t (List.mem_cons_of_mem _ ht)
      have e : totR ((a :: r).map Th.nm) G = (G a.nm).length + totR (r.map Th.nm) G := rfl
      rw [e, List.length_cons]
      omega
  have := this S fun t ht => ht
  omega
theorem lt_of_g (T : Trs S) (g : GOk S G) {ds : List Dd} (hf : ∀ n, (ds.filter fun x => decide (x.nm = n)) = if n ∈ S.map Th.nm then G n else []) (hm : ∀ x ∈ ds, ∃ n ∈ S.map Th.nm, x ∈ G n) (hl : ds.length ≤ 30) :
    Lt ds ∧ Nd (fin [] ds) ∧ (∀ n, getT (fin [] ds) n = getT S n) ∧ ∀ x ∈ ds, Eqb 1 x.v := by
  have key : ∀ n, runs none (ds.filter fun x => decide (x.nm = n)) = some (getT S n) := fun n => by
    rw [hf n]
    by_cases c : n ∈ S.map Th.nm
    · rw [if_pos c]
      obtain ⟨t, ht, rfl⟩ := List.mem_map.mp c
      obtain ⟨l, k, w⟩ := g t ht
      rw [way_runs k w, get_of T.nd ht]
    · rw [if_neg c]
      cases q : getT S n with
      | none => rfl
      | some t => exact absurd (by obtain ⟨h1, h2⟩ := get_nm q; rw [← h1]; exact List.mem_map_of_mem h2) c
  obtain ⟨r1, r2, r3⟩ := rn_of ds nd0 fun n => ⟨_, key n⟩
  have dd : ∀ x ∈ ds, ∃ n, DdG n x := fun x hx => by
    obtain ⟨n, h1, h2⟩ := hm x hx
    exact ⟨n, g_deeds T g n h1 x h2⟩
  refine ⟨⟨r1, fun x hx => ?_, by omega⟩, r2, fun n => ?_, fun x hx => ?_⟩
  · obtain ⟨n, h⟩ := dd x hx; exact h.2.1
  · have h1 := r3 n
    have h2 : runs (getT [] n) (ds.filter fun x => decide (x.nm = n)) = some (getT S n) := key n
    rw [h2] at h1
    exact (Option.some.inj h1).symm
  · obtain ⟨n, h⟩ := dd x hx; exact h.2.2
theorem lt_wov (T : Trs S) (g : GOk S G) {ds : List Dd} (w : Wov (S.map Th.nm) G ds) : Lt ds ∧ Nd (fin [] ds) ∧ (∀ n, getT (fin [] ds) n = getT S n) ∧ (∀ x ∈ ds, Eqb 1 x.v) ∧ ds.length ≤ 30 := by
  have hl : ds.length ≤ 30 := by rw [wov_len T.nd w]; exact g_tot g T.l6
  obtain ⟨a, b, c, d⟩ := lt_of_g T g (wov_filter (fun n hn x hx => (g_deeds T g n hn x hx).1) w) (wov_mem w) hl
  exact ⟨a, b, c, d, hl⟩
theorem flat_filter : ∀ {ns : List Str}, ns.Nodup → (∀ n ∈ ns, ∀ x ∈ G n, x.nm = n) → ∀ n, (((ns.map G).flatten).filter fun x => decide (x.nm = n)) = if n ∈ ns then G n else []
  | [], _, _, n => rfl
  | a :: r, nd, h, n => by
    rw [List.nodup_cons] at nd
    have ih := flat_filter nd.2 (fun m hm => h m (List.mem_cons_of_mem _ hm)) n
    rw [List.map_cons, List.flatten_cons, List.filter_append, ih]
    by_cases e : a = n
    · subst e
      rw [if_neg nd.1, if_pos List.mem_cons_self, List.append_nil, List.filter_eq_self]
      intro x hx
      simpa using h a List.mem_cons_self x hx
    · have : ((G a).filter fun x => decide (x.nm = n)) = [] := List.filter_eq_nil_iff.mpr fun x hx => by
        have := h a List.mem_cons_self x hx
        simp [this, e]
      rw [this, List.nil_append]
      by_cases c : n ∈ r
      · rw [if_pos c, if_pos (List.mem_cons_of_mem _ c)]
      · rw [if_neg c, if_neg (fun z => (List.mem_cons.mp z).elim (fun y => e y.symm) c)]
theorem lt_flat (T : Trs S) (g : GOk S G) : Lt ((S.map Th.nm).map G).flatten ∧ Nd (fin [] ((S.map Th.nm).map G).flatten) ∧ (∀ n, getT (fin [] ((S.map Th.nm).map G).flatten) n = getT S n) ∧ (∀ x ∈ ((S.map Th.nm).map G).flatten, Eqb 1 x.v) ∧ (((S.map Th.nm).map G).flatten).length ≤ 30 := by
  have hl : (((S.map Th.nm).map G).flatten).length ≤ 30 := by
    have : ∀ ns : List Str, ((ns.map G).flatten).length = totR ns G := fun ns => by
      unfold totR
      rw [List.length_flatten, List.map_map]
      rfl
    rw [this]
    exact g_tot g T.l6
  obtain ⟨a, b, c, d⟩ := lt_of_g T g (flat_filter T.nd (fun n hn x hx => (g_deeds T g n hn x hx).1)) (fun x hx => by
    obtain ⟨r, h1, h2⟩ := List.mem_flatten.mp hx
    obtain ⟨n, hn, rfl⟩ := List.mem_map.mp h1
    exact ⟨n, hn, h2⟩) hl
  exact ⟨a, b, c, d, hl⟩
end
section
variable {ds : List Dd}
theorem WL_app {a b : List Dd} (h : Lt (a ++ b)) : WL (a ++ b) = WL a ++ aftAll (fin [] a) b := by
  unfold WL
  rw [(aftAll_app a b h.r).2.2.1]
  rfl
theorem WL_len (h : Lt ds) : (WL ds).length = (ds.map Dd.v).length + 1 := by
  show (aftAll [] ds).length + 1 = _
  rw [aftAll_len ds h.r, List.length_map]
theorem WL_last (h : Lt ds) : (WL ds).getLast? = some (fin [] ds) := aftAll_last ds h.r
theorem WL_get (h : Lt ds) {k : Nat} (hk : k ≤ ds.length) : (WL ds)[k]? = some (fin [] (ds.take k)) := by
  have h' : Lt (ds.take k ++ ds.drop k) := by rw [List.take_append_drop]; exact h
  have hp := h'.pre
  have e := WL_app h'
  rw [List.take_append_drop] at e
  have l := WL_len hp
  rw [List.length_map, List.length_take, Nat.min_eq_left hk] at l
  have la := WL_last hp
  rw [List.getLast?_eq_getElem?, l] at la
  rw [e, List.getElem?_append_left (by omega)]
  exact la
theorem fin_small (h : Lt ds) : (fin [] ds).length < 64 := by
  have := (Ge.fin ds ge0 nd0 h.r).1.l
  have := h.l
  omega
theorem book_now (h : Lt ds) : sem_Ledger_book [LDs ds, .dat .none] = some (.ok (.dat (bkD (fin [] ds))) [some (LDs ds), (some (R.dat (.none)))]) := booknow_is (WL_last h) (WL_len h) (fin_small h)
theorem lt_take (h : Lt ds) (k : Nat) : Lt (ds.take k) := Lt.pre (b := ds.drop k) (by rw [List.take_append_drop]; exact h)
theorem book_then (h : Lt ds) {k : Nat} (hk : k ≤ ds.length) : sem_Ledger_book [LDs ds, .dat (.int k)] = some (.ok (.dat (bkD (fin [] (ds.take k)))) [some (LDs ds), (some (R.dat (.int k)))]) := bookat_is (WL_get h hk) (WL_len h) (fin_small (lt_take h k))
theorem undo_one {x : Dd} (h : Lt (ds ++ [x])) : sem_Ledger_undo [LDs (ds ++ [x])] = some (.ok (.dat .none) [some (LDs ds)]) := by
  obtain ⟨a1, ⟨M, a2, _⟩, a3, _⟩ := aftAll_app ds [x] h.r
  have e : aftAll (fin [] ds) [x] = [M] := by
    show (match aft (fin [] ds) x with | .inr M => M :: aftAll M [] | .inl _ => []) = _
    rw [a2]
    rfl
  have u := undo_is (ts := ds.map Dd.v) (W := WL ds) x.v M
  have ew : LDs (ds ++ [x]) = LD (ds.map Dd.v ++ [x.v]) (WL ds ++ [M]) := by
    unfold LDs
    rw [WL_app h, e, List.map_append]
    rfl
  rw [ew]
  exact u
theorem eq_self (w : ∀ x ∈ ds, Eqb 1 x.v) : sem_Ledger_eq [LDs ds, LDs ds] = some (.ok (.dat (.bool true)) [some (LDs ds), some (LDs ds)]) := by
  refine eq_is (WL ds) (WL ds) (dEq_self (m := 2) (Eqb.list fun d hd => ?_) (by decide) (by intro i h; cases h))
  obtain ⟨x, hx, rfl⟩ := List.mem_map.mp hd
  exact w x hx
end
theorem eqb_sp (s : Sp) : Eqb 1 s.d := Eqb.tuple (m := 0) (by simp [Eqb.int])
theorem bkD_ne (L : List Th) : dNe (bkD L) (bkD L) = some (.dat (.bool false)) := by
  unfold bkD
  split
  · exact dNe_self (m := 2) (Eqb.tuple fun d hd => by obtain ⟨s, _, rfl⟩ := List.mem_map.mp hd; exact eqb_sp s) (by decide) (by intro i h; cases h)
  · rfl
theorem bkD_ext {L M : List Th} (nL : Nd L) (nM : Nd M) (h : ∀ n, getT L n = getT M n) : bkD L = bkD M := by
  unfold bkD
  rw [(bk_ext nL nM h).1]
def G0 (S : List Th) (n : Str) : List Dd := match getT S n with
  | some t => rightD t (t.l.getD 0)
  | none => []
section
variable {S : List Th}
theorem g0_ok (T : Trs S) : GOk S (G0 S) := fun t ht => by
  obtain ⟨l, k⟩ := (T.ok t ht).2
  refine ⟨l, k, ?_⟩
  have e : G0 S t.nm = rightD t l := by
    unfold G0
    rw [get_of T.nd ht]
    dsimp only
    rw [k.el]
    rfl
  rw [e]
  exact .w5
theorem right_at (T : Trs S) {n : Str} (hn : n ∈ S.map Th.nm) : sem__law_rightly [.dat (thsD S), .dat (.str n)] = some (.ok (.own (.list ((G0 S n).map Dd.v))) [(some (R.dat (thsD S))), (some (R.dat (.str n)))]) ∧ (G0 S n).length ≤ 5 := by
  obtain ⟨t, ht, rfl⟩ := List.mem_map.mp hn
  obtain ⟨l, k⟩ := (T.ok t ht).2
  have e : G0 S t.nm = rightD t l := by
    unfold G0
    rw [get_of T.nd ht]
    dsimp only
    rw [k.el]
    rfl
  rw [e]
  exact ⟨rightly_is (get_of T.nd ht) k, way_len .w5⟩
theorem plain_loop (T : Trs S) (s0 s1 s2 s6 s7 s8 s9 s10 s11 s12 s13 s14 : Option R) : ∀ (rest : List Str) (acc : List Dd) (e5 : Option R), (∀ n ∈ rest, n ∈ S.map Th.nm) → acc.length + 5 * rest.length ≤ 1000 →
    ∃ e5', forL (gnM 5) fb1_law (rest.map PyData.str) [s0, s1, s2, (some (R.dat (thsD S))), (some (R.own (.list (acc.map Dd.v)))), e5, s6, s7, s8, s9, s10, s11, s12, s13, s14] = some (.nx [s0, s1, s2, (some (R.dat (thsD S))), (some (R.own (.list ((acc ++ (rest.map (G0 S)).flatten).map Dd.v)))), e5', s6, s7, s8, s9, s10, s11, s12, s13, s14])
  | [], acc, e5, _, _ => ⟨e5, by rw [List.map_nil, List.map_nil, List.flatten_nil, List.append_nil]; rfl⟩
  | n :: rest, acc, e5, hn, hl => by
    obtain ⟨rg, gl⟩ := right_at T (hn n List.mem_cons_self)
    rw [List.length_cons] at hl
    obtain ⟨e5', ih⟩ := plain_loop T s0 s1 s2 s6 s7 s8 s9 s10 s11 s12 s13 s14 rest (acc ++ G0 S n) ((some (R.dat (.str n)))) (fun m hm => hn m (List.mem_cons_of_mem _ hm)) (by rw [List.length_append]; omega)
    refine ⟨e5', ?_⟩
    have st : fb1_law [s0, s1, s2, (some (R.dat (thsD S))), (some (R.own (.list (acc.map Dd.v)))), (some (R.dat (.str n))), s6, s7, s8, s9, s10, s11, s12, s13, s14] = some (.nx [s0, s1, s2, (some (R.dat (thsD S))), (some (R.own (.list ((acc ++ G0 S n).map Dd.v)))), (some (R.dat (.str n))), s6, s7, s8, s9, s10, s11, s12, s13, s14]) := by
      have lz : (acc.map Dd.v).length + ((G0 S n).map Dd.v).length ≤ lim := by
        rw [List.length_map, List.length_map]
        have : (1010 : Nat) ≤ lim := by decide
        omega
      have pl : dPlus (.list (acc.map Dd.v)) (.list ((G0 S n).map Dd.v)) = some (.own (.list ((acc ++ G0 S n).map Dd.v))) := by
        rw [List.map_append]
        exact if_pos lz
      generalize (acc ++ G0 S n).map Dd.v = r at *
      generalize acc.map Dd.v = a at *
      generalize (G0 S n).map Dd.v = b at *
      unfold fb1_law
      simp [rg, pl, -dPlus_l]
    rw [List.map_cons, List.map_cons, List.flatten_cons, ← List.append_assoc]
    show (match fb1_law [s0, s1, s2, (some (R.dat (thsD S))), (some (R.own (.list (acc.map Dd.v)))), (some (R.dat (.str n))), s6, s7, s8, s9, s10, s11, s12, s13, s14] with | some (.nx ρ2) => forL (gnM 5) fb1_law (rest.map PyData.str) ρ2 | some (.ct ρ2) => forL (gnM 5) fb1_law (rest.map PyData.str) ρ2 | some (.bk ρ2) => some (.nx ρ2) | o => o) = _
    rw [st]
    exact ih
theorem lc_right (T : Trs S) (s0 s1 s2 s4 s6 s7 s8 s9 s10 s11 s12 s13 s14 : Option R) : ∀ (rest : List Str) (acc : List PyData), (∀ n ∈ rest, n ∈ S.map Th.nm) → acc.length + rest.length ≤ 100 →
    lcL (gnM 5) [5] yesT ce2_law (rest.map PyData.str) [s0, s1, s2, (some (R.dat (thsD S))), s4, none, s6, s7, s8, s9, s10, s11, s12, s13, s14] acc = some (.ok (.own (.list (acc ++ rest.map fun n => .list (rowD (G0 S n))))) [s0, s1, s2, (some (R.dat (thsD S))), s4, none, s6, s7, s8, s9, s10, s11, s12, s13, s14])
  | [], acc, _, _ => by rw [List.map_nil, List.map_nil, List.append_nil]; rfl
  | n :: rest, acc, hn, hl => by
    obtain ⟨rg, gl⟩ := right_at T (hn n List.mem_cons_self)
    rw [List.length_cons] at hl
    have ih := lc_right T s0 s1 s2 s4 s6 s7 s8 s9 s10 s11 s12 s13 s14 rest (acc ++ [.list (rowD (G0 S n))]) (fun m hm => hn m (List.mem_cons_of_mem _ hm)) (by rw [List.length_append, List.length_singleton]; omega)
    have la : acc.length < lim := by
      have : (100 : Nat) < lim := by decide
      omega
    have c : ce2_law [s0, s1, s2, (some (R.dat (thsD S))), s4, (some (R.dat (.str n))), s6, s7, s8, s9, s10, s11, s12, s13, s14] = some (.ok (.own (.list (rowD (G0 S n)))) [s0, s1, s2, (some (R.dat (thsD S))), s4, (some (R.dat (.str n))), s6, s7, s8, s9, s10, s11, s12, s13, s14]) := by
      unfold rowD
      generalize (G0 S n).map Dd.v = b at *
      unfold ce2_law
      simp [rg]
    rw [List.map_cons, List.map_cons]
    show (match some ([s0, s1, s2, (some (R.dat (thsD S))), s4, (some (R.dat (.str n))), s6, s7, s8, s9, s10, s11, s12, s13, s14] : Rho) with
      | none => none
      | some ρ1 => bindN (yesT ρ1) fun b ρ2 => if b = true then bindN (ce2_law ρ2) fun r ρ3 => match frz ρ3 r with
        | some (d, ρ4) => if acc.length < lim then lcL (gnM 5) [5] yesT ce2_law (rest.map PyData.str) (wipeR ρ4 [5]) (acc ++ [d]) else none
        | none => none
      else lcL (gnM 5) [5] yesT ce2_law (rest.map PyData.str) (wipeR ρ2 [5]) acc) = _
    dsimp only [yesT]
    rw [bindN_ok, if_pos rfl, c, bindN_ok]
    dsimp only [frz]
    rw [if_pos la]
    rw [List.append_assoc] at ih
    exact ih
theorem lc_turns (T : Trs S) (s0 s1 s4 s6 s7 s8 s9 s10 s11 s12 s13 s14 : Option R) : ∀ (rest : List Str) (p : PyData) (acc : List PyData), Pot p → (∀ n ∈ rest, n ∈ S.map Th.nm) → rest.Nodup → acc.length + rest.length ≤ 100 →
    ∃ (p' : PyData) (G : Str → List Dd), lcL (gnM 5) [5] yesT ce1_law (rest.map PyData.str) [s0, s1, (some (R.own (p))), (some (R.dat (thsD S))), s4, none, s6, s7, s8, s9, s10, s11, s12, s13, s14] acc = some (.ok (.own (.list (acc ++ rest.map fun n => .list (rowD (G n))))) [s0, s1, (some (R.own (p'))), (some (R.dat (thsD S))), s4, none, s6, s7, s8, s9, s10, s11, s12, s13, s14]) ∧ Pot p' ∧ ∀ n ∈ rest, ∀ t ∈ S, t.nm = n → ∃ l, TrOk t l ∧ Way t l (G n)
  | [], p, acc, hp, _, _, _ => ⟨p, fun _ => [], by rw [List.map_nil, List.map_nil, List.append_nil]; rfl, hp, fun n hn => by cases hn⟩
  | n :: rest, p, acc, hp, hn, nd, hl => by
    rw [List.length_cons] at hl
    rw [List.nodup_cons] at nd
    obtain ⟨t, ht, tn⟩ := List.mem_map.mp (hn n List.mem_cons_self)
    obtain ⟨l, k⟩ := (T.ok t ht).2
    obtain ⟨p1, w, e1, o1, wy⟩ := turns_of hp (get_of T.nd ht) k
    rw [tn] at e1
    obtain ⟨p', G, ih, o', gg⟩ := lc_turns T s0 s1 s4 s6 s7 s8 s9 s10 s11 s12 s13 s14 rest p1 (acc ++ [.list (rowD w)]) o1 (fun m hm => hn m (List.mem_cons_of_mem _ hm)) nd.2 (by rw [List.length_append, List.length_singleton]; omega)
    refine ⟨p', fun m => if m = n then w else G m, ?_, o', fun m hm u hu um => ?_⟩
    · have la : acc.length < lim := by
        have : (100 : Nat) < lim := by decide
        omega
      have c : ce1_law [s0, s1, (some (R.own (p))), (some (R.dat (thsD S))), s4, (some (R.dat (.str n))), s6, s7, s8, s9, s10, s11, s12, s13, s14] = some (.ok (.own (.list (rowD w))) [s0, s1, (some (R.own (p1))), (some (R.dat (thsD S))), s4, (some (R.dat (.str n))), s6, s7, s8, s9, s10, s11, s12, s13, s14]) := by
        generalize rowD w = b at *
        unfold ce1_law
        simp [e1]
      have em : (rest.map fun m => PyData.list (rowD (if m = n then w else G m))) = rest.map fun m => .list (rowD (G m)) := List.map_congr_left fun m hm => by rw [if_neg (fun z : m = n => nd.1 (by rw [← z]; exact hm))]
      rw [List.map_cons, List.map_cons]
      dsimp only
      rw [if_pos rfl, em]
      show (match some ([s0, s1, (some (R.own (p))), (some (R.dat (thsD S))), s4, (some (R.dat (.str n))), s6, s7, s8, s9, s10, s11, s12, s13, s14] : Rho) with
        | none => none
        | some ρ1 => bindN (yesT ρ1) fun b ρ2 => if b = true then bindN (ce1_law ρ2) fun r ρ3 => match frz ρ3 r with
          | some (d, ρ4) => if acc.length < lim then lcL (gnM 5) [5] yesT ce1_law (rest.map PyData.str) (wipeR ρ4 [5]) (acc ++ [d]) else none
          | none => none
        else lcL (gnM 5) [5] yesT ce1_law (rest.map PyData.str) (wipeR ρ2 [5]) acc) = _
      dsimp only [yesT]
      rw [bindN_ok, if_pos rfl, c, bindN_ok]
      dsimp only [frz]
      rw [if_pos la]
      rw [List.append_assoc] at ih
      exact ih
    · by_cases e : m = n
      · subst e
        have eu : u = t := by
          have h1 := get_of T.nd hu
          have h2 := get_of T.nd ht
          rw [um] at h1
          rw [tn, h1] at h2
          exact Option.some.inj h2
        subst eu
        dsimp only
        rw [if_pos rfl]
        exact ⟨l, k, wy⟩
      · dsimp only
        rw [if_neg e]
        exact gg m ((List.mem_cons.mp hm).resolve_left e) u hu um
end
section
variable {ds : List Dd}
/-- each book behind a telling -/
theorem nums_loop (h : Lt ds) (s0 s1 s2 s3 s4 s5 s6 s9 s11 s12 s13 s14 : Option R) : ∀ (m j : Nat) (e : Option R), j + m ≤ ds.length + 1 →
    ∃ e', forL (gnM 10) fb2_law (rngL (j : Int) m) [s0, s1, s2, s3, s4, s5, s6, (some (R.dat (.list (ds.map Dd.v)))), some (LDs ds), s9, e, s11, s12, s13, s14] = some (.nx [s0, s1, s2, s3, s4, s5, s6, (some (R.dat (.list (ds.map Dd.v)))), some (LDs ds), s9, e', s11, s12, s13, s14])
  | 0, j, e, _ => ⟨e, rfl⟩
  | m + 1, j, e, hj => by
    obtain ⟨e', ih⟩ := nums_loop h s0 s1 s2 s3 s4 s5 s6 s9 s11 s12 s13 s14 m (j + 1) ((some (R.dat (.int j)))) (by omega)
    refine ⟨e', ?_⟩
    have st : fb2_law [s0, s1, s2, s3, s4, s5, s6, (some (R.dat (.list (ds.map Dd.v)))), some (LDs ds), s9, (some (R.dat (.int j))), s11, s12, s13, s14] = some (.nx [s0, s1, s2, s3, s4, s5, s6, (some (R.dat (.list (ds.map Dd.v)))), some (LDs ds), s9, (some (R.dat (.int j))), s11, s12, s13, s14]) := by
      have b1 := book_then h (k := j) (by omega)
      have ht := lt_take h j
      have lo := ledgerof_is ht (.inl rfl)
      have b2 := book_now ht
      have ct := cut_to (ds.map Dd.v) (i := (j : Int)) (by omega)
      rw [← List.map_take] at ct
      have e2 : (j : Int).toNat = j := by omega
      rw [e2] at ct
      have nb := bkD_ne (fin [] (ds.take j))
      have ll : (ds.map Dd.v).length ≤ 100000 := by rw [List.length_map]; have := h.l; omega
      unfold LDs LD at *
      generalize bkD (fin [] (ds.take j)) = bd at *
      generalize (WL (ds.take j)).map thsD = w2 at *
      generalize (WL ds).map thsD = w1 at *
      generalize (ds.take j).map Dd.v = t2 at *
      generalize ds.map Dd.v = t1 at *
      have f1 : (callM sem__law_ledger_of (consA (slM (nmM 7) none (some (nmM 10))) nilA)) [s0, s1, s2, s3, s4, s5, s6, (some (R.dat (.list t1))), some (.obj (.led t1 w1)), s9, (some (R.dat (.int j))), s11, s12, s13, s14] = some (.ok (.obj (.led t2 w2)) [s0, s1, s2, s3, s4, s5, s6, (some (R.dat (.list t1))), some (.obj (.led t1 w1)), s9, (some (R.dat (.int j))), s11, s12, s13, s14]) := by
        simp [lo, ct, ll]
      have me : metEM true (callM sem__law_ledger_of (consA (slM (nmM 7) none (some (nmM 10))) nilA)) sem_Ledger_book [.none] nilA [s0, s1, s2, s3, s4, s5, s6, (some (R.dat (.list t1))), some (.obj (.led t1 w1)), s9, (some (R.dat (.int j))), s11, s12, s13, s14] = some (.ok (.dat bd) [s0, s1, s2, s3, s4, s5, s6, (some (R.dat (.list t1))), some (.obj (.led t1 w1)), s9, (some (R.dat (.int j))), s11, s12, s13, s14]) := by
        unfold metEM
        rw [f1, bindO_ok, if_pos (show isObR true (.obj (.led t2 w2)) = true from rfl)]
        simp [retE, b2]
      unfold fb2_law
      simp [b1, me, nb]
    rw [rngL_succ]
    show (match fb2_law [s0, s1, s2, s3, s4, s5, s6, (some (R.dat (.list (ds.map Dd.v)))), some (LDs ds), s9, (some (R.dat (.int j))), s11, s12, s13, s14] with | some (.nx ρ2) => forL (gnM 10) fb2_law (rngL ((j : Int) + 1) m) ρ2 | some (.ct ρ2) => forL (gnM 10) fb2_law (rngL ((j : Int) + 1) m) ρ2 | some (.bk ρ2) => some (.nx ρ2) | o => o) = _
    rw [st]
    exact ih
theorem undo_loop (h : Lt ds) (s0 s1 s2 s3 s4 s5 s6 s7 s8 s9 s10 s12 s14 : Option R) : ∀ (m : Nat) (j : Int) (k : Nat) (e : Option R), k + m ≤ ds.length →
    ∃ e', forL (gnM 11) fb3_law (rngL j m) [s0, s1, s2, s3, s4, s5, s6, s7, s8, s9, s10, e, s12, some (LDs (ds.take (k + m))), s14] = some (.nx [s0, s1, s2, s3, s4, s5, s6, s7, s8, s9, s10, e', s12, some (LDs (ds.take k)), s14])
  | 0, j, k, e, _ => ⟨e, rfl⟩
  | m + 1, j, k, e, hk => by
    obtain ⟨e', ih⟩ := undo_loop h s0 s1 s2 s3 s4 s5 s6 s7 s8 s9 s10 s12 s14 m (j + 1) k ((some (R.dat (.int j)))) (by omega)
    refine ⟨e', ?_⟩
    have st : fb3_law [s0, s1, s2, s3, s4, s5, s6, s7, s8, s9, s10, (some (R.dat (.int j))), s12, some (LDs (ds.take (k + (m + 1)))), s14] = some (.nx [s0, s1, s2, s3, s4, s5, s6, s7, s8, s9, s10, (some (R.dat (.int j))), s12, some (LDs (ds.take (k + m))), s14]) := by
      have e2 : ds.take (k + (m + 1)) = ds.take (k + m) ++ [ds[k + m]'(by omega)] := by
        rw [← Nat.add_assoc, List.take_succ_eq_append_getElem (by omega)]
      have ht := lt_take h (k + (m + 1))
      rw [e2] at ht ⊢
      have u := undo_one ht
      unfold LDs LD at *
      generalize (WL (ds.take (k + m) ++ [ds[k + m]'(by omega)])).map thsD = w2 at *
      generalize (ds.take (k + m) ++ [ds[k + m]'(by omega)]).map Dd.v = t2 at *
      generalize (WL (ds.take (k + m))).map thsD = w1 at *
      generalize (ds.take (k + m)).map Dd.v = t1 at *
      unfold fb3_law
      simp [u]
    rw [rngL_succ]
    show (match fb3_law [s0, s1, s2, s3, s4, s5, s6, s7, s8, s9, s10, (some (R.dat (.int j))), s12, some (LDs (ds.take (k + (m + 1)))), s14] with | some (.nx ρ2) => forL (gnM 11) fb3_law (rngL (j + 1) m) ρ2 | some (.ct ρ2) => forL (gnM 11) fb3_law (rngL (j + 1) m) ρ2 | some (.bk ρ2) => some (.nx ρ2) | o => o) = _
    rw [st]
    exact ih
theorem tell_loop (s0 s1 s2 s3 s4 s5 s6 s7 s8 s9 s10 s11 s14 : Option R) : ∀ (b a : List Dd) (e : Option R), Lt (a ++ b) →
    ∃ e', forL (gnM 12) fb4_law (b.map Dd.v) [s0, s1, s2, s3, s4, s5, s6, s7, s8, s9, s10, s11, e, some (LDs a), s14] = some (.nx [s0, s1, s2, s3, s4, s5, s6, s7, s8, s9, s10, s11, e', some (LDs (a ++ b)), s14])
  | [], a, e, _ => ⟨e, by rw [List.append_nil]; rfl⟩
  | x :: b, a, e, h => by
    have h' : Lt ((a ++ [x]) ++ b) := by rw [List.append_assoc]; exact h
    obtain ⟨e', ih⟩ := tell_loop s0 s1 s2 s3 s4 s5 s6 s7 s8 s9 s10 s11 s14 b (a ++ [x]) ((some (R.dat (x.v)))) h'
    refine ⟨e', ?_⟩
    have st : fb4_law [s0, s1, s2, s3, s4, s5, s6, s7, s8, s9, s10, s11, (some (R.dat (x.v))), some (LDs a), s14] = some (.nx [s0, s1, s2, s3, s4, s5, s6, s7, s8, s9, s10, s11, (some (R.dat (x.v))), some (LDs (a ++ [x])), s14]) := by
      have t := Lt.one h'.pre
      unfold LDs LD at *
      generalize (WL (a ++ [x])).map thsD = w2 at *
      generalize (a ++ [x]).map Dd.v = t2 at *
      generalize (WL a).map thsD = w1 at *
      generalize a.map Dd.v = t1 at *
      unfold fb4_law
      simp [t]
    rw [List.append_assoc] at ih
    rw [List.map_cons]
    show (match fb4_law [s0, s1, s2, s3, s4, s5, s6, s7, s8, s9, s10, s11, (some (R.dat (x.v))), some (LDs a), s14] with | some (.nx ρ2) => forL (gnM 12) fb4_law (b.map Dd.v) ρ2 | some (.ct ρ2) => forL (gnM 12) fb4_law (b.map Dd.v) ρ2 | some (.bk ρ2) => some (.nx ρ2) | o => o) = _
    rw [st]
    exact ih
end
theorem seqM_nx {f g : SM} {ρ ρ1 : Rho} (h : f ρ = some (.nx ρ1)) : seqM f g ρ = g ρ1 := by
  show (match f ρ with | some (.nx ρ1) => g ρ1 | o => o) = _
  rw [h]
theorem keysW_ths (S : List Th) (ρ : Rho) : keysW (some (thsD S, ρ)) = some ((S.map Th.nm).map PyData.str, ρ) := by
  show (if isKD (S.map Th.kv) = true then some ((S.map Th.kv).map (·.1), ρ) else none) = _
  rw [if_pos (kd_ths S), List.map_map, List.map_map]
  rfl
theorem names_ne {S : List Th} (T : Trs S) : dNe (.list ((sortSt (S.map Th.nm)).map PyData.str)) (.list ((sortSt (S.map Th.nm)).map PyData.str)) = some (.dat (.bool false)) := by
  refine dNe_self (m := 1) (Eqb.list (m := 0) fun d hd => ?_) (by decide) (by intro i h; cases h)
  obtain ⟨n, hn, rfl⟩ := List.mem_map.mp hd
  obtain ⟨t, ht, rfl⟩ := List.mem_map.mp ((sortSt_perm _).mem_iff.mp hn)
  exact Eqb.str (nm_ok (T.ok t ht).1)
theorem law_turn {ns : List Int} (k : Nat) (es : Rho) (h : ∃ e2 e3 e4 e5 e6 e7 e8 e9 e10 e11 e12 e13 e14, es = [e2, e3, e4, e5, e6, e7, e8, e9, e10, e11, e12, e13, e14]) : ∃ e1 es', fb5_law ((some (R.dat (.list (ns.map .int)))) :: (some (R.dat (.int k))) :: es) = some (.nx ((some (R.dat (.list (ns.map .int)))) :: e1 :: es')) ∧ ∃ e2 e3 e4 e5 e6 e7 e8 e9 e10 e11 e12 e13 e14, es' = [e2, e3, e4, e5, e6, e7, e8, e9, e10, e11, e12, e13, e14] := by
  obtain ⟨e2, e3, e4, e5, e6, e7, e8, e9, e10, e11, e12, e13, e14, rfl⟩ := h
  obtain ⟨cell, c1⟩ := cell_is ns (k := (k : Int)) (by omega)
  obtain ⟨p, c2, o2⟩ := pot_is cell
  obtain ⟨p1, S, c3, o3, T⟩ := truths_is o2
  have nd : (S.map Th.nm).Nodup := T.nd
  have nl : (S.map Th.nm).length ≤ 6 := by rw [List.length_map]; exact T.l6
  generalize hs0 : ((some (R.dat (.list (ns.map .int)))) : Option R) = s0 at *
  generalize hs1 : ((some (R.dat (.int (k : Int)))) : Option R) = s1 at *
  -- pot, truths, plain
  have q1 : asgM 2 (callM sem__law_pot (consA (callM sem__law_cell_at (consA (nmM 0) (consA (nmM 1) nilA))) nilA)) [s0, s1, e2, e3, e4, e5, e6, e7, e8, e9, e10, e11, e12, e13, e14] = some (.nx [s0, s1, (some (R.own (p))), e3, e4, e5, e6, e7, e8, e9, e10, e11, e12, e13, e14]) := by
    subst hs0 hs1
    simp [c1, c2]
  have q2 : asgM 3 (callM sem__law_truths (consA (nmM 2) nilA)) [s0, s1, (some (R.own (p))), e3, e4, e5, e6, e7, e8, e9, e10, e11, e12, e13, e14] = some (.nx [s0, s1, (some (R.own (p1))), (some (R.own (thsD S))), e4, e5, e6, e7, e8, e9, e10, e11, e12, e13, e14]) := by
    generalize thsD S = TD at *
    simp [c3]
  have q3 : asgM 4 (lstM nilA) [s0, s1, (some (R.own (p1))), (some (R.own (thsD S))), e4, e5, e6, e7, e8, e9, e10, e11, e12, e13, e14] = some (.nx [s0, s1, (some (R.own (p1))), (some (R.own (thsD S))), (some (R.own (.list []))), e5, e6, e7, e8, e9, e10, e11, e12, e13, e14]) := by
    generalize thsD S = TD at *
    simp
  obtain ⟨f5, pl⟩ := plain_loop T s0 s1 ((some (R.own (p1)))) e6 e7 e8 e9 e10 e11 e12 e13 e14 (S.map Th.nm) [] e5 (fun n hn => hn) (by rw [List.length_nil]; omega)
  rw [List.nil_append] at pl
  have gp := g0_ok T
  obtain ⟨lp, np, xp, wp, lenp⟩ := lt_flat T gp
  have q4 : forDM 3 (gnM 5) fb1_law [s0, s1, (some (R.own (p1))), (some (R.own (thsD S))), (some (R.own (.list []))), e5, e6, e7, e8, e9, e10, e11, e12, e13, e14] = some (.nx [s0, s1, (some (R.own (p1))), (some (R.dat (thsD S))), (some (R.own (.list ((((S.map Th.nm).map (G0 S)).flatten).map Dd.v)))), f5, e6, e7, e8, e9, e10, e11, e12, e13, e14]) := by
    show (match keysW (some (thsD S, [s0, s1, (some (R.own (p1))), (some (R.dat (thsD S))), (some (R.own (.list []))), e5, e6, e7, e8, e9, e10, e11, e12, e13, e14])) with
      | some (ys, ρ1) => nxS (forL (gnM 5) fb1_law ys ρ1)
      | none => none) = _
    rw [keysW_ths]
    dsimp only
    rw [List.map_nil] at pl
    rw [pl]
    rfl
  generalize hP : ((S.map Th.nm).map (G0 S)).flatten = P at *
  have lo1 := ledgerof_is lp (.inr rfl)
  have q5 : asgM 6 (callM sem__law_ledger_of (consA (nmM 4) nilA)) [s0, s1, (some (R.own (p1))), (some (R.dat (thsD S))), (some (R.own (.list (P.map Dd.v)))), f5, e6, e7, e8, e9, e10, e11, e12, e13, e14] = some (.nx [s0, s1, (some (R.own (p1))), (some (R.dat (thsD S))), (some (R.dat (.list (P.map Dd.v)))), f5, some (LDs P), e7, e8, e9, e10, e11, e12, e13, e14]) := by
    unfold LDs LD at *
    generalize (WL P).map thsD = w at *
    generalize P.map Dd.v = pv at *
    generalize thsD S = TD at *
    simp [lo1]
  -- by turns
  obtain ⟨p2, G, lt, o4, gg⟩ := lc_turns T s0 s1 ((some (R.dat (.list (P.map Dd.v))))) (some (LDs P)) e7 e8 e9 e10 e11 e12 e13 e14 (S.map Th.nm) p1 [] o3 (fun n hn => hn) nd (by rw [List.length_nil]; omega)
  rw [List.nil_append] at lt
  have gt : GOk S G := fun t ht => gg t.nm (List.mem_map_of_mem ht) t ht rfl
  have gx := fun n hn x hx => (g_deeds T gt n hn x hx).2.2
  obtain ⟨p3, ds, wo, o5, w1⟩ := woven_is nd nl o4 gx (Nat.le_trans (g_tot gt T.l6) (by decide))
  obtain ⟨ld, ndd, xd, wd, lend⟩ := lt_wov T gt w1
  have q6 : asgM 7 (callM sem__law_woven (consA (nmM 2) (consA (lcDM 3 (gnM 5) [5] yesT ce1_law) nilA))) [s0, s1, (some (R.own (p1))), (some (R.dat (thsD S))), (some (R.dat (.list (P.map Dd.v)))), f5, some (LDs P), e7, e8, e9, e10, e11, e12, e13, e14] = some (.nx [s0, s1, (some (R.own (p3))), (some (R.dat (thsD S))), (some (R.dat (.list (P.map Dd.v)))), none, some (LDs P), (some (R.own (.list (ds.map Dd.v)))), e8, e9, e10, e11, e12, e13, e14]) := by
    have lc : lcDM 3 (gnM 5) [5] yesT ce1_law [s0, s1, (some (R.own (p1))), (some (R.dat (thsD S))), (some (R.dat (.list (P.map Dd.v)))), f5, some (LDs P), e7, e8, e9, e10, e11, e12, e13, e14] = some (.ok (.own (.list ((S.map Th.nm).map fun n => .list (rowD (G n))))) [s0, s1, (some (R.own (p2))), (some (R.dat (thsD S))), (some (R.dat (.list (P.map Dd.v)))), none, some (LDs P), e7, e8, e9, e10, e11, e12, e13, e14]) := by
      show (match keysW (some (thsD S, [s0, s1, (some (R.own (p1))), (some (R.dat (thsD S))), (some (R.dat (.list (P.map Dd.v)))), f5, some (LDs P), e7, e8, e9, e10, e11, e12, e13, e14])) with
        | some (ys, ρ1) => lsO (lcL (gnM 5) [5] yesT ce1_law ys (wipeR ρ1 [5]) [])
        | none => none) = _
      rw [keysW_ths]
      dsimp only
      show lsO (lcL (gnM 5) [5] yesT ce1_law _ [s0, s1, (some (R.own (p1))), (some (R.dat (thsD S))), (some (R.dat (.list (P.map Dd.v)))), none, some (LDs P), e7, e8, e9, e10, e11, e12, e13, e14] []) = _
      rw [lt]
      rfl
    unfold LDs LD at *
    generalize (WL P).map thsD = w at *
    generalize P.map Dd.v = pv at *
    generalize thsD S = TD at *
    generalize ((S.map Th.nm).map fun n => PyData.list (rowD (G n))) = LL at *
    generalize ds.map Dd.v = dv at *
    simp [lc, wo]
  have lo2 := ledgerof_is ld (.inr rfl)
  have q7 : asgM 8 (callM sem__law_ledger_of (consA (nmM 7) nilA)) [s0, s1, (some (R.own (p3))), (some (R.dat (thsD S))), (some (R.dat (.list (P.map Dd.v)))), none, some (LDs P), (some (R.own (.list (ds.map Dd.v)))), e8, e9, e10, e11, e12, e13, e14] = some (.nx [s0, s1, (some (R.own (p3))), (some (R.dat (thsD S))), (some (R.dat (.list (P.map Dd.v)))), none, some (LDs P), (some (R.dat (.list (ds.map Dd.v)))), some (LDs ds), e9, e10, e11, e12, e13, e14]) := by
    unfold LDs LD at *
    generalize (WL P).map thsD = w at *
    generalize (WL ds).map thsD = w2 at *
    generalize P.map Dd.v = pv at *
    generalize ds.map Dd.v = dv at *
    generalize thsD S = TD at *
    simp [lo2]
  -- the books are one
  have bE : bkD (fin [] ds) = bkD (fin [] P) := bkD_ext ndd np fun n => by rw [xd n, xp n]
  have nE : sortSt ((fin [] ds).map Th.nm) = sortSt (S.map Th.nm) := (bk_ext ndd T.nd xd).2
  have nE2 : sortSt ((fin [] P).map Th.nm) = sortSt (S.map Th.nm) := (bk_ext np T.nd xp).2
  have b8 := book_now ld
  rw [bE] at b8
  have b6 := book_now lp
  have nb := bkD_ne (fin [] P)
  have n8 := names_is (ts := ds.map Dd.v) (WL_last ld) (fin_small ld)
  have n6 := names_is (ts := P.map Dd.v) (WL_last lp) (fin_small lp)
  rw [nE] at n8
  rw [nE2] at n6
  have nn := names_ne T
  have ln := len_is (ds.map Dd.v) (WL ds)
  have lo8 := fun ρ => lenOR_is (n := (((ds.map Dd.v).length : Nat) : Int)) (ρ := ρ) (by rw [List.length_map]; omega)
  have ll : (ds.map Dd.v).length ≤ 100000 := by rw [List.length_map]; omega
  have q8 : ifM (orT (tsM (op2M dNe (metM true 8 sem_Ledger_book [.none] nilA) (metM true 6 sem_Ledger_book [.none] nilA))) (orT (tsM (op2M dNe (metM true 8 sem_Ledger_names [] nilA) (metM true 6 sem_Ledger_names [] nilA))) (tsM (op2M dNe (lenOM 8 sem_Ledger_len) (opnM (on1 lenD) (consA (nmM 7) nilA)))))) (retM 1 (cM (.bool false))) skipM [s0, s1, (some (R.own (p3))), (some (R.dat (thsD S))), (some (R.dat (.list (P.map Dd.v)))), none, some (LDs P), (some (R.dat (.list (ds.map Dd.v)))), some (LDs ds), e9, e10, e11, e12, e13, e14] = some (.nx [s0, s1, (some (R.own (p3))), (some (R.dat (thsD S))), (some (R.dat (.list (P.map Dd.v)))), none, some (LDs P), (some (R.dat (.list (ds.map Dd.v)))), some (LDs ds), e9, e10, e11, e12, e13, e14]) := by
    unfold LDs LD at *
    generalize (WL P).map thsD = w at *
    generalize (WL ds).map thsD = w2 at *
    generalize P.map Dd.v = pv at *
    generalize ds.map Dd.v = dv at *
    generalize thsD S = TD at *
    generalize bkD (fin [] P) = B at *
    generalize (sortSt (S.map Th.nm)).map PyData.str = NL at *
    simp [b8, b6, nb, n8, n6, nn, ln, lo8, ll]
  -- the rightly told ones by turns
  have lr := lc_right T s0 s1 ((some (R.own (p3)))) ((some (R.dat (.list (P.map Dd.v))))) (some (LDs P)) ((some (R.dat (.list (ds.map Dd.v))))) (some (LDs ds)) e9 e10 e11 e12 e13 e14 (S.map Th.nm) [] (fun n hn => hn) (by rw [List.length_nil]; omega)
  rw [List.nil_append] at lr
  have gx0 := fun n hn x hx => (g_deeds T gp n hn x hx).2.2
  obtain ⟨p4, os, wo2, o6, w2⟩ := woven_is nd nl o5 gx0 (Nat.le_trans (g_tot gp T.l6) (by decide))
  obtain ⟨lo, ndo, xo, wdo, leno⟩ := lt_wov T gp w2
  have q9 : asgM 9 (callM sem__law_woven (consA (nmM 2) (consA (lcDM 3 (gnM 5) [5] yesT ce2_law) nilA))) [s0, s1, (some (R.own (p3))), (some (R.dat (thsD S))), (some (R.dat (.list (P.map Dd.v)))), none, some (LDs P), (some (R.dat (.list (ds.map Dd.v)))), some (LDs ds), e9, e10, e11, e12, e13, e14] = some (.nx [s0, s1, (some (R.own (p4))), (some (R.dat (thsD S))), (some (R.dat (.list (P.map Dd.v)))), none, some (LDs P), (some (R.dat (.list (ds.map Dd.v)))), some (LDs ds), (some (R.own (.list (os.map Dd.v)))), e10, e11, e12, e13, e14]) := by
    have lc : lcDM 3 (gnM 5) [5] yesT ce2_law [s0, s1, (some (R.own (p3))), (some (R.dat (thsD S))), (some (R.dat (.list (P.map Dd.v)))), none, some (LDs P), (some (R.dat (.list (ds.map Dd.v)))), some (LDs ds), e9, e10, e11, e12, e13, e14] = some (.ok (.own (.list ((S.map Th.nm).map fun n => .list (rowD (G0 S n))))) [s0, s1, (some (R.own (p3))), (some (R.dat (thsD S))), (some (R.dat (.list (P.map Dd.v)))), none, some (LDs P), (some (R.dat (.list (ds.map Dd.v)))), some (LDs ds), e9, e10, e11, e12, e13, e14]) := by
      show (match keysW (some (thsD S, [s0, s1, (some (R.own (p3))), (some (R.dat (thsD S))), (some (R.dat (.list (P.map Dd.v)))), none, some (LDs P), (some (R.dat (.list (ds.map Dd.v)))), some (LDs ds), e9, e10, e11, e12, e13, e14])) with
        | some (ys, ρ1) => lsO (lcL (gnM 5) [5] yesT ce2_law ys (wipeR ρ1 [5]) [])
        | none => none) = _
      rw [keysW_ths]
      dsimp only
      show lsO (lcL (gnM 5) [5] yesT ce2_law _ [s0, s1, (some (R.own (p3))), (some (R.dat (thsD S))), (some (R.dat (.list (P.map Dd.v)))), none, some (LDs P), (some (R.dat (.list (ds.map Dd.v)))), some (LDs ds), e9, e10, e11, e12, e13, e14] []) = _
      rw [lr]
      rfl
    unfold LDs LD at *
    generalize (WL P).map thsD = w at *
    generalize (WL ds).map thsD = w2 at *
    generalize P.map Dd.v = pv at *
    generalize ds.map Dd.v = dv at *
    generalize os.map Dd.v = ov at *
    generalize thsD S = TD at *
    generalize ((S.map Th.nm).map fun n => PyData.list (rowD (G0 S n))) = LL at *
    simp [lc, wo2]
  have lo3 := ledgerof_is lo (.inr rfl)
  have bo := book_now lo
  have bE2 : bkD (fin [] os) = bkD (fin [] P) := bkD_ext ndo np fun n => by rw [xo n, xp n]
  rw [bE2] at bo
  have q10 : ifM (tsM (op2M dNe (metEM true (callM sem__law_ledger_of (consA (nmM 9) nilA)) sem_Ledger_book [.none] nilA) (metM true 6 sem_Ledger_book [.none] nilA))) (retM 1 (cM (.bool false))) skipM [s0, s1, (some (R.own (p4))), (some (R.dat (thsD S))), (some (R.dat (.list (P.map Dd.v)))), none, some (LDs P), (some (R.dat (.list (ds.map Dd.v)))), some (LDs ds), (some (R.own (.list (os.map Dd.v)))), e10, e11, e12, e13, e14] = some (.nx [s0, s1, (some (R.own (p4))), (some (R.dat (thsD S))), (some (R.dat (.list (P.map Dd.v)))), none, some (LDs P), (some (R.dat (.list (ds.map Dd.v)))), some (LDs ds), (some (R.dat (.list (os.map Dd.v)))), e10, e11, e12, e13, e14]) := by
    unfold LDs LD at *
    generalize (WL P).map thsD = w at *
    generalize (WL ds).map thsD = w2 at *
    generalize (WL os).map thsD = w3 at *
    generalize P.map Dd.v = pv at *
    generalize ds.map Dd.v = dv at *
    generalize os.map Dd.v = ov at *
    generalize thsD S = TD at *
    generalize bkD (fin [] P) = B at *
    have f1 : (callM sem__law_ledger_of (consA (nmM 9) nilA)) [s0, s1, (some (R.own (p4))), (some (R.dat (TD))), (some (R.dat (.list pv))), none, some (.obj (.led pv w)), (some (R.dat (.list dv))), some (.obj (.led dv w2)), (some (R.own (.list ov))), e10, e11, e12, e13, e14] = some (.ok (.obj (.led ov w3)) [s0, s1, (some (R.own (p4))), (some (R.dat (TD))), (some (R.dat (.list pv))), none, some (.obj (.led pv w)), (some (R.dat (.list dv))), some (.obj (.led dv w2)), (some (R.dat (.list ov))), e10, e11, e12, e13, e14]) := by
      simp [lo3]
    have me : metEM true (callM sem__law_ledger_of (consA (nmM 9) nilA)) sem_Ledger_book [.none] nilA [s0, s1, (some (R.own (p4))), (some (R.dat (TD))), (some (R.dat (.list pv))), none, some (.obj (.led pv w)), (some (R.dat (.list dv))), some (.obj (.led dv w2)), (some (R.own (.list ov))), e10, e11, e12, e13, e14] = some (.ok (.dat B) [s0, s1, (some (R.own (p4))), (some (R.dat (TD))), (some (R.dat (.list pv))), none, some (.obj (.led pv w)), (some (R.dat (.list dv))), some (.obj (.led dv w2)), (some (R.dat (.list ov))), e10, e11, e12, e13, e14]) := by
      unfold metEM
      rw [f1, bindO_ok, if_pos (show isObR true (.obj (.led ov w3)) = true from rfl)]
      simp [retE, bo]
    simp [me, b6, nb]
  -- each telling
  have dl : (ds.map Dd.v).length = ds.length := List.length_map ..
  have r1 : ∀ ρ, rg1 (.dat (.int (((ds.map Dd.v).length : Int) + 1))) ρ = some (.ok (rngL 0 (ds.length + 1)) ρ) := fun ρ => by
    rw [rg1_is ρ (by omega) (by omega), dl]
    congr 3
  obtain ⟨f10, nm⟩ := nums_loop ld s0 s1 ((some (R.own (p4)))) ((some (R.dat (thsD S)))) ((some (R.dat (.list (P.map Dd.v))))) none (some (LDs P)) ((some (R.dat (.list (os.map Dd.v))))) e11 e12 e13 e14 (ds.length + 1) 0 e10 (by omega)
  have q11 : forM (irM1 (op2M dPlus (opnM (on1 lenD) (consA (nmM 7) nilA)) (cM (.int 1)))) (gnM 10) fb2_law [s0, s1, (some (R.own (p4))), (some (R.dat (thsD S))), (some (R.dat (.list (P.map Dd.v)))), none, some (LDs P), (some (R.dat (.list (ds.map Dd.v)))), some (LDs ds), (some (R.dat (.list (os.map Dd.v)))), e10, e11, e12, e13, e14] = some (.nx [s0, s1, (some (R.own (p4))), (some (R.dat (thsD S))), (some (R.dat (.list (P.map Dd.v)))), none, some (LDs P), (some (R.dat (.list (ds.map Dd.v)))), some (LDs ds), (some (R.dat (.list (os.map Dd.v)))), f10, e11, e12, e13, e14]) := by
    have nm' : forL (gnM 10) fb2_law (rngL 0 (ds.length + 1)) [s0, s1, (some (R.own (p4))), (some (R.dat (thsD S))), (some (R.dat (.list (P.map Dd.v)))), none, some (LDs P), (some (R.dat (.list (ds.map Dd.v)))), some (LDs ds), (some (R.dat (.list (os.map Dd.v)))), e10, e11, e12, e13, e14] = _ := nm
    unfold LDs LD at *
    generalize (WL P).map thsD = w at *
    generalize (WL ds).map thsD = w2 at *
    generalize P.map Dd.v = pv at *
    generalize ds.map Dd.v = dv at *
    generalize os.map Dd.v = ov at *
    generalize thsD S = TD at *
    generalize rngL 0 (ds.length + 1) = RR at *
    simp [ll, r1, nm']
  -- the twin
  obtain ⟨v, p5, t1, v0, v1, o7⟩ := take_is o6 (b := ((ds.map Dd.v).length : Int) + 1) (by omega) (by omega)
  obtain ⟨a, rfl⟩ : ∃ a : Nat, v = (a : Int) := ⟨v.toNat, by omega⟩
  have al : a ≤ ds.length := by omega
  have q12 : parM 13 14 (twM 8) (callM sem__law_take (consA (nmM 2) (consA (op2M dPlus (opnM (on1 lenD) (consA (nmM 7) nilA)) (cM (.int 1))) nilA))) [s0, s1, (some (R.own (p4))), (some (R.dat (thsD S))), (some (R.dat (.list (P.map Dd.v)))), none, some (LDs P), (some (R.dat (.list (ds.map Dd.v)))), some (LDs ds), (some (R.dat (.list (os.map Dd.v)))), f10, e11, e12, e13, e14] = some (.nx [s0, s1, (some (R.own (p5))), (some (R.dat (thsD S))), (some (R.dat (.list (P.map Dd.v)))), none, some (LDs P), (some (R.dat (.list (ds.map Dd.v)))), some (LDs ds), (some (R.dat (.list (os.map Dd.v)))), f10, e11, e12, some (LDs ds), (some (R.dat (.int a)))]) := by
    have l2 : (ds.map Dd.v).length < 100000 := by omega
    have l3 : ((WL ds).map thsD).length < 100000 := by rw [List.length_map, WL_len ld]; omega
    have l4 : ((WL ds).map thsD).length ≤ 100000 := by omega
    unfold LDs LD at *
    generalize (WL P).map thsD = w at *
    generalize (WL ds).map thsD = w2 at *
    generalize P.map Dd.v = pv at *
    generalize ds.map Dd.v = dv at *
    generalize os.map Dd.v = ov at *
    generalize thsD S = TD at *
    simp [ll, t1, l2, l3, l4, twR]
  have r2 : ∀ ρ, rg1 (.dat (.int (((ds.map Dd.v).length : Int) - (a : Int)))) ρ = some (.ok (rngL 0 (ds.length - a)) ρ) := fun ρ => by
    rw [rg1_is ρ (by omega) (by omega), dl]
    congr 3
    omega
  obtain ⟨f11, ud⟩ := undo_loop ld s0 s1 ((some (R.own (p5)))) ((some (R.dat (thsD S)))) ((some (R.dat (.list (P.map Dd.v))))) none (some (LDs P)) ((some (R.dat (.list (ds.map Dd.v))))) (some (LDs ds)) ((some (R.dat (.list (os.map Dd.v))))) f10 e12 ((some (R.dat (.int a)))) (ds.length - a) 0 a e11 (by omega)
  have ta : ds.take (a + (ds.length - a)) = ds := List.take_of_length_le (by omega)
  rw [ta] at ud
  have q13 : forM (irM1 (op2M dMinus (opnM (on1 lenD) (consA (nmM 7) nilA)) (nmM 14))) (gnM 11) fb3_law [s0, s1, (some (R.own (p5))), (some (R.dat (thsD S))), (some (R.dat (.list (P.map Dd.v)))), none, some (LDs P), (some (R.dat (.list (ds.map Dd.v)))), some (LDs ds), (some (R.dat (.list (os.map Dd.v)))), f10, e11, e12, some (LDs ds), (some (R.dat (.int a)))] = some (.nx [s0, s1, (some (R.own (p5))), (some (R.dat (thsD S))), (some (R.dat (.list (P.map Dd.v)))), none, some (LDs P), (some (R.dat (.list (ds.map Dd.v)))), some (LDs ds), (some (R.dat (.list (os.map Dd.v)))), f10, f11, e12, some (LDs (ds.take a)), (some (R.dat (.int a)))]) := by
    unfold LDs LD at *
    generalize (WL P).map thsD = w at *
    generalize (WL ds).map thsD = w2 at *
    generalize (WL (ds.take a)).map thsD = w4 at *
    generalize (ds.take a).map Dd.v = tv at *
    generalize P.map Dd.v = pv at *
    generalize ds.map Dd.v = dv at *
    generalize os.map Dd.v = ov at *
    generalize thsD S = TD at *
    generalize rngL 0 (ds.length - a) = RR at *
    simp [ll, r2, ud]
  have lt_ := lt_take ld a
  have lo4 := ledgerof_is lt_ (.inl rfl)
  have eqa := eq_self (ds := ds.take a) fun x hx => wd x (List.mem_of_mem_take hx)
  have ba := book_now lt_
  have bt := book_then ld al
  have nba := bkD_ne (fin [] (ds.take a))
  have ct := cut_to (ds.map Dd.v) (i := (a : Int)) (by omega)
  rw [← List.map_take] at ct
  have cf := cut_from (ds.map Dd.v) (i := (a : Int)) (by omega)
  rw [← List.map_drop] at cf
  have ea : (a : Int).toNat = a := by omega
  rw [ea] at ct cf
  have q14 : ifM (orT (tsM (eqOM true sem_Ledger_eq (nmM 13) (callM sem__law_ledger_of (consA (slM (nmM 7) none (some (nmM 14))) nilA)))) (tsM (op2M dNe (metM true 13 sem_Ledger_book [.none] nilA) (metM true 8 sem_Ledger_book [] (consA (nmM 14) nilA))))) (retM 1 (cM (.bool false))) skipM [s0, s1, (some (R.own (p5))), (some (R.dat (thsD S))), (some (R.dat (.list (P.map Dd.v)))), none, some (LDs P), (some (R.dat (.list (ds.map Dd.v)))), some (LDs ds), (some (R.dat (.list (os.map Dd.v)))), f10, f11, e12, some (LDs (ds.take a)), (some (R.dat (.int a)))] = some (.nx [s0, s1, (some (R.own (p5))), (some (R.dat (thsD S))), (some (R.dat (.list (P.map Dd.v)))), none, some (LDs P), (some (R.dat (.list (ds.map Dd.v)))), some (LDs ds), (some (R.dat (.list (os.map Dd.v)))), f10, f11, e12, some (LDs (ds.take a)), (some (R.dat (.int a)))]) := by
    unfold LDs LD at *
    generalize bkD (fin [] (ds.take a)) = BA at *
    generalize (WL P).map thsD = w at *
    generalize (WL ds).map thsD = w2 at *
    generalize (WL (ds.take a)).map thsD = w4 at *
    generalize (ds.take a).map Dd.v = tv at *
    generalize P.map Dd.v = pv at *
    generalize ds.map Dd.v = dv at *
    generalize os.map Dd.v = ov at *
    generalize thsD S = TD at *
    simp [ll, ct, lo4, eqa, ba, bt, nba]
  obtain ⟨f12, te⟩ := tell_loop s0 s1 ((some (R.own (p5)))) ((some (R.dat (thsD S)))) ((some (R.dat (.list (P.map Dd.v))))) none (some (LDs P)) ((some (R.dat (.list (ds.map Dd.v))))) (some (LDs ds)) ((some (R.dat (.list (os.map Dd.v))))) f10 f11 ((some (R.dat (.int a)))) (ds.drop a) (ds.take a) e12 (by rw [List.take_append_drop]; exact ld)
  rw [List.take_append_drop] at te
  have q15 : forM (iM (slM (nmM 7) (some (nmM 14)) none)) (gnM 12) fb4_law [s0, s1, (some (R.own (p5))), (some (R.dat (thsD S))), (some (R.dat (.list (P.map Dd.v)))), none, some (LDs P), (some (R.dat (.list (ds.map Dd.v)))), some (LDs ds), (some (R.dat (.list (os.map Dd.v)))), f10, f11, e12, some (LDs (ds.take a)), (some (R.dat (.int a)))] = some (.nx [s0, s1, (some (R.own (p5))), (some (R.dat (thsD S))), (some (R.dat (.list (P.map Dd.v)))), none, some (LDs P), (some (R.dat (.list (ds.map Dd.v)))), some (LDs ds), (some (R.dat (.list (os.map Dd.v)))), f10, f11, f12, some (LDs ds), (some (R.dat (.int a)))]) := by
    unfold LDs LD at *
    generalize (WL P).map thsD = w at *
    generalize (WL ds).map thsD = w2 at *
    generalize (WL (ds.take a)).map thsD = w4 at *
    generalize (ds.take a).map Dd.v = tv at *
    generalize (ds.drop a).map Dd.v = uv at *
    generalize P.map Dd.v = pv at *
    generalize ds.map Dd.v = dv at *
    generalize os.map Dd.v = ov at *
    generalize thsD S = TD at *
    simp [ll, cf, te]
  have eqd := eq_self wd
  have q16 : ifM (orT (tsM (eqOM true sem_Ledger_eq (nmM 13) (nmM 8))) (tsM (op2M dNe (metM true 13 sem_Ledger_book [.none] nilA) (metM true 6 sem_Ledger_book [.none] nilA)))) (retM 1 (cM (.bool false))) skipM [s0, s1, (some (R.own (p5))), (some (R.dat (thsD S))), (some (R.dat (.list (P.map Dd.v)))), none, some (LDs P), (some (R.dat (.list (ds.map Dd.v)))), some (LDs ds), (some (R.dat (.list (os.map Dd.v)))), f10, f11, f12, some (LDs ds), (some (R.dat (.int a)))] = some (.nx [s0, s1, (some (R.own (p5))), (some (R.dat (thsD S))), (some (R.dat (.list (P.map Dd.v)))), none, some (LDs P), (some (R.dat (.list (ds.map Dd.v)))), some (LDs ds), (some (R.dat (.list (os.map Dd.v)))), f10, f11, f12, some (LDs ds), (some (R.dat (.int a)))]) := by
    unfold LDs LD at *
    generalize bkD (fin [] P) = B at *
    generalize (WL P).map thsD = w at *
    generalize (WL ds).map thsD = w2 at *
    generalize P.map Dd.v = pv at *
    generalize ds.map Dd.v = dv at *
    generalize os.map Dd.v = ov at *
    generalize thsD S = TD at *
    simp [eqd, b8, b6, nb]
  refine ⟨s1, [(some (R.own (p5))), (some (R.dat (thsD S))), (some (R.dat (.list (P.map Dd.v)))), none, some (LDs P), (some (R.dat (.list (ds.map Dd.v)))), some (LDs ds), (some (R.dat (.list (os.map Dd.v)))), f10, f11, f12, some (LDs ds), (some (R.dat (.int a)))], ?_, _, _, _, _, _, _, _, _, _, _, _, _, _, rfl⟩
  unfold fb5_law
  rw [seqM_nx q1, seqM_nx q2, seqM_nx q3, seqM_nx q4, seqM_nx q5, seqM_nx q6, seqM_nx q7, seqM_nx q8, seqM_nx q9, seqM_nx q10, seqM_nx q11, seqM_nx q12, seqM_nx q13, seqM_nx q14, seqM_nx q15, q16]
theorem law_true : ∀ ns : List Int, ns.length ≤ 63 → ∃ os, sem_law [.dat (.list (ns.map .int))] = some (.ok (.dat (.bool true)) os) := by
  intro ns hn
  obtain ⟨m, hm⟩ := turns_is (ns := ns) (c := 2) (by omega)
  obtain ⟨e1, es, e, _⟩ := loopK (body := fb5_law) (ns := ns) _ (fun k es h => law_turn k es h) m none [none, none, none, none, none, none, none, none, none, none, none, none, none] ⟨_, _, _, _, _, _, _, _, _, _, _, _, _, rfl⟩
  refine ⟨outs 1 pr_law ((some (R.dat (.list (ns.map .int)))) :: e1 :: es), ?_⟩
  rw [run_law]
  unfold m_law
  simp [hm, e]
end Lw
namespace Lw
open PySem L2 DL
abbrev N__law_pot : List Str := ["_law_cell", "_law_number", "_law_j", "_law_more"]
theorem sc__law_pot : FnScope N__law_pot ["_law_cell"] (defScope st__law_pot) := ⟨rfl, rfl, rfl, by decide +kernel, rfl, by decide +kernel, by decide +kernel⟩
abbrev N__law_take : List Str := ["_law_pot_here", "_law_far", "_law_found"]
theorem sc__law_take : FnScope N__law_take ["_law_pot_here", "_law_far"] (defScope st__law_take) := ⟨rfl, rfl, rfl, by decide +kernel, rfl, by decide +kernel, by decide +kernel⟩
abbrev N__law_truths : List Str := ["_law_pot_here", "_law_found", "_law_name", "_law_begin", "_law_first"]
theorem sc__law_truths : FnScope N__law_truths ["_law_pot_here"] (defScope st__law_truths) := ⟨rfl, rfl, rfl, by decide +kernel, rfl, by decide +kernel, by decide +kernel⟩
abbrev N_is_whole : List Str := ["thing"]
theorem sc_is_whole : FnScope N_is_whole ["thing"] (defScope st_is_whole) := ⟨rfl, rfl, rfl, by decide +kernel, rfl, by decide +kernel, by decide +kernel⟩
abbrev N_is_from_to : List Str := ["thing", "low", "high"]
theorem sc_is_from_to : FnScope N_is_from_to ["thing", "low", "high"] (defScope st_is_from_to) := ⟨rfl, rfl, rfl, by decide +kernel, rfl, by decide +kernel, by decide +kernel⟩
abbrev N_need_day : List Str := ["thing"]
theorem sc_need_day : FnScope N_need_day ["thing"] (defScope st_need_day) := ⟨rfl, rfl, rfl, by decide +kernel, rfl, by decide +kernel, by decide +kernel⟩
abbrev N_is_name : List Str := ["thing", "sign"]
theorem sc_is_name : FnScope N_is_name ["thing"] (defScope st_is_name) := ⟨rfl, rfl, rfl, by decide +kernel, rfl, by decide +kernel, by decide +kernel⟩
abbrev N_Ledger_become : List Str := ["self", "deed", "name", "thing", "things"]
theorem sc_Ledger_become : FnScope N_Ledger_become ["self", "deed", "name", "thing"] (defScope st_Ledger_become) := ⟨rfl, rfl, rfl, by decide +kernel, rfl, by decide +kernel, by decide +kernel⟩
abbrev N_Ledger_begin : List Str := ["self", "name", "day", "watched", "first"]
theorem sc_Ledger_begin : FnScope N_Ledger_begin ["self", "name", "day", "watched"] (defScope st_Ledger_begin) := ⟨rfl, rfl, rfl, by decide +kernel, rfl, by decide +kernel, by decide +kernel⟩
abbrev N_Ledger_thing_of : List Str := ["self", "name"]
theorem sc_Ledger_thing_of : FnScope N_Ledger_thing_of ["self", "name"] (defScope st_Ledger_thing_of) := ⟨rfl, rfl, rfl, by decide +kernel, rfl, by decide +kernel, by decide +kernel⟩
abbrev N_Ledger_known_with : List Str := ["self", "name", "day", "begin", "first", "last", "end"]
theorem sc_Ledger_known_with : FnScope N_Ledger_known_with ["self", "name", "day"] (defScope st_Ledger_known_with) := ⟨rfl, rfl, rfl, by decide +kernel, rfl, by decide +kernel, by decide +kernel⟩
abbrev N_Ledger_seen : List Str := ["self", "name", "day", "begin", "first", "last", "end"]
theorem sc_Ledger_seen : FnScope N_Ledger_seen ["self", "name", "day"] (defScope st_Ledger_seen) := ⟨rfl, rfl, rfl, by decide +kernel, rfl, by decide +kernel, by decide +kernel⟩
abbrev N_need_end : List Str := ["thing", "least"]
theorem sc_need_end : FnScope N_need_end ["thing", "least"] (defScope st_need_end) := ⟨rfl, rfl, rfl, by decide +kernel, rfl, by decide +kernel, by decide +kernel⟩
abbrev N_Ledger_ended : List Str := ["self", "name", "day", "end", "begin", "first", "last", "ahead"]
theorem sc_Ledger_ended : FnScope N_Ledger_ended ["self", "name", "day", "end"] (defScope st_Ledger_ended) := ⟨rfl, rfl, rfl, by decide +kernel, rfl, by decide +kernel, by decide +kernel⟩
abbrev N_Ledger_mend : List Str := ["self", "name", "day", "end", "begin", "first", "last", "ahead"]
theorem sc_Ledger_mend : FnScope N_Ledger_mend ["self", "name", "day", "end"] (defScope st_Ledger_mend) := ⟨rfl, rfl, rfl, by decide +kernel, rfl, by decide +kernel, by decide +kernel⟩
abbrev N_Ledger_drop : List Str := ["self", "name"]
theorem sc_Ledger_drop : FnScope N_Ledger_drop ["self", "name"] (defScope st_Ledger_drop) := ⟨rfl, rfl, rfl, by decide +kernel, rfl, by decide +kernel, by decide +kernel⟩
abbrev N_Ledger_undo : List Str := ["self"]
theorem sc_Ledger_undo : FnScope N_Ledger_undo ["self"] (defScope st_Ledger_undo) := ⟨rfl, rfl, rfl, by decide +kernel, rfl, by decide +kernel, by decide +kernel⟩
abbrev N__law_tell : List Str := ["_law_book_of", "_law_deed"]
theorem sc__law_tell : FnScope N__law_tell ["_law_book_of", "_law_deed"] (defScope st__law_tell) := ⟨rfl, rfl, rfl, by decide +kernel, rfl, by decide +kernel, by decide +kernel⟩
abbrev N__law_ledger_of : List Str := ["_law_deeds", "_law_ledger", "_law_deed"]
theorem sc__law_ledger_of : FnScope N__law_ledger_of ["_law_deeds"] (defScope st__law_ledger_of) := ⟨rfl, rfl, rfl, by decide +kernel, rfl, by decide +kernel, by decide +kernel⟩
abbrev N__law_woven : List Str := ["_law_pot_here", "_law_lines", "_law_left", "_law_found", "_law_some", "_law_line", "_law_row"]
theorem sc__law_woven : FnScope N__law_woven ["_law_pot_here", "_law_lines"] (defScope st__law_woven) := ⟨rfl, rfl, rfl, by decide +kernel, rfl, by decide +kernel, by decide +kernel⟩
abbrev N__law_cell_at : List Str := ["_law_script", "_law_k"]
theorem sc__law_cell_at : FnScope N__law_cell_at ["_law_script", "_law_k"] (defScope st__law_cell_at) := ⟨rfl, rfl, rfl, by decide +kernel, rfl, by decide +kernel, by decide +kernel⟩
abbrev N__law_rightly : List Str := ["_law_truths_here", "_law_name", "_law_final", "_law_begin", "_law_first", "_law_last", "_law_end"]
theorem sc__law_rightly : FnScope N__law_rightly ["_law_truths_here", "_law_name"] (defScope st__law_rightly) := ⟨rfl, rfl, rfl, by decide +kernel, rfl, by decide +kernel, by decide +kernel⟩
abbrev N__law_by_turns : List Str := ["_law_pot_here", "_law_truths_here", "_law_name", "_law_begin", "_law_first", "_law_last", "_law_end", "_law_found", "_law_way", "_law_wrong"]
theorem sc__law_by_turns : FnScope N__law_by_turns ["_law_pot_here", "_law_truths_here", "_law_name"] (defScope st__law_by_turns) := ⟨rfl, rfl, rfl, by decide +kernel, rfl, by decide +kernel, by decide +kernel⟩
abbrev N_book_by : List Str := ["things", "found", "name", "begin", "first", "last", "end"]
theorem sc_book_by : FnScope N_book_by ["things"] (defScope st_book_by) := ⟨rfl, rfl, rfl, by decide +kernel, rfl, by decide +kernel, by decide +kernel⟩
abbrev N_Ledger_book : List Str := ["self", "told", "number"]
theorem sc_Ledger_book : FnScope N_Ledger_book ["self", "told"] (defScope st_Ledger_book) := ⟨rfl, rfl, rfl, by decide +kernel, rfl, by decide +kernel, by decide +kernel⟩
abbrev N_Ledger_eq : List Str := ["self", "other"]
theorem sc_Ledger_eq : FnScope N_Ledger_eq ["self", "other"] (defScope st_Ledger_eq) := ⟨rfl, rfl, rfl, by decide +kernel, rfl, by decide +kernel, by decide +kernel⟩
abbrev N_Ledger_names : List Str := ["self"]
theorem sc_Ledger_names : FnScope N_Ledger_names ["self"] (defScope st_Ledger_names) := ⟨rfl, rfl, rfl, by decide +kernel, rfl, by decide +kernel, by decide +kernel⟩
abbrev N_Ledger_len : List Str := ["self"]
theorem sc_Ledger_len : FnScope N_Ledger_len ["self"] (defScope st_Ledger_len) := ⟨rfl, rfl, rfl, by decide +kernel, rfl, by decide +kernel, by decide +kernel⟩
abbrev N_law : List Str := ["_law_script", "_law_k", "_law_pot_here", "_law_truths_here", "_law_plain", "_law_name", "_law_right", "_law_deeds", "_law_late", "_law_orders", "_law_number", "_law_turn", "_law_deed", "_law_twin", "_law_at"]
theorem sc_law : FnScope N_law ["_law_script"] (defScope st_law) := ⟨rfl, rfl, rfl, by decide +kernel, rfl, by decide +kernel, by decide +kernel⟩
theorem ini_L : IniL st_Linit := ⟨⟨rfl, rfl, rfl, by decide +kernel, rfl, by decide +kernel, by decide +kernel⟩, ⟨_, _, _, _, _, _, _, _, _, ⟨0, 0, 0, 0⟩, rfl⟩⟩
theorem twn_L : TwinS st_twin := ⟨⟨rfl, rfl, rfl, by decide +kernel, rfl, by decide +kernel, by decide +kernel⟩, rfl, by decide +kernel, by decide +kernel, ⟨_, _, _, _, _, _, _, _, _, _, _, _, _, _, _, _, _, _, _, _, _, _, _, rfl⟩⟩
structure Gv (mg : Str → Option Value) (T : Tb) : Prop where
  b_all : mg "all" = none
  b_bool : mg "bool" = none
  b_dict : mg "dict" = none
  b_int : mg "int" = none
  b_isinstance : mg "isinstance" = none
  b_len : mg "len" = none
  b_list : mg "list" = none
  b_max : mg "max" = none
  b_min : mg "min" = none
  b_range : mg "range" = none
  b_sorted : mg "sorted" = none
  b_str : mg "str" = none
  b_tuple : mg "tuple" = none
  KINDS : ∃ u v, mg "KINDS" = some u ∧ L2.RelV v u ∧ ∀ H F, DF T.K H F v k_KINDS
  LETTERS : ∃ u v, mg "LETTERS" = some u ∧ L2.RelV v u ∧ ∀ H F, DF T.K H F v k_LETTERS
  MOST_AGE : ∃ u v, mg "MOST_AGE" = some u ∧ L2.RelV v u ∧ ∀ H F, DF T.K H F v k_MOST_AGE
  MOST_DAY : ∃ u v, mg "MOST_DAY" = some u ∧ L2.RelV v u ∧ ∀ H F, DF T.K H F v k_MOST_DAY
  MOST_SIGNS : ∃ u v, mg "MOST_SIGNS" = some u ∧ L2.RelV v u ∧ ∀ H F, DF T.K H F v k_MOST_SIGNS
  MOST_SPANS : ∃ u v, mg "MOST_SPANS" = some u ∧ L2.RelV v u ∧ ∀ H F, DF T.K H F v k_MOST_SPANS
  x_NoKind : ExE mg T "NoKind" 1
  x_NoNumber : ExE mg T "NoNumber" 2
  x_NoName : ExE mg T "NoName" 3
  x_NoDay : ExE mg T "NoDay" 4
  x_NoDeed : ExE mg T "NoDeed" 5
  led : LedC T
  eqc : EqC T.K T.lc
  isl : IslC T.K T.lc
  mgL : mg "Ledger" = some (.ref T.lc)
theorem b__law_pot {X : Cx} {T : Tb} {W : WX} {H : Hp} (a : At X N__law_pot (defScope st__law_pot)) (hk : X.env.scope.kind = .function) (fn : ∀ x, X.fn x = true) (c : Cxt X T W 0) (g : Gv X.mg T) : SB X T W ⟨H, 1, pr__law_pot⟩ (defBody st__law_pot) m__law_pot := by
  unfold m__law_pot fb1__law_pot
  exact (ss_cons (ss_if (t_ge c (se_n a 0 (by decide +kernel)) (e_pow c se_int se_int)) (ss_one (ss_ret (se_lst (sd_cons (e_sub c (se_n a 0 (by decide +kernel)) (e_pow c se_int se_int)) sa_nil)))) ss_nil)
    (ss_cons (ss_a a c.nd fn 1 (by decide +kernel) rfl se_int)
    (ss_cons (ss_for c.po c.calm (e_rng1 a (by decide +kernel) g.b_range se_int) (sg_n a c.nd (.inl (fn _)) 2 (by decide +kernel) rfl) (ss_cons (ss_a a c.nd fn 3 (by decide +kernel) rfl (e_mod c (e_mul c (e_add c (e_add c (e_mod c (se_n a 0 (by decide +kernel)) se_int) (e_mul c se_int (se_n a 2 (by decide +kernel)))) se_int) se_int) se_int))
    (ss_cons (ss_a a c.nd fn 3 (by decide +kernel) rfl (e_mod c (e_add c (e_add c (e_mul c (se_n a 3 (by decide +kernel)) (se_n a 3 (by decide +kernel))) (e_mul c se_int (se_n a 2 (by decide +kernel)))) se_int) se_int))
    (ss_one (ss_a a c.nd fn 1 (by decide +kernel) rfl (e_add c (e_mul c (se_n a 1 (by decide +kernel)) se_int) (se_n a 3 (by decide +kernel))))))))
    (ss_one (ss_ret (se_lst (sd_cons (se_n a 1 (by decide +kernel)) sa_nil)))))))
theorem b__law_take {X : Cx} {T : Tb} {W : WX} {H : Hp} (a : At X N__law_take (defScope st__law_take)) (hk : X.env.scope.kind = .function) (fn : ∀ x, X.fn x = true) (c : Cxt X T W 0) (g : Gv X.mg T) : SB X T W ⟨H, 2, pr__law_take⟩ (defBody st__law_take) m__law_take := by
  unfold m__law_take
  exact (ss_cons (ss_a a c.nd fn 2 (by decide +kernel) rfl (e_mod c (e_ixA c (se_n a 0 (by decide +kernel)) se_int) (se_n a 1 (by decide +kernel))))
    (ss_cons (ss_set (e_fd c (e_ixA c (se_n a 0 (by decide +kernel)) se_int) (se_n a 1 (by decide +kernel))) (pg_sub (pe_n a 0 (by decide +kernel)) se_int set_list))
    (ss_one (ss_ret (se_n a 2 (by decide +kernel))))))
theorem b__law_truths {X : Cx} {T : Tb} {W : WX} {H : Hp} (a : At X N__law_truths (defScope st__law_truths)) (hk : X.env.scope.kind = .function) (fn : ∀ x, X.fn x = true) (c : Cxt X T W 1) (g : Gv X.mg T) (h__law_take : FnE X.prog X.w X.mg X.base T "_law_take" 1 2 sem__law_take) : SB X T W ⟨H, 1, pr__law_truths⟩ (defBody st__law_truths) m__law_truths := by
  unfold m__law_truths fb1__law_truths
  exact (ss_cons (ss_a a c.nd fn 1 (by decide +kernel) rfl (e_dict0 c))
    (ss_cons (ss_for c.po c.calm (si_seq c.hK (se_slice c.hK (se_lst (sd_cons se_str (sd_cons se_str (sd_cons se_str (sd_cons se_str (sd_cons se_str (sd_cons se_str sa_nil))))))) so_none (so_some (e_add c se_int (se_f a (by decide +kernel) c h__law_take runD_len (by decide) (sa_cons (se_n a 0 (by decide +kernel)) (sa_cons se_int sa_nil))))))) (sg_n a c.nd (.inl (fn _)) 2 (by decide +kernel) rfl) (ss_cons (ss_a a c.nd fn 3 (by decide +kernel) rfl (se_f a (by decide +kernel) c h__law_take runD_len (by decide) (sa_cons (se_n a 0 (by decide +kernel)) (sa_cons se_int sa_nil))))
    (ss_cons (ss_a a c.nd fn 4 (by decide +kernel) rfl (e_add c (se_n a 3 (by decide +kernel)) (e_ixA c (se_lst (sd_cons se_int (sd_cons (se_f a (by decide +kernel) c h__law_take runD_len (by decide) (sa_cons (se_n a 0 (by decide +kernel)) (sa_cons se_int sa_nil))) sa_nil))) (se_f a (by decide +kernel) c h__law_take runD_len (by decide) (sa_cons (se_n a 0 (by decide +kernel)) (sa_cons se_int sa_nil))))))
    (ss_one (s_setK a c 1 (by decide +kernel) (se_tup (sd_cons (se_n a 3 (by decide +kernel)) (sd_cons (se_n a 4 (by decide +kernel)) (sd_cons (e_add c (e_add c (se_n a 4 (by decide +kernel)) se_int) (se_f a (by decide +kernel) c h__law_take runD_len (by decide) (sa_cons (se_n a 0 (by decide +kernel)) (sa_cons se_int sa_nil)))) (sd_cons (se_f a (by decide +kernel) c h__law_take runD_len (by decide) (sa_cons (se_n a 0 (by decide +kernel)) (sa_cons se_int sa_nil))) sa_nil))))) (se_n a 2 (by decide +kernel)))))))
    (ss_one (ss_ret (se_n a 1 (by decide +kernel))))))
theorem b_is_whole {X : Cx} {T : Tb} {W : WX} {H : Hp} (a : At X N_is_whole (defScope st_is_whole)) (hk : X.env.scope.kind = .function) (fn : ∀ x, X.fn x = true) (c : Cxt X T W 0) (g : Gv X.mg T) : SB X T W ⟨H, 1, pr_is_whole⟩ (defBody st_is_whole) m_is_whole := by
  unfold m_is_whole
  exact (ss_one (ss_ret (se_and (se_is a c.hK (by decide +kernel) g.b_isinstance (by decide +kernel) g.b_int (by decide +kernel) (se_n a 0 (by decide +kernel))) (se_one (se_not (se_is a c.hK (by decide +kernel) g.b_isinstance (by decide +kernel) g.b_bool (by decide +kernel) (se_n a 0 (by decide +kernel))))))))
theorem b_is_from_to {X : Cx} {T : Tb} {W : WX} {H : Hp} (a : At X N_is_from_to (defScope st_is_from_to)) (hk : X.env.scope.kind = .function) (fn : ∀ x, X.fn x = true) (c : Cxt X T W 1) (g : Gv X.mg T) (h_is_whole : FnE X.prog X.w X.mg X.base T "is_whole" 1 1 sem_is_whole) : SB X T W ⟨H, 3, pr_is_from_to⟩ (defBody st_is_from_to) m_is_from_to := by
  unfold m_is_from_to
  exact (ss_one (ss_ret (se_and (se_f a (by decide +kernel) c h_is_whole runD_len (by decide) (sa_cons (se_n a 0 (by decide +kernel)) sa_nil)) (se_one (e_ch Ord.le Ord.le (se_n a 1 (by decide +kernel)) (se_n a 0 (by decide +kernel)) (se_n a 2 (by decide +kernel)))))))
theorem b_need_day {X : Cx} {T : Tb} {W : WX} {H : Hp} (a : At X N_need_day (defScope st_need_day)) (hk : X.env.scope.kind = .function) (fn : ∀ x, X.fn x = true) (c : Cxt X T W 2) (g : Gv X.mg T) (h_is_from_to : FnE X.prog X.w X.mg X.base T "is_from_to" 2 3 sem_is_from_to) : SB X T W ⟨H, 1, pr_need_day⟩ (defBody st_need_day) m_need_day := by
  unfold m_need_day
  exact (ss_one (ss_if (st_not (st_val (se_f a (by decide +kernel) c h_is_from_to runD_len (by decide) (sa_cons (se_n a 0 (by decide +kernel)) (sa_cons se_int (sa_cons (se_g (v := .non) a (by decide +kernel) g.MOST_DAY) sa_nil)))))) (ss_one (s_raise a c g.x_NoDay (by decide +kernel))) ss_nil))
theorem b_is_name {X : Cx} {T : Tb} {W : WX} {H : Hp} (a : At X N_is_name (defScope st_is_name)) (hk : X.env.scope.kind = .function) (fn : ∀ x, X.fn x = true) (c : Cxt X T W 0) (g : Gv X.mg T) : SB X T W ⟨H, 1, pr_is_name⟩ (defBody st_is_name) m_is_name := by
  unfold m_is_name ce1_is_name
  exact (ss_cons (ss_if (st_w (sw_or (st_not (st_val (se_is a c.hK (by decide +kernel) g.b_isinstance (by decide +kernel) g.b_str (by decide +kernel) (se_n a 0 (by decide +kernel))))) (sw_or1 (st_not (t_ch Ord.le Ord.le se_int (e_len a c (by decide +kernel) g.b_len (sa_cons (se_n a 0 (by decide +kernel)) sa_nil)) (se_g (v := .non) a (by decide +kernel) g.MOST_SIGNS)))))) (ss_one (ss_ret se_bl)) ss_nil)
    (ss_one (ss_ret (e_all a c (by decide +kernel) g.b_all (sa_cons (se_lc (own := [("sign", 1)]) c.calm c.nd (si_str (se_n a 0 (by decide +kernel))) (a.blkOk (by decide +kernel)) (fun s1 H1 C1 cl1 fp1 => (sg_n (a.blk s1 H1 _ cl1 C1 fp1) (c.blk s1 H1 _ _ fp1).nd (.inr (lclB_ok (by decide +kernel))) 1 (by decide +kernel) rfl)) (fun s1 H1 C1 cl1 fp1 => sts_nil) (fun s1 H1 C1 cl1 fp1 => (e_inC (se_n (a.blk s1 H1 _ cl1 C1 fp1) 1 (by decide +kernel)) (se_g (v := .non) (a.blk s1 H1 _ cl1 C1 fp1) (by decide +kernel) g.LETTERS)))) sa_nil)))))
theorem b_Ledger_become {X : Cx} {T : Tb} {W : WX} {H : Hp} (a : At X N_Ledger_become (defScope st_Ledger_become)) (hk : X.env.scope.kind = .function) (fn : ∀ x, X.fn x = true) (c : Cxt X T W 0) (g : Gv X.mg T) : SB X T W ⟨H, 4, pr_Ledger_become⟩ (defBody st_Ledger_become) m_Ledger_become := by
  unfold m_Ledger_become
  exact (ss_cons (ss_a a c.nd fn 4 (by decide +kernel) rfl (e_dictK a c (by decide +kernel) g.b_dict (sa_cons (e_ixA c (se_pt c.hK g.led (pe_n a 0 (by decide +kernel)) 1 rfl rfl) (e_neg c se_int)) sa_nil)))
    (ss_cons (ss_if (t_isN c (se_n a 3 (by decide +kernel)) se_non) (ss_one (ss_expr (se_popK (pe_n a 4 (by decide +kernel)) (se_n a 2 (by decide +kernel)) ⟨rfl, rfl, rfl, rfl⟩))) (ss_one (s_setK a c 4 (by decide +kernel) (se_n a 3 (by decide +kernel)) (se_n a 2 (by decide +kernel)))))
    (ss_cons (ss_appP g.led rfl (pe_bm PySem.F.plainAttrs_list PySem.F.slot_list_append PySem.F.type_list_append mt_append (pe_pt c.hK g.led (pe_n a 0 (by decide +kernel)) 0 rfl rfl) (pa_cons (se_n a 1 (by decide +kernel)) pa_nil)))
    (ss_one (ss_appP g.led rfl (pe_bm PySem.F.plainAttrs_list PySem.F.slot_list_append PySem.F.type_list_append mt_append (pe_pt c.hK g.led (pe_n a 0 (by decide +kernel)) 1 rfl rfl) (pa_cons (se_n a 4 (by decide +kernel)) pa_nil)))))))
theorem b_Ledger_begin {X : Cx} {T : Tb} {W : WX} {H : Hp} (a : At X N_Ledger_begin (defScope st_Ledger_begin)) (hk : X.env.scope.kind = .function) (fn : ∀ x, X.fn x = true) (c : Cxt X T W 3) (g : Gv X.mg T) (h_Ledger_become : FnM X.prog X.w X.mg X.base T true "become" 1 4 sem_Ledger_become []) (h_need_day : FnE X.prog X.w X.mg X.base T "need_day" 3 1 sem_need_day) (h_is_name : FnE X.prog X.w X.mg X.base T "is_name" 1 1 sem_is_name) : SB X T W ⟨H, 4, pr_Ledger_begin⟩ (defBody st_Ledger_begin) m_Ledger_begin := by
  unfold m_Ledger_begin
  exact (ss_cons (ss_if (st_w (sw_or (st_not (st_val (se_f a (by decide +kernel) c h_is_name runD_len (by decide) (sa_cons (se_n a 1 (by decide +kernel)) sa_nil)))) (sw_or1 (t_inK c (se_n a 1 (by decide +kernel)) (e_ixA c (se_pt c.hK g.led (pe_n a 0 (by decide +kernel)) 1 rfl rfl) (e_neg c se_int)))))) (ss_one (s_raise a c g.x_NoName (by decide +kernel))) ss_nil)
    (ss_cons (ss_expr (se_f a (by decide +kernel) c h_need_day runD_len (by decide) (sa_cons (se_n a 2 (by decide +kernel)) sa_nil)))
    (ss_cons (ss_a a c.nd fn 4 (by decide +kernel) rfl (se_ite (t_isN c (se_n a 3 (by decide +kernel)) se_non) (se_n a 2 (by decide +kernel)) (se_n a 3 (by decide +kernel))))
    (ss_cons (ss_expr (se_f a (by decide +kernel) c h_need_day runD_len (by decide) (sa_cons (se_n a 4 (by decide +kernel)) sa_nil)))
    (ss_cons (ss_if (st_not (t_ch Ord.le Ord.lt (se_n a 2 (by decide +kernel)) (se_n a 4 (by decide +kernel)) (e_add c (se_n a 2 (by decide +kernel)) (se_g (v := .non) a (by decide +kernel) g.MOST_AGE)))) (ss_one (s_raise a c g.x_NoDay (by decide +kernel))) ss_nil)
    (ss_one (ss_expr (se_met (pe_n a 0 (by decide +kernel)) c h_Ledger_become runD_len (by decide) rfl (sa_cons (se_tup (sd_cons se_str (sd_cons (se_n a 1 (by decide +kernel)) (sd_cons (se_n a 2 (by decide +kernel)) (sd_cons (se_n a 4 (by decide +kernel)) sa_nil))))) (sa_cons (se_n a 1 (by decide +kernel)) (sa_cons (se_tup (sd_cons (se_n a 2 (by decide +kernel)) (sd_cons (se_n a 4 (by decide +kernel)) (sd_cons se_non (sd_cons se_int sa_nil))))) sa_nil)))))))))))
theorem b_Ledger_thing_of {X : Cx} {T : Tb} {W : WX} {H : Hp} (a : At X N_Ledger_thing_of (defScope st_Ledger_thing_of)) (hk : X.env.scope.kind = .function) (fn : ∀ x, X.fn x = true) (c : Cxt X T W 1) (g : Gv X.mg T) (h_is_name : FnE X.prog X.w X.mg X.base T "is_name" 1 1 sem_is_name) : SB X T W ⟨H, 2, pr_Ledger_thing_of⟩ (defBody st_Ledger_thing_of) m_Ledger_thing_of := by
  unfold m_Ledger_thing_of
  exact (ss_cons (ss_if (st_w (sw_or (st_not (st_val (se_f a (by decide +kernel) c h_is_name runD_len (by decide) (sa_cons (se_n a 1 (by decide +kernel)) sa_nil)))) (sw_or1 (t_ninK c (se_n a 1 (by decide +kernel)) (e_ixA c (se_pt c.hK g.led (pe_n a 0 (by decide +kernel)) 1 rfl rfl) (e_neg c se_int)))))) (ss_one (s_raise a c g.x_NoName (by decide +kernel))) ss_nil)
    (ss_one (ss_ret (e_ixA c (e_ixA c (se_pt c.hK g.led (pe_n a 0 (by decide +kernel)) 1 rfl rfl) (e_neg c se_int)) (se_n a 1 (by decide +kernel))))))
theorem b_Ledger_known_with {X : Cx} {T : Tb} {W : WX} {H : Hp} (a : At X N_Ledger_known_with (defScope st_Ledger_known_with)) (hk : X.env.scope.kind = .function) (fn : ∀ x, X.fn x = true) (c : Cxt X T W 3) (g : Gv X.mg T) (h_Ledger_thing_of : FnM X.prog X.w X.mg X.base T true "thing_of" 2 2 sem_Ledger_thing_of []) (h_need_day : FnE X.prog X.w X.mg X.base T "need_day" 3 1 sem_need_day) : SB X T W ⟨H, 3, pr_Ledger_known_with⟩ (defBody st_Ledger_known_with) m_Ledger_known_with := by
  unfold m_Ledger_known_with
  exact (ss_cons (ss_asgT (se_met (pe_n a 0 (by decide +kernel)) c h_Ledger_thing_of runD_len (by decide) rfl (sa_cons (se_n a 1 (by decide +kernel)) sa_nil)) (sg_tup c.hK c.calm (sgs_cons (sg_n a c.nd (.inl (fn _)) 3 (by decide +kernel) rfl) (sgs_cons (sg_n a c.nd (.inl (fn _)) 4 (by decide +kernel) rfl) (sgs_cons (sg_n a c.nd (.inl (fn _)) 5 (by decide +kernel) rfl) (sgs_cons (sg_n a c.nd (.inl (fn _)) 6 (by decide +kernel) rfl) sgs_nil)))) (gsC_len (gsC_len (gsC_len (gsC_len gs0_len))))))
    (ss_cons (ss_expr (se_f a (by decide +kernel) c h_need_day runD_len (by decide) (sa_cons (se_n a 2 (by decide +kernel)) sa_nil)))
    (ss_cons (ss_if (st_not (t_ch Ord.lt Ord.le (se_n a 4 (by decide +kernel)) (se_n a 2 (by decide +kernel)) (e_add c (se_n a 3 (by decide +kernel)) (se_g (v := .non) a (by decide +kernel) g.MOST_AGE)))) (ss_one (s_raise a c g.x_NoDay (by decide +kernel))) ss_nil)
    (ss_one (ss_ret (se_tup (sd_cons (se_n a 3 (by decide +kernel)) (sd_cons (se_n a 4 (by decide +kernel)) (sd_cons (se_n a 5 (by decide +kernel)) (sd_cons (se_n a 6 (by decide +kernel)) sa_nil))))))))))
theorem b_Ledger_seen {X : Cx} {T : Tb} {W : WX} {H : Hp} (a : At X N_Ledger_seen (defScope st_Ledger_seen)) (hk : X.env.scope.kind = .function) (fn : ∀ x, X.fn x = true) (c : Cxt X T W 4) (g : Gv X.mg T) (h_Ledger_known_with : FnM X.prog X.w X.mg X.base T true "known_with" 4 3 sem_Ledger_known_with []) (h_Ledger_become : FnM X.prog X.w X.mg X.base T true "become" 1 4 sem_Ledger_become []) : SB X T W ⟨H, 3, pr_Ledger_seen⟩ (defBody st_Ledger_seen) m_Ledger_seen := by
  unfold m_Ledger_seen
  exact (ss_cons (ss_asgT (se_met (pe_n a 0 (by decide +kernel)) c h_Ledger_known_with runD_len (by decide) rfl (sa_cons (se_n a 1 (by decide +kernel)) (sa_cons (se_n a 2 (by decide +kernel)) sa_nil))) (sg_tup c.hK c.calm (sgs_cons (sg_n a c.nd (.inl (fn _)) 3 (by decide +kernel) rfl) (sgs_cons (sg_n a c.nd (.inl (fn _)) 4 (by decide +kernel) rfl) (sgs_cons (sg_n a c.nd (.inl (fn _)) 5 (by decide +kernel) rfl) (sgs_cons (sg_n a c.nd (.inl (fn _)) 6 (by decide +kernel) rfl) sgs_nil)))) (gsC_len (gsC_len (gsC_len (gsC_len gs0_len))))))
    (ss_cons (ss_if (st_w (sw_or (t_gt c (se_n a 6 (by decide +kernel)) se_int) (sw_or1 (st_w (sw_and (t_notN c (se_n a 5 (by decide +kernel)) se_non) (sw_and1 (t_ge c (se_n a 5 (by decide +kernel)) (se_n a 2 (by decide +kernel))))))))) (ss_one (s_raise a c g.x_NoDeed (by decide +kernel))) ss_nil)
    (ss_one (ss_expr (se_met (pe_n a 0 (by decide +kernel)) c h_Ledger_become runD_len (by decide) rfl (sa_cons (se_tup (sd_cons se_str (sd_cons (se_n a 1 (by decide +kernel)) (sd_cons (se_n a 2 (by decide +kernel)) sa_nil)))) (sa_cons (se_n a 1 (by decide +kernel)) (sa_cons (se_tup (sd_cons (se_n a 3 (by decide +kernel)) (sd_cons (se_n a 4 (by decide +kernel)) (sd_cons (se_n a 2 (by decide +kernel)) (sd_cons se_int sa_nil))))) sa_nil))))))))
theorem b_need_end {X : Cx} {T : Tb} {W : WX} {H : Hp} (a : At X N_need_end (defScope st_need_end)) (hk : X.env.scope.kind = .function) (fn : ∀ x, X.fn x = true) (c : Cxt X T W 2) (g : Gv X.mg T) (h_is_from_to : FnE X.prog X.w X.mg X.base T "is_from_to" 2 3 sem_is_from_to) : SB X T W ⟨H, 2, pr_need_end⟩ (defBody st_need_end) m_need_end := by
  unfold m_need_end
  exact (ss_one (ss_if (st_not (st_val (se_f a (by decide +kernel) c h_is_from_to runD_len (by decide) (sa_cons (se_n a 0 (by decide +kernel)) (sa_cons (se_n a 1 (by decide +kernel)) (sa_cons (e_len a c (by decide +kernel) g.b_len (sa_cons (se_g (v := .non) a (by decide +kernel) g.KINDS) sa_nil)) sa_nil)))))) (ss_one (s_raise a c g.x_NoKind (by decide +kernel))) ss_nil))
theorem b_Ledger_ended {X : Cx} {T : Tb} {W : WX} {H : Hp} (a : At X N_Ledger_ended (defScope st_Ledger_ended)) (hk : X.env.scope.kind = .function) (fn : ∀ x, X.fn x = true) (c : Cxt X T W 4) (g : Gv X.mg T) (h_Ledger_known_with : FnM X.prog X.w X.mg X.base T true "known_with" 4 3 sem_Ledger_known_with []) (h_Ledger_become : FnM X.prog X.w X.mg X.base T true "become" 1 4 sem_Ledger_become []) (h_need_end : FnE X.prog X.w X.mg X.base T "need_end" 3 2 sem_need_end) : SB X T W ⟨H, 4, pr_Ledger_ended⟩ (defBody st_Ledger_ended) m_Ledger_ended := by
  unfold m_Ledger_ended
  exact (ss_cons (ss_asgT (se_met (pe_n a 0 (by decide +kernel)) c h_Ledger_known_with runD_len (by decide) rfl (sa_cons (se_n a 1 (by decide +kernel)) (sa_cons (se_n a 2 (by decide +kernel)) sa_nil))) (sg_tup c.hK c.calm (sgs_cons (sg_n a c.nd (.inl (fn _)) 4 (by decide +kernel) rfl) (sgs_cons (sg_n a c.nd (.inl (fn _)) 5 (by decide +kernel) rfl) (sgs_cons (sg_n a c.nd (.inl (fn _)) 6 (by decide +kernel) rfl) (sgs_cons (sg_n a c.nd (.inl (fn _)) 7 (by decide +kernel) rfl) sgs_nil)))) (gsC_len (gsC_len (gsC_len (gsC_len gs0_len))))))
    (ss_cons (ss_expr (se_f a (by decide +kernel) c h_need_end runD_len (by decide) (sa_cons (se_n a 3 (by decide +kernel)) (sa_cons se_int sa_nil))))
    (ss_cons (ss_if (st_w (sw_or (t_gt c (se_n a 7 (by decide +kernel)) se_int) (sw_or1 (st_w (sw_and (t_notN c (se_n a 6 (by decide +kernel)) se_non) (sw_and1 (t_gt c (se_n a 6 (by decide +kernel)) (se_n a 2 (by decide +kernel))))))))) (ss_one (s_raise a c g.x_NoDeed (by decide +kernel))) ss_nil)
    (ss_one (ss_expr (se_met (pe_n a 0 (by decide +kernel)) c h_Ledger_become runD_len (by decide) rfl (sa_cons (se_tup (sd_cons se_str (sd_cons (se_n a 1 (by decide +kernel)) (sd_cons (se_n a 2 (by decide +kernel)) (sd_cons (se_n a 3 (by decide +kernel)) sa_nil))))) (sa_cons (se_n a 1 (by decide +kernel)) (sa_cons (se_tup (sd_cons (se_n a 4 (by decide +kernel)) (sd_cons (se_n a 5 (by decide +kernel)) (sd_cons (se_n a 2 (by decide +kernel)) (sd_cons (se_n a 3 (by decide +kernel)) sa_nil))))) sa_nil)))))))))
theorem b_Ledger_mend {X : Cx} {T : Tb} {W : WX} {H : Hp} (a : At X N_Ledger_mend (defScope st_Ledger_mend)) (hk : X.env.scope.kind = .function) (fn : ∀ x, X.fn x = true) (c : Cxt X T W 4) (g : Gv X.mg T) (h_Ledger_known_with : FnM X.prog X.w X.mg X.base T true "known_with" 4 3 sem_Ledger_known_with []) (h_Ledger_become : FnM X.prog X.w X.mg X.base T true "become" 1 4 sem_Ledger_become []) (h_need_end : FnE X.prog X.w X.mg X.base T "need_end" 3 2 sem_need_end) : SB X T W ⟨H, 4, pr_Ledger_mend⟩ (defBody st_Ledger_mend) m_Ledger_mend := by
  unfold m_Ledger_mend
  exact (ss_cons (ss_asgT (se_met (pe_n a 0 (by decide +kernel)) c h_Ledger_known_with runD_len (by decide) rfl (sa_cons (se_n a 1 (by decide +kernel)) (sa_cons (se_n a 2 (by decide +kernel)) sa_nil))) (sg_tup c.hK c.calm (sgs_cons (sg_n a c.nd (.inl (fn _)) 4 (by decide +kernel) rfl) (sgs_cons (sg_n a c.nd (.inl (fn _)) 5 (by decide +kernel) rfl) (sgs_cons (sg_n a c.nd (.inl (fn _)) 6 (by decide +kernel) rfl) (sgs_cons (sg_n a c.nd (.inl (fn _)) 7 (by decide +kernel) rfl) sgs_nil)))) (gsC_len (gsC_len (gsC_len (gsC_len gs0_len))))))
    (ss_cons (ss_expr (se_f a (by decide +kernel) c h_need_end runD_len (by decide) (sa_cons (se_n a 3 (by decide +kernel)) (sa_cons se_int sa_nil))))
    (ss_one (ss_expr (se_met (pe_n a 0 (by decide +kernel)) c h_Ledger_become runD_len (by decide) rfl (sa_cons (se_tup (sd_cons se_str (sd_cons (se_n a 1 (by decide +kernel)) (sd_cons (se_n a 2 (by decide +kernel)) (sd_cons (se_n a 3 (by decide +kernel)) sa_nil))))) (sa_cons (se_n a 1 (by decide +kernel)) (sa_cons (se_tup (sd_cons (se_n a 4 (by decide +kernel)) (sd_cons (se_n a 5 (by decide +kernel)) (sd_cons (se_n a 2 (by decide +kernel)) (sd_cons (se_n a 3 (by decide +kernel)) sa_nil))))) sa_nil))))))))
theorem b_Ledger_drop {X : Cx} {T : Tb} {W : WX} {H : Hp} (a : At X N_Ledger_drop (defScope st_Ledger_drop)) (hk : X.env.scope.kind = .function) (fn : ∀ x, X.fn x = true) (c : Cxt X T W 2) (g : Gv X.mg T) (h_Ledger_thing_of : FnM X.prog X.w X.mg X.base T true "thing_of" 2 2 sem_Ledger_thing_of []) (h_Ledger_become : FnM X.prog X.w X.mg X.base T true "become" 1 4 sem_Ledger_become []) : SB X T W ⟨H, 2, pr_Ledger_drop⟩ (defBody st_Ledger_drop) m_Ledger_drop := by
  unfold m_Ledger_drop
  exact (ss_cons (ss_expr (se_met (pe_n a 0 (by decide +kernel)) c h_Ledger_thing_of runD_len (by decide) rfl (sa_cons (se_n a 1 (by decide +kernel)) sa_nil)))
    (ss_one (ss_expr (se_met (pe_n a 0 (by decide +kernel)) c h_Ledger_become runD_len (by decide) rfl (sa_cons (se_tup (sd_cons se_str (sd_cons (se_n a 1 (by decide +kernel)) sa_nil))) (sa_cons (se_n a 1 (by decide +kernel)) (sa_cons se_non sa_nil)))))))
theorem b_Ledger_undo {X : Cx} {T : Tb} {W : WX} {H : Hp} (a : At X N_Ledger_undo (defScope st_Ledger_undo)) (hk : X.env.scope.kind = .function) (fn : ∀ x, X.fn x = true) (c : Cxt X T W 0) (g : Gv X.mg T) : SB X T W ⟨H, 1, pr_Ledger_undo⟩ (defBody st_Ledger_undo) m_Ledger_undo := by
  unfold m_Ledger_undo
  exact (ss_cons (ss_if (t_eqE c (se_pt c.hK g.led (pe_n a 0 (by decide +kernel)) 0 rfl rfl) (se_lst sa_nil)) (ss_one (s_raise a c g.x_NoDeed (by decide +kernel))) ss_nil)
    (ss_cons (ss_expr (se_popP g.led rfl (pe_bm0 PySem.F.plainAttrs_list PySem.F.slot_list_pop PySem.F.type_list_pop mt_pop (pe_pt c.hK g.led (pe_n a 0 (by decide +kernel)) 0 rfl rfl))))
    (ss_one (ss_expr (se_popP g.led rfl (pe_bm0 PySem.F.plainAttrs_list PySem.F.slot_list_pop PySem.F.type_list_pop mt_pop (pe_pt c.hK g.led (pe_n a 0 (by decide +kernel)) 1 rfl rfl)))))))
theorem b__law_tell {X : Cx} {T : Tb} {W : WX} {H : Hp} (a : At X N__law_tell (defScope st__law_tell)) (hk : X.env.scope.kind = .function) (fn : ∀ x, X.fn x = true) (c : Cxt X T W 5) (g : Gv X.mg T) (h_Ledger_begin : FnM X.prog X.w X.mg X.base T true "begin" 4 4 sem_Ledger_begin []) (h_Ledger_seen : FnM X.prog X.w X.mg X.base T true "seen" 5 3 sem_Ledger_seen []) (h_Ledger_ended : FnM X.prog X.w X.mg X.base T true "ended" 5 4 sem_Ledger_ended []) (h_Ledger_mend : FnM X.prog X.w X.mg X.base T true "mend" 5 4 sem_Ledger_mend []) (h_Ledger_drop : FnM X.prog X.w X.mg X.base T true "drop" 3 2 sem_Ledger_drop []) (h_Ledger_undo : FnM X.prog X.w X.mg X.base T true "undo" 1 1 sem_Ledger_undo []) : SB X T W ⟨H, 2, pr__law_tell⟩ (defBody st__law_tell) m__law_tell := by
  unfold m__law_tell
  exact (ss_cons (ss_if (t_eq c (e_ixA c (se_n a 1 (by decide +kernel)) se_int) se_str) (ss_one (ss_ret (se_met (pe_n a 0 (by decide +kernel)) c h_Ledger_begin runD_len (by decide) rfl (sa_cons (e_ixA c (se_n a 1 (by decide +kernel)) se_int) (sa_cons (e_ixA c (se_n a 1 (by decide +kernel)) se_int) (sa_cons (e_ixA c (se_n a 1 (by decide +kernel)) se_int) sa_nil)))))) ss_nil)
    (ss_cons (ss_if (t_eq c (e_ixA c (se_n a 1 (by decide +kernel)) se_int) se_str) (ss_one (ss_ret (se_met (pe_n a 0 (by decide +kernel)) c h_Ledger_seen runD_len (by decide) rfl (sa_cons (e_ixA c (se_n a 1 (by decide +kernel)) se_int) (sa_cons (e_ixA c (se_n a 1 (by decide +kernel)) se_int) sa_nil))))) ss_nil)
    (ss_cons (ss_if (t_eq c (e_ixA c (se_n a 1 (by decide +kernel)) se_int) se_str) (ss_one (ss_ret (se_met (pe_n a 0 (by decide +kernel)) c h_Ledger_ended runD_len (by decide) rfl (sa_cons (e_ixA c (se_n a 1 (by decide +kernel)) se_int) (sa_cons (e_ixA c (se_n a 1 (by decide +kernel)) se_int) (sa_cons (e_ixA c (se_n a 1 (by decide +kernel)) se_int) sa_nil)))))) ss_nil)
    (ss_cons (ss_if (t_eq c (e_ixA c (se_n a 1 (by decide +kernel)) se_int) se_str) (ss_one (ss_ret (se_met (pe_n a 0 (by decide +kernel)) c h_Ledger_mend runD_len (by decide) rfl (sa_cons (e_ixA c (se_n a 1 (by decide +kernel)) se_int) (sa_cons (e_ixA c (se_n a 1 (by decide +kernel)) se_int) (sa_cons (e_ixA c (se_n a 1 (by decide +kernel)) se_int) sa_nil)))))) ss_nil)
    (ss_one (ss_ret (se_ite (t_eq c (e_ixA c (se_n a 1 (by decide +kernel)) se_int) se_str) (se_met (pe_n a 0 (by decide +kernel)) c h_Ledger_drop runD_len (by decide) rfl (sa_cons (e_ixA c (se_n a 1 (by decide +kernel)) se_int) sa_nil)) (se_met0 (pe_n a 0 (by decide +kernel)) c h_Ledger_undo runD_len (by decide) rfl))))))))
theorem b__law_ledger_of {X : Cx} {T : Tb} {W : WX} {H : Hp} (a : At X N__law_ledger_of (defScope st__law_ledger_of)) (hk : X.env.scope.kind = .function) (fn : ∀ x, X.fn x = true) (c : Cxt X T W 6) (g : Gv X.mg T) (h__law_tell : FnE X.prog X.w X.mg X.base T "_law_tell" 6 2 sem__law_tell) (hL : MkL X.prog X.w X.mg X.base T) : SB X T W ⟨H, 1, pr__law_ledger_of⟩ (defBody st__law_ledger_of) m__law_ledger_of := by
  unfold m__law_ledger_of fb1__law_ledger_of
  exact (ss_cons (ss_a a c.nd fn 1 (by decide +kernel) rfl (se_newL a (by decide +kernel) c hL (by decide)))
    (ss_cons (ss_for c.po c.calm (si_seq c.hK (se_n a 0 (by decide +kernel))) (sg_n a c.nd (.inl (fn _)) 2 (by decide +kernel) rfl) (ss_one (ss_expr (se_f a (by decide +kernel) c h__law_tell runD_len (by decide) (sa_cons (se_n a 1 (by decide +kernel)) (sa_cons (se_n a 2 (by decide +kernel)) sa_nil))))))
    (ss_one (ss_ret (se_n a 1 (by decide +kernel))))))
theorem b__law_woven {X : Cx} {T : Tb} {W : WX} {H : Hp} (a : At X N__law_woven (defScope st__law_woven)) (hk : X.env.scope.kind = .function) (fn : ∀ x, X.fn x = true) (c : Cxt X T W 1) (g : Gv X.mg T) (h__law_take : FnE X.prog X.w X.mg X.base T "_law_take" 1 2 sem__law_take) : SB X T W ⟨H, 2, pr__law_woven⟩ (defBody st__law_woven) m__law_woven := by
  unfold m__law_woven ce1__law_woven
  exact (ss_wv (iLn := 5) c.hK runD_len rfl rfl rfl (by decide) (by decide) (lt_N a 2 (by decide +kernel)) (lt_N a 3 (by decide +kernel)) (lt_N a 4 (by decide +kernel)) (lt_N a 6 (by decide +kernel))
    (ps_p2 a hk c.nd c.calm 2 3 (by decide +kernel) (by decide +kernel) (by decide) (by decide +kernel) (pe_lco (own := [("_law_line", 5)]) c.calm c.nd (si_seq c.hK (se_n a 1 (by decide +kernel))) (a.blkOk (by decide +kernel)) (fun s1 H1 C1 cl1 fp1 => (sg_n (a.blk s1 H1 _ cl1 C1 fp1) (c.blk s1 H1 _ _ fp1).nd (.inr (lclB_ok (by decide +kernel))) 5 (by decide +kernel) rfl)) (fun s1 H1 C1 cl1 fp1 => (e_list (a.blk s1 H1 _ cl1 C1 fp1) (c.blk s1 H1 _ _ fp1) (by decide +kernel) g.b_list (sa_cons (se_n (a.blk s1 H1 _ cl1 C1 fp1) 5 (by decide +kernel)) sa_nil)))) (pe_lst pa_nil))
    (ps_while c.po (pt_cmpR (op_neA c) (pe_sel (jL := 2) (iR := 6) a c (by decide +kernel) (by decide +kernel) (by decide +kernel) (by decide +kernel) rfl) (pe_lst pa_nil) (nomark _)) (pss_cons (ps_sel (jL := 2) (iR := 6) (i := 4) a hk c (by decide +kernel) (by decide +kernel) (by decide +kernel) (by decide +kernel) (by decide +kernel) (by decide +kernel) rfl) (pss_one (ps_expr (pe_bm PySem.F.plainAttrs_list PySem.F.slot_list_append PySem.F.type_list_append mt_append (pe_n a 3 (by decide +kernel)) (pa_cons (pe_bm PySem.F.plainAttrs_list PySem.F.slot_list_pop PySem.F.type_list_pop mt_popAt (pe_ix ix_seq (pe_n a 4 (by decide +kernel)) (pe_callR h__law_take c (by decide) (a.gl (by decide +kernel)).1 (pa_cons (pe_n a 0 (by decide +kernel)) (pa_cons (pe_callB call_lenX (a.gl (by decide +kernel)).1 g.b_len (by decide +kernel) (pa_cons (pe_n a 4 (by decide +kernel)) pa_nil)) pa_nil))) (fun _ _ => rfl)) (pa_cons pe_int pa_nil)) pa_nil))))))
    (ss_one (ss_ret (se_n a 3 (by decide +kernel)))))
theorem b__law_cell_at {X : Cx} {T : Tb} {W : WX} {H : Hp} (a : At X N__law_cell_at (defScope st__law_cell_at)) (hk : X.env.scope.kind = .function) (fn : ∀ x, X.fn x = true) (c : Cxt X T W 0) (g : Gv X.mg T) : SB X T W ⟨H, 2, pr__law_cell_at⟩ (defBody st__law_cell_at) m__law_cell_at := by
  unfold m__law_cell_at
  exact (ss_cons (ss_if (t_lt c (se_n a 1 (by decide +kernel)) (e_len a c (by decide +kernel) g.b_len (sa_cons (se_n a 0 (by decide +kernel)) sa_nil))) (ss_one (ss_ret (e_ixA c (se_n a 0 (by decide +kernel)) (se_n a 1 (by decide +kernel))))) ss_nil)
    (ss_one (ss_ret se_int)))
theorem b__law_rightly {X : Cx} {T : Tb} {W : WX} {H : Hp} (a : At X N__law_rightly (defScope st__law_rightly)) (hk : X.env.scope.kind = .function) (fn : ∀ x, X.fn x = true) (c : Cxt X T W 0) (g : Gv X.mg T) : SB X T W ⟨H, 2, pr__law_rightly⟩ (defBody st__law_rightly) m__law_rightly := by
  unfold m__law_rightly
  exact (ss_cons (ss_asgT (e_ixA c (se_n a 0 (by decide +kernel)) (se_n a 1 (by decide +kernel))) (sg_tup c.hK c.calm (sgs_cons (sg_n a c.nd (.inl (fn _)) 3 (by decide +kernel) rfl) (sgs_cons (sg_n a c.nd (.inl (fn _)) 4 (by decide +kernel) rfl) (sgs_cons (sg_n a c.nd (.inl (fn _)) 5 (by decide +kernel) rfl) (sgs_cons (sg_n a c.nd (.inl (fn _)) 6 (by decide +kernel) rfl) sgs_nil)))) (gsC_len (gsC_len (gsC_len (gsC_len gs0_len))))))
    (ss_cons (ss_a a c.nd fn 2 (by decide +kernel) rfl (se_ite (t_eq c (se_n a 6 (by decide +kernel)) se_int) (se_tup (sd_cons se_str (sd_cons (se_n a 1 (by decide +kernel)) (sd_cons (se_n a 5 (by decide +kernel)) sa_nil)))) (se_tup (sd_cons se_str (sd_cons (se_n a 1 (by decide +kernel)) (sd_cons (se_n a 5 (by decide +kernel)) (sd_cons (se_n a 6 (by decide +kernel)) sa_nil)))))))
    (ss_one (ss_ret (se_lst (sd_cons (se_tup (sd_cons se_str (sd_cons (se_n a 1 (by decide +kernel)) (sd_cons (se_n a 3 (by decide +kernel)) (sd_cons (se_n a 4 (by decide +kernel)) sa_nil))))) (sd_cons (se_n a 2 (by decide +kernel)) sa_nil)))))))
theorem b__law_by_turns {X : Cx} {T : Tb} {W : WX} {H : Hp} (a : At X N__law_by_turns (defScope st__law_by_turns)) (hk : X.env.scope.kind = .function) (fn : ∀ x, X.fn x = true) (c : Cxt X T W 1) (g : Gv X.mg T) (h__law_take : FnE X.prog X.w X.mg X.base T "_law_take" 1 2 sem__law_take) (h__law_rightly : FnE X.prog X.w X.mg X.base T "_law_rightly" 1 2 sem__law_rightly) : SB X T W ⟨H, 3, pr__law_by_turns⟩ (defBody st__law_by_turns) m__law_by_turns := by
  unfold m__law_by_turns
  exact (ss_cons (ss_asgT (e_ixA c (se_n a 1 (by decide +kernel)) (se_n a 2 (by decide +kernel))) (sg_tup c.hK c.calm (sgs_cons (sg_n a c.nd (.inl (fn _)) 3 (by decide +kernel) rfl) (sgs_cons (sg_n a c.nd (.inl (fn _)) 4 (by decide +kernel) rfl) (sgs_cons (sg_n a c.nd (.inl (fn _)) 5 (by decide +kernel) rfl) (sgs_cons (sg_n a c.nd (.inl (fn _)) 6 (by decide +kernel) rfl) sgs_nil)))) (gsC_len (gsC_len (gsC_len (gsC_len gs0_len))))))
    (ss_cons (ss_p2 a hk c.nd c.calm 7 8 (by decide +kernel) (by decide +kernel) (by decide) rfl rfl (by decide +kernel) (se_lst (sd_cons (se_tup (sd_cons se_str (sd_cons (se_n a 2 (by decide +kernel)) (sd_cons (se_n a 3 (by decide +kernel)) (sd_cons (se_n a 4 (by decide +kernel)) sa_nil))))) (sd_cons (se_tup (sd_cons se_str (sd_cons (se_n a 2 (by decide +kernel)) (sd_cons (e_add c (se_n a 4 (by decide +kernel)) se_int) sa_nil)))) sa_nil))) (se_f a (by decide +kernel) c h__law_take runD_len (by decide) (sa_cons (se_n a 0 (by decide +kernel)) (sa_cons se_int sa_nil))))
    (ss_cons (ss_if (t_eq c (se_n a 8 (by decide +kernel)) se_int) (ss_one (ss_ret (e_add c (se_n a 7 (by decide +kernel)) (se_slice c.hK (se_f a (by decide +kernel) c h__law_rightly runD_len (by decide) (sa_cons (se_n a 1 (by decide +kernel)) (sa_cons (se_n a 2 (by decide +kernel)) sa_nil))) (so_some se_int) so_none)))) ss_nil)
    (ss_cons (ss_if (t_eq c (se_n a 8 (by decide +kernel)) se_int) (ss_cons (ss_a a c.nd fn 9 (by decide +kernel) rfl (se_lst (sd_cons (se_tup (sd_cons se_str (sd_cons (se_n a 2 (by decide +kernel)) (sd_cons (e_add c (e_add c (se_n a 4 (by decide +kernel)) se_int) (se_f a (by decide +kernel) c h__law_take runD_len (by decide) (sa_cons (se_n a 0 (by decide +kernel)) (sa_cons se_int sa_nil)))) (sd_cons (e_add c se_int (se_f a (by decide +kernel) c h__law_take runD_len (by decide) (sa_cons (se_n a 0 (by decide +kernel)) (sa_cons se_int sa_nil)))) sa_nil))))) sa_nil)))
    (ss_one (ss_ret (e_add c (e_add c (se_n a 7 (by decide +kernel)) (se_n a 9 (by decide +kernel))) (se_lst (sd_cons (se_tup (sd_cons se_str (sd_cons (se_n a 2 (by decide +kernel)) (sd_cons (se_n a 5 (by decide +kernel)) (sd_cons (se_n a 6 (by decide +kernel)) sa_nil))))) sa_nil)))))) ss_nil)
    (ss_cons (ss_if (t_eq c (se_n a 8 (by decide +kernel)) se_int) (ss_one (ss_ret (e_add c (se_n a 7 (by decide +kernel)) (se_lst (sd_cons (se_tup (sd_cons se_str (sd_cons (se_n a 2 (by decide +kernel)) (sd_cons (e_add c (se_n a 4 (by decide +kernel)) se_int) (sd_cons se_int sa_nil))))) (sd_cons (se_tup (sd_cons se_str (sd_cons (se_n a 2 (by decide +kernel)) (sd_cons (se_n a 5 (by decide +kernel)) (sd_cons (se_n a 6 (by decide +kernel)) sa_nil))))) (sd_cons (se_tup (sd_cons se_str (sd_cons (se_n a 2 (by decide +kernel)) (sd_cons (se_n a 5 (by decide +kernel)) (sd_cons (se_n a 6 (by decide +kernel)) sa_nil))))) sa_nil))))))) ss_nil)
    (ss_cons (ss_if (t_eq c (se_n a 8 (by decide +kernel)) se_int) (ss_one (ss_ret (e_add c (e_add c (se_n a 7 (by decide +kernel)) (se_lst (sd_cons (se_tup (sd_cons se_str (sd_cons (se_n a 2 (by decide +kernel)) sa_nil))) sa_nil))) (se_f a (by decide +kernel) c h__law_rightly runD_len (by decide) (sa_cons (se_n a 1 (by decide +kernel)) (sa_cons (se_n a 2 (by decide +kernel)) sa_nil)))))) ss_nil)
    (ss_one (ss_ret (e_add c (e_add c (se_n a 7 (by decide +kernel)) (se_lst (sd_cons (se_tup (sd_cons se_str (sd_cons (se_n a 2 (by decide +kernel)) (sd_cons (e_add c (se_n a 4 (by decide +kernel)) se_int) sa_nil)))) (sd_cons (se_tup (sd_cons se_str (sd_cons (se_n a 2 (by decide +kernel)) (sd_cons (e_add c (se_n a 4 (by decide +kernel)) se_int) (sd_cons se_int sa_nil))))) sa_nil)))) (se_slice c.hK (se_f a (by decide +kernel) c h__law_rightly runD_len (by decide) (sa_cons (se_n a 1 (by decide +kernel)) (sa_cons (se_n a 2 (by decide +kernel)) sa_nil))) (so_some se_int) so_none))))))))))
theorem b_book_by {X : Cx} {T : Tb} {W : WX} {H : Hp} (a : At X N_book_by (defScope st_book_by)) (hk : X.env.scope.kind = .function) (fn : ∀ x, X.fn x = true) (c : Cxt X T W 0) (g : Gv X.mg T) : SB X T W ⟨H, 1, pr_book_by⟩ (defBody st_book_by) m_book_by := by
  unfold m_book_by fb1_book_by
  exact (ss_cons (ss_a a c.nd fn 1 (by decide +kernel) rfl (se_lst sa_nil))
    (ss_cons (ss_for c.po c.calm (si_seq c.hK (e_sortKS a c (by decide +kernel) g.b_sorted (sa_cons (se_n a 0 (by decide +kernel)) sa_nil))) (sg_n a c.nd (.inl (fn _)) 2 (by decide +kernel) rfl) (ss_cons (ss_asgT (e_ixA c (se_n a 0 (by decide +kernel)) (se_n a 2 (by decide +kernel))) (sg_tup c.hK c.calm (sgs_cons (sg_n a c.nd (.inl (fn _)) 3 (by decide +kernel) rfl) (sgs_cons (sg_n a c.nd (.inl (fn _)) 4 (by decide +kernel) rfl) (sgs_cons (sg_n a c.nd (.inl (fn _)) 5 (by decide +kernel) rfl) (sgs_cons (sg_n a c.nd (.inl (fn _)) 6 (by decide +kernel) rfl) sgs_nil)))) (gsC_len (gsC_len (gsC_len (gsC_len gs0_len))))))
    (ss_one (ss_if (t_notN c (se_n a 5 (by decide +kernel)) se_non) (ss_one (ss_app (pe_bm PySem.F.plainAttrs_list PySem.F.slot_list_append PySem.F.type_list_append mt_append (pe_n a 1 (by decide +kernel)) (pa_cons (se_tup (sd_cons (e_sub c (se_n a 4 (by decide +kernel)) (se_n a 3 (by decide +kernel))) (sd_cons (e_sub c (se_n a 5 (by decide +kernel)) (se_n a 3 (by decide +kernel))) (sd_cons (se_n a 6 (by decide +kernel)) sa_nil)))) pa_nil)))) ss_nil))))
    (ss_one (ss_ret (se_ite (t_ch Ord.le Ord.le se_int (e_len a c (by decide +kernel) g.b_len (sa_cons (se_n a 1 (by decide +kernel)) sa_nil)) (se_g (v := .non) a (by decide +kernel) g.MOST_SPANS)) (e_tuple a c (by decide +kernel) g.b_tuple (sa_cons (se_n a 1 (by decide +kernel)) sa_nil)) se_non)))))
theorem b_Ledger_book {X : Cx} {T : Tb} {W : WX} {H : Hp} (a : At X N_Ledger_book (defScope st_Ledger_book)) (hk : X.env.scope.kind = .function) (fn : ∀ x, X.fn x = true) (c : Cxt X T W 2) (g : Gv X.mg T) (h_book_by : FnE X.prog X.w X.mg X.base T "book_by" 1 1 sem_book_by) (h_is_from_to : FnE X.prog X.w X.mg X.base T "is_from_to" 2 3 sem_is_from_to) : SB X T W ⟨H, 2, pr_Ledger_book⟩ (defBody st_Ledger_book) m_Ledger_book := by
  unfold m_Ledger_book
  exact (ss_cons (ss_a a c.nd fn 2 (by decide +kernel) rfl (se_ite (t_isN c (se_n a 1 (by decide +kernel)) se_non) (e_len a c (by decide +kernel) g.b_len (sa_cons (se_pt c.hK g.led (pe_n a 0 (by decide +kernel)) 0 rfl rfl) sa_nil)) (se_n a 1 (by decide +kernel))))
    (ss_cons (ss_if (st_not (st_val (se_f a (by decide +kernel) c h_is_from_to runD_len (by decide) (sa_cons (se_n a 2 (by decide +kernel)) (sa_cons se_int (sa_cons (e_len a c (by decide +kernel) g.b_len (sa_cons (se_pt c.hK g.led (pe_n a 0 (by decide +kernel)) 0 rfl rfl) sa_nil)) sa_nil)))))) (ss_one (s_raise a c g.x_NoNumber (by decide +kernel))) ss_nil)
    (ss_one (ss_ret (se_f a (by decide +kernel) c h_book_by runD_len (by decide) (sa_cons (e_ixA c (se_pt c.hK g.led (pe_n a 0 (by decide +kernel)) 1 rfl rfl) (se_n a 2 (by decide +kernel))) sa_nil))))))
theorem b_Ledger_eq {X : Cx} {T : Tb} {W : WX} {H : Hp} (a : At X N_Ledger_eq (defScope st_Ledger_eq)) (hk : X.env.scope.kind = .function) (fn : ∀ x, X.fn x = true) (c : Cxt X T W 0) (g : Gv X.mg T) : SB X T W ⟨H, 2, pr_Ledger_eq⟩ (defBody st_Ledger_eq) m_Ledger_eq := by
  unfold m_Ledger_eq
  exact (ss_one (ss_ret (se_and (se_isL a c (by decide +kernel) g.b_isinstance (by decide +kernel) g.mgL g.isl (pe_n a 1 (by decide +kernel))) (se_one (e_eq c (se_pt c.hK g.led (pe_n a 0 (by decide +kernel)) 0 rfl rfl) (se_pt c.hK g.led (pe_n a 1 (by decide +kernel)) 0 rfl rfl))))))
theorem b_Ledger_names {X : Cx} {T : Tb} {W : WX} {H : Hp} (a : At X N_Ledger_names (defScope st_Ledger_names)) (hk : X.env.scope.kind = .function) (fn : ∀ x, X.fn x = true) (c : Cxt X T W 0) (g : Gv X.mg T) : SB X T W ⟨H, 1, pr_Ledger_names⟩ (defBody st_Ledger_names) m_Ledger_names := by
  unfold m_Ledger_names
  exact (ss_one (ss_ret (e_sortKS a c (by decide +kernel) g.b_sorted (sa_cons (e_ixA c (se_pt c.hK g.led (pe_n a 0 (by decide +kernel)) 1 rfl rfl) (e_neg c se_int)) sa_nil))))
theorem b_Ledger_len {X : Cx} {T : Tb} {W : WX} {H : Hp} (a : At X N_Ledger_len (defScope st_Ledger_len)) (hk : X.env.scope.kind = .function) (fn : ∀ x, X.fn x = true) (c : Cxt X T W 0) (g : Gv X.mg T) : SB X T W ⟨H, 1, pr_Ledger_len⟩ (defBody st_Ledger_len) m_Ledger_len := by
  unfold m_Ledger_len
  exact (ss_one (ss_ret (e_len a c (by decide +kernel) g.b_len (sa_cons (se_pt c.hK g.led (pe_n a 0 (by decide +kernel)) 0 rfl rfl) sa_nil))))
theorem b_law {X : Cx} {T : Tb} {W : WX} {H : Hp} (a : At X N_law (defScope st_law)) (hk : X.env.scope.kind = .function) (fn : ∀ x, X.fn x = true) (c : Cxt X T W 7) (g : Gv X.mg T) (h_Ledger_book : FnM X.prog X.w X.mg X.base T true "book" 3 2 sem_Ledger_book []) (h_Ledger_undo : FnM X.prog X.w X.mg X.base T true "undo" 1 1 sem_Ledger_undo []) (h_Ledger_eq : FnM X.prog X.w X.mg X.base T true "__eq__" 1 2 sem_Ledger_eq []) (h_Ledger_names : FnM X.prog X.w X.mg X.base T true "names" 1 1 sem_Ledger_names []) (h_Ledger_len : FnM X.prog X.w X.mg X.base T true "__len__" 1 1 sem_Ledger_len []) (h__law_pot : FnE X.prog X.w X.mg X.base T "_law_pot" 1 1 sem__law_pot) (h__law_truths : FnE X.prog X.w X.mg X.base T "_law_truths" 2 1 sem__law_truths) (h__law_ledger_of : FnE X.prog X.w X.mg X.base T "_law_ledger_of" 7 1 sem__law_ledger_of) (h__law_woven : FnE X.prog X.w X.mg X.base T "_law_woven" 2 2 sem__law_woven) (h__law_cell_at : FnE X.prog X.w X.mg X.base T "_law_cell_at" 1 2 sem__law_cell_at) (h__law_take : FnE X.prog X.w X.mg X.base T "_law_take" 1 2 sem__law_take) (h__law_tell : FnE X.prog X.w X.mg X.base T "_law_tell" 6 2 sem__law_tell) (h__law_rightly : FnE X.prog X.w X.mg X.base T "_law_rightly" 1 2 sem__law_rightly) (h__law_by_turns : FnE X.prog X.w X.mg X.base T "_law_by_turns" 2 3 sem__law_by_turns) (hd_Ledger_book : FnM X.prog X.w X.mg X.base T true "book" 3 2 sem_Ledger_book [.none]) (hT : TwL X.prog X.w X.mg X.base T) : SB X T W ⟨H, 1, pr_law⟩ (defBody st_law) m_law := by
  unfold m_law fb5_law fb4_law fb3_law fb2_law ce2_law ce1_law fb1_law
  exact (ss_cons (ss_for c.po c.calm (e_rng1 a (by decide +kernel) g.b_range (e_max2 a c (by decide +kernel) g.b_max (sa_cons se_int (sa_cons (e_min2 a c (by decide +kernel) g.b_min (sa_cons (e_len a c (by decide +kernel) g.b_len (sa_cons (se_n a 0 (by decide +kernel)) sa_nil)) (sa_cons se_int sa_nil))) sa_nil)))) (sg_n a c.nd (.inl (fn _)) 1 (by decide +kernel) rfl) (ss_cons (ss_a a c.nd fn 2 (by decide +kernel) rfl (se_f a (by decide +kernel) c h__law_pot runD_len (by decide) (sa_cons (se_f a (by decide +kernel) c h__law_cell_at runD_len (by decide) (sa_cons (se_n a 0 (by decide +kernel)) (sa_cons (se_n a 1 (by decide +kernel)) sa_nil))) sa_nil)))
    (ss_cons (ss_a a c.nd fn 3 (by decide +kernel) rfl (se_f a (by decide +kernel) c h__law_truths runD_len (by decide) (sa_cons (se_n a 2 (by decide +kernel)) sa_nil)))
    (ss_cons (ss_a a c.nd fn 4 (by decide +kernel) rfl (se_lst sa_nil))
    (ss_cons (ss_forD (j := 3) a c.po c.calm (by decide +kernel) (sg_n a c.nd (.inl (fn _)) 5 (by decide +kernel) rfl) (ss_one (ss_a a c.nd fn 4 (by decide +kernel) rfl (e_add c (se_n a 4 (by decide +kernel)) (se_f a (by decide +kernel) c h__law_rightly runD_len (by decide) (sa_cons (se_n a 3 (by decide +kernel)) (sa_cons (se_n a 5 (by decide +kernel)) sa_nil)))))))
    (ss_cons (ss_a a c.nd fn 6 (by decide +kernel) rfl (se_f a (by decide +kernel) c h__law_ledger_of runD_len (by decide) (sa_cons (se_n a 4 (by decide +kernel)) sa_nil)))
    (ss_cons (ss_a a c.nd fn 7 (by decide +kernel) rfl (se_f a (by decide +kernel) c h__law_woven runD_len (by decide) (sa_cons (se_n a 2 (by decide +kernel)) (sa_cons (se_lcD (j := 3) (own := [("_law_name", 5)]) a c.calm c.nd (by decide +kernel) (a.blkOk (by decide +kernel)) (fun s1 H1 C1 cl1 fp1 => (sg_n (a.blk s1 H1 _ cl1 C1 fp1) (c.blk s1 H1 _ _ fp1).nd (.inr (lclB_ok (by decide +kernel))) 5 (by decide +kernel) rfl)) (fun s1 H1 C1 cl1 fp1 => sts_nil) (fun s1 H1 C1 cl1 fp1 => (se_f (a.blk s1 H1 _ cl1 C1 fp1) (by decide +kernel) (c.blk s1 H1 _ _ fp1) h__law_by_turns runD_len (by decide) (sa_cons (se_n (a.blk s1 H1 _ cl1 C1 fp1) 2 (by decide +kernel)) (sa_cons (se_n (a.blk s1 H1 _ cl1 C1 fp1) 3 (by decide +kernel)) (sa_cons (se_n (a.blk s1 H1 _ cl1 C1 fp1) 5 (by decide +kernel)) sa_nil)))))) sa_nil))))
    (ss_cons (ss_a a c.nd fn 8 (by decide +kernel) rfl (se_f a (by decide +kernel) c h__law_ledger_of runD_len (by decide) (sa_cons (se_n a 7 (by decide +kernel)) sa_nil)))
    (ss_cons (ss_if (st_w (sw_or (t_ne c (se_met0 (pe_n a 8 (by decide +kernel)) c hd_Ledger_book runD_len (by decide) rfl) (se_met0 (pe_n a 6 (by decide +kernel)) c hd_Ledger_book runD_len (by decide) rfl)) (sw_or (t_ne c (se_met0 (pe_n a 8 (by decide +kernel)) c h_Ledger_names runD_len (by decide) rfl) (se_met0 (pe_n a 6 (by decide +kernel)) c h_Ledger_names runD_len (by decide) rfl)) (sw_or1 (t_ne c (se_lenO a c (by decide +kernel) g.b_len (pe_n a 8 (by decide +kernel)) h_Ledger_len runD_len (by decide)) (e_len a c (by decide +kernel) g.b_len (sa_cons (se_n a 7 (by decide +kernel)) sa_nil))))))) (ss_one (ss_ret se_bl)) ss_nil)
    (ss_cons (ss_a a c.nd fn 9 (by decide +kernel) rfl (se_f a (by decide +kernel) c h__law_woven runD_len (by decide) (sa_cons (se_n a 2 (by decide +kernel)) (sa_cons (se_lcD (j := 3) (own := [("_law_name", 5)]) a c.calm c.nd (by decide +kernel) (a.blkOk (by decide +kernel)) (fun s2 H2 C2 cl2 fp2 => (sg_n (a.blk s2 H2 _ cl2 C2 fp2) (c.blk s2 H2 _ _ fp2).nd (.inr (lclB_ok (by decide +kernel))) 5 (by decide +kernel) rfl)) (fun s2 H2 C2 cl2 fp2 => sts_nil) (fun s2 H2 C2 cl2 fp2 => (se_f (a.blk s2 H2 _ cl2 C2 fp2) (by decide +kernel) (c.blk s2 H2 _ _ fp2) h__law_rightly runD_len (by decide) (sa_cons (se_n (a.blk s2 H2 _ cl2 C2 fp2) 3 (by decide +kernel)) (sa_cons (se_n (a.blk s2 H2 _ cl2 C2 fp2) 5 (by decide +kernel)) sa_nil))))) sa_nil))))
    (ss_cons (ss_if (t_ne c (se_metE0 (se_f a (by decide +kernel) c h__law_ledger_of runD_len (by decide) (sa_cons (se_n a 9 (by decide +kernel)) sa_nil)) c hd_Ledger_book runD_len (by decide) rfl) (se_met0 (pe_n a 6 (by decide +kernel)) c hd_Ledger_book runD_len (by decide) rfl)) (ss_one (ss_ret se_bl)) ss_nil)
    (ss_cons (ss_for c.po c.calm (e_rng1 a (by decide +kernel) g.b_range (e_add c (e_len a c (by decide +kernel) g.b_len (sa_cons (se_n a 7 (by decide +kernel)) sa_nil)) se_int)) (sg_n a c.nd (.inl (fn _)) 10 (by decide +kernel) rfl) (ss_one (ss_if (t_ne c (se_met (pe_n a 8 (by decide +kernel)) c h_Ledger_book runD_len (by decide) rfl (sa_cons (se_n a 10 (by decide +kernel)) sa_nil)) (se_metE0 (se_f a (by decide +kernel) c h__law_ledger_of runD_len (by decide) (sa_cons (se_slice c.hK (se_n a 7 (by decide +kernel)) so_none (so_some (se_n a 10 (by decide +kernel)))) sa_nil)) c hd_Ledger_book runD_len (by decide) rfl)) (ss_one (ss_ret se_bl)) ss_nil)))
    (ss_cons (ss_p2 a hk c.nd c.calm 13 14 (by decide +kernel) (by decide +kernel) (by decide) rfl rfl (by decide +kernel) (se_tw (pe_n a 8 (by decide +kernel)) c hT (by decide)) (se_f a (by decide +kernel) c h__law_take runD_len (by decide) (sa_cons (se_n a 2 (by decide +kernel)) (sa_cons (e_add c (e_len a c (by decide +kernel) g.b_len (sa_cons (se_n a 7 (by decide +kernel)) sa_nil)) se_int) sa_nil))))
    (ss_cons (ss_for c.po c.calm (e_rng1 a (by decide +kernel) g.b_range (e_sub c (e_len a c (by decide +kernel) g.b_len (sa_cons (se_n a 7 (by decide +kernel)) sa_nil)) (se_n a 14 (by decide +kernel)))) (sg_n a c.nd (.inl (fn _)) 11 (by decide +kernel) rfl) (ss_one (ss_expr (se_met0 (pe_n a 13 (by decide +kernel)) c h_Ledger_undo runD_len (by decide) rfl))))
    (ss_cons (ss_if (st_w (sw_or (t_neO c h_Ledger_eq g.eqc runD_len (by decide) (se_n a 13 (by decide +kernel)) (se_f a (by decide +kernel) c h__law_ledger_of runD_len (by decide) (sa_cons (se_slice c.hK (se_n a 7 (by decide +kernel)) so_none (so_some (se_n a 14 (by decide +kernel)))) sa_nil))) (sw_or1 (t_ne c (se_met0 (pe_n a 13 (by decide +kernel)) c hd_Ledger_book runD_len (by decide) rfl) (se_met (pe_n a 8 (by decide +kernel)) c h_Ledger_book runD_len (by decide) rfl (sa_cons (se_n a 14 (by decide +kernel)) sa_nil)))))) (ss_one (ss_ret se_bl)) ss_nil)
    (ss_cons (ss_for c.po c.calm (si_seq c.hK (se_slice c.hK (se_n a 7 (by decide +kernel)) (so_some (se_n a 14 (by decide +kernel))) so_none)) (sg_n a c.nd (.inl (fn _)) 12 (by decide +kernel) rfl) (ss_one (ss_expr (se_f a (by decide +kernel) c h__law_tell runD_len (by decide) (sa_cons (se_n a 13 (by decide +kernel)) (sa_cons (se_n a 12 (by decide +kernel)) sa_nil))))))
    (ss_one (ss_if (st_w (sw_or (t_neO c h_Ledger_eq g.eqc runD_len (by decide) (se_n a 13 (by decide +kernel)) (se_n a 8 (by decide +kernel))) (sw_or1 (t_ne c (se_met0 (pe_n a 13 (by decide +kernel)) c hd_Ledger_book runD_len (by decide) rfl) (se_met0 (pe_n a 6 (by decide +kernel)) c hd_Ledger_book runD_len (by decide) rfl))))) (ss_one (ss_ret se_bl)) ss_nil))))))))))))))))))
    (ss_one (ss_ret se_bl)))
theorem all_mk {ts : List Addr} {P : Program} {w : World} {K : PySem.W.Frag} {h : Heap} {mg : Str → Option Value} {fa : Addr} (X : K.In h) (G : h.Ns mainGlobals mg) (hfa : mg "law" = some (.ref fa))
    {e_Ledger : Addr}
    {f_Linit : Addr} {od_Linit an_Linit : Option Addr} {sl_Linit : Array (Option Value)} {oc_Linit kV_Linit dc_Linit pm_Linit cd_Linit ct_Linit : Value}
    {f_twin : Addr} {od_twin an_twin : Option Addr} {sl_twin : Array (Option Value)} {oc_twin kV_twin dc_twin pm_twin cd_twin ct_twin : Value}
    {f__law_pot : Addr} {od__law_pot an__law_pot : Option Addr} {sl__law_pot : Array (Option Value)} {oc__law_pot kV__law_pot dc__law_pot pm__law_pot cd__law_pot ct__law_pot : Value}
    {f__law_take : Addr} {od__law_take an__law_take : Option Addr} {sl__law_take : Array (Option Value)} {oc__law_take kV__law_take dc__law_take pm__law_take cd__law_take ct__law_take : Value}
    {f__law_truths : Addr} {od__law_truths an__law_truths : Option Addr} {sl__law_truths : Array (Option Value)} {oc__law_truths kV__law_truths dc__law_truths pm__law_truths cd__law_truths ct__law_truths : Value}
    {f_is_whole : Addr} {od_is_whole an_is_whole : Option Addr} {sl_is_whole : Array (Option Value)} {oc_is_whole kV_is_whole dc_is_whole pm_is_whole cd_is_whole ct_is_whole : Value}
    {f_is_from_to : Addr} {od_is_from_to an_is_from_to : Option Addr} {sl_is_from_to : Array (Option Value)} {oc_is_from_to kV_is_from_to dc_is_from_to pm_is_from_to cd_is_from_to ct_is_from_to : Value}
    {f_need_day : Addr} {od_need_day an_need_day : Option Addr} {sl_need_day : Array (Option Value)} {oc_need_day kV_need_day dc_need_day pm_need_day cd_need_day ct_need_day : Value}
    {f_is_name : Addr} {od_is_name an_is_name : Option Addr} {sl_is_name : Array (Option Value)} {oc_is_name kV_is_name dc_is_name pm_is_name cd_is_name ct_is_name : Value}
    {f_Ledger_become : Addr} {od_Ledger_become an_Ledger_become : Option Addr} {sl_Ledger_become : Array (Option Value)} {oc_Ledger_become kV_Ledger_become dc_Ledger_become pm_Ledger_become cd_Ledger_become ct_Ledger_become : Value}
    {tD_Ledger_begin : Addr} {td_Ledger_begin : Option Addr} {tn_Ledger_begin : Nat} {ts_Ledger_begin : Array (Option Value)} 
    {f_Ledger_begin : Addr} {od_Ledger_begin an_Ledger_begin : Option Addr} {sl_Ledger_begin : Array (Option Value)} {oc_Ledger_begin kV_Ledger_begin dc_Ledger_begin pm_Ledger_begin cd_Ledger_begin ct_Ledger_begin : Value}
    {f_Ledger_thing_of : Addr} {od_Ledger_thing_of an_Ledger_thing_of : Option Addr} {sl_Ledger_thing_of : Array (Option Value)} {oc_Ledger_thing_of kV_Ledger_thing_of dc_Ledger_thing_of pm_Ledger_thing_of cd_Ledger_thing_of ct_Ledger_thing_of : Value}
    {f_Ledger_known_with : Addr} {od_Ledger_known_with an_Ledger_known_with : Option Addr} {sl_Ledger_known_with : Array (Option Value)} {oc_Ledger_known_with kV_Ledger_known_with dc_Ledger_known_with pm_Ledger_known_with cd_Ledger_known_with ct_Ledger_known_with : Value}
    {f_Ledger_seen : Addr} {od_Ledger_seen an_Ledger_seen : Option Addr} {sl_Ledger_seen : Array (Option Value)} {oc_Ledger_seen kV_Ledger_seen dc_Ledger_seen pm_Ledger_seen cd_Ledger_seen ct_Ledger_seen : Value}
    {f_need_end : Addr} {od_need_end an_need_end : Option Addr} {sl_need_end : Array (Option Value)} {oc_need_end kV_need_end dc_need_end pm_need_end cd_need_end ct_need_end : Value}
    {f_Ledger_ended : Addr} {od_Ledger_ended an_Ledger_ended : Option Addr} {sl_Ledger_ended : Array (Option Value)} {oc_Ledger_ended kV_Ledger_ended dc_Ledger_ended pm_Ledger_ended cd_Ledger_ended ct_Ledger_ended : Value}
    {f_Ledger_mend : Addr} {od_Ledger_mend an_Ledger_mend : Option Addr} {sl_Ledger_mend : Array (Option Value)} {oc_Ledger_mend kV_Ledger_mend dc_Ledger_mend pm_Ledger_mend cd_Ledger_mend ct_Ledger_mend : Value}
    {f_Ledger_drop : Addr} {od_Ledger_drop an_Ledger_drop : Option Addr} {sl_Ledger_drop : Array (Option Value)} {oc_Ledger_drop kV_Ledger_drop dc_Ledger_drop pm_Ledger_drop cd_Ledger_drop ct_Ledger_drop : Value}
    {f_Ledger_undo : Addr} {od_Ledger_undo an_Ledger_undo : Option Addr} {sl_Ledger_undo : Array (Option Value)} {oc_Ledger_undo kV_Ledger_undo dc_Ledger_undo pm_Ledger_undo cd_Ledger_undo ct_Ledger_undo : Value}
    {f__law_tell : Addr} {od__law_tell an__law_tell : Option Addr} {sl__law_tell : Array (Option Value)} {oc__law_tell kV__law_tell dc__law_tell pm__law_tell cd__law_tell ct__law_tell : Value}
    {f__law_ledger_of : Addr} {od__law_ledger_of an__law_ledger_of : Option Addr} {sl__law_ledger_of : Array (Option Value)} {oc__law_ledger_of kV__law_ledger_of dc__law_ledger_of pm__law_ledger_of cd__law_ledger_of ct__law_ledger_of : Value}
    {f__law_woven : Addr} {od__law_woven an__law_woven : Option Addr} {sl__law_woven : Array (Option Value)} {oc__law_woven kV__law_woven dc__law_woven pm__law_woven cd__law_woven ct__law_woven : Value}
    {f__law_cell_at : Addr} {od__law_cell_at an__law_cell_at : Option Addr} {sl__law_cell_at : Array (Option Value)} {oc__law_cell_at kV__law_cell_at dc__law_cell_at pm__law_cell_at cd__law_cell_at ct__law_cell_at : Value}
    {f__law_rightly : Addr} {od__law_rightly an__law_rightly : Option Addr} {sl__law_rightly : Array (Option Value)} {oc__law_rightly kV__law_rightly dc__law_rightly pm__law_rightly cd__law_rightly ct__law_rightly : Value}
    {f__law_by_turns : Addr} {od__law_by_turns an__law_by_turns : Option Addr} {sl__law_by_turns : Array (Option Value)} {oc__law_by_turns kV__law_by_turns dc__law_by_turns pm__law_by_turns cd__law_by_turns ct__law_by_turns : Value}
    {f_book_by : Addr} {od_book_by an_book_by : Option Addr} {sl_book_by : Array (Option Value)} {oc_book_by kV_book_by dc_book_by pm_book_by cd_book_by ct_book_by : Value}
    {tD_Ledger_book : Addr} {td_Ledger_book : Option Addr} {tn_Ledger_book : Nat} {ts_Ledger_book : Array (Option Value)} 
    {f_Ledger_book : Addr} {od_Ledger_book an_Ledger_book : Option Addr} {sl_Ledger_book : Array (Option Value)} {oc_Ledger_book kV_Ledger_book dc_Ledger_book pm_Ledger_book cd_Ledger_book ct_Ledger_book : Value}
    {f_Ledger_eq : Addr} {od_Ledger_eq an_Ledger_eq : Option Addr} {sl_Ledger_eq : Array (Option Value)} {oc_Ledger_eq kV_Ledger_eq dc_Ledger_eq pm_Ledger_eq cd_Ledger_eq ct_Ledger_eq : Value}
    {f_Ledger_names : Addr} {od_Ledger_names an_Ledger_names : Option Addr} {sl_Ledger_names : Array (Option Value)} {oc_Ledger_names kV_Ledger_names dc_Ledger_names pm_Ledger_names cd_Ledger_names ct_Ledger_names : Value}
    {f_Ledger_len : Addr} {od_Ledger_len an_Ledger_len : Option Addr} {sl_Ledger_len : Array (Option Value)} {oc_Ledger_len kV_Ledger_len dc_Ledger_len pm_Ledger_len cd_Ledger_len ct_Ledger_len : Value}
    {f_law : Addr} {od_law an_law : Option Addr} {sl_law : Array (Option Value)} {oc_law kV_law dc_law pm_law cd_law ct_law : Value}
    {p_KINDS : Addr} {dd_KINDS : Option Addr} {nn_KINDS : Nat} {ss_KINDS : Array (Option Value)} {t0_KINDS t1_KINDS t2_KINDS t3_KINDS : Tok}
    {t_LETTERS : Tok}
    {t_MOST_AGE : Tok}
    {t_MOST_DAY : Tok}
    {t_MOST_SIGNS : Tok}
    {t_MOST_SPANS : Tok}
    {e_NoKind : Addr}
    {e_NoNumber : Addr}
    {e_NoName : Addr}
    {e_NoDay : Addr}
    {e_NoDeed : Addr}
    (g_Ledger : PySem.W.nsIn K mainGlobals "Ledger" = some (some (.ref e_Ledger)))
    (o1_Ledger : PySem.W.plainGet K e_Ledger Str.empty = true)
    (o2_Ledger : PySem.W.hasDictIn K e_Ledger = true)
    (o3_Ledger : PySem.W.plainOver K e_Ledger = true)
    (o4_Ledger : PySem.W.findIn K (.ref e_Ledger) "__setattr__" = some (some (.builtin "object.__setattr__")))
    (nf_tellings : PySem.W.findIn K (.ref e_Ledger) "tellings" = some none)
    (nf_stood : PySem.W.findIn K (.ref e_Ledger) "stood" = some none)
    (mk1_Ledger : PySem.W.makesIn K e_Ledger = true)
    (mk2_Ledger : PySem.W.findIn K (.ref e_Ledger) "__init__" = some (some (.ref f_Linit)))
    (l_Linit : K.lookup f_Linit = some ⟨oc_Linit, od_Linit, .func (PySem.W.fnOf "__init__" "Ledger.__init__" (defArgs st_Linit) (defBody st_Linit) (defScope st_Linit) .none kV_Linit dc_Linit pm_Linit an_Linit cd_Linit ct_Linit), sl_Linit⟩)
    (c_Linit : PySem.W.codeIn K cd_Linit "Ledger.__init__" = true)
    (k_Linit : PySem.W.keepIn K (.ref f_Linit) = true)
    (mk3_Ledger : PySem.W.isFn K (.ref f_Linit) = true)
    (mk4_Ledger : PySem.W.keepIn K (.ref e_Ledger) = true)
    (tw1 : PySem.W.findIn K (.ref e_Ledger) "twin" = some (some (.ref f_twin)))
    (l_twin : K.lookup f_twin = some ⟨oc_twin, od_twin, .func (PySem.W.fnOf "twin" "Ledger.twin" (defArgs st_twin) (defBody st_twin) (defScope st_twin) .none kV_twin dc_twin pm_twin an_twin cd_twin ct_twin), sl_twin⟩)
    (c_twin : PySem.W.codeIn K cd_twin "Ledger.twin" = true)
    (k_twin : PySem.W.keepIn K (.ref f_twin) = true)
    (tw2 : PySem.W.isFn K (.ref f_twin) = true)
    (eq1 : PySem.W.notFirst K e_Ledger (.ref e_Ledger) = true)
    (eq2 : PySem.W.mroIn K e_Ledger (.type "object") = some true)
    (eq3 : PySem.W.findIn K (.ref e_Ledger) "__ne__" = some (some (.builtin "object.__ne__")))
    (is1 : PySem.W.findIn K (.ref e_Ledger) "__class__" = some (some (.builtin "object.__class__")))
    (is2 : PySem.W.specialIn K (.builtin "object.__class__") "__get__" = some (some (.builtin "getset_descriptor.__get__")))
    (is3 : PySem.W.takesIn K (.builtin "object.__class__") = some true)
    (a__law_pot : PySem.W.nsIn K mainGlobals "_law_pot" = some (some (.ref f__law_pot)))
    (l__law_pot : K.lookup f__law_pot = some ⟨oc__law_pot, od__law_pot, .func (PySem.W.fnOf "_law_pot" "_law_pot" (defArgs st__law_pot) (defBody st__law_pot) (defScope st__law_pot) .none kV__law_pot dc__law_pot pm__law_pot an__law_pot cd__law_pot ct__law_pot), sl__law_pot⟩)
    (c__law_pot : PySem.W.codeIn K cd__law_pot "_law_pot" = true)
    (k__law_pot : PySem.W.keepIn K (.ref f__law_pot) = true)
    (a__law_take : PySem.W.nsIn K mainGlobals "_law_take" = some (some (.ref f__law_take)))
    (l__law_take : K.lookup f__law_take = some ⟨oc__law_take, od__law_take, .func (PySem.W.fnOf "_law_take" "_law_take" (defArgs st__law_take) (defBody st__law_take) (defScope st__law_take) .none kV__law_take dc__law_take pm__law_take an__law_take cd__law_take ct__law_take), sl__law_take⟩)
    (c__law_take : PySem.W.codeIn K cd__law_take "_law_take" = true)
    (k__law_take : PySem.W.keepIn K (.ref f__law_take) = true)
    (a__law_truths : PySem.W.nsIn K mainGlobals "_law_truths" = some (some (.ref f__law_truths)))
    (l__law_truths : K.lookup f__law_truths = some ⟨oc__law_truths, od__law_truths, .func (PySem.W.fnOf "_law_truths" "_law_truths" (defArgs st__law_truths) (defBody st__law_truths) (defScope st__law_truths) .none kV__law_truths dc__law_truths pm__law_truths an__law_truths cd__law_truths ct__law_truths), sl__law_truths⟩)
    (c__law_truths : PySem.W.codeIn K cd__law_truths "_law_truths" = true)
    (k__law_truths : PySem.W.keepIn K (.ref f__law_truths) = true)
    (a_is_whole : PySem.W.nsIn K mainGlobals "is_whole" = some (some (.ref f_is_whole)))
    (l_is_whole : K.lookup f_is_whole = some ⟨oc_is_whole, od_is_whole, .func (PySem.W.fnOf "is_whole" "is_whole" (defArgs st_is_whole) (defBody st_is_whole) (defScope st_is_whole) .none kV_is_whole dc_is_whole pm_is_whole an_is_whole cd_is_whole ct_is_whole), sl_is_whole⟩)
    (c_is_whole : PySem.W.codeIn K cd_is_whole "is_whole" = true)
    (k_is_whole : PySem.W.keepIn K (.ref f_is_whole) = true)
    (a_is_from_to : PySem.W.nsIn K mainGlobals "is_from_to" = some (some (.ref f_is_from_to)))
    (l_is_from_to : K.lookup f_is_from_to = some ⟨oc_is_from_to, od_is_from_to, .func (PySem.W.fnOf "is_from_to" "is_from_to" (defArgs st_is_from_to) (defBody st_is_from_to) (defScope st_is_from_to) .none kV_is_from_to dc_is_from_to pm_is_from_to an_is_from_to cd_is_from_to ct_is_from_to), sl_is_from_to⟩)
    (c_is_from_to : PySem.W.codeIn K cd_is_from_to "is_from_to" = true)
    (k_is_from_to : PySem.W.keepIn K (.ref f_is_from_to) = true)
    (a_need_day : PySem.W.nsIn K mainGlobals "need_day" = some (some (.ref f_need_day)))
    (l_need_day : K.lookup f_need_day = some ⟨oc_need_day, od_need_day, .func (PySem.W.fnOf "need_day" "need_day" (defArgs st_need_day) (defBody st_need_day) (defScope st_need_day) .none kV_need_day dc_need_day pm_need_day an_need_day cd_need_day ct_need_day), sl_need_day⟩)
    (c_need_day : PySem.W.codeIn K cd_need_day "need_day" = true)
    (k_need_day : PySem.W.keepIn K (.ref f_need_day) = true)
    (a_is_name : PySem.W.nsIn K mainGlobals "is_name" = some (some (.ref f_is_name)))
    (l_is_name : K.lookup f_is_name = some ⟨oc_is_name, od_is_name, .func (PySem.W.fnOf "is_name" "is_name" (defArgs st_is_name) (defBody st_is_name) (defScope st_is_name) .none kV_is_name dc_is_name pm_is_name an_is_name cd_is_name ct_is_name), sl_is_name⟩)
    (c_is_name : PySem.W.codeIn K cd_is_name "is_name" = true)
    (k_is_name : PySem.W.keepIn K (.ref f_is_name) = true)
    (m1_Ledger_become : PySem.W.findIn K (.ref e_Ledger) "become" = some (some (.ref f_Ledger_become)))
    (m2_Ledger_become : PySem.W.isFn K (.ref f_Ledger_become) = true)
    (l_Ledger_become : K.lookup f_Ledger_become = some ⟨oc_Ledger_become, od_Ledger_become, .func (PySem.W.fnOf "become" "Ledger.become" (defArgs st_Ledger_become) (defBody st_Ledger_become) (defScope st_Ledger_become) .none kV_Ledger_become dc_Ledger_become pm_Ledger_become an_Ledger_become cd_Ledger_become ct_Ledger_become), sl_Ledger_become⟩)
    (c_Ledger_become : PySem.W.codeIn K cd_Ledger_become "Ledger.become" = true)
    (k_Ledger_become : PySem.W.keepIn K (.ref f_Ledger_become) = true)
    (m1_Ledger_begin : PySem.W.findIn K (.ref e_Ledger) "begin" = some (some (.ref f_Ledger_begin)))
    (m2_Ledger_begin : PySem.W.isFn K (.ref f_Ledger_begin) = true)
    (l_Ledger_begin : K.lookup f_Ledger_begin = some ⟨oc_Ledger_begin, od_Ledger_begin, .func (PySem.W.fnOf "begin" "Ledger.begin" (defArgs st_Ledger_begin) (defBody st_Ledger_begin) (defScope st_Ledger_begin) (.ref tD_Ledger_begin) kV_Ledger_begin dc_Ledger_begin pm_Ledger_begin an_Ledger_begin cd_Ledger_begin ct_Ledger_begin), sl_Ledger_begin⟩)
    (dl_Ledger_begin : K.lookup tD_Ledger_begin = some ⟨.type "tuple", td_Ledger_begin, .seq #[.none] tn_Ledger_begin, ts_Ledger_begin⟩)
    (c_Ledger_begin : PySem.W.codeIn K cd_Ledger_begin "Ledger.begin" = true)
    (k_Ledger_begin : PySem.W.keepIn K (.ref f_Ledger_begin) = true)
    (m1_Ledger_thing_of : PySem.W.findIn K (.ref e_Ledger) "thing_of" = some (some (.ref f_Ledger_thing_of)))
    (m2_Ledger_thing_of : PySem.W.isFn K (.ref f_Ledger_thing_of) = true)
    (l_Ledger_thing_of : K.lookup f_Ledger_thing_of = some ⟨oc_Ledger_thing_of, od_Ledger_thing_of, .func (PySem.W.fnOf "thing_of" "Ledger.thing_of" (defArgs st_Ledger_thing_of) (defBody st_Ledger_thing_of) (defScope st_Ledger_thing_of) .none kV_Ledger_thing_of dc_Ledger_thing_of pm_Ledger_thing_of an_Ledger_thing_of cd_Ledger_thing_of ct_Ledger_thing_of), sl_Ledger_thing_of⟩)
    (c_Ledger_thing_of : PySem.W.codeIn K cd_Ledger_thing_of "Ledger.thing_of" = true)
    (k_Ledger_thing_of : PySem.W.keepIn K (.ref f_Ledger_thing_of) = true)
    (m1_Ledger_known_with : PySem.W.findIn K (.ref e_Ledger) "known_with" = some (some (.ref f_Ledger_known_with)))
    (m2_Ledger_known_with : PySem.W.isFn K (.ref f_Ledger_known_with) = true)
    (l_Ledger_known_with : K.lookup f_Ledger_known_with = some ⟨oc_Ledger_known_with, od_Ledger_known_with, .func (PySem.W.fnOf "known_with" "Ledger.known_with" (defArgs st_Ledger_known_with) (defBody st_Ledger_known_with) (defScope st_Ledger_known_with) .none kV_Ledger_known_with dc_Ledger_known_with pm_Ledger_known_with an_Ledger_known_with cd_Ledger_known_with ct_Ledger_known_with), sl_Ledger_known_with⟩)
    (c_Ledger_known_with : PySem.W.codeIn K cd_Ledger_known_with "Ledger.known_with" = true)
    (k_Ledger_known_with : PySem.W.keepIn K (.ref f_Ledger_known_with) = true)
    (m1_Ledger_seen : PySem.W.findIn K (.ref e_Ledger) "seen" = some (some (.ref f_Ledger_seen)))
    (m2_Ledger_seen : PySem.W.isFn K (.ref f_Ledger_seen) = true)
    (l_Ledger_seen : K.lookup f_Ledger_seen = some ⟨oc_Ledger_seen, od_Ledger_seen, .func (PySem.W.fnOf "seen" "Ledger.seen" (defArgs st_Ledger_seen) (defBody st_Ledger_seen) (defScope st_Ledger_seen) .none kV_Ledger_seen dc_Ledger_seen pm_Ledger_seen an_Ledger_seen cd_Ledger_seen ct_Ledger_seen), sl_Ledger_seen⟩)
    (c_Ledger_seen : PySem.W.codeIn K cd_Ledger_seen "Ledger.seen" = true)
    (k_Ledger_seen : PySem.W.keepIn K (.ref f_Ledger_seen) = true)
    (a_need_end : PySem.W.nsIn K mainGlobals "need_end" = some (some (.ref f_need_end)))
    (l_need_end : K.lookup f_need_end = some ⟨oc_need_end, od_need_end, .func (PySem.W.fnOf "need_end" "need_end" (defArgs st_need_end) (defBody st_need_end) (defScope st_need_end) .none kV_need_end dc_need_end pm_need_end an_need_end cd_need_end ct_need_end), sl_need_end⟩)
    (c_need_end : PySem.W.codeIn K cd_need_end "need_end" = true)
    (k_need_end : PySem.W.keepIn K (.ref f_need_end) = true)
    (m1_Ledger_ended : PySem.W.findIn K (.ref e_Ledger) "ended" = some (some (.ref f_Ledger_ended)))
    (m2_Ledger_ended : PySem.W.isFn K (.ref f_Ledger_ended) = true)
    (l_Ledger_ended : K.lookup f_Ledger_ended = some ⟨oc_Ledger_ended, od_Ledger_ended, .func (PySem.W.fnOf "ended" "Ledger.ended" (defArgs st_Ledger_ended) (defBody st_Ledger_ended) (defScope st_Ledger_ended) .none kV_Ledger_ended dc_Ledger_ended pm_Ledger_ended an_Ledger_ended cd_Ledger_ended ct_Ledger_ended), sl_Ledger_ended⟩)
    (c_Ledger_ended : PySem.W.codeIn K cd_Ledger_ended "Ledger.ended" = true)
    (k_Ledger_ended : PySem.W.keepIn K (.ref f_Ledger_ended) = true)
    (m1_Ledger_mend : PySem.W.findIn K (.ref e_Ledger) "mend" = some (some (.ref f_Ledger_mend)))
    (m2_Ledger_mend : PySem.W.isFn K (.ref f_Ledger_mend) = true)
    (l_Ledger_mend : K.lookup f_Ledger_mend = some ⟨oc_Ledger_mend, od_Ledger_mend, .func (PySem.W.fnOf "mend" "Ledger.mend" (defArgs st_Ledger_mend) (defBody st_Ledger_mend) (defScope st_Ledger_mend) .none kV_Ledger_mend dc_Ledger_mend pm_Ledger_mend an_Ledger_mend cd_Ledger_mend ct_Ledger_mend), sl_Ledger_mend⟩)
    (c_Ledger_mend : PySem.W.codeIn K cd_Ledger_mend "Ledger.mend" = true)
    (k_Ledger_mend : PySem.W.keepIn K (.ref f_Ledger_mend) = true)
    (m1_Ledger_drop : PySem.W.findIn K (.ref e_Ledger) "drop" = some (some (.ref f_Ledger_drop)))
    (m2_Ledger_drop : PySem.W.isFn K (.ref f_Ledger_drop) = true)
    (l_Ledger_drop : K.lookup f_Ledger_drop = some ⟨oc_Ledger_drop, od_Ledger_drop, .func (PySem.W.fnOf "drop" "Ledger.drop" (defArgs st_Ledger_drop) (defBody st_Ledger_drop) (defScope st_Ledger_drop) .none kV_Ledger_drop dc_Ledger_drop pm_Ledger_drop an_Ledger_drop cd_Ledger_drop ct_Ledger_drop), sl_Ledger_drop⟩)
    (c_Ledger_drop : PySem.W.codeIn K cd_Ledger_drop "Ledger.drop" = true)
    (k_Ledger_drop : PySem.W.keepIn K (.ref f_Ledger_drop) = true)
    (m1_Ledger_undo : PySem.W.findIn K (.ref e_Ledger) "undo" = some (some (.ref f_Ledger_undo)))
    (m2_Ledger_undo : PySem.W.isFn K (.ref f_Ledger_undo) = true)
    (l_Ledger_undo : K.lookup f_Ledger_undo = some ⟨oc_Ledger_undo, od_Ledger_undo, .func (PySem.W.fnOf "undo" "Ledger.undo" (defArgs st_Ledger_undo) (defBody st_Ledger_undo) (defScope st_Ledger_undo) .none kV_Ledger_undo dc_Ledger_undo pm_Ledger_undo an_Ledger_undo cd_Ledger_undo ct_Ledger_undo), sl_Ledger_undo⟩)
    (c_Ledger_undo : PySem.W.codeIn K cd_Ledger_undo "Ledger.undo" = true)
    (k_Ledger_undo : PySem.W.keepIn K (.ref f_Ledger_undo) = true)
    (a__law_tell : PySem.W.nsIn K mainGlobals "_law_tell" = some (some (.ref f__law_tell)))
    (l__law_tell : K.lookup f__law_tell = some ⟨oc__law_tell, od__law_tell, .func (PySem.W.fnOf "_law_tell" "_law_tell" (defArgs st__law_tell) (defBody st__law_tell) (defScope st__law_tell) .none kV__law_tell dc__law_tell pm__law_tell an__law_tell cd__law_tell ct__law_tell), sl__law_tell⟩)
    (c__law_tell : PySem.W.codeIn K cd__law_tell "_law_tell" = true)
    (k__law_tell : PySem.W.keepIn K (.ref f__law_tell) = true)
    (a__law_ledger_of : PySem.W.nsIn K mainGlobals "_law_ledger_of" = some (some (.ref f__law_ledger_of)))
    (l__law_ledger_of : K.lookup f__law_ledger_of = some ⟨oc__law_ledger_of, od__law_ledger_of, .func (PySem.W.fnOf "_law_ledger_of" "_law_ledger_of" (defArgs st__law_ledger_of) (defBody st__law_ledger_of) (defScope st__law_ledger_of) .none kV__law_ledger_of dc__law_ledger_of pm__law_ledger_of an__law_ledger_of cd__law_ledger_of ct__law_ledger_of), sl__law_ledger_of⟩)
    (c__law_ledger_of : PySem.W.codeIn K cd__law_ledger_of "_law_ledger_of" = true)
    (k__law_ledger_of : PySem.W.keepIn K (.ref f__law_ledger_of) = true)
    (a__law_woven : PySem.W.nsIn K mainGlobals "_law_woven" = some (some (.ref f__law_woven)))
    (l__law_woven : K.lookup f__law_woven = some ⟨oc__law_woven, od__law_woven, .func (PySem.W.fnOf "_law_woven" "_law_woven" (defArgs st__law_woven) (defBody st__law_woven) (defScope st__law_woven) .none kV__law_woven dc__law_woven pm__law_woven an__law_woven cd__law_woven ct__law_woven), sl__law_woven⟩)
    (c__law_woven : PySem.W.codeIn K cd__law_woven "_law_woven" = true)
    (k__law_woven : PySem.W.keepIn K (.ref f__law_woven) = true)
    (a__law_cell_at : PySem.W.nsIn K mainGlobals "_law_cell_at" = some (some (.ref f__law_cell_at)))
    (l__law_cell_at : K.lookup f__law_cell_at = some ⟨oc__law_cell_at, od__law_cell_at, .func (PySem.W.fnOf "_law_cell_at" "_law_cell_at" (defArgs st__law_cell_at) (defBody st__law_cell_at) (defScope st__law_cell_at) .none kV__law_cell_at dc__law_cell_at pm__law_cell_at an__law_cell_at cd__law_cell_at ct__law_cell_at), sl__law_cell_at⟩)
    (c__law_cell_at : PySem.W.codeIn K cd__law_cell_at "_law_cell_at" = true)
    (k__law_cell_at : PySem.W.keepIn K (.ref f__law_cell_at) = true)
    (a__law_rightly : PySem.W.nsIn K mainGlobals "_law_rightly" = some (some (.ref f__law_rightly)))
    (l__law_rightly : K.lookup f__law_rightly = some ⟨oc__law_rightly, od__law_rightly, .func (PySem.W.fnOf "_law_rightly" "_law_rightly" (defArgs st__law_rightly) (defBody st__law_rightly) (defScope st__law_rightly) .none kV__law_rightly dc__law_rightly pm__law_rightly an__law_rightly cd__law_rightly ct__law_rightly), sl__law_rightly⟩)
    (c__law_rightly : PySem.W.codeIn K cd__law_rightly "_law_rightly" = true)
    (k__law_rightly : PySem.W.keepIn K (.ref f__law_rightly) = true)
    (a__law_by_turns : PySem.W.nsIn K mainGlobals "_law_by_turns" = some (some (.ref f__law_by_turns)))
    (l__law_by_turns : K.lookup f__law_by_turns = some ⟨oc__law_by_turns, od__law_by_turns, .func (PySem.W.fnOf "_law_by_turns" "_law_by_turns" (defArgs st__law_by_turns) (defBody st__law_by_turns) (defScope st__law_by_turns) .none kV__law_by_turns dc__law_by_turns pm__law_by_turns an__law_by_turns cd__law_by_turns ct__law_by_turns), sl__law_by_turns⟩)
    (c__law_by_turns : PySem.W.codeIn K cd__law_by_turns "_law_by_turns" = true)
    (k__law_by_turns : PySem.W.keepIn K (.ref f__law_by_turns) = true)
    (a_book_by : PySem.W.nsIn K mainGlobals "book_by" = some (some (.ref f_book_by)))
    (l_book_by : K.lookup f_book_by = some ⟨oc_book_by, od_book_by, .func (PySem.W.fnOf "book_by" "book_by" (defArgs st_book_by) (defBody st_book_by) (defScope st_book_by) .none kV_book_by dc_book_by pm_book_by an_book_by cd_book_by ct_book_by), sl_book_by⟩)
    (c_book_by : PySem.W.codeIn K cd_book_by "book_by" = true)
    (k_book_by : PySem.W.keepIn K (.ref f_book_by) = true)
    (m1_Ledger_book : PySem.W.findIn K (.ref e_Ledger) "book" = some (some (.ref f_Ledger_book)))
    (m2_Ledger_book : PySem.W.isFn K (.ref f_Ledger_book) = true)
    (l_Ledger_book : K.lookup f_Ledger_book = some ⟨oc_Ledger_book, od_Ledger_book, .func (PySem.W.fnOf "book" "Ledger.book" (defArgs st_Ledger_book) (defBody st_Ledger_book) (defScope st_Ledger_book) (.ref tD_Ledger_book) kV_Ledger_book dc_Ledger_book pm_Ledger_book an_Ledger_book cd_Ledger_book ct_Ledger_book), sl_Ledger_book⟩)
    (dl_Ledger_book : K.lookup tD_Ledger_book = some ⟨.type "tuple", td_Ledger_book, .seq #[.none] tn_Ledger_book, ts_Ledger_book⟩)
    (c_Ledger_book : PySem.W.codeIn K cd_Ledger_book "Ledger.book" = true)
    (k_Ledger_book : PySem.W.keepIn K (.ref f_Ledger_book) = true)
    (m1_Ledger_eq : PySem.W.findIn K (.ref e_Ledger) "__eq__" = some (some (.ref f_Ledger_eq)))
    (m2_Ledger_eq : PySem.W.isFn K (.ref f_Ledger_eq) = true)
    (l_Ledger_eq : K.lookup f_Ledger_eq = some ⟨oc_Ledger_eq, od_Ledger_eq, .func (PySem.W.fnOf "__eq__" "Ledger.__eq__" (defArgs st_Ledger_eq) (defBody st_Ledger_eq) (defScope st_Ledger_eq) .none kV_Ledger_eq dc_Ledger_eq pm_Ledger_eq an_Ledger_eq cd_Ledger_eq ct_Ledger_eq), sl_Ledger_eq⟩)
    (c_Ledger_eq : PySem.W.codeIn K cd_Ledger_eq "Ledger.__eq__" = true)
    (k_Ledger_eq : PySem.W.keepIn K (.ref f_Ledger_eq) = true)
    (m1_Ledger_names : PySem.W.findIn K (.ref e_Ledger) "names" = some (some (.ref f_Ledger_names)))
    (m2_Ledger_names : PySem.W.isFn K (.ref f_Ledger_names) = true)
    (l_Ledger_names : K.lookup f_Ledger_names = some ⟨oc_Ledger_names, od_Ledger_names, .func (PySem.W.fnOf "names" "Ledger.names" (defArgs st_Ledger_names) (defBody st_Ledger_names) (defScope st_Ledger_names) .none kV_Ledger_names dc_Ledger_names pm_Ledger_names an_Ledger_names cd_Ledger_names ct_Ledger_names), sl_Ledger_names⟩)
    (c_Ledger_names : PySem.W.codeIn K cd_Ledger_names "Ledger.names" = true)
    (k_Ledger_names : PySem.W.keepIn K (.ref f_Ledger_names) = true)
    (m1_Ledger_len : PySem.W.findIn K (.ref e_Ledger) "__len__" = some (some (.ref f_Ledger_len)))
    (m2_Ledger_len : PySem.W.isFn K (.ref f_Ledger_len) = true)
    (l_Ledger_len : K.lookup f_Ledger_len = some ⟨oc_Ledger_len, od_Ledger_len, .func (PySem.W.fnOf "__len__" "Ledger.__len__" (defArgs st_Ledger_len) (defBody st_Ledger_len) (defScope st_Ledger_len) .none kV_Ledger_len dc_Ledger_len pm_Ledger_len an_Ledger_len cd_Ledger_len ct_Ledger_len), sl_Ledger_len⟩)
    (c_Ledger_len : PySem.W.codeIn K cd_Ledger_len "Ledger.__len__" = true)
    (k_Ledger_len : PySem.W.keepIn K (.ref f_Ledger_len) = true)
    (a_law : PySem.W.nsIn K mainGlobals "law" = some (some (.ref f_law)))
    (l_law : K.lookup f_law = some ⟨oc_law, od_law, .func (PySem.W.fnOf "law" "law" (defArgs st_law) (defBody st_law) (defScope st_law) .none kV_law dc_law pm_law an_law cd_law ct_law), sl_law⟩)
    (c_law : PySem.W.codeIn K cd_law "law" = true)
    (k_law : PySem.W.keepIn K (.ref f_law) = true)
    (z_all : PySem.W.nsIn K mainGlobals "all" = some none)
    (z_bool : PySem.W.nsIn K mainGlobals "bool" = some none)
    (z_dict : PySem.W.nsIn K mainGlobals "dict" = some none)
    (z_int : PySem.W.nsIn K mainGlobals "int" = some none)
    (z_isinstance : PySem.W.nsIn K mainGlobals "isinstance" = some none)
    (z_len : PySem.W.nsIn K mainGlobals "len" = some none)
    (z_list : PySem.W.nsIn K mainGlobals "list" = some none)
    (z_max : PySem.W.nsIn K mainGlobals "max" = some none)
    (z_min : PySem.W.nsIn K mainGlobals "min" = some none)
    (z_range : PySem.W.nsIn K mainGlobals "range" = some none)
    (z_sorted : PySem.W.nsIn K mainGlobals "sorted" = some none)
    (z_str : PySem.W.nsIn K mainGlobals "str" = some none)
    (z_tuple : PySem.W.nsIn K mainGlobals "tuple" = some none)
    (n_KINDS : PySem.W.nsIn K mainGlobals "KINDS" = some (some (.ref p_KINDS)))
    (m_KINDS : K.lookup p_KINDS = some ⟨.type "tuple", dd_KINDS, .seq #[.int 1 t0_KINDS, .int 2 t1_KINDS, .int 3 t2_KINDS, .int 4 t3_KINDS] nn_KINDS, ss_KINDS⟩)
    (n_LETTERS : PySem.W.nsIn K mainGlobals "LETTERS" = some (some (.str "abcdefghijklmnopqrstuvwxyz" t_LETTERS)))
    (n_MOST_AGE : PySem.W.nsIn K mainGlobals "MOST_AGE" = some (some (.int 999 t_MOST_AGE)))
    (n_MOST_DAY : PySem.W.nsIn K mainGlobals "MOST_DAY" = some (some (.int 9999 t_MOST_DAY)))
    (n_MOST_SIGNS : PySem.W.nsIn K mainGlobals "MOST_SIGNS" = some (some (.int 6 t_MOST_SIGNS)))
    (n_MOST_SPANS : PySem.W.nsIn K mainGlobals "MOST_SPANS" = some (some (.int 40 t_MOST_SPANS)))
    (g_NoKind : PySem.W.nsIn K mainGlobals "NoKind" = some (some (.ref e_NoKind)))
    (q_NoKind : PySem.W.keepIn K (.ref e_NoKind) = true)
    (x_NoKind : PySem.W.excIn K e_NoKind veM "ValueError.__new__" = true)
    (b_NoKind : PySem.W.subIn K (.ref e_NoKind) (.type "BaseException") = some true)
    (t_NoKind : PySem.W.typeIn K (.ref e_NoKind) = some (.type "type"))
    (g_NoNumber : PySem.W.nsIn K mainGlobals "NoNumber" = some (some (.ref e_NoNumber)))
    (q_NoNumber : PySem.W.keepIn K (.ref e_NoNumber) = true)
    (x_NoNumber : PySem.W.excIn K e_NoNumber veM "ValueError.__new__" = true)
    (b_NoNumber : PySem.W.subIn K (.ref e_NoNumber) (.type "BaseException") = some true)
    (t_NoNumber : PySem.W.typeIn K (.ref e_NoNumber) = some (.type "type"))
    (g_NoName : PySem.W.nsIn K mainGlobals "NoName" = some (some (.ref e_NoName)))
    (q_NoName : PySem.W.keepIn K (.ref e_NoName) = true)
    (x_NoName : PySem.W.excIn K e_NoName veM "ValueError.__new__" = true)
    (b_NoName : PySem.W.subIn K (.ref e_NoName) (.type "BaseException") = some true)
    (t_NoName : PySem.W.typeIn K (.ref e_NoName) = some (.type "type"))
    (g_NoDay : PySem.W.nsIn K mainGlobals "NoDay" = some (some (.ref e_NoDay)))
    (q_NoDay : PySem.W.keepIn K (.ref e_NoDay) = true)
    (x_NoDay : PySem.W.excIn K e_NoDay veM "ValueError.__new__" = true)
    (b_NoDay : PySem.W.subIn K (.ref e_NoDay) (.type "BaseException") = some true)
    (t_NoDay : PySem.W.typeIn K (.ref e_NoDay) = some (.type "type"))
    (g_NoDeed : PySem.W.nsIn K mainGlobals "NoDeed" = some (some (.ref e_NoDeed)))
    (q_NoDeed : PySem.W.keepIn K (.ref e_NoDeed) = true)
    (x_NoDeed : PySem.W.excIn K e_NoDeed veM "ValueError.__new__" = true)
    (b_NoDeed : PySem.W.subIn K (.ref e_NoDeed) (.type "BaseException") = some true)
    (t_NoDeed : PySem.W.typeIn K (.ref e_NoDeed) = some (.type "type"))
    : Walked ts P w K mg fa "_law_script" 8 fun sem => sem = sem_law := by
  have e := hfa.symm.trans (PySem.W.mg_of X G a_law)
  cases e
  let T : Tb := ⟨K, w, fun _ => 0, fun i => [0, e_NoKind, e_NoNumber, e_NoName, e_NoDay, e_NoDeed].getD i 0, [], none, e_Ledger, 0⟩
  have F__law_pot := fun_mk (st := st__law_pot) l__law_pot c__law_pot k__law_pot
  have B__law_pot : Binds K _ ["_law_cell"] [] := F__law_pot.binds (ps := ["_law_cell"]) fun _ _ _ _ _ _ us hl => match us, hl with | [_], _ => rfl
  have F__law_take := fun_mk (st := st__law_take) l__law_take c__law_take k__law_take
  have B__law_take : Binds K _ ["_law_pot_here", "_law_far"] [] := F__law_take.binds (ps := ["_law_pot_here", "_law_far"]) fun _ _ _ _ _ _ us hl => match us, hl with | [_, _], _ => rfl
  have F__law_truths := fun_mk (st := st__law_truths) l__law_truths c__law_truths k__law_truths
  have B__law_truths : Binds K _ ["_law_pot_here"] [] := F__law_truths.binds (ps := ["_law_pot_here"]) fun _ _ _ _ _ _ us hl => match us, hl with | [_], _ => rfl
  have F_is_whole := fun_mk (st := st_is_whole) l_is_whole c_is_whole k_is_whole
  have B_is_whole : Binds K _ ["thing"] [] := F_is_whole.binds (ps := ["thing"]) fun _ _ _ _ _ _ us hl => match us, hl with | [_], _ => rfl
  have F_is_from_to := fun_mk (st := st_is_from_to) l_is_from_to c_is_from_to k_is_from_to
  have B_is_from_to : Binds K _ ["thing", "low", "high"] [] := F_is_from_to.binds (ps := ["thing", "low", "high"]) fun _ _ _ _ _ _ us hl => match us, hl with | [_, _, _], _ => rfl
  have F_need_day := fun_mk (st := st_need_day) l_need_day c_need_day k_need_day
  have B_need_day : Binds K _ ["thing"] [] := F_need_day.binds (ps := ["thing"]) fun _ _ _ _ _ _ us hl => match us, hl with | [_], _ => rfl
  have F_is_name := fun_mk (st := st_is_name) l_is_name c_is_name k_is_name
  have B_is_name : Binds K _ ["thing"] [] := F_is_name.binds (ps := ["thing"]) fun _ _ _ _ _ _ us hl => match us, hl with | [_], _ => rfl
  have F_Ledger_become := fun_mk (st := st_Ledger_become) l_Ledger_become c_Ledger_become k_Ledger_become
  have B_Ledger_become : Binds K _ ["self", "deed", "name", "thing"] [] := F_Ledger_become.binds (ps := ["self", "deed", "name", "thing"]) fun _ _ _ _ _ _ us hl => match us, hl with | [_, _, _, _], _ => rfl
  have F_Ledger_begin := funD_mk (st := st_Ledger_begin) (dvs := [V.non]) (its := [.none]) l_Ledger_begin c_Ledger_begin k_Ledger_begin dl_Ledger_begin rfl (.cons rfl .nil) (List.cons_ne_nil _ _)
  have B_Ledger_begin := binds_nil (F_Ledger_begin.binds1 (ps := ["self", "name", "day", "watched"]) 4 1 (List.cons_ne_nil _ _) rfl (fun _ _ _ _ _ _ _ us its h1 h2 => match us, h1, its, h2 with | [_, _, _, _], _, [_], _ => ⟨_, rfl, rfl⟩)) rfl
  have BD_Ledger_begin := F_Ledger_begin.binds1 (ps := ["self", "name", "day", "watched"]) 3 0 (List.cons_ne_nil _ _) rfl (fun _ _ _ _ _ _ _ us its h1 h2 => match us, h1, its, h2 with | [_, _, _], _, [_], _ => ⟨_, rfl, rfl⟩)
  have F_Ledger_thing_of := fun_mk (st := st_Ledger_thing_of) l_Ledger_thing_of c_Ledger_thing_of k_Ledger_thing_of
  have B_Ledger_thing_of : Binds K _ ["self", "name"] [] := F_Ledger_thing_of.binds (ps := ["self", "name"]) fun _ _ _ _ _ _ us hl => match us, hl with | [_, _], _ => rfl
  have F_Ledger_known_with := fun_mk (st := st_Ledger_known_with) l_Ledger_known_with c_Ledger_known_with k_Ledger_known_with
  have B_Ledger_known_with : Binds K _ ["self", "name", "day"] [] := F_Ledger_known_with.binds (ps := ["self", "name", "day"]) fun _ _ _ _ _ _ us hl => match us, hl with | [_, _, _], _ => rfl
  have F_Ledger_seen := fun_mk (st := st_Ledger_seen) l_Ledger_seen c_Ledger_seen k_Ledger_seen
  have B_Ledger_seen : Binds K _ ["self", "name", "day"] [] := F_Ledger_seen.binds (ps := ["self", "name", "day"]) fun _ _ _ _ _ _ us hl => match us, hl with | [_, _, _], _ => rfl
  have F_need_end := fun_mk (st := st_need_end) l_need_end c_need_end k_need_end
  have B_need_end : Binds K _ ["thing", "least"] [] := F_need_end.binds (ps := ["thing", "least"]) fun _ _ _ _ _ _ us hl => match us, hl with | [_, _], _ => rfl
  have F_Ledger_ended := fun_mk (st := st_Ledger_ended) l_Ledger_ended c_Ledger_ended k_Ledger_ended
  have B_Ledger_ended : Binds K _ ["self", "name", "day", "end"] [] := F_Ledger_ended.binds (ps := ["self", "name", "day", "end"]) fun _ _ _ _ _ _ us hl => match us, hl with | [_, _, _, _], _ => rfl
  have F_Ledger_mend := fun_mk (st := st_Ledger_mend) l_Ledger_mend c_Ledger_mend k_Ledger_mend
  have B_Ledger_mend : Binds K _ ["self", "name", "day", "end"] [] := F_Ledger_mend.binds (ps := ["self", "name", "day", "end"]) fun _ _ _ _ _ _ us hl => match us, hl with | [_, _, _, _], _ => rfl
  have F_Ledger_drop := fun_mk (st := st_Ledger_drop) l_Ledger_drop c_Ledger_drop k_Ledger_drop
  have B_Ledger_drop : Binds K _ ["self", "name"] [] := F_Ledger_drop.binds (ps := ["self", "name"]) fun _ _ _ _ _ _ us hl => match us, hl with | [_, _], _ => rfl
  have F_Ledger_undo := fun_mk (st := st_Ledger_undo) l_Ledger_undo c_Ledger_undo k_Ledger_undo
  have B_Ledger_undo : Binds K _ ["self"] [] := F_Ledger_undo.binds (ps := ["self"]) fun _ _ _ _ _ _ us hl => match us, hl with | [_], _ => rfl
  have F__law_tell := fun_mk (st := st__law_tell) l__law_tell c__law_tell k__law_tell
  have B__law_tell : Binds K _ ["_law_book_of", "_law_deed"] [] := F__law_tell.binds (ps := ["_law_book_of", "_law_deed"]) fun _ _ _ _ _ _ us hl => match us, hl with | [_, _], _ => rfl
  have F__law_ledger_of := fun_mk (st := st__law_ledger_of) l__law_ledger_of c__law_ledger_of k__law_ledger_of
  have B__law_ledger_of : Binds K _ ["_law_deeds"] [] := F__law_ledger_of.binds (ps := ["_law_deeds"]) fun _ _ _ _ _ _ us hl => match us, hl with | [_], _ => rfl
  have F__law_woven := fun_mk (st := st__law_woven) l__law_woven c__law_woven k__law_woven
  have B__law_woven : Binds K _ ["_law_pot_here", "_law_lines"] [] := F__law_woven.binds (ps := ["_law_pot_here", "_law_lines"]) fun _ _ _ _ _ _ us hl => match us, hl with | [_, _], _ => rfl
  have F__law_cell_at := fun_mk (st := st__law_cell_at) l__law_cell_at c__law_cell_at k__law_cell_at
  have B__law_cell_at : Binds K _ ["_law_script", "_law_k"] [] := F__law_cell_at.binds (ps := ["_law_script", "_law_k"]) fun _ _ _ _ _ _ us hl => match us, hl with | [_, _], _ => rfl
  have F__law_rightly := fun_mk (st := st__law_rightly) l__law_rightly c__law_rightly k__law_rightly
  have B__law_rightly : Binds K _ ["_law_truths_here", "_law_name"] [] := F__law_rightly.binds (ps := ["_law_truths_here", "_law_name"]) fun _ _ _ _ _ _ us hl => match us, hl with | [_, _], _ => rfl
  have F__law_by_turns := fun_mk (st := st__law_by_turns) l__law_by_turns c__law_by_turns k__law_by_turns
  have B__law_by_turns : Binds K _ ["_law_pot_here", "_law_truths_here", "_law_name"] [] := F__law_by_turns.binds (ps := ["_law_pot_here", "_law_truths_here", "_law_name"]) fun _ _ _ _ _ _ us hl => match us, hl with | [_, _, _], _ => rfl
  have F_book_by := fun_mk (st := st_book_by) l_book_by c_book_by k_book_by
  have B_book_by : Binds K _ ["things"] [] := F_book_by.binds (ps := ["things"]) fun _ _ _ _ _ _ us hl => match us, hl with | [_], _ => rfl
  have F_Ledger_book := funD_mk (st := st_Ledger_book) (dvs := [V.non]) (its := [.none]) l_Ledger_book c_Ledger_book k_Ledger_book dl_Ledger_book rfl (.cons rfl .nil) (List.cons_ne_nil _ _)
  have B_Ledger_book := binds_nil (F_Ledger_book.binds1 (ps := ["self", "told"]) 2 1 (List.cons_ne_nil _ _) rfl (fun _ _ _ _ _ _ _ us its h1 h2 => match us, h1, its, h2 with | [_, _], _, [_], _ => ⟨_, rfl, rfl⟩)) rfl
  have BD_Ledger_book := F_Ledger_book.binds1 (ps := ["self", "told"]) 1 0 (List.cons_ne_nil _ _) rfl (fun _ _ _ _ _ _ _ us its h1 h2 => match us, h1, its, h2 with | [_], _, [_], _ => ⟨_, rfl, rfl⟩)
  have F_Ledger_eq := fun_mk (st := st_Ledger_eq) l_Ledger_eq c_Ledger_eq k_Ledger_eq
  have B_Ledger_eq : Binds K _ ["self", "other"] [] := F_Ledger_eq.binds (ps := ["self", "other"]) fun _ _ _ _ _ _ us hl => match us, hl with | [_, _], _ => rfl
  have F_Ledger_names := fun_mk (st := st_Ledger_names) l_Ledger_names c_Ledger_names k_Ledger_names
  have B_Ledger_names : Binds K _ ["self"] [] := F_Ledger_names.binds (ps := ["self"]) fun _ _ _ _ _ _ us hl => match us, hl with | [_], _ => rfl
  have F_Ledger_len := fun_mk (st := st_Ledger_len) l_Ledger_len c_Ledger_len k_Ledger_len
  have B_Ledger_len : Binds K _ ["self"] [] := F_Ledger_len.binds (ps := ["self"]) fun _ _ _ _ _ _ us hl => match us, hl with | [_], _ => rfl
  have F_law := fun_mk (st := st_law) l_law c_law k_law
  have g : Gv mg T := ⟨PySem.W.mg_none_of X G z_all,
    PySem.W.mg_none_of X G z_bool,
    PySem.W.mg_none_of X G z_dict,
    PySem.W.mg_none_of X G z_int,
    PySem.W.mg_none_of X G z_isinstance,
    PySem.W.mg_none_of X G z_len,
    PySem.W.mg_none_of X G z_list,
    PySem.W.mg_none_of X G z_max,
    PySem.W.mg_none_of X G z_min,
    PySem.W.mg_none_of X G z_range,
    PySem.W.mg_none_of X G z_sorted,
    PySem.W.mg_none_of X G z_str,
    PySem.W.mg_none_of X G z_tuple,
    ⟨_, .ref p_KINDS, PySem.W.mg_of X G n_KINDS, rfl, fun _ _ => .tup (xs := [(.int (1)), (.int (2)), (.int (3)), (.int (4))]) (.inr ⟨_, _, _, m_KINDS, rfl, rfl, Nat.le_of_ble_eq_true rfl, (.cons (show L2.RelV (.int (1)) _ from ⟨_, rfl⟩) (.cons (show L2.RelV (.int (2)) _ from ⟨_, rfl⟩) (.cons (show L2.RelV (.int (3)) _ from ⟨_, rfl⟩) (.cons (show L2.RelV (.int (4)) _ from ⟨_, rfl⟩) .nil))))⟩) (.cons (.int _) (.cons (.int _) (.cons (.int _) (.cons (.int _) .nil))))⟩,
    ⟨_, .str "abcdefghijklmnopqrstuvwxyz", PySem.W.mg_of X G n_LETTERS, ⟨_, rfl⟩, fun _ _ => .str _⟩,
    ⟨_, .int 999, PySem.W.mg_of X G n_MOST_AGE, ⟨_, rfl⟩, fun _ _ => .int _⟩,
    ⟨_, .int 9999, PySem.W.mg_of X G n_MOST_DAY, ⟨_, rfl⟩, fun _ _ => .int _⟩,
    ⟨_, .int 6, PySem.W.mg_of X G n_MOST_SIGNS, ⟨_, rfl⟩, fun _ _ => .int _⟩,
    ⟨_, .int 40, PySem.W.mg_of X G n_MOST_SPANS, ⟨_, rfl⟩, fun _ _ => .int _⟩,
    ⟨PySem.W.mg_of X G g_NoKind, q_NoKind, x_NoKind, b_NoKind, t_NoKind⟩,
    ⟨PySem.W.mg_of X G g_NoNumber, q_NoNumber, x_NoNumber, b_NoNumber, t_NoNumber⟩,
    ⟨PySem.W.mg_of X G g_NoName, q_NoName, x_NoName, b_NoName, t_NoName⟩,
    ⟨PySem.W.mg_of X G g_NoDay, q_NoDay, x_NoDay, b_NoDay, t_NoDay⟩,
    ⟨PySem.W.mg_of X G g_NoDeed, q_NoDeed, x_NoDeed, b_NoDeed, t_NoDeed⟩,
    ⟨⟨o1_Ledger, o2_Ledger, o3_Ledger, o4_Ledger⟩, nf_tellings, nf_stood⟩,
    ⟨eq1, eq2, eq3⟩,
    ⟨⟨o1_Ledger, o2_Ledger, o3_Ledger, o4_Ledger⟩, is1, is2, is3, eq2, if_pos (beq_self_eq_true _)⟩,
    PySem.W.mg_of X G g_Ledger⟩
  refine ⟨?fd, T, sem_law, [], rfl, rfl, ?bd, no_tabs rfl, fun base _ _ sm _ => ?mn, rfl⟩
  rotate_left 2
  have F_Linit := fun_mk (st := st_Linit) l_Linit c_Linit k_Linit
  have B_Linit : Binds K _ ["self"] [] := F_Linit.binds (ps := ["self"]) fun _ _ _ _ _ _ us hl => match us, hl with | [_], _ => rfl
  have GL_ : FnOk P w K mg base CX0 1 f_Linit _ ["self"] (spInitL e_Ledger) := ok_initL F_Linit ini_L ⟨o1_Ledger, o2_Ledger, o3_Ledger, o4_Ledger⟩ nf_tellings nf_stood
  have EL_ : MkL P w mg base T := ⟨⟨⟨o1_Ledger, o2_Ledger, o3_Ledger, o4_Ledger⟩, nf_tellings, nf_stood⟩, PySem.W.mg_of X G g_Ledger, f_Linit, _, ⟨mk1_Ledger, mk2_Ledger, mk3_Ledger, mk4_Ledger⟩, B_Linit, GL_⟩
  have F_twin := fun_mk (st := st_twin) l_twin c_twin k_twin
  have B_twin : Binds K _ ["self"] [] := F_twin.binds (ps := ["self"]) fun _ _ _ _ _ _ us hl => match us, hl with | [_], _ => rfl
  have ET_ : TwL P w mg base T := ⟨⟨⟨o1_Ledger, o2_Ledger, o3_Ledger, o4_Ledger⟩, nf_tellings, nf_stood⟩, f_twin, _, ⟨tw1, tw2, k_twin⟩, B_twin, ok_twin F_twin twn_L ⟨o1_Ledger, o2_Ledger, o3_Ledger, o4_Ledger⟩ nf_tellings nf_stood GL_ ⟨mk1_Ledger, mk2_Ledger, mk3_Ledger, mk4_Ledger⟩ (PySem.W.mg_of X G g_Ledger) (PySem.W.mg_none_of X G z_list) B_Linit⟩
  have E__law_pot : FnE P w mg base T "_law_pot" 1 1 sem__law_pot := fn_e F__law_pot sc__law_pot rfl (PySem.W.mg_of X G a__law_pot) B__law_pot rfl sm fun X1 W1 H1 e1 e2 e3 e4 a1 k1 f1 c1 => by
    subst e1 e2 e3 e4
    exact b__law_pot a1 k1 f1 c1 g
  have E__law_take : FnE P w mg base T "_law_take" 1 2 sem__law_take := fn_e F__law_take sc__law_take rfl (PySem.W.mg_of X G a__law_take) B__law_take rfl sm fun X1 W1 H1 e1 e2 e3 e4 a1 k1 f1 c1 => by
    subst e1 e2 e3 e4
    exact b__law_take a1 k1 f1 c1 g
  have E__law_truths : FnE P w mg base T "_law_truths" 2 1 sem__law_truths := fn_e F__law_truths sc__law_truths rfl (PySem.W.mg_of X G a__law_truths) B__law_truths rfl sm fun X1 W1 H1 e1 e2 e3 e4 a1 k1 f1 c1 => by
    subst e1 e2 e3 e4
    exact b__law_truths a1 k1 f1 c1 g E__law_take
  have E_is_whole : FnE P w mg base T "is_whole" 1 1 sem_is_whole := fn_e F_is_whole sc_is_whole rfl (PySem.W.mg_of X G a_is_whole) B_is_whole rfl sm fun X1 W1 H1 e1 e2 e3 e4 a1 k1 f1 c1 => by
    subst e1 e2 e3 e4
    exact b_is_whole a1 k1 f1 c1 g
  have E_is_from_to : FnE P w mg base T "is_from_to" 2 3 sem_is_from_to := fn_e F_is_from_to sc_is_from_to rfl (PySem.W.mg_of X G a_is_from_to) B_is_from_to rfl sm fun X1 W1 H1 e1 e2 e3 e4 a1 k1 f1 c1 => by
    subst e1 e2 e3 e4
    exact b_is_from_to a1 k1 f1 c1 g E_is_whole
  have E_need_day : FnE P w mg base T "need_day" 3 1 sem_need_day := fn_e F_need_day sc_need_day rfl (PySem.W.mg_of X G a_need_day) B_need_day rfl sm fun X1 W1 H1 e1 e2 e3 e4 a1 k1 f1 c1 => by
    subst e1 e2 e3 e4
    exact b_need_day a1 k1 f1 c1 g E_is_from_to
  have E_is_name : FnE P w mg base T "is_name" 1 1 sem_is_name := fn_e F_is_name sc_is_name rfl (PySem.W.mg_of X G a_is_name) B_is_name rfl sm fun X1 W1 H1 e1 e2 e3 e4 a1 k1 f1 c1 => by
    subst e1 e2 e3 e4
    exact b_is_name a1 k1 f1 c1 g
  have GG_Ledger_become := fn_g (T := T) (P := P) (w := w) (mg := mg) (base := base) (k := 0) (pr := pr_Ledger_become) (m := m_Ledger_become) F_Ledger_become sc_Ledger_become rfl rfl rfl sm fun X1 W1 H1 e1 e2 _ e4 e5 e6 e7 e8 e9 c1 => by
    subst e1 e2 e4 e5
    exact b_Ledger_become ⟨e6, e7⟩ e8 (fun x => by rw [e9]) c1 g
  have E_Ledger_become : FnM P w mg base T true "become" 1 4 sem_Ledger_become [] := ⟨⟨o1_Ledger, o2_Ledger, o3_Ledger, o4_Ledger⟩, f_Ledger_become, _, ["self", "deed", "name", "thing"], [], [], ⟨m1_Ledger_become, m2_Ledger_become, k_Ledger_become⟩, B_Ledger_become, rfl, GG_Ledger_become, .nil, fun _ _ => .nil⟩
  have GG_Ledger_begin := fn_gD (T := T) (P := P) (w := w) (mg := mg) (base := base) (k := 3) (pr := pr_Ledger_begin) (m := m_Ledger_begin) F_Ledger_begin sc_Ledger_begin rfl rfl rfl sm fun X1 W1 H1 e1 e2 _ e4 e5 e6 e7 e8 e9 c1 => by
    subst e1 e2 e4 e5
    exact b_Ledger_begin ⟨e6, e7⟩ e8 (fun x => by rw [e9]) c1 g E_Ledger_become E_need_day E_is_name
  have E_Ledger_begin : FnM P w mg base T true "begin" 4 4 sem_Ledger_begin [] := ⟨⟨o1_Ledger, o2_Ledger, o3_Ledger, o4_Ledger⟩, f_Ledger_begin, _, ["self", "name", "day", "watched"], [], [], ⟨m1_Ledger_begin, m2_Ledger_begin, k_Ledger_begin⟩, B_Ledger_begin, rfl, GG_Ledger_begin, .nil, fun _ _ => .nil⟩
  obtain ⟨dus_Ledger_begin, hv_Ledger_begin, hb_Ledger_begin⟩ := BD_Ledger_begin
  have ED_Ledger_begin : FnM P w mg base T true "begin" 4 4 sem_Ledger_begin [.none] := ⟨⟨o1_Ledger, o2_Ledger, o3_Ledger, o4_Ledger⟩, f_Ledger_begin, _, ["self", "name", "day", "watched"], dus_Ledger_begin, _, ⟨m1_Ledger_begin, m2_Ledger_begin, k_Ledger_begin⟩, hb_Ledger_begin, rfl, GG_Ledger_begin, hv_Ledger_begin, fun _ _ => (.cons .non .nil)⟩
  have GG_Ledger_thing_of := fn_g (T := T) (P := P) (w := w) (mg := mg) (base := base) (k := 1) (pr := pr_Ledger_thing_of) (m := m_Ledger_thing_of) F_Ledger_thing_of sc_Ledger_thing_of rfl rfl rfl sm fun X1 W1 H1 e1 e2 _ e4 e5 e6 e7 e8 e9 c1 => by
    subst e1 e2 e4 e5
    exact b_Ledger_thing_of ⟨e6, e7⟩ e8 (fun x => by rw [e9]) c1 g E_is_name
  have E_Ledger_thing_of : FnM P w mg base T true "thing_of" 2 2 sem_Ledger_thing_of [] := ⟨⟨o1_Ledger, o2_Ledger, o3_Ledger, o4_Ledger⟩, f_Ledger_thing_of, _, ["self", "name"], [], [], ⟨m1_Ledger_thing_of, m2_Ledger_thing_of, k_Ledger_thing_of⟩, B_Ledger_thing_of, rfl, GG_Ledger_thing_of, .nil, fun _ _ => .nil⟩
  have GG_Ledger_known_with := fn_g (T := T) (P := P) (w := w) (mg := mg) (base := base) (k := 3) (pr := pr_Ledger_known_with) (m := m_Ledger_known_with) F_Ledger_known_with sc_Ledger_known_with rfl rfl rfl sm fun X1 W1 H1 e1 e2 _ e4 e5 e6 e7 e8 e9 c1 => by
    subst e1 e2 e4 e5
    exact b_Ledger_known_with ⟨e6, e7⟩ e8 (fun x => by rw [e9]) c1 g E_Ledger_thing_of E_need_day
  have E_Ledger_known_with : FnM P w mg base T true "known_with" 4 3 sem_Ledger_known_with [] := ⟨⟨o1_Ledger, o2_Ledger, o3_Ledger, o4_Ledger⟩, f_Ledger_known_with, _, ["self", "name", "day"], [], [], ⟨m1_Ledger_known_with, m2_Ledger_known_with, k_Ledger_known_with⟩, B_Ledger_known_with, rfl, GG_Ledger_known_with, .nil, fun _ _ => .nil⟩
  have GG_Ledger_seen := fn_g (T := T) (P := P) (w := w) (mg := mg) (base := base) (k := 4) (pr := pr_Ledger_seen) (m := m_Ledger_seen) F_Ledger_seen sc_Ledger_seen rfl rfl rfl sm fun X1 W1 H1 e1 e2 _ e4 e5 e6 e7 e8 e9 c1 => by
    subst e1 e2 e4 e5
    exact b_Ledger_seen ⟨e6, e7⟩ e8 (fun x => by rw [e9]) c1 g E_Ledger_known_with E_Ledger_become
  have E_Ledger_seen : FnM P w mg base T true "seen" 5 3 sem_Ledger_seen [] := ⟨⟨o1_Ledger, o2_Ledger, o3_Ledger, o4_Ledger⟩, f_Ledger_seen, _, ["self", "name", "day"], [], [], ⟨m1_Ledger_seen, m2_Ledger_seen, k_Ledger_seen⟩, B_Ledger_seen, rfl, GG_Ledger_seen, .nil, fun _ _ => .nil⟩
  have E_need_end : FnE P w mg base T "need_end" 3 2 sem_need_end := fn_e F_need_end sc_need_end rfl (PySem.W.mg_of X G a_need_end) B_need_end rfl sm fun X1 W1 H1 e1 e2 e3 e4 a1 k1 f1 c1 => by
    subst e1 e2 e3 e4
    exact b_need_end a1 k1 f1 c1 g E_is_from_to
  have GG_Ledger_ended := fn_g (T := T) (P := P) (w := w) (mg := mg) (base := base) (k := 4) (pr := pr_Ledger_ended) (m := m_Ledger_ended) F_Ledger_ended sc_Ledger_ended rfl rfl rfl sm fun X1 W1 H1 e1 e2 _ e4 e5 e6 e7 e8 e9 c1 => by
    subst e1 e2 e4 e5
    exact b_Ledger_ended ⟨e6, e7⟩ e8 (fun x => by rw [e9]) c1 g E_Ledger_known_with E_Ledger_become E_need_end
  have E_Ledger_ended : FnM P w mg base T true "ended" 5 4 sem_Ledger_ended [] := ⟨⟨o1_Ledger, o2_Ledger, o3_Ledger, o4_Ledger⟩, f_Ledger_ended, _, ["self", "name", "day", "end"], [], [], ⟨m1_Ledger_ended, m2_Ledger_ended, k_Ledger_ended⟩, B_Ledger_ended, rfl, GG_Ledger_ended, .nil, fun _ _ => .nil⟩
  have GG_Ledger_mend := fn_g (T := T) (P := P) (w := w) (mg := mg) (base := base) (k := 4) (pr := pr_Ledger_mend) (m := m_Ledger_mend) F_Ledger_mend sc_Ledger_mend rfl rfl rfl sm fun X1 W1 H1 e1 e2 _ e4 e5 e6 e7 e8 e9 c1 => by
    subst e1 e2 e4 e5
    exact b_Ledger_mend ⟨e6, e7⟩ e8 (fun x => by rw [e9]) c1 g E_Ledger_known_with E_Ledger_become E_need_end
  have E_Ledger_mend : FnM P w mg base T true "mend" 5 4 sem_Ledger_mend [] := ⟨⟨o1_Ledger, o2_Ledger, o3_Ledger, o4_Ledger⟩, f_Ledger_mend, _, ["self", "name", "day", "end"], [], [], ⟨m1_Ledger_mend, m2_Ledger_mend, k_Ledger_mend⟩, B_Ledger_mend, rfl, GG_Ledger_mend, .nil, fun _ _ => .nil⟩
  have GG_Ledger_drop := fn_g (T := T) (P := P) (w := w) (mg := mg) (base := base) (k := 2) (pr := pr_Ledger_drop) (m := m_Ledger_drop) F_Ledger_drop sc_Ledger_drop rfl rfl rfl sm fun X1 W1 H1 e1 e2 _ e4 e5 e6 e7 e8 e9 c1 => by
    subst e1 e2 e4 e5
    exact b_Ledger_drop ⟨e6, e7⟩ e8 (fun x => by rw [e9]) c1 g E_Ledger_thing_of E_Ledger_become
  have E_Ledger_drop : FnM P w mg base T true "drop" 3 2 sem_Ledger_drop [] := ⟨⟨o1_Ledger, o2_Ledger, o3_Ledger, o4_Ledger⟩, f_Ledger_drop, _, ["self", "name"], [], [], ⟨m1_Ledger_drop, m2_Ledger_drop, k_Ledger_drop⟩, B_Ledger_drop, rfl, GG_Ledger_drop, .nil, fun _ _ => .nil⟩
  have GG_Ledger_undo := fn_g (T := T) (P := P) (w := w) (mg := mg) (base := base) (k := 0) (pr := pr_Ledger_undo) (m := m_Ledger_undo) F_Ledger_undo sc_Ledger_undo rfl rfl rfl sm fun X1 W1 H1 e1 e2 _ e4 e5 e6 e7 e8 e9 c1 => by
    subst e1 e2 e4 e5
    exact b_Ledger_undo ⟨e6, e7⟩ e8 (fun x => by rw [e9]) c1 g
  have E_Ledger_undo : FnM P w mg base T true "undo" 1 1 sem_Ledger_undo [] := ⟨⟨o1_Ledger, o2_Ledger, o3_Ledger, o4_Ledger⟩, f_Ledger_undo, _, ["self"], [], [], ⟨m1_Ledger_undo, m2_Ledger_undo, k_Ledger_undo⟩, B_Ledger_undo, rfl, GG_Ledger_undo, .nil, fun _ _ => .nil⟩
  have E__law_tell : FnE P w mg base T "_law_tell" 6 2 sem__law_tell := fn_e F__law_tell sc__law_tell rfl (PySem.W.mg_of X G a__law_tell) B__law_tell rfl sm fun X1 W1 H1 e1 e2 e3 e4 a1 k1 f1 c1 => by
    subst e1 e2 e3 e4
    exact b__law_tell a1 k1 f1 c1 g E_Ledger_begin E_Ledger_seen E_Ledger_ended E_Ledger_mend E_Ledger_drop E_Ledger_undo
  have E__law_ledger_of : FnE P w mg base T "_law_ledger_of" 7 1 sem__law_ledger_of := fn_e F__law_ledger_of sc__law_ledger_of rfl (PySem.W.mg_of X G a__law_ledger_of) B__law_ledger_of rfl sm fun X1 W1 H1 e1 e2 e3 e4 a1 k1 f1 c1 => by
    subst e1 e2 e3 e4
    exact b__law_ledger_of a1 k1 f1 c1 g E__law_tell EL_
  have E__law_woven : FnE P w mg base T "_law_woven" 2 2 sem__law_woven := fn_e F__law_woven sc__law_woven rfl (PySem.W.mg_of X G a__law_woven) B__law_woven rfl sm fun X1 W1 H1 e1 e2 e3 e4 a1 k1 f1 c1 => by
    subst e1 e2 e3 e4
    exact b__law_woven a1 k1 f1 c1 g E__law_take
  have E__law_cell_at : FnE P w mg base T "_law_cell_at" 1 2 sem__law_cell_at := fn_e F__law_cell_at sc__law_cell_at rfl (PySem.W.mg_of X G a__law_cell_at) B__law_cell_at rfl sm fun X1 W1 H1 e1 e2 e3 e4 a1 k1 f1 c1 => by
    subst e1 e2 e3 e4
    exact b__law_cell_at a1 k1 f1 c1 g
  have E__law_rightly : FnE P w mg base T "_law_rightly" 1 2 sem__law_rightly := fn_e F__law_rightly sc__law_rightly rfl (PySem.W.mg_of X G a__law_rightly) B__law_rightly rfl sm fun X1 W1 H1 e1 e2 e3 e4 a1 k1 f1 c1 => by
    subst e1 e2 e3 e4
    exact b__law_rightly a1 k1 f1 c1 g
  have E__law_by_turns : FnE P w mg base T "_law_by_turns" 2 3 sem__law_by_turns := fn_e F__law_by_turns sc__law_by_turns rfl (PySem.W.mg_of X G a__law_by_turns) B__law_by_turns rfl sm fun X1 W1 H1 e1 e2 e3 e4 a1 k1 f1 c1 => by
    subst e1 e2 e3 e4
    exact b__law_by_turns a1 k1 f1 c1 g E__law_take E__law_rightly
  have E_book_by : FnE P w mg base T "book_by" 1 1 sem_book_by := fn_e F_book_by sc_book_by rfl (PySem.W.mg_of X G a_book_by) B_book_by rfl sm fun X1 W1 H1 e1 e2 e3 e4 a1 k1 f1 c1 => by
    subst e1 e2 e3 e4
    exact b_book_by a1 k1 f1 c1 g
  have GG_Ledger_book := fn_gD (T := T) (P := P) (w := w) (mg := mg) (base := base) (k := 2) (pr := pr_Ledger_book) (m := m_Ledger_book) F_Ledger_book sc_Ledger_book rfl rfl rfl sm fun X1 W1 H1 e1 e2 _ e4 e5 e6 e7 e8 e9 c1 => by
    subst e1 e2 e4 e5
    exact b_Ledger_book ⟨e6, e7⟩ e8 (fun x => by rw [e9]) c1 g E_book_by E_is_from_to
  have E_Ledger_book : FnM P w mg base T true "book" 3 2 sem_Ledger_book [] := ⟨⟨o1_Ledger, o2_Ledger, o3_Ledger, o4_Ledger⟩, f_Ledger_book, _, ["self", "told"], [], [], ⟨m1_Ledger_book, m2_Ledger_book, k_Ledger_book⟩, B_Ledger_book, rfl, GG_Ledger_book, .nil, fun _ _ => .nil⟩
  obtain ⟨dus_Ledger_book, hv_Ledger_book, hb_Ledger_book⟩ := BD_Ledger_book
  have ED_Ledger_book : FnM P w mg base T true "book" 3 2 sem_Ledger_book [.none] := ⟨⟨o1_Ledger, o2_Ledger, o3_Ledger, o4_Ledger⟩, f_Ledger_book, _, ["self", "told"], dus_Ledger_book, _, ⟨m1_Ledger_book, m2_Ledger_book, k_Ledger_book⟩, hb_Ledger_book, rfl, GG_Ledger_book, hv_Ledger_book, fun _ _ => (.cons .non .nil)⟩
  have GG_Ledger_eq := fn_g (T := T) (P := P) (w := w) (mg := mg) (base := base) (k := 0) (pr := pr_Ledger_eq) (m := m_Ledger_eq) F_Ledger_eq sc_Ledger_eq rfl rfl rfl sm fun X1 W1 H1 e1 e2 _ e4 e5 e6 e7 e8 e9 c1 => by
    subst e1 e2 e4 e5
    exact b_Ledger_eq ⟨e6, e7⟩ e8 (fun x => by rw [e9]) c1 g
  have E_Ledger_eq : FnM P w mg base T true "__eq__" 1 2 sem_Ledger_eq [] := ⟨⟨o1_Ledger, o2_Ledger, o3_Ledger, o4_Ledger⟩, f_Ledger_eq, _, ["self", "other"], [], [], ⟨m1_Ledger_eq, m2_Ledger_eq, k_Ledger_eq⟩, B_Ledger_eq, rfl, GG_Ledger_eq, .nil, fun _ _ => .nil⟩
  have GG_Ledger_names := fn_g (T := T) (P := P) (w := w) (mg := mg) (base := base) (k := 0) (pr := pr_Ledger_names) (m := m_Ledger_names) F_Ledger_names sc_Ledger_names rfl rfl rfl sm fun X1 W1 H1 e1 e2 _ e4 e5 e6 e7 e8 e9 c1 => by
    subst e1 e2 e4 e5
    exact b_Ledger_names ⟨e6, e7⟩ e8 (fun x => by rw [e9]) c1 g
  have E_Ledger_names : FnM P w mg base T true "names" 1 1 sem_Ledger_names [] := ⟨⟨o1_Ledger, o2_Ledger, o3_Ledger, o4_Ledger⟩, f_Ledger_names, _, ["self"], [], [], ⟨m1_Ledger_names, m2_Ledger_names, k_Ledger_names⟩, B_Ledger_names, rfl, GG_Ledger_names, .nil, fun _ _ => .nil⟩
  have GG_Ledger_len := fn_g (T := T) (P := P) (w := w) (mg := mg) (base := base) (k := 0) (pr := pr_Ledger_len) (m := m_Ledger_len) F_Ledger_len sc_Ledger_len rfl rfl rfl sm fun X1 W1 H1 e1 e2 _ e4 e5 e6 e7 e8 e9 c1 => by
    subst e1 e2 e4 e5
    exact b_Ledger_len ⟨e6, e7⟩ e8 (fun x => by rw [e9]) c1 g
  have E_Ledger_len : FnM P w mg base T true "__len__" 1 1 sem_Ledger_len [] := ⟨⟨o1_Ledger, o2_Ledger, o3_Ledger, o4_Ledger⟩, f_Ledger_len, _, ["self"], [], [], ⟨m1_Ledger_len, m2_Ledger_len, k_Ledger_len⟩, B_Ledger_len, rfl, GG_Ledger_len, .nil, fun _ _ => .nil⟩
  have z1 := fun zz => @fn_g T P w K mg base 7 1 "law" "law" st_law _ _ N_law ["_law_script"] pr_law m_law F_law sc_law rfl rfl rfl sm zz
  refine z1 fun X1 W1 H1 e1 e2 _ e4 e5 e6 e7 e8 e9 c1 => ?_
  · subst e1 e2 e4 e5
    exact b_law ⟨e6, e7⟩ e8 (fun x => by rw [e9]) c1 g E_Ledger_book E_Ledger_undo E_Ledger_eq E_Ledger_names E_Ledger_len E__law_pot E__law_truths E__law_ledger_of E__law_woven E__law_cell_at E__law_take E__law_tell E__law_rightly E__law_by_turns ED_Ledger_book ET_
  exact fun s u => .of_eq rfl
end Lw
namespace Lw
open PySem PySem.Spec PyProof.Rows L2 He DL
theorem lawSX {P : Program} {w : World} {K : PySem.W.Frag} {h : Heap} {mg : Str → Option Value} {fa : Addr} (X : K.In h) (G : h.Ns mainGlobals mg) (hfa : mg "law" = some (.ref fa)) (c : DL.SaysX faS fnS K) :
    DL.Walked (DL.tbX K tfS) P w K mg fa "_law_script" 8 fun sem => ∀ ns : List Int, ns.length ≤ 63 → ∃ os, sem [.dat (.list (ns.map .int))] = some (.ok (.dat (.bool true)) os) := by
  have g_Ledger : PySem.W.nsIn K mainGlobals "Ledger" = some (some (.ref (ga K "Ledger"))) := of_decide_eq_true (c.fact 0 0 rfl rfl)
  have o1_Ledger : PySem.W.plainGet K (ga K "Ledger") Str.empty = true := of_decide_eq_true (c.fact 0 1 rfl rfl)
  have o2_Ledger : PySem.W.hasDictIn K (ga K "Ledger") = true := of_decide_eq_true (c.fact 0 2 rfl rfl)
  have o3_Ledger : PySem.W.plainOver K (ga K "Ledger") = true := of_decide_eq_true (c.fact 0 3 rfl rfl)
  have o4_Ledger : PySem.W.findIn K (.ref (ga K "Ledger")) "__setattr__" = some (some (.builtin "object.__setattr__")) := of_decide_eq_true (c.fact 0 4 rfl rfl)
  have nf_tellings : PySem.W.findIn K (.ref (ga K "Ledger")) "tellings" = some none := of_decide_eq_true (c.fact 0 5 rfl rfl)
  have nf_stood : PySem.W.findIn K (.ref (ga K "Ledger")) "stood" = some none := of_decide_eq_true (c.fact 0 6 rfl rfl)
  have mk1_Ledger : PySem.W.makesIn K (ga K "Ledger") = true := of_decide_eq_true (c.fact 0 7 rfl rfl)
  have mk2_Ledger : PySem.W.findIn K (.ref (ga K "Ledger")) "__init__" = some (some (.ref (ma K (ga K "Ledger") "__init__"))) := of_decide_eq_true (c.fact 0 8 rfl rfl)
  have dv_Linit : dvX K (ma K (ga K "Ledger") "__init__") = .none := of_decide_eq_true (c.fact 0 9 rfl rfl)
  obtain ⟨⟨_, _, _, _, _, _, _, _, l_Linit⟩, k_Linit, c_Linit⟩ := c.def_ 0 rfl dv_Linit rfl
  have mk3_Ledger : PySem.W.isFn K (.ref (ma K (ga K "Ledger") "__init__")) = true := of_decide_eq_true (c.fact 0 10 rfl rfl)
  have mk4_Ledger : PySem.W.keepIn K (.ref (ga K "Ledger")) = true := of_decide_eq_true (c.fact 0 11 rfl rfl)
  have tw1 : PySem.W.findIn K (.ref (ga K "Ledger")) "twin" = some (some (.ref (ma K (ga K "Ledger") "twin"))) := of_decide_eq_true (c.fact 0 12 rfl rfl)
  have dv_twin : dvX K (ma K (ga K "Ledger") "twin") = .none := of_decide_eq_true (c.fact 0 13 rfl rfl)
  obtain ⟨⟨_, _, _, _, _, _, _, _, l_twin⟩, k_twin, c_twin⟩ := c.def_ 1 rfl dv_twin rfl
  have tw2 : PySem.W.isFn K (.ref (ma K (ga K "Ledger") "twin")) = true := of_decide_eq_true (c.fact 0 14 rfl rfl)
  have eq1 : PySem.W.notFirst K (ga K "Ledger") (.ref (ga K "Ledger")) = true := of_decide_eq_true (c.fact 0 15 rfl rfl)
  have eq2 : PySem.W.mroIn K (ga K "Ledger") (.type "object") = some true := of_decide_eq_true (c.fact 0 16 rfl rfl)
  have eq3 : PySem.W.findIn K (.ref (ga K "Ledger")) "__ne__" = some (some (.builtin "object.__ne__")) := of_decide_eq_true (c.fact 0 17 rfl rfl)
  have is1 : PySem.W.findIn K (.ref (ga K "Ledger")) "__class__" = some (some (.builtin "object.__class__")) := of_decide_eq_true (c.fact 0 18 rfl rfl)
  have is2 : PySem.W.specialIn K (.builtin "object.__class__") "__get__" = some (some (.builtin "getset_descriptor.__get__")) := of_decide_eq_true (c.fact 0 19 rfl rfl)
  have is3 : PySem.W.takesIn K (.builtin "object.__class__") = some true := of_decide_eq_true (c.fact 0 20 rfl rfl)
  have a__law_pot : PySem.W.nsIn K mainGlobals "_law_pot" = some (some (.ref (ga K "_law_pot"))) := of_decide_eq_true (c.fact 0 21 rfl rfl)
  have dv__law_pot : dvX K (ga K "_law_pot") = .none := of_decide_eq_true (c.fact 0 22 rfl rfl)
  obtain ⟨⟨_, _, _, _, _, _, _, _, l__law_pot⟩, k__law_pot, c__law_pot⟩ := c.def_ 2 rfl dv__law_pot rfl
  have a__law_take : PySem.W.nsIn K mainGlobals "_law_take" = some (some (.ref (ga K "_law_take"))) := of_decide_eq_true (c.fact 0 23 rfl rfl)
  have dv__law_take : dvX K (ga K "_law_take") = .none := of_decide_eq_true (c.fact 0 24 rfl rfl)
  obtain ⟨⟨_, _, _, _, _, _, _, _, l__law_take⟩, k__law_take, c__law_take⟩ := c.def_ 3 rfl dv__law_take rfl
  have a__law_truths : PySem.W.nsIn K mainGlobals "_law_truths" = some (some (.ref (ga K "_law_truths"))) := of_decide_eq_true (c.fact 0 25 rfl rfl)
  have dv__law_truths : dvX K (ga K "_law_truths") = .none := of_decide_eq_true (c.fact 0 26 rfl rfl)
  obtain ⟨⟨_, _, _, _, _, _, _, _, l__law_truths⟩, k__law_truths, c__law_truths⟩ := c.def_ 4 rfl dv__law_truths rfl
  have a_is_whole : PySem.W.nsIn K mainGlobals "is_whole" = some (some (.ref (ga K "is_whole"))) := of_decide_eq_true (c.fact 0 27 rfl rfl)
  have dv_is_whole : dvX K (ga K "is_whole") = .none := of_decide_eq_true (c.fact 0 28 rfl rfl)
  obtain ⟨⟨_, _, _, _, _, _, _, _, l_is_whole⟩, k_is_whole, c_is_whole⟩ := c.def_ 5 rfl dv_is_whole rfl
  have a_is_from_to : PySem.W.nsIn K mainGlobals "is_from_to" = some (some (.ref (ga K "is_from_to"))) := of_decide_eq_true (c.fact 0 29 rfl rfl)
  have dv_is_from_to : dvX K (ga K "is_from_to") = .none := of_decide_eq_true (c.fact 1 0 rfl rfl)
  obtain ⟨⟨_, _, _, _, _, _, _, _, l_is_from_to⟩, k_is_from_to, c_is_from_to⟩ := c.def_ 6 rfl dv_is_from_to rfl
  have a_need_day : PySem.W.nsIn K mainGlobals "need_day" = some (some (.ref (ga K "need_day"))) := of_decide_eq_true (c.fact 1 1 rfl rfl)
  have dv_need_day : dvX K (ga K "need_day") = .none := of_decide_eq_true (c.fact 1 2 rfl rfl)
  obtain ⟨⟨_, _, _, _, _, _, _, _, l_need_day⟩, k_need_day, c_need_day⟩ := c.def_ 7 rfl dv_need_day rfl
  have a_is_name : PySem.W.nsIn K mainGlobals "is_name" = some (some (.ref (ga K "is_name"))) := of_decide_eq_true (c.fact 1 3 rfl rfl)
  have dv_is_name : dvX K (ga K "is_name") = .none := of_decide_eq_true (c.fact 1 4 rfl rfl)
  obtain ⟨⟨_, _, _, _, _, _, _, _, l_is_name⟩, k_is_name, c_is_name⟩ := c.def_ 8 rfl dv_is_name rfl
  have m1_Ledger_become : PySem.W.findIn K (.ref (ga K "Ledger")) "become" = some (some (.ref (ma K (ga K "Ledger") "become"))) := of_decide_eq_true (c.fact 1 5 rfl rfl)
  have m2_Ledger_become : PySem.W.isFn K (.ref (ma K (ga K "Ledger") "become")) = true := of_decide_eq_true (c.fact 1 6 rfl rfl)
  have dv_Ledger_become : dvX K (ma K (ga K "Ledger") "become") = .none := of_decide_eq_true (c.fact 1 7 rfl rfl)
  obtain ⟨⟨_, _, _, _, _, _, _, _, l_Ledger_become⟩, k_Ledger_become, c_Ledger_become⟩ := c.def_ 9 rfl dv_Ledger_become rfl
  have m1_Ledger_begin : PySem.W.findIn K (.ref (ga K "Ledger")) "begin" = some (some (.ref (ma K (ga K "Ledger") "begin"))) := of_decide_eq_true (c.fact 1 8 rfl rfl)
  have m2_Ledger_begin : PySem.W.isFn K (.ref (ma K (ga K "Ledger") "begin")) = true := of_decide_eq_true (c.fact 1 9 rfl rfl)
  have dv_Ledger_begin : dvX K (ma K (ga K "Ledger") "begin") = (.ref (rfV (dvX K (ma K (ga K "Ledger") "begin")))) := of_decide_eq_true (c.fact 1 10 rfl rfl)
  obtain ⟨⟨_, _, _, _, _, _, _, _, l_Ledger_begin⟩, k_Ledger_begin, c_Ledger_begin⟩ := c.def_ 10 rfl dv_Ledger_begin rfl
  obtain ⟨_, _, _, dl_Ledger_begin⟩ := seqX_ok (c.fact 1 11 rfl rfl)
  have m1_Ledger_thing_of : PySem.W.findIn K (.ref (ga K "Ledger")) "thing_of" = some (some (.ref (ma K (ga K "Ledger") "thing_of"))) := of_decide_eq_true (c.fact 1 12 rfl rfl)
  have m2_Ledger_thing_of : PySem.W.isFn K (.ref (ma K (ga K "Ledger") "thing_of")) = true := of_decide_eq_true (c.fact 1 13 rfl rfl)
  have dv_Ledger_thing_of : dvX K (ma K (ga K "Ledger") "thing_of") = .none := of_decide_eq_true (c.fact 1 14 rfl rfl)
  obtain ⟨⟨_, _, _, _, _, _, _, _, l_Ledger_thing_of⟩, k_Ledger_thing_of, c_Ledger_thing_of⟩ := c.def_ 11 rfl dv_Ledger_thing_of rfl
  have m1_Ledger_known_with : PySem.W.findIn K (.ref (ga K "Ledger")) "known_with" = some (some (.ref (ma K (ga K "Ledger") "known_with"))) := of_decide_eq_true (c.fact 1 15 rfl rfl)
  have m2_Ledger_known_with : PySem.W.isFn K (.ref (ma K (ga K "Ledger") "known_with")) = true := of_decide_eq_true (c.fact 1 16 rfl rfl)
  have dv_Ledger_known_with : dvX K (ma K (ga K "Ledger") "known_with") = .none := of_decide_eq_true (c.fact 1 17 rfl rfl)
  obtain ⟨⟨_, _, _, _, _, _, _, _, l_Ledger_known_with⟩, k_Ledger_known_with, c_Ledger_known_with⟩ := c.def_ 12 rfl dv_Ledger_known_with rfl
  have m1_Ledger_seen : PySem.W.findIn K (.ref (ga K "Ledger")) "seen" = some (some (.ref (ma K (ga K "Ledger") "seen"))) := of_decide_eq_true (c.fact 1 18 rfl rfl)
  have m2_Ledger_seen : PySem.W.isFn K (.ref (ma K (ga K "Ledger") "seen")) = true := of_decide_eq_true (c.fact 1 19 rfl rfl)
  have dv_Ledger_seen : dvX K (ma K (ga K "Ledger") "seen") = .none := of_decide_eq_true (c.fact 1 20 rfl rfl)
  obtain ⟨⟨_, _, _, _, _, _, _, _, l_Ledger_seen⟩, k_Ledger_seen, c_Ledger_seen⟩ := c.def_ 13 rfl dv_Ledger_seen rfl
  have a_need_end : PySem.W.nsIn K mainGlobals "need_end" = some (some (.ref (ga K "need_end"))) := of_decide_eq_true (c.fact 1 21 rfl rfl)
  have dv_need_end : dvX K (ga K "need_end") = .none := of_decide_eq_true (c.fact 1 22 rfl rfl)
  obtain ⟨⟨_, _, _, _, _, _, _, _, l_need_end⟩, k_need_end, c_need_end⟩ := c.def_ 14 rfl dv_need_end rfl
  have m1_Ledger_ended : PySem.W.findIn K (.ref (ga K "Ledger")) "ended" = some (some (.ref (ma K (ga K "Ledger") "ended"))) := of_decide_eq_true (c.fact 1 23 rfl rfl)
  have m2_Ledger_ended : PySem.W.isFn K (.ref (ma K (ga K "Ledger") "ended")) = true := of_decide_eq_true (c.fact 1 24 rfl rfl)
  have dv_Ledger_ended : dvX K (ma K (ga K "Ledger") "ended") = .none := of_decide_eq_true (c.fact 1 25 rfl rfl)
  obtain ⟨⟨_, _, _, _, _, _, _, _, l_Ledger_ended⟩, k_Ledger_ended, c_Ledger_ended⟩ := c.def_ 15 rfl dv_Ledger_ended rfl
  have m1_Ledger_mend : PySem.W.findIn K (.ref (ga K "Ledger")) "mend" = some (some (.ref (ma K (ga K "Ledger") "mend"))) := of_decide_eq_true (c.fact 1 26 rfl rfl)
  have m2_Ledger_mend : PySem.W.isFn K (.ref (ma K (ga K "Ledger") "mend")) = true := of_decide_eq_true (c.fact 1 27 rfl rfl)
  have dv_Ledger_mend : dvX K (ma K (ga K "Ledger") "mend") = .none := of_decide_eq_true (c.fact 1 28 rfl rfl)
  obtain ⟨⟨_, _, _, _, _, _, _, _, l_Ledger_mend⟩, k_Ledger_mend, c_Ledger_mend⟩ := c.def_ 16 rfl dv_Ledger_mend rfl
  have m1_Ledger_drop : PySem.W.findIn K (.ref (ga K "Ledger")) "drop" = some (some (.ref (ma K (ga K "Ledger") "drop"))) := of_decide_eq_true (c.fact 1 29 rfl rfl)
  have m2_Ledger_drop : PySem.W.isFn K (.ref (ma K (ga K "Ledger") "drop")) = true := of_decide_eq_true (c.fact 2 0 rfl rfl)
  have dv_Ledger_drop : dvX K (ma K (ga K "Ledger") "drop") = .none := of_decide_eq_true (c.fact 2 1 rfl rfl)
  obtain ⟨⟨_, _, _, _, _, _, _, _, l_Ledger_drop⟩, k_Ledger_drop, c_Ledger_drop⟩ := c.def_ 17 rfl dv_Ledger_drop rfl
  have m1_Ledger_undo : PySem.W.findIn K (.ref (ga K "Ledger")) "undo" = some (some (.ref (ma K (ga K "Ledger") "undo"))) := of_decide_eq_true (c.fact 2 2 rfl rfl)
  have m2_Ledger_undo : PySem.W.isFn K (.ref (ma K (ga K "Ledger") "undo")) = true := of_decide_eq_true (c.fact 2 3 rfl rfl)
  have dv_Ledger_undo : dvX K (ma K (ga K "Ledger") "undo") = .none := of_decide_eq_true (c.fact 2 4 rfl rfl)
  obtain ⟨⟨_, _, _, _, _, _, _, _, l_Ledger_undo⟩, k_Ledger_undo, c_Ledger_undo⟩ := c.def_ 18 rfl dv_Ledger_undo rfl
  have a__law_tell : PySem.W.nsIn K mainGlobals "_law_tell" = some (some (.ref (ga K "_law_tell"))) := of_decide_eq_true (c.fact 2 5 rfl rfl)
  have dv__law_tell : dvX K (ga K "_law_tell") = .none := of_decide_eq_true (c.fact 2 6 rfl rfl)
  obtain ⟨⟨_, _, _, _, _, _, _, _, l__law_tell⟩, k__law_tell, c__law_tell⟩ := c.def_ 19 rfl dv__law_tell rfl
  have a__law_ledger_of : PySem.W.nsIn K mainGlobals "_law_ledger_of" = some (some (.ref (ga K "_law_ledger_of"))) := of_decide_eq_true (c.fact 2 7 rfl rfl)
  have dv__law_ledger_of : dvX K (ga K "_law_ledger_of") = .none := of_decide_eq_true (c.fact 2 8 rfl rfl)
  obtain ⟨⟨_, _, _, _, _, _, _, _, l__law_ledger_of⟩, k__law_ledger_of, c__law_ledger_of⟩ := c.def_ 20 rfl dv__law_ledger_of rfl
  have a__law_woven : PySem.W.nsIn K mainGlobals "_law_woven" = some (some (.ref (ga K "_law_woven"))) := of_decide_eq_true (c.fact 2 9 rfl rfl)
  have dv__law_woven : dvX K (ga K "_law_woven") = .none := of_decide_eq_true (c.fact 2 10 rfl rfl)
  obtain ⟨⟨_, _, _, _, _, _, _, _, l__law_woven⟩, k__law_woven, c__law_woven⟩ := c.def_ 21 rfl dv__law_woven rfl
  have a__law_cell_at : PySem.W.nsIn K mainGlobals "_law_cell_at" = some (some (.ref (ga K "_law_cell_at"))) := of_decide_eq_true (c.fact 2 11 rfl rfl)
  have dv__law_cell_at : dvX K (ga K "_law_cell_at") = .none := of_decide_eq_true (c.fact 2 12 rfl rfl)
  obtain ⟨⟨_, _, _, _, _, _, _, _, l__law_cell_at⟩, k__law_cell_at, c__law_cell_at⟩ := c.def_ 22 rfl dv__law_cell_at rfl
  have a__law_rightly : PySem.W.nsIn K mainGlobals "_law_rightly" = some (some (.ref (ga K "_law_rightly"))) := of_decide_eq_true (c.fact 2 13 rfl rfl)
  have dv__law_rightly : dvX K (ga K "_law_rightly") = .none := of_decide_eq_true (c.fact 2 14 rfl rfl)
  obtain ⟨⟨_, _, _, _, _, _, _, _, l__law_rightly⟩, k__law_rightly, c__law_rightly⟩ := c.def_ 23 rfl dv__law_rightly rfl
  have a__law_by_turns : PySem.W.nsIn K mainGlobals "_law_by_turns" = some (some (.ref (ga K "_law_by_turns"))) := of_decide_eq_true (c.fact 2 15 rfl rfl)
  have dv__law_by_turns : dvX K (ga K "_law_by_turns") = .none := of_decide_eq_true (c.fact 2 16 rfl rfl)
  obtain ⟨⟨_, _, _, _, _, _, _, _, l__law_by_turns⟩, k__law_by_turns, c__law_by_turns⟩ := c.def_ 24 rfl dv__law_by_turns rfl
  have a_book_by : PySem.W.nsIn K mainGlobals "book_by" = some (some (.ref (ga K "book_by"))) := of_decide_eq_true (c.fact 2 17 rfl rfl)
  have dv_book_by : dvX K (ga K "book_by") = .none := of_decide_eq_true (c.fact 2 18 rfl rfl)
  obtain ⟨⟨_, _, _, _, _, _, _, _, l_book_by⟩, k_book_by, c_book_by⟩ := c.def_ 25 rfl dv_book_by rfl
  have m1_Ledger_book : PySem.W.findIn K (.ref (ga K "Ledger")) "book" = some (some (.ref (ma K (ga K "Ledger") "book"))) := of_decide_eq_true (c.fact 2 19 rfl rfl)
  have m2_Ledger_book : PySem.W.isFn K (.ref (ma K (ga K "Ledger") "book")) = true := of_decide_eq_true (c.fact 2 20 rfl rfl)
  have dv_Ledger_book : dvX K (ma K (ga K "Ledger") "book") = (.ref (rfV (dvX K (ma K (ga K "Ledger") "book")))) := of_decide_eq_true (c.fact 2 21 rfl rfl)
  obtain ⟨⟨_, _, _, _, _, _, _, _, l_Ledger_book⟩, k_Ledger_book, c_Ledger_book⟩ := c.def_ 26 rfl dv_Ledger_book rfl
  obtain ⟨_, _, _, dl_Ledger_book⟩ := seqX_ok (c.fact 2 22 rfl rfl)
  have m1_Ledger_eq : PySem.W.findIn K (.ref (ga K "Ledger")) "__eq__" = some (some (.ref (ma K (ga K "Ledger") "__eq__"))) := of_decide_eq_true (c.fact 2 23 rfl rfl)
  have m2_Ledger_eq : PySem.W.isFn K (.ref (ma K (ga K "Ledger") "__eq__")) = true := of_decide_eq_true (c.fact 2 24 rfl rfl)
  have dv_Ledger_eq : dvX K (ma K (ga K "Ledger") "__eq__") = .none := of_decide_eq_true (c.fact 2 25 rfl rfl)
  obtain ⟨⟨_, _, _, _, _, _, _, _, l_Ledger_eq⟩, k_Ledger_eq, c_Ledger_eq⟩ := c.def_ 27 rfl dv_Ledger_eq rfl
  have m1_Ledger_names : PySem.W.findIn K (.ref (ga K "Ledger")) "names" = some (some (.ref (ma K (ga K "Ledger") "names"))) := of_decide_eq_true (c.fact 2 26 rfl rfl)
  have m2_Ledger_names : PySem.W.isFn K (.ref (ma K (ga K "Ledger") "names")) = true := of_decide_eq_true (c.fact 2 27 rfl rfl)
  have dv_Ledger_names : dvX K (ma K (ga K "Ledger") "names") = .none := of_decide_eq_true (c.fact 2 28 rfl rfl)
  obtain ⟨⟨_, _, _, _, _, _, _, _, l_Ledger_names⟩, k_Ledger_names, c_Ledger_names⟩ := c.def_ 28 rfl dv_Ledger_names rfl
  have m1_Ledger_len : PySem.W.findIn K (.ref (ga K "Ledger")) "__len__" = some (some (.ref (ma K (ga K "Ledger") "__len__"))) := of_decide_eq_true (c.fact 2 29 rfl rfl)
  have m2_Ledger_len : PySem.W.isFn K (.ref (ma K (ga K "Ledger") "__len__")) = true := of_decide_eq_true (c.fact 3 0 rfl rfl)
  have dv_Ledger_len : dvX K (ma K (ga K "Ledger") "__len__") = .none := of_decide_eq_true (c.fact 3 1 rfl rfl)
  obtain ⟨⟨_, _, _, _, _, _, _, _, l_Ledger_len⟩, k_Ledger_len, c_Ledger_len⟩ := c.def_ 29 rfl dv_Ledger_len rfl
  have a_law : PySem.W.nsIn K mainGlobals "law" = some (some (.ref (ga K "law"))) := of_decide_eq_true (c.fact 3 2 rfl rfl)
  have dv_law : dvX K (ga K "law") = .none := of_decide_eq_true (c.fact 3 3 rfl rfl)
  obtain ⟨⟨_, _, _, _, _, _, _, _, l_law⟩, k_law, c_law⟩ := c.def_ 30 rfl dv_law rfl
  have z_all : PySem.W.nsIn K mainGlobals "all" = some none := of_decide_eq_true (c.fact 3 4 rfl rfl)
  have z_bool : PySem.W.nsIn K mainGlobals "bool" = some none := of_decide_eq_true (c.fact 3 5 rfl rfl)
  have z_dict : PySem.W.nsIn K mainGlobals "dict" = some none := of_decide_eq_true (c.fact 3 6 rfl rfl)
  have z_int : PySem.W.nsIn K mainGlobals "int" = some none := of_decide_eq_true (c.fact 3 7 rfl rfl)
  have z_isinstance : PySem.W.nsIn K mainGlobals "isinstance" = some none := of_decide_eq_true (c.fact 3 8 rfl rfl)
  have z_len : PySem.W.nsIn K mainGlobals "len" = some none := of_decide_eq_true (c.fact 3 9 rfl rfl)
  have z_list : PySem.W.nsIn K mainGlobals "list" = some none := of_decide_eq_true (c.fact 3 10 rfl rfl)
  have z_max : PySem.W.nsIn K mainGlobals "max" = some none := of_decide_eq_true (c.fact 3 11 rfl rfl)
  have z_min : PySem.W.nsIn K mainGlobals "min" = some none := of_decide_eq_true (c.fact 3 12 rfl rfl)
  have z_range : PySem.W.nsIn K mainGlobals "range" = some none := of_decide_eq_true (c.fact 3 13 rfl rfl)
  have z_sorted : PySem.W.nsIn K mainGlobals "sorted" = some none := of_decide_eq_true (c.fact 3 14 rfl rfl)
  have z_str : PySem.W.nsIn K mainGlobals "str" = some none := of_decide_eq_true (c.fact 3 15 rfl rfl)
  have z_tuple : PySem.W.nsIn K mainGlobals "tuple" = some none := of_decide_eq_true (c.fact 3 16 rfl rfl)
  have n_KINDS : PySem.W.nsIn K mainGlobals "KINDS" = some (some (.ref (ga K "KINDS"))) := of_decide_eq_true (c.fact 3 17 rfl rfl)
  obtain ⟨_, _, _, m_KINDS⟩ := seqX_ok (c.fact 3 18 rfl rfl)
  have n_LETTERS : PySem.W.nsIn K mainGlobals "LETTERS" = some (some (.str "abcdefghijklmnopqrstuvwxyz" (tkV (nsX K "LETTERS")))) := nsB_ok (c.fact 3 19 rfl rfl)
  have n_MOST_AGE : PySem.W.nsIn K mainGlobals "MOST_AGE" = some (some (.int 999 (tkV (nsX K "MOST_AGE")))) := nsB_ok (c.fact 3 20 rfl rfl)
  have n_MOST_DAY : PySem.W.nsIn K mainGlobals "MOST_DAY" = some (some (.int 9999 (tkV (nsX K "MOST_DAY")))) := nsB_ok (c.fact 3 21 rfl rfl)
  have n_MOST_SIGNS : PySem.W.nsIn K mainGlobals "MOST_SIGNS" = some (some (.int 6 (tkV (nsX K "MOST_SIGNS")))) := nsB_ok (c.fact 3 22 rfl rfl)
  have n_MOST_SPANS : PySem.W.nsIn K mainGlobals "MOST_SPANS" = some (some (.int 40 (tkV (nsX K "MOST_SPANS")))) := nsB_ok (c.fact 3 23 rfl rfl)
  have g_NoKind : PySem.W.nsIn K mainGlobals "NoKind" = some (some (.ref (ga K "NoKind"))) := of_decide_eq_true (c.fact 3 24 rfl rfl)
  have q_NoKind : PySem.W.keepIn K (.ref (ga K "NoKind")) = true := of_decide_eq_true (c.fact 3 25 rfl rfl)
  have x_NoKind : PySem.W.excIn K (ga K "NoKind") veM "ValueError.__new__" = true := of_decide_eq_true (c.fact 3 26 rfl rfl)
  have b_NoKind : PySem.W.subIn K (.ref (ga K "NoKind")) (.type "BaseException") = some true := of_decide_eq_true (c.fact 3 27 rfl rfl)
  have t_NoKind : PySem.W.typeIn K (.ref (ga K "NoKind")) = some (.type "type") := of_decide_eq_true (c.fact 3 28 rfl rfl)
  have g_NoNumber : PySem.W.nsIn K mainGlobals "NoNumber" = some (some (.ref (ga K "NoNumber"))) := of_decide_eq_true (c.fact 3 29 rfl rfl)
  have q_NoNumber : PySem.W.keepIn K (.ref (ga K "NoNumber")) = true := of_decide_eq_true (c.fact 4 0 rfl rfl)
  have x_NoNumber : PySem.W.excIn K (ga K "NoNumber") veM "ValueError.__new__" = true := of_decide_eq_true (c.fact 4 1 rfl rfl)
  have b_NoNumber : PySem.W.subIn K (.ref (ga K "NoNumber")) (.type "BaseException") = some true := of_decide_eq_true (c.fact 4 2 rfl rfl)
  have t_NoNumber : PySem.W.typeIn K (.ref (ga K "NoNumber")) = some (.type "type") := of_decide_eq_true (c.fact 4 3 rfl rfl)
  have g_NoName : PySem.W.nsIn K mainGlobals "NoName" = some (some (.ref (ga K "NoName"))) := of_decide_eq_true (c.fact 4 4 rfl rfl)
  have q_NoName : PySem.W.keepIn K (.ref (ga K "NoName")) = true := of_decide_eq_true (c.fact 4 5 rfl rfl)
  have x_NoName : PySem.W.excIn K (ga K "NoName") veM "ValueError.__new__" = true := of_decide_eq_true (c.fact 4 6 rfl rfl)
  have b_NoName : PySem.W.subIn K (.ref (ga K "NoName")) (.type "BaseException") = some true := of_decide_eq_true (c.fact 4 7 rfl rfl)
  have t_NoName : PySem.W.typeIn K (.ref (ga K "NoName")) = some (.type "type") := of_decide_eq_true (c.fact 4 8 rfl rfl)
  have g_NoDay : PySem.W.nsIn K mainGlobals "NoDay" = some (some (.ref (ga K "NoDay"))) := of_decide_eq_true (c.fact 4 9 rfl rfl)
  have q_NoDay : PySem.W.keepIn K (.ref (ga K "NoDay")) = true := of_decide_eq_true (c.fact 4 10 rfl rfl)
  have x_NoDay : PySem.W.excIn K (ga K "NoDay") veM "ValueError.__new__" = true := of_decide_eq_true (c.fact 4 11 rfl rfl)
  have b_NoDay : PySem.W.subIn K (.ref (ga K "NoDay")) (.type "BaseException") = some true := of_decide_eq_true (c.fact 4 12 rfl rfl)
  have t_NoDay : PySem.W.typeIn K (.ref (ga K "NoDay")) = some (.type "type") := of_decide_eq_true (c.fact 4 13 rfl rfl)
  have g_NoDeed : PySem.W.nsIn K mainGlobals "NoDeed" = some (some (.ref (ga K "NoDeed"))) := of_decide_eq_true (c.fact 4 14 rfl rfl)
  have q_NoDeed : PySem.W.keepIn K (.ref (ga K "NoDeed")) = true := of_decide_eq_true (c.fact 4 15 rfl rfl)
  have x_NoDeed : PySem.W.excIn K (ga K "NoDeed") veM "ValueError.__new__" = true := of_decide_eq_true (c.fact 4 16 rfl rfl)
  have b_NoDeed : PySem.W.subIn K (.ref (ga K "NoDeed")) (.type "BaseException") = some true := of_decide_eq_true (c.fact 4 17 rfl rfl)
  have t_NoDeed : PySem.W.typeIn K (.ref (ga K "NoDeed")) = some (.type "type") := of_decide_eq_true (c.fact 4 18 rfl rfl)
  exact DL.fin_g law_true (all_mk X G hfa g_Ledger o1_Ledger o2_Ledger o3_Ledger o4_Ledger nf_tellings nf_stood mk1_Ledger mk2_Ledger l_Linit c_Linit k_Linit mk3_Ledger mk4_Ledger tw1 l_twin c_twin k_twin tw2 eq1 eq2 eq3 is1 is2 is3 a__law_pot l__law_pot c__law_pot k__law_pot a__law_take l__law_take c__law_take k__law_take a__law_truths l__law_truths c__law_truths k__law_truths a_is_whole l_is_whole c_is_whole k_is_whole a_is_from_to l_is_from_to c_is_from_to k_is_from_to a_need_day l_need_day c_need_day k_need_day a_is_name l_is_name c_is_name k_is_name m1_Ledger_become m2_Ledger_become l_Ledger_become c_Ledger_become k_Ledger_become m1_Ledger_begin m2_Ledger_begin l_Ledger_begin dl_Ledger_begin c_Ledger_begin k_Ledger_begin m1_Ledger_thing_of m2_Ledger_thing_of l_Ledger_thing_of c_Ledger_thing_of k_Ledger_thing_of m1_Ledger_known_with m2_Ledger_known_with l_Ledger_known_with c_Ledger_known_with k_Ledger_known_with m1_Ledger_seen m2_Ledger_seen l_Ledger_seen c_Ledger_seen k_Ledger_seen a_need_end l_need_end c_need_end k_need_end m1_Ledger_ended m2_Ledger_ended l_Ledger_ended c_Ledger_ended k_Ledger_ended m1_Ledger_mend m2_Ledger_mend l_Ledger_mend c_Ledger_mend k_Ledger_mend m1_Ledger_drop m2_Ledger_drop l_Ledger_drop c_Ledger_drop k_Ledger_drop m1_Ledger_undo m2_Ledger_undo l_Ledger_undo c_Ledger_undo k_Ledger_undo a__law_tell l__law_tell c__law_tell k__law_tell a__law_ledger_of l__law_ledger_of c__law_ledger_of k__law_ledger_of a__law_woven l__law_woven c__law_woven k__law_woven a__law_cell_at l__law_cell_at c__law_cell_at k__law_cell_at a__law_rightly l__law_rightly c__law_rightly k__law_rightly a__law_by_turns l__law_by_turns c__law_by_turns k__law_by_turns a_book_by l_book_by c_book_by k_book_by m1_Ledger_book m2_Ledger_book l_Ledger_book dl_Ledger_book c_Ledger_book k_Ledger_book m1_Ledger_eq m2_Ledger_eq l_Ledger_eq c_Ledger_eq k_Ledger_eq m1_Ledger_names m2_Ledger_names l_Ledger_names c_Ledger_names k_Ledger_names m1_Ledger_len m2_Ledger_len l_Ledger_len c_Ledger_len k_Ledger_len a_law l_law c_law k_law z_all z_bool z_dict z_int z_isinstance z_len z_list z_max z_min z_range z_sorted z_str z_tuple n_KINDS m_KINDS n_LETTERS n_MOST_AGE n_MOST_DAY n_MOST_SIGNS n_MOST_SPANS g_NoKind q_NoKind x_NoKind b_NoKind t_NoKind g_NoNumber q_NoNumber x_NoNumber b_NoNumber t_NoNumber g_NoName q_NoName x_NoName b_NoName t_NoName g_NoDay q_NoDay x_NoDay b_NoDay t_NoDay g_NoDeed q_NoDeed x_NoDeed b_NoDeed t_NoDeed)
end Lw
open PySem PySem.W PySem.Calls PyProof.Rows in
theorem PySem.Challenge.cw_outlasts_k84_whole_late_truths_mend_holds : PySem.Challenge.rw_outlasts_k84_whole_late_truths_mend.Holds := by
  w_on; o_law
  refine HandSHeadRun.head_any (r := OpenLaw.row PySem.Challenge.rw_outlasts_k84_whole_late_truths_mend) (q := Lw.qS) (H := Lw.hkS) (ob := Lw.obS) (M := 12000) (loose := Lw.nmS) (d := HandSHeadRun.topDef (OpenLaw.row PySem.Challenge.rw_outlasts_k84_whole_late_truths_mend).prog 33) (kwd := []) Lw.obS_eq
    (by kernel_rfl) (fun s => by kernel_rfl) Lw.runS (by kernel_rfl) (by kernel_rfl) (by kernel_rfl) (by rfl) (by first | assumption | decide +kernel) (by decide +kernel) ⟨rfl, rfl, rfl, rfl, rfl, by decide +kernel⟩ ?hw ?hc
  case hw => w_witness2
  case hc =>
    refine DL.walk_x (l := PySem.Challenge.rw_outlasts_k84_whole_late_truths_mend) (n := 63) (k := 8) (m := 4) (x := "_law_script") (fa := Lw.faS) (fn := Lw.fnS) (tf := Lw.tfS) rfl (by decide) (by kernel_rfl) ⟨rfl, by decide, by decide⟩ (by decide +kernel) ?F
    intro w mg fa h K X G hmg0 c
    have hmg : mg ("law" : PySem.Str) = some (.ref fa) := by
      have e : (HandSHeadRun.topDef (OpenLaw.row PySem.Challenge.rw_outlasts_k84_whole_late_truths_mend).prog 33).name = ("law" : PySem.Str) := by kernel_rfl
      rw [← e]
      exact hmg0
    exact Lw.lawSX X G hmg c
